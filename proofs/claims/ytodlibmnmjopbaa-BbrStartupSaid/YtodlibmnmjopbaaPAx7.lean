-- Written by a program of this session (wip/tools/mkprint.py, mp.sh) for this claim.
import Derived.Test.YtodlibmnmjopbaaPAx0
import Derived.Test.YtodlibmnmjopbaaPAx1
import Derived.Test.YtodlibmnmjopbaaPAx3
import Derived.Test.YtodlibmnmjopbaaPAx6
namespace Go.Proofs.Ytodlibmnmjopbaa.PA
open Go.RowKit Go.Proofs.YtodlibmnmjopbaaW.PrintWords Go.Proofs.YtodlibmnmjopbaaW.PrintLast Go.Proofs.YtodlibmnmjopbaaW.PrintMore
attribute [local go_sem] max2_int min2_int max_two min_two max_three min_three max_four min_four   -- for this text's walks alone
set_option linter.unusedVariables false
set_option linter.unusedSimpArgs false

/-! ### stopcocklaw23_BbrStartup: function 6 -/
mutual
def stopcocklaw23_BbrStartup.l0 : Nat → Int → List Int → Int → Int → Int → Int → Int → List (S36) → Bool → Int → Int → Bool → Int → Int → Int → Int → Int → Int → Option (Bool)
  | 0, _, _, _, _, _, _, _, _, _, _, _, _, _, _, _, _, _, _ => none
  | k + 1, x0, x1, x2, x8, x9, x10, x176000, x176001, x176002, x176003, x176004, x176005, x176006, x176007, x176008, x176009, x176010, x176011 => if x10 < (x1.length : Int) then (stopcocklaw23_BbrStartup.j1 k x0 x1 x2 x8 x9 x10 (decide (x10 < 8)) x176000 x176001 x176002 x176003 x176004 x176005 x176006 x176007 x176008 x176009 x176010 x176011) else (stopcocklaw23_BbrStartup.j1 k x0 x1 x2 x8 x9 x10 false x176000 x176001 x176002 x176003 x176004 x176005 x176006 x176007 x176008 x176009 x176010 x176011)
def stopcocklaw23_BbrStartup.j1 : Nat → Int → List Int → Int → Int → Int → Int → Bool → Int → List (S36) → Bool → Int → Int → Bool → Int → Int → Int → Int → Int → Int → Option (Bool)
  | 0, _, _, _, _, _, _, _, _, _, _, _, _, _, _, _, _, _, _, _ => none
  | k + 1, x0, x1, x2, x8, x9, x10, x32, x176000, x176001, x176002, x176003, x176004, x176005, x176006, x176007, x176008, x176009, x176010, x176011 => if x32 = true then (if 0 ≤ x10 then (if x10 < (x1.length : Int) then ((bbr_Ack.f x176000 x176001 x176002 x176003 x176004 x176005 x176006 x176007 x176008 x176009 x176010 x176011 1000 x10 (wrap64 (x10 + 1)) (wrap64 (x0 + (wrap64 (Int.tdiv (wrap64 (x0 * (Int.tmod (wrap64 ((Int.tmod (rd x1 x10) 60) + 60)) 60))) 100)))) x2 1073741824 true true).bind fun bt177 => ((stopcocklaw23_num.f bt177.2.2.2.2.2.2.2.2.2.2.2.2).bind fun t193 => (if t193 = 0 then (if (wrap64 (4 * (wrap64 (x0 + (wrap64 (Int.tdiv (wrap64 (x0 * (Int.tmod (wrap64 ((Int.tmod (rd x1 x10) 60) + 60)) 60))) 100)))))) ≥ (wrap64 (5 * x8)) then (stopcocklaw23_BbrStartup.j2 k (wrap64 (x0 + (wrap64 (Int.tdiv (wrap64 (x0 * (Int.tmod (wrap64 ((Int.tmod (rd x1 x10) 60) + 60)) 60))) 100)))) x1 x2 (wrap64 (x0 + (wrap64 (Int.tdiv (wrap64 (x0 * (Int.tmod (wrap64 ((Int.tmod (rd x1 x10) 60) + 60)) 60))) 100)))) 0 x10 bt177.1 bt177.2.1 bt177.2.2.1 bt177.2.2.2.1 bt177.2.2.2.2.1 bt177.2.2.2.2.2.1 bt177.2.2.2.2.2.2.1 bt177.2.2.2.2.2.2.2.1 bt177.2.2.2.2.2.2.2.2.1 bt177.2.2.2.2.2.2.2.2.2.1 bt177.2.2.2.2.2.2.2.2.2.2.1 bt177.2.2.2.2.2.2.2.2.2.2.2.1) else (stopcocklaw23_BbrStartup.j2 k (wrap64 (x0 + (wrap64 (Int.tdiv (wrap64 (x0 * (Int.tmod (wrap64 ((Int.tmod (rd x1 x10) 60) + 60)) 60))) 100)))) x1 x2 x8 (wrap64 (x9 + 1)) x10 bt177.1 bt177.2.1 bt177.2.2.1 bt177.2.2.2.1 bt177.2.2.2.2.1 bt177.2.2.2.2.2.1 bt177.2.2.2.2.2.2.1 bt177.2.2.2.2.2.2.2.1 bt177.2.2.2.2.2.2.2.2.1 bt177.2.2.2.2.2.2.2.2.2.1 bt177.2.2.2.2.2.2.2.2.2.2.1 bt177.2.2.2.2.2.2.2.2.2.2.2.1)) else (some false)))) else (none)) else (none)) else (some true)
def stopcocklaw23_BbrStartup.j2 : Nat → Int → List Int → Int → Int → Int → Int → Int → List (S36) → Bool → Int → Int → Bool → Int → Int → Int → Int → Int → Int → Option (Bool)
  | 0, _, _, _, _, _, _, _, _, _, _, _, _, _, _, _, _, _, _ => none
  | k + 1, x0, x1, x2, x8, x9, x10, x176000, x176001, x176002, x176003, x176004, x176005, x176006, x176007, x176008, x176009, x176010, x176011 => if ((x176000 == 0) != (decide (x9 < 3))) = true then (some false) else (if x9 ≥ 3 then (if x176000 = 1 then (some x176005) else (some false)) else (stopcocklaw23_BbrStartup.l0 k x0 x1 x2 x8 x9 (wrap64 (x10 + 1)) x176000 x176001 x176002 x176003 x176004 x176005 x176006 x176007 x176008 x176009 x176010 x176011))
end
def stopcocklaw23_BbrStartup.f (k : Nat) (a0 : Int) (l1 : List Int) (a2 : Int) : Option (Bool) := (stopcocklaw23_alive.f k).bind fun t174 => (if t174 = true then (stopcocklaw23_BbrStartup.l0 k (wrap64 (1000 + (Int.tmod (wrap64 ((Int.tmod a0 1000) + 1000)) 1000))) l1 (wrap64 (1 + (Int.tmod (wrap64 ((Int.tmod a2 100) + 100)) 100))) 0 0 0 0 ([] : List (S36)) false 0 0 false 0 0 0 0 0 0) else (some false))
theorem stopcocklaw23_BbrStartup.mono_l : ∀ k, (∀ y0 y1 y2 y3 y4 y5 y6 y7 y8 y9 y10 y11 y12 y13 y14 y15 y16 y17, LeO (stopcocklaw23_BbrStartup.l0 k y0 y1 y2 y3 y4 y5 y6 y7 y8 y9 y10 y11 y12 y13 y14 y15 y16 y17) (stopcocklaw23_BbrStartup.l0 (k + 1) y0 y1 y2 y3 y4 y5 y6 y7 y8 y9 y10 y11 y12 y13 y14 y15 y16 y17)) ∧ (∀ y0 y1 y2 y3 y4 y5 y6 y7 y8 y9 y10 y11 y12 y13 y14 y15 y16 y17 y18, LeO (stopcocklaw23_BbrStartup.j1 k y0 y1 y2 y3 y4 y5 y6 y7 y8 y9 y10 y11 y12 y13 y14 y15 y16 y17 y18) (stopcocklaw23_BbrStartup.j1 (k + 1) y0 y1 y2 y3 y4 y5 y6 y7 y8 y9 y10 y11 y12 y13 y14 y15 y16 y17 y18)) ∧ (∀ y0 y1 y2 y3 y4 y5 y6 y7 y8 y9 y10 y11 y12 y13 y14 y15 y16 y17, LeO (stopcocklaw23_BbrStartup.j2 k y0 y1 y2 y3 y4 y5 y6 y7 y8 y9 y10 y11 y12 y13 y14 y15 y16 y17) (stopcocklaw23_BbrStartup.j2 (k + 1) y0 y1 y2 y3 y4 y5 y6 y7 y8 y9 y10 y11 y12 y13 y14 y15 y16 y17))
  | 0 => ⟨fun _ _ _ _ _ _ _ _ _ _ _ _ _ _ _ _ _ _ r h => by simp [stopcocklaw23_BbrStartup.l0] at h, fun _ _ _ _ _ _ _ _ _ _ _ _ _ _ _ _ _ _ _ r h => by simp [stopcocklaw23_BbrStartup.j1] at h, fun _ _ _ _ _ _ _ _ _ _ _ _ _ _ _ _ _ _ r h => by simp [stopcocklaw23_BbrStartup.j2] at h⟩
  | k + 1 => by
    obtain ⟨ih0, ih1, ih2⟩ := stopcocklaw23_BbrStartup.mono_l k; refine ⟨?_, ?_, ?_⟩
    · intro y0 y1 y2 y3 y4 y5 y6 y7 y8 y9 y10 y11 y12 y13 y14 y15 y16 y17
      unfold stopcocklaw23_BbrStartup.l0
      repeat' first
      | (with_reducible exact ih0 _ _ _ _ _ _ _ _ _ _ _ _ _ _ _ _ _ _)
      | (with_reducible exact ih1 _ _ _ _ _ _ _ _ _ _ _ _ _ _ _ _ _ _ _)
      | (with_reducible exact ih2 _ _ _ _ _ _ _ _ _ _ _ _ _ _ _ _ _ _)
      | (with_reducible exact stopcocklaw23_alive.mono _)
      | (with_reducible exact LeO.refl _)
      | (with_reducible exact LeO.none _)
      | (with_reducible refine LeO.ite ?_ ?_)
      | (with_reducible refine LeO.bind ?_ (fun _ => ?_))
      | exact ih0 _ _ _ _ _ _ _ _ _ _ _ _ _ _ _ _ _ _
      | exact ih1 _ _ _ _ _ _ _ _ _ _ _ _ _ _ _ _ _ _ _
      | exact ih2 _ _ _ _ _ _ _ _ _ _ _ _ _ _ _ _ _ _
      | exact stopcocklaw23_alive.mono _
      | exact LeO.none _
      | refine LeO.ite ?_ ?_
      | refine LeO.bind ?_ (fun _ => ?_)
    · intro y0 y1 y2 y3 y4 y5 y6 y7 y8 y9 y10 y11 y12 y13 y14 y15 y16 y17 y18
      unfold stopcocklaw23_BbrStartup.j1
      repeat' first
      | (with_reducible exact ih0 _ _ _ _ _ _ _ _ _ _ _ _ _ _ _ _ _ _)
      | (with_reducible exact ih1 _ _ _ _ _ _ _ _ _ _ _ _ _ _ _ _ _ _ _)
      | (with_reducible exact ih2 _ _ _ _ _ _ _ _ _ _ _ _ _ _ _ _ _ _)
      | (with_reducible exact stopcocklaw23_alive.mono _)
      | (with_reducible exact LeO.refl _)
      | (with_reducible exact LeO.none _)
      | (with_reducible refine LeO.ite ?_ ?_)
      | (with_reducible refine LeO.bind ?_ (fun _ => ?_))
      | exact ih0 _ _ _ _ _ _ _ _ _ _ _ _ _ _ _ _ _ _
      | exact ih1 _ _ _ _ _ _ _ _ _ _ _ _ _ _ _ _ _ _ _
      | exact ih2 _ _ _ _ _ _ _ _ _ _ _ _ _ _ _ _ _ _
      | exact stopcocklaw23_alive.mono _
      | exact LeO.none _
      | refine LeO.ite ?_ ?_
      | refine LeO.bind ?_ (fun _ => ?_)
    · intro y0 y1 y2 y3 y4 y5 y6 y7 y8 y9 y10 y11 y12 y13 y14 y15 y16 y17
      unfold stopcocklaw23_BbrStartup.j2
      repeat' first
      | (with_reducible exact ih0 _ _ _ _ _ _ _ _ _ _ _ _ _ _ _ _ _ _)
      | (with_reducible exact ih1 _ _ _ _ _ _ _ _ _ _ _ _ _ _ _ _ _ _ _)
      | (with_reducible exact ih2 _ _ _ _ _ _ _ _ _ _ _ _ _ _ _ _ _ _)
      | (with_reducible exact stopcocklaw23_alive.mono _)
      | (with_reducible exact LeO.refl _)
      | (with_reducible exact LeO.none _)
      | (with_reducible refine LeO.ite ?_ ?_)
      | (with_reducible refine LeO.bind ?_ (fun _ => ?_))
      | exact ih0 _ _ _ _ _ _ _ _ _ _ _ _ _ _ _ _ _ _
      | exact ih1 _ _ _ _ _ _ _ _ _ _ _ _ _ _ _ _ _ _ _
      | exact ih2 _ _ _ _ _ _ _ _ _ _ _ _ _ _ _ _ _ _
      | exact stopcocklaw23_alive.mono _
      | exact LeO.none _
      | refine LeO.ite ?_ ?_
      | refine LeO.bind ?_ (fun _ => ?_)
theorem stopcocklaw23_BbrStartup.mono : ∀ a0 a1 a2 k, LeO (stopcocklaw23_BbrStartup.f k a0 a1 a2) (stopcocklaw23_BbrStartup.f (k + 1) a0 a1 a2) := by
  intro a0 a1 a2 k; obtain ⟨ih0, ih1, ih2⟩ := stopcocklaw23_BbrStartup.mono_l k
  unfold stopcocklaw23_BbrStartup.f
  repeat' first
      | (with_reducible exact ih0 _ _ _ _ _ _ _ _ _ _ _ _ _ _ _ _ _ _)
      | (with_reducible exact ih1 _ _ _ _ _ _ _ _ _ _ _ _ _ _ _ _ _ _ _)
      | (with_reducible exact ih2 _ _ _ _ _ _ _ _ _ _ _ _ _ _ _ _ _ _)
      | (with_reducible exact stopcocklaw23_alive.mono _)
      | (with_reducible exact LeO.refl _)
      | (with_reducible exact LeO.none _)
      | (with_reducible refine LeO.ite ?_ ?_)
      | (with_reducible refine LeO.bind ?_ (fun _ => ?_))
      | exact ih0 _ _ _ _ _ _ _ _ _ _ _ _ _ _ _ _ _ _
      | exact ih1 _ _ _ _ _ _ _ _ _ _ _ _ _ _ _ _ _ _ _
      | exact ih2 _ _ _ _ _ _ _ _ _ _ _ _ _ _ _ _ _ _
      | exact stopcocklaw23_alive.mono _
      | exact LeO.none _
      | refine LeO.ite ?_ ?_
      | refine LeO.bind ?_ (fun _ => ?_)
set_option maxHeartbeats 8000000 in
set_option maxRecDepth 100000 in
theorem stopcocklaw23_BbrStartup.calls (k : Nat) (a0 : Int) (A1 : Option Addr) (c1 : Nat) (l1 : List Int) (a2 : Int) (r : Bool) (w : World) (hr1 : Kd.C (Kd.int .i64) w A1 l1.length l1) (hc1 : l1.length ≤ c1) (h : stopcocklaw23_BbrStartup.f k a0 l1 a2 = some r) (hrt : r = true) :
    Calls Try.prog 6 #[.int .i64 a0, .slice A1 l1.length c1, .int .i64 a2] w fun e w' => e = .returned (.bool r) ∧ Below w.heap.size w w' := by
  have hu40 := Try.underlying40; have hu46 := Try.underlying46; have HRT := Aside0.mk hrt; clear hrt; have HR1 := Aside0.mk hr1; have HC1 := Aside0.mk hc1; clear hr1 hc1; have HB := Aside0.mk (Below.refl w.heap.size w); have H : ((stopcocklaw23_alive.f k).bind fun t174 => (if t174 = true then (stopcocklaw23_BbrStartup.l0 k (wrap64 (1000 + (Int.tmod (wrap64 ((Int.tmod a0 1000) + 1000)) 1000))) l1 (wrap64 (1 + (Int.tmod (wrap64 ((Int.tmod a2 100) + 100)) 100))) 0 0 0 0 ([] : List (S36)) false 0 0 false 0 0 0 0 0 0) else (some false))) = some r := h; clear h; replace H := Option.bind_eq_some_iff.mp H; obtain ⟨t174, A40, H⟩ := H; replace H : (if t174 = true then (stopcocklaw23_BbrStartup.l0 k (wrap64 (1000 + (Int.tmod (wrap64 ((Int.tmod a0 1000) + 1000)) 1000))) l1 (wrap64 (1 + (Int.tmod (wrap64 ((Int.tmod a2 100) + 100)) 100))) 0 0 0 0 ([] : List (S36)) false 0 0 false 0 0 0 0 0 0) else (some false)) = some r := H; have A4 := Aside0.mk A40; clear A40
  by_cases c5 : t174 = true
  · subst c5
    have H1 : (stopcocklaw23_BbrStartup.l0 k (wrap64 (1000 + (Int.tmod (wrap64 ((Int.tmod a0 1000) + 1000)) 1000))) l1 (wrap64 (1 + (Int.tmod (wrap64 ((Int.tmod a2 100) + 100)) 100))) 0 0 0 0 ([] : List (S36)) false 0 0 false 0 0 0 0 0 0) = some r := by rw [if_pos rfl] at H; exact H
    clear H; have H := H1; clear H1; have H' := Aside0.mk H; clear H
    go_enter Try.func6, Try.ntmps6
    go_wp2_with (first | ((with_reducible refine gate_callee (f := 14) rfl ?_); refine goesL_ (some 13) rfl rfl Try.func14 (by kernel_rfl) rfl #[] rfl (by (try simp only [List.map_toArray, List.map_cons, List.map_nil]); first | done | rfl | (simp only [List.length_drop, List.length_take]; rfl)) ?_; (with_reducible refine (stopcocklaw23_alive.calls k  true _ A4.out).mono ?_); rintro e w6 ⟨rfl, hb⟩; refine ⟨_, rfl, ?_⟩; have n0_ := Aside0.mk (below_step (bel0 HB.out) hb); clear HB; have HB := n0_; clear n0_; (try clear hb); (try clear hb2); (try clear hk); (try clear hi)) | ((with_reducible refine gate_dst (N := 7) rfl ?_); refine box_event ?hg (N := 7) ?hd (cs := #[.int .i64 0, .slice none 0 0, .bool false, .int .i64 0, .int .i64 0, .bool false, .int .i64 0, .int .i64 0, .int .i64 0, .int .i64 0, .int .i64 0, .int .i64 0]) (t := 40) ?hr ?_; (case hd => rfl); (case hg => rfl); (case hr => first | (go_simp; done) | (go_simp; rfl)); intro gb175 hg w7 hbox hb; have n0_ := Aside0.mk (below_step (bel0 HB.out) hb); have n1_ := Aside0.mk (hbox); have n2_ := Aside0.mk ((by rw [hg]; exact (below_size (bel0 HB.out)) : w.heap.size ≤ gb175)); have n3_ := n2_; clear HB; have HB := n0_; have BK175 := n1_; have GW175 := n2_; have GE175 := n3_; clear n0_ n1_ n2_ n3_; clear hb hbox hg))
    go_loopg [0, 8, 9, 10] k (fun kq v0 v8 v9 v10 w' => ∃ (x0_1 : Int) (x8_1 : Int) (x9_1 : Int) (x10_1 : Int) (x176000_1 : Int) (x176001_1 : List (S36)) (x176002_1 : Bool) (x176003_1 : Int) (x176004_1 : Int) (x176005_1 : Bool) (x176006_1 : Int) (x176007_1 : Int) (x176008_1 : Int) (x176009_1 : Int) (x176010_1 : Int) (x176011_1 : Int) (u176001 : Value), v0 = .int .i64 x0_1 ∧ v8 = .int .i64 x8_1 ∧ v9 = .int .i64 x9_1 ∧ v10 = .int .i64 x10_1 ∧ Aside0 (stopcocklaw23_BbrStartup.l0 kq x0_1 l1 (wrap64 (1 + (Int.tmod (wrap64 ((Int.tmod a2 100) + 100)) 100))) x8_1 x9_1 x10_1 x176000_1 x176001_1 x176002_1 x176003_1 x176004_1 x176005_1 x176006_1 x176007_1 x176008_1 x176009_1 x176010_1 x176011_1 = some r) ∧ Aside0 (kq ≤ k) ∧ Aside0 (Kd.R k36 36 w' w.heap.size (fun _ => True) u176001 x176001_1) ∧ Aside0 (w'.heap[gb175]? = some (.cells #[.int .i64 x176000_1, u176001, .bool x176002_1, .int .i64 x176003_1, .int .i64 x176004_1, .bool x176005_1, .int .i64 x176006_1, .int .i64 x176007_1, .int .i64 x176008_1, .int .i64 x176009_1, .int .i64 x176010_1, .int .i64 x176011_1] 40 (0, 0))) ∧ Aside0 (Below w.heap.size w w'))
    case atStart => exact ⟨(wrap64 (1000 + (Int.tmod (wrap64 ((Int.tmod a0 1000) + 1000)) 1000))), (0), (0), (0), (0), (([] : List (S36))), (false), (0), (0), (false), (0), (0), (0), (0), (0), (0), (.slice none 0 0), (by first | rfl | (simp; done) | (simp [*]; done)), (by first | rfl | (simp; done) | (simp [*]; done)), (by first | rfl | (simp; done) | (simp [*]; done)), (by first | rfl | (simp; done) | (simp [*]; done)), H', ⟨Nat.le_refl _⟩, ⟨by first | exact Kd.R_nil _ _ _ _ _ | exact Kd.N_nil _ _ _ _ _ | exact Kd.V_nil _ _ _ _ _ | exact Kd.Q_nil _ _ _ _ _ | exact Kd.S_nil _ _ _ _ _⟩, ⟨by exact skp_ BK175.out⟩, ⟨by exact bel1 HB.out GE175.out⟩⟩
    case round =>
      clear H'
      try clear c1
      try clear p2
      try clear c5
      try clear c6
      try clear p6
      obtain ⟨x0_1, x8_1, x9_1, x10_1, x176000_1, x176001_1, x176002_1, x176003_1, x176004_1, x176005_1, x176006_1, x176007_1, x176008_1, x176009_1, x176010_1, x176011_1, u176001, rfl, rfl, rfl, rfl, HA, HK1, HO_176001, BK175, HB⟩ := hrel
      cases gk with
      | zero => exact absurd HA.out (by simp [stopcocklaw23_BbrStartup.l0])
      | succ k1 =>
        have H := HA.out; clear HA
        simp only [stopcocklaw23_BbrStartup.l0] at H
        have HC8 := Aside0.mk H; clear H
        go_upto_region 7 with (fail)
        go_cut [32] (fun v32 wc => ∃ (kq : Nat) (x32_7 : Bool), v32 = .bool x32_7 ∧ Aside0 (stopcocklaw23_BbrStartup.j1 kq x0_1 l1 (wrap64 (1 + (Int.tmod (wrap64 ((Int.tmod a2 100) + 100)) 100))) x8_1 x9_1 x10_1 x32_7 x176000_1 x176001_1 x176002_1 x176003_1 x176004_1 x176005_1 x176006_1 x176007_1 x176008_1 x176009_1 x176010_1 x176011_1 = some r) ∧ Aside0 (kq ≤ k1) ∧ Aside0 (Kd.R k36 36 wc w.heap.size (fun _ => True) u176001 x176001_1) ∧ Aside0 (wc.heap[gb175]? = some (.cells #[.int .i64 x176000_1, u176001, .bool x176002_1, .int .i64 x176003_1, .int .i64 x176004_1, .bool x176005_1, .int .i64 x176006_1, .int .i64 x176007_1, .int .i64 x176008_1, .int .i64 x176009_1, .int .i64 x176010_1, .int .i64 x176011_1] 40 (0, 0))) ∧ Aside0 (Below w.heap.size w wc))
        case first =>
          have H := HC8.out; clear HC8
          by_cases c9 : x10_1 < (l1.length : Int)
          · rw [if_pos c9] at H
            have c9b0 : decide (x10_1 < (l1.length : Int)) = true := decide_eq_true c9; clear c9
            (first | rw [c9b0] | (simp only [i64_w, i32_w]; rw [c9b0]) | skip)
            have H' := Aside0.mk H; clear H
            go_wp2
            go_meet
            case rel => exact ⟨_, (decide (x10_1 < 8)), (by first | rfl | (simp; done) | (simp [*]; done)), H', ⟨by have := HK1.out; first | omega | exact Nat.le_refl _⟩, ⟨by (with_reducible repeat (first | apply Kd.R_alloc | apply Kd.R_drewN | apply Kd.R_drew)); exact HO_176001.out⟩, ⟨by exact skp_ BK175.out⟩, ⟨by exact bel1 HB.out GE175.out⟩⟩
          rw [if_neg c9] at H; have c9b0 : decide (x10_1 < (l1.length : Int)) = false := decide_eq_false c9; clear c9
          (first | rw [c9b0] | (simp only [i64_w, i32_w]; rw [c9b0]) | skip)
          have H' := Aside0.mk H; clear H
          go_wp2
          go_meet
          case rel => exact ⟨_, (false), (by first | rfl | (simp; done) | (simp [*]; done)), H', ⟨by have := HK1.out; first | omega | exact Nat.le_refl _⟩, ⟨by (with_reducible repeat (first | apply Kd.R_alloc | apply Kd.R_drewN | apply Kd.R_drew)); exact HO_176001.out⟩, ⟨by exact skp_ BK175.out⟩, ⟨by exact bel1 HB.out GE175.out⟩⟩
        case rest =>
          clear HC8
          try clear c1
          try clear p2
          try clear c5
          try clear c6
          try clear p6
          try clear c9
          try clear c9b0
          try clear p2
          try clear p6
          obtain ⟨kq, x32_7, rfl, HA, HJ7, HO_176001, BK175, HB⟩ := hcut
          cases kq with
          | zero => exact absurd HA.out (by simp [stopcocklaw23_BbrStartup.j1])
          | succ kj7 =>
            have H := HA.out; clear HA
            simp only [stopcocklaw23_BbrStartup.j1] at H
            by_cases c10 : x32_7 = true
            · subst c10
              have H1 : (if 0 ≤ x10_1 then (if x10_1 < (l1.length : Int) then ((bbr_Ack.f x176000_1 x176001_1 x176002_1 x176003_1 x176004_1 x176005_1 x176006_1 x176007_1 x176008_1 x176009_1 x176010_1 x176011_1 1000 x10_1 (wrap64 (x10_1 + 1)) (wrap64 (x0_1 + (wrap64 (Int.tdiv (wrap64 (x0_1 * (Int.tmod (wrap64 ((Int.tmod (rd l1 x10_1) 60) + 60)) 60))) 100)))) (wrap64 (1 + (Int.tmod (wrap64 ((Int.tmod a2 100) + 100)) 100))) 1073741824 true true).bind fun bt177 => ((stopcocklaw23_num.f bt177.2.2.2.2.2.2.2.2.2.2.2.2).bind fun t193 => (if t193 = 0 then (if (wrap64 (4 * (wrap64 (x0_1 + (wrap64 (Int.tdiv (wrap64 (x0_1 * (Int.tmod (wrap64 ((Int.tmod (rd l1 x10_1) 60) + 60)) 60))) 100)))))) ≥ (wrap64 (5 * x8_1)) then (stopcocklaw23_BbrStartup.j2 kj7 (wrap64 (x0_1 + (wrap64 (Int.tdiv (wrap64 (x0_1 * (Int.tmod (wrap64 ((Int.tmod (rd l1 x10_1) 60) + 60)) 60))) 100)))) l1 (wrap64 (1 + (Int.tmod (wrap64 ((Int.tmod a2 100) + 100)) 100))) (wrap64 (x0_1 + (wrap64 (Int.tdiv (wrap64 (x0_1 * (Int.tmod (wrap64 ((Int.tmod (rd l1 x10_1) 60) + 60)) 60))) 100)))) 0 x10_1 bt177.1 bt177.2.1 bt177.2.2.1 bt177.2.2.2.1 bt177.2.2.2.2.1 bt177.2.2.2.2.2.1 bt177.2.2.2.2.2.2.1 bt177.2.2.2.2.2.2.2.1 bt177.2.2.2.2.2.2.2.2.1 bt177.2.2.2.2.2.2.2.2.2.1 bt177.2.2.2.2.2.2.2.2.2.2.1 bt177.2.2.2.2.2.2.2.2.2.2.2.1) else (stopcocklaw23_BbrStartup.j2 kj7 (wrap64 (x0_1 + (wrap64 (Int.tdiv (wrap64 (x0_1 * (Int.tmod (wrap64 ((Int.tmod (rd l1 x10_1) 60) + 60)) 60))) 100)))) l1 (wrap64 (1 + (Int.tmod (wrap64 ((Int.tmod a2 100) + 100)) 100))) x8_1 (wrap64 (x9_1 + 1)) x10_1 bt177.1 bt177.2.1 bt177.2.2.1 bt177.2.2.2.1 bt177.2.2.2.2.1 bt177.2.2.2.2.2.1 bt177.2.2.2.2.2.2.1 bt177.2.2.2.2.2.2.2.1 bt177.2.2.2.2.2.2.2.2.1 bt177.2.2.2.2.2.2.2.2.2.1 bt177.2.2.2.2.2.2.2.2.2.2.1 bt177.2.2.2.2.2.2.2.2.2.2.2.1)) else (some false)))) else (none)) else (none)) = some r := by rw [if_pos rfl] at H; exact H
              clear H; have H := H1; clear H1
              by_cases c11 : 0 ≤ x10_1
              · rw [if_pos c11] at H
                have c11b0 : decide (0 ≤ x10_1) = true := decide_eq_true c11; clear c11
                by_cases c12 : x10_1 < (l1.length : Int)
                · rw [if_pos c12] at H
                  have c12b0 : decide (x10_1 < (l1.length : Int)) = true := decide_eq_true c12; clear c12; replace H := Option.bind_eq_some_iff.mp H; obtain ⟨⟨t177, t178, t181, t182, t183, t184, t185, t186, t187, t188, t189, t190, t191⟩, A130, H⟩ := H; replace H : ((stopcocklaw23_num.f t191).bind fun t193 => (if t193 = 0 then (if (wrap64 (4 * (wrap64 (x0_1 + (wrap64 (Int.tdiv (wrap64 (x0_1 * (Int.tmod (wrap64 ((Int.tmod (rd l1 x10_1) 60) + 60)) 60))) 100)))))) ≥ (wrap64 (5 * x8_1)) then (stopcocklaw23_BbrStartup.j2 kj7 (wrap64 (x0_1 + (wrap64 (Int.tdiv (wrap64 (x0_1 * (Int.tmod (wrap64 ((Int.tmod (rd l1 x10_1) 60) + 60)) 60))) 100)))) l1 (wrap64 (1 + (Int.tmod (wrap64 ((Int.tmod a2 100) + 100)) 100))) (wrap64 (x0_1 + (wrap64 (Int.tdiv (wrap64 (x0_1 * (Int.tmod (wrap64 ((Int.tmod (rd l1 x10_1) 60) + 60)) 60))) 100)))) 0 x10_1 t177 t178 t181 t182 t183 t184 t185 t186 t187 t188 t189 t190) else (stopcocklaw23_BbrStartup.j2 kj7 (wrap64 (x0_1 + (wrap64 (Int.tdiv (wrap64 (x0_1 * (Int.tmod (wrap64 ((Int.tmod (rd l1 x10_1) 60) + 60)) 60))) 100)))) l1 (wrap64 (1 + (Int.tmod (wrap64 ((Int.tmod a2 100) + 100)) 100))) x8_1 (wrap64 (x9_1 + 1)) x10_1 t177 t178 t181 t182 t183 t184 t185 t186 t187 t188 t189 t190)) else (some false))) = some r := H; have A13 := Aside0.mk A130; clear A130; replace H := Option.bind_eq_some_iff.mp H; obtain ⟨t193, A140, H⟩ := H; replace H : (if t193 = 0 then (if (wrap64 (4 * (wrap64 (x0_1 + (wrap64 (Int.tdiv (wrap64 (x0_1 * (Int.tmod (wrap64 ((Int.tmod (rd l1 x10_1) 60) + 60)) 60))) 100)))))) ≥ (wrap64 (5 * x8_1)) then (stopcocklaw23_BbrStartup.j2 kj7 (wrap64 (x0_1 + (wrap64 (Int.tdiv (wrap64 (x0_1 * (Int.tmod (wrap64 ((Int.tmod (rd l1 x10_1) 60) + 60)) 60))) 100)))) l1 (wrap64 (1 + (Int.tmod (wrap64 ((Int.tmod a2 100) + 100)) 100))) (wrap64 (x0_1 + (wrap64 (Int.tdiv (wrap64 (x0_1 * (Int.tmod (wrap64 ((Int.tmod (rd l1 x10_1) 60) + 60)) 60))) 100)))) 0 x10_1 t177 t178 t181 t182 t183 t184 t185 t186 t187 t188 t189 t190) else (stopcocklaw23_BbrStartup.j2 kj7 (wrap64 (x0_1 + (wrap64 (Int.tdiv (wrap64 (x0_1 * (Int.tmod (wrap64 ((Int.tmod (rd l1 x10_1) 60) + 60)) 60))) 100)))) l1 (wrap64 (1 + (Int.tmod (wrap64 ((Int.tmod a2 100) + 100)) 100))) x8_1 (wrap64 (x9_1 + 1)) x10_1 t177 t178 t181 t182 t183 t184 t185 t186 t187 t188 t189 t190)) else (some false)) = some r := H
                  have A14 := Aside0.mk A140; clear A140
                  by_cases c15 : t193 = 0
                  · rw [if_pos c15] at H
                    have c15b0 : (t193 == 0) = true := beq_iff_eq.mpr c15; have c15b1 : (t193 != 0) = false := bne_eq_false_iff_eq.mpr c15; clear c15; have HC16 := Aside0.mk H; clear H; have p176 : 0 ≤ (x10_1 : Int) := of_decide_eq_true (by first | (with_reducible assumption) | assumption); have q176 : x10_1 < (l1.length : Int) := of_decide_eq_true (by first | (with_reducible assumption) | assumption); obtain ⟨ad176, e176, hx176_0⟩ := Kd.at_int HR1.out x10_1 p176 q176
                    cases e176
                    replace hx176_0 := (HB.out.cell (World.block_lt_of_cell? w _ hx176_0)).trans hx176_0; replace p176 := eq_true p176; replace q176 := eq_true q176; have hcz17_0 : wc.cell? ⟨gb175, 0, none⟩ = some (.int .i64 x176000_1) := (blk_cell BK175.out 0).trans rfl; have hcz17_1 : wc.cell? ⟨gb175, 1, none⟩ = some (u176001) := (blk_cell BK175.out 1).trans rfl; have hcz17_2 : wc.cell? ⟨gb175, 2, none⟩ = some (.bool x176002_1) := (blk_cell BK175.out 2).trans rfl; have hcz17_3 : wc.cell? ⟨gb175, 3, none⟩ = some (.int .i64 x176003_1) := (blk_cell BK175.out 3).trans rfl; have hcz17_4 : wc.cell? ⟨gb175, 4, none⟩ = some (.int .i64 x176004_1) := (blk_cell BK175.out 4).trans rfl; have hcz17_5 : wc.cell? ⟨gb175, 5, none⟩ = some (.bool x176005_1) := (blk_cell BK175.out 5).trans rfl; have hcz17_6 : wc.cell? ⟨gb175, 6, none⟩ = some (.int .i64 x176006_1) := (blk_cell BK175.out 6).trans rfl; have hcz17_7 : wc.cell? ⟨gb175, 7, none⟩ = some (.int .i64 x176007_1) := (blk_cell BK175.out 7).trans rfl; have hcz17_8 : wc.cell? ⟨gb175, 8, none⟩ = some (.int .i64 x176008_1) := (blk_cell BK175.out 8).trans rfl; have hcz17_9 : wc.cell? ⟨gb175, 9, none⟩ = some (.int .i64 x176009_1) := (blk_cell BK175.out 9).trans rfl; have hcz17_10 : wc.cell? ⟨gb175, 10, none⟩ = some (.int .i64 x176010_1) := (blk_cell BK175.out 10).trans rfl; have hcz17_11 : wc.cell? ⟨gb175, 11, none⟩ = some (.int .i64 x176011_1) := (blk_cell BK175.out 11).trans rfl; have hfz17_0 := blk_frozen BK175.out; obtain ⟨Ao18, co18, eo18⟩ := Kd.R_slice HO_176001.out
                    subst eo18
                    go_upto_if 66 with (first | ((with_reducible refine gate_callee (f := 15) rfl ?_); refine goesL_ (some 55) rfl rfl Try.func15 (by kernel_rfl) rfl #[.agg #[.int .i64 x176000_1, .slice Ao18 x176001_1.length co18, .bool x176002_1, .int .i64 x176003_1, .int .i64 x176004_1, .bool x176005_1, .int .i64 x176006_1, .int .i64 x176007_1, .int .i64 x176008_1, .int .i64 x176009_1, .int .i64 x176010_1, .int .i64 x176011_1], .int .i64 1000, .agg #[.int .i64 x10_1, .int .i64 (wrap64 (x10_1 + 1)), .int .i64 (wrap64 (x0_1 + (wrap64 (Int.tdiv (wrap64 (x0_1 * (Int.tmod (wrap64 ((Int.tmod (rd l1 x10_1) 60) + 60)) 60))) 100)))), .int .i64 (wrap64 (1 + (Int.tmod (wrap64 ((Int.tmod a2 100) + 100)) 100))), .int .i64 1073741824, .bool true, .bool true]] rfl (by (try simp only [List.map_toArray, List.map_cons, List.map_nil]); first | done | rfl | (simp only [List.length_drop, List.length_take]; rfl)) ?_; (with_reducible refine (bbr_Ack.calls x176000_1 _ _ x176001_1 x176002_1 x176003_1 x176004_1 x176005_1 x176006_1 x176007_1 x176008_1 x176009_1 x176010_1 x176011_1 1000 x10_1 (wrap64 (x10_1 + 1)) (wrap64 (x0_1 + (wrap64 (Int.tdiv (wrap64 (x0_1 * (Int.tmod (wrap64 ((Int.tmod (rd l1 x10_1) 60) + 60)) 60))) 100)))) (wrap64 (1 + (Int.tmod (wrap64 ((Int.tmod a2 100) + 100)) 100))) 1073741824 true true t177 t178 t181 t182 t183 t184 t185 t186 t187 t188 t189 t190 t191 _ ?side1 ?side2 A13.out).mono ?_); (case side1 => repeat (first | exact (Kd.R_reads' HO_176001.out).2.2 | (with_reducible refine Kd.C_alloc ?_ _) | (with_reducible refine Kd.C_drewN ?_ _) | (with_reducible refine Kd.C_drew ?_))); (case side2 => exact (Kd.R_reads' HO_176001.out).2.1); rintro e w19 ⟨v179, rfl, ho0, hb⟩; refine ⟨_, rfl, ?_⟩; have n0_ := Aside0.mk (Kd.R_elder' (by (with_reducible repeat (first | apply Kd.R_alloc | apply Kd.R_drewN | apply Kd.R_drew)); exact HO_176001.out) (Kd.R_base ho0) hb); have n1_ := Aside0.mk (Kd.R_lower (Kd.R_new' ho0 (Kd.R_lt (by (with_reducible repeat (first | apply Kd.R_alloc | apply Kd.R_drewN | apply Kd.R_drew)); exact HO_176001.out))) (below_size (bel1 HB.out GE175.out))); have n2_ := Aside0.mk (blk_below (g := gb175) (o := .cells #[.int .i64 x176000_1, .slice Ao18 x176001_1.length co18, .bool x176002_1, .int .i64 x176003_1, .int .i64 x176004_1, .bool x176005_1, .int .i64 x176006_1, .int .i64 x176007_1, .int .i64 x176008_1, .int .i64 x176009_1, .int .i64 x176010_1, .int .i64 x176011_1] 40 (0, 0)) (skp_ BK175.out) hb); have n3_ := Aside0.mk (below_step (bel1 HB.out GE175.out) hb); clear HO_176001; clear BK175; clear HB; have HO_176001 := n0_; have HO180 := n1_; have BK175 := n2_; have HB := n3_; clear n0_ n1_ n2_ n3_; (try clear hb); (try clear hb2); (try clear hk); (try clear hi); (try clear ho0)) | ((with_reducible refine gate_dst (N := 11) rfl ?_); refine box_event ?hg (N := 11) ?hd (cs := #[.int .i64 0, .slice none 0 0, .bool false, .int .i64 0, .int .i64 0, .bool false, .int .i64 0, .int .i64 0, .int .i64 0, .int .i64 0, .int .i64 0, .int .i64 0]) (t := 40) ?hr ?_; (case hd => rfl); (case hg => rfl); (case hr => first | (go_simp; done) | (go_simp; rfl)); intro gb192 hg w20 hbox hb; have n0_ := Aside0.mk (Kd.R_below (by (with_reducible repeat (first | apply Kd.R_alloc | apply Kd.R_drewN | apply Kd.R_drew)); exact HO_176001.out) hb); have n1_ := Aside0.mk (Kd.R_below (by (with_reducible repeat (first | apply Kd.R_alloc | apply Kd.R_drewN | apply Kd.R_drew)); exact HO180.out) hb); have n2_ := Aside0.mk (blk_below (g := gb175) (o := .cells #[.int .i64 x176000_1, .slice Ao18 x176001_1.length co18, .bool x176002_1, .int .i64 x176003_1, .int .i64 x176004_1, .bool x176005_1, .int .i64 x176006_1, .int .i64 x176007_1, .int .i64 x176008_1, .int .i64 x176009_1, .int .i64 x176010_1, .int .i64 x176011_1] 40 (0, 0)) (skp_ BK175.out) hb); have n3_ := Aside0.mk (below_step (bel1 HB.out GE175.out) hb); have n4_ := Aside0.mk (hbox); have n5_ := Aside0.mk ((by rw [hg]; exact (below_size (bel1 HB.out GE175.out)) : w.heap.size ≤ gb192)); have n6_ := n5_; have n7_ := Aside0.mk ((by rw [hg]; exact Nat.ne_of_lt (blk_lt (skp_ BK175.out)) : gb175 ≠ gb192)); have n8_ := Aside0.mk ((by rw [hg]; exact Nat.ne_of_gt (blk_lt (skp_ BK175.out)) : gb192 ≠ gb175)); clear HO_176001; clear HO180; clear BK175; clear HB; have HO_176001 := n0_; have HO180 := n1_; have BK175 := n2_; have HB := n3_; have BK192 := n4_; have GW192 := n5_; have GE192 := n6_; have NB175_192 := n7_; have NB192_175 := n8_; clear n0_ n1_ n2_ n3_ n4_ n5_ n6_ n7_ n8_; clear hb hbox hg; have hnb21 := NB192_175.out; have hnc21 := NB175_192.out; have hcz22_0 : w20.cell? ⟨gb192, 0, none⟩ = some (.int .i64 0) := (blk_cell BK192.out 0).trans rfl; have hcz22_1 : w20.cell? ⟨gb192, 1, none⟩ = some (.slice none 0 0) := (blk_cell BK192.out 1).trans rfl; have hcz22_2 : w20.cell? ⟨gb192, 2, none⟩ = some (.bool false) := (blk_cell BK192.out 2).trans rfl; have hcz22_3 : w20.cell? ⟨gb192, 3, none⟩ = some (.int .i64 0) := (blk_cell BK192.out 3).trans rfl; have hcz22_4 : w20.cell? ⟨gb192, 4, none⟩ = some (.int .i64 0) := (blk_cell BK192.out 4).trans rfl; have hcz22_5 : w20.cell? ⟨gb192, 5, none⟩ = some (.bool false) := (blk_cell BK192.out 5).trans rfl; have hcz22_6 : w20.cell? ⟨gb192, 6, none⟩ = some (.int .i64 0) := (blk_cell BK192.out 6).trans rfl; have hcz22_7 : w20.cell? ⟨gb192, 7, none⟩ = some (.int .i64 0) := (blk_cell BK192.out 7).trans rfl; have hcz22_8 : w20.cell? ⟨gb192, 8, none⟩ = some (.int .i64 0) := (blk_cell BK192.out 8).trans rfl; have hcz22_9 : w20.cell? ⟨gb192, 9, none⟩ = some (.int .i64 0) := (blk_cell BK192.out 9).trans rfl; have hcz22_10 : w20.cell? ⟨gb192, 10, none⟩ = some (.int .i64 0) := (blk_cell BK192.out 10).trans rfl; have hcz22_11 : w20.cell? ⟨gb192, 11, none⟩ = some (.int .i64 0) := (blk_cell BK192.out 11).trans rfl; have hfz22_0 := blk_frozen BK192.out; obtain ⟨Ao23, co23, eo23⟩ := Kd.R_slice HO180.out; subst eo23) | ((with_reducible refine gate_callee (f := 13) rfl ?_); refine goesL_ (some 59) rfl rfl Try.func13 (by kernel_rfl) rfl #[.int .i64 t191] rfl (by (try simp only [List.map_toArray, List.map_cons, List.map_nil]); first | done | rfl | (simp only [List.length_drop, List.length_take]; rfl)) ?_; (with_reducible refine (stopcocklaw23_num.same t191 t193 _ A14.out).mono ?_); rintro e w' ⟨rfl, hw_⟩; replace hw_ := hw_.symm; subst hw_; refine ⟨_, rfl, ?_⟩; have hcz24_0 : w20.cell? ⟨gb175, 0, none⟩ = some (.int .i64 x176000_1) := (blk_cell BK175.out 0).trans rfl; have hcz24_1 : w20.cell? ⟨gb175, 1, none⟩ = some (.slice Ao18 x176001_1.length co18) := (blk_cell BK175.out 1).trans rfl; have hcz24_2 : w20.cell? ⟨gb175, 2, none⟩ = some (.bool x176002_1) := (blk_cell BK175.out 2).trans rfl; have hcz24_3 : w20.cell? ⟨gb175, 3, none⟩ = some (.int .i64 x176003_1) := (blk_cell BK175.out 3).trans rfl; have hcz24_4 : w20.cell? ⟨gb175, 4, none⟩ = some (.int .i64 x176004_1) := (blk_cell BK175.out 4).trans rfl; have hcz24_5 : w20.cell? ⟨gb175, 5, none⟩ = some (.bool x176005_1) := (blk_cell BK175.out 5).trans rfl; have hcz24_6 : w20.cell? ⟨gb175, 6, none⟩ = some (.int .i64 x176006_1) := (blk_cell BK175.out 6).trans rfl; have hcz24_7 : w20.cell? ⟨gb175, 7, none⟩ = some (.int .i64 x176007_1) := (blk_cell BK175.out 7).trans rfl; have hcz24_8 : w20.cell? ⟨gb175, 8, none⟩ = some (.int .i64 x176008_1) := (blk_cell BK175.out 8).trans rfl; have hcz24_9 : w20.cell? ⟨gb175, 9, none⟩ = some (.int .i64 x176009_1) := (blk_cell BK175.out 9).trans rfl; have hcz24_10 : w20.cell? ⟨gb175, 10, none⟩ = some (.int .i64 x176010_1) := (blk_cell BK175.out 10).trans rfl; have hcz24_11 : w20.cell? ⟨gb175, 11, none⟩ = some (.int .i64 x176011_1) := (blk_cell BK175.out 11).trans rfl; have hfz24_0 := blk_frozen BK175.out))
                    (try simp only [Act.put, List.setIfInBounds_toArray, List.set_cons_zero, List.set_cons_succ])
                    go_cut [8, 9] (fun v8 v9 wc => ∃ (kq : Nat) (x8_15 : Int) (x9_15 : Int), v8 = .int .i64 x8_15 ∧ v9 = .int .i64 x9_15 ∧ Aside0 (stopcocklaw23_BbrStartup.j2 kq (wrap64 (x0_1 + (wrap64 (Int.tdiv (wrap64 (x0_1 * (Int.tmod (wrap64 ((Int.tmod (rd l1 x10_1) 60) + 60)) 60))) 100)))) l1 (wrap64 (1 + (Int.tmod (wrap64 ((Int.tmod a2 100) + 100)) 100))) x8_15 x9_15 x10_1 t177 t178 t181 t182 t183 t184 t185 t186 t187 t188 t189 t190 = some r) ∧ Aside0 (kq ≤ kj7) ∧ Aside0 (Kd.R k36 36 wc w.heap.size (fun _ => True) (.slice Ao23 t178.length co23) t178) ∧ Aside0 (Kd.R k36 36 wc w.heap.size (fun _ => True) (.slice Ao23 t178.length co23) t178) ∧ Aside0 (wc.heap[gb175]? = some (.cells #[.int .i64 t177, (.slice Ao23 t178.length co23), .bool t181, .int .i64 t182, .int .i64 t183, .bool t184, .int .i64 t185, .int .i64 t186, .int .i64 t187, .int .i64 t188, .int .i64 t189, .int .i64 t190] 40 (0, 0))) ∧ Aside0 (wc.heap[gb192]? = some (.cells #[.int .i64 t177, (.slice Ao23 t178.length co23), .bool t181, .int .i64 t182, .int .i64 t183, .bool t184, .int .i64 t185, .int .i64 t186, .int .i64 t187, .int .i64 t188, .int .i64 t189, .int .i64 t190] 40 (0, 0))) ∧ Aside0 (Below w.heap.size w wc))
                    case first =>
                      have H := HC16.out; clear HC16
                      by_cases c25 : (wrap64 (4 * (wrap64 (x0_1 + (wrap64 (Int.tdiv (wrap64 (x0_1 * (Int.tmod (wrap64 ((Int.tmod (rd l1 x10_1) 60) + 60)) 60))) 100)))))) ≥ (wrap64 (5 * x8_1))
                      · rw [if_pos c25] at H
                        have c25b0 : decide ((wrap64 (5 * x8_1)) ≤ (wrap64 (4 * (wrap64 (x0_1 + (wrap64 (Int.tdiv (wrap64 (x0_1 * (Int.tmod (wrap64 ((Int.tmod (rd l1 x10_1) 60) + 60)) 60))) 100))))))) = true := decide_eq_true c25; clear c25
                        (first | rw [c25b0] | (simp only [i64_w, i32_w]; rw [c25b0]) | skip)
                        have H' := Aside0.mk H; clear H
                        go_wp2
                        go_meet
                        case rel => exact ⟨_, (wrap64 (x0_1 + (wrap64 (Int.tdiv (wrap64 (x0_1 * (Int.tmod (wrap64 ((Int.tmod (rd l1 x10_1) 60) + 60)) 60))) 100)))), (0), (by first | rfl | (simp; done) | (simp [*]; done)), (by first | rfl | (simp; done) | (simp [*]; done)), H', ⟨by have := HK1.out; have := HJ7.out; first | omega | exact Nat.le_refl _⟩, ⟨by (with_reducible repeat (first | apply Kd.R_alloc | apply Kd.R_drewN | apply Kd.R_drew)); exact Kd.R_mono (Kd.R_far (p := ⟨gb175, 11, none⟩) (Kd.R_far (p := ⟨gb175, 10, none⟩) (Kd.R_far (p := ⟨gb175, 9, none⟩) (Kd.R_far (p := ⟨gb175, 8, none⟩) (Kd.R_far (p := ⟨gb175, 7, none⟩) (Kd.R_far (p := ⟨gb175, 6, none⟩) (Kd.R_far (p := ⟨gb175, 5, none⟩) (Kd.R_far (p := ⟨gb175, 4, none⟩) (Kd.R_far (p := ⟨gb175, 3, none⟩) (Kd.R_far (p := ⟨gb175, 2, none⟩) (Kd.R_far (p := ⟨gb175, 1, none⟩) (Kd.R_far (p := ⟨gb175, 0, none⟩) (Kd.R_far (p := ⟨gb192, 11, none⟩) (Kd.R_far (p := ⟨gb192, 10, none⟩) (Kd.R_far (p := ⟨gb192, 9, none⟩) (Kd.R_far (p := ⟨gb192, 8, none⟩) (Kd.R_far (p := ⟨gb192, 7, none⟩) (Kd.R_far (p := ⟨gb192, 6, none⟩) (Kd.R_far (p := ⟨gb192, 5, none⟩) (Kd.R_far (p := ⟨gb192, 4, none⟩) (Kd.R_far (p := ⟨gb192, 3, none⟩) (Kd.R_far (p := ⟨gb192, 2, none⟩) (Kd.R_far (p := ⟨gb192, 1, none⟩) (Kd.R_far (p := ⟨gb192, 0, none⟩) (Kd.R_types (Kd.R_types HO180.out BK192.out (by decide)) BK175.out (by decide)) (fun _ hk => hk.1.2) (.int .i64 t177)) (fun _ hk => hk.1.2) (.slice Ao23 t178.length co23)) (fun _ hk => hk.1.2) (.bool t181)) (fun _ hk => hk.1.2) (.int .i64 t182)) (fun _ hk => hk.1.2) (.int .i64 t183)) (fun _ hk => hk.1.2) (.bool t184)) (fun _ hk => hk.1.2) (.int .i64 t185)) (fun _ hk => hk.1.2) (.int .i64 t186)) (fun _ hk => hk.1.2) (.int .i64 t187)) (fun _ hk => hk.1.2) (.int .i64 t188)) (fun _ hk => hk.1.2) (.int .i64 t189)) (fun _ hk => hk.1.2) (.int .i64 t190)) (fun _ hk => hk.2) (.int .i64 t177)) (fun _ hk => hk.2) (.slice Ao23 t178.length co23)) (fun _ hk => hk.2) (.bool t181)) (fun _ hk => hk.2) (.int .i64 t182)) (fun _ hk => hk.2) (.int .i64 t183)) (fun _ hk => hk.2) (.bool t184)) (fun _ hk => hk.2) (.int .i64 t185)) (fun _ hk => hk.2) (.int .i64 t186)) (fun _ hk => hk.2) (.int .i64 t187)) (fun _ hk => hk.2) (.int .i64 t188)) (fun _ hk => hk.2) (.int .i64 t189)) (fun _ hk => hk.2) (.int .i64 t190)) (fun _ hk => trivial)⟩, ⟨by (with_reducible repeat (first | apply Kd.R_alloc | apply Kd.R_drewN | apply Kd.R_drew)); exact Kd.R_mono (Kd.R_far (p := ⟨gb175, 11, none⟩) (Kd.R_far (p := ⟨gb175, 10, none⟩) (Kd.R_far (p := ⟨gb175, 9, none⟩) (Kd.R_far (p := ⟨gb175, 8, none⟩) (Kd.R_far (p := ⟨gb175, 7, none⟩) (Kd.R_far (p := ⟨gb175, 6, none⟩) (Kd.R_far (p := ⟨gb175, 5, none⟩) (Kd.R_far (p := ⟨gb175, 4, none⟩) (Kd.R_far (p := ⟨gb175, 3, none⟩) (Kd.R_far (p := ⟨gb175, 2, none⟩) (Kd.R_far (p := ⟨gb175, 1, none⟩) (Kd.R_far (p := ⟨gb175, 0, none⟩) (Kd.R_far (p := ⟨gb192, 11, none⟩) (Kd.R_far (p := ⟨gb192, 10, none⟩) (Kd.R_far (p := ⟨gb192, 9, none⟩) (Kd.R_far (p := ⟨gb192, 8, none⟩) (Kd.R_far (p := ⟨gb192, 7, none⟩) (Kd.R_far (p := ⟨gb192, 6, none⟩) (Kd.R_far (p := ⟨gb192, 5, none⟩) (Kd.R_far (p := ⟨gb192, 4, none⟩) (Kd.R_far (p := ⟨gb192, 3, none⟩) (Kd.R_far (p := ⟨gb192, 2, none⟩) (Kd.R_far (p := ⟨gb192, 1, none⟩) (Kd.R_far (p := ⟨gb192, 0, none⟩) (Kd.R_types (Kd.R_types HO180.out BK192.out (by decide)) BK175.out (by decide)) (fun _ hk => hk.1.2) (.int .i64 t177)) (fun _ hk => hk.1.2) (.slice Ao23 t178.length co23)) (fun _ hk => hk.1.2) (.bool t181)) (fun _ hk => hk.1.2) (.int .i64 t182)) (fun _ hk => hk.1.2) (.int .i64 t183)) (fun _ hk => hk.1.2) (.bool t184)) (fun _ hk => hk.1.2) (.int .i64 t185)) (fun _ hk => hk.1.2) (.int .i64 t186)) (fun _ hk => hk.1.2) (.int .i64 t187)) (fun _ hk => hk.1.2) (.int .i64 t188)) (fun _ hk => hk.1.2) (.int .i64 t189)) (fun _ hk => hk.1.2) (.int .i64 t190)) (fun _ hk => hk.2) (.int .i64 t177)) (fun _ hk => hk.2) (.slice Ao23 t178.length co23)) (fun _ hk => hk.2) (.bool t181)) (fun _ hk => hk.2) (.int .i64 t182)) (fun _ hk => hk.2) (.int .i64 t183)) (fun _ hk => hk.2) (.bool t184)) (fun _ hk => hk.2) (.int .i64 t185)) (fun _ hk => hk.2) (.int .i64 t186)) (fun _ hk => hk.2) (.int .i64 t187)) (fun _ hk => hk.2) (.int .i64 t188)) (fun _ hk => hk.2) (.int .i64 t189)) (fun _ hk => hk.2) (.int .i64 t190)) (fun _ hk => trivial)⟩, ⟨by refine put_ (cs := #[.int .i64 x176000_1, .slice Ao18 x176001_1.length co18, .bool x176002_1, .int .i64 x176003_1, .int .i64 x176004_1, .bool x176005_1, .int .i64 x176006_1, .int .i64 x176007_1, .int .i64 x176008_1, .int .i64 x176009_1, .int .i64 x176010_1, .int .i64 x176011_1]) ?_ (by simp only [q1_, q2_, q3_]); exact far_ NB175_192.out BK175.out⟩, ⟨by refine far_ NB192_175.out ?_; exact put_ BK192.out (by simp only [q1_, q2_, q3_])⟩, ⟨by exact bel2 HB.out GE175.out GE192.out⟩⟩
                      rw [if_neg c25] at H; have c25b0 : decide ((wrap64 (5 * x8_1)) ≤ (wrap64 (4 * (wrap64 (x0_1 + (wrap64 (Int.tdiv (wrap64 (x0_1 * (Int.tmod (wrap64 ((Int.tmod (rd l1 x10_1) 60) + 60)) 60))) 100))))))) = false := decide_eq_false c25; clear c25
                      (first | rw [c25b0] | (simp only [i64_w, i32_w]; rw [c25b0]) | skip)
                      have H' := Aside0.mk H; clear H
                      go_wp2
                      go_meet
                      case rel => exact ⟨_, (x8_1), (wrap64 (x9_1 + 1)), (by first | rfl | (simp; done) | (simp [*]; done)), (by first | rfl | (simp; done) | (simp [*]; done)), H', ⟨by have := HK1.out; have := HJ7.out; first | omega | exact Nat.le_refl _⟩, ⟨by (with_reducible repeat (first | apply Kd.R_alloc | apply Kd.R_drewN | apply Kd.R_drew)); exact Kd.R_mono (Kd.R_far (p := ⟨gb175, 11, none⟩) (Kd.R_far (p := ⟨gb175, 10, none⟩) (Kd.R_far (p := ⟨gb175, 9, none⟩) (Kd.R_far (p := ⟨gb175, 8, none⟩) (Kd.R_far (p := ⟨gb175, 7, none⟩) (Kd.R_far (p := ⟨gb175, 6, none⟩) (Kd.R_far (p := ⟨gb175, 5, none⟩) (Kd.R_far (p := ⟨gb175, 4, none⟩) (Kd.R_far (p := ⟨gb175, 3, none⟩) (Kd.R_far (p := ⟨gb175, 2, none⟩) (Kd.R_far (p := ⟨gb175, 1, none⟩) (Kd.R_far (p := ⟨gb175, 0, none⟩) (Kd.R_far (p := ⟨gb192, 11, none⟩) (Kd.R_far (p := ⟨gb192, 10, none⟩) (Kd.R_far (p := ⟨gb192, 9, none⟩) (Kd.R_far (p := ⟨gb192, 8, none⟩) (Kd.R_far (p := ⟨gb192, 7, none⟩) (Kd.R_far (p := ⟨gb192, 6, none⟩) (Kd.R_far (p := ⟨gb192, 5, none⟩) (Kd.R_far (p := ⟨gb192, 4, none⟩) (Kd.R_far (p := ⟨gb192, 3, none⟩) (Kd.R_far (p := ⟨gb192, 2, none⟩) (Kd.R_far (p := ⟨gb192, 1, none⟩) (Kd.R_far (p := ⟨gb192, 0, none⟩) (Kd.R_types (Kd.R_types HO180.out BK192.out (by decide)) BK175.out (by decide)) (fun _ hk => hk.1.2) (.int .i64 t177)) (fun _ hk => hk.1.2) (.slice Ao23 t178.length co23)) (fun _ hk => hk.1.2) (.bool t181)) (fun _ hk => hk.1.2) (.int .i64 t182)) (fun _ hk => hk.1.2) (.int .i64 t183)) (fun _ hk => hk.1.2) (.bool t184)) (fun _ hk => hk.1.2) (.int .i64 t185)) (fun _ hk => hk.1.2) (.int .i64 t186)) (fun _ hk => hk.1.2) (.int .i64 t187)) (fun _ hk => hk.1.2) (.int .i64 t188)) (fun _ hk => hk.1.2) (.int .i64 t189)) (fun _ hk => hk.1.2) (.int .i64 t190)) (fun _ hk => hk.2) (.int .i64 t177)) (fun _ hk => hk.2) (.slice Ao23 t178.length co23)) (fun _ hk => hk.2) (.bool t181)) (fun _ hk => hk.2) (.int .i64 t182)) (fun _ hk => hk.2) (.int .i64 t183)) (fun _ hk => hk.2) (.bool t184)) (fun _ hk => hk.2) (.int .i64 t185)) (fun _ hk => hk.2) (.int .i64 t186)) (fun _ hk => hk.2) (.int .i64 t187)) (fun _ hk => hk.2) (.int .i64 t188)) (fun _ hk => hk.2) (.int .i64 t189)) (fun _ hk => hk.2) (.int .i64 t190)) (fun _ hk => trivial)⟩, ⟨by (with_reducible repeat (first | apply Kd.R_alloc | apply Kd.R_drewN | apply Kd.R_drew)); exact Kd.R_mono (Kd.R_far (p := ⟨gb175, 11, none⟩) (Kd.R_far (p := ⟨gb175, 10, none⟩) (Kd.R_far (p := ⟨gb175, 9, none⟩) (Kd.R_far (p := ⟨gb175, 8, none⟩) (Kd.R_far (p := ⟨gb175, 7, none⟩) (Kd.R_far (p := ⟨gb175, 6, none⟩) (Kd.R_far (p := ⟨gb175, 5, none⟩) (Kd.R_far (p := ⟨gb175, 4, none⟩) (Kd.R_far (p := ⟨gb175, 3, none⟩) (Kd.R_far (p := ⟨gb175, 2, none⟩) (Kd.R_far (p := ⟨gb175, 1, none⟩) (Kd.R_far (p := ⟨gb175, 0, none⟩) (Kd.R_far (p := ⟨gb192, 11, none⟩) (Kd.R_far (p := ⟨gb192, 10, none⟩) (Kd.R_far (p := ⟨gb192, 9, none⟩) (Kd.R_far (p := ⟨gb192, 8, none⟩) (Kd.R_far (p := ⟨gb192, 7, none⟩) (Kd.R_far (p := ⟨gb192, 6, none⟩) (Kd.R_far (p := ⟨gb192, 5, none⟩) (Kd.R_far (p := ⟨gb192, 4, none⟩) (Kd.R_far (p := ⟨gb192, 3, none⟩) (Kd.R_far (p := ⟨gb192, 2, none⟩) (Kd.R_far (p := ⟨gb192, 1, none⟩) (Kd.R_far (p := ⟨gb192, 0, none⟩) (Kd.R_types (Kd.R_types HO180.out BK192.out (by decide)) BK175.out (by decide)) (fun _ hk => hk.1.2) (.int .i64 t177)) (fun _ hk => hk.1.2) (.slice Ao23 t178.length co23)) (fun _ hk => hk.1.2) (.bool t181)) (fun _ hk => hk.1.2) (.int .i64 t182)) (fun _ hk => hk.1.2) (.int .i64 t183)) (fun _ hk => hk.1.2) (.bool t184)) (fun _ hk => hk.1.2) (.int .i64 t185)) (fun _ hk => hk.1.2) (.int .i64 t186)) (fun _ hk => hk.1.2) (.int .i64 t187)) (fun _ hk => hk.1.2) (.int .i64 t188)) (fun _ hk => hk.1.2) (.int .i64 t189)) (fun _ hk => hk.1.2) (.int .i64 t190)) (fun _ hk => hk.2) (.int .i64 t177)) (fun _ hk => hk.2) (.slice Ao23 t178.length co23)) (fun _ hk => hk.2) (.bool t181)) (fun _ hk => hk.2) (.int .i64 t182)) (fun _ hk => hk.2) (.int .i64 t183)) (fun _ hk => hk.2) (.bool t184)) (fun _ hk => hk.2) (.int .i64 t185)) (fun _ hk => hk.2) (.int .i64 t186)) (fun _ hk => hk.2) (.int .i64 t187)) (fun _ hk => hk.2) (.int .i64 t188)) (fun _ hk => hk.2) (.int .i64 t189)) (fun _ hk => hk.2) (.int .i64 t190)) (fun _ hk => trivial)⟩, ⟨by refine put_ (cs := #[.int .i64 x176000_1, .slice Ao18 x176001_1.length co18, .bool x176002_1, .int .i64 x176003_1, .int .i64 x176004_1, .bool x176005_1, .int .i64 x176006_1, .int .i64 x176007_1, .int .i64 x176008_1, .int .i64 x176009_1, .int .i64 x176010_1, .int .i64 x176011_1]) ?_ (by simp only [q1_, q2_, q3_]); exact far_ NB175_192.out BK175.out⟩, ⟨by refine far_ NB192_175.out ?_; exact put_ BK192.out (by simp only [q1_, q2_, q3_])⟩, ⟨by exact bel2 HB.out GE175.out GE192.out⟩⟩
                    case rest =>
                      clear HC16
                      try clear c1
                      try clear p1
                      try clear q1
                      try clear hx1
                      try clear c2
                      try clear p2
                      try clear c5
                      try clear c6
                      try clear p6
                      try clear c9
                      try clear c9b0
                      try clear c10
                      try clear c11
                      try clear c11b0
                      try clear c12
                      try clear c12b0
                      try clear c13
                      try clear c14
                      try clear c15
                      try clear c15b0
                      try clear c15b1
                      try clear p17
                      try clear q17
                      try clear hx17
                      try clear c21
                      try clear c25
                      try clear c25b0
                      try clear hcz17_0
                      try clear hcz17_1
                      try clear hcz17_10
                      try clear hcz17_11
                      try clear hcz17_2
                      try clear hcz17_3
                      try clear hcz17_4
                      try clear hcz17_5
                      try clear hcz17_6
                      try clear hcz17_7
                      try clear hcz17_8
                      try clear hcz17_9
                      try clear hcz22_0
                      try clear hcz22_1
                      try clear hcz22_10
                      try clear hcz22_11
                      try clear hcz22_2
                      try clear hcz22_3
                      try clear hcz22_4
                      try clear hcz22_5
                      try clear hcz22_6
                      try clear hcz22_7
                      try clear hcz22_8
                      try clear hcz22_9
                      try clear hcz24_0
                      try clear hcz24_1
                      try clear hcz24_10
                      try clear hcz24_11
                      try clear hcz24_2
                      try clear hcz24_3
                      try clear hcz24_4
                      try clear hcz24_5
                      try clear hcz24_6
                      try clear hcz24_7
                      try clear hcz24_8
                      try clear hcz24_9
                      try clear hfz17_0
                      try clear hfz17_1
                      try clear hfz17_10
                      try clear hfz17_11
                      try clear hfz17_2
                      try clear hfz17_3
                      try clear hfz17_4
                      try clear hfz17_5
                      try clear hfz17_6
                      try clear hfz17_7
                      try clear hfz17_8
                      try clear hfz17_9
                      try clear hfz22_0
                      try clear hfz22_1
                      try clear hfz22_10
                      try clear hfz22_11
                      try clear hfz22_2
                      try clear hfz22_3
                      try clear hfz22_4
                      try clear hfz22_5
                      try clear hfz22_6
                      try clear hfz22_7
                      try clear hfz22_8
                      try clear hfz22_9
                      try clear hfz24_0
                      try clear hfz24_1
                      try clear hfz24_10
                      try clear hfz24_11
                      try clear hfz24_2
                      try clear hfz24_3
                      try clear hfz24_4
                      try clear hfz24_5
                      try clear hfz24_6
                      try clear hfz24_7
                      try clear hfz24_8
                      try clear hfz24_9
                      try clear hx176_0
                      try clear p176
                      try clear p2
                      try clear p6
                      try clear q176
                      obtain ⟨kq, x8_15, x9_15, rfl, rfl, HA, HJ15, HO_176001, HO_193001, BK175, BK192, HB⟩ := hcut
                      cases kq with
                      | zero => exact absurd HA.out (by simp [stopcocklaw23_BbrStartup.j2])
                      | succ kj15 =>
                        have H := HA.out; clear HA
                        simp only [stopcocklaw23_BbrStartup.j2] at H
                        by_cases c26 : ((t177 == 0) != (decide (x9_15 < 3))) = true
                        · rw [if_pos c26] at H
                          have c26b0 : ((t177 == 0) != (decide (x9_15 < 3))) = true := c26
                          (try (have c26b1 : decide ((t177 == 0) = (decide (x9_15 < 3))) = false := by simpa using c26))
                          (try (have c26b2 : ((t177 == 0) == (decide (x9_15 < 3))) = false := by simpa using c26))
                          (try (have c26b3 : ¬ ((t177 == 0) = (decide (x9_15 < 3))) := by simpa using c26))
                          (try (have c26b4 : (decide (x9_15 < 3)) = !(t177 == 0) := by (have q_ := c26; revert q_; generalize (t177 == 0) = a_; generalize (decide (x9_15 < 3)) = b_; cases a_ <;> cases b_ <;> simp)))
                          clear c26; exact absurd ((Option.some.inj H).trans HRT.out) (by decide)
                        rw [if_neg c26] at H; have c26b0 : ((t177 == 0) != (decide (x9_15 < 3))) = false := by simpa using c26
                        (try (have c26b1 : decide ((t177 == 0) = (decide (x9_15 < 3))) = true := by simpa using c26))
                        (try (have c26b2 : ((t177 == 0) == (decide (x9_15 < 3))) = true := by simpa using c26))
                        (try (have c26b3 : (decide (x9_15 < 3)) = (t177 == 0) := by (have q_ := c26; revert q_; generalize (t177 == 0) = a_; generalize (decide (x9_15 < 3)) = b_; cases a_ <;> cases b_ <;> simp)))
                        clear c26
                        by_cases c27 : x9_15 ≥ 3
                        · rw [if_pos c27] at H
                          have c27b0 : decide (3 ≤ x9_15) = true := decide_eq_true c27; clear c27
                          by_cases c28 : t177 = 1
                          · rw [if_pos c28] at H
                            have c28b0 : (t177 == 1) = true := beq_iff_eq.mpr c28; have c28b1 : (t177 != 1) = false := bne_eq_false_iff_eq.mpr c28; clear c28; obtain rfl := Option.some.inj H; have hnb29 := NB175_192.out; have hnc29 := NB192_175.out; have hcz30_0 : wc.cell? ⟨gb175, 0, none⟩ = some (.int .i64 t177) := (blk_cell BK175.out 0).trans rfl; have hcz30_1 : wc.cell? ⟨gb175, 1, none⟩ = some (.slice Ao23 t178.length co23) := (blk_cell BK175.out 1).trans rfl; have hcz30_2 : wc.cell? ⟨gb175, 2, none⟩ = some (.bool t181) := (blk_cell BK175.out 2).trans rfl; have hcz30_3 : wc.cell? ⟨gb175, 3, none⟩ = some (.int .i64 t182) := (blk_cell BK175.out 3).trans rfl; have hcz30_4 : wc.cell? ⟨gb175, 4, none⟩ = some (.int .i64 t183) := (blk_cell BK175.out 4).trans rfl; have hcz30_5 : wc.cell? ⟨gb175, 5, none⟩ = some (.bool t184) := (blk_cell BK175.out 5).trans rfl; have hcz30_6 : wc.cell? ⟨gb175, 6, none⟩ = some (.int .i64 t185) := (blk_cell BK175.out 6).trans rfl; have hcz30_7 : wc.cell? ⟨gb175, 7, none⟩ = some (.int .i64 t186) := (blk_cell BK175.out 7).trans rfl; have hcz30_8 : wc.cell? ⟨gb175, 8, none⟩ = some (.int .i64 t187) := (blk_cell BK175.out 8).trans rfl; have hcz30_9 : wc.cell? ⟨gb175, 9, none⟩ = some (.int .i64 t188) := (blk_cell BK175.out 9).trans rfl; have hcz30_10 : wc.cell? ⟨gb175, 10, none⟩ = some (.int .i64 t189) := (blk_cell BK175.out 10).trans rfl; have hcz30_11 : wc.cell? ⟨gb175, 11, none⟩ = some (.int .i64 t190) := (blk_cell BK175.out 11).trans rfl; have hfz30_0 := blk_frozen BK175.out
                            go_wp2
                            go_ret
                            exact ⟨by first | rfl | (simp [errW_none, errW_some] <;> rfl) | (simp [*, errW_none, errW_some] <;> rfl), by exact bel2 HB.out GE175.out GE192.out⟩
                          rw [if_neg c28] at H; have c28b0 : (t177 == 1) = false := beq_eq_false_iff_ne.mpr c28; have c28b1 : (t177 != 1) = true := bne_iff_ne.mpr c28; exact absurd ((Option.some.inj H).trans HRT.out) (by decide)
                        rw [if_neg c27] at H; have c27b0 : decide (3 ≤ x9_15) = false := decide_eq_false c27; clear c27; have H' := Aside0.mk H; clear H; have hnb31 := NB175_192.out; have hnc31 := NB192_175.out; have hcz32_0 : wc.cell? ⟨gb175, 0, none⟩ = some (.int .i64 t177) := (blk_cell BK175.out 0).trans rfl; have hcz32_1 : wc.cell? ⟨gb175, 1, none⟩ = some (.slice Ao23 t178.length co23) := (blk_cell BK175.out 1).trans rfl; have hcz32_2 : wc.cell? ⟨gb175, 2, none⟩ = some (.bool t181) := (blk_cell BK175.out 2).trans rfl; have hcz32_3 : wc.cell? ⟨gb175, 3, none⟩ = some (.int .i64 t182) := (blk_cell BK175.out 3).trans rfl; have hcz32_4 : wc.cell? ⟨gb175, 4, none⟩ = some (.int .i64 t183) := (blk_cell BK175.out 4).trans rfl; have hcz32_5 : wc.cell? ⟨gb175, 5, none⟩ = some (.bool t184) := (blk_cell BK175.out 5).trans rfl; have hcz32_6 : wc.cell? ⟨gb175, 6, none⟩ = some (.int .i64 t185) := (blk_cell BK175.out 6).trans rfl; have hcz32_7 : wc.cell? ⟨gb175, 7, none⟩ = some (.int .i64 t186) := (blk_cell BK175.out 7).trans rfl; have hcz32_8 : wc.cell? ⟨gb175, 8, none⟩ = some (.int .i64 t187) := (blk_cell BK175.out 8).trans rfl; have hcz32_9 : wc.cell? ⟨gb175, 9, none⟩ = some (.int .i64 t188) := (blk_cell BK175.out 9).trans rfl; have hcz32_10 : wc.cell? ⟨gb175, 10, none⟩ = some (.int .i64 t189) := (blk_cell BK175.out 10).trans rfl; have hcz32_11 : wc.cell? ⟨gb175, 11, none⟩ = some (.int .i64 t190) := (blk_cell BK175.out 11).trans rfl; have hfz32_0 := blk_frozen BK175.out
                        go_wp2
                        go_roundg kj15
                        case measure => have := HK1.out; have := HJ7.out; have := HJ15.out; omega
                        case rel => exact ⟨((wrap64 (x0_1 + (wrap64 (Int.tdiv (wrap64 (x0_1 * (Int.tmod (wrap64 ((Int.tmod (rd l1 x10_1) 60) + 60)) 60))) 100))))), (x8_15), (x9_15), (wrap64 (x10_1 + 1)), (t177), (t178), (t181), (t182), (t183), (t184), (t185), (t186), (t187), (t188), (t189), (t190), (.slice Ao23 t178.length co23), (by first | rfl | (simp; done) | (simp [*]; done)), (by first | rfl | (simp; done) | (simp [*]; done)), (by first | rfl | (simp; done) | (simp [*]; done)), (by first | rfl | (simp; done) | (simp [*]; done)), H', ⟨by have := HK1.out; have := HJ7.out; have := HJ15.out; omega⟩, ⟨by (with_reducible repeat (first | apply Kd.R_alloc | apply Kd.R_drewN | apply Kd.R_drew)); exact HO_176001.out⟩, ⟨by exact skp_ BK175.out⟩, ⟨by exact bel2 HB.out GE175.out GE192.out⟩⟩
                  rw [if_neg c15] at H; have c15b0 : (t193 == 0) = false := beq_eq_false_iff_ne.mpr c15; have c15b1 : (t193 != 0) = true := bne_iff_ne.mpr c15; exact absurd ((Option.some.inj H).trans HRT.out) (by decide)
                rw [if_neg c12] at H; exact absurd H (by simp)
              rw [if_neg c11] at H; exact absurd H (by simp)
            replace c10 := Bool.eq_false_iff.mpr c10
            subst c10
            have H1 : (some true) = some r := by rw [if_neg (show ¬ (false = true) by decide)] at H; exact H
            clear H; have H := H1; clear H1; obtain rfl := Option.some.inj H
            go_wp2
            go_ret
            exact ⟨by first | rfl | (simp [errW_none, errW_some] <;> rfl) | (simp [*, errW_none, errW_some] <;> rfl), by exact bel1 HB.out GE175.out⟩
  replace c5 := Bool.eq_false_iff.mpr c5
  subst c5
  have H1 : (some false) = some r := by rw [if_neg (show ¬ (false = true) by decide)] at H; exact H
  clear H; have H := H1; clear H1; exact absurd ((Option.some.inj H).trans HRT.out) (by decide)

/-- THE ONE PURE STATEMENT of stopcocklaw23_BbrStartup: yours. -/
def stopcocklaw23_BbrStartup.Pure : Prop := ∀ (a0 : Int) (l1 : List Int) (a2 : Int), (Lit.int .i64 a0).wf = true → l1.length ≤ maxLen → l1.length * 8 ≤ 140737488351232 → (∀ x ∈ l1, (Lit.int .i64 x).wf = true) → (Lit.int .i64 a2).wf = true → ∃ k, stopcocklaw23_BbrStartup.f k a0 l1 a2 = some true
theorem stopcocklaw23_BbrStartup.walk (P : stopcocklaw23_BbrStartup.Pure) (a0 : Int) (a1 : Option Addr) (len1 cap1 : Nat) (z1 : List Int) (a2 : Int) (w : World) (w0 : (Lit.int .i64 a0).wf = true) (w1 : (a1 = none ∧ len1 = 0 ∧ cap1 = 0 ∧ z1 = []) ∨ ∃ x, a1 = some x ∧ len1 ≤ cap1 ∧ cap1 ≤ maxLen ∧ z1.length = cap1 ∧ (∀ i, i < z1.length → w.cell? (x.add i) = some (.int .i64 (z1.getD i 0))) ∧ ∀ n ∈ z1, (Lit.int .i64 n).wf = true) (y1 : len1 * 8 ≤ 140737488351232) (w2 : (Lit.int .i64 a2).wf = true) :
    Calls Try.prog 6 #[.int .i64 a0, .slice a1 len1 cap1, .int .i64 a2] w fun e w' => e = .returned (.bool true) ∧ Below w.heap.size w w' := by
  obtain ⟨l1, rfl, hr1, hm1, hw1, hc1⟩ := ReadsInt.ofRowC w1; obtain ⟨k, h⟩ := P a0 l1 a2 w0 hm1 y1 hw1 w2; refine (stopcocklaw23_BbrStartup.calls k a0 _ _ l1 a2 true w (Kd.C_of_reads (d := (0 : Int)) (h1 := fun _ => rfl) hr1) hc1 h rfl).mono ?_
  rintro e w' ⟨rfl, hd⟩
  exact ⟨rfl, hd⟩

end Go.Proofs.Ytodlibmnmjopbaa.PA
