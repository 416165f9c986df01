-- Written by a program of this session (wip/tools/mkprint.py, mp.sh) for this claim.
import Derived.Test.YtlepbdbghiedjaaPAx0
import Derived.Test.YtlepbdbghiedjaaPAx1
namespace Go.Proofs.Ytlepbdbghiedjaa.PA
open Go.RowKit Go.Proofs.YtlepbdbghiedjaaW.PrintWords Go.Proofs.YtlepbdbghiedjaaW.PrintLast Go.Proofs.YtlepbdbghiedjaaW.PrintMore
attribute [local go_sem] max2_int min2_int max_two min_two max_three min_three max_four min_four   -- for this text's walks alone
set_option linter.unusedVariables false
set_option linter.unusedSimpArgs false

/-! ### stopcocklaw14_PacerSpaced: function 4 -/
mutual
def stopcocklaw14_PacerSpaced.l0 : Nat → List Int → List Int → Int → Int → List Int → List Int → Int → Int → Int → Option (Bool)
  | 0, _, _, _, _, _, _, _, _, _ => none
  | k + 1, x0, x1, x2, x3, x10, x11, x12, x13, x134000 => if x13 < (x0.length : Int) then (stopcocklaw14_PacerSpaced.j1 k x0 x1 x2 x3 x10 x11 x12 x13 (decide (x13 < 60)) x134000) else (stopcocklaw14_PacerSpaced.j1 k x0 x1 x2 x3 x10 x11 x12 x13 false x134000)
def stopcocklaw14_PacerSpaced.j1 : Nat → List Int → List Int → Int → Int → List Int → List Int → Int → Int → Bool → Int → Option (Bool)
  | 0, _, _, _, _, _, _, _, _, _, _ => none
  | k + 1, x0, x1, x2, x3, x10, x11, x12, x13, x38, x134000 => if x38 = true then (if x13 < (x1.length : Int) then (if 0 ≤ x13 then (stopcocklaw14_PacerSpaced.j2 k x0 x1 x2 x3 x10 x11 (wrap64 (x12 + (Int.tmod (wrap64 ((Int.tmod (rd x1 x13) 2000) + 2000)) 2000))) x13 x134000) else (none)) else (stopcocklaw14_PacerSpaced.j2 k x0 x1 x2 x3 x10 x11 x12 x13 x134000)) else (some true)
def stopcocklaw14_PacerSpaced.j2 : Nat → List Int → List Int → Int → Int → List Int → List Int → Int → Int → Int → Option (Bool)
  | 0, _, _, _, _, _, _, _, _, _ => none
  | k + 1, x0, x1, x2, x3, x10, x11, x12, x13, x134000 => if 0 ≤ x13 then (if x13 < (x0.length : Int) then ((pacer_Depart.f x134000 (wrap64 (1 + (Int.tmod (wrap64 ((Int.tmod (rd x0 x13) 1500) + 1500)) 1500))) x2 x3 x12).bind fun bt136 => ((stopcocklaw14_num.f bt136.2.2).bind fun t140 => (if t140 = 0 then (if bt136.2.1 < x12 then (stopcocklaw14_PacerSpaced.j3 k x0 x1 x2 x3 x10 x11 x12 x13 (wrap64 (1 + (Int.tmod (wrap64 ((Int.tmod (rd x0 x13) 1500) + 1500)) 1500))) bt136.2.1 true bt136.1) else (if (x10.length : Int) > 0 then (if 0 ≤ (wrap64 ((x10.length : Int) - 1)) then (if (wrap64 ((x10.length : Int) - 1)) < (x10.length : Int) then (stopcocklaw14_PacerSpaced.j3 k x0 x1 x2 x3 x10 x11 x12 x13 (wrap64 (1 + (Int.tmod (wrap64 ((Int.tmod (rd x0 x13) 1500) + 1500)) 1500))) bt136.2.1 (decide (bt136.2.1 < (rd x10 (wrap64 ((x10.length : Int) - 1))))) bt136.1) else (none)) else (none)) else (stopcocklaw14_PacerSpaced.j3 k x0 x1 x2 x3 x10 x11 x12 x13 (wrap64 (1 + (Int.tmod (wrap64 ((Int.tmod (rd x0 x13) 1500) + 1500)) 1500))) bt136.2.1 false bt136.1))) else (stopcocklaw14_PacerSpaced.j3 k x0 x1 x2 x3 x10 x11 x12 x13 (wrap64 (1 + (Int.tmod (wrap64 ((Int.tmod (rd x0 x13) 1500) + 1500)) 1500))) bt136.2.1 true bt136.1)))) else (none)) else (none)
def stopcocklaw14_PacerSpaced.j3 : Nat → List Int → List Int → Int → Int → List Int → List Int → Int → Int → Int → Int → Bool → Int → Option (Bool)
  | 0, _, _, _, _, _, _, _, _, _, _, _, _ => none
  | k + 1, x0, x1, x2, x3, x10, x11, x12, x13, x14, x16, x94, x140000 => if x94 = true then (some false) else (if x10.length < 17592186044416 then (if x11.length < 17592186044416 then (stopcocklaw14_PacerSpaced.l1 k x0 x1 x2 x3 (x10 ++ [x16]) (x11 ++ [x14]) x12 x13 x16 0 x13 x140000) else (none)) else (none))
def stopcocklaw14_PacerSpaced.l1 : Nat → List Int → List Int → Int → Int → List Int → List Int → Int → Int → Int → Int → Int → Int → Option (Bool)
  | 0, _, _, _, _, _, _, _, _, _, _, _, _ => none
  | k + 1, x0, x1, x2, x3, x10, x11, x12, x13, x16, x18, x19, x134000 => if x19 ≥ 0 then (if x19 < x13 then (if 0 ≤ x19 then (if x19 < (x11.length : Int) then (if x19 < (x10.length : Int) then (if (wrap64 (x18 + (rd x11 x19))) > (wrap64 ((wrap64 (Int.tdiv (wrap64 ((wrap64 (x2 * (wrap64 (x16 - (rd x10 x19))))) + 1023)) 1024)) + x3)) then (some false) else (stopcocklaw14_PacerSpaced.l1 k x0 x1 x2 x3 x10 x11 x12 x13 x16 (wrap64 (x18 + (rd x11 x19))) (wrap64 (x19 - 1)) x134000)) else (none)) else (none)) else (none)) else (if 0 ≤ x19 then (if x19 < (x10.length : Int) then (if x18 > (wrap64 ((wrap64 (Int.tdiv (wrap64 ((wrap64 (x2 * (wrap64 (x16 - (rd x10 x19))))) + 1023)) 1024)) + x3)) then (some false) else (stopcocklaw14_PacerSpaced.l1 k x0 x1 x2 x3 x10 x11 x12 x13 x16 x18 (wrap64 (x19 - 1)) x134000)) else (none)) else (none))) else (stopcocklaw14_PacerSpaced.l0 k x0 x1 x2 x3 x10 x11 x12 (wrap64 (x13 + 1)) x134000)
end
def stopcocklaw14_PacerSpaced.f (k : Nat) (l0 : List Int) (l1 : List Int) (a2 : Int) (a3 : Int) : Option (Bool) := (stopcocklaw14_alive.f).bind fun t132 => (if t132 = true then (stopcocklaw14_PacerSpaced.l0 k l0 l1 (wrap64 (1 + (Int.tmod (wrap64 ((Int.tmod a2 100000) + 100000)) 100000))) (Int.tmod (wrap64 ((Int.tmod a3 5000) + 5000)) 5000) ([] : List Int) ([] : List Int) 0 0 0) else (some false))
theorem stopcocklaw14_PacerSpaced.mono_l : ∀ k, (∀ y0 y1 y2 y3 y4 y5 y6 y7 y8, LeO (stopcocklaw14_PacerSpaced.l0 k y0 y1 y2 y3 y4 y5 y6 y7 y8) (stopcocklaw14_PacerSpaced.l0 (k + 1) y0 y1 y2 y3 y4 y5 y6 y7 y8)) ∧ (∀ y0 y1 y2 y3 y4 y5 y6 y7 y8 y9, LeO (stopcocklaw14_PacerSpaced.j1 k y0 y1 y2 y3 y4 y5 y6 y7 y8 y9) (stopcocklaw14_PacerSpaced.j1 (k + 1) y0 y1 y2 y3 y4 y5 y6 y7 y8 y9)) ∧ (∀ y0 y1 y2 y3 y4 y5 y6 y7 y8, LeO (stopcocklaw14_PacerSpaced.j2 k y0 y1 y2 y3 y4 y5 y6 y7 y8) (stopcocklaw14_PacerSpaced.j2 (k + 1) y0 y1 y2 y3 y4 y5 y6 y7 y8)) ∧ (∀ y0 y1 y2 y3 y4 y5 y6 y7 y8 y9 y10 y11, LeO (stopcocklaw14_PacerSpaced.j3 k y0 y1 y2 y3 y4 y5 y6 y7 y8 y9 y10 y11) (stopcocklaw14_PacerSpaced.j3 (k + 1) y0 y1 y2 y3 y4 y5 y6 y7 y8 y9 y10 y11)) ∧ (∀ y0 y1 y2 y3 y4 y5 y6 y7 y8 y9 y10 y11, LeO (stopcocklaw14_PacerSpaced.l1 k y0 y1 y2 y3 y4 y5 y6 y7 y8 y9 y10 y11) (stopcocklaw14_PacerSpaced.l1 (k + 1) y0 y1 y2 y3 y4 y5 y6 y7 y8 y9 y10 y11))
  | 0 => ⟨fun _ _ _ _ _ _ _ _ _ r h => by simp [stopcocklaw14_PacerSpaced.l0] at h, fun _ _ _ _ _ _ _ _ _ _ r h => by simp [stopcocklaw14_PacerSpaced.j1] at h, fun _ _ _ _ _ _ _ _ _ r h => by simp [stopcocklaw14_PacerSpaced.j2] at h, fun _ _ _ _ _ _ _ _ _ _ _ _ r h => by simp [stopcocklaw14_PacerSpaced.j3] at h, fun _ _ _ _ _ _ _ _ _ _ _ _ r h => by simp [stopcocklaw14_PacerSpaced.l1] at h⟩
  | k + 1 => by
    obtain ⟨ih0, ih1, ih2, ih3, ih4⟩ := stopcocklaw14_PacerSpaced.mono_l k
    refine ⟨?_, ?_, ?_, ?_, ?_⟩
    · intro y0 y1 y2 y3 y4 y5 y6 y7 y8
      unfold stopcocklaw14_PacerSpaced.l0
      repeat' first
      | (with_reducible exact ih0 _ _ _ _ _ _ _ _ _)
      | (with_reducible exact ih1 _ _ _ _ _ _ _ _ _ _)
      | (with_reducible exact ih2 _ _ _ _ _ _ _ _ _)
      | (with_reducible exact ih3 _ _ _ _ _ _ _ _ _ _ _ _)
      | (with_reducible exact ih4 _ _ _ _ _ _ _ _ _ _ _ _)
      | (with_reducible exact LeO.refl _)
      | (with_reducible exact LeO.none _)
      | (with_reducible refine LeO.ite ?_ ?_)
      | (with_reducible refine LeO.bind ?_ (fun _ => ?_))
      | exact ih0 _ _ _ _ _ _ _ _ _
      | exact ih1 _ _ _ _ _ _ _ _ _ _
      | exact ih2 _ _ _ _ _ _ _ _ _
      | exact ih3 _ _ _ _ _ _ _ _ _ _ _ _
      | exact ih4 _ _ _ _ _ _ _ _ _ _ _ _
      | exact LeO.none _
      | refine LeO.ite ?_ ?_
      | refine LeO.bind ?_ (fun _ => ?_)
    · intro y0 y1 y2 y3 y4 y5 y6 y7 y8 y9
      unfold stopcocklaw14_PacerSpaced.j1
      repeat' first
      | (with_reducible exact ih0 _ _ _ _ _ _ _ _ _)
      | (with_reducible exact ih1 _ _ _ _ _ _ _ _ _ _)
      | (with_reducible exact ih2 _ _ _ _ _ _ _ _ _)
      | (with_reducible exact ih3 _ _ _ _ _ _ _ _ _ _ _ _)
      | (with_reducible exact ih4 _ _ _ _ _ _ _ _ _ _ _ _)
      | (with_reducible exact LeO.refl _)
      | (with_reducible exact LeO.none _)
      | (with_reducible refine LeO.ite ?_ ?_)
      | (with_reducible refine LeO.bind ?_ (fun _ => ?_))
      | exact ih0 _ _ _ _ _ _ _ _ _
      | exact ih1 _ _ _ _ _ _ _ _ _ _
      | exact ih2 _ _ _ _ _ _ _ _ _
      | exact ih3 _ _ _ _ _ _ _ _ _ _ _ _
      | exact ih4 _ _ _ _ _ _ _ _ _ _ _ _
      | exact LeO.none _
      | refine LeO.ite ?_ ?_
      | refine LeO.bind ?_ (fun _ => ?_)
    · intro y0 y1 y2 y3 y4 y5 y6 y7 y8
      unfold stopcocklaw14_PacerSpaced.j2
      repeat' first
      | (with_reducible exact ih0 _ _ _ _ _ _ _ _ _)
      | (with_reducible exact ih1 _ _ _ _ _ _ _ _ _ _)
      | (with_reducible exact ih2 _ _ _ _ _ _ _ _ _)
      | (with_reducible exact ih3 _ _ _ _ _ _ _ _ _ _ _ _)
      | (with_reducible exact ih4 _ _ _ _ _ _ _ _ _ _ _ _)
      | (with_reducible exact LeO.refl _)
      | (with_reducible exact LeO.none _)
      | (with_reducible refine LeO.ite ?_ ?_)
      | (with_reducible refine LeO.bind ?_ (fun _ => ?_))
      | exact ih0 _ _ _ _ _ _ _ _ _
      | exact ih1 _ _ _ _ _ _ _ _ _ _
      | exact ih2 _ _ _ _ _ _ _ _ _
      | exact ih3 _ _ _ _ _ _ _ _ _ _ _ _
      | exact ih4 _ _ _ _ _ _ _ _ _ _ _ _
      | exact LeO.none _
      | refine LeO.ite ?_ ?_
      | refine LeO.bind ?_ (fun _ => ?_)
    · intro y0 y1 y2 y3 y4 y5 y6 y7 y8 y9 y10 y11
      unfold stopcocklaw14_PacerSpaced.j3
      repeat' first
      | (with_reducible exact ih0 _ _ _ _ _ _ _ _ _)
      | (with_reducible exact ih1 _ _ _ _ _ _ _ _ _ _)
      | (with_reducible exact ih2 _ _ _ _ _ _ _ _ _)
      | (with_reducible exact ih3 _ _ _ _ _ _ _ _ _ _ _ _)
      | (with_reducible exact ih4 _ _ _ _ _ _ _ _ _ _ _ _)
      | (with_reducible exact LeO.refl _)
      | (with_reducible exact LeO.none _)
      | (with_reducible refine LeO.ite ?_ ?_)
      | (with_reducible refine LeO.bind ?_ (fun _ => ?_))
      | exact ih0 _ _ _ _ _ _ _ _ _
      | exact ih1 _ _ _ _ _ _ _ _ _ _
      | exact ih2 _ _ _ _ _ _ _ _ _
      | exact ih3 _ _ _ _ _ _ _ _ _ _ _ _
      | exact ih4 _ _ _ _ _ _ _ _ _ _ _ _
      | exact LeO.none _
      | refine LeO.ite ?_ ?_
      | refine LeO.bind ?_ (fun _ => ?_)
    · intro y0 y1 y2 y3 y4 y5 y6 y7 y8 y9 y10 y11
      unfold stopcocklaw14_PacerSpaced.l1
      repeat' first
      | (with_reducible exact ih0 _ _ _ _ _ _ _ _ _)
      | (with_reducible exact ih1 _ _ _ _ _ _ _ _ _ _)
      | (with_reducible exact ih2 _ _ _ _ _ _ _ _ _)
      | (with_reducible exact ih3 _ _ _ _ _ _ _ _ _ _ _ _)
      | (with_reducible exact ih4 _ _ _ _ _ _ _ _ _ _ _ _)
      | (with_reducible exact LeO.refl _)
      | (with_reducible exact LeO.none _)
      | (with_reducible refine LeO.ite ?_ ?_)
      | (with_reducible refine LeO.bind ?_ (fun _ => ?_))
      | exact ih0 _ _ _ _ _ _ _ _ _
      | exact ih1 _ _ _ _ _ _ _ _ _ _
      | exact ih2 _ _ _ _ _ _ _ _ _
      | exact ih3 _ _ _ _ _ _ _ _ _ _ _ _
      | exact ih4 _ _ _ _ _ _ _ _ _ _ _ _
      | exact LeO.none _
      | refine LeO.ite ?_ ?_
      | refine LeO.bind ?_ (fun _ => ?_)
theorem stopcocklaw14_PacerSpaced.mono : ∀ a0 a1 a2 a3 k, LeO (stopcocklaw14_PacerSpaced.f k a0 a1 a2 a3) (stopcocklaw14_PacerSpaced.f (k + 1) a0 a1 a2 a3) := by
  intro a0 a1 a2 a3 k
  obtain ⟨ih0, ih1, ih2, ih3, ih4⟩ := stopcocklaw14_PacerSpaced.mono_l k
  unfold stopcocklaw14_PacerSpaced.f
  repeat' first
      | (with_reducible exact ih0 _ _ _ _ _ _ _ _ _)
      | (with_reducible exact ih1 _ _ _ _ _ _ _ _ _ _)
      | (with_reducible exact ih2 _ _ _ _ _ _ _ _ _)
      | (with_reducible exact ih3 _ _ _ _ _ _ _ _ _ _ _ _)
      | (with_reducible exact ih4 _ _ _ _ _ _ _ _ _ _ _ _)
      | (with_reducible exact LeO.refl _)
      | (with_reducible exact LeO.none _)
      | (with_reducible refine LeO.ite ?_ ?_)
      | (with_reducible refine LeO.bind ?_ (fun _ => ?_))
      | exact ih0 _ _ _ _ _ _ _ _ _
      | exact ih1 _ _ _ _ _ _ _ _ _ _
      | exact ih2 _ _ _ _ _ _ _ _ _
      | exact ih3 _ _ _ _ _ _ _ _ _ _ _ _
      | exact ih4 _ _ _ _ _ _ _ _ _ _ _ _
      | exact LeO.none _
      | refine LeO.ite ?_ ?_
      | refine LeO.bind ?_ (fun _ => ?_)
set_option maxHeartbeats 8000000 in
set_option maxRecDepth 100000 in
theorem stopcocklaw14_PacerSpaced.calls (k : Nat) (A0 : Option Addr) (c0 : Nat) (l0 : List Int) (A1 : Option Addr) (c1 : Nat) (l1 : List Int) (a2 : Int) (a3 : Int) (r : Bool) (w : World) (hr0 : Kd.C (Kd.int .i64) w A0 l0.length l0) (hc0 : l0.length ≤ c0) (hr1 : Kd.C (Kd.int .i64) w A1 l1.length l1) (hc1 : l1.length ≤ c1) (h : stopcocklaw14_PacerSpaced.f k l0 l1 a2 a3 = some r) :
    Calls Try.prog 4 #[.slice A0 l0.length c0, .slice A1 l1.length c1, .int .i64 a2, .int .i64 a3] w fun e w' => e = .returned (.bool r) ∧ Below w.heap.size w w' := by
  have hu23 := Try.underlying23
  have HR0 := Aside0.mk hr0
  have HC0 := Aside0.mk hc0
  clear hr0 hc0
  have HR1 := Aside0.mk hr1
  have HC1 := Aside0.mk hc1
  clear hr1 hc1
  have HB := Aside0.mk (Below.refl w.heap.size w)
  have H : ((stopcocklaw14_alive.f).bind fun t132 => (if t132 = true then (stopcocklaw14_PacerSpaced.l0 k l0 l1 (wrap64 (1 + (Int.tmod (wrap64 ((Int.tmod a2 100000) + 100000)) 100000))) (Int.tmod (wrap64 ((Int.tmod a3 5000) + 5000)) 5000) ([] : List Int) ([] : List Int) 0 0 0) else (some false))) = some r := h
  clear h
  replace H := Option.bind_eq_some_iff.mp H
  obtain ⟨t132, A50, H⟩ := H
  replace H : (if t132 = true then (stopcocklaw14_PacerSpaced.l0 k l0 l1 (wrap64 (1 + (Int.tmod (wrap64 ((Int.tmod a2 100000) + 100000)) 100000))) (Int.tmod (wrap64 ((Int.tmod a3 5000) + 5000)) 5000) ([] : List Int) ([] : List Int) 0 0 0) else (some false)) = some r := H
  have A5 := Aside0.mk A50
  clear A50
  by_cases c6 : t132 = true
  · subst c6
    have H1 : (stopcocklaw14_PacerSpaced.l0 k l0 l1 (wrap64 (1 + (Int.tmod (wrap64 ((Int.tmod a2 100000) + 100000)) 100000))) (Int.tmod (wrap64 ((Int.tmod a3 5000) + 5000)) 5000) ([] : List Int) ([] : List Int) 0 0 0) = some r := by rw [if_pos rfl] at H; exact H
    clear H
    have H := H1
    clear H1
    have H' := Aside0.mk H
    clear H
    go_enter Try.func4, Try.ntmps4
    go_wp2_with (first | ((with_reducible refine gate_callee (f := 9) rfl ?_); refine goesL_ (some 20) rfl rfl Try.func9 (by kernel_rfl) rfl #[] rfl (by (try simp only [List.map_toArray, List.map_cons, List.map_nil]); first | done | rfl | (simp only [List.length_drop, List.length_take]; rfl)) ?_; (with_reducible refine (stopcocklaw14_alive.calls  true _ A5.out).mono ?_); rintro e w7 ⟨rfl, hb⟩; refine ⟨_, rfl, ?_⟩; have n0_ := Aside0.mk (below_step (by repeat (first | (with_reducible first | exact HB.out | apply below_alloc | apply pw_below_drewN | apply below_drew1) | exact HB.out)) hb); clear HB; have HB := n0_; clear n0_; (try clear hb); (try clear hb2); (try clear hk); (try clear hi)) | ((with_reducible refine gate_dst (N := 9) rfl ?_); (try (refine gate_guard (by rfl) ?_; dsimp only)); refine box_event ?hg (N := 9) ?hd (cs := #[.int .i64 0]) (t := 23) ?hr ?_; (case hd => rfl); (case hg => rfl); (case hr => first | (go_simp; done) | (go_simp; rfl)); intro gb133 hg w8 hbox hb; have n0_ := Aside0.mk (below_step (by repeat (first | (with_reducible first | exact HB.out | apply below_alloc | apply pw_below_drewN | apply below_drew1) | exact HB.out)) hb); have n1_ := Aside0.mk (hbox); have n2_ := Aside0.mk ((by rw [hg]; exact (below_size (by repeat (first | (with_reducible first | exact HB.out | apply below_alloc | apply pw_below_drewN | apply below_drew1) | exact HB.out))) : w.heap.size ≤ gb133)); have n3_ := Aside0.mk ((by rw [hg]; exact (below_size (by repeat (first | (with_reducible first | exact HB.out | apply below_alloc | apply pw_below_drewN | apply below_drew1) | exact HB.out))) : w.heap.size ≤ gb133)); clear HB; have HB := n0_; have BK133 := n1_; have GW133 := n2_; have GE133 := n3_; clear n0_ n1_ n2_ n3_; clear hb hbox hg))
    go_loopg [10, 11, 12, 13] k (fun kq v10 v11 v12 v13 w' => ∃ (x10_1 : List Int) (x11_1 : List Int) (x12_1 : Int) (x13_1 : Int) (x134000_1 : Int), v12 = .int .i64 x12_1 ∧ v13 = .int .i64 x13_1 ∧ Aside0 (stopcocklaw14_PacerSpaced.l0 kq l0 l1 (wrap64 (1 + (Int.tmod (wrap64 ((Int.tmod a2 100000) + 100000)) 100000))) (Int.tmod (wrap64 ((Int.tmod a3 5000) + 5000)) 5000) x10_1 x11_1 x12_1 x13_1 x134000_1 = some r) ∧ Aside0 (kq ≤ k) ∧ Aside0 (Kd.R (Kd.int .i64) 3 w' w.heap.size (fun k_ => some k_ ≠ (v11 : Value).ownBlock) v10 x10_1) ∧ Aside0 (Kd.R (Kd.int .i64) 3 w' w.heap.size (fun k_ => some k_ ≠ (v10 : Value).ownBlock) v11 x11_1) ∧ Aside0 (w'.heap[gb133]? = some (.cells #[.int .i64 x134000_1] 23 (0, 0))) ∧ Aside0 (Below w.heap.size w w'))
    case atStart => exact ⟨(([] : List Int)), (([] : List Int)), (0), (0), (0), (by first | rfl | (simp; done) | (simp [*]; done)), (by first | rfl | (simp; done) | (simp [*]; done)), H', ⟨Nat.le_refl _⟩, ⟨by first | exact Kd.R_nil _ _ _ _ _ | exact Kd.N_nil _ _ _ _ _ | exact Kd.V_nil _ _ _ _ _ | exact Kd.Q_nil _ _ _ _ _ | exact Kd.S_nil _ _ _ _ _⟩, ⟨by first | exact Kd.R_nil _ _ _ _ _ | exact Kd.N_nil _ _ _ _ _ | exact Kd.V_nil _ _ _ _ _ | exact Kd.Q_nil _ _ _ _ _ | exact Kd.S_nil _ _ _ _ _⟩, ⟨by (with_reducible repeat (first | refine blk_drewN ?_ _ | refine blk_drew ?_ | refine blk_alloc ?_ _)); exact BK133.out⟩, ⟨by repeat (first | (with_reducible first | exact HB.out | apply below_alloc | apply pw_below_drewN | apply below_drew1 | refine below_set ?_ GE133.out) | exact HB.out)⟩⟩
    case round =>
      clear H'
      try clear c1
      try clear p2
      try clear c4
      try clear c6
      try clear p6
      obtain ⟨x10_1, x11_1, x12_1, x13_1, x134000_1, rfl, rfl, HA, HK1, HO_10, HO_11, BK133, HB⟩ := hrel
      cases gk with
      | zero => exact absurd HA.out (by simp [stopcocklaw14_PacerSpaced.l0])
      | succ k1 =>
        have H := HA.out
        clear HA
        simp only [stopcocklaw14_PacerSpaced.l0] at H
        have HC9 := Aside0.mk H
        clear H
        go_upto_region 8 with (fail)
        go_cut [38] (fun v38 wc => ∃ (kq : Nat) (x38_8 : Bool), v38 = .bool x38_8 ∧ Aside0 (stopcocklaw14_PacerSpaced.j1 kq l0 l1 (wrap64 (1 + (Int.tmod (wrap64 ((Int.tmod a2 100000) + 100000)) 100000))) (Int.tmod (wrap64 ((Int.tmod a3 5000) + 5000)) 5000) x10_1 x11_1 x12_1 x13_1 x38_8 x134000_1 = some r) ∧ Aside0 (kq ≤ k1) ∧ Aside0 (Kd.R (Kd.int .i64) 3 wc w.heap.size (fun k_ => some k_ ≠ (u11 : Value).ownBlock) u10 x10_1) ∧ Aside0 (Kd.R (Kd.int .i64) 3 wc w.heap.size (fun k_ => some k_ ≠ (u10 : Value).ownBlock) u11 x11_1) ∧ Aside0 (wc.heap[gb133]? = some (.cells #[.int .i64 x134000_1] 23 (0, 0))) ∧ Aside0 (Below w.heap.size w wc))
        case first =>
          have H := HC9.out
          clear HC9
          by_cases c10 : x13_1 < (l0.length : Int)
          · rw [if_pos c10] at H
            have c10b0 : decide (x13_1 < (l0.length : Int)) = true := decide_eq_true c10
            clear c10
            (first | rw [c10b0] | (simp only [i64_w, i32_w]; rw [c10b0]) | skip)
            have H' := Aside0.mk H
            clear H
            go_wp2
            go_meet
            case rel => exact ⟨_, (decide (x13_1 < 60)), (by first | rfl | (simp; done) | (simp [*]; done)), H', ⟨by have := HK1.out; first | omega | exact Nat.le_refl _⟩, ⟨by (with_reducible repeat (first | apply Kd.R_alloc | apply Kd.R_drewN | apply Kd.R_drew)); exact HO_10.out⟩, ⟨by (with_reducible repeat (first | apply Kd.R_alloc | apply Kd.R_drewN | apply Kd.R_drew)); exact HO_11.out⟩, ⟨by (with_reducible repeat (first | refine blk_drewN ?_ _ | refine blk_drew ?_ | refine blk_alloc ?_ _)); exact BK133.out⟩, ⟨by repeat (first | (with_reducible first | exact HB.out | apply below_alloc | apply pw_below_drewN | apply below_drew1 | refine below_set ?_ GE133.out) | exact HB.out)⟩⟩
          · rw [if_neg c10] at H
            have c10b0 : decide (x13_1 < (l0.length : Int)) = false := decide_eq_false c10
            clear c10
            (first | rw [c10b0] | (simp only [i64_w, i32_w]; rw [c10b0]) | skip)
            have H' := Aside0.mk H
            clear H
            go_wp2
            go_meet
            case rel => exact ⟨_, (false), (by first | rfl | (simp; done) | (simp [*]; done)), H', ⟨by have := HK1.out; first | omega | exact Nat.le_refl _⟩, ⟨by (with_reducible repeat (first | apply Kd.R_alloc | apply Kd.R_drewN | apply Kd.R_drew)); exact HO_10.out⟩, ⟨by (with_reducible repeat (first | apply Kd.R_alloc | apply Kd.R_drewN | apply Kd.R_drew)); exact HO_11.out⟩, ⟨by (with_reducible repeat (first | refine blk_drewN ?_ _ | refine blk_drew ?_ | refine blk_alloc ?_ _)); exact BK133.out⟩, ⟨by repeat (first | (with_reducible first | exact HB.out | apply below_alloc | apply pw_below_drewN | apply below_drew1 | refine below_set ?_ GE133.out) | exact HB.out)⟩⟩
        case rest =>
          clear HC9
          try clear c1
          try clear p2
          try clear c4
          try clear c6
          try clear p6
          try clear c9
          try clear c10
          try clear c10b0
          try clear p2
          try clear p6
          obtain ⟨kq, x38_8, rfl, HA, HJ8, HO_10, HO_11, BK133, HB⟩ := hcut
          cases kq with
          | zero => exact absurd HA.out (by simp [stopcocklaw14_PacerSpaced.j1])
          | succ kj8 =>
            have H := HA.out
            clear HA
            simp only [stopcocklaw14_PacerSpaced.j1] at H
            by_cases c11 : x38_8 = true
            · subst c11
              have H1 : (if x13_1 < (l1.length : Int) then (if 0 ≤ x13_1 then (stopcocklaw14_PacerSpaced.j2 kj8 l0 l1 (wrap64 (1 + (Int.tmod (wrap64 ((Int.tmod a2 100000) + 100000)) 100000))) (Int.tmod (wrap64 ((Int.tmod a3 5000) + 5000)) 5000) x10_1 x11_1 (wrap64 (x12_1 + (Int.tmod (wrap64 ((Int.tmod (rd l1 x13_1) 2000) + 2000)) 2000))) x13_1 x134000_1) else (none)) else (stopcocklaw14_PacerSpaced.j2 kj8 l0 l1 (wrap64 (1 + (Int.tmod (wrap64 ((Int.tmod a2 100000) + 100000)) 100000))) (Int.tmod (wrap64 ((Int.tmod a3 5000) + 5000)) 5000) x10_1 x11_1 x12_1 x13_1 x134000_1)) = some r := by rw [if_pos rfl] at H; exact H
              clear H
              have H := H1
              clear H1
              have HC12 := Aside0.mk H
              clear H
              go_upto_if 44 with (fail)
              go_cut [12] (fun v12 wc => ∃ (kq : Nat) (x12_11 : Int), v12 = .int .i64 x12_11 ∧ Aside0 (stopcocklaw14_PacerSpaced.j2 kq l0 l1 (wrap64 (1 + (Int.tmod (wrap64 ((Int.tmod a2 100000) + 100000)) 100000))) (Int.tmod (wrap64 ((Int.tmod a3 5000) + 5000)) 5000) x10_1 x11_1 x12_11 x13_1 x134000_1 = some r) ∧ Aside0 (kq ≤ kj8) ∧ Aside0 (Kd.R (Kd.int .i64) 3 wc w.heap.size (fun k_ => some k_ ≠ (u11 : Value).ownBlock) u10 x10_1) ∧ Aside0 (Kd.R (Kd.int .i64) 3 wc w.heap.size (fun k_ => some k_ ≠ (u10 : Value).ownBlock) u11 x11_1) ∧ Aside0 (wc.heap[gb133]? = some (.cells #[.int .i64 x134000_1] 23 (0, 0))) ∧ Aside0 (Below w.heap.size w wc))
              case first =>
                have H := HC12.out
                clear HC12
                by_cases c13 : x13_1 < (l1.length : Int)
                · rw [if_pos c13] at H
                  have c13b0 : decide (x13_1 < (l1.length : Int)) = true := decide_eq_true c13
                  clear c13
                  (first | rw [c13b0] | (simp only [i64_w, i32_w]; rw [c13b0]) | skip)
                  by_cases c14 : 0 ≤ x13_1
                  · rw [if_pos c14] at H
                    have c14b0 : decide (0 ≤ x13_1) = true := decide_eq_true c14
                    clear c14
                    have H' := Aside0.mk H
                    clear H
                    have p134 : 0 ≤ (x13_1 : Int) := of_decide_eq_true (by first | (with_reducible assumption) | assumption)
                    have q134 : x13_1 < (l1.length : Int) := of_decide_eq_true (by first | (with_reducible assumption) | assumption)
                    obtain ⟨ad134, e134, hx134_0⟩ := Kd.at_int HR1.out x13_1 p134 q134
                    cases e134
                    replace hx134_0 := (HB.out.cell (World.block_lt_of_cell? w _ hx134_0)).trans hx134_0
                    replace p134 := eq_true p134
                    replace q134 := eq_true q134
                    go_wp2
                    go_meet
                    case rel => exact ⟨_, (wrap64 (x12_1 + (Int.tmod (wrap64 ((Int.tmod (rd l1 x13_1) 2000) + 2000)) 2000))), (by first | rfl | (simp; done) | (simp [*]; done)), H', ⟨by have := HK1.out; have := HJ8.out; first | omega | exact Nat.le_refl _⟩, ⟨by (with_reducible repeat (first | apply Kd.R_alloc | apply Kd.R_drewN | apply Kd.R_drew)); exact HO_10.out⟩, ⟨by (with_reducible repeat (first | apply Kd.R_alloc | apply Kd.R_drewN | apply Kd.R_drew)); exact HO_11.out⟩, ⟨by (with_reducible repeat (first | refine blk_drewN ?_ _ | refine blk_drew ?_ | refine blk_alloc ?_ _)); exact BK133.out⟩, ⟨by repeat (first | (with_reducible first | exact HB.out | apply below_alloc | apply pw_below_drewN | apply below_drew1 | refine below_set ?_ GE133.out) | exact HB.out)⟩⟩
                  · rw [if_neg c14] at H
                    exact absurd H (by simp)
                · rw [if_neg c13] at H
                  have c13b0 : decide (x13_1 < (l1.length : Int)) = false := decide_eq_false c13
                  clear c13
                  (first | rw [c13b0] | (simp only [i64_w, i32_w]; rw [c13b0]) | skip)
                  have H' := Aside0.mk H
                  clear H
                  go_wp2
                  go_meet
                  case rel => exact ⟨_, (x12_1), (by first | rfl | (simp; done) | (simp [*]; done)), H', ⟨by have := HK1.out; have := HJ8.out; first | omega | exact Nat.le_refl _⟩, ⟨by (with_reducible repeat (first | apply Kd.R_alloc | apply Kd.R_drewN | apply Kd.R_drew)); exact HO_10.out⟩, ⟨by (with_reducible repeat (first | apply Kd.R_alloc | apply Kd.R_drewN | apply Kd.R_drew)); exact HO_11.out⟩, ⟨by (with_reducible repeat (first | refine blk_drewN ?_ _ | refine blk_drew ?_ | refine blk_alloc ?_ _)); exact BK133.out⟩, ⟨by repeat (first | (with_reducible first | exact HB.out | apply below_alloc | apply pw_below_drewN | apply below_drew1 | refine below_set ?_ GE133.out) | exact HB.out)⟩⟩
              case rest =>
                clear HC12
                try clear c1
                try clear p1
                try clear q1
                try clear hx1
                try clear p2
                try clear c4
                try clear c6
                try clear p6
                try clear c9
                try clear c10
                try clear c10b0
                try clear c11
                try clear c13
                try clear c13b0
                try clear p13
                try clear q13
                try clear hx13
                try clear c14
                try clear c14b0
                try clear hx134_0
                try clear p134
                try clear p2
                try clear p6
                try clear q134
                obtain ⟨kq, x12_11, rfl, HA, HJ11, HO_10, HO_11, BK133, HB⟩ := hcut
                cases kq with
                | zero => exact absurd HA.out (by simp [stopcocklaw14_PacerSpaced.j2])
                | succ kj11 =>
                  have H := HA.out
                  clear HA
                  simp only [stopcocklaw14_PacerSpaced.j2] at H
                  by_cases c15 : 0 ≤ x13_1
                  · rw [if_pos c15] at H
                    have c15b0 : decide (0 ≤ x13_1) = true := decide_eq_true c15
                    clear c15
                    by_cases c16 : x13_1 < (l0.length : Int)
                    · rw [if_pos c16] at H
                      have c16b0 : decide (x13_1 < (l0.length : Int)) = true := decide_eq_true c16
                      clear c16
                      replace H := Option.bind_eq_some_iff.mp H
                      obtain ⟨⟨t136, t137, t138⟩, A170, H⟩ := H
                      replace H : ((stopcocklaw14_num.f t138).bind fun t140 => (if t140 = 0 then (if t137 < x12_11 then (stopcocklaw14_PacerSpaced.j3 kj11 l0 l1 (wrap64 (1 + (Int.tmod (wrap64 ((Int.tmod a2 100000) + 100000)) 100000))) (Int.tmod (wrap64 ((Int.tmod a3 5000) + 5000)) 5000) x10_1 x11_1 x12_11 x13_1 (wrap64 (1 + (Int.tmod (wrap64 ((Int.tmod (rd l0 x13_1) 1500) + 1500)) 1500))) t137 true t136) else (if (x10_1.length : Int) > 0 then (if 0 ≤ (wrap64 ((x10_1.length : Int) - 1)) then (if (wrap64 ((x10_1.length : Int) - 1)) < (x10_1.length : Int) then (stopcocklaw14_PacerSpaced.j3 kj11 l0 l1 (wrap64 (1 + (Int.tmod (wrap64 ((Int.tmod a2 100000) + 100000)) 100000))) (Int.tmod (wrap64 ((Int.tmod a3 5000) + 5000)) 5000) x10_1 x11_1 x12_11 x13_1 (wrap64 (1 + (Int.tmod (wrap64 ((Int.tmod (rd l0 x13_1) 1500) + 1500)) 1500))) t137 (decide (t137 < (rd x10_1 (wrap64 ((x10_1.length : Int) - 1))))) t136) else (none)) else (none)) else (stopcocklaw14_PacerSpaced.j3 kj11 l0 l1 (wrap64 (1 + (Int.tmod (wrap64 ((Int.tmod a2 100000) + 100000)) 100000))) (Int.tmod (wrap64 ((Int.tmod a3 5000) + 5000)) 5000) x10_1 x11_1 x12_11 x13_1 (wrap64 (1 + (Int.tmod (wrap64 ((Int.tmod (rd l0 x13_1) 1500) + 1500)) 1500))) t137 false t136))) else (stopcocklaw14_PacerSpaced.j3 kj11 l0 l1 (wrap64 (1 + (Int.tmod (wrap64 ((Int.tmod a2 100000) + 100000)) 100000))) (Int.tmod (wrap64 ((Int.tmod a3 5000) + 5000)) 5000) x10_1 x11_1 x12_11 x13_1 (wrap64 (1 + (Int.tmod (wrap64 ((Int.tmod (rd l0 x13_1) 1500) + 1500)) 1500))) t137 true t136))) = some r := H
                      have A17 := Aside0.mk A170
                      clear A170
                      have HC18 := Aside0.mk H
                      clear H
                      have p135 : 0 ≤ (x13_1 : Int) := of_decide_eq_true (by first | (with_reducible assumption) | assumption)
                      have q135 : x13_1 < (l0.length : Int) := of_decide_eq_true (by first | (with_reducible assumption) | assumption)
                      obtain ⟨ad135, e135, hx135_0⟩ := Kd.at_int HR0.out x13_1 p135 q135
                      cases e135
                      replace hx135_0 := (HB.out.cell (World.block_lt_of_cell? w _ hx135_0)).trans hx135_0
                      replace p135 := eq_true p135
                      replace q135 := eq_true q135
                      have hcz19_0 : wc.cell? ⟨gb133, 0, none⟩ = some (.int .i64 x134000_1) := (blk_cell BK133.out 0).trans rfl
                      have hfz19_0 := blk_frozen BK133.out 0
                      go_upto_region 14 with (first | ((with_reducible refine gate_callee (f := 6) rfl ?_); refine goesL_ (some 68) rfl rfl Try.func6 (by kernel_rfl) rfl #[.agg #[.int .i64 x134000_1], .int .i64 (wrap64 (1 + (Int.tmod (wrap64 ((Int.tmod (rd l0 x13_1) 1500) + 1500)) 1500))), .int .i64 (wrap64 (1 + (Int.tmod (wrap64 ((Int.tmod a2 100000) + 100000)) 100000))), .int .i64 (Int.tmod (wrap64 ((Int.tmod a3 5000) + 5000)) 5000), .int .i64 x12_11] rfl (by (try simp only [List.map_toArray, List.map_cons, List.map_nil]); first | done | rfl | (simp only [List.length_drop, List.length_take]; rfl)) ?_; (with_reducible refine (pacer_Depart.calls x134000_1 (wrap64 (1 + (Int.tmod (wrap64 ((Int.tmod (rd l0 x13_1) 1500) + 1500)) 1500))) (wrap64 (1 + (Int.tmod (wrap64 ((Int.tmod a2 100000) + 100000)) 100000))) (Int.tmod (wrap64 ((Int.tmod a3 5000) + 5000)) 5000) x12_11 t136 t137 t138 _ A17.out).mono ?_); rintro e w20 ⟨rfl, hb⟩; refine ⟨_, rfl, ?_⟩; have n0_ := Aside0.mk (Kd.R_below (by (with_reducible repeat (first | apply Kd.R_alloc | apply Kd.R_drewN | apply Kd.R_drew)); exact HO_10.out) hb); have n1_ := Aside0.mk (Kd.R_below (by (with_reducible repeat (first | apply Kd.R_alloc | apply Kd.R_drewN | apply Kd.R_drew)); exact HO_11.out) hb); have n2_ := Aside0.mk (blk_below (g := gb133) (o := .cells #[.int .i64 x134000_1] 23 (0, 0)) (by (with_reducible repeat (first | refine blk_drewN ?_ _ | refine blk_drew ?_ | refine blk_alloc ?_ _)); exact BK133.out) hb); have n3_ := Aside0.mk (below_step (by repeat (first | (with_reducible first | exact HB.out | apply below_alloc | apply pw_below_drewN | apply below_drew1 | refine below_set ?_ GE133.out) | exact HB.out)) hb); clear HO_10; clear HO_11; clear BK133; clear HB; have HO_10 := n0_; have HO_11 := n1_; have BK133 := n2_; have HB := n3_; clear n0_ n1_ n2_ n3_; (try clear hb); (try clear hb2); (try clear hk); (try clear hi)) | ((with_reducible refine gate_dst (N := 15) rfl ?_); (try (refine gate_guard (by rfl) ?_; dsimp only)); refine box_event ?hg (N := 15) ?hd (cs := #[.int .i64 0]) (t := 23) ?hr ?_; (case hd => rfl); (case hg => rfl); (case hr => first | (go_simp; done) | (go_simp; rfl)); intro gb139 hg w21 hbox hb; have n0_ := Aside0.mk (Kd.R_below (by (with_reducible repeat (first | apply Kd.R_alloc | apply Kd.R_drewN | apply Kd.R_drew)); exact HO_10.out) hb); have n1_ := Aside0.mk (Kd.R_below (by (with_reducible repeat (first | apply Kd.R_alloc | apply Kd.R_drewN | apply Kd.R_drew)); exact HO_11.out) hb); have n2_ := Aside0.mk (blk_below (g := gb133) (o := .cells #[.int .i64 x134000_1] 23 (0, 0)) (by (with_reducible repeat (first | refine blk_drewN ?_ _ | refine blk_drew ?_ | refine blk_alloc ?_ _)); exact BK133.out) hb); have n3_ := Aside0.mk (below_step (by repeat (first | (with_reducible first | exact HB.out | apply below_alloc | apply pw_below_drewN | apply below_drew1 | refine below_set ?_ GE133.out) | exact HB.out)) hb); have n4_ := Aside0.mk (hbox); have n5_ := Aside0.mk ((by rw [hg]; exact (below_size (by repeat (first | (with_reducible first | exact HB.out | apply below_alloc | apply pw_below_drewN | apply below_drew1 | refine below_set ?_ GE133.out) | exact HB.out))) : w.heap.size ≤ gb139)); have n6_ := Aside0.mk ((by rw [hg]; exact (below_size (by repeat (first | (with_reducible first | exact HB.out | apply below_alloc | apply pw_below_drewN | apply below_drew1 | refine below_set ?_ GE133.out) | exact HB.out))) : w.heap.size ≤ gb139)); have n7_ := Aside0.mk ((by rw [hg]; exact Nat.ne_of_lt (blk_lt (g := gb133) (o := .cells #[.int .i64 x134000_1] 23 (0, 0)) (by (with_reducible repeat (first | refine blk_drewN ?_ _ | refine blk_drew ?_ | refine blk_alloc ?_ _)); exact BK133.out)) : gb133 ≠ gb139)); have n8_ := Aside0.mk ((by rw [hg]; exact Nat.ne_of_gt (blk_lt (g := gb133) (o := .cells #[.int .i64 x134000_1] 23 (0, 0)) (by (with_reducible repeat (first | refine blk_drewN ?_ _ | refine blk_drew ?_ | refine blk_alloc ?_ _)); exact BK133.out)) : gb139 ≠ gb133)); clear HO_10; clear HO_11; clear BK133; clear HB; have HO_10 := n0_; have HO_11 := n1_; have BK133 := n2_; have HB := n3_; have BK139 := n4_; have GW139 := n5_; have GE139 := n6_; have NB133_139 := n7_; have NB139_133 := n8_; clear n0_ n1_ n2_ n3_ n4_ n5_ n6_ n7_ n8_; clear hb hbox hg; have hnb22 := NB139_133.out; have hnc22 := NB133_139.out; have hcz23_0 : w21.cell? ⟨gb139, 0, none⟩ = some (.int .i64 0) := (blk_cell BK139.out 0).trans rfl; have hfz23_0 := blk_frozen BK139.out 0))
                      (try simp only [Act.put, List.setIfInBounds_toArray, List.set_cons_zero, List.set_cons_succ])
                      go_cut [94] (fun v94 wc => ∃ (kq : Nat) (x94_17 : Bool), v94 = .bool x94_17 ∧ Aside0 (stopcocklaw14_PacerSpaced.j3 kq l0 l1 (wrap64 (1 + (Int.tmod (wrap64 ((Int.tmod a2 100000) + 100000)) 100000))) (Int.tmod (wrap64 ((Int.tmod a3 5000) + 5000)) 5000) x10_1 x11_1 x12_11 x13_1 (wrap64 (1 + (Int.tmod (wrap64 ((Int.tmod (rd l0 x13_1) 1500) + 1500)) 1500))) t137 x94_17 t136 = some r) ∧ Aside0 (kq ≤ kj11) ∧ Aside0 (Kd.R (Kd.int .i64) 3 wc w.heap.size (fun k_ => some k_ ≠ (u11 : Value).ownBlock) u10 x10_1) ∧ Aside0 (Kd.R (Kd.int .i64) 3 wc w.heap.size (fun k_ => some k_ ≠ (u10 : Value).ownBlock) u11 x11_1) ∧ Aside0 (wc.heap[gb133]? = some (.cells #[.int .i64 x134000_1] 23 (0, 0))) ∧ Aside0 (wc.heap[gb139]? = some (.cells #[.int .i64 t136] 23 (0, 0))) ∧ Aside0 (Below w.heap.size w wc))
                      case first =>
                        have H := HC18.out
                        clear HC18
                        replace H := Option.bind_eq_some_iff.mp H
                        obtain ⟨t140, A240, H⟩ := H
                        replace H : (if t140 = 0 then (if t137 < x12_11 then (stopcocklaw14_PacerSpaced.j3 kj11 l0 l1 (wrap64 (1 + (Int.tmod (wrap64 ((Int.tmod a2 100000) + 100000)) 100000))) (Int.tmod (wrap64 ((Int.tmod a3 5000) + 5000)) 5000) x10_1 x11_1 x12_11 x13_1 (wrap64 (1 + (Int.tmod (wrap64 ((Int.tmod (rd l0 x13_1) 1500) + 1500)) 1500))) t137 true t136) else (if (x10_1.length : Int) > 0 then (if 0 ≤ (wrap64 ((x10_1.length : Int) - 1)) then (if (wrap64 ((x10_1.length : Int) - 1)) < (x10_1.length : Int) then (stopcocklaw14_PacerSpaced.j3 kj11 l0 l1 (wrap64 (1 + (Int.tmod (wrap64 ((Int.tmod a2 100000) + 100000)) 100000))) (Int.tmod (wrap64 ((Int.tmod a3 5000) + 5000)) 5000) x10_1 x11_1 x12_11 x13_1 (wrap64 (1 + (Int.tmod (wrap64 ((Int.tmod (rd l0 x13_1) 1500) + 1500)) 1500))) t137 (decide (t137 < (rd x10_1 (wrap64 ((x10_1.length : Int) - 1))))) t136) else (none)) else (none)) else (stopcocklaw14_PacerSpaced.j3 kj11 l0 l1 (wrap64 (1 + (Int.tmod (wrap64 ((Int.tmod a2 100000) + 100000)) 100000))) (Int.tmod (wrap64 ((Int.tmod a3 5000) + 5000)) 5000) x10_1 x11_1 x12_11 x13_1 (wrap64 (1 + (Int.tmod (wrap64 ((Int.tmod (rd l0 x13_1) 1500) + 1500)) 1500))) t137 false t136))) else (stopcocklaw14_PacerSpaced.j3 kj11 l0 l1 (wrap64 (1 + (Int.tmod (wrap64 ((Int.tmod a2 100000) + 100000)) 100000))) (Int.tmod (wrap64 ((Int.tmod a3 5000) + 5000)) 5000) x10_1 x11_1 x12_11 x13_1 (wrap64 (1 + (Int.tmod (wrap64 ((Int.tmod (rd l0 x13_1) 1500) + 1500)) 1500))) t137 true t136)) = some r := H
                        have A24 := Aside0.mk A240
                        clear A240
                        by_cases c25 : t140 = 0
                        · rw [if_pos c25] at H
                          have c25b0 : (t140 == 0) = true := beq_iff_eq.mpr c25
                          have c25b1 : (t140 != 0) = false := bne_eq_false_iff_eq.mpr c25
                          clear c25
                          (first | rw [c25b0] | (simp only [i64_w, i32_w]; rw [c25b0]) | skip)
                          by_cases c26 : t137 < x12_11
                          · rw [if_pos c26] at H
                            have c26b0 : decide (t137 < x12_11) = true := decide_eq_true c26
                            clear c26
                            have H' := Aside0.mk H
                            clear H
                            go_wp2_with (first | ((with_reducible refine gate_callee (f := 8) rfl ?_); refine goesL_ (some 73) rfl rfl Try.func8 (by kernel_rfl) rfl #[.int .i64 t138] rfl (by (try simp only [List.map_toArray, List.map_cons, List.map_nil]); first | done | rfl | (simp only [List.length_drop, List.length_take]; rfl)) ?_; (with_reducible refine (stopcocklaw14_num.calls t138 t140 _ A24.out).mono ?_); rintro e w' ⟨rfl, ⟨nd, rfl⟩⟩; refine ⟨_, rfl, ?_⟩))
                            go_meet
                            case rel => exact ⟨_, (true), (by first | rfl | (simp; done) | (simp [*]; done)), H', ⟨by have := HK1.out; have := HJ8.out; have := HJ11.out; first | omega | exact Nat.le_refl _⟩, ⟨by (with_reducible repeat (first | apply Kd.R_alloc | apply Kd.R_drewN | apply Kd.R_drew)); exact Kd.R_mono (Kd.R_far (p := ⟨gb139, 0, none⟩) (Kd.R_types HO_10.out BK139.out (by decide)) (fun _ hk => hk.2) (.int .i64 t136)) (fun _ hk => hk.1)⟩, ⟨by (with_reducible repeat (first | apply Kd.R_alloc | apply Kd.R_drewN | apply Kd.R_drew)); exact Kd.R_mono (Kd.R_far (p := ⟨gb139, 0, none⟩) (Kd.R_types HO_11.out BK139.out (by decide)) (fun _ hk => hk.2) (.int .i64 t136)) (fun _ hk => hk.1)⟩, ⟨by (with_reducible repeat (first | refine blk_drewN ?_ _ | refine blk_drew ?_ | refine blk_alloc ?_ _)); refine blk_far ?_ NB133_139.out _; (with_reducible repeat (first | refine blk_drewN ?_ _ | refine blk_drew ?_ | refine blk_alloc ?_ _)); exact BK133.out⟩, ⟨by (with_reducible repeat (first | refine blk_drewN ?_ _ | refine blk_drew ?_ | refine blk_alloc ?_ _)); refine blk_put (cs := #[.int .i64 0]) ?_ 0 _ rfl; (with_reducible repeat (first | refine blk_drewN ?_ _ | refine blk_drew ?_ | refine blk_alloc ?_ _)); exact BK139.out⟩, ⟨by repeat (first | (with_reducible first | exact HB.out | apply below_alloc | apply pw_below_drewN | apply below_drew1 | refine below_set ?_ GE133.out | refine below_set ?_ GE139.out) | exact HB.out)⟩⟩
                          · rw [if_neg c26] at H
                            have c26b0 : decide (t137 < x12_11) = false := decide_eq_false c26
                            clear c26
                            by_cases c27 : (x10_1.length : Int) > 0
                            · rw [if_pos c27] at H
                              have c27b0 : decide (0 < (x10_1.length : Int)) = true := decide_eq_true c27
                              have c27b1 : decide (0 < x10_1.length) = true := decide_eq_true (by omega)
                              clear c27
                              obtain ⟨ji28, hji28⟩ : ∃ j_ : Int, (wrap64 ((x10_1.length : Int) - 1)) = j_ := ⟨_, rfl⟩
                              replace H : (if 0 ≤ (ji28) then (if (ji28) < (x10_1.length : Int) then (stopcocklaw14_PacerSpaced.j3 kj11 l0 l1 (wrap64 (1 + (Int.tmod (wrap64 ((Int.tmod a2 100000) + 100000)) 100000))) (Int.tmod (wrap64 ((Int.tmod a3 5000) + 5000)) 5000) x10_1 x11_1 x12_11 x13_1 (wrap64 (1 + (Int.tmod (wrap64 ((Int.tmod (rd l0 x13_1) 1500) + 1500)) 1500))) t137 (decide (t137 < (rd x10_1 (ji28)))) t136) else (none)) else (none)) = some r := by first | (rw [hji28] at H; exact H) | (simp only [hji28] at H ⊢; exact H)
                              (try rw [hji28] at A24)
                              have hji28w : (IntKind.i64.wrap ((x10_1.length : Int) - 1)) = ji28 := (i64_w _).trans hji28
                              by_cases c29 : 0 ≤ (ji28)
                              · rw [if_pos c29] at H
                                have c29b0 : decide (0 ≤ (ji28)) = true := decide_eq_true c29
                                clear c29
                                by_cases c30 : (ji28) < (x10_1.length : Int)
                                · rw [if_pos c30] at H
                                  have c30b0 : decide ((ji28) < (x10_1.length : Int)) = true := decide_eq_true c30
                                  clear c30
                                  have H' := Aside0.mk H
                                  clear H
                                  go_wp2_with (first | ((with_reducible refine gate_callee (f := 8) rfl ?_); refine goesL_ (some 73) rfl rfl Try.func8 (by kernel_rfl) rfl #[.int .i64 t138] rfl (by (try simp only [List.map_toArray, List.map_cons, List.map_nil]); first | done | rfl | (simp only [List.length_drop, List.length_take]; rfl)) ?_; (with_reducible refine (stopcocklaw14_num.calls t138 t140 _ A24.out).mono ?_); rintro e w' ⟨rfl, ⟨nd, rfl⟩⟩; refine ⟨_, rfl, ?_⟩; obtain ⟨Ao31, co31, eo31⟩ := Kd.R_slice HO_10.out; subst eo31; have p141 : 0 ≤ ((ji28) : Int) := of_decide_eq_true (by first | (with_reducible assumption) | assumption); have q141 : (ji28) < (x10_1.length : Int) := of_decide_eq_true (by first | (with_reducible assumption) | assumption); obtain ⟨ad141, e141, hx141_0⟩ := Kd.at_int (Kd.R_reads' HO_10.out).2.2 (ji28) p141 q141; cases e141; have hn141_0 : ad141.block ≠ gb139 := Kd.own_blk (Kd.R_ne HO_10.out BK139.out (by decide)); replace hx141_0 := (cell_far (p := ⟨gb139, 0, none⟩) (by first | (rw [add_block]; exact hn141_0) | (show (Addr.add _ _).block ≠ _; rw [add_block]; exact hn141_0) | exact hn141_0) (.int .i64 t136)).trans hx141_0; clear hn141_0; replace p141 := eq_true p141; replace q141 := eq_true q141))
                                  go_meet
                                  case rel => exact ⟨_, (decide (t137 < (rd x10_1 (ji28)))), (by first | rfl | (simp; done) | (simp only [← hji28] <;> (first | rfl | simp)) | (simp [*]; done)), H', ⟨by have := HK1.out; have := HJ8.out; have := HJ11.out; first | omega | exact Nat.le_refl _⟩, ⟨by (with_reducible repeat (first | apply Kd.R_alloc | apply Kd.R_drewN | apply Kd.R_drew)); exact Kd.R_mono (Kd.R_far (p := ⟨gb139, 0, none⟩) (Kd.R_types HO_10.out BK139.out (by decide)) (fun _ hk => hk.2) (.int .i64 t136)) (fun _ hk => hk.1)⟩, ⟨by (with_reducible repeat (first | apply Kd.R_alloc | apply Kd.R_drewN | apply Kd.R_drew)); exact Kd.R_mono (Kd.R_far (p := ⟨gb139, 0, none⟩) (Kd.R_types HO_11.out BK139.out (by decide)) (fun _ hk => hk.2) (.int .i64 t136)) (fun _ hk => hk.1)⟩, ⟨by (with_reducible repeat (first | refine blk_drewN ?_ _ | refine blk_drew ?_ | refine blk_alloc ?_ _)); refine blk_far ?_ NB133_139.out _; (with_reducible repeat (first | refine blk_drewN ?_ _ | refine blk_drew ?_ | refine blk_alloc ?_ _)); exact BK133.out⟩, ⟨by (with_reducible repeat (first | refine blk_drewN ?_ _ | refine blk_drew ?_ | refine blk_alloc ?_ _)); refine blk_put (cs := #[.int .i64 0]) ?_ 0 _ rfl; (with_reducible repeat (first | refine blk_drewN ?_ _ | refine blk_drew ?_ | refine blk_alloc ?_ _)); exact BK139.out⟩, ⟨by repeat (first | (with_reducible first | exact HB.out | apply below_alloc | apply pw_below_drewN | apply below_drew1 | refine below_set ?_ GE133.out | refine below_set ?_ GE139.out) | exact HB.out)⟩⟩
                                · rw [if_neg c30] at H
                                  exact absurd H (by simp)
                              · rw [if_neg c29] at H
                                exact absurd H (by simp)
                            · rw [if_neg c27] at H
                              have c27b0 : decide (0 < (x10_1.length : Int)) = false := decide_eq_false c27
                              have c27b1 : decide (0 < x10_1.length) = false := decide_eq_false (by omega)
                              clear c27
                              have H' := Aside0.mk H
                              clear H
                              go_wp2_with (first | ((with_reducible refine gate_callee (f := 8) rfl ?_); refine goesL_ (some 73) rfl rfl Try.func8 (by kernel_rfl) rfl #[.int .i64 t138] rfl (by (try simp only [List.map_toArray, List.map_cons, List.map_nil]); first | done | rfl | (simp only [List.length_drop, List.length_take]; rfl)) ?_; (with_reducible refine (stopcocklaw14_num.calls t138 t140 _ A24.out).mono ?_); rintro e w' ⟨rfl, ⟨nd, rfl⟩⟩; refine ⟨_, rfl, ?_⟩; obtain ⟨Ao32, co32, eo32⟩ := Kd.R_slice HO_10.out; subst eo32))
                              go_meet
                              case rel => exact ⟨_, (false), (by first | rfl | (simp; done) | (simp [*]; done)), H', ⟨by have := HK1.out; have := HJ8.out; have := HJ11.out; first | omega | exact Nat.le_refl _⟩, ⟨by (with_reducible repeat (first | apply Kd.R_alloc | apply Kd.R_drewN | apply Kd.R_drew)); exact Kd.R_mono (Kd.R_far (p := ⟨gb139, 0, none⟩) (Kd.R_types HO_10.out BK139.out (by decide)) (fun _ hk => hk.2) (.int .i64 t136)) (fun _ hk => hk.1)⟩, ⟨by (with_reducible repeat (first | apply Kd.R_alloc | apply Kd.R_drewN | apply Kd.R_drew)); exact Kd.R_mono (Kd.R_far (p := ⟨gb139, 0, none⟩) (Kd.R_types HO_11.out BK139.out (by decide)) (fun _ hk => hk.2) (.int .i64 t136)) (fun _ hk => hk.1)⟩, ⟨by (with_reducible repeat (first | refine blk_drewN ?_ _ | refine blk_drew ?_ | refine blk_alloc ?_ _)); refine blk_far ?_ NB133_139.out _; (with_reducible repeat (first | refine blk_drewN ?_ _ | refine blk_drew ?_ | refine blk_alloc ?_ _)); exact BK133.out⟩, ⟨by (with_reducible repeat (first | refine blk_drewN ?_ _ | refine blk_drew ?_ | refine blk_alloc ?_ _)); refine blk_put (cs := #[.int .i64 0]) ?_ 0 _ rfl; (with_reducible repeat (first | refine blk_drewN ?_ _ | refine blk_drew ?_ | refine blk_alloc ?_ _)); exact BK139.out⟩, ⟨by repeat (first | (with_reducible first | exact HB.out | apply below_alloc | apply pw_below_drewN | apply below_drew1 | refine below_set ?_ GE133.out | refine below_set ?_ GE139.out) | exact HB.out)⟩⟩
                        · rw [if_neg c25] at H
                          have c25b0 : (t140 == 0) = false := beq_eq_false_iff_ne.mpr c25
                          have c25b1 : (t140 != 0) = true := bne_iff_ne.mpr c25
                          (first | rw [c25b0] | (simp only [i64_w, i32_w]; rw [c25b0]) | skip)
                          have H' := Aside0.mk H
                          clear H
                          go_wp2_with (first | ((with_reducible refine gate_callee (f := 8) rfl ?_); refine goesL_ (some 73) rfl rfl Try.func8 (by kernel_rfl) rfl #[.int .i64 t138] rfl (by (try simp only [List.map_toArray, List.map_cons, List.map_nil]); first | done | rfl | (simp only [List.length_drop, List.length_take]; rfl)) ?_; (with_reducible refine (stopcocklaw14_num.calls t138 t140 _ A24.out).mono ?_); rintro e w' ⟨rfl, ⟨nd, rfl⟩⟩; refine ⟨_, rfl, ?_⟩))
                          go_meet
                          case rel => exact ⟨_, (true), (by first | rfl | (simp; done) | (simp [*]; done)), H', ⟨by have := HK1.out; have := HJ8.out; have := HJ11.out; first | omega | exact Nat.le_refl _⟩, ⟨by (with_reducible repeat (first | apply Kd.R_alloc | apply Kd.R_drewN | apply Kd.R_drew)); exact Kd.R_mono (Kd.R_far (p := ⟨gb139, 0, none⟩) (Kd.R_types HO_10.out BK139.out (by decide)) (fun _ hk => hk.2) (.int .i64 t136)) (fun _ hk => hk.1)⟩, ⟨by (with_reducible repeat (first | apply Kd.R_alloc | apply Kd.R_drewN | apply Kd.R_drew)); exact Kd.R_mono (Kd.R_far (p := ⟨gb139, 0, none⟩) (Kd.R_types HO_11.out BK139.out (by decide)) (fun _ hk => hk.2) (.int .i64 t136)) (fun _ hk => hk.1)⟩, ⟨by (with_reducible repeat (first | refine blk_drewN ?_ _ | refine blk_drew ?_ | refine blk_alloc ?_ _)); refine blk_far ?_ NB133_139.out _; (with_reducible repeat (first | refine blk_drewN ?_ _ | refine blk_drew ?_ | refine blk_alloc ?_ _)); exact BK133.out⟩, ⟨by (with_reducible repeat (first | refine blk_drewN ?_ _ | refine blk_drew ?_ | refine blk_alloc ?_ _)); refine blk_put (cs := #[.int .i64 0]) ?_ 0 _ rfl; (with_reducible repeat (first | refine blk_drewN ?_ _ | refine blk_drew ?_ | refine blk_alloc ?_ _)); exact BK139.out⟩, ⟨by repeat (first | (with_reducible first | exact HB.out | apply below_alloc | apply pw_below_drewN | apply below_drew1 | refine below_set ?_ GE133.out | refine below_set ?_ GE139.out) | exact HB.out)⟩⟩
                      case rest =>
                        clear HC18
                        try clear c1
                        try clear p1
                        try clear q1
                        try clear hx1
                        try clear c2
                        try clear p2
                        try clear c3
                        try clear c4
                        try clear c6
                        try clear p6
                        try clear c8
                        try clear c9
                        try clear c10
                        try clear c10b0
                        try clear c11
                        try clear c13
                        try clear c13b0
                        try clear p13
                        try clear q13
                        try clear hx13
                        try clear c14
                        try clear c14b0
                        try clear p14
                        try clear q14
                        try clear hx14
                        try clear c15
                        try clear c15b0
                        try clear c16
                        try clear c16b0
                        try clear c22
                        try clear c25
                        try clear c25b0
                        try clear c25b1
                        try clear c26
                        try clear c26b0
                        try clear c27
                        try clear c27b0
                        try clear c27b1
                        try clear c29
                        try clear c29b0
                        try clear c30
                        try clear c30b0
                        try clear hcz19_0
                        try clear hcz23_0
                        try clear hfz19_0
                        try clear hfz23_0
                        try clear hx134_0
                        try clear hx135_0
                        try clear hx141_0
                        try clear p1
                        try clear p13
                        try clear p134
                        try clear p135
                        try clear p141
                        try clear p2
                        try clear p6
                        try clear q1
                        try clear q13
                        try clear q134
                        try clear q135
                        try clear q141
                        obtain ⟨kq, x94_17, rfl, HA, HJ17, HO_10, HO_11, BK133, BK139, HB⟩ := hcut
                        cases kq with
                        | zero => exact absurd HA.out (by simp [stopcocklaw14_PacerSpaced.j3])
                        | succ kj17 =>
                          have H := HA.out
                          clear HA
                          simp only [stopcocklaw14_PacerSpaced.j3] at H
                          by_cases c33 : x94_17 = true
                          · subst c33
                            have H1 : (some false) = some r := by rw [if_pos rfl] at H; exact H
                            clear H
                            have H := H1
                            clear H1
                            obtain rfl := Option.some.inj H
                            go_wp2
                            go_ret
                            exact ⟨by first | rfl | (simp [errW_none, errW_some] <;> rfl) | (simp [*, errW_none, errW_some] <;> rfl), by repeat (first | (with_reducible first | exact HB.out | apply below_alloc | apply pw_below_drewN | apply below_drew1 | refine below_set ?_ GE133.out | refine below_set ?_ GE139.out) | exact HB.out)⟩
                          · replace c33 := Bool.eq_false_iff.mpr c33
                            subst c33
                            have H1 : (if x10_1.length < 17592186044416 then (if x11_1.length < 17592186044416 then (stopcocklaw14_PacerSpaced.l1 kj17 l0 l1 (wrap64 (1 + (Int.tmod (wrap64 ((Int.tmod a2 100000) + 100000)) 100000))) (Int.tmod (wrap64 ((Int.tmod a3 5000) + 5000)) 5000) (x10_1 ++ [t137]) (x11_1 ++ [(wrap64 (1 + (Int.tmod (wrap64 ((Int.tmod (rd l0 x13_1) 1500) + 1500)) 1500)))]) x12_11 x13_1 t137 0 x13_1 t136) else (none)) else (none)) = some r := by rw [if_neg (show ¬ (false = true) by decide)] at H; exact H
                            clear H
                            have H := H1
                            clear H1
                            by_cases c34 : x10_1.length < 17592186044416
                            · rw [if_pos c34] at H
                              have LMc34 := Aside0.mk c34
                              clear c34
                              obtain ⟨y142, hy142⟩ : ∃ y_ : List Int, y_ = (x10_1 ++ [t137]) := ⟨_, rfl⟩
                              replace H : (if x11_1.length < 17592186044416 then (stopcocklaw14_PacerSpaced.l1 kj17 l0 l1 (wrap64 (1 + (Int.tmod (wrap64 ((Int.tmod a2 100000) + 100000)) 100000))) (Int.tmod (wrap64 ((Int.tmod a3 5000) + 5000)) 5000) y142 (x11_1 ++ [(wrap64 (1 + (Int.tmod (wrap64 ((Int.tmod (rd l0 x13_1) 1500) + 1500)) 1500)))]) x12_11 x13_1 t137 0 x13_1 t136) else (none)) = some r := by first | (rw [hy142]; with_reducible exact H) | (have H2_ := (Option.bind_some _ _).symm.trans H; rw [hy142]; with_reducible exact H2_) | (have H2_ := (Option.bind_some _ _).symm.trans H; with_reducible exact H2_) | with_reducible exact H | (rw [hy142]; exact H) | exact H
                              have Ny142 := Aside0.mk hy142
                              clear hy142
                              by_cases c35 : x11_1.length < 17592186044416
                              · rw [if_pos c35] at H
                                have LMc35 := Aside0.mk c35
                                clear c35
                                obtain ⟨y145, hy145⟩ : ∃ y_ : List Int, y_ = (x11_1 ++ [(wrap64 (1 + (Int.tmod (wrap64 ((Int.tmod (rd l0 x13_1) 1500) + 1500)) 1500)))]) := ⟨_, rfl⟩
                                replace H : (stopcocklaw14_PacerSpaced.l1 kj17 l0 l1 (wrap64 (1 + (Int.tmod (wrap64 ((Int.tmod a2 100000) + 100000)) 100000))) (Int.tmod (wrap64 ((Int.tmod a3 5000) + 5000)) 5000) y142 y145 x12_11 x13_1 t137 0 x13_1 t136) = some r := by first | (rw [hy145]; with_reducible exact H) | (have H2_ := (Option.bind_some _ _).symm.trans H; rw [hy145]; with_reducible exact H2_) | (have H2_ := (Option.bind_some _ _).symm.trans H; with_reducible exact H2_) | with_reducible exact H | (rw [hy145]; exact H) | exact H
                                have Ny145 := Aside0.mk hy145
                                clear hy145
                                have H' := Aside0.mk H
                                clear H
                                have hnb36 := NB139_133.out
                                have hnc36 := NB133_139.out
                                have hcz37_0 : wc.cell? ⟨gb139, 0, none⟩ = some (.int .i64 t136) := (blk_cell BK139.out 0).trans rfl
                                have hfz37_0 := blk_frozen BK139.out 0
                                have hcz38_0 : wc.cell? ⟨gb133, 0, none⟩ = some (.int .i64 x134000_1) := (blk_cell BK133.out 0).trans rfl
                                have hfz38_0 := blk_frozen BK133.out 0
                                go_wp2_with (first | ((with_reducible refine gate_builtin (b := .append) (xs := #[.tmp 96, .tmp 98]) rfl ?_); (try (refine gate_guard (by rfl) ?_; dsimp only)); at_builtin; refine Kd.R_append (Kd.int .i64) (w0 := w) w.heap.size rfl (.tmp 96) (.tmp 98) 32 3 (.int .i64 0) 8 rfl Try.underlying32 info3 rfl (by decide) (by omega) u10 x10_1 t137 [.int .i64 t137] (fun k_ => some k_ ≠ (u11 : Value).ownBlock) (fun _ => False) rfl (by first | (go_simp; done) | (go_simp; rfl)) ?aP (fun _ hk => hk.elim) ?aF ?aO ?aB ?aS ?aL ?_; (case aP => exact rfl); (case aB => exact (by repeat (first | (with_reducible first | exact HB.out | apply below_alloc | apply pw_below_drewN | apply below_drew1 | refine below_set ?_ GE133.out | refine below_set ?_ GE139.out) | exact HB.out))); (case aF => exact (fun k_ hk => Kd.fresh' (Kd.R_lt (by (with_reducible repeat (first | apply Kd.R_alloc | apply Kd.R_drewN | apply Kd.R_drew)); exact (Kd.R_mono (Kd.R_far (p := ⟨gb133, 0, none⟩) (Kd.R_types HO_11.out BK133.out (by decide)) (fun _ hk => hk.2) (.int .i64 t136)) (fun _ h_ => h_.1)))) k_ hk)); (case aO => exact (by (with_reducible repeat (first | apply Kd.R_alloc | apply Kd.R_drewN | apply Kd.R_drew)); exact Kd.R_mono (Kd.R_far (p := ⟨gb133, 0, none⟩) (Kd.R_types HO_10.out BK133.out (by decide)) (fun _ hk => hk.2) (.int .i64 t136)) (fun _ hk => hk.1))); (case aS => exact (below_size (by repeat (first | (with_reducible first | exact HB.out | apply below_alloc | apply pw_below_drewN | apply below_drew1 | refine below_set ?_ GE133.out | refine below_set ?_ GE139.out) | exact HB.out)))); (case aL => have := LMc34.out; omega); intro v143 w39 ho hb hg hat; rw [← Ny142.out] at ho; have n0_ := Aside0.mk (Kd.R_after (ok := (fun _ => True)) (by (with_reducible repeat (first | apply Kd.R_alloc | apply Kd.R_drewN | apply Kd.R_drew)); exact Kd.R_mono (Kd.R_far (p := ⟨gb133, 0, none⟩) (Kd.R_types HO_11.out BK133.out (by decide)) (fun _ hk => hk.2) (.int .i64 t136)) (fun _ hk => ⟨trivial, hk.1⟩)) hg hat); have n1_ := Aside0.mk (blk_grown (g := gb133) (o := .cells #[.int .i64 t136] 23 (0, 0)) (by (with_reducible repeat (first | refine blk_drewN ?_ _ | refine blk_drew ?_ | refine blk_alloc ?_ _)); refine blk_put (cs := #[.int .i64 x134000_1]) ?_ 0 _ rfl; (with_reducible repeat (first | refine blk_drewN ?_ _ | refine blk_drew ?_ | refine blk_alloc ?_ _)); exact BK133.out) hg (Kd.R_ne HO_10.out BK133.out (by decide))); have n2_ := Aside0.mk (blk_grown (g := gb139) (o := .cells #[.int .i64 t136] 23 (0, 0)) (by (with_reducible repeat (first | refine blk_drewN ?_ _ | refine blk_drew ?_ | refine blk_alloc ?_ _)); refine blk_far ?_ NB139_133.out _; (with_reducible repeat (first | refine blk_drewN ?_ _ | refine blk_drew ?_ | refine blk_alloc ?_ _)); exact BK139.out) hg (Kd.R_ne HO_10.out BK139.out (by decide))); have n3_ := Aside0.mk (hb); have n4_ := Aside0.mk (ho); clear HO_11; clear BK133; clear BK139; clear HB; clear HO_10; have HO_11 := n0_; have BK133 := n1_; have BK139 := n2_; have HB := n3_; have HO144 := n4_; clear n0_ n1_ n2_ n3_ n4_; clear ho hb hg hat) | ((with_reducible refine gate_builtin (b := .append) (xs := #[.tmp 100, .tmp 102]) rfl ?_); (try (refine gate_guard (by rfl) ?_; dsimp only)); at_builtin; refine Kd.R_append (Kd.int .i64) (w0 := w) w.heap.size rfl (.tmp 100) (.tmp 102) 32 3 (.int .i64 0) 8 rfl Try.underlying32 info3 rfl (by decide) (by omega) u11 x11_1 (wrap64 (1 + (Int.tmod (wrap64 ((Int.tmod (rd l0 x13_1) 1500) + 1500)) 1500))) [.int .i64 (wrap64 (1 + (Int.tmod (wrap64 ((Int.tmod (rd l0 x13_1) 1500) + 1500)) 1500)))] (fun k_ => some k_ ≠ (v143 : Value).ownBlock) (fun _ => False) rfl rfl ?aP (fun _ hk => hk.elim) ?aF ?aO ?aB ?aS ?aL ?_; (case aP => exact rfl); (case aB => exact (by repeat (first | (with_reducible first | exact HB.out | apply below_alloc | apply pw_below_drewN | apply below_drew1 | refine below_set ?_ GE133.out | refine below_set ?_ GE139.out) | exact HB.out))); (case aF => exact (fun k_ hk => Kd.fresh' (Kd.R_lt (by (with_reducible repeat (first | apply Kd.R_alloc | apply Kd.R_drewN | apply Kd.R_drew)); exact HO144.out)) k_ hk)); (case aO => exact (by (with_reducible repeat (first | apply Kd.R_alloc | apply Kd.R_drewN | apply Kd.R_drew)); exact Kd.R_mono HO_11.out (fun _ hk => hk.2))); (case aS => exact (below_size (by repeat (first | (with_reducible first | exact HB.out | apply below_alloc | apply pw_below_drewN | apply below_drew1 | refine below_set ?_ GE133.out | refine below_set ?_ GE139.out) | exact HB.out)))); (case aL => have := LMc35.out; omega); intro v146 w40 ho hb hg hat; rw [← Ny145.out] at ho; have n0_ := Aside0.mk (blk_grown (g := gb133) (o := .cells #[.int .i64 t136] 23 (0, 0)) (by (with_reducible repeat (first | refine blk_drewN ?_ _ | refine blk_drew ?_ | refine blk_alloc ?_ _)); exact BK133.out) hg (Kd.R_ne HO_11.out BK133.out (by decide))); have n1_ := Aside0.mk (blk_grown (g := gb139) (o := .cells #[.int .i64 t136] 23 (0, 0)) (by (with_reducible repeat (first | refine blk_drewN ?_ _ | refine blk_drew ?_ | refine blk_alloc ?_ _)); exact BK139.out) hg (Kd.R_ne HO_11.out BK139.out (by decide))); have n2_ := Aside0.mk (Kd.R_after (ok := (fun _ => True)) (by (with_reducible repeat (first | apply Kd.R_alloc | apply Kd.R_drewN | apply Kd.R_drew)); exact Kd.R_mono HO144.out (fun _ hk => ⟨trivial, hk⟩)) hg hat); have n3_ := Aside0.mk (hb); have n4_ := Aside0.mk (ho); clear BK133; clear BK139; clear HO144; clear HB; clear HO_11; have BK133 := n0_; have BK139 := n1_; have HO144 := n2_; have HB := n3_; have HO147 := n4_; clear n0_ n1_ n2_ n3_ n4_; clear ho hb hg hat))
                                go_loopg [18, 19] kj17 (fun kq v18 v19 w' => ∃ (x18_5 : Int) (x19_5 : Int), v18 = .int .i64 x18_5 ∧ v19 = .int .i64 x19_5 ∧ Aside0 (stopcocklaw14_PacerSpaced.l1 kq l0 l1 (wrap64 (1 + (Int.tmod (wrap64 ((Int.tmod a2 100000) + 100000)) 100000))) (Int.tmod (wrap64 ((Int.tmod a3 5000) + 5000)) 5000) y142 y145 x12_11 x13_1 t137 x18_5 x19_5 t136 = some r) ∧ Aside0 (kq ≤ kj17) ∧ Aside0 (Kd.R (Kd.int .i64) 3 w' w.heap.size (fun k_ => some k_ ≠ (v146 : Value).ownBlock) v143 y142) ∧ Aside0 (Kd.R (Kd.int .i64) 3 w' w.heap.size (fun k_ => some k_ ≠ (v143 : Value).ownBlock) v146 y145) ∧ Aside0 (w'.heap[gb133]? = some (.cells #[.int .i64 t136] 23 (0, 0))) ∧ Aside0 (w'.heap[gb139]? = some (.cells #[.int .i64 t136] 23 (0, 0))) ∧ Aside0 (Below w.heap.size w w'))
                                case atStart => exact ⟨(0), (x13_1), (by first | rfl | (simp; done) | (simp [*]; done)), (by first | rfl | (simp; done) | (simp [*]; done)), H', ⟨Nat.le_refl _⟩, ⟨by (with_reducible repeat (first | apply Kd.R_alloc | apply Kd.R_drewN | apply Kd.R_drew)); exact Kd.R_mono HO144.out (fun _ hk => hk.2)⟩, ⟨by (with_reducible repeat (first | apply Kd.R_alloc | apply Kd.R_drewN | apply Kd.R_drew)); exact HO147.out⟩, ⟨by (with_reducible repeat (first | refine blk_drewN ?_ _ | refine blk_drew ?_ | refine blk_alloc ?_ _)); exact BK133.out⟩, ⟨by (with_reducible repeat (first | refine blk_drewN ?_ _ | refine blk_drew ?_ | refine blk_alloc ?_ _)); exact BK139.out⟩, ⟨by repeat (first | (with_reducible first | exact HB.out | apply below_alloc | apply pw_below_drewN | apply below_drew1 | refine below_set ?_ GE133.out | refine below_set ?_ GE139.out) | exact HB.out)⟩⟩
                                case round =>
                                  clear H'
                                  try clear c1
                                  try clear p1
                                  try clear q1
                                  try clear hx1
                                  try clear c2
                                  try clear p2
                                  try clear c3
                                  try clear c4
                                  try clear c6
                                  try clear p6
                                  try clear c8
                                  try clear c9
                                  try clear c10
                                  try clear c10b0
                                  try clear c11
                                  try clear c13
                                  try clear c13b0
                                  try clear p13
                                  try clear q13
                                  try clear hx13
                                  try clear c14
                                  try clear c14b0
                                  try clear p14
                                  try clear q14
                                  try clear hx14
                                  try clear c15
                                  try clear c15b0
                                  try clear c16
                                  try clear c16b0
                                  try clear c22
                                  try clear c25
                                  try clear c25b0
                                  try clear c25b1
                                  try clear c26
                                  try clear c26b0
                                  try clear c27
                                  try clear c27b0
                                  try clear c27b1
                                  try clear c29
                                  try clear c29b0
                                  try clear c30
                                  try clear c30b0
                                  try clear c33
                                  try clear c34
                                  try clear c35
                                  try clear c36
                                  try clear hcz19_0
                                  try clear hcz23_0
                                  try clear hcz37_0
                                  try clear hcz38_0
                                  try clear hfz19_0
                                  try clear hfz23_0
                                  try clear hfz37_0
                                  try clear hfz38_0
                                  try clear hx134_0
                                  try clear hx135_0
                                  try clear hx141_0
                                  try clear p1
                                  try clear p13
                                  try clear p134
                                  try clear p135
                                  try clear p14
                                  try clear p141
                                  try clear p2
                                  try clear p6
                                  try clear q1
                                  try clear q13
                                  try clear q134
                                  try clear q135
                                  try clear q14
                                  try clear q141
                                  obtain ⟨x18_5, x19_5, rfl, rfl, HA, HK5, HO_10, HO_11, BK133, BK139, HB⟩ := hrel
                                  cases gk with
                                  | zero => exact absurd HA.out (by simp [stopcocklaw14_PacerSpaced.l1])
                                  | succ k5 =>
                                    have H := HA.out
                                    clear HA
                                    simp only [stopcocklaw14_PacerSpaced.l1] at H
                                    by_cases c41 : x19_5 ≥ 0
                                    · rw [if_pos c41] at H
                                      have c41b0 : decide (0 ≤ x19_5) = true := decide_eq_true c41
                                      clear c41
                                      by_cases c42 : x19_5 < x13_1
                                      · rw [if_pos c42] at H
                                        have c42b0 : decide (x19_5 < x13_1) = true := decide_eq_true c42
                                        clear c42
                                        by_cases c43 : 0 ≤ x19_5
                                        · rw [if_pos c43] at H
                                          have c43b0 : decide (0 ≤ x19_5) = true := decide_eq_true c43
                                          clear c43
                                          by_cases c44 : x19_5 < (y145.length : Int)
                                          · rw [if_pos c44] at H
                                            have c44b0 : decide (x19_5 < (y145.length : Int)) = true := decide_eq_true c44
                                            clear c44
                                            by_cases c45 : x19_5 < (y142.length : Int)
                                            · rw [if_pos c45] at H
                                              have c45b0 : decide (x19_5 < (y142.length : Int)) = true := decide_eq_true c45
                                              clear c45
                                              by_cases c46 : (wrap64 (x18_5 + (rd y145 x19_5))) > (wrap64 ((wrap64 (Int.tdiv (wrap64 ((wrap64 ((wrap64 (1 + (Int.tmod (wrap64 ((Int.tmod a2 100000) + 100000)) 100000))) * (wrap64 (t137 - (rd y142 x19_5))))) + 1023)) 1024)) + (Int.tmod (wrap64 ((Int.tmod a3 5000) + 5000)) 5000)))
                                              · rw [if_pos c46] at H
                                                have c46b0 : decide ((wrap64 ((wrap64 (Int.tdiv (wrap64 ((wrap64 ((wrap64 (1 + (Int.tmod (wrap64 ((Int.tmod a2 100000) + 100000)) 100000))) * (wrap64 (t137 - (rd y142 x19_5))))) + 1023)) 1024)) + (Int.tmod (wrap64 ((Int.tmod a3 5000) + 5000)) 5000))) < (wrap64 (x18_5 + (rd y145 x19_5)))) = true := decide_eq_true c46
                                                clear c46
                                                obtain rfl := Option.some.inj H
                                                obtain ⟨Ao47, co47, eo47⟩ := Kd.R_slice HO_11.out
                                                subst eo47
                                                have p148 : 0 ≤ (x19_5 : Int) := of_decide_eq_true (by first | (with_reducible assumption) | assumption)
                                                have q148 : x19_5 < (y145.length : Int) := of_decide_eq_true (by first | (with_reducible assumption) | assumption)
                                                obtain ⟨ad148, e148, hx148_0⟩ := Kd.at_int (Kd.R_reads' HO_11.out).2.2 x19_5 p148 q148
                                                cases e148
                                                replace p148 := eq_true p148
                                                replace q148 := eq_true q148
                                                obtain ⟨Ao48, co48, eo48⟩ := Kd.R_slice HO_10.out
                                                subst eo48
                                                have p149 : 0 ≤ (x19_5 : Int) := of_decide_eq_true (by first | (with_reducible assumption) | assumption)
                                                have q149 : x19_5 < (y142.length : Int) := of_decide_eq_true (by first | (with_reducible assumption) | assumption)
                                                obtain ⟨ad149, e149, hx149_0⟩ := Kd.at_int (Kd.R_reads' HO_10.out).2.2 x19_5 p149 q149
                                                cases e149
                                                replace p149 := eq_true p149
                                                replace q149 := eq_true q149
                                                go_wp2
                                                go_ret
                                                exact ⟨by first | rfl | (simp [errW_none, errW_some] <;> rfl) | (simp [*, errW_none, errW_some] <;> rfl), by repeat (first | (with_reducible first | exact HB.out | apply below_alloc | apply pw_below_drewN | apply below_drew1 | refine below_set ?_ GE133.out | refine below_set ?_ GE139.out) | exact HB.out)⟩
                                              · rw [if_neg c46] at H
                                                have c46b0 : decide ((wrap64 ((wrap64 (Int.tdiv (wrap64 ((wrap64 ((wrap64 (1 + (Int.tmod (wrap64 ((Int.tmod a2 100000) + 100000)) 100000))) * (wrap64 (t137 - (rd y142 x19_5))))) + 1023)) 1024)) + (Int.tmod (wrap64 ((Int.tmod a3 5000) + 5000)) 5000))) < (wrap64 (x18_5 + (rd y145 x19_5)))) = false := decide_eq_false c46
                                                clear c46
                                                have H' := Aside0.mk H
                                                clear H
                                                obtain ⟨Ao49, co49, eo49⟩ := Kd.R_slice HO_11.out
                                                subst eo49
                                                have p148 : 0 ≤ (x19_5 : Int) := of_decide_eq_true (by first | (with_reducible assumption) | assumption)
                                                have q148 : x19_5 < (y145.length : Int) := of_decide_eq_true (by first | (with_reducible assumption) | assumption)
                                                obtain ⟨ad148, e148, hx148_0⟩ := Kd.at_int (Kd.R_reads' HO_11.out).2.2 x19_5 p148 q148
                                                cases e148
                                                replace p148 := eq_true p148
                                                replace q148 := eq_true q148
                                                obtain ⟨Ao50, co50, eo50⟩ := Kd.R_slice HO_10.out
                                                subst eo50
                                                have p149 : 0 ≤ (x19_5 : Int) := of_decide_eq_true (by first | (with_reducible assumption) | assumption)
                                                have q149 : x19_5 < (y142.length : Int) := of_decide_eq_true (by first | (with_reducible assumption) | assumption)
                                                obtain ⟨ad149, e149, hx149_0⟩ := Kd.at_int (Kd.R_reads' HO_10.out).2.2 x19_5 p149 q149
                                                cases e149
                                                replace p149 := eq_true p149
                                                replace q149 := eq_true q149
                                                go_wp2
                                                go_roundg k5
                                                case measure => have := HK1.out; have := HJ8.out; have := HJ11.out; have := HJ17.out; have := HK5.out; omega
                                                case rel => exact ⟨(wrap64 (x18_5 + (rd y145 x19_5))), (wrap64 (x19_5 - 1)), (by first | rfl | (simp; done) | (simp [*]; done)), (by first | rfl | (simp; done) | (simp [*]; done)), H', ⟨by have := HK1.out; have := HJ8.out; have := HJ11.out; have := HJ17.out; have := HK5.out; omega⟩, ⟨by (with_reducible repeat (first | apply Kd.R_alloc | apply Kd.R_drewN | apply Kd.R_drew)); exact HO_10.out⟩, ⟨by (with_reducible repeat (first | apply Kd.R_alloc | apply Kd.R_drewN | apply Kd.R_drew)); exact HO_11.out⟩, ⟨by (with_reducible repeat (first | refine blk_drewN ?_ _ | refine blk_drew ?_ | refine blk_alloc ?_ _)); exact BK133.out⟩, ⟨by (with_reducible repeat (first | refine blk_drewN ?_ _ | refine blk_drew ?_ | refine blk_alloc ?_ _)); exact BK139.out⟩, ⟨by repeat (first | (with_reducible first | exact HB.out | apply below_alloc | apply pw_below_drewN | apply below_drew1 | refine below_set ?_ GE133.out | refine below_set ?_ GE139.out) | exact HB.out)⟩⟩
                                            · rw [if_neg c45] at H
                                              exact absurd H (by simp)
                                          · rw [if_neg c44] at H
                                            exact absurd H (by simp)
                                        · rw [if_neg c43] at H
                                          exact absurd H (by simp)
                                      · rw [if_neg c42] at H
                                        have c42b0 : decide (x19_5 < x13_1) = false := decide_eq_false c42
                                        clear c42
                                        by_cases c51 : 0 ≤ x19_5
                                        · rw [if_pos c51] at H
                                          have c51b0 : decide (0 ≤ x19_5) = true := decide_eq_true c51
                                          clear c51
                                          by_cases c52 : x19_5 < (y142.length : Int)
                                          · rw [if_pos c52] at H
                                            have c52b0 : decide (x19_5 < (y142.length : Int)) = true := decide_eq_true c52
                                            clear c52
                                            by_cases c53 : x18_5 > (wrap64 ((wrap64 (Int.tdiv (wrap64 ((wrap64 ((wrap64 (1 + (Int.tmod (wrap64 ((Int.tmod a2 100000) + 100000)) 100000))) * (wrap64 (t137 - (rd y142 x19_5))))) + 1023)) 1024)) + (Int.tmod (wrap64 ((Int.tmod a3 5000) + 5000)) 5000)))
                                            · rw [if_pos c53] at H
                                              have c53b0 : decide ((wrap64 ((wrap64 (Int.tdiv (wrap64 ((wrap64 ((wrap64 (1 + (Int.tmod (wrap64 ((Int.tmod a2 100000) + 100000)) 100000))) * (wrap64 (t137 - (rd y142 x19_5))))) + 1023)) 1024)) + (Int.tmod (wrap64 ((Int.tmod a3 5000) + 5000)) 5000))) < x18_5) = true := decide_eq_true c53
                                              clear c53
                                              obtain rfl := Option.some.inj H
                                              obtain ⟨Ao54, co54, eo54⟩ := Kd.R_slice HO_10.out
                                              subst eo54
                                              have p150 : 0 ≤ (x19_5 : Int) := of_decide_eq_true (by first | (with_reducible assumption) | assumption)
                                              have q150 : x19_5 < (y142.length : Int) := of_decide_eq_true (by first | (with_reducible assumption) | assumption)
                                              obtain ⟨ad150, e150, hx150_0⟩ := Kd.at_int (Kd.R_reads' HO_10.out).2.2 x19_5 p150 q150
                                              cases e150
                                              replace p150 := eq_true p150
                                              replace q150 := eq_true q150
                                              go_wp2
                                              go_ret
                                              exact ⟨by first | rfl | (simp [errW_none, errW_some] <;> rfl) | (simp [*, errW_none, errW_some] <;> rfl), by repeat (first | (with_reducible first | exact HB.out | apply below_alloc | apply pw_below_drewN | apply below_drew1 | refine below_set ?_ GE133.out | refine below_set ?_ GE139.out) | exact HB.out)⟩
                                            · rw [if_neg c53] at H
                                              have c53b0 : decide ((wrap64 ((wrap64 (Int.tdiv (wrap64 ((wrap64 ((wrap64 (1 + (Int.tmod (wrap64 ((Int.tmod a2 100000) + 100000)) 100000))) * (wrap64 (t137 - (rd y142 x19_5))))) + 1023)) 1024)) + (Int.tmod (wrap64 ((Int.tmod a3 5000) + 5000)) 5000))) < x18_5) = false := decide_eq_false c53
                                              clear c53
                                              have H' := Aside0.mk H
                                              clear H
                                              obtain ⟨Ao55, co55, eo55⟩ := Kd.R_slice HO_10.out
                                              subst eo55
                                              have p150 : 0 ≤ (x19_5 : Int) := of_decide_eq_true (by first | (with_reducible assumption) | assumption)
                                              have q150 : x19_5 < (y142.length : Int) := of_decide_eq_true (by first | (with_reducible assumption) | assumption)
                                              obtain ⟨ad150, e150, hx150_0⟩ := Kd.at_int (Kd.R_reads' HO_10.out).2.2 x19_5 p150 q150
                                              cases e150
                                              replace p150 := eq_true p150
                                              replace q150 := eq_true q150
                                              go_wp2
                                              go_roundg k5
                                              case measure => have := HK1.out; have := HJ8.out; have := HJ11.out; have := HJ17.out; have := HK5.out; omega
                                              case rel => exact ⟨(x18_5), (wrap64 (x19_5 - 1)), (by first | rfl | (simp; done) | (simp [*]; done)), (by first | rfl | (simp; done) | (simp [*]; done)), H', ⟨by have := HK1.out; have := HJ8.out; have := HJ11.out; have := HJ17.out; have := HK5.out; omega⟩, ⟨by (with_reducible repeat (first | apply Kd.R_alloc | apply Kd.R_drewN | apply Kd.R_drew)); exact HO_10.out⟩, ⟨by (with_reducible repeat (first | apply Kd.R_alloc | apply Kd.R_drewN | apply Kd.R_drew)); exact HO_11.out⟩, ⟨by (with_reducible repeat (first | refine blk_drewN ?_ _ | refine blk_drew ?_ | refine blk_alloc ?_ _)); exact BK133.out⟩, ⟨by (with_reducible repeat (first | refine blk_drewN ?_ _ | refine blk_drew ?_ | refine blk_alloc ?_ _)); exact BK139.out⟩, ⟨by repeat (first | (with_reducible first | exact HB.out | apply below_alloc | apply pw_below_drewN | apply below_drew1 | refine below_set ?_ GE133.out | refine below_set ?_ GE139.out) | exact HB.out)⟩⟩
                                          · rw [if_neg c52] at H
                                            exact absurd H (by simp)
                                        · rw [if_neg c51] at H
                                          exact absurd H (by simp)
                                    · rw [if_neg c41] at H
                                      have c41b0 : decide (0 ≤ x19_5) = false := decide_eq_false c41
                                      clear c41
                                      have H' := Aside0.mk H
                                      clear H
                                      go_wp2
                                      go_roundg k5
                                      case measure => have := HK1.out; have := HJ8.out; have := HJ11.out; have := HJ17.out; have := HK5.out; omega
                                      case rel => exact ⟨(y142), (y145), (x12_11), (wrap64 (x13_1 + 1)), (t136), (by first | rfl | (simp; done) | (simp [*]; done)), (by first | rfl | (simp; done) | (simp [*]; done)), H', ⟨by have := HK1.out; have := HJ8.out; have := HJ11.out; have := HJ17.out; have := HK5.out; omega⟩, ⟨by (with_reducible repeat (first | apply Kd.R_alloc | apply Kd.R_drewN | apply Kd.R_drew)); exact HO_10.out⟩, ⟨by (with_reducible repeat (first | apply Kd.R_alloc | apply Kd.R_drewN | apply Kd.R_drew)); exact HO_11.out⟩, ⟨by (with_reducible repeat (first | refine blk_drewN ?_ _ | refine blk_drew ?_ | refine blk_alloc ?_ _)); exact BK133.out⟩, ⟨by repeat (first | (with_reducible first | exact HB.out | apply below_alloc | apply pw_below_drewN | apply below_drew1 | refine below_set ?_ GE133.out | refine below_set ?_ GE139.out) | exact HB.out)⟩⟩
                              · rw [if_neg c35] at H
                                exact absurd H (by simp)
                            · rw [if_neg c34] at H
                              exact absurd H (by simp)
                    · rw [if_neg c16] at H
                      exact absurd H (by simp)
                  · rw [if_neg c15] at H
                    exact absurd H (by simp)
            · replace c11 := Bool.eq_false_iff.mpr c11
              subst c11
              have H1 : (some true) = some r := by rw [if_neg (show ¬ (false = true) by decide)] at H; exact H
              clear H
              have H := H1
              clear H1
              obtain rfl := Option.some.inj H
              go_wp2
              go_ret
              exact ⟨by first | rfl | (simp [errW_none, errW_some] <;> rfl) | (simp [*, errW_none, errW_some] <;> rfl), by repeat (first | (with_reducible first | exact HB.out | apply below_alloc | apply pw_below_drewN | apply below_drew1 | refine below_set ?_ GE133.out) | exact HB.out)⟩
  · replace c6 := Bool.eq_false_iff.mpr c6
    subst c6
    have H1 : (some false) = some r := by rw [if_neg (show ¬ (false = true) by decide)] at H; exact H
    clear H
    have H := H1
    clear H1
    obtain rfl := Option.some.inj H
    go_enter Try.func4, Try.ntmps4
    go_wp2_with (first | ((with_reducible refine gate_callee (f := 9) rfl ?_); refine goesL_ (some 20) rfl rfl Try.func9 (by kernel_rfl) rfl #[] rfl (by (try simp only [List.map_toArray, List.map_cons, List.map_nil]); first | done | rfl | (simp only [List.length_drop, List.length_take]; rfl)) ?_; (with_reducible refine (stopcocklaw14_alive.calls  false _ A5.out).mono ?_); rintro e w56 ⟨rfl, hb⟩; refine ⟨_, rfl, ?_⟩; have n0_ := Aside0.mk (below_step (by repeat (first | (with_reducible first | exact HB.out | apply below_alloc | apply pw_below_drewN | apply below_drew1) | exact HB.out)) hb); clear HB; have HB := n0_; clear n0_; (try clear hb); (try clear hb2); (try clear hk); (try clear hi)))
    go_ret
    exact ⟨by first | rfl | (simp [errW_none, errW_some] <;> rfl) | (simp [*, errW_none, errW_some] <;> rfl), by repeat (first | (with_reducible first | exact HB.out | apply below_alloc | apply pw_below_drewN | apply below_drew1) | exact HB.out)⟩

/-- THE ONE PURE STATEMENT of stopcocklaw14_PacerSpaced: yours. -/
def stopcocklaw14_PacerSpaced.Pure : Prop := ∀ (l0 : List Int) (l1 : List Int) (a2 : Int) (a3 : Int), l0.length ≤ maxLen → l0.length * 8 ≤ 140737488351232 → (∀ x ∈ l0, (Lit.int .i64 x).wf = true) → l1.length ≤ maxLen → l1.length * 8 ≤ 140737488351232 → (∀ x ∈ l1, (Lit.int .i64 x).wf = true) → (Lit.int .i64 a2).wf = true → (Lit.int .i64 a3).wf = true → ∃ k, stopcocklaw14_PacerSpaced.f k l0 l1 a2 a3 = some true
theorem stopcocklaw14_PacerSpaced.walk (P : stopcocklaw14_PacerSpaced.Pure) (a0 : Option Addr) (len0 cap0 : Nat) (z0 : List Int) (a1 : Option Addr) (len1 cap1 : Nat) (z1 : List Int) (a2 : Int) (a3 : Int) (w : World) (w0 : (a0 = none ∧ len0 = 0 ∧ cap0 = 0 ∧ z0 = []) ∨ ∃ x, a0 = some x ∧ len0 ≤ cap0 ∧ cap0 ≤ maxLen ∧ z0.length = cap0 ∧ (∀ i, i < z0.length → w.cell? (x.add i) = some (.int .i64 (z0.getD i 0))) ∧ ∀ n ∈ z0, (Lit.int .i64 n).wf = true) (y0 : len0 * 8 ≤ 140737488351232) (w1 : (a1 = none ∧ len1 = 0 ∧ cap1 = 0 ∧ z1 = []) ∨ ∃ x, a1 = some x ∧ len1 ≤ cap1 ∧ cap1 ≤ maxLen ∧ z1.length = cap1 ∧ (∀ i, i < z1.length → w.cell? (x.add i) = some (.int .i64 (z1.getD i 0))) ∧ ∀ n ∈ z1, (Lit.int .i64 n).wf = true) (y1 : len1 * 8 ≤ 140737488351232) (w2 : (Lit.int .i64 a2).wf = true) (w3 : (Lit.int .i64 a3).wf = true) :
    Calls Try.prog 4 #[.slice a0 len0 cap0, .slice a1 len1 cap1, .int .i64 a2, .int .i64 a3] w fun e w' => e = .returned (.bool true) ∧ Below w.heap.size w w' := by
  obtain ⟨l0, rfl, hr0, hm0, hw0, hc0⟩ := ReadsInt.ofRowC w0
  obtain ⟨l1, rfl, hr1, hm1, hw1, hc1⟩ := ReadsInt.ofRowC w1
  obtain ⟨k, h⟩ := P l0 l1 a2 a3 hm0 y0 hw0 hm1 y1 hw1 w2 w3
  refine (stopcocklaw14_PacerSpaced.calls k _ _ l0 _ _ l1 a2 a3 true w (Kd.C_of_reads (d := (0 : Int)) (h1 := fun _ => rfl) hr0) hc0 (Kd.C_of_reads (d := (0 : Int)) (h1 := fun _ => rfl) hr1) hc1 h).mono ?_
  rintro e w' ⟨rfl, hd⟩
  exact ⟨rfl, hd⟩

end Go.Proofs.Ytlepbdbghiedjaa.PA
