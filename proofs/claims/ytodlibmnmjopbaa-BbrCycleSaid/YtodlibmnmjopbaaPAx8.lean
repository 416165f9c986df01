-- Written by a program of this session (wip/tools/mkprint.py, mp.sh) for this claim.
import Derived.Test.YtodlibmnmjopbaaHandG
import Derived.Test.YtodlibmnmjopbaaPAx0
import Derived.Test.YtodlibmnmjopbaaPAx1
import Derived.Test.YtodlibmnmjopbaaPAx3
import Derived.Test.YtodlibmnmjopbaaPAx6
namespace Go.Proofs.Ytodlibmnmjopbaa.PA
open Go.RowKit Go.Proofs.YtodlibmnmjopbaaW.PrintWords Go.Proofs.YtodlibmnmjopbaaW.PrintLast Go.Proofs.YtodlibmnmjopbaaW.PrintMore
attribute [local go_sem] max2_int min2_int max_two min_two max_three min_three max_four min_four   -- for this text's walks alone
set_option linter.unusedVariables false
set_option linter.unusedSimpArgs false

/-! ### stopcocklaw23_BbrLeast: function 7 -/
mutual
def stopcocklaw23_BbrLeast.l0 : Nat → List Int → Int → Int → Int → List (S36) → Bool → Int → Int → Bool → Int → Int → Int → Int → Int → Int → Option (Bool)
  | 0, _, _, _, _, _, _, _, _, _, _, _, _, _, _, _ => none
  | k + 1, x0, x4, x5, x196000, x196001, x196002, x196003, x196004, x196005, x196006, x196007, x196008, x196009, x196010, x196011 => if x5 < (x0.length : Int) then (stopcocklaw23_BbrLeast.j1 k x0 x4 x5 (decide (x5 < 100)) x196000 x196001 x196002 x196003 x196004 x196005 x196006 x196007 x196008 x196009 x196010 x196011) else (stopcocklaw23_BbrLeast.j1 k x0 x4 x5 false x196000 x196001 x196002 x196003 x196004 x196005 x196006 x196007 x196008 x196009 x196010 x196011)
def stopcocklaw23_BbrLeast.j1 : Nat → List Int → Int → Int → Bool → Int → List (S36) → Bool → Int → Int → Bool → Int → Int → Int → Int → Int → Int → Option (Bool)
  | 0, _, _, _, _, _, _, _, _, _, _, _, _, _, _, _, _ => none
  | k + 1, x0, x4, x5, x18, x196000, x196001, x196002, x196003, x196004, x196005, x196006, x196007, x196008, x196009, x196010, x196011 => if x18 = true then (if 0 ≤ x5 then (if x5 < (x0.length : Int) then ((bbr_Ack.f x196000 x196001 x196002 x196003 x196004 x196005 x196006 x196007 x196008 x196009 x196010 x196011 1000 (wrap64 (100 * x5)) 1 0 (Int.tmod (wrap64 ((Int.tmod (rd x0 x5) 100000) + 100000)) 100000) 0 false true).bind fun bt197 => ((stopcocklaw23_num.f bt197.2.2.2.2.2.2.2.2.2.2.2.2).bind fun t213 => (if t213 = 0 then (if bt197.2.2.2.1 = (mn x4 (Int.tmod (wrap64 ((Int.tmod (rd x0 x5) 100000) + 100000)) 100000)) then (if bt197.2.2.1 = true then (if bt197.1 = 3 then (some false) else (stopcocklaw23_BbrLeast.l0 k x0 (mn x4 (Int.tmod (wrap64 ((Int.tmod (rd x0 x5) 100000) + 100000)) 100000)) (wrap64 (x5 + 1)) bt197.1 bt197.2.1 bt197.2.2.1 bt197.2.2.2.1 bt197.2.2.2.2.1 bt197.2.2.2.2.2.1 bt197.2.2.2.2.2.2.1 bt197.2.2.2.2.2.2.2.1 bt197.2.2.2.2.2.2.2.2.1 bt197.2.2.2.2.2.2.2.2.2.1 bt197.2.2.2.2.2.2.2.2.2.2.1 bt197.2.2.2.2.2.2.2.2.2.2.2.1)) else (some false)) else (some false)) else (some false)))) else (none)) else (none)) else (some true)
end
def stopcocklaw23_BbrLeast.f (k : Nat) (l0 : List Int) : Option (Bool) := (stopcocklaw23_alive.f k).bind fun t194 => (if t194 = true then (stopcocklaw23_BbrLeast.l0 k l0 1073741824 0 0 ([] : List (S36)) false 0 0 false 0 0 0 0 0 0) else (some false))
theorem stopcocklaw23_BbrLeast.mono_l : ∀ k, (∀ y0 y1 y2 y3 y4 y5 y6 y7 y8 y9 y10 y11 y12 y13 y14, LeO (stopcocklaw23_BbrLeast.l0 k y0 y1 y2 y3 y4 y5 y6 y7 y8 y9 y10 y11 y12 y13 y14) (stopcocklaw23_BbrLeast.l0 (k + 1) y0 y1 y2 y3 y4 y5 y6 y7 y8 y9 y10 y11 y12 y13 y14)) ∧ (∀ y0 y1 y2 y3 y4 y5 y6 y7 y8 y9 y10 y11 y12 y13 y14 y15, LeO (stopcocklaw23_BbrLeast.j1 k y0 y1 y2 y3 y4 y5 y6 y7 y8 y9 y10 y11 y12 y13 y14 y15) (stopcocklaw23_BbrLeast.j1 (k + 1) y0 y1 y2 y3 y4 y5 y6 y7 y8 y9 y10 y11 y12 y13 y14 y15))
  | 0 => ⟨fun _ _ _ _ _ _ _ _ _ _ _ _ _ _ _ r h => by simp [stopcocklaw23_BbrLeast.l0] at h, fun _ _ _ _ _ _ _ _ _ _ _ _ _ _ _ _ r h => by simp [stopcocklaw23_BbrLeast.j1] at h⟩
  | k + 1 => by
    obtain ⟨ih0, ih1⟩ := stopcocklaw23_BbrLeast.mono_l k; refine ⟨?_, ?_⟩
    · intro y0 y1 y2 y3 y4 y5 y6 y7 y8 y9 y10 y11 y12 y13 y14
      unfold stopcocklaw23_BbrLeast.l0
      repeat' first
      | (with_reducible exact ih0 _ _ _ _ _ _ _ _ _ _ _ _ _ _ _)
      | (with_reducible exact ih1 _ _ _ _ _ _ _ _ _ _ _ _ _ _ _ _)
      | (with_reducible exact stopcocklaw23_alive.mono _)
      | (with_reducible exact LeO.refl _)
      | (with_reducible exact LeO.none _)
      | (with_reducible refine LeO.ite ?_ ?_)
      | (with_reducible refine LeO.bind ?_ (fun _ => ?_))
      | exact ih0 _ _ _ _ _ _ _ _ _ _ _ _ _ _ _
      | exact ih1 _ _ _ _ _ _ _ _ _ _ _ _ _ _ _ _
      | exact stopcocklaw23_alive.mono _
      | exact LeO.none _
      | refine LeO.ite ?_ ?_
      | refine LeO.bind ?_ (fun _ => ?_)
    · intro y0 y1 y2 y3 y4 y5 y6 y7 y8 y9 y10 y11 y12 y13 y14 y15
      unfold stopcocklaw23_BbrLeast.j1
      repeat' first
      | (with_reducible exact ih0 _ _ _ _ _ _ _ _ _ _ _ _ _ _ _)
      | (with_reducible exact ih1 _ _ _ _ _ _ _ _ _ _ _ _ _ _ _ _)
      | (with_reducible exact stopcocklaw23_alive.mono _)
      | (with_reducible exact LeO.refl _)
      | (with_reducible exact LeO.none _)
      | (with_reducible refine LeO.ite ?_ ?_)
      | (with_reducible refine LeO.bind ?_ (fun _ => ?_))
      | exact ih0 _ _ _ _ _ _ _ _ _ _ _ _ _ _ _
      | exact ih1 _ _ _ _ _ _ _ _ _ _ _ _ _ _ _ _
      | exact stopcocklaw23_alive.mono _
      | exact LeO.none _
      | refine LeO.ite ?_ ?_
      | refine LeO.bind ?_ (fun _ => ?_)
theorem stopcocklaw23_BbrLeast.mono : ∀ a0 k, LeO (stopcocklaw23_BbrLeast.f k a0) (stopcocklaw23_BbrLeast.f (k + 1) a0) := by
  intro a0 k; obtain ⟨ih0, ih1⟩ := stopcocklaw23_BbrLeast.mono_l k
  unfold stopcocklaw23_BbrLeast.f
  repeat' first
      | (with_reducible exact ih0 _ _ _ _ _ _ _ _ _ _ _ _ _ _ _)
      | (with_reducible exact ih1 _ _ _ _ _ _ _ _ _ _ _ _ _ _ _ _)
      | (with_reducible exact stopcocklaw23_alive.mono _)
      | (with_reducible exact LeO.refl _)
      | (with_reducible exact LeO.none _)
      | (with_reducible refine LeO.ite ?_ ?_)
      | (with_reducible refine LeO.bind ?_ (fun _ => ?_))
      | exact ih0 _ _ _ _ _ _ _ _ _ _ _ _ _ _ _
      | exact ih1 _ _ _ _ _ _ _ _ _ _ _ _ _ _ _ _
      | exact stopcocklaw23_alive.mono _
      | exact LeO.none _
      | refine LeO.ite ?_ ?_
      | refine LeO.bind ?_ (fun _ => ?_)
set_option maxHeartbeats 8000000 in
set_option maxRecDepth 100000 in
theorem stopcocklaw23_BbrLeast.calls (k : Nat) (A0 : Option Addr) (c0 : Nat) (l0 : List Int) (r : Bool) (w : World) (hr0 : Kd.C (Kd.int .i64) w A0 l0.length l0) (hc0 : l0.length ≤ c0) (h : stopcocklaw23_BbrLeast.f k l0 = some r) (hrt : r = true) :
    Calls Try.prog 7 #[.slice A0 l0.length c0] w fun e w' => e = .returned (.bool r) ∧ Below w.heap.size w w' := by
  have hu40 := Try.underlying40; have hu46 := Try.underlying46; have HRT := Aside0.mk hrt; clear hrt; have HR0 := Aside0.mk hr0; have HC0 := Aside0.mk hc0; clear hr0 hc0; have HB := Aside0.mk (Below.refl w.heap.size w); have H : ((stopcocklaw23_alive.f k).bind fun t194 => (if t194 = true then (stopcocklaw23_BbrLeast.l0 k l0 1073741824 0 0 ([] : List (S36)) false 0 0 false 0 0 0 0 0 0) else (some false))) = some r := h; clear h; replace H := Option.bind_eq_some_iff.mp H; obtain ⟨t194, A20, H⟩ := H; replace H : (if t194 = true then (stopcocklaw23_BbrLeast.l0 k l0 1073741824 0 0 ([] : List (S36)) false 0 0 false 0 0 0 0 0 0) else (some false)) = some r := H; have A2 := Aside0.mk A20; clear A20
  by_cases c3 : t194 = true
  · subst c3
    have H1 : (stopcocklaw23_BbrLeast.l0 k l0 1073741824 0 0 ([] : List (S36)) false 0 0 false 0 0 0 0 0 0) = some r := by rw [if_pos rfl] at H; exact H
    clear H; have H := H1; clear H1; have H' := Aside0.mk H; clear H
    go_enter Try.func7, Try.ntmps7
    go_wp2_with (first | ((with_reducible refine gate_callee (f := 14) rfl ?_); refine goesL_ (some 9) rfl rfl Try.func14 (by kernel_rfl) rfl #[] rfl (by (try simp only [List.map_toArray, List.map_cons, List.map_nil]); first | done | rfl | (simp only [List.length_drop, List.length_take]; rfl)) ?_; (with_reducible refine (stopcocklaw23_alive.calls k  true _ A2.out).mono ?_); rintro e w4 ⟨rfl, hb⟩; refine ⟨_, rfl, ?_⟩; have n0_ := Aside0.mk (below_step (bel0 HB.out) hb); clear HB; have HB := n0_; clear n0_; (try clear hb); (try clear hb2); (try clear hk); (try clear hi)) | ((with_reducible refine gate_dst (N := 3) rfl ?_); refine box_event ?hg (N := 3) ?hd (cs := #[.int .i64 0, .slice none 0 0, .bool false, .int .i64 0, .int .i64 0, .bool false, .int .i64 0, .int .i64 0, .int .i64 0, .int .i64 0, .int .i64 0, .int .i64 0]) (t := 40) ?hr ?_; (case hd => rfl); (case hg => rfl); (case hr => first | (go_simp; done) | (go_simp; rfl)); intro gb195 hg w5 hbox hb; have n0_ := Aside0.mk (below_step (bel0 HB.out) hb); have n1_ := Aside0.mk (hbox); have n2_ := Aside0.mk ((by rw [hg]; exact (below_size (bel0 HB.out)) : w.heap.size ≤ gb195)); have n3_ := n2_; clear HB; have HB := n0_; have BK195 := n1_; have GW195 := n2_; have GE195 := n3_; clear n0_ n1_ n2_ n3_; clear hb hbox hg))
    go_loopg [4, 5] k (fun kq v4 v5 w' => ∃ (x4_1 : Int) (x5_1 : Int) (x196000_1 : Int) (x196001_1 : List (S36)) (x196002_1 : Bool) (x196003_1 : Int) (x196004_1 : Int) (x196005_1 : Bool) (x196006_1 : Int) (x196007_1 : Int) (x196008_1 : Int) (x196009_1 : Int) (x196010_1 : Int) (x196011_1 : Int) (u196001 : Value), v4 = .int .i64 x4_1 ∧ v5 = .int .i64 x5_1 ∧ Aside0 (stopcocklaw23_BbrLeast.l0 kq l0 x4_1 x5_1 x196000_1 x196001_1 x196002_1 x196003_1 x196004_1 x196005_1 x196006_1 x196007_1 x196008_1 x196009_1 x196010_1 x196011_1 = some r) ∧ Aside0 (kq ≤ k) ∧ Aside0 (Kd.R k36 36 w' w.heap.size (fun _ => True) u196001 x196001_1) ∧ Aside0 (w'.heap[gb195]? = some (.cells #[.int .i64 x196000_1, u196001, .bool x196002_1, .int .i64 x196003_1, .int .i64 x196004_1, .bool x196005_1, .int .i64 x196006_1, .int .i64 x196007_1, .int .i64 x196008_1, .int .i64 x196009_1, .int .i64 x196010_1, .int .i64 x196011_1] 40 (0, 0))) ∧ Aside0 (Below w.heap.size w w'))
    case atStart => exact ⟨(1073741824), (0), (0), (([] : List (S36))), (false), (0), (0), (false), (0), (0), (0), (0), (0), (0), (.slice none 0 0), (by first | rfl | (simp; done) | (simp [*]; done)), (by first | rfl | (simp; done) | (simp [*]; done)), H', ⟨Nat.le_refl _⟩, ⟨by first | exact Kd.R_nil _ _ _ _ _ | exact Kd.N_nil _ _ _ _ _ | exact Kd.V_nil _ _ _ _ _ | exact Kd.Q_nil _ _ _ _ _ | exact Kd.S_nil _ _ _ _ _⟩, ⟨by exact skp_ BK195.out⟩, ⟨by exact bel1 HB.out GE195.out⟩⟩
    case round =>
      clear H'
      try clear c1
      try clear p2
      try clear c3
      obtain ⟨x4_1, x5_1, x196000_1, x196001_1, x196002_1, x196003_1, x196004_1, x196005_1, x196006_1, x196007_1, x196008_1, x196009_1, x196010_1, x196011_1, u196001, rfl, rfl, HA, HK1, HO_196001, BK195, HB⟩ := hrel
      cases gk with
      | zero => exact absurd HA.out (by simp [stopcocklaw23_BbrLeast.l0])
      | succ k1 =>
        have H := HA.out; clear HA
        simp only [stopcocklaw23_BbrLeast.l0] at H
        have HC6 := Aside0.mk H; clear H
        go_upto_region 6 with (fail)
        go_cut [18] (fun v18 wc => ∃ (kq : Nat) (x18_5 : Bool), v18 = .bool x18_5 ∧ Aside0 (stopcocklaw23_BbrLeast.j1 kq l0 x4_1 x5_1 x18_5 x196000_1 x196001_1 x196002_1 x196003_1 x196004_1 x196005_1 x196006_1 x196007_1 x196008_1 x196009_1 x196010_1 x196011_1 = some r) ∧ Aside0 (kq ≤ k1) ∧ Aside0 (Kd.R k36 36 wc w.heap.size (fun _ => True) u196001 x196001_1) ∧ Aside0 (wc.heap[gb195]? = some (.cells #[.int .i64 x196000_1, u196001, .bool x196002_1, .int .i64 x196003_1, .int .i64 x196004_1, .bool x196005_1, .int .i64 x196006_1, .int .i64 x196007_1, .int .i64 x196008_1, .int .i64 x196009_1, .int .i64 x196010_1, .int .i64 x196011_1] 40 (0, 0))) ∧ Aside0 (Below w.heap.size w wc))
        case first =>
          have H := HC6.out; clear HC6
          by_cases c7 : x5_1 < (l0.length : Int)
          · rw [if_pos c7] at H
            have c7b0 : decide (x5_1 < (l0.length : Int)) = true := decide_eq_true c7; clear c7
            (first | rw [c7b0] | (simp only [i64_w, i32_w]; rw [c7b0]) | skip)
            have H' := Aside0.mk H; clear H
            go_wp2
            go_meet
            case rel => exact ⟨_, (decide (x5_1 < 100)), (by first | rfl | (simp; done) | (simp [*]; done)), H', ⟨by have := HK1.out; first | omega | exact Nat.le_refl _⟩, ⟨by (with_reducible repeat (first | apply Kd.R_alloc | apply Kd.R_drewN | apply Kd.R_drew)); exact HO_196001.out⟩, ⟨by exact skp_ BK195.out⟩, ⟨by exact bel1 HB.out GE195.out⟩⟩
          rw [if_neg c7] at H; have c7b0 : decide (x5_1 < (l0.length : Int)) = false := decide_eq_false c7; clear c7
          (first | rw [c7b0] | (simp only [i64_w, i32_w]; rw [c7b0]) | skip)
          have H' := Aside0.mk H; clear H
          go_wp2
          go_meet
          case rel => exact ⟨_, (false), (by first | rfl | (simp; done) | (simp [*]; done)), H', ⟨by have := HK1.out; first | omega | exact Nat.le_refl _⟩, ⟨by (with_reducible repeat (first | apply Kd.R_alloc | apply Kd.R_drewN | apply Kd.R_drew)); exact HO_196001.out⟩, ⟨by exact skp_ BK195.out⟩, ⟨by exact bel1 HB.out GE195.out⟩⟩
        case rest =>
          clear HC6
          try clear c1
          try clear p2
          try clear c3
          try clear c7
          try clear c7b0
          try clear p2
          obtain ⟨kq, x18_5, rfl, HA, HJ5, HO_196001, BK195, HB⟩ := hcut
          cases kq with
          | zero => exact absurd HA.out (by simp [stopcocklaw23_BbrLeast.j1])
          | succ kj5 =>
            have H := HA.out; clear HA
            simp only [stopcocklaw23_BbrLeast.j1] at H
            by_cases c8 : x18_5 = true
            · subst c8
              have H1 : (if 0 ≤ x5_1 then (if x5_1 < (l0.length : Int) then ((bbr_Ack.f x196000_1 x196001_1 x196002_1 x196003_1 x196004_1 x196005_1 x196006_1 x196007_1 x196008_1 x196009_1 x196010_1 x196011_1 1000 (wrap64 (100 * x5_1)) 1 0 (Int.tmod (wrap64 ((Int.tmod (rd l0 x5_1) 100000) + 100000)) 100000) 0 false true).bind fun bt197 => ((stopcocklaw23_num.f bt197.2.2.2.2.2.2.2.2.2.2.2.2).bind fun t213 => (if t213 = 0 then (if bt197.2.2.2.1 = (mn x4_1 (Int.tmod (wrap64 ((Int.tmod (rd l0 x5_1) 100000) + 100000)) 100000)) then (if bt197.2.2.1 = true then (if bt197.1 = 3 then (some false) else (stopcocklaw23_BbrLeast.l0 kj5 l0 (mn x4_1 (Int.tmod (wrap64 ((Int.tmod (rd l0 x5_1) 100000) + 100000)) 100000)) (wrap64 (x5_1 + 1)) bt197.1 bt197.2.1 bt197.2.2.1 bt197.2.2.2.1 bt197.2.2.2.2.1 bt197.2.2.2.2.2.1 bt197.2.2.2.2.2.2.1 bt197.2.2.2.2.2.2.2.1 bt197.2.2.2.2.2.2.2.2.1 bt197.2.2.2.2.2.2.2.2.2.1 bt197.2.2.2.2.2.2.2.2.2.2.1 bt197.2.2.2.2.2.2.2.2.2.2.2.1)) else (some false)) else (some false)) else (some false)))) else (none)) else (none)) = some r := by rw [if_pos rfl] at H; exact H
              clear H; have H := H1; clear H1
              by_cases c9 : 0 ≤ x5_1
              · rw [if_pos c9] at H
                have c9b0 : decide (0 ≤ x5_1) = true := decide_eq_true c9; clear c9
                by_cases c10 : x5_1 < (l0.length : Int)
                · rw [if_pos c10] at H
                  have c10b0 : decide (x5_1 < (l0.length : Int)) = true := decide_eq_true c10; clear c10; replace H := Option.bind_eq_some_iff.mp H; obtain ⟨⟨t197, t198, t201, t202, t203, t204, t205, t206, t207, t208, t209, t210, t211⟩, A110, H⟩ := H; replace H : ((stopcocklaw23_num.f t211).bind fun t213 => (if t213 = 0 then (if t202 = (mn x4_1 (Int.tmod (wrap64 ((Int.tmod (rd l0 x5_1) 100000) + 100000)) 100000)) then (if t201 = true then (if t197 = 3 then (some false) else (stopcocklaw23_BbrLeast.l0 kj5 l0 (mn x4_1 (Int.tmod (wrap64 ((Int.tmod (rd l0 x5_1) 100000) + 100000)) 100000)) (wrap64 (x5_1 + 1)) t197 t198 t201 t202 t203 t204 t205 t206 t207 t208 t209 t210)) else (some false)) else (some false)) else (some false))) = some r := H; have A11 := Aside0.mk A110; clear A110; obtain ⟨ji12, hji12⟩ : ∃ j_ : Int, (mn x4_1 (Int.tmod (wrap64 ((Int.tmod (rd l0 x5_1) 100000) + 100000)) 100000)) = j_ := ⟨_, rfl⟩; replace H : ((stopcocklaw23_num.f t211).bind fun t213 => (if t213 = 0 then (if t202 = (ji12) then (if t201 = true then (if t197 = 3 then (some false) else (stopcocklaw23_BbrLeast.l0 kj5 l0 ji12 (wrap64 (x5_1 + 1)) t197 t198 t201 t202 t203 t204 t205 t206 t207 t208 t209 t210)) else (some false)) else (some false)) else (some false))) = some r := by first | (rw [hji12] at H; exact H) | (simp only [hji12] at H ⊢; exact H)
                  (try rw [hji12] at A11)
                  have hji12_ : (if (Int.tmod (wrap64 ((Int.tmod (rd l0 x5_1) 100000) + 100000)) 100000) < x4_1 then (Int.tmod (wrap64 ((Int.tmod (rd l0 x5_1) 100000) + 100000)) 100000) else x4_1) = ji12 := hji12; replace H := Option.bind_eq_some_iff.mp H; obtain ⟨t213, A130, H⟩ := H; replace H : (if t213 = 0 then (if t202 = (ji12) then (if t201 = true then (if t197 = 3 then (some false) else (stopcocklaw23_BbrLeast.l0 kj5 l0 ji12 (wrap64 (x5_1 + 1)) t197 t198 t201 t202 t203 t204 t205 t206 t207 t208 t209 t210)) else (some false)) else (some false)) else (some false)) = some r := H; have A13 := Aside0.mk A130; clear A130
                  by_cases c14 : t213 = 0
                  · rw [if_pos c14] at H
                    have c14b0 : (t213 == 0) = true := beq_iff_eq.mpr c14; have c14b1 : (t213 != 0) = false := bne_eq_false_iff_eq.mpr c14; clear c14
                    by_cases c15 : t202 = (ji12)
                    · rw [if_pos c15] at H
                      have c15b0 : (t202 == (ji12)) = true := beq_iff_eq.mpr c15; have c15b1 : (t202 != (ji12)) = false := bne_eq_false_iff_eq.mpr c15; clear c15
                      by_cases c16 : t201 = true
                      · subst c16
                        have H1 : (if t197 = 3 then (some false) else (stopcocklaw23_BbrLeast.l0 kj5 l0 ji12 (wrap64 (x5_1 + 1)) t197 t198 true t202 t203 t204 t205 t206 t207 t208 t209 t210)) = some r := by rw [if_pos rfl] at H; exact H
                        clear H; have H := H1; clear H1
                        by_cases c17 : t197 = 3
                        · rw [if_pos c17] at H
                          have c17b0 : (t197 == 3) = true := beq_iff_eq.mpr c17; have c17b1 : (t197 != 3) = false := bne_eq_false_iff_eq.mpr c17; clear c17; exact absurd ((Option.some.inj H).trans HRT.out) (by decide)
                        rw [if_neg c17] at H; have c17b0 : (t197 == 3) = false := beq_eq_false_iff_ne.mpr c17; have c17b1 : (t197 != 3) = true := bne_iff_ne.mpr c17; have H' := Aside0.mk H; clear H; have p196 : 0 ≤ (x5_1 : Int) := of_decide_eq_true (by first | (with_reducible assumption) | assumption); have q196 : x5_1 < (l0.length : Int) := of_decide_eq_true (by first | (with_reducible assumption) | assumption); obtain ⟨ad196, e196, hx196_0⟩ := Kd.at_int HR0.out x5_1 p196 q196
                        cases e196
                        replace hx196_0 := (HB.out.cell (World.block_lt_of_cell? w _ hx196_0)).trans hx196_0; replace p196 := eq_true p196; replace q196 := eq_true q196; have hcz18_0 : wc.cell? ⟨gb195, 0, none⟩ = some (.int .i64 x196000_1) := (blk_cell BK195.out 0).trans rfl; have hcz18_1 : wc.cell? ⟨gb195, 1, none⟩ = some (u196001) := (blk_cell BK195.out 1).trans rfl; have hcz18_2 : wc.cell? ⟨gb195, 2, none⟩ = some (.bool x196002_1) := (blk_cell BK195.out 2).trans rfl; have hcz18_3 : wc.cell? ⟨gb195, 3, none⟩ = some (.int .i64 x196003_1) := (blk_cell BK195.out 3).trans rfl; have hcz18_4 : wc.cell? ⟨gb195, 4, none⟩ = some (.int .i64 x196004_1) := (blk_cell BK195.out 4).trans rfl; have hcz18_5 : wc.cell? ⟨gb195, 5, none⟩ = some (.bool x196005_1) := (blk_cell BK195.out 5).trans rfl; have hcz18_6 : wc.cell? ⟨gb195, 6, none⟩ = some (.int .i64 x196006_1) := (blk_cell BK195.out 6).trans rfl; have hcz18_7 : wc.cell? ⟨gb195, 7, none⟩ = some (.int .i64 x196007_1) := (blk_cell BK195.out 7).trans rfl; have hcz18_8 : wc.cell? ⟨gb195, 8, none⟩ = some (.int .i64 x196008_1) := (blk_cell BK195.out 8).trans rfl; have hcz18_9 : wc.cell? ⟨gb195, 9, none⟩ = some (.int .i64 x196009_1) := (blk_cell BK195.out 9).trans rfl; have hcz18_10 : wc.cell? ⟨gb195, 10, none⟩ = some (.int .i64 x196010_1) := (blk_cell BK195.out 10).trans rfl; have hcz18_11 : wc.cell? ⟨gb195, 11, none⟩ = some (.int .i64 x196011_1) := (blk_cell BK195.out 11).trans rfl; have hfz18_0 := blk_frozen BK195.out; obtain ⟨Ao19, co19, eo19⟩ := Kd.R_slice HO_196001.out
                        subst eo19
                        go_wp2_with (first | ((with_reducible refine gate_callee (f := 15) rfl ?_); refine goesL_ (some 34) rfl rfl Try.func15 (by kernel_rfl) rfl #[.agg #[.int .i64 x196000_1, .slice Ao19 x196001_1.length co19, .bool x196002_1, .int .i64 x196003_1, .int .i64 x196004_1, .bool x196005_1, .int .i64 x196006_1, .int .i64 x196007_1, .int .i64 x196008_1, .int .i64 x196009_1, .int .i64 x196010_1, .int .i64 x196011_1], .int .i64 1000, .agg #[.int .i64 (wrap64 (100 * x5_1)), .int .i64 1, .int .i64 0, .int .i64 (Int.tmod (wrap64 ((Int.tmod (rd l0 x5_1) 100000) + 100000)) 100000), .int .i64 0, .bool false, .bool true]] rfl (by (try simp only [List.map_toArray, List.map_cons, List.map_nil]); first | done | rfl | (simp only [List.length_drop, List.length_take]; rfl)) ?_; (with_reducible refine (bbr_Ack.calls x196000_1 _ _ x196001_1 x196002_1 x196003_1 x196004_1 x196005_1 x196006_1 x196007_1 x196008_1 x196009_1 x196010_1 x196011_1 1000 (wrap64 (100 * x5_1)) 1 0 (Int.tmod (wrap64 ((Int.tmod (rd l0 x5_1) 100000) + 100000)) 100000) 0 false true t197 t198 true t202 t203 t204 t205 t206 t207 t208 t209 t210 t211 _ ?side1 ?side2 A11.out).mono ?_); (case side1 => repeat (first | exact (Kd.R_reads' HO_196001.out).2.2 | (with_reducible refine Kd.C_alloc ?_ _) | (with_reducible refine Kd.C_drewN ?_ _) | (with_reducible refine Kd.C_drew ?_))); (case side2 => exact (Kd.R_reads' HO_196001.out).2.1); rintro e w20 ⟨v199, rfl, ho0, hb⟩; refine ⟨_, rfl, ?_⟩; have n0_ := Aside0.mk (Kd.R_elder' (by (with_reducible repeat (first | apply Kd.R_alloc | apply Kd.R_drewN | apply Kd.R_drew)); exact HO_196001.out) (Kd.R_base ho0) hb); have n1_ := Aside0.mk (Kd.R_lower (Kd.R_new' ho0 (Kd.R_lt (by (with_reducible repeat (first | apply Kd.R_alloc | apply Kd.R_drewN | apply Kd.R_drew)); exact HO_196001.out))) (below_size (bel1 HB.out GE195.out))); have n2_ := Aside0.mk (blk_below (g := gb195) (o := .cells #[.int .i64 x196000_1, .slice Ao19 x196001_1.length co19, .bool x196002_1, .int .i64 x196003_1, .int .i64 x196004_1, .bool x196005_1, .int .i64 x196006_1, .int .i64 x196007_1, .int .i64 x196008_1, .int .i64 x196009_1, .int .i64 x196010_1, .int .i64 x196011_1] 40 (0, 0)) (skp_ BK195.out) hb); have n3_ := Aside0.mk (below_step (bel1 HB.out GE195.out) hb); clear HO_196001; clear BK195; clear HB; have HO_196001 := n0_; have HO200 := n1_; have BK195 := n2_; have HB := n3_; clear n0_ n1_ n2_ n3_; (try clear hb); (try clear hb2); (try clear hk); (try clear hi); (try clear ho0)) | ((with_reducible refine gate_dst (N := 7) rfl ?_); refine box_event ?hg (N := 7) ?hd (cs := #[.int .i64 0, .slice none 0 0, .bool false, .int .i64 0, .int .i64 0, .bool false, .int .i64 0, .int .i64 0, .int .i64 0, .int .i64 0, .int .i64 0, .int .i64 0]) (t := 40) ?hr ?_; (case hd => rfl); (case hg => rfl); (case hr => first | (go_simp; done) | (go_simp; rfl)); intro gb212 hg w21 hbox hb; have n0_ := Aside0.mk (Kd.R_below (by (with_reducible repeat (first | apply Kd.R_alloc | apply Kd.R_drewN | apply Kd.R_drew)); exact HO_196001.out) hb); have n1_ := Aside0.mk (Kd.R_below (by (with_reducible repeat (first | apply Kd.R_alloc | apply Kd.R_drewN | apply Kd.R_drew)); exact HO200.out) hb); have n2_ := Aside0.mk (blk_below (g := gb195) (o := .cells #[.int .i64 x196000_1, .slice Ao19 x196001_1.length co19, .bool x196002_1, .int .i64 x196003_1, .int .i64 x196004_1, .bool x196005_1, .int .i64 x196006_1, .int .i64 x196007_1, .int .i64 x196008_1, .int .i64 x196009_1, .int .i64 x196010_1, .int .i64 x196011_1] 40 (0, 0)) (skp_ BK195.out) hb); have n3_ := Aside0.mk (below_step (bel1 HB.out GE195.out) hb); have n4_ := Aside0.mk (hbox); have n5_ := Aside0.mk ((by rw [hg]; exact (below_size (bel1 HB.out GE195.out)) : w.heap.size ≤ gb212)); have n6_ := n5_; have n7_ := Aside0.mk ((by rw [hg]; exact Nat.ne_of_lt (blk_lt (skp_ BK195.out)) : gb195 ≠ gb212)); have n8_ := Aside0.mk ((by rw [hg]; exact Nat.ne_of_gt (blk_lt (skp_ BK195.out)) : gb212 ≠ gb195)); clear HO_196001; clear HO200; clear BK195; clear HB; have HO_196001 := n0_; have HO200 := n1_; have BK195 := n2_; have HB := n3_; have BK212 := n4_; have GW212 := n5_; have GE212 := n6_; have NB195_212 := n7_; have NB212_195 := n8_; clear n0_ n1_ n2_ n3_ n4_ n5_ n6_ n7_ n8_; clear hb hbox hg; have hnb22 := NB212_195.out; have hnc22 := NB195_212.out; have hcz23_0 : w21.cell? ⟨gb212, 0, none⟩ = some (.int .i64 0) := (blk_cell BK212.out 0).trans rfl; have hcz23_1 : w21.cell? ⟨gb212, 1, none⟩ = some (.slice none 0 0) := (blk_cell BK212.out 1).trans rfl; have hcz23_2 : w21.cell? ⟨gb212, 2, none⟩ = some (.bool false) := (blk_cell BK212.out 2).trans rfl; have hcz23_3 : w21.cell? ⟨gb212, 3, none⟩ = some (.int .i64 0) := (blk_cell BK212.out 3).trans rfl; have hcz23_4 : w21.cell? ⟨gb212, 4, none⟩ = some (.int .i64 0) := (blk_cell BK212.out 4).trans rfl; have hcz23_5 : w21.cell? ⟨gb212, 5, none⟩ = some (.bool false) := (blk_cell BK212.out 5).trans rfl; have hcz23_6 : w21.cell? ⟨gb212, 6, none⟩ = some (.int .i64 0) := (blk_cell BK212.out 6).trans rfl; have hcz23_7 : w21.cell? ⟨gb212, 7, none⟩ = some (.int .i64 0) := (blk_cell BK212.out 7).trans rfl; have hcz23_8 : w21.cell? ⟨gb212, 8, none⟩ = some (.int .i64 0) := (blk_cell BK212.out 8).trans rfl; have hcz23_9 : w21.cell? ⟨gb212, 9, none⟩ = some (.int .i64 0) := (blk_cell BK212.out 9).trans rfl; have hcz23_10 : w21.cell? ⟨gb212, 10, none⟩ = some (.int .i64 0) := (blk_cell BK212.out 10).trans rfl; have hcz23_11 : w21.cell? ⟨gb212, 11, none⟩ = some (.int .i64 0) := (blk_cell BK212.out 11).trans rfl; have hfz23_0 := blk_frozen BK212.out; obtain ⟨Ao24, co24, eo24⟩ := Kd.R_slice HO200.out; subst eo24) | ((with_reducible refine gate_callee (f := 13) rfl ?_); refine goesL_ (some 41) rfl rfl Try.func13 (by kernel_rfl) rfl #[.int .i64 t211] rfl (by (try simp only [List.map_toArray, List.map_cons, List.map_nil]); first | done | rfl | (simp only [List.length_drop, List.length_take]; rfl)) ?_; (with_reducible refine (stopcocklaw23_num.same t211 t213 _ A13.out).mono ?_); rintro e w' ⟨rfl, hw_⟩; replace hw_ := hw_.symm; subst hw_; refine ⟨_, rfl, ?_⟩; have hcz25_0 : w21.cell? ⟨gb195, 0, none⟩ = some (.int .i64 x196000_1) := (blk_cell BK195.out 0).trans rfl; have hcz25_1 : w21.cell? ⟨gb195, 1, none⟩ = some (.slice Ao19 x196001_1.length co19) := (blk_cell BK195.out 1).trans rfl; have hcz25_2 : w21.cell? ⟨gb195, 2, none⟩ = some (.bool x196002_1) := (blk_cell BK195.out 2).trans rfl; have hcz25_3 : w21.cell? ⟨gb195, 3, none⟩ = some (.int .i64 x196003_1) := (blk_cell BK195.out 3).trans rfl; have hcz25_4 : w21.cell? ⟨gb195, 4, none⟩ = some (.int .i64 x196004_1) := (blk_cell BK195.out 4).trans rfl; have hcz25_5 : w21.cell? ⟨gb195, 5, none⟩ = some (.bool x196005_1) := (blk_cell BK195.out 5).trans rfl; have hcz25_6 : w21.cell? ⟨gb195, 6, none⟩ = some (.int .i64 x196006_1) := (blk_cell BK195.out 6).trans rfl; have hcz25_7 : w21.cell? ⟨gb195, 7, none⟩ = some (.int .i64 x196007_1) := (blk_cell BK195.out 7).trans rfl; have hcz25_8 : w21.cell? ⟨gb195, 8, none⟩ = some (.int .i64 x196008_1) := (blk_cell BK195.out 8).trans rfl; have hcz25_9 : w21.cell? ⟨gb195, 9, none⟩ = some (.int .i64 x196009_1) := (blk_cell BK195.out 9).trans rfl; have hcz25_10 : w21.cell? ⟨gb195, 10, none⟩ = some (.int .i64 x196010_1) := (blk_cell BK195.out 10).trans rfl; have hcz25_11 : w21.cell? ⟨gb195, 11, none⟩ = some (.int .i64 x196011_1) := (blk_cell BK195.out 11).trans rfl; have hfz25_0 := blk_frozen BK195.out))
                        go_roundg kj5
                        case measure => have := HK1.out; have := HJ5.out; omega
                        case rel => exact ⟨(ji12), (wrap64 (x5_1 + 1)), (t197), (t198), (true), (t202), (t203), (t204), (t205), (t206), (t207), (t208), (t209), (t210), (.slice Ao24 t198.length co24), (by first | rfl | (simp; done) | (simp only [← hji12] <;> (first | rfl | simp)) | (simp [*]; done)), (by first | rfl | (simp; done) | (simp [*]; done)), H', ⟨by have := HK1.out; have := HJ5.out; omega⟩, ⟨by (with_reducible repeat (first | apply Kd.R_alloc | apply Kd.R_drewN | apply Kd.R_drew)); exact Kd.R_mono (Kd.R_far (p := ⟨gb195, 11, none⟩) (Kd.R_far (p := ⟨gb195, 10, none⟩) (Kd.R_far (p := ⟨gb195, 9, none⟩) (Kd.R_far (p := ⟨gb195, 8, none⟩) (Kd.R_far (p := ⟨gb195, 7, none⟩) (Kd.R_far (p := ⟨gb195, 6, none⟩) (Kd.R_far (p := ⟨gb195, 5, none⟩) (Kd.R_far (p := ⟨gb195, 4, none⟩) (Kd.R_far (p := ⟨gb195, 3, none⟩) (Kd.R_far (p := ⟨gb195, 2, none⟩) (Kd.R_far (p := ⟨gb195, 1, none⟩) (Kd.R_far (p := ⟨gb195, 0, none⟩) (Kd.R_far (p := ⟨gb212, 11, none⟩) (Kd.R_far (p := ⟨gb212, 10, none⟩) (Kd.R_far (p := ⟨gb212, 9, none⟩) (Kd.R_far (p := ⟨gb212, 8, none⟩) (Kd.R_far (p := ⟨gb212, 7, none⟩) (Kd.R_far (p := ⟨gb212, 6, none⟩) (Kd.R_far (p := ⟨gb212, 5, none⟩) (Kd.R_far (p := ⟨gb212, 4, none⟩) (Kd.R_far (p := ⟨gb212, 3, none⟩) (Kd.R_far (p := ⟨gb212, 2, none⟩) (Kd.R_far (p := ⟨gb212, 1, none⟩) (Kd.R_far (p := ⟨gb212, 0, none⟩) (Kd.R_types (Kd.R_types HO200.out BK212.out (by decide)) BK195.out (by decide)) (fun _ hk => hk.1.2) (.int .i64 t197)) (fun _ hk => hk.1.2) (.slice Ao24 t198.length co24)) (fun _ hk => hk.1.2) (.bool true)) (fun _ hk => hk.1.2) (.int .i64 t202)) (fun _ hk => hk.1.2) (.int .i64 t203)) (fun _ hk => hk.1.2) (.bool t204)) (fun _ hk => hk.1.2) (.int .i64 t205)) (fun _ hk => hk.1.2) (.int .i64 t206)) (fun _ hk => hk.1.2) (.int .i64 t207)) (fun _ hk => hk.1.2) (.int .i64 t208)) (fun _ hk => hk.1.2) (.int .i64 t209)) (fun _ hk => hk.1.2) (.int .i64 t210)) (fun _ hk => hk.2) (.int .i64 t197)) (fun _ hk => hk.2) (.slice Ao24 t198.length co24)) (fun _ hk => hk.2) (.bool true)) (fun _ hk => hk.2) (.int .i64 t202)) (fun _ hk => hk.2) (.int .i64 t203)) (fun _ hk => hk.2) (.bool t204)) (fun _ hk => hk.2) (.int .i64 t205)) (fun _ hk => hk.2) (.int .i64 t206)) (fun _ hk => hk.2) (.int .i64 t207)) (fun _ hk => hk.2) (.int .i64 t208)) (fun _ hk => hk.2) (.int .i64 t209)) (fun _ hk => hk.2) (.int .i64 t210)) (fun _ hk => trivial)⟩, ⟨by refine put_ (cs := #[.int .i64 x196000_1, .slice Ao19 x196001_1.length co19, .bool x196002_1, .int .i64 x196003_1, .int .i64 x196004_1, .bool x196005_1, .int .i64 x196006_1, .int .i64 x196007_1, .int .i64 x196008_1, .int .i64 x196009_1, .int .i64 x196010_1, .int .i64 x196011_1]) ?_ (by simp only [q1_, q2_, q3_]); exact far_ NB195_212.out BK195.out⟩, ⟨by exact bel2 HB.out GE195.out GE212.out⟩⟩
                      replace c16 := Bool.eq_false_iff.mpr c16
                      subst c16
                      have H1 : (some false) = some r := by rw [if_neg (show ¬ (false = true) by decide)] at H; exact H
                      clear H; have H := H1; clear H1; exact absurd ((Option.some.inj H).trans HRT.out) (by decide)
                    rw [if_neg c15] at H; have c15b0 : (t202 == (ji12)) = false := beq_eq_false_iff_ne.mpr c15; have c15b1 : (t202 != (ji12)) = true := bne_iff_ne.mpr c15; exact absurd ((Option.some.inj H).trans HRT.out) (by decide)
                  rw [if_neg c14] at H; have c14b0 : (t213 == 0) = false := beq_eq_false_iff_ne.mpr c14; have c14b1 : (t213 != 0) = true := bne_iff_ne.mpr c14; exact absurd ((Option.some.inj H).trans HRT.out) (by decide)
                rw [if_neg c10] at H; exact absurd H (by simp)
              rw [if_neg c9] at H; exact absurd H (by simp)
            replace c8 := Bool.eq_false_iff.mpr c8
            subst c8
            have H1 : (some true) = some r := by rw [if_neg (show ¬ (false = true) by decide)] at H; exact H
            clear H; have H := H1; clear H1; obtain rfl := Option.some.inj H
            go_wp2
            go_ret
            exact ⟨by first | rfl | (simp [errW_none, errW_some] <;> rfl) | (simp [*, errW_none, errW_some] <;> rfl), by exact bel1 HB.out GE195.out⟩
  replace c3 := Bool.eq_false_iff.mpr c3
  subst c3
  have H1 : (some false) = some r := by rw [if_neg (show ¬ (false = true) by decide)] at H; exact H
  clear H; have H := H1; clear H1; exact absurd ((Option.some.inj H).trans HRT.out) (by decide)

/-- THE ONE PURE STATEMENT of stopcocklaw23_BbrLeast: yours. -/
def stopcocklaw23_BbrLeast.Pure : Prop := ∀ (l0 : List Int), l0.length ≤ maxLen → l0.length * 8 ≤ 140737488351232 → (∀ x ∈ l0, (Lit.int .i64 x).wf = true) → ∃ k, stopcocklaw23_BbrLeast.f k l0 = some true
theorem stopcocklaw23_BbrLeast.walk (P : stopcocklaw23_BbrLeast.Pure) (a0 : Option Addr) (len0 cap0 : Nat) (z0 : List Int) (w : World) (w0 : (a0 = none ∧ len0 = 0 ∧ cap0 = 0 ∧ z0 = []) ∨ ∃ x, a0 = some x ∧ len0 ≤ cap0 ∧ cap0 ≤ maxLen ∧ z0.length = cap0 ∧ (∀ i, i < z0.length → w.cell? (x.add i) = some (.int .i64 (z0.getD i 0))) ∧ ∀ n ∈ z0, (Lit.int .i64 n).wf = true) (y0 : len0 * 8 ≤ 140737488351232) :
    Calls Try.prog 7 #[.slice a0 len0 cap0] w fun e w' => e = .returned (.bool true) ∧ Below w.heap.size w w' := by
  obtain ⟨l0, rfl, hr0, hm0, hw0, hc0⟩ := ReadsInt.ofRowC w0; obtain ⟨k, h⟩ := P l0 hm0 y0 hw0; refine (stopcocklaw23_BbrLeast.calls k _ _ l0 true w (Kd.C_of_reads (d := (0 : Int)) (h1 := fun _ => rfl) hr0) hc0 h rfl).mono ?_
  rintro e w' ⟨rfl, hd⟩
  exact ⟨rfl, hd⟩

/-! ### bbr_State_gain: function 38 -/
def bbr_State_gain.f (a0_0 : Int) (l0_1 : List (S36)) (a0_2 : Bool) (a0_3 : Int) (a0_4 : Int) (a0_5 : Bool) (a0_6 : Int) (a0_7 : Int) (a0_8 : Int) (a0_9 : Int) (a0_10 : Int) (a0_11 : Int) : Option (Int) := Hand.gainF a0_0 a0_8
set_option maxHeartbeats 8000000 in
set_option maxRecDepth 100000 in
theorem bbr_State_gain.calls (a0_0 : Int) (A0_1 : Option Addr) (c0_1 : Nat) (l0_1 : List (S36)) (a0_2 : Bool) (a0_3 : Int) (a0_4 : Int) (a0_5 : Bool) (a0_6 : Int) (a0_7 : Int) (a0_8 : Int) (a0_9 : Int) (a0_10 : Int) (a0_11 : Int) (r : Int) (w : World) (hr0_1 : Kd.C k36 w A0_1 l0_1.length l0_1) (hc0_1 : l0_1.length ≤ c0_1) (h : bbr_State_gain.f a0_0 l0_1 a0_2 a0_3 a0_4 a0_5 a0_6 a0_7 a0_8 a0_9 a0_10 a0_11 = some r) :
    Calls Try.prog 38 #[.agg #[.int .i64 a0_0, .slice A0_1 l0_1.length c0_1, .bool a0_2, .int .i64 a0_3, .int .i64 a0_4, .bool a0_5, .int .i64 a0_6, .int .i64 a0_7, .int .i64 a0_8, .int .i64 a0_9, .int .i64 a0_10, .int .i64 a0_11]] w fun e w' => e = .returned (.int .i64 r) ∧ Below w.heap.size w w' := by
  exact Hand.gain_calls a0_0 A0_1 c0_1 l0_1 a0_2 a0_3 a0_4 a0_5 a0_6 a0_7 a0_8 a0_9 a0_10 a0_11 r w hr0_1 hc0_1 h


end Go.Proofs.Ytodlibmnmjopbaa.PA
