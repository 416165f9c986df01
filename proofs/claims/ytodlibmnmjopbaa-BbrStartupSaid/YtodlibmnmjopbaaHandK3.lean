/- The walk of bbr.Ack, its last part: by hand. -/
import Derived.Test.YtodlibmnmjopbaaHandK0
namespace Go.Proofs.Ytodlibmnmjopbaa.Hand
open Go.RowKit Go.Proofs.YtodlibmnmjopbaaW.PrintWords Go.Proofs.YtodlibmnmjopbaaW.PrintLast Go.Proofs.YtodlibmnmjopbaaW.PrintMore Go.Proofs.Ytodlibmnmjopbaa.PA Go.Proofs.Ytodlibmnmjopbaa.Util
set_option linter.unusedVariables false
set_option linter.unusedSimpArgs false
attribute [local go_sem] Oper.semAt_some max2_int max_two min2_int min_two

set_option maxHeartbeats 4000000 in
set_option maxRecDepth 100000 in
theorem ack_part3 (A2 : Option Addr) (c2 : Nat) (s4 s0 : B) (e : Ev1) (mss : Int) (w wc : World) (hlc2 : s4.l.length ≤ c2) (I8 : Inv w wc (.slice A2 s4.l.length c2) s4 e) (hgr : 0 ≤ gr s4.l ∧ gr s4.l ≤ 1073741824) (hrt : 0 ≤ s4.rt ∧ s4.rt ≤ 1073741824) (oe : okE s0 e mss) (old : Bool) (s6 : B)
    (h64 : st6 (st5 s4 e) e old = s6) (x0 x1 x2 x4 x9 u11 u12 u13 u14 u15 u16 u17 u18 u19 u20 u21 u22 u23 u24 u25 u26 u27 u28 u29 u30 u31 u32 u33 u34 u35 u36 u37 u38 u39 u40 u41 u42 u43 u44 u45 u46 u47 u48 u49 u50 u51 u52 u53 u54 u55 u56 u57 u58 u59 u60 u61 u62 u63 u64 u65 u66 u67 u68 u69 u70 u71 u72 u73 u74 u75 u76 u77 u78 u79 u80 u81 u82 u83 u84 u85 u86 u87 u88 u89 u90 u91 u92 u93 u94 u95 u96 u97 u98 u99 u100 u101 u102 u103 u104 u105 u106 u107 u108 u109 u110 u111 u112 u113 u114 u115 u116 u117 u118 u119 u120 u121 u122 u123 u124 u125 u126 u127 u128 u129 u130 u131 u132 u133 u134 u135 u136 u137 u138 u139 u140 u141 u142 u143 u144 u145 u146 u147 u148 u149 u150 u151 u152 u153 u154 u155 u156 u157 u158 u159 u160 u161 u162 : Value) :
    Code.wp Try.prog (snd (snd (snd (snd (snd (snd (snd (snd (snd (bodyOf Try.f15)))))))))) (bodyPost Try.prog Try.f15 fun x w' => ∃ v, x = .returned (.tuple #[.agg (cb v s6), .int .i64 0]) ∧ Kd.R k36 36 w' w.heap.size (fun _ => True) v s6.l ∧ Below w.heap.size w w')
      { tmps := #[x0, x1, x2, .pointer (some ⟨w.heap.size, 0, none⟩), x4, .pointer (some ⟨w.heap.size + 1, 0, none⟩), .pointer (some ⟨w.heap.size + 1 + 1, 0, none⟩), .int .i64 0, .int .i64 0, x9, .bool old, u11, u12, u13, u14, u15, u16, u17, u18, u19, u20, u21, u22, u23, u24, u25, u26, u27, u28, u29, u30, u31, u32, u33, u34, u35, u36, u37, u38, u39, u40, u41, u42, u43, u44, u45, u46, u47, u48, u49, u50, u51, u52, u53, u54, u55, u56, u57, u58, u59, u60, u61, u62, u63, u64, u65, u66, u67, u68, u69, u70, u71, u72, u73, u74, u75, u76, u77, u78, u79, u80, u81, u82, u83, u84, u85, u86, u87, u88, u89, u90, u91, u92, u93, u94, u95, u96, u97, u98, u99, u100, u101, u102, u103, u104, u105, u106, u107, u108, u109, u110, u111, u112, u113, u114, u115, u116, u117, u118, u119, u120, u121, u122, u123, u124, u125, u126, u127, u128, u129, u130, u131, u132, u133, u134, u135, u136, u137, u138, u139, u140, u141, u142, u143, u144, u145, u146, u147, u148, u149, u150, u151, u152, u153, u154, u155, u156, u157, u158, u159, u160, u161, u162], defers := [] } wc := by
  have HOE := Aside0.mk oe
  have HI8 := Aside0.mk I8
  have H64 := Aside0.mk h64
  clear oe I8 h64
  conv => arg 2; simp only [bodyOf, Try.f15, Option.getD_some, snd]
  obtain ⟨ow, how⟩ : ∃ z, gr s4.l * s4.rt / 1024 = z := ⟨_, rfl⟩
  have hp1 : 0 ≤ gr s4.l * s4.rt := Int.mul_nonneg hgr.1 hrt.1
  have hp2 : gr s4.l * s4.rt ≤ 1073741824 * 1073741824 := Int.mul_le_mul hgr.2 hrt.2 hrt.1 (by decide)
  have HOW := Aside0.mk (show bbr_State_onWay.f s4.ph s4.l s4.hr s4.rt s4.ra s4.fu s4.fr s4.fn s4.cy s4.ca s4.un s4.rd = some ow from by
    unfold bbr_State_onWay.f
    rw [gr_eq, Option.bind_some, wrap_id (x := gr s4.l * s4.rt) (by omega) (by omega), tdiv_pos hp1, how, wrap_id (by omega) (by omega)])
  have HW := Aside0.mk how
  clear how hp1 hp2
  go_upto_region 18 with (fail)
  (try simp only [List.push_toArray, List.append_toArray, List.nil_append, List.cons_append])
  go_cut [133] (fun v133 wc => ∃ b : Bool, v133 = .bool b ∧ Aside0 (b = true ↔ (s4.ph = 1 ∧ e.fl ≤ ow)) ∧ Inv w wc (.slice A2 s4.l.length c2) s4 e)
  case first =>
    by_cases h1 : s4.ph = 1
    · have H1 := Aside0.mk h1
      have g1 : (s4.ph == 1) = true := by simp [h1]
      have g2 : decide (s4.ph = 1) = true := by simp [h1]
      clear h1
      go_wp2
      refine start_ (n := 10) (S := fun w' => w'.cell? ⟨w.heap.size, 0, none⟩ = some (.int .i64 s4.ph) ∧ w'.cell? ⟨w.heap.size, 1, none⟩ = some (.slice A2 s4.l.length c2) ∧ w'.cell? ⟨w.heap.size, 2, none⟩ = some (.bool s4.hr) ∧ w'.cell? ⟨w.heap.size, 3, none⟩ = some (.int .i64 s4.rt) ∧ w'.cell? ⟨w.heap.size, 4, none⟩ = some (.int .i64 s4.ra) ∧ w'.cell? ⟨w.heap.size, 5, none⟩ = some (.bool s4.fu) ∧ w'.cell? ⟨w.heap.size, 6, none⟩ = some (.int .i64 s4.fr) ∧ w'.cell? ⟨w.heap.size, 7, none⟩ = some (.int .i64 s4.fn) ∧ w'.cell? ⟨w.heap.size, 8, none⟩ = some (.int .i64 s4.cy) ∧ w'.cell? ⟨w.heap.size, 9, none⟩ = some (.int .i64 s4.ca) ∧ w'.cell? ⟨w.heap.size, 10, none⟩ = some (.int .i64 s4.un) ∧ w'.cell? ⟨w.heap.size, 11, none⟩ = some (.int .i64 s4.rd) ∧ w'.cell? ⟨w.heap.size + 1, 4, none⟩ = some (.int .i64 e.fl)) (ds := []) (bs 10 0) (by kernel_rfl) rfl rfl ⟨(blk_cell HI8.out.hs 0).trans rfl, (blk_cell HI8.out.hs 1).trans rfl, (blk_cell HI8.out.hs 2).trans rfl, (blk_cell HI8.out.hs 3).trans rfl, (blk_cell HI8.out.hs 4).trans rfl, (blk_cell HI8.out.hs 5).trans rfl, (blk_cell HI8.out.hs 6).trans rfl, (blk_cell HI8.out.hs 7).trans rfl, (blk_cell HI8.out.hs 8).trans rfl, (blk_cell HI8.out.hs 9).trans rfl, (blk_cell HI8.out.hs 10).trans rfl, (blk_cell HI8.out.hs 11).trans rfl, (blk_cell HI8.out.he 4).trans rfl⟩ (fun hHeld => ?_)
      have HId : Aside0 (Inv w wc.drew (.slice A2 s4.l.length c2) s4 e) := ⟨HI8.out.below (below_drew1 (Below.refl _ _))⟩
      generalize wc.drew = wd at hHeld HId ⊢
      refine pure_ (i := 0) (N := some 124) (v := ?_) (a' := ?_) (bs 10 1) rfl rfl (by kernel_rfl) (fun _ _ _ h => h) (Or.inl ⟨by rfl, ?_⟩) ?_ ?_; rotate_left; (intro w'; go_simp; with_reducible rfl); rotate_left; (simp only [Act.put, q1_, q2_, q3_, i64_w, i32_w]; rfl)
      refine take_ (i := 1) (N := some 125) (v := ?_) (a' := ?_) (bs 10 3) rfl rfl (by kernel_rfl) (fun _ _ _ h => h) (Or.inl ⟨by rfl, ?_⟩) hHeld ?_ ?_; rotate_left; (rintro w' ⟨s0, s1, s2, s3, s4, s5, s6, s7, s8, s9, s10, s11, s12⟩; go_simp; with_reducible rfl); rotate_left; (simp only [Act.put, q1_, q2_, q3_, i64_w, i32_w]; rfl)
      refine pure_ (i := 2) (N := some 126) (v := ?_) (a' := ?_) (bs 10 7) rfl rfl (by kernel_rfl) (fun _ _ _ h => h) (Or.inl ⟨by rfl, ?_⟩) ?_ ?_; rotate_left; (intro w'; go_simp; with_reducible rfl); rotate_left; (simp only [Act.put, q1_, q2_, q3_, i64_w, i32_w]; rfl)
      refine pure_ (i := 3) (N := some 127) (v := ?_) (a' := ?_) (bs 10 15) rfl rfl (by kernel_rfl) (fun _ _ _ h => h) (Or.inl ⟨by rfl, ?_⟩) ?_ ?_; rotate_left; (intro w'; go_simp; with_reducible rfl); rotate_left; (simp only [Act.put, q1_, q2_, q3_, i64_w, i32_w]; rfl)
      refine pure_ (i := 4) (N := some 128) (v := ?_) (a' := ?_) (bs 10 31) rfl rfl (by kernel_rfl) (fun _ _ _ h => h) (Or.inl ⟨by rfl, ?_⟩) ?_ ?_; rotate_left; (intro w'; go_simp; with_reducible rfl); rotate_left; (simp only [Act.put, q1_, q2_, q3_, i64_w, i32_w]; rfl)
      refine take_ (i := 5) (N := some 129) (v := ?_) (a' := ?_) (bs 10 63) rfl rfl (by kernel_rfl) (fun _ _ _ h => h) (Or.inl ⟨by rfl, ?_⟩) hHeld ?_ ?_; rotate_left; (rintro w' ⟨s0, s1, s2, s3, s4, s5, s6, s7, s8, s9, s10, s11, s12⟩; go_simp; with_reducible rfl); rotate_left; (simp only [Act.put, q1_, q2_, q3_, i64_w, i32_w]; rfl)
      refine take_ (i := 6) (N := some 130) (v := ?_) (a' := ?_) (bs 10 127) rfl rfl (by kernel_rfl) (fun _ _ _ h => h) (Or.inl ⟨by rfl, ?_⟩) hHeld ?_ ?_; rotate_left; (rintro w' ⟨s0, s1, s2, s3, s4, s5, s6, s7, s8, s9, s10, s11, s12⟩; go_simp; with_reducible rfl); rotate_left; (simp only [Act.put, q1_, q2_, q3_, i64_w, i32_w]; rfl)
      refine one_ (i := 7) (N := some 131) (bs 10 255) rfl rfl (by kernel_rfl) (by decide) (fun K hK => ?_)
      refine goes_ Try.func30 (by kernel_rfl) rfl #[.agg (cb (.slice A2 s4.l.length c2) s4)] (by rfl) rfl rfl (by (try simp only [List.map_toArray, List.map_cons, List.map_nil]); first | done | rfl) ?_
      refine (bbr_State_onWay.calls s4.ph A2 c2 s4.l s4.hr s4.rt s4.ra s4.fu s4.fr s4.fn s4.cy s4.ca s4.un s4.rd ow wd ?sd1 hlc2 HOW.out).mono ?_
      (case sd1 => obtain ⟨A9, c9, e9, _, h9⟩ := Kd.R_reads HId.out.hR; cases e9; exact h9)
      rintro x w6 ⟨rfl, hb6⟩
      refine ⟨_, rfl, ?_⟩
      have HIe := Aside0.mk (HId.out.below hb6)
      refine hK.out _ _ ⟨(blk_cell HIe.out.hs 0).trans rfl, (blk_cell HIe.out.hs 1).trans rfl, (blk_cell HIe.out.hs 2).trans rfl, (blk_cell HIe.out.hs 3).trans rfl, (blk_cell HIe.out.hs 4).trans rfl, (blk_cell HIe.out.hs 5).trans rfl, (blk_cell HIe.out.hs 6).trans rfl, (blk_cell HIe.out.hs 7).trans rfl, (blk_cell HIe.out.hs 8).trans rfl, (blk_cell HIe.out.hs 9).trans rfl, (blk_cell HIe.out.hs 10).trans rfl, (blk_cell HIe.out.hs 11).trans rfl, (blk_cell HIe.out.he 4).trans rfl⟩ (fun hHeld => ?_); clear hK K
      refine norm_ (a' := ?_) ?_ ?_; rotate_left; (show Act.put _ (some 131) _ = _; simp only [Act.put, q1_, q2_, q3_, i64_w, i32_w]; rfl)
      refine pure_ (i := 8) (N := some 132) (v := ?_) (a' := ?_) (bs 10 511) rfl rfl (by kernel_rfl) (fun _ _ _ h => h) (Or.inl ⟨by rfl, ?_⟩) ?_ ?_; rotate_left; (intro w'; go_simp; with_reducible rfl); rotate_left; (simp only [Act.put, q1_, q2_, q3_, i64_w, i32_w]; rfl)
      refine pure_ (i := 9) (N := some 133) (v := ?_) (a' := ?_) (bs 10 1023) rfl rfl (by kernel_rfl) (fun _ _ _ h => h) (Or.inl ⟨by rfl, ?_⟩) ?_ ?_; rotate_left; (intro w'; go_simp; with_reducible rfl); rotate_left; (simp only [Act.put, q1_, q2_, q3_, i64_w, i32_w]; rfl)
      refine done_ (by kernel_rfl) ?_
      go_wp2
      go_meet
      case rel => exact ⟨_, rfl, ⟨by have := H1.out; simp [this]⟩, HIe.out⟩
    · have H1 := Aside0.mk h1
      have g1 : (s4.ph == 1) = false := by simp [h1]
      have g2 : decide (s4.ph = 1) = false := by simp [h1]
      clear h1
      go_wp2
      refine start_ (n := 10) (S := fun w' => w'.cell? ⟨w.heap.size, 0, none⟩ = some (.int .i64 s4.ph) ∧ w'.cell? ⟨w.heap.size, 1, none⟩ = some (.slice A2 s4.l.length c2) ∧ w'.cell? ⟨w.heap.size, 2, none⟩ = some (.bool s4.hr) ∧ w'.cell? ⟨w.heap.size, 3, none⟩ = some (.int .i64 s4.rt) ∧ w'.cell? ⟨w.heap.size, 4, none⟩ = some (.int .i64 s4.ra) ∧ w'.cell? ⟨w.heap.size, 5, none⟩ = some (.bool s4.fu) ∧ w'.cell? ⟨w.heap.size, 6, none⟩ = some (.int .i64 s4.fr) ∧ w'.cell? ⟨w.heap.size, 7, none⟩ = some (.int .i64 s4.fn) ∧ w'.cell? ⟨w.heap.size, 8, none⟩ = some (.int .i64 s4.cy) ∧ w'.cell? ⟨w.heap.size, 9, none⟩ = some (.int .i64 s4.ca) ∧ w'.cell? ⟨w.heap.size, 10, none⟩ = some (.int .i64 s4.un) ∧ w'.cell? ⟨w.heap.size, 11, none⟩ = some (.int .i64 s4.rd) ∧ w'.cell? ⟨w.heap.size + 1, 4, none⟩ = some (.int .i64 e.fl)) (ds := []) (bs 10 0) (by kernel_rfl) rfl rfl ⟨(blk_cell HI8.out.hs 0).trans rfl, (blk_cell HI8.out.hs 1).trans rfl, (blk_cell HI8.out.hs 2).trans rfl, (blk_cell HI8.out.hs 3).trans rfl, (blk_cell HI8.out.hs 4).trans rfl, (blk_cell HI8.out.hs 5).trans rfl, (blk_cell HI8.out.hs 6).trans rfl, (blk_cell HI8.out.hs 7).trans rfl, (blk_cell HI8.out.hs 8).trans rfl, (blk_cell HI8.out.hs 9).trans rfl, (blk_cell HI8.out.hs 10).trans rfl, (blk_cell HI8.out.hs 11).trans rfl, (blk_cell HI8.out.he 4).trans rfl⟩ (fun hHeld => ?_)
      have HId : Aside0 (Inv w wc.drew (.slice A2 s4.l.length c2) s4 e) := ⟨HI8.out.below (below_drew1 (Below.refl _ _))⟩
      generalize wc.drew = wd at hHeld HId ⊢
      refine pure_ (i := 0) (N := some 124) (v := ?_) (a' := ?_) (bs 10 1) rfl rfl (by kernel_rfl) (fun _ _ _ h => h) (Or.inl ⟨by rfl, ?_⟩) ?_ ?_; rotate_left; (intro w'; go_simp; with_reducible rfl); rotate_left; (simp only [Act.put, q1_, q2_, q3_, i64_w, i32_w]; rfl)
      refine take_ (i := 1) (N := some 125) (v := ?_) (a' := ?_) (bs 10 3) rfl rfl (by kernel_rfl) (fun _ _ _ h => h) (Or.inl ⟨by rfl, ?_⟩) hHeld ?_ ?_; rotate_left; (rintro w' ⟨s0, s1, s2, s3, s4, s5, s6, s7, s8, s9, s10, s11, s12⟩; go_simp; with_reducible rfl); rotate_left; (simp only [Act.put, q1_, q2_, q3_, i64_w, i32_w]; rfl)
      refine pure_ (i := 2) (N := some 126) (v := ?_) (a' := ?_) (bs 10 7) rfl rfl (by kernel_rfl) (fun _ _ _ h => h) (Or.inl ⟨by rfl, ?_⟩) ?_ ?_; rotate_left; (intro w'; go_simp; with_reducible rfl); rotate_left; (simp only [Act.put, q1_, q2_, q3_, i64_w, i32_w]; rfl)
      refine pure_ (i := 3) (N := some 127) (v := ?_) (a' := ?_) (bs 10 15) rfl rfl (by kernel_rfl) (fun _ _ _ h => h) (Or.inl ⟨by rfl, ?_⟩) ?_ ?_; rotate_left; (intro w'; go_simp; with_reducible rfl); rotate_left; (simp only [Act.put, q1_, q2_, q3_, i64_w, i32_w]; rfl)
      refine pure_ (i := 4) (N := some 128) (v := undef) (a' := ?_) (bs 10 31) rfl rfl (by kernel_rfl) (fun _ _ _ h => h) (Or.inr ⟨by rfl, rfl⟩) ?_ ?_; rotate_left; (simp only [Act.put, q1_, q2_, q3_, i64_w, i32_w]; rfl)
      refine pure_ (i := 5) (N := some 129) (v := undef) (a' := ?_) (bs 10 63) rfl rfl (by kernel_rfl) (fun _ _ _ h => h) (Or.inr ⟨by rfl, rfl⟩) ?_ ?_; rotate_left; (simp only [Act.put, q1_, q2_, q3_, i64_w, i32_w]; rfl)
      refine pure_ (i := 6) (N := some 130) (v := undef) (a' := ?_) (bs 10 127) rfl rfl (by kernel_rfl) (fun _ _ _ h => h) (Or.inr ⟨by rfl, rfl⟩) ?_ ?_; rotate_left; (simp only [Act.put, q1_, q2_, q3_, i64_w, i32_w]; rfl)
      refine pure_ (i := 7) (N := some 131) (v := undef) (a' := ?_) (bs 10 255) rfl rfl (by kernel_rfl) (fun _ _ _ h => h) (Or.inr ⟨by rfl, rfl⟩) ?_ ?_; rotate_left; (simp only [Act.put, q1_, q2_, q3_, i64_w, i32_w]; rfl)
      refine pure_ (i := 8) (N := some 132) (v := undef) (a' := ?_) (bs 10 511) rfl rfl (by kernel_rfl) (fun _ _ _ h => h) (Or.inr ⟨by rfl, rfl⟩) ?_ ?_; rotate_left; (simp only [Act.put, q1_, q2_, q3_, i64_w, i32_w]; rfl)
      refine pure_ (i := 9) (N := some 133) (v := ?_) (a' := ?_) (bs 10 1023) rfl rfl (by kernel_rfl) (fun _ _ _ h => h) (Or.inl ⟨by rfl, ?_⟩) ?_ ?_; rotate_left; (intro w'; go_simp; with_reducible rfl); rotate_left; (simp only [Act.put, q1_, q2_, q3_, i64_w, i32_w]; rfl)
      refine done_ (by kernel_rfl) ?_
      go_wp2
      go_meet
      case rel => exact ⟨_, rfl, ⟨by have := H1.out; simp; intro h; omega⟩, HId.out⟩
  case rest =>
    obtain ⟨b133, rfl, HB133, I9⟩ := hcut
    clear HI8 HOW
    have HI9 := Aside0.mk I9
    clear I9
    go_upto_if 133 with (fail)
    go_cut [] (fun wc => Inv w wc (.slice A2 s4.l.length c2) (st5 s4 e) e)
    case first =>
      cases b133
      · have e5 : st5 s4 e = s4 := by unfold st5; rw [if_neg (fun h => by rw [HW.out] at h; have := HB133.out.2 h; cases this)]
        have E5 := Aside0.mk e5
        clear e5
        go_wp2
        go_meet
        case rel => rw [E5.out]; exact HI9.out
      · have e5 : st5 s4 e = probeS s4 e := by unfold st5; rw [if_pos (by rw [HW.out]; exact HB133.out.1 rfl)]
        have E5 := Aside0.mk e5
        clear e5
        have de0 := (blk_cell HI9.out.he 0).trans rfl
        go_wp2_with (go_at_call 31; refine (probe_box w.heap.size (.slice A2 s4.l.length c2) s4.ph s4.hr s4.rt s4.ra s4.fu s4.fr s4.fn s4.cy s4.ca s4.un s4.rd _ HI9.out.hs e.now).mono ?_; rintro x w6 ⟨rfl, hg6, hb6⟩)
        go_meet
        case rel => rw [E5.out]; exact HI9.out.meth (probeS s4 e) rfl hg6 hb6
    case rest =>
      rw [l5_eq s4 e] at hlc2
      have hcut2 := hcut
      rw [l5_eq s4 e] at hcut2
      clear hcut HI9 HB133 HW
      obtain ⟨s5, hs5⟩ : ∃ z, st5 s4 e = z := ⟨_, rfl⟩
      rw [hs5] at hcut2 hlc2
      have H65 := Aside0.mk (by have := H64.out; rw [hs5] at this; exact this : st6 s5 e old = s6)
      clear H64 hs5
      have HI10 := Aside0.mk hcut2
      clear hcut2
      have ds0 := (blk_cell HI10.out.hs 0).trans rfl
      have df0 := blk_frozen HI10.out.hs 0
      have ds4 := (blk_cell HI10.out.hs 4).trans rfl
      have df4 := blk_frozen HI10.out.hs 4
      have ds10 := (blk_cell HI10.out.hs 10).trans rfl
      have df10 := blk_frozen HI10.out.hs 10
      have ds5 := (blk_cell HI10.out.hs 5).trans rfl
      have df5 := blk_frozen HI10.out.hs 5
      have de0 := (blk_cell HI10.out.he 0).trans rfl
      by_cases h3 : s5.ph = 3
      · have H3 := Aside0.mk h3
        have g3 : (s5.ph == 3) = true := by simp [h3]
        have g3' : (s5.ph != 3) = false := by simp [h3]
        have g3'' : decide (s5.ph = 3) = true := by simp [h3]
        clear h3
        by_cases hu : s5.un ≤ e.now
        · have HU := Aside0.mk hu
          have I11 := (HI10.out.set { s5 with ra := e.now } rfl 4 (.int .i64 e.now) rfl).set { s5 with ra := e.now, ph := 0 } rfl 0 (.int .i64 0) rfl
          cases hfu : s5.fu
          · have e6 : { s5 with ra := e.now, ph := 0 } = s6 := by rw [← H65.out]; unfold st6; rw [if_pos H3.out, if_pos (by have := HU.out; omega), if_neg (by simp [hfu])]
            have E6 := Aside0.mk e6
            have I12 := Aside0.mk I11
            clear e6 I11 H65
            go_upto_region 29 with (fail)
            clear hfu
            have I13 := I12.out
            generalize ((wc.setCell ⟨w.heap.size, 4, none⟩ (.int .i64 e.now)).setCell ⟨w.heap.size, 0, none⟩ (.int .i64 0)) = wy at I13 ⊢
            clear I12
            clear ds0 df0 ds4 df4 ds10 df10 ds5 df5 de0
            rw [E6.out] at I13
            have hl6 : s5.l = s6.l := by rw [← E6.out]
            rw [hl6] at I13
            clear E6
            have ys0 := (blk_cell I13.hs 0).trans rfl
            have yf0 := blk_frozen I13.hs 0
            have ys1 := (blk_cell I13.hs 1).trans rfl
            have yf1 := blk_frozen I13.hs 1
            have ys2 := (blk_cell I13.hs 2).trans rfl
            have yf2 := blk_frozen I13.hs 2
            have ys3 := (blk_cell I13.hs 3).trans rfl
            have yf3 := blk_frozen I13.hs 3
            have ys4 := (blk_cell I13.hs 4).trans rfl
            have yf4 := blk_frozen I13.hs 4
            have ys5 := (blk_cell I13.hs 5).trans rfl
            have yf5 := blk_frozen I13.hs 5
            have ys6 := (blk_cell I13.hs 6).trans rfl
            have yf6 := blk_frozen I13.hs 6
            have ys7 := (blk_cell I13.hs 7).trans rfl
            have yf7 := blk_frozen I13.hs 7
            have ys8 := (blk_cell I13.hs 8).trans rfl
            have yf8 := blk_frozen I13.hs 8
            have ys9 := (blk_cell I13.hs 9).trans rfl
            have yf9 := blk_frozen I13.hs 9
            have ys10 := (blk_cell I13.hs 10).trans rfl
            have yf10 := blk_frozen I13.hs 10
            have ys11 := (blk_cell I13.hs 11).trans rfl
            have yf11 := blk_frozen I13.hs 11
            have z0 := (blk_cell I13.hz 0).trans rfl
            have zf0 := blk_frozen I13.hz 0
            have z1 := (blk_cell I13.hz 1).trans rfl
            have zf1 := blk_frozen I13.hz 1
            have z2 := (blk_cell I13.hz 2).trans rfl
            have zf2 := blk_frozen I13.hz 2
            have z3 := (blk_cell I13.hz 3).trans rfl
            have zf3 := blk_frozen I13.hz 3
            have z4 := (blk_cell I13.hz 4).trans rfl
            have zf4 := blk_frozen I13.hz 4
            have z5 := (blk_cell I13.hz 5).trans rfl
            have zf5 := blk_frozen I13.hz 5
            have z6 := (blk_cell I13.hz 6).trans rfl
            have zf6 := blk_frozen I13.hz 6
            have z7 := (blk_cell I13.hz 7).trans rfl
            have zf7 := blk_frozen I13.hz 7
            have z8 := (blk_cell I13.hz 8).trans rfl
            have zf8 := blk_frozen I13.hz 8
            have z9 := (blk_cell I13.hz 9).trans rfl
            have zf9 := blk_frozen I13.hz 9
            have z10 := (blk_cell I13.hz 10).trans rfl
            have zf10 := blk_frozen I13.hz 10
            have z11 := (blk_cell I13.hz 11).trans rfl
            have zf11 := blk_frozen I13.hz 11
            go_wp2
            exact fin_ret _ w _ (.slice A2 s6.l.length c2) s6 rfl rfl (fin12 I13)
          · have e6 : probeS { s5 with ra := e.now, ph := 0 } e = s6 := by rw [← H65.out]; unfold st6; rw [if_pos H3.out, if_pos (by have := HU.out; omega), if_pos hfu]
            have E6 := Aside0.mk e6
            have I12 := Aside0.mk I11
            clear e6 I11 H65
            go_upto_region 29 with (go_at_call 31; refine (probe_box w.heap.size (.slice A2 s5.l.length c2) 0 s5.hr s5.rt e.now s5.fu s5.fr s5.fn s5.cy s5.ca s5.un s5.rd _ I12.out.hs e.now).mono ?_; rintro x w6 ⟨rfl, hg6, hb6⟩)
            clear hfu
            have I13 := I12.out.meth (probeS { s5 with ra := e.now, ph := 0 } e) rfl hg6 hb6
            clear I12 hg6 hb6
            clear ds0 df0 ds4 df4 ds10 df10 ds5 df5 de0
            rw [E6.out] at I13
            have hl6 : s5.l = s6.l := by rw [← E6.out]; rfl
            rw [hl6] at I13
            clear E6
            have ys0 := (blk_cell I13.hs 0).trans rfl
            have yf0 := blk_frozen I13.hs 0
            have ys1 := (blk_cell I13.hs 1).trans rfl
            have yf1 := blk_frozen I13.hs 1
            have ys2 := (blk_cell I13.hs 2).trans rfl
            have yf2 := blk_frozen I13.hs 2
            have ys3 := (blk_cell I13.hs 3).trans rfl
            have yf3 := blk_frozen I13.hs 3
            have ys4 := (blk_cell I13.hs 4).trans rfl
            have yf4 := blk_frozen I13.hs 4
            have ys5 := (blk_cell I13.hs 5).trans rfl
            have yf5 := blk_frozen I13.hs 5
            have ys6 := (blk_cell I13.hs 6).trans rfl
            have yf6 := blk_frozen I13.hs 6
            have ys7 := (blk_cell I13.hs 7).trans rfl
            have yf7 := blk_frozen I13.hs 7
            have ys8 := (blk_cell I13.hs 8).trans rfl
            have yf8 := blk_frozen I13.hs 8
            have ys9 := (blk_cell I13.hs 9).trans rfl
            have yf9 := blk_frozen I13.hs 9
            have ys10 := (blk_cell I13.hs 10).trans rfl
            have yf10 := blk_frozen I13.hs 10
            have ys11 := (blk_cell I13.hs 11).trans rfl
            have yf11 := blk_frozen I13.hs 11
            have z0 := (blk_cell I13.hz 0).trans rfl
            have zf0 := blk_frozen I13.hz 0
            have z1 := (blk_cell I13.hz 1).trans rfl
            have zf1 := blk_frozen I13.hz 1
            have z2 := (blk_cell I13.hz 2).trans rfl
            have zf2 := blk_frozen I13.hz 2
            have z3 := (blk_cell I13.hz 3).trans rfl
            have zf3 := blk_frozen I13.hz 3
            have z4 := (blk_cell I13.hz 4).trans rfl
            have zf4 := blk_frozen I13.hz 4
            have z5 := (blk_cell I13.hz 5).trans rfl
            have zf5 := blk_frozen I13.hz 5
            have z6 := (blk_cell I13.hz 6).trans rfl
            have zf6 := blk_frozen I13.hz 6
            have z7 := (blk_cell I13.hz 7).trans rfl
            have zf7 := blk_frozen I13.hz 7
            have z8 := (blk_cell I13.hz 8).trans rfl
            have zf8 := blk_frozen I13.hz 8
            have z9 := (blk_cell I13.hz 9).trans rfl
            have zf9 := blk_frozen I13.hz 9
            have z10 := (blk_cell I13.hz 10).trans rfl
            have zf10 := blk_frozen I13.hz 10
            have z11 := (blk_cell I13.hz 11).trans rfl
            have zf11 := blk_frozen I13.hz 11
            go_wp2
            exact fin_ret _ w _ (.slice A2 s6.l.length c2) s6 rfl rfl (fin12 I13)
        · have e6 : s5 = s6 := by rw [← H65.out]; unfold st6; rw [if_pos H3.out, if_neg hu]
          subst e6
          go_upto_region 29 with (fail)
          have I13 := HI10.out
          clear HI10 H65
          clear ds0 df0 ds4 df4 ds10 df10 ds5 df5 de0
          have ys0 := (blk_cell I13.hs 0).trans rfl
          have yf0 := blk_frozen I13.hs 0
          have ys1 := (blk_cell I13.hs 1).trans rfl
          have yf1 := blk_frozen I13.hs 1
          have ys2 := (blk_cell I13.hs 2).trans rfl
          have yf2 := blk_frozen I13.hs 2
          have ys3 := (blk_cell I13.hs 3).trans rfl
          have yf3 := blk_frozen I13.hs 3
          have ys4 := (blk_cell I13.hs 4).trans rfl
          have yf4 := blk_frozen I13.hs 4
          have ys5 := (blk_cell I13.hs 5).trans rfl
          have yf5 := blk_frozen I13.hs 5
          have ys6 := (blk_cell I13.hs 6).trans rfl
          have yf6 := blk_frozen I13.hs 6
          have ys7 := (blk_cell I13.hs 7).trans rfl
          have yf7 := blk_frozen I13.hs 7
          have ys8 := (blk_cell I13.hs 8).trans rfl
          have yf8 := blk_frozen I13.hs 8
          have ys9 := (blk_cell I13.hs 9).trans rfl
          have yf9 := blk_frozen I13.hs 9
          have ys10 := (blk_cell I13.hs 10).trans rfl
          have yf10 := blk_frozen I13.hs 10
          have ys11 := (blk_cell I13.hs 11).trans rfl
          have yf11 := blk_frozen I13.hs 11
          have z0 := (blk_cell I13.hz 0).trans rfl
          have zf0 := blk_frozen I13.hz 0
          have z1 := (blk_cell I13.hz 1).trans rfl
          have zf1 := blk_frozen I13.hz 1
          have z2 := (blk_cell I13.hz 2).trans rfl
          have zf2 := blk_frozen I13.hz 2
          have z3 := (blk_cell I13.hz 3).trans rfl
          have zf3 := blk_frozen I13.hz 3
          have z4 := (blk_cell I13.hz 4).trans rfl
          have zf4 := blk_frozen I13.hz 4
          have z5 := (blk_cell I13.hz 5).trans rfl
          have zf5 := blk_frozen I13.hz 5
          have z6 := (blk_cell I13.hz 6).trans rfl
          have zf6 := blk_frozen I13.hz 6
          have z7 := (blk_cell I13.hz 7).trans rfl
          have zf7 := blk_frozen I13.hz 7
          have z8 := (blk_cell I13.hz 8).trans rfl
          have zf8 := blk_frozen I13.hz 8
          have z9 := (blk_cell I13.hz 9).trans rfl
          have zf9 := blk_frozen I13.hz 9
          have z10 := (blk_cell I13.hz 10).trans rfl
          have zf10 := blk_frozen I13.hz 10
          have z11 := (blk_cell I13.hz 11).trans rfl
          have zf11 := blk_frozen I13.hz 11
          go_wp2
          exact fin_ret _ w _ (.slice A2 s5.l.length c2) s5 rfl rfl (fin12 I13)
      · have H3 := Aside0.mk h3
        have g3 : (s5.ph == 3) = false := by simp [h3]
        have g3' : (s5.ph != 3) = true := by simp [h3]
        have g3'' : decide (s5.ph = 3) = false := by simp [h3]
        cases old
        · have e6 : s5 = s6 := by rw [← H65.out]; unfold st6; rw [if_neg h3, if_neg (by decide)]
          subst e6
          clear H65 h3
          go_upto_region 23 with (fail)
          have I13 := HI10.out
          clear HI10
          clear ds0 df0 ds4 df4 ds10 df10 ds5 df5 de0
          have ys0 := (blk_cell I13.hs 0).trans rfl
          have yf0 := blk_frozen I13.hs 0
          have ys1 := (blk_cell I13.hs 1).trans rfl
          have yf1 := blk_frozen I13.hs 1
          have ys2 := (blk_cell I13.hs 2).trans rfl
          have yf2 := blk_frozen I13.hs 2
          have ys3 := (blk_cell I13.hs 3).trans rfl
          have yf3 := blk_frozen I13.hs 3
          have ys4 := (blk_cell I13.hs 4).trans rfl
          have yf4 := blk_frozen I13.hs 4
          have ys5 := (blk_cell I13.hs 5).trans rfl
          have yf5 := blk_frozen I13.hs 5
          have ys6 := (blk_cell I13.hs 6).trans rfl
          have yf6 := blk_frozen I13.hs 6
          have ys7 := (blk_cell I13.hs 7).trans rfl
          have yf7 := blk_frozen I13.hs 7
          have ys8 := (blk_cell I13.hs 8).trans rfl
          have yf8 := blk_frozen I13.hs 8
          have ys9 := (blk_cell I13.hs 9).trans rfl
          have yf9 := blk_frozen I13.hs 9
          have ys10 := (blk_cell I13.hs 10).trans rfl
          have yf10 := blk_frozen I13.hs 10
          have ys11 := (blk_cell I13.hs 11).trans rfl
          have yf11 := blk_frozen I13.hs 11
          have z0 := (blk_cell I13.hz 0).trans rfl
          have zf0 := blk_frozen I13.hz 0
          have z1 := (blk_cell I13.hz 1).trans rfl
          have zf1 := blk_frozen I13.hz 1
          have z2 := (blk_cell I13.hz 2).trans rfl
          have zf2 := blk_frozen I13.hz 2
          have z3 := (blk_cell I13.hz 3).trans rfl
          have zf3 := blk_frozen I13.hz 3
          have z4 := (blk_cell I13.hz 4).trans rfl
          have zf4 := blk_frozen I13.hz 4
          have z5 := (blk_cell I13.hz 5).trans rfl
          have zf5 := blk_frozen I13.hz 5
          have z6 := (blk_cell I13.hz 6).trans rfl
          have zf6 := blk_frozen I13.hz 6
          have z7 := (blk_cell I13.hz 7).trans rfl
          have zf7 := blk_frozen I13.hz 7
          have z8 := (blk_cell I13.hz 8).trans rfl
          have zf8 := blk_frozen I13.hz 8
          have z9 := (blk_cell I13.hz 9).trans rfl
          have zf9 := blk_frozen I13.hz 9
          have z10 := (blk_cell I13.hz 10).trans rfl
          have zf10 := blk_frozen I13.hz 10
          have z11 := (blk_cell I13.hz 11).trans rfl
          have zf11 := blk_frozen I13.hz 11
          go_wp2
          exact fin_ret _ w _ (.slice A2 s5.l.length c2) s5 rfl rfl (fin12 I13)
        · obtain ⟨o1, o2, o3, o4, o5, o6, o7, o8⟩ := HOE.out
          obtain ⟨mn2, hmn⟩ : ∃ m, (if e.now + 200 < 1099511627776 then e.now + 200 else 1099511627776) = m := ⟨_, rfl⟩
          have e6 : { s5 with ph := 3, un := mn2 } = s6 := by rw [← H65.out, ← hmn]; unfold st6; rw [if_neg h3, if_pos rfl]
          have hmn2 : (if e.now + 200 ≤ 1099511627776 then e.now + 200 else 1099511627776) = mn2 := by rw [← hmn]; split <;> split <;> omega
          have hmn3 : (if 1099511627776 < e.now + 200 then 1099511627776 else e.now + 200) = mn2 := by rw [← hmn]; split <;> split <;> omega
          have hw200 : wrap64 (e.now + 200) = e.now + 200 := wrap_id (by omega) (by omega)
          have hw201 : IntKind.i64.wrap (e.now + 200) = e.now + 200 := by rw [i64_w]; exact hw200
          have E6 := Aside0.mk e6
          clear H65 h3 e6
          go_upto_region 22 with (fail)
          refine start_ (n := 8) (S := fun w' => w'.cell? ⟨w.heap.size + 1, 0, none⟩ = some (.int .i64 e.now)) (ds := [7]) (bs 8 0) (by kernel_rfl) rfl rfl ((blk_cell HI10.out.he 0).trans rfl) (fun hHeld => ?_)
          have HId : Aside0 (Inv w wc.drew (.slice A2 s5.l.length c2) s5 e) := ⟨HI10.out.below (below_drew1 (Below.refl _ _))⟩
          generalize wc.drew = wd at hHeld HId ⊢
          clear HI10
          clear ds0 df0 ds4 df4 ds10 df10 ds5 df5 de0
          have c0 : wd.cell? ⟨w.heap.size, 0, none⟩ = some (.int .i64 s5.ph) := (blk_cell HId.out.hs 0).trans rfl
          have f0 := blk_frozen HId.out.hs 0
          have c10 : wd.cell? ⟨w.heap.size, 10, none⟩ = some (.int .i64 s5.un) := (blk_cell HId.out.hs 10).trans rfl
          refine pure_ (i := 0) (N := some 141) (v := ?_) (a' := ?_) (bs 8 1) rfl rfl (by kernel_rfl) (fun _ _ _ h => h) (Or.inl ⟨by rfl, ?_⟩) ?_ ?_; rotate_left; (intro w'; go_simp; with_reducible rfl); rotate_left; (simp only [Act.put, q1_, q2_, q3_, i64_w, i32_w]; rfl)
          refine take_ (i := 1) (N := some 142) (v := ?_) (a' := ?_) (bs 8 3) rfl rfl (by kernel_rfl) (fun _ _ _ h => h) (Or.inl ⟨by rfl, ?_⟩) hHeld ?_ ?_; rotate_left; (rintro w' s0; go_simp; with_reducible rfl); rotate_left; (simp only [Act.put, q1_, q2_, q3_, i64_w, i32_w]; rfl)
          refine pure_ (i := 2) (N := some 143) (v := ?_) (a' := ?_) (bs 8 7) rfl rfl (by kernel_rfl) (fun _ _ _ h => h) (Or.inl ⟨by rfl, ?_⟩) ?_ ?_; rotate_left; (intro w'; go_simp; with_reducible rfl); rotate_left; (simp only [Act.put, q1_, q2_, q3_, i64_w, i32_w]; rfl)
          refine pure_ (i := 3) (N := some 144) (v := ?_) (a' := ?_) (bs 8 15) rfl rfl (by kernel_rfl) (fun _ _ _ h => h) (Or.inl ⟨by rfl, ?_⟩) ?_ ?_; rotate_left; (intro w'; go_simp; with_reducible rfl); rotate_left; (simp only [Act.put, q1_, q2_, q3_, i64_w, i32_w]; rfl)
          refine pure_ (i := 4) (N := some 145) (v := ?_) (a' := ?_) (bs 8 31) rfl rfl (by kernel_rfl) (fun _ _ _ h => h) (Or.inl ⟨by rfl, ?_⟩) ?_ ?_; rotate_left; (intro w'; go_simp; with_reducible rfl); rotate_left; (simp only [Act.put, q1_, q2_, q3_, i64_w, i32_w]; rfl)
          refine one_ (i := 5) (N := none) (bs 8 63) rfl rfl (by kernel_rfl) (by decide) (fun K hK => ?_)
          refine skip_ (w1 := wd.setCell ⟨w.heap.size, 0, none⟩ (.int .i64 3)) (by rfl) rfl (by go_simp) ?_
          refine hK.out _ _ ((World.cell?_of_block (Below.heap_setCell _ _ _ _ (by simp))).trans hHeld) (fun hHeld => ?_); clear hK K
          refine pure_ (i := 6) (N := some 146) (v := ?_) (a' := ?_) (bs 8 127) rfl rfl (by kernel_rfl) (fun _ _ _ h => h) (Or.inl ⟨by rfl, ?_⟩) ?_ ?_; rotate_left; (intro w'; go_simp; with_reducible rfl); rotate_left; (simp only [Act.put, q1_, q2_, q3_, i64_w, i32_w]; rfl)
          have f10' := blk_frozen (blk_set HId.out.hs 0 (.int .i64 3)) 10
          refine last_ (i := 7) (N := none) (bs 8 255) rfl rfl (by kernel_rfl) (by decide) (fun K hK => ?_)
          refine skip_ (w1 := (wd.setCell ⟨w.heap.size, 0, none⟩ (.int .i64 3)).setCell ⟨w.heap.size, 10, none⟩ (.int .i64 mn2)) (by rfl) rfl (by go_simp) ?_
          refine hK.out _ _ ?_; clear hK K
          refine done_ (by kernel_rfl) ?_
          have I13 := (HId.out.set { s5 with ph := 3 } rfl 0 (.int .i64 3) rfl).set { s5 with ph := 3, un := mn2 } rfl 10 (.int .i64 mn2) rfl
          generalize ((wd.setCell ⟨w.heap.size, 0, none⟩ (.int .i64 3)).setCell ⟨w.heap.size, 10, none⟩ (.int .i64 mn2)) = wy at I13 ⊢
          clear HId c0 f0 c10 f10'
          rw [E6.out] at I13
          have hl6 : s5.l = s6.l := by rw [← E6.out]
          rw [hl6] at I13
          clear E6 hmn hmn2 hmn3 hHeld hw200 hw201
          have ys0 := (blk_cell I13.hs 0).trans rfl
          have yf0 := blk_frozen I13.hs 0
          have ys1 := (blk_cell I13.hs 1).trans rfl
          have yf1 := blk_frozen I13.hs 1
          have ys2 := (blk_cell I13.hs 2).trans rfl
          have yf2 := blk_frozen I13.hs 2
          have ys3 := (blk_cell I13.hs 3).trans rfl
          have yf3 := blk_frozen I13.hs 3
          have ys4 := (blk_cell I13.hs 4).trans rfl
          have yf4 := blk_frozen I13.hs 4
          have ys5 := (blk_cell I13.hs 5).trans rfl
          have yf5 := blk_frozen I13.hs 5
          have ys6 := (blk_cell I13.hs 6).trans rfl
          have yf6 := blk_frozen I13.hs 6
          have ys7 := (blk_cell I13.hs 7).trans rfl
          have yf7 := blk_frozen I13.hs 7
          have ys8 := (blk_cell I13.hs 8).trans rfl
          have yf8 := blk_frozen I13.hs 8
          have ys9 := (blk_cell I13.hs 9).trans rfl
          have yf9 := blk_frozen I13.hs 9
          have ys10 := (blk_cell I13.hs 10).trans rfl
          have yf10 := blk_frozen I13.hs 10
          have ys11 := (blk_cell I13.hs 11).trans rfl
          have yf11 := blk_frozen I13.hs 11
          have z0 := (blk_cell I13.hz 0).trans rfl
          have zf0 := blk_frozen I13.hz 0
          have z1 := (blk_cell I13.hz 1).trans rfl
          have zf1 := blk_frozen I13.hz 1
          have z2 := (blk_cell I13.hz 2).trans rfl
          have zf2 := blk_frozen I13.hz 2
          have z3 := (blk_cell I13.hz 3).trans rfl
          have zf3 := blk_frozen I13.hz 3
          have z4 := (blk_cell I13.hz 4).trans rfl
          have zf4 := blk_frozen I13.hz 4
          have z5 := (blk_cell I13.hz 5).trans rfl
          have zf5 := blk_frozen I13.hz 5
          have z6 := (blk_cell I13.hz 6).trans rfl
          have zf6 := blk_frozen I13.hz 6
          have z7 := (blk_cell I13.hz 7).trans rfl
          have zf7 := blk_frozen I13.hz 7
          have z8 := (blk_cell I13.hz 8).trans rfl
          have zf8 := blk_frozen I13.hz 8
          have z9 := (blk_cell I13.hz 9).trans rfl
          have zf9 := blk_frozen I13.hz 9
          have z10 := (blk_cell I13.hz 10).trans rfl
          have zf10 := blk_frozen I13.hz 10
          have z11 := (blk_cell I13.hz 11).trans rfl
          have zf11 := blk_frozen I13.hz 11
          go_wp2
          exact fin_ret _ w _ (.slice A2 s6.l.length c2) s6 rfl rfl (fin12 I13)
end Go.Proofs.Ytodlibmnmjopbaa.Hand
