/- The walk of bbr.Ack, its middle part: by hand. -/
import Derived.Test.YtodlibmnmjopbaaHandK3
namespace Go.Proofs.Ytodlibmnmjopbaa.Hand
open Go.RowKit Go.Proofs.YtodlibmnmjopbaaW.PrintWords Go.Proofs.YtodlibmnmjopbaaW.PrintLast Go.Proofs.YtodlibmnmjopbaaW.PrintMore Go.Proofs.Ytodlibmnmjopbaa.PA Go.Proofs.Ytodlibmnmjopbaa.Util
set_option linter.unusedVariables false
set_option linter.unusedSimpArgs false
attribute [local go_sem] Oper.semAt_some max2_int max_two min2_int min_two

set_option maxHeartbeats 4000000 in
set_option maxRecDepth 100000 in
theorem ack_part2 (A2 : Option Addr) (c2 : Nat) (s1 s0 : B) (e : Ev1) (mss : Int) (w wc : World) (hlc2 : s1.l.length ≤ c2) (I2 : Inv w wc (.slice A2 s1.l.length c2) s1 e) (ho1 : okB s1) (oe : okE s0 e mss) (s6 : B)
    (h61 : st6 (st5 (st4 (st3 (st2 s1 e) e) e) e) e (oldS (st2 s1 e) e) = s6) (x0 x1 x2 x4 x9 x10 u11 u12 u13 u14 u15 u16 u17 u18 u19 u20 u21 u22 u23 u24 u25 u26 u27 u28 u29 u30 u31 u32 u33 u34 u35 u36 u37 u38 u39 u40 u41 u42 u43 u44 u45 u46 u47 u48 u49 u50 u51 u52 u53 u54 u55 u56 u57 u58 u59 u60 u61 u62 u63 u64 u65 u66 u67 u68 u69 u70 u71 u72 u73 u74 u75 u76 u77 u78 u79 u80 u81 u82 u83 u84 u85 u86 u87 u88 u89 u90 u91 u92 u93 u94 u95 u96 u97 u98 u99 u100 u101 u102 u103 u104 u105 u106 u107 u108 u109 u110 u111 u112 u113 u114 u115 u116 u117 u118 u119 u120 u121 u122 u123 u124 u125 u126 u127 u128 u129 u130 u131 u132 u133 u134 u135 u136 u137 u138 u139 u140 u141 u142 u143 u144 u145 u146 u147 u148 u149 u150 u151 u152 u153 u154 u155 u156 u157 u158 u159 u160 u161 u162 : Value) :
    Code.wp Try.prog (snd (snd (snd (snd (snd (bodyOf Try.f15)))))) (bodyPost Try.prog Try.f15 fun x w' => ∃ v, x = .returned (.tuple #[.agg (cb v s6), .int .i64 0]) ∧ Kd.R k36 36 w' w.heap.size (fun _ => True) v s6.l ∧ Below w.heap.size w w')
      { tmps := #[x0, x1, x2, .pointer (some ⟨w.heap.size, 0, none⟩), x4, .pointer (some ⟨w.heap.size + 1, 0, none⟩), .pointer (some ⟨w.heap.size + 1 + 1, 0, none⟩), .int .i64 0, .int .i64 0, x9, x10, u11, u12, u13, u14, u15, u16, u17, u18, u19, u20, u21, u22, u23, u24, u25, u26, u27, u28, u29, u30, u31, u32, u33, u34, u35, u36, u37, u38, u39, u40, u41, u42, u43, u44, u45, u46, u47, u48, u49, u50, u51, u52, u53, u54, u55, u56, u57, u58, u59, u60, u61, u62, u63, u64, u65, u66, u67, u68, u69, u70, u71, u72, u73, u74, u75, u76, u77, u78, u79, u80, u81, u82, u83, u84, u85, u86, u87, u88, u89, u90, u91, u92, u93, u94, u95, u96, u97, u98, u99, u100, u101, u102, u103, u104, u105, u106, u107, u108, u109, u110, u111, u112, u113, u114, u115, u116, u117, u118, u119, u120, u121, u122, u123, u124, u125, u126, u127, u128, u129, u130, u131, u132, u133, u134, u135, u136, u137, u138, u139, u140, u141, u142, u143, u144, u145, u146, u147, u148, u149, u150, u151, u152, u153, u154, u155, u156, u157, u158, u159, u160, u161, u162], defers := [] } wc := by
  have HOE := Aside0.mk oe
  have HO1 := Aside0.mk ho1
  have H61 := Aside0.mk h61
  clear oe ho1 h61
  conv => arg 2; simp only [bodyOf, Try.f15, Option.getD_some, snd]
  have HI2 := Aside0.mk I2
  have ds11 := (blk_cell I2.hs 11).trans rfl
  have df11 := blk_frozen I2.hs 11
  have ds5 := (blk_cell I2.hs 5).trans rfl
  have df5 := blk_frozen I2.hs 5
  have de1 := (blk_cell I2.he 1).trans rfl
  clear I2
  go_upto_region 11 with (fail)
  have I3 := HI2.out.set { s1 with rd := e.rnd } rfl 11 (.int .i64 e.rnd) rfl
  generalize wc.setCell ⟨w.heap.size, 11, none⟩ (.int .i64 e.rnd) = wb at I3 ⊢
  clear ds11 df11 ds5 df5 de1
  clear HI2
  have HI3 := Aside0.mk I3
  have gs5 := (blk_cell I3.hs 5).trans rfl
  have gf5 := blk_frozen I3.hs 5
  clear I3
  go_cut [9, 83] (fun v9 v83 wc => ∃ b : Bool, v83 = .bool b ∧ Aside0 (b = true ↔ (s1.rd < e.rnd ∧ s1.fu = false)) ∧ Inv w wc (.slice A2 s1.l.length c2) { s1 with rd := e.rnd } e)
  case first =>
    by_cases hf : s1.rd < e.rnd
    · have HF := Aside0.mk hf
      go_wp2
      go_meet
      case rel => exact ⟨_, rfl, ⟨by have := HF.out; simp [this]⟩, HI3.out⟩
    · have HF := Aside0.mk hf
      go_wp2
      go_meet
      case rel => exact ⟨_, rfl, ⟨by have := HF.out; simp; intro h; omega⟩, HI3.out⟩
  case rest =>
    obtain ⟨b83, rfl, HB83, I4⟩ := hcut
    clear HI3
    clear gs5 gf5
    have HI4 := Aside0.mk I4
    clear I4
    go_upto_if 83 with (fail)
    go_cut [9] (fun v9 wc => Inv w wc (.slice A2 s1.l.length c2) (st2 s1 e) e)
    case first =>
      have hgb := gr_bd _ HO1.out.l
      have hfb := HO1.out.fr
      have hnb := HO1.out.fn
      cases b83
      · have e2 : st2 s1 e = { s1 with rd := e.rnd } := by unfold st2; rw [if_neg (fun h => by have := HB83.out.2 h; cases this)]
        go_wp2
        go_meet
        case rel => rw [e2]; exact HI4.out
      · have HF := Aside0.mk (HB83.out.1 rfl)
        by_cases hr : 5 * s1.fr ≤ 4 * gr s1.l
        · have HR := Aside0.mk hr
          go_wp2_with (go_at_call 28; refine (round_up w.heap.size A2 c2 s1.l s1.ph s1.hr s1.rt s1.ra s1.fu s1.fr s1.fn s1.cy s1.ca s1.un e.rnd _ HI4.out.hs ?sd1 hlc2 hgb.1 hgb.2 hfb.1 hfb.2 HR.out).mono ?_; (case sd1 => obtain ⟨A9, c9, e9, _, h9⟩ := Kd.R_reads HI4.out.hR; cases e9; exact h9); rintro x w6 ⟨rfl, hg6, hb6⟩)
          go_meet
          case rel =>
            have e2 : st2 s1 e = { s1 with rd := e.rnd, fr := gr s1.l, fn := 0 } := by unfold st2 roundS; rw [if_pos HF.out, if_pos (show 5 * s1.fr ≤ 4 * gr s1.l from by have := HR.out; omega)]
            rw [e2]
            exact HI4.out.meth _ rfl hg6 hb6
        · have HR := Aside0.mk hr
          go_wp2_with (go_at_call 28; refine (round_flat w.heap.size A2 c2 s1.l s1.ph s1.hr s1.rt s1.ra s1.fu s1.fr s1.fn s1.cy s1.ca s1.un e.rnd _ HI4.out.hs ?sd1 hlc2 hgb.1 hgb.2 hfb.1 hfb.2 hnb.1 hnb.2 (by have := HR.out; omega) _ rfl).mono ?_; (case sd1 => obtain ⟨A9, c9, e9, _, h9⟩ := Kd.R_reads HI4.out.hR; cases e9; exact h9); rintro x w6 ⟨rfl, hg6, hb6⟩)
          go_meet
          case rel =>
            have e2 : st2 s1 e = { s1 with rd := e.rnd, fn := if s1.fn + 1 < 1099511627776 then s1.fn + 1 else 1099511627776, fu := decide (3 ≤ (if s1.fn + 1 < 1099511627776 then s1.fn + 1 else 1099511627776)) } := by unfold st2 roundS; rw [if_pos HF.out, if_neg (show ¬ 5 * s1.fr ≤ 4 * gr s1.l from by have := HR.out; omega)]
            rw [e2]
            exact HI4.out.meth _ rfl hg6 hb6
    case rest =>
      have HO2 := Aside0.mk (ok2 (e := e) HO1.out)
      rw [l2_eq s1 e] at hcut
      rw [l2_eq s1 e] at hlc2
      clear HI4 HB83
      obtain ⟨s2, hs2⟩ : ∃ z, st2 s1 e = z := ⟨_, rfl⟩
      rw [hs2] at hcut HO2 hlc2
      have H62 := Aside0.mk (by have := H61.out; rw [hs2] at this; exact this : st6 (st5 (st4 (st3 s2 e) e) e) e (oldS s2 e) = s6)
      clear H61 hs2 HO1
      have HI5 := Aside0.mk hcut
      have de0 := (blk_cell hcut.he 0).trans rfl
      have de3 := (blk_cell hcut.he 3).trans rfl
      have de6 := (blk_cell hcut.he 6).trans rfl
      clear hcut
      go_upto_region 13 with (fail)
      go_cut [10] (fun v10 wc => ∃ b : Bool, v10 = .bool b ∧ Aside0 (oldS s2 e = b) ∧ Inv w wc (.slice A2 s2.l.length c2) (st3 s2 e) e)
      case first =>
        have hra := HO2.out.ra
        cases hR : e.hasRtt
        · have e1 : oldS s2 e = false := by unfold oldS; rw [hR]; rfl
          have e2 : st3 s2 e = s2 := by unfold st3; rw [if_neg (by simp [hR])]
          have E1 := Aside0.mk e1
          have E2 := Aside0.mk e2
          clear e1 e2
          go_wp2
          go_meet
          case rel => exact ⟨_, rfl, E1, by rw [E2.out]; exact HI5.out⟩
        · have e1 : oldS s2 e = stale s2.hr s2.ra e.now := by unfold oldS; rw [hR]; rfl
          obtain ⟨s3, hs3⟩ : ∃ z, st3 s2 e = z := ⟨_, rfl⟩
          have e3 : (if fresher s2.hr s2.rt s2.ra e.now e.rtt = true then cs12 (.slice A2 s2.l.length c2) s2.ph true e.rtt e.now s2.fu s2.fr s2.fn s2.cy s2.ca s2.un s2.rd else cs12 (.slice A2 s2.l.length c2) s2.ph s2.hr s2.rt s2.ra s2.fu s2.fr s2.fn s2.cy s2.ca s2.un s2.rd) = cb (.slice A2 s2.l.length c2) s3 := by
            rw [← hs3]
            unfold st3
            by_cases hF : fresher s2.hr s2.rt s2.ra e.now e.rtt = true
            · rw [if_pos hF, if_pos ⟨hR, hF⟩]
            · rw [if_neg hF, if_neg (fun h => hF h.2)]
          have hl3 : s3.l = s2.l := by rw [← hs3]; exact (l3_eq s2 e).symm
          have E1 := Aside0.mk e1
          have E3 := Aside0.mk e3
          have HS3 := Aside0.mk hs3
          have HL3 := Aside0.mk hl3
          obtain ⟨st, hst⟩ : ∃ b, stale s2.hr s2.ra e.now = b := ⟨_, rfl⟩
          have HST := Aside0.mk hst
          clear e1 e3 hs3 hl3 hst
          go_wp2_with (go_at_call 29; refine (time_box w.heap.size (.slice A2 s2.l.length c2) s2.ph s2.hr s2.rt s2.ra s2.fu s2.fr s2.fn s2.cy s2.ca s2.un s2.rd _ HI5.out.hs e.now e.rtt hra.1 hra.2 _ E3.out).mono ?_; rw [HST.out]; rintro x w6 ⟨rfl, hg6, hb6⟩)
          go_meet
          case rel => exact ⟨_, rfl, ⟨E1.out.trans HST.out⟩, by rw [HS3.out]; exact HI5.out.meth s3 HL3.out hg6 hb6⟩
      case rest =>
        obtain ⟨old, rfl, HOLD, I6⟩ := hcut
        have HO3 := Aside0.mk (ok3 HO2.out HOE.out)
        rw [l3_eq s2 e] at I6
        rw [l3_eq s2 e] at hlc2
        clear de0 de3 de6
        clear HI5
        have H63 := Aside0.mk (by have := H62.out; rw [HOLD.out] at this; exact this : st6 (st5 (st4 (st3 s2 e) e) e) e old = s6)
        obtain ⟨s3, hs3⟩ : ∃ z, st3 s2 e = z := ⟨_, rfl⟩
        rw [hs3] at I6 HO3 hlc2 H63
        clear H62 hs3 HO2 HOLD
        have HI6 := Aside0.mk I6
        have ds0 := (blk_cell I6.hs 0).trans rfl
        have df0 := blk_frozen I6.hs 0
        have ds5 := (blk_cell I6.hs 5).trans rfl
        have df5 := blk_frozen I6.hs 5
        clear I6
        go_upto_region 14 with (fail)
        go_cut [100] (fun v100 wc => ∃ b : Bool, v100 = .bool b ∧ Aside0 (b = true ↔ (s3.ph = 0 ∧ s3.fu = true)) ∧ Inv w wc (.slice A2 s3.l.length c2) s3 e)
        case first =>
          by_cases hf : s3.ph = 0
          · have HF := Aside0.mk hf
            go_wp2
            go_meet
            case rel => exact ⟨_, rfl, ⟨by have := HF.out; simp [this]⟩, HI6.out⟩
          · have HF := Aside0.mk hf
            go_wp2
            go_meet
            case rel => exact ⟨_, rfl, ⟨by have := HF.out; simp; intro h; omega⟩, HI6.out⟩
        case rest =>
          obtain ⟨b100, rfl, HB100, I7⟩ := hcut
          clear ds0 df0 ds5 df5
          clear HI6
          have HI7 := Aside0.mk I7
          clear I7
          go_upto_if 100 with (fail)
          go_cut [] (fun wc => Inv w wc (.slice A2 s3.l.length c2) (st4 s3 e) e)
          case first =>
            cases b100
            · have hcab := HO3.out.ca
              have hrtb := HO3.out.rt
              have hcyb := HO3.out.cy
              obtain ⟨m, hm⟩ : ∃ m, (if s3.rt < 1 then 1 else s3.rt) = m := ⟨_, rfl⟩
              have hmb : 1 ≤ m ∧ m ≤ 1073741824 := by rw [← hm]; split <;> omega
              have HM := Aside0.mk hm
              have hneg : ¬ (s3.ph = 0 ∧ s3.fu = true) := fun h => by have := HB100.out.2 h; cases this
              have HNEG := Aside0.mk hneg
              clear hneg
              have ds0 := (blk_cell HI7.out.hs 0).trans rfl
              have df0 := blk_frozen HI7.out.hs 0
              have ds3 := (blk_cell HI7.out.hs 3).trans rfl
              have df3 := blk_frozen HI7.out.hs 3
              have ds8 := (blk_cell HI7.out.hs 8).trans rfl
              have df8 := blk_frozen HI7.out.hs 8
              have ds9 := (blk_cell HI7.out.hs 9).trans rfl
              have df9 := blk_frozen HI7.out.hs 9
              have de0 := (blk_cell HI7.out.he 0).trans rfl
              by_cases h2 : s3.ph = 2
              · by_cases h3 : s3.ca + m ≤ e.now
                · have e4 : st4 s3 e = { s3 with cy := bits .and .i64 (wrap64 (s3.cy + 1)) 7, ca := e.now } := by
                    unfold st4
                    rw [if_neg HNEG.out, HM.out, if_pos ⟨h2, h3⟩, wrap_id (by omega) (by omega)]
                  have E4 := Aside0.mk e4
                  clear e4
                  go_wp2
                  refine start_ (n := 10) (S := fun w' => w'.cell? ⟨w.heap.size + 1, 0, none⟩ = some (.int .i64 e.now)) (ds := [9]) (bs 10 0) (by kernel_rfl) rfl rfl ((blk_cell HI7.out.he 0).trans rfl) (fun hHeld => ?_)
                  have HId : Aside0 (Inv w wc.drew (.slice A2 s3.l.length c2) s3 e) := ⟨HI7.out.below (below_drew1 (Below.refl _ _))⟩
                  generalize wc.drew = wd at hHeld HId ⊢
                  have c8 : wd.cell? ⟨w.heap.size, 8, none⟩ = some (.int .i64 s3.cy) := (blk_cell HId.out.hs 8).trans rfl
                  have f8 := blk_frozen HId.out.hs 8
                  have c9 : wd.cell? ⟨w.heap.size, 9, none⟩ = some (.int .i64 s3.ca) := (blk_cell HId.out.hs 9).trans rfl
                  refine pure_ (i := 0) (N := some 116) (v := ?_) (a' := ?_) (bs 10 1) rfl rfl (by kernel_rfl) (fun _ _ _ h => h) (Or.inl ⟨by rfl, ?_⟩) ?_ ?_; rotate_left; (intro w'; go_simp; with_reducible rfl); rotate_left; (simp only [Act.put, q1_, q2_, q3_, i64_w, i32_w]; rfl)
                  refine pure_ (i := 4) (N := some 120) (v := ?_) (a' := ?_) (bs 10 17) rfl rfl (by kernel_rfl) (fun _ _ _ h => h) (Or.inl ⟨by rfl, ?_⟩) ?_ ?_; rotate_left; (intro w'; go_simp; with_reducible rfl); rotate_left; (simp only [Act.put, q1_, q2_, q3_, i64_w, i32_w]; rfl)
                  refine take_ (i := 5) (N := some 121) (v := ?_) (a' := ?_) (bs 10 49) rfl rfl (by kernel_rfl) (fun _ _ _ h => h) (Or.inl ⟨by rfl, ?_⟩) hHeld ?_ ?_; rotate_left; (rintro w' s0; go_simp; with_reducible rfl); rotate_left; (simp only [Act.put, q1_, q2_, q3_, i64_w, i32_w]; rfl)
                  refine one_ (i := 1) (N := some 117) (bs 10 51) rfl rfl (by kernel_rfl) (by decide) (fun K hK => ?_)
                  refine value_ (w1 := ?_) (v := ?_) (by rfl) rfl ?_ ?_; rotate_left 2; (go_simp; constructor; rfl; rfl); refine hK.out _ _ hHeld (fun hHeld => ?_); clear hK K
                  refine norm_ (a' := ?_) ?_ ?_; rotate_left; (show Act.put _ (some 117) _ = _; simp only [Act.put, q1_, q2_, q3_, i64_w, i32_w]; rfl)
                  refine pure_ (i := 2) (N := some 118) (v := ?_) (a' := ?_) (bs 10 55) rfl rfl (by kernel_rfl) (fun _ _ _ h => h) (Or.inl ⟨by rfl, ?_⟩) ?_ ?_; rotate_left; (intro w'; go_simp; with_reducible rfl); rotate_left; (simp only [Act.put, q1_, q2_, q3_, i64_w, i32_w]; rfl)
                  refine pure_ (i := 3) (N := some 119) (v := ?_) (a' := ?_) (bs 10 63) rfl rfl (by kernel_rfl) (fun _ _ _ h => h) (Or.inl ⟨by rfl, ?_⟩) ?_ ?_; rotate_left; (intro w'; go_simp; with_reducible rfl); rotate_left; (simp only [Act.put, q1_, q2_, q3_, i64_w, i32_w]; rfl)
                  refine pure_ (i := 6) (N := some 122) (v := ?_) (a' := ?_) (bs 10 127) rfl rfl (by kernel_rfl) (fun _ _ _ h => h) (Or.inl ⟨by rfl, ?_⟩) ?_ ?_; rotate_left; (intro w'; go_simp; with_reducible rfl); rotate_left; (simp only [Act.put, q1_, q2_, q3_, i64_w, i32_w]; rfl)
                  refine one_ (i := 7) (N := none) (bs 10 255) rfl rfl (by kernel_rfl) (by decide) (fun K hK => ?_)
                  refine skip_ (w1 := wd.setCell ⟨w.heap.size, 8, none⟩ (.int .i64 (Go.bits .and .i64 (wrap64 (s3.cy + 1)) 7))) (by rfl) rfl (by go_simp) ?_
                  refine hK.out _ _ ((World.cell?_of_block (Below.heap_setCell _ _ _ _ (by simp))).trans hHeld) (fun hHeld => ?_); clear hK K
                  refine pure_ (i := 8) (N := some 123) (v := ?_) (a' := ?_) (bs 10 511) rfl rfl (by kernel_rfl) (fun _ _ _ h => h) (Or.inl ⟨by rfl, ?_⟩) ?_ ?_; rotate_left; (intro w'; go_simp; with_reducible rfl); rotate_left; (simp only [Act.put, q1_, q2_, q3_, i64_w, i32_w]; rfl)
                  have f9' := blk_frozen (blk_set HId.out.hs 8 (.int .i64 (Go.bits .and .i64 (wrap64 (s3.cy + 1)) 7))) 9
                  refine last_ (i := 9) (N := none) (bs 10 1023) rfl rfl (by kernel_rfl) (by decide) (fun K hK => ?_)
                  refine skip_ (w1 := (wd.setCell ⟨w.heap.size, 8, none⟩ (.int .i64 (Go.bits .and .i64 (wrap64 (s3.cy + 1)) 7))).setCell ⟨w.heap.size, 9, none⟩ (.int .i64 e.now)) (by rfl) rfl (by go_simp) ?_
                  refine hK.out _ _ ?_; clear hK K
                  refine done_ (by kernel_rfl) ?_
                  go_wp2
                  go_meet
                  case rel =>
                    rw [E4.out]
                    exact (HId.out.set { s3 with cy := bits .and .i64 (wrap64 (s3.cy + 1)) 7 } rfl 8 (.int .i64 (bits .and .i64 (wrap64 (s3.cy + 1)) 7)) rfl).set { s3 with cy := bits .and .i64 (wrap64 (s3.cy + 1)) 7, ca := e.now } rfl 9 (.int .i64 e.now) rfl
                · have e4 : st4 s3 e = s3 := by
                    unfold st4
                    rw [if_neg HNEG.out, HM.out, if_neg (fun h => h3 h.2)]
                  have E4 := Aside0.mk e4
                  clear e4
                  go_wp2
                  go_meet
                  case rel => rw [E4.out]; exact HI7.out
              · have e4 : st4 s3 e = s3 := by
                  unfold st4
                  rw [if_neg HNEG.out, if_neg (fun h => h2 h.1)]
                have E4 := Aside0.mk e4
                clear e4
                go_wp2
                go_meet
                case rel => rw [E4.out]; exact HI7.out
            · have e4 : st4 s3 e = { s3 with ph := 1 } := by unfold st4; rw [if_pos (HB100.out.1 rfl)]
              have hf0 := blk_frozen HI7.out.hs 0
              have hc0 := (blk_cell HI7.out.hs 0).trans rfl
              go_wp2
              go_meet
              case rel => rw [e4]; exact HI7.out.set { s3 with ph := 1 } rfl 0 (.int .i64 1) rfl
          case rest =>
            have hrt4 := HO3.out.rt
            have hgr4 := gr_bd _ HO3.out.l
            refine ‹∀ (a : Act) (w : World), Code.wp Try.prog _ _ a w → _› _ _ ?_
            exact ack_part3 A2 c2 (st4 s3 e) s0 e mss w wc (by rw [← l4_eq]; exact hlc2) (by rw [← l4_eq]; exact hcut) (by rw [← l4_eq]; exact hgr4) (by rw [rt4_eq]; exact hrt4) HOE.out old s6 H63.out _ _ _ _ _ _ _ _ _ _ _ _ _ _ _ _ _ _ _ _ _ _ _ _ _ _ _ _ _ _ _ _ _ _ _ _ _ _ _ _ _ _ _ _ _ _ _ _ _ _ _ _ _ _ _ _ _ _ _ _ _ _ _ _ _ _ _ _ _ _ _ _ _ _ _ _ _ _ _ _ _ _ _ _ _ _ _ _ _ _ _ _ _ _ _ _ _ _ _ _ _ _ _ _ _ _ _ _ _ _ _ _ _ _ _ _ _ _ _ _ _ _ _ _ _ _ _ _ _ _ _ _ _ _ _ _ _ _ _ _ _ _ _ _ _ _ _ _ _ _ _ _ _ _ _ _ _
end Go.Proofs.Ytodlibmnmjopbaa.Hand
