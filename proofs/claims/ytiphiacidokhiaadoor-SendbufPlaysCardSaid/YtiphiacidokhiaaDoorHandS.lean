/- Chapter 15: Slice of any buffer. -/
import Derived.Test.YtiphiacidokhiaaDoorHandZ
namespace Go.Proofs.YtiphiacidokhiaaDoor.Hand
open Go.RowKit Go.Proofs.YtiphiacidokhiaaDoorW.PrintWords Go.Proofs.YtiphiacidokhiaaDoorW.PrintLast Go.Proofs.YtiphiacidokhiaaDoorW.PrintMore
set_option linter.unusedVariables false
set_option linter.unusedSimpArgs false
attribute [local go_sem] Oper.semAt_some
set_option maxHeartbeats 4000000 in
set_option maxRecDepth 100000 in
theorem slice_gen (g R sz fr n off M : Nat) (una q : Int) (C : Array Value) (xs : List Int) (hs : 1 ≤ sz ∧ sz ≤ 1048576) (hf : fr < sz) (hn : n ≤ sz) (ho : (q - una) % 4294967296 = (off : Int)) (hon : off ≤ n) (hM : (M : Int) ≤ 9223372036854775807) (hxl : xs.length = n)
    (hx : ∀ i, i < n → C[(fr + i) % sz]? = some (.int .u8 (xs.getD i 0))) (w : World) (hb : w.heap[g]? = some (.cells (c4 R sz fr n una) 59 (0, 0))) (hr : w.heap[R]? = some (.cells C 5 (0, 0))) :
    Calls Tryd.prog 12 #[.pointer (some ⟨g, 0, none⟩), .int .u32 q, .int .i64 M] w fun e w' => ∃ v, e = .returned (.tuple #[v, .int .i64 0]) ∧ w'.ownsRow w.heap.size 5 1 v (min M (n - off)) (nums .u8 ((xs.drop off).take (min M (n - off)))) ∧ Below w.heap.size w w' := by
  have h2 := (blk_cell hb 2).trans rfl
  have HB := Aside0.mk hb
  have HR := Aside0.mk hr
  have HN := Aside0.mk (show n ≤ 1048576 by omega)
  have HX := Aside0.mk hx
  have hon' : (off : Int) ≤ n := by omega
  have hoff : (off : Int) ≤ 1048576 := by omega
  have hM0 : ¬ ((M : Int) < 0) := by omega
  clear hb hr hx
  go_enter Tryd.func12, Tryd.ntmps12
  go_wp2_with (first | (go_at_call 20; refine (una_calls g R sz fr n una w HB.out).mono ?_; rintro x w1 ⟨rfl, rfl⟩) | (go_at_call 31; refine (none_calls g R sz fr n una w HB.out).mono ?_; rintro x w1 ⟨rfl, rfl⟩))
  clear h2
  go_loopw [10] (fun i wr => ∃ j : Nat, off ≤ j ∧ j ≤ off + min M (n - off) ∧ i = .int .i64 (j : Int) ∧ Lib.IsBuffer 67 5 w.heap.size w.heap.size (nums .u8 ((xs.drop off).take (j - off))) wr ∧ Below w.heap.size w wr) (fun i _ => n + 1 - (intOf i).toNat)
  case atStart => exact ⟨off, by omega, by omega, rfl, by rw [Nat.sub_self]; exact Lib.fresh_isBuffer 67 5 w, below_alloc (Below.refl _ _) _⟩
  case round =>
    obtain ⟨j, hj1, hj2, rfl, hI, hBl⟩ := hrel
    have hg' := (hBl.block g (blk_lt HB.out)).trans HB.out
    have hR' := (hBl.block R (blk_lt HR.out)).trans HR.out
    have HG := Aside0.mk (And.intro hg' hR')
    have HI : Aside0 (Lib.IsBuffer 67 5 w.heap.size w.heap.size (nums .u8 ((xs.drop off).take (j - off))) wr ∧ Below w.heap.size w wr) := ⟨hI, hBl⟩
    have c0 := (blk_cell hg' 0).trans rfl
    have c1 := (blk_cell hg' 1).trans rfl
    have c2 := (blk_cell hg' 2).trans rfl
    clear hg' hR' hI hBl
    have hj3 : (j : Int) ≤ 1048576 := by omega
    have hj4 : (off : Int) ≤ j := by omega
    by_cases hjn : j < n
    · by_cases hjm : (j : Int) - (off : Int) < (M : Int)
      · obtain ⟨p, hp⟩ : ∃ p : Nat, p = (fr + j) % sz := ⟨_, rfl⟩
        obtain ⟨x, hxj⟩ : ∃ x : Int, x = xs.getD j 0 := ⟨_, rfl⟩
        have hps : p < sz := by rw [hp]; exact Nat.mod_lt _ (by omega)
        have hmod : Int.tmod ((fr : Int) + (j : Int)) (sz : Int) = (p : Int) := by
          rw [hp, Int.tmod_eq_emod_of_nonneg (by omega)]; simp
        have HW : Aside0 (wrap64 ((fr : Int) + (j : Int)) = (fr : Int) + (j : Int)) := ⟨hw0_ fr j sz hs.2 hf (by omega)⟩
        have hCp : C[p]? = some (.int .u8 x) := by rw [hp, hxj]; exact HX.out j hjn
        have hz0 : ¬ sz = 0 := by omega
        have HCP := Aside0.mk hCp
        have HXJ := Aside0.mk (And.intro hxj hp)
        clear hCp hxj hp
        go_wp2
        refine start_ (n := 19) (S := fun w' => w'.cell? ⟨g, 0, none⟩ = some (.slice (some ⟨R, 0, none⟩) sz sz) ∧ w'.cell? ⟨g, 1, none⟩ = some (.int .i64 fr) ∧ w'.cell? ⟨R, p, none⟩ = some (.int .u8 x)) (ds := [18]) (bs 19 0) (by kernel_rfl) rfl rfl ⟨(blk_cell HG.out.1 0).trans rfl, (blk_cell HG.out.1 1).trans rfl, (blk_cell HG.out.2 p).trans HCP.out⟩ (fun hHeld => ?_)
        have HId : Aside0 (Lib.IsBuffer 67 5 w.heap.size w.heap.size (nums .u8 ((xs.drop off).take (j - off))) wr.drew ∧ Below w.heap.size w wr.drew) := ⟨HI.out.1, below_drew1 HI.out.2⟩
        generalize wr.drew = wd at hHeld HId ⊢
        clear c0 c1 c2 HG HI
        have hw0 := HW.out
        refine pure_ (i := 0) (N := some 45) (v := ?_) (a' := ?_) (bs 19 1) rfl rfl (by kernel_rfl) (fun _ _ _ h => h) (Or.inl ⟨by rfl, ?_⟩) ?_ ?_; rotate_left; (intro w'; go_simp; with_reducible rfl); rotate_left; (simp only [Act.put, q1_, q2_, q3_, i64_w, i32_w]; rfl)
        refine pure_ (i := 1) (N := some 46) (v := ?_) (a' := ?_) (bs 19 3) rfl rfl (by kernel_rfl) (fun _ _ _ h => h) (Or.inl ⟨by rfl, ?_⟩) ?_ ?_; rotate_left; (intro w'; go_simp; with_reducible rfl); rotate_left; (simp only [Act.put, q1_, q2_, q3_, i64_w, i32_w]; rfl)
        refine pure_ (i := 2) (N := some 47) (v := ?_) (a' := ?_) (bs 19 7) rfl rfl (by kernel_rfl) (fun _ _ _ h => h) (Or.inl ⟨by rfl, ?_⟩) ?_ ?_; rotate_left; (intro w'; go_simp; with_reducible rfl); rotate_left; (simp only [Act.put, q1_, q2_, q3_, i64_w, i32_w]; rfl)
        refine pure_ (i := 4) (N := some 49) (v := ?_) (a' := ?_) (bs 19 23) rfl rfl (by kernel_rfl) (fun _ _ _ h => h) (Or.inl ⟨by rfl, ?_⟩) ?_ ?_; rotate_left; (intro w'; go_simp; with_reducible rfl); rotate_left; (simp only [Act.put, q1_, q2_, q3_, i64_w, i32_w]; rfl)
        refine pure_ (i := 5) (N := some 50) (v := ?_) (a' := ?_) (bs 19 55) rfl rfl (by kernel_rfl) (fun _ _ _ h => h) (Or.inl ⟨by rfl, ?_⟩) ?_ ?_; rotate_left; (intro w'; go_simp; with_reducible rfl); rotate_left; (simp only [Act.put, q1_, q2_, q3_, i64_w, i32_w]; rfl)
        refine pure_ (i := 6) (N := some 51) (v := ?_) (a' := ?_) (bs 19 119) rfl rfl (by kernel_rfl) (fun _ _ _ h => h) (Or.inl ⟨by rfl, ?_⟩) ?_ ?_; rotate_left; (intro w'; go_simp; with_reducible rfl); rotate_left; (simp only [Act.put, q1_, q2_, q3_, i64_w, i32_w]; rfl)
        refine pure_ (i := 8) (N := some 53) (v := ?_) (a' := ?_) (bs 19 375) rfl rfl (by kernel_rfl) (fun _ _ _ h => h) (Or.inl ⟨by rfl, ?_⟩) ?_ ?_; rotate_left; (intro w'; go_simp; with_reducible rfl); rotate_left; (simp only [Act.put, q1_, q2_, q3_, i64_w, i32_w]; rfl)
        refine pure_ (i := 10) (N := some 55) (v := ?_) (a' := ?_) (bs 19 1399) rfl rfl (by kernel_rfl) (fun _ _ _ h => h) (Or.inl ⟨by rfl, ?_⟩) ?_ ?_; rotate_left; (intro w'; go_simp; with_reducible rfl); rotate_left; (simp only [Act.put, q1_, q2_, q3_, i64_w, i32_w]; rfl)
        refine pure_ (i := 11) (N := some 56) (v := ?_) (a' := ?_) (bs 19 3447) rfl rfl (by kernel_rfl) (fun _ _ _ h => h) (Or.inl ⟨by rfl, ?_⟩) ?_ ?_; rotate_left; (intro w'; go_simp; with_reducible rfl); rotate_left; (simp only [Act.put, q1_, q2_, q3_, i64_w, i32_w]; rfl)
        refine pure_ (i := 12) (N := some 57) (v := ?_) (a' := ?_) (bs 19 7543) rfl rfl (by kernel_rfl) (fun _ _ _ h => h) (Or.inl ⟨by rfl, ?_⟩) ?_ ?_; rotate_left; (intro w'; go_simp; with_reducible rfl); rotate_left; (simp only [Act.put, q1_, q2_, q3_, i64_w, i32_w]; rfl)
        refine take_ (i := 3) (N := some 48) (v := ?_) (a' := ?_) (bs 19 7551) rfl rfl (by kernel_rfl) (fun _ _ _ h => h) (Or.inl ⟨by rfl, ?_⟩) hHeld ?_ ?_; rotate_left; (rintro w' ⟨s0, s1, s2⟩; go_simp; with_reducible rfl); rotate_left; (simp only [Act.put, q1_, q2_, q3_, i64_w, i32_w]; rfl)
        refine take_ (i := 7) (N := some 52) (v := ?_) (a' := ?_) (bs 19 7679) rfl rfl (by kernel_rfl) (fun _ _ _ h => h) (Or.inl ⟨by rfl, ?_⟩) hHeld ?_ ?_; rotate_left; (rintro w' ⟨s0, s1, s2⟩; go_simp; with_reducible rfl); rotate_left; (simp only [Act.put, q1_, q2_, q3_, i64_w, i32_w]; rfl)
        refine pure_ (i := 9) (N := some 54) (v := ?_) (a' := ?_) (bs 19 8191) rfl rfl (by kernel_rfl) (fun _ _ _ h => h) (Or.inl ⟨by rfl, ?_⟩) ?_ ?_; rotate_left; (intro w'; go_simp; with_reducible rfl); rotate_left; (simp only [Act.put, q1_, q2_, q3_, i64_w, i32_w]; rfl)
        refine take_ (i := 13) (N := some 58) (v := ?_) (a' := ?_) (bs 19 16383) rfl rfl (by kernel_rfl) (fun _ _ _ h => h) (Or.inl ⟨by rfl, ?_⟩) hHeld ?_ ?_; rotate_left; (rintro w' ⟨s0, s1, s2⟩; go_simp; with_reducible rfl); rotate_left; (simp only [Act.put, q1_, q2_, q3_, i64_w, i32_w]; rfl)
        refine pure_ (i := 14) (N := some 59) (v := ?_) (a' := ?_) (bs 19 32767) rfl rfl (by kernel_rfl) (fun _ _ _ h => h) (Or.inl ⟨by rfl, ?_⟩) ?_ ?_; rotate_left; (intro w'; go_simp; with_reducible rfl); rotate_left; (simp only [Act.put, q1_, q2_, q3_, i64_w, i32_w]; rfl)
        refine pure_ (i := 15) (N := some 60) (v := ?_) (a' := ?_) (bs 19 65535) rfl rfl (by kernel_rfl) (fun _ _ _ h => h) (Or.inl ⟨by rfl, ?_⟩) ?_ ?_; rotate_left; (intro w'; go_simp; with_reducible rfl); rotate_left; (simp only [Act.put, q1_, q2_, q3_, i64_w, i32_w]; rfl)
        refine pure_ (i := 16) (N := some 61) (v := ?_) (a' := ?_) (bs 19 131071) rfl rfl (by kernel_rfl) (fun _ _ _ h => h) (Or.inl ⟨by rfl, ?_⟩) ?_ ?_; rotate_left; (intro w'; go_simp; with_reducible rfl); rotate_left; (simp only [Act.put, q1_, q2_, q3_, i64_w, i32_w]; rfl)
        refine take_ (i := 17) (N := some 62) (v := ?_) (a' := ?_) (bs 19 262143) rfl rfl (by kernel_rfl) (fun _ _ _ h => h) (Or.inl ⟨by rfl, ?_⟩) hHeld ?_ ?_; rotate_left; (rintro w' ⟨s0, s1, s2⟩; go_simp; with_reducible rfl); rotate_left; (simp only [Act.put, q1_, q2_, q3_, i64_w, i32_w]; rfl)
        refine last_ (i := 18) (N := some 63) (bs 19 524287) rfl rfl (by kernel_rfl) (by decide) (fun K hK => ?_)
        refine goes_ Tryd.func32 (by kernel_rfl) rfl #[.pointer (some ⟨w.heap.size, 0, none⟩), .int .u8 x] (by rfl) rfl rfl (by (try simp only [List.map_toArray, List.map_cons, List.map_nil]); first | done | rfl) ?_
        refine (writeByte w.heap.size w.heap.size _ x wd HId.out.1 (HId.out.2.size) (fun v hv => by simp only [nums, List.mem_map] at hv; obtain ⟨y, _, rfl⟩ := hv; simp [Value.oneCell']) (by simp only [nums, List.length_map, List.length_take]; have := HN.out; omega)).mono ?_
        rintro x6 w6 ⟨rfl, hI6, hb6, _⟩
        refine ⟨_, rfl, ?_⟩
        refine hK.out _ _ ?_; clear hK K
        refine norm_ (a' := ?_) ?_ ?_; rotate_left; (show Act.put _ (some 63) _ = _; simp only [Act.put, q1_, q2_, q3_, i64_w, i32_w]; rfl)
        refine done_ (by kernel_rfl) ?_
        clear hHeld hw0 hmod
        go_wp2
        go_roundw
        case rel =>
          refine ⟨j + 1, by omega, by omega, rfl, ?_, HId.out.2.trans hb6⟩
          have e : nums .u8 ((xs.drop off).take (j + 1 - off)) = nums .u8 ((xs.drop off).take (j - off)) ++ [.int .u8 x] := by
            rw [show j + 1 - off = (j - off) + 1 by omega, List.take_succ_eq_append_getElem (by simp [hxl]; omega)]
            have e2 : x = (xs.drop off)[j - off]'(by simp [hxl]; omega) := by
              rw [HXJ.out.1, List.getElem_drop, List.getD_eq_getElem?_getD, List.getElem?_eq_getElem (by omega)]
              simp only [Option.getD_some, show off + (j - off) = j by omega]
            rw [e2]; simp [nums]
          rw [e]; exact hI6
        case measure => simp [intOf]; omega
      · skip
        go_wp2_with (go_at_call 33; refine (bytesOfBuffer w.heap.size w.heap.size _ wr HI.out.1).mono ?_; rintro x w6 ⟨v, rfl, hv, nd, rfl⟩)
        go_ret2
        refine ⟨v, rfl, ?_, pw_below_drewN HI.out.2 nd⟩
        have e : j - off = min M (n - off) := by omega
        rw [e] at hv
        have e2 : (nums .u8 ((xs.drop off).take (min M (n - off)))).length = min M (n - off) := by simp [nums, hxl]
        rw [e2] at hv
        exact hv
    · skip
      go_wp2_with (go_at_call 33; refine (bytesOfBuffer w.heap.size w.heap.size _ wr HI.out.1).mono ?_; rintro x w6 ⟨v, rfl, hv, nd, rfl⟩)
      go_ret2
      refine ⟨v, rfl, ?_, pw_below_drewN HI.out.2 nd⟩
      have e : j - off = min M (n - off) := by omega
      rw [e] at hv
      have e2 : (nums .u8 ((xs.drop off).take (min M (n - off)))).length = min M (n - off) := by simp [nums, hxl]
      rw [e2] at hv
      exact hv
end Go.Proofs.YtiphiacidokhiaaDoor.Hand
