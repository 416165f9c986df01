/- Chapter 8: alive. -/
import Derived.Test.YtigmlklcbhlmpaaHandQ
import Derived.Lib.SlBytesConst
namespace Go.Proofs.Ytigmlklcbhlmpaa.Hand
open Go.RowKit Go.Proofs.Ytigmlklcbhlmpaa Go.Proofs.Ytigmlklcbhlmpaa.Util Go.Proofs.YtigmlklcbhlmpaaW.PrintWords Go.Proofs.YtigmlklcbhlmpaaW.PrintLast Go.Proofs.YtigmlklcbhlmpaaW.PrintMore
set_option linter.unusedVariables false
set_option linter.unusedSimpArgs false
attribute [local go_sem] Oper.semAt_some
theorem num_calls (w : World) (a : Int) : Calls Try.prog 10 #[.int .i64 a] w fun e w' => e = .returned (.int .i64 a) ∧ w = w' := by
  go_enter Try.func10, Try.ntmps10
  go_wp2
  go_ret
  exact ⟨rfl, rfl⟩
theorem rep_reads {w : World} {b : Nat} {t : TypeId} {k : IntKind} {x : Int} {n : Nat} (h : w.heap[b]? = some (.cells (Array.replicate n (.int k x)) t (0, 0))) (hn : n ≤ 9223372036854775807) : ReadsInt w k (some ⟨b, 0, none⟩) (List.replicate n x).length (List.replicate n x) := by
  refine ⟨rfl, by simpa using hn, fun _ => ⟨_, rfl, fun j hj => ?_⟩⟩
  rw [List.length_replicate] at hj
  rw [add_at, Nat.zero_add, blk_cell h j, Array.getElem?_replicate, if_pos hj, List.getD_eq_getElem?_getD, List.getElem?_replicate, if_pos hj]
  rfl
theorem lit_reads (w : World) (x : Int) : ReadsInt (w.alloc (.cells #[.int .u8 x] 5 (1, 2))) .u8 (some ⟨w.heap.size, 0, none⟩) [x].length [x] :=
  ⟨rfl, by simp, fun _ => ⟨_, rfl, fun j hj => by
    obtain rfl : j = 0 := by simpa using hj
    rw [add_at]
    exact (cell_of_row _ _ 0 _ _ _ (blk_new w _)).trans rfl⟩⟩
theorem own_keep5 {w w' : World} {base n : Nat} {v : Value} {xs : List Value} (h : w.ownsRow base 5 1 v n xs) (hk : Keep5 w w') : w'.ownsRow base 5 1 v n xs :=
  own_move h fun k hk' => by obtain ⟨cells, hc⟩ := own_typed h k hk'; exact hk k cells hc
theorem made_int (k : IntKind) (x : Int) (z : Nat) : madeCells (Value.int k x).cells z = Array.replicate z (.int k x) := by
  apply Array.ext_getElem?
  intro i
  unfold madeCells
  by_cases h : i < z <;> simp [Value.cells, Array.getElem?_replicate, Nat.mod_one, h]
set_option maxHeartbeats 1000000 in
set_option maxRecDepth 100000 in
theorem alive_calls (w : World) : Calls Try.prog 11 #[] w fun e w' => e = .returned (.bool true) ∧ Below w.heap.size w w' := by
  have hmk5 : ∀ u : World, (Instr.makeSlice 22 (.int .i64 40) (.int .i64 40)).run Try.prog u = .ok (.slice (some ⟨u.heap.size, 0, none⟩) 40 40) (u.alloc (.cells (Array.replicate 40 (.int .u8 0)) 5)) := by
    obtain ⟨i0, hi, hz0, hz1, hz2⟩ := info_parts info5
    have hmk := fun u : World => run_make (P := Try.prog) u 22 5 i0 (.int .u8 0) Try.underlying22 hi hz0 .i64 .i64 (40 : Nat) (40 : Nat) (by omega) (Int.le_refl _) (by rw [hz2]; omega) (by omega)
    simpa [hz1, made_int] using hmk
  have hmk3 : ∀ u : World, (Instr.makeSlice 23 (.int .i64 128) (.int .i64 128)).run Try.prog u = .ok (.slice (some ⟨u.heap.size, 0, none⟩) 128 128) (u.alloc (.cells (Array.replicate 128 (.int .i64 0)) 3)) := by
    obtain ⟨i0, hi, hz0, hz1, hz2⟩ := info_parts info3
    have hmk := fun u : World => run_make (P := Try.prog) u 23 3 i0 (.int .i64 0) Try.underlying23 hi hz0 .i64 .i64 (128 : Nat) (128 : Nat) (by omega) (Int.le_refl _) (by rw [hz2]; omega) (by omega)
    simpa [hz1, made_int] using hmk
  have hcv97 := fun u : World => _root_.Go.Lib.run_convert_bytes_const (P := Try.prog) u 22 5 #[.int .u8 97] 1 1 Try.underlying22 Try.underlying5
  simp at hcv97
  have hcv98 := fun u : World => _root_.Go.Lib.run_convert_bytes_const (P := Try.prog) u 22 5 #[.int .u8 98] 1 1 Try.underlying22 Try.underlying5
  simp at hcv98
  have hcv120 := fun u : World => _root_.Go.Lib.run_convert_bytes_const (P := Try.prog) u 22 5 #[.int .u8 120] 1 1 Try.underlying22 Try.underlying5
  simp at hcv120
  have hcv121 := fun u : World => _root_.Go.Lib.run_convert_bytes_const (P := Try.prog) u 22 5 #[.int .u8 121] 1 1 Try.underlying22 Try.underlying5
  simp at hcv121
  go_enter Try.func11, Try.ntmps11
  go_wp2
  refine start_ (n := 9) (S := fun _ => True) (ds := [3]) (bs 9 0) (by kernel_rfl) rfl rfl trivial (fun hHeld => ?_)
  generalize hwd : World.drew _ = w0
  have hB0 : Below w.heap.size w w0 := by rw [← hwd]; exact below_drew1 (Below.refl _ _)
  clear hwd hHeld
  refine join_ (σ := Nat × Nat) 7 (bs 9 3) (fun s => [(19, .slice (some ⟨s.1, 0, none⟩) 40 40), (20, .slice (some ⟨s.2, 0, none⟩) 128 128)]) (fun s w' => w'.heap[s.1]? = some (.cells (Array.replicate 40 (.int .u8 0)) 5 (0, 0)) ∧ w'.heap[s.2]? = some (.cells (Array.replicate 128 (.int .i64 0)) 3 (0, 0)) ∧ Below w.heap.size w w') ?_ ?_
  · rintro ⟨kb, tb⟩ wd ⟨hk, ht, hB⟩
    have HM : Aside0 (ReadsInt wd .u8 (some ⟨kb, 0, none⟩) (List.replicate 40 (0 : Int)).length (List.replicate 40 0) ∧ ReadsInt wd .i64 (some ⟨tb, 0, none⟩) (List.replicate 128 (0 : Int)).length (List.replicate 128 0) ∧ Below w.heap.size w wd) := ⟨rep_reads hk (by decide), rep_reads ht (by decide), hB⟩
    clear hk ht hB hB0
    refine norm_ (a' := ?_) ?_ ?_; rotate_left; (simp only [putAll, List.foldl, Act.put, q1_, q2_, q3_]; rfl)
    refine pure_ (i := 2) (N := some 21) (v := ?_) (a' := ?_) (bs 9 7) rfl rfl (by kernel_rfl) (fun _ _ _ h => h) (Or.inl ⟨by rfl, ?_⟩) ?_ ?_; rotate_left; (intro w'; go_simp; with_reducible rfl); rotate_left; (simp only [Act.put, q1_, q2_, q3_, i64_w, i32_w]; rfl)
    refine last_ (i := 3) (N := some 22) (bs 9 15) rfl rfl (by kernel_rfl) (by decide) (fun K hK => ?_)
    refine goes_ Try.func12 (by kernel_rfl) rfl #[.agg #[.slice (some ⟨kb, 0, none⟩) 40 40, .slice (some ⟨tb, 0, none⟩) 128 128, .int .i64 1, .int .i64 10]] (by rfl) rfl rfl (by (try simp only [List.map_toArray, List.map_cons, List.map_nil]); first | done | rfl) ?_
    have hnew := new_ok (some ⟨kb, 0, none⟩) (List.replicate 40 0) 40 (some ⟨tb, 0, none⟩) 128 (List.replicate 128 0) 1 10 wd HM.out.1 (by decide) (by decide) HM.out.2.1 (by decide) (by decide) (by kernel_rfl)
    simp only [List.length_replicate] at hnew
    refine hnew.mono ?_
    rintro x w1 ⟨p, k1, t1, c1, c2, rfl, hCS, hlc2, hrd, hab, hB1⟩
    have HC := Aside0.mk (And.intro hCS (And.intro hrd (And.intro hab (And.intro (HM.out.2.2.trans (hB1.mono HM.out.2.2.size)) HM.out.2.2.size))))
    clear hCS hrd hab hB1 hnew HM
    refine ⟨_, rfl, ?_⟩
    refine hK.out _ _ ?_; clear hK K
    refine norm_ (a' := ?_) ?_ ?_; rotate_left; (show Act.put _ (some 22) _ = _; simp only [Act.put, q1_, q2_, q3_, i64_w, i32_w]; rfl)
    refine pure_ (i := 4) (N := some 18) (v := ?_) (a' := ?_) (bs 9 31) rfl rfl (by kernel_rfl) (fun _ _ _ h => h) (Or.inl ⟨by rfl, ?_⟩) ?_ ?_; rotate_left; (intro w'; go_simp; with_reducible rfl); rotate_left; (simp only [Act.put, q1_, q2_, q3_, i64_w, i32_w]; rfl)
    refine pure_ (i := 5) (N := some 23) (v := ?_) (a' := ?_) (bs 9 63) rfl rfl (by kernel_rfl) (fun _ _ _ h => h) (Or.inl ⟨by rfl, ?_⟩) ?_ ?_; rotate_left; (intro w'; go_simp; with_reducible rfl); rotate_left; (simp only [Act.put, q1_, q2_, q3_, i64_w, i32_w]; rfl)
    refine pure_ (i := 6) (N := some 24) (v := ?_) (a' := ?_) (bs 9 127) rfl rfl (by kernel_rfl) (fun _ _ _ h => h) (Or.inl ⟨by rfl, ?_⟩) ?_ ?_; rotate_left; (intro w'; go_simp; with_reducible rfl); rotate_left; (simp only [Act.put, q1_, q2_, q3_, i64_w, i32_w]; rfl)
    refine pure_ (i := 7) (N := some 1) (v := ?_) (a' := ?_) (bs 9 255) rfl rfl (by kernel_rfl) (fun _ _ _ h => h) (Or.inl ⟨by rfl, ?_⟩) ?_ ?_; rotate_left; (intro w'; go_simp; with_reducible rfl); rotate_left; (simp only [Act.put, q1_, q2_, q3_, i64_w, i32_w]; rfl)
    refine pure_ (i := 8) (N := some 2) (v := ?_) (a' := ?_) (bs 9 511) rfl rfl (by kernel_rfl) (fun _ _ _ h => h) (Or.inl ⟨by rfl, ?_⟩) ?_ ?_; rotate_left; (intro w'; go_simp; with_reducible rfl); rotate_left; (simp only [Act.put, q1_, q2_, q3_, i64_w, i32_w]; rfl)
    refine done_ (by kernel_rfl) ?_
    go_wp2_with (first
      | (go_at_call 10; refine (num_calls _ _).mono ?_; rintro x w9 ⟨rfl, rfl⟩)
      | (go_at_call 16
         have h := rcv_one wd.heap.size p k1 40 c1 t1 c2 (List.replicate 128 0) none 0 0 (.slice none 0 0) 1 10 0 0 (some ⟨w1.heap.size, 0, none⟩) 1 [97] HC.out.1.hb (by decide) (by omega) rfl ⟨rfl, rfl⟩ (w1.alloc (.cells #[.int .u8 97] 5 (1, 2))) (by have := HC.out.1.hb; have := blk_lt HC.out.1.blk; rw [World.size_alloc]; omega) ((Below.heap_alloc _ _ _ (blk_lt HC.out.1.blk)).trans HC.out.1.blk) (by rw [List.length_replicate]; exact HC.out.2.1.below (below_alloc (Below.refl w1.heap.size w1) _)) (by rw [List.length_replicate]; exact hlc2) (by kernel_rfl) (lit_reads w1 97) (by decide)
         simp only [List.length_replicate, List.length_cons, List.length_nil, Nat.zero_add] at h
         refine h.mono ?_
         rintro x wA ⟨rfl, ⟨Ai, ci, hblk⟩, hBA, hFA⟩
         have hsA : w1.heap.size + 1 ≤ wA.heap.size := by have := hBA.size; rwa [World.size_alloc] at this
         have HA : Aside0 (wA.heap[p]? = some (.cells (card (.slice k1 40 c1) (.slice t1 128 c2) (.slice Ai 1 ci) (.slice none 0 0) 1 10 0 0) 57 (0, 0)) ∧ ReadsInt wA .i64 t1 128 (List.replicate 128 0) ∧ Below w.heap.size w wA ∧ wd.heap.size ≤ p ∧ w.heap.size ≤ wd.heap.size) := by
           refine ⟨hblk, reads_kept HC.out.2.1 (fun ad e h0 => ?_), ?_, HC.out.1.hb, HC.out.2.2.2.2⟩
           · have h1 := HC.out.2.2.1 ad e h0
             have h2 := blk_lt HC.out.1.blk
             rw [hFA _ (by rw [World.size_alloc]; omega) (by omega)]
             exact Below.heap_alloc _ _ _ (by omega)
           · exact (HC.out.2.2.2.1.trans ((below_alloc (Below.refl w1.heap.size w1) _).mono HC.out.2.2.2.1.size)).trans (hBA.mono HC.out.2.2.2.2)
         clear HC h hblk hBA hFA)
      | (go_at_call 16
         have h := rcv_full wd.heap.size p k1 40 c1 t1 c2 (List.replicate 128 0) Ai 1 ci (.slice none 0 0) 1 10 0 0 (some ⟨wA.heap.size, 0, none⟩) 1 [98] HA.out.2.2.2.1 (by decide) (by omega) (by omega) (wA.alloc (.cells #[.int .u8 98] 5 (1, 2))) (by have := blk_lt HA.out.1; have := HA.out.2.2.2.1; rw [World.size_alloc]; omega) ((Below.heap_alloc _ _ _ (blk_lt HA.out.1)).trans HA.out.1) (by rw [List.length_replicate]; exact HA.out.2.1.below (below_alloc (Below.refl wA.heap.size wA) _)) (by rw [List.length_replicate]; exact hlc2) (by kernel_rfl) (lit_reads wA 98) (by decide)
         simp only [List.length_replicate, List.length_cons, List.length_nil, Nat.zero_add] at h
         refine h.mono ?_
         rintro x wB ⟨rfl, hBB⟩
         have HB : Aside0 (CS wB wd.heap.size p (.slice k1 40 c1) (.slice t1 128 c2) (.slice Ai 1 ci) (.slice none 0 0) [] [] 1 10 0 0 ∧ Below w.heap.size w wB ∧ w.heap.size ≤ wd.heap.size) :=
           ⟨⟨(hBB.block p (by have := blk_lt HA.out.1; rw [World.size_alloc]; omega)).trans ((Below.heap_alloc _ _ _ (blk_lt HA.out.1)).trans HA.out.1), ⟨rfl, .inl ⟨rfl, none, rfl, by simp⟩⟩, trivial, HA.out.2.2.2.1⟩, (HA.out.2.2.1.trans ((below_alloc (Below.refl wA.heap.size wA) _).mono HA.out.2.2.1.size)).trans (hBB.mono (by have := HA.out.2.2.1.size; rw [World.size_alloc]; omega)), HA.out.2.2.2.2⟩
         clear HA h hBB)
      | (go_at_call 13
         have h := send_ok wd.heap.size p _ _ _ _ [] [] 1 10 0 0 (some ⟨wB.heap.size, 0, none⟩) 1 [120] (by omega) (by decide) (by decide) (wB.alloc (.cells #[.int .u8 120] 5 (1, 2))) (by have := blk_lt HB.out.1.blk; have := HB.out.1.hb; rw [World.size_alloc]; omega) (cs_move HB.out.1 (below_alloc (Below.refl wB.heap.size wB) _)) (lit_reads wB 120) (by decide)
         simp only [List.length_cons, List.length_nil, Nat.zero_add, List.nil_append] at h
         refine h.mono ?_
         rintro x wC ⟨rfl, ⟨o1, l1, hCS⟩, hBC, _⟩
         have HD := Aside0.mk (And.intro hCS (And.intro ((HB.out.2.1.trans ((below_alloc (Below.refl wB.heap.size wB) (.cells #[.int .u8 120] 5 (1, 2))).mono HB.out.2.1.size)).trans (hBC.mono HB.out.2.2)) HB.out.2.2))
         clear HB h hCS hBC)
      | (go_at_call 14
         have h := emit_take wd.heap.size p _ _ _ _ _ [120] [] 1 10 0 0 0 (by omega) (by omega) (by omega) (by omega) (by omega) wC HD.out.1
         simp only [List.length_cons, List.length_nil, Nat.zero_add, Int.zero_add] at h
         refine h.mono ?_
         rintro x wE ⟨⟨Aa, ca, rfl, hown⟩, ⟨o2, l2, hCS⟩, hBC, _⟩
         have HE := Aside0.mk (And.intro hCS (And.intro (HD.out.2.1.trans (hBC.mono HD.out.2.2)) (And.intro HD.out.2.2 hown)))
         clear HD h hCS hBC hown)
      | (go_at_call 13
         have h := send_ok wd.heap.size p _ _ _ _ _ [] 1 10 0 10 (some ⟨wE.heap.size, 0, none⟩) 1 [121] (by omega) (by decide) (by decide) (wE.alloc (.cells #[.int .u8 121] 5 (1, 2))) (by have := blk_lt HE.out.1.blk; have := HE.out.1.hb; rw [World.size_alloc]; omega) (cs_move HE.out.1 (below_alloc (Below.refl wE.heap.size wE) _)) (lit_reads wE 121) (by decide)
         simp only [List.length_cons, List.length_nil, Nat.zero_add, List.nil_append] at h
         refine h.mono ?_
         rintro x wF ⟨rfl, ⟨o3, l3, hCS⟩, hBC, hK5⟩
         have HF := Aside0.mk (And.intro hCS (And.intro ((HE.out.2.1.trans ((below_alloc (Below.refl wE.heap.size wE) (.cells #[.int .u8 121] 5 (1, 2))).mono HE.out.2.1.size)).trans (hBC.mono HE.out.2.2.1)) (And.intro HE.out.2.2.1 (own_keep5 (HE.out.2.2.2.alloc (.cells #[.int .u8 121] 5 (1, 2))) hK5))))
         clear HE h hCS hBC hK5)
      | (go_at_call 14
         have h := emit_wait wd.heap.size p _ _ _ _ _ _ 1 10 0 10 9 (by omega) (by omega) (by omega) wF HF.out.1
         refine h.mono ?_
         rintro x wG ⟨rfl, hCS, hBC, hK5⟩
         have HG := Aside0.mk (And.intro hCS (And.intro (HF.out.2.1.trans (hBC.mono HF.out.2.2.1)) (And.intro HF.out.2.2.1 (own_keep5 HF.out.2.2.2 hK5))))
         clear HF h hCS hBC hK5)
      | (go_at_call 14
         have h := emit_take wd.heap.size p _ _ _ _ _ [121] [] 1 10 9 10 10 (by omega) (by omega) (by omega) (by omega) (by omega) wG HG.out.1
         simp only [List.length_cons, List.length_nil, Nat.zero_add] at h
         refine h.mono ?_
         rintro x wH ⟨⟨Ab, cb, rfl, hown⟩, _, hBC, hK5⟩
         have hA5 := own_keep5 HG.out.2.2.2 hK5
         have HH := Aside0.mk (HG.out.2.1.trans (hBC.mono HG.out.2.2.1))
         have hsa : (convert 22 9 (.slice Aa 1 ca)).run Try.prog wH = .ok (.string ⟨#[120]⟩) wH := (own_string (P := Try.prog) (xs := [120]) Try.underlying22 Try.underlying5 Try.underlying9 hA5).trans (by kernel_rfl)
         have hsb : (convert 22 9 (.slice Ab 1 cb)).run Try.prog wH = .ok (.string ⟨#[121]⟩) wH := (own_string (P := Try.prog) (xs := [121]) Try.underlying22 Try.underlying5 Try.underlying9 hown).trans (by kernel_rfl)
         clear HG h hBC hK5 hown hA5))
    go_ret
    exact ⟨rfl, HH.out⟩
  · intro hcont
    refine two_ (i := 0) (j := 1) (Ni := some 19) (Nj := some 20) (bs 9 1) (bs 9 2) rfl rfl rfl rfl (by kernel_rfl) (by decide) (by decide) (fun K hK => ?_) (fun K hK => ?_)
    · refine value_ (w1 := ?_) (v := ?_) (by rfl) rfl ?_ ?_; rotate_left 2; (go_simp; constructor; rfl; rfl)
      refine hK.out _ _ trivial (fun _ => ?_); clear hK K
      refine norm_ (a' := ?_) ?_ ?_; rotate_left; (show Act.put _ (some 19) _ = _; simp only [Act.put, q1_, q2_, q3_, i64_w, i32_w]; rfl)
      refine one_ (i := 1) (N := some 20) (bs 9 3) rfl rfl (by kernel_rfl) (by decide) (fun K hK => ?_)
      refine value_ (w1 := ?_) (v := ?_) (by rfl) rfl ?_ ?_; rotate_left 2; (go_simp; constructor; rfl; rfl)
      refine hK.out _ _ trivial (fun _ => ?_); clear hK K
      refine norm_ (a' := putAll _ _) ?_ (hcont (w0.heap.size, w0.heap.size + 1) _ ⟨?_, ?_, ?_⟩)
      · rfl
      · exact (Below.heap_alloc _ _ _ (by simp)).trans (blk_new w0 _)
      · have := blk_new (w0.alloc (.cells (Array.replicate 40 (.int .u8 0)) 5)) (.cells (Array.replicate 128 (.int .i64 0)) 3); rwa [World.size_alloc] at this
      · exact hB0.trans (below_alloc (below_alloc (Below.refl w0.heap.size w0) _) _ |>.mono hB0.size)
    · refine value_ (w1 := ?_) (v := ?_) (by rfl) rfl ?_ ?_; rotate_left 2; (go_simp; constructor; rfl; rfl)
      refine hK.out _ _ trivial (fun _ => ?_); clear hK K
      refine norm_ (a' := ?_) ?_ ?_; rotate_left; (show Act.put _ (some 20) _ = _; simp only [Act.put, q1_, q2_, q3_, i64_w, i32_w]; rfl)
      refine one_ (i := 0) (N := some 19) (bs 9 3) rfl rfl (by kernel_rfl) (by decide) (fun K hK => ?_)
      refine value_ (w1 := ?_) (v := ?_) (by rfl) rfl ?_ ?_; rotate_left 2; (go_simp; constructor; rfl; rfl)
      refine hK.out _ _ trivial (fun _ => ?_); clear hK K
      refine norm_ (a' := putAll _ _) ?_ (hcont (w0.heap.size + 1, w0.heap.size) _ ⟨?_, ?_, ?_⟩)
      · rfl
      · have := blk_new (w0.alloc (.cells (Array.replicate 128 (.int .i64 0)) 3)) (.cells (Array.replicate 40 (.int .u8 0)) 5); rwa [World.size_alloc] at this
      · exact (Below.heap_alloc _ _ _ (by simp)).trans (blk_new w0 _)
      · exact hB0.trans (below_alloc (below_alloc (Below.refl w0.heap.size w0) _) _ |>.mono hB0.size)
end Go.Proofs.Ytigmlklcbhlmpaa.Hand
