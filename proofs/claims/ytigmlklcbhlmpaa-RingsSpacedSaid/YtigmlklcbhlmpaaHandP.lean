/- Chapter 8: RingsSpaced, walked by hand. -/
import Derived.Test.YtigmlklcbhlmpaaHandV
namespace Go.Proofs.Ytigmlklcbhlmpaa.Hand
open Go.RowKit Go.Proofs.Ytigmlklcbhlmpaa Go.Proofs.Ytigmlklcbhlmpaa.Util Go.Proofs.YtigmlklcbhlmpaaW.PrintWords Go.Proofs.YtigmlklcbhlmpaaW.PrintLast Go.Proofs.YtigmlklcbhlmpaaW.PrintMore
set_option linter.unusedVariables false
set_option linter.unusedSimpArgs false
attribute [local go_sem] Oper.semAt_some min_two
/-- The frames that are sent. -/
def F (n : Nat) : List (List Int) := (List.range n).map fun (j : Nat) => [((j : Nat) : Int)]
theorem F_len (n : Nat) : (F n).length = n := by simp [F]
theorem F_succ (n : Nat) : F (n + 1) = F n ++ [[(n : Int)]] := by simp [F, List.range_succ]
theorem F_drop (n k : Nat) (h : k < n) : (F n).drop k = [(k : Int)] :: (F n).drop (k + 1) := by
  rw [List.drop_eq_getElem_cons (by rw [F_len]; exact h)]
  simp [F]
theorem lit_reads0 (w : World) (x : Int) : ReadsInt (w.alloc (.cells #[.int .u8 x] 5)) .u8 (some ⟨w.heap.size, 0, none⟩) [x].length [x] :=
  ⟨rfl, by simp, fun _ => ⟨_, rfl, fun j hj => by
    obtain rfl : j = 0 := by simpa using hj
    rw [add_at]
    exact (blk_cell (blk_new w _) 0).trans rfl⟩⟩
theorem own_reads_at8 {w : World} {base n c : Nat} {e : TypeId} {A : Option Addr} {xs : List Int} (h : w.ownsRow base e 1 (.slice A n c) n (nums .u8 xs)) : ReadsInt w .u8 A n xs := by
  obtain ⟨A1, c1, e1, hr⟩ := own_reads h
  injection e1 with e1 e2 e3
  rw [e1]; exact hr
theorem num_quiet (w : World) (a : Int) : Calls Try.prog 10 #[.int .i64 a] w fun e w' => e = .returned (.int .i64 a) ∧ ∃ m, w' = w.drewN m := (num_calls w a).mono fun e w' ⟨h1, h2⟩ => ⟨h1, 0, by rw [← h2]; rfl⟩
theorem cs_drew {w : World} {base p m : Nat} {kv tv i0 out : Value} {os : List Value} {ods : List (List Int)} {sz : Nat} {ev now free : Int} (H : CS w base p kv tv i0 out os ods sz ev now free) : CS (w.drewN m) base p kv tv i0 out os ods sz ev now free := cs_move H (pw_below_drewN (Below.refl _ _) _)
theorem n20 (n : Int) (sz : Nat) (hn : -9223372036854775808 ≤ n ∧ n ≤ 9223372036854775807) : ∃ m : Nat, m < 20 ∧ m ≤ sz ∧ Builtin.min2 (.int .i64 ((wrap64 (n.tmod 20 + 20)).tmod 20)) (.int .i64 (sz : Int)) = pure (.int .i64 (m : Int)) := by
  have h1 := Int.tmod_lt_of_pos n (b := 20) (by omega)
  have h2 := Int.lt_tmod_of_pos n (b := 20) (by omega)
  rw [wrap_id (by omega) (by omega), min2_int, Int.tmod_eq_emod_of_nonneg (by omega)]
  refine ⟨(min ((n.tmod 20 + 20) % 20) (sz : Int)).toNat, by omega, by omega, ?_⟩
  congr 2
  omega
set_option maxHeartbeats 1000000 in
set_option maxRecDepth 100000 in
theorem spaced_calls (KA : Option Addr) (ks : List Int) (ck : Nat) (A : Option Addr) (c : Nat) (T : List Int) (sz ev n : Int) (A2 : Option Addr) (c2 : Nat) (ts : List Int) (w : World) (hK : ReadsInt w .u8 KA ks.length ks) (hkc : ks.length ≤ ck) (hkl : ks.length * 1 ≤ 140737488351232) (hT : ReadsInt w .i64 A T.length T) (hc : T.length ≤ c) (htl : T.length * 8 ≤ 140737488351232)
    (hn : -9223372036854775808 ≤ n ∧ n ≤ 9223372036854775807) (ht : ReadsInt w .i64 A2 ts.length ts) (hc2 : ts.length ≤ c2) (hts : ∀ i, i < ts.length → -9223372036854775808 ≤ ts.getD i 0 ∧ ts.getD i 0 ≤ 9223372036854775807) :
    Calls Try.prog 4 #[.agg #[.slice KA ks.length ck, .slice A T.length c, .int .i64 sz, .int .i64 ev], .int .i64 n, .slice A2 ts.length c2] w fun e w' => e = .returned (.bool true) ∧ Below w.heap.size w w' := by
  have HI := Aside0.mk (And.intro hK (And.intro hkc (And.intro hkl (And.intro hT (And.intro hc htl)))))
  have HT := Aside0.mk (And.intro ht hts)
  have hTL : ts.length ≤ 9223372036854775807 := ht.2.1
  clear hK hkc hkl hT hc htl ht hts
  have hB0 := Aside0.mk (below_alloc (Below.refl w.heap.size w) (.cells #[.slice KA ks.length ck, .slice A T.length c, .int .i64 sz, .int .i64 ev] 25))
  have hbn := Aside0.mk (blk_new w (.cells #[.slice KA ks.length ck, .slice A T.length c, .int .i64 sz, .int .i64 ev] 25))
  by_cases hcf : cf ks.length T sz ev = 0
  · have hsz : (1 ≤ sz ∧ sz ≤ 4096) ∧ 1 ≤ ev ∧ ev ≤ 1048576 := by
      unfold cf at hcf
      split at hcf
      · exact absurd hcf (by assumption)
      · split at hcf
        · cases hcf
        · omega
    obtain ⟨sz, rfl⟩ : ∃ s : Nat, sz = (s : Int) := ⟨sz.toNat, by omega⟩
    obtain ⟨m, hm20, hmsz, hmn⟩ := n20 n sz hn
    have HCF := Aside0.mk hcf
    clear hcf
    go_enter Try.func4, Try.ntmps4
    go_wp2_with (first
      | (go_at_call 10; refine (num_calls _ _).mono ?_; rintro x w9 ⟨rfl, rfl⟩)
      | (go_at_call 11; refine (alive_calls _).mono ?_; rintro x w1 ⟨rfl, hB⟩
         have hbb := (hB.block w.heap.size (by rw [World.size_alloc]; omega)).trans hbn.out
         have HA := Aside0.mk (And.intro (hB0.out.trans (hB.mono (by rw [World.size_alloc]; omega))) hbb)
         have l0 := (blk_cell hbb 0).trans rfl
         have l1 := (blk_cell hbb 1).trans rfl
         have l2 := (blk_cell hbb 2).trans rfl
         have l3 := (blk_cell hbb 3).trans rfl
         have hw1 := blk_lt hbb
         clear hB hbb)
      | (go_at_call 8; refine (of_calls KA ks ck A c T sz ev w1 (HI.out.1.below HA.out.1) HI.out.2.1 HI.out.2.2.1 (HI.out.2.2.2.1.below HA.out.1) HI.out.2.2.2.2.1 HI.out.2.2.2.2.2).mono ?_
         rintro x w2 ⟨k1, t1, c1, c3, rfl, hrr, hB⟩
         have HB := Aside0.mk (And.intro (HA.out.1.trans (hB.mono HA.out.1.size)) (And.intro hrr ((hB.block w.heap.size hw1).trans HA.out.2)))
         have hw2 := hB.size
         clear hB hrr l0 l1 l2 l3)
      | (go_at_call 12; refine (new_ok k1 ks c1 t1 c3 T sz ev w2 HB.out.2.1.1 HB.out.2.1.2.1 (by have := HI.out.2.2.1; omega) HB.out.2.1.2.2.1 HB.out.2.1.2.2.2 HI.out.2.2.2.2.2 HCF.out).mono ?_
         rintro x w3 ⟨p, k5, t5, c5, c6, rfl, hCS, _, _, _, hB⟩
         have hbb := (hB.block w.heap.size (by omega)).trans HB.out.2.2
         have HC := Aside0.mk (And.intro hCS (And.intro (HB.out.1.trans (hB.mono HB.out.1.size)) hbb))
         have l2 := (blk_cell hbb 2).trans rfl
         have hw3 := hB.size
         clear hB hCS hbb))
    obtain ⟨kv, hkv⟩ : ∃ kv : Value, kv = .slice k5 ks.length c5 := ⟨_, rfl⟩
    obtain ⟨tv, htv⟩ : ∃ tv : Value, tv = .slice t5 T.length c6 := ⟨_, rfl⟩
    rw [← hkv, ← htv] at HC
    clear hkv htv l2
    have hww : w.heap.size < w2.heap.size := by omega
    go_loopw [9] (fun a wr => ∃ (i : Nat) (o : Value) (os : List Value), a = .int .i64 (i : Int) ∧ i ≤ m ∧ CS wr w2.heap.size p kv tv (.slice none 0 0) o os (F i) sz ev 0 0 ∧ Below w2.heap.size w3 wr) (fun a _ => m + 1 - (intOf a).toNat)
    case atStart => exact ⟨0, _, [], rfl, by omega, HC.out.1, Below.refl _ _⟩
    case round =>
      obtain ⟨i, o, os, rfl, hi, hCS, hB⟩ := hrel
      have HR := Aside0.mk (And.intro hCS hB)
      clear hCS hB
      by_cases him : i < m
      · go_wp2_with (first
          | (go_at_call 10; refine (num_calls _ _).mono ?_; rintro x w9 ⟨rfl, rfl⟩)
          | (go_at_call 13
             have h := send_ok w2.heap.size p kv tv (.slice none 0 0) o os (F i) sz ev 0 0 (some ⟨wr.heap.size, 0, none⟩) 1 [(i : Int)] (by omega) (by rw [F_len]; omega) (by simp) (wr.alloc (.cells #[.int .u8 (i : Int)] 5)) (by have := HR.out.2.size; rw [World.size_alloc]; omega) (cs_move HR.out.1 (below_alloc (Below.refl wr.heap.size wr) _)) (lit_reads0 wr _) (by simp)
             rw [← F_succ] at h
             simp only [List.length_cons, List.length_nil, Nat.zero_add] at h
             refine h.mono ?_
             rintro x w6 ⟨rfl, ⟨o', os', hCS⟩, hB, _⟩
             have HV := Aside0.mk (And.intro hCS ((HR.out.2.trans ((below_alloc (Below.refl wr.heap.size wr) (.cells #[.int .u8 (i : Int)] 5)).mono (by have := HR.out.2.size; omega))).trans hB))
             clear h hCS hB))
        go_roundw
        case rel => exact ⟨i + 1, _, _, by go_num, by omega, HV.out.1, HV.out.2⟩
        case measure => simp [intOf]; omega
      · obtain rfl : i = m := by omega
        go_wp2
        go_loopw [10, 11, 12] (fun a b d wt => ∃ (k j : Nat) (la now free : Int) (o : Value) (os : List Value), a = .int .i64 (k : Int) ∧ b = .int .i64 la ∧ d = .int .i64 (j : Int) ∧ j ≤ ts.length ∧ k ≤ i ∧ CS wt w2.heap.size p kv tv (.slice none 0 0) o os ((F i).drop k) sz ev now free ∧ Below w2.heap.size w3 wt ∧ 0 ≤ now ∧ (k = 0 → free = 0) ∧ (0 < k → free = la + ev ∧ 0 ≤ la ∧ la ≤ 1099511627776)) (fun _ _ d _ => ts.length + 1 - (intOf d).toNat)
        case atStart => exact ⟨0, 0, 0, 0, 0, o, os, rfl, rfl, rfl, by omega, by omega, HR.out.1, HR.out.2, by omega, by omega, by omega⟩
        case round =>
          obtain ⟨k, j, la, now, free, o1, os1, rfl, rfl, rfl, hj, hk, hCS, hB, hnow, hf0, hf1⟩ := hrel
          have HS := Aside0.mk (And.intro hCS (And.intro hB (And.intro hf0 hf1)))
          clear hCS hB hf0 hf1
          by_cases hjl : j < ts.length
          · obtain ⟨ad2, rfl, htc⟩ := HT.out.1.2.2 (by omega)
            have htj := htc j hjl
            have htr := HT.out.2 j hjl
            clear htc
            generalize ts.getD j 0 = t at htj htr
            have had2 : ad2.block < w.heap.size := by have := World.block_lt_of_cell? w _ htj; rwa [add_block] at this
            have HTC := Aside0.mk htj
            have htw : wr.cell? (ad2.add j) = some (.int .i64 t) := ((HC.out.2.1.trans (HS.out.2.1.mono (Nat.le_of_lt hww))).cell (by rw [add_block]; exact had2)).trans htj
            clear htj
            by_cases hto : t < now ∨ t > 1099511627776
            · skip
              go_wp2_with (first
                | (go_at_call 14
                   refine (emit_order w2.heap.size p kv tv (.slice none 0 0) o1 os1 _ sz ev now free t (by omega) hto wr HS.out.1).mono ?_
                   rintro x w6 ⟨rfl, rfl⟩))
              go_roundw
              case rel => exact ⟨k, j + 1, la, now, free, o1, os1, rfl, rfl, by go_num, by omega, by omega, HS.out.1, HS.out.2.1, hnow, HS.out.2.2.1, HS.out.2.2.2⟩
              case measure => simp [intOf]; omega
            · have hto2 : now ≤ t ∧ t ≤ 1099511627776 := by omega
              clear hto
              by_cases hfr : t < free
              · skip
                go_wp2_with (first
                  | (go_at_call 14
                     refine (emit_wait w2.heap.size p kv tv (.slice none 0 0) o1 os1 _ sz ev now free t (by omega) hto2 hfr wr HS.out.1).mono ?_
                     rintro x w6 ⟨rfl, hCS, hB, _⟩
                     have HV := Aside0.mk (And.intro hCS (And.intro (HS.out.2.1.trans hB) HS.out.2.2))
                     clear hCS hB))
                go_roundw
                case rel => exact ⟨k, j + 1, la, t, free, o1, os1, rfl, rfl, by go_num, by omega, by omega, HV.out.1, HV.out.2.1, by omega, HV.out.2.2.1, HV.out.2.2.2⟩
                case measure => simp [intOf]; omega
              · by_cases hkm : k < i
                · skip
                  go_wp2_with (first
                    | (go_at_call 10; refine (num_calls _ _).mono ?_; rintro x w9 ⟨rfl, rfl⟩)
                    | (go_at_call 14
                       refine (emit_take w2.heap.size p kv tv (.slice none 0 0) o1 os1 [(k : Int)] ((F i).drop (k + 1)) sz ev now free t (by omega) (by omega) hnow hto2 (by omega) wr (by have h := HS.out.1; rwa [F_drop i k hkm] at h)).mono ?_
                       rintro x w6 ⟨⟨Af, cf', rfl, hown⟩, ⟨o2, os2, hCS⟩, hB, _⟩
                       obtain ⟨adf, rfl, hcf⟩ := (own_reads_at8 hown).2.2 (by simp)
                       have hcf0 := hcf 0 (by simp)
                       have hcf1 : w6.cell? adf = some (.int .u8 (k : Int)) := (congrArg w6.cell? (show adf.add 0 = adf by simp [Addr.add])).symm.trans (hcf0.trans rfl)
                       have hB3 := HS.out.2.1.trans hB
                       have hb3 := (hB3.block w.heap.size hww).trans HC.out.2.2
                       have e3 := (blk_cell hb3 3).trans rfl
                       have htc6 : w6.cell? (ad2.add j) = some (.int .i64 t) := ((HC.out.2.1.trans (hB3.mono (Nat.le_of_lt hww))).cell (by rw [add_block]; exact had2)).trans HTC.out
                       have HV := Aside0.mk (And.intro hCS (And.intro hB3 HS.out.2.2))
                       simp only [List.length_cons, List.length_nil, Nat.zero_add]
                       clear hCS hB hown hcf hcf0 hB3 hb3))
                  by_cases hk0 : 0 < k
                  · obtain ⟨hfe, hla0, hla1⟩ := HV.out.2.2.2 hk0
                    have htl : ¬ t - la < ev := by omega
                    clear hfe
                    go_quiet (exact Calls.quiet_of (num_quiet _ _))
                    go_wp2
                    go_quiet (fail)
                    go_wp2
                    go_roundw
                    case rel => exact ⟨k + 1, j + 1, t, t, t + ev, o2, os2, by go_num, rfl, by go_num, by omega, by omega, cs_drew HV.out.1, pw_below_drewN HV.out.2.1 _, by omega, by omega, by omega⟩
                    case measure => simp [intOf]; omega
                  · obtain rfl : k = 0 := by omega
                    go_quiet (exact Calls.quiet_of (num_quiet _ _))
                    go_wp2
                    go_quiet (fail)
                    go_wp2
                    go_roundw
                    case rel => exact ⟨0 + 1, j + 1, t, t, t + ev, o2, os2, by go_num, rfl, by go_num, by omega, by omega, cs_drew HV.out.1, pw_below_drewN HV.out.2.1 _, by omega, by omega, by omega⟩
                    case measure => simp [intOf]; omega
                · skip
                  go_wp2_with (first
                    | (go_at_call 14
                       refine (emit_none w2.heap.size p kv tv (.slice none 0 0) o1 os1 sz ev now free t (by omega) hto2 (by omega) wr (by have h := HS.out.1; rwa [List.drop_of_length_le (by rw [F_len]; omega)] at h)).mono ?_
                       rintro x w6 ⟨rfl, hCS, hB, _⟩
                       have HV := Aside0.mk (And.intro hCS (And.intro (HS.out.2.1.trans hB) HS.out.2.2))
                       clear hCS hB))
                  go_roundw
                  case rel => exact ⟨k, j + 1, la, t, free, o1, os1, rfl, rfl, by go_num, by omega, by omega, by have h := HV.out.1; rwa [← List.drop_of_length_le (l := F i) (i := k) (by rw [F_len]; omega)] at h, HV.out.2.1, by omega, HV.out.2.2.1, HV.out.2.2.2⟩
                  case measure => simp [intOf]; omega
          · have hol := fr_len HS.out.1.fo
            rw [List.length_drop, F_len] at hol
            obtain ⟨Ao, co, rfl, _⟩ := q_slice HS.out.1.ro
            have hw := wait_calls p kv tv (.slice none 0 0) Ao os1.length co sz ev now free (by omega) wr HS.out.1.blk
            rw [show ((os1.length : Nat) : Int) = (i : Int) - (k : Int) by omega] at hw
            have HW := Aside0.mk hw
            clear hw hol
            go_wp2_with (go_at_call 15; refine HW.out.mono ?_; rintro x w6 ⟨rfl, rfl⟩)
            go_ret
            exact ⟨rfl, HC.out.2.1.trans (HS.out.2.1.mono (Nat.le_of_lt hww))⟩
  · have HCF := Aside0.mk hcf
    have hcf' := hcf
    clear hcf
    go_enter Try.func4, Try.ntmps4
    go_wp2_with (first
      | (go_at_call 10; refine (num_calls _ _).mono ?_; rintro x w9 ⟨rfl, rfl⟩)
      | (go_at_call 11; refine (alive_calls _).mono ?_; rintro x w1 ⟨rfl, hB⟩
         have hbb := (hB.block w.heap.size (by rw [World.size_alloc]; omega)).trans hbn.out
         have HA := Aside0.mk (And.intro (hB0.out.trans (hB.mono (by rw [World.size_alloc]; omega))) hbb)
         have l0 := (blk_cell hbb 0).trans rfl
         have l1 := (blk_cell hbb 1).trans rfl
         have l2 := (blk_cell hbb 2).trans rfl
         have l3 := (blk_cell hbb 3).trans rfl
         have hw1 := blk_lt hbb
         clear hB hbb)
      | (go_at_call 8; refine (of_calls KA ks ck A c T sz ev w1 (HI.out.1.below HA.out.1) HI.out.2.1 HI.out.2.2.1 (HI.out.2.2.2.1.below HA.out.1) HI.out.2.2.2.2.1 HI.out.2.2.2.2.2).mono ?_
         rintro x w2 ⟨k1, t1, c1, c3, rfl, hrr, hB⟩
         have HB := Aside0.mk (And.intro (HA.out.1.trans (hB.mono HA.out.1.size)) hrr)
         clear hB hrr l0 l1 l2 l3)
      | (go_at_call 12; refine (new_no k1 ks.length c1 t1 c3 T sz ev w2 HB.out.2.2.2.1 HB.out.2.2.2.2 HCF.out).mono ?_
         rintro x w3 ⟨rfl, hB⟩
         have HC := Aside0.mk (HB.out.1.trans (hB.mono HB.out.1.size))
         clear hB))
    go_ret
    exact ⟨rfl, HC.out⟩
end Go.Proofs.Ytigmlklcbhlmpaa.Hand
