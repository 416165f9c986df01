/- The contracts of reno.Ack, Loss and Timeout: each hands a function literal to reno.step: by hand. -/
import Derived.Test.YtjhggbanonfbgaaPKx1
import Derived.Test.YtjhggbanonfbgaaUtil
import Derived.Shelf.Abstract
namespace Go.Proofs.Ytjhggbanonfbgaa.Hand
open Go.Shelf Go.RowKit Go.Proofs.YtjhggbanonfbgaaW.PrintWords Go.Proofs.YtjhggbanonfbgaaW.PrintLast Go.Proofs.YtjhggbanonfbgaaW.PrintMore Go.Proofs.Ytjhggbanonfbgaa.PK
attribute [local go_sem] max2_int min2_int max_two min_two max_three min_three max_four min_four
set_option linter.unusedVariables false
set_option linter.unusedSimpArgs false

abbrev st (c th ac : Int) : Value := .agg #[.int .i64 c, .int .i64 th, .int .i64 ac]
theorem capped_calls (x : Int) (w : World) : Calls Try.prog 22 #[.int .i64 x] w fun e w' => e = .returned (.int .i64 (mn x 1073741824)) ∧ w' = w := by
  obtain ⟨m, hm⟩ : ∃ m, (if 1073741824 < x then 1073741824 else x) = m := ⟨_, rfl⟩
  have E := Aside0.mk hm
  go_enter Try.func22, Try.ntmps22
  go_wp2
  go_ret
  exact ⟨by first | rfl | (unfold mn; rw [E.out]; rfl), rfl⟩
set_option maxHeartbeats 1600000 in
set_option maxRecDepth 100000 in
theorem step_err (c th ac m n e : Int) (f : Value) (w : World) (hc : reno_Check.f c th ac m = some e) (he : e ≠ 0) :
    Calls Try.prog 20 #[st c th ac, .int .i64 m, .int .i64 n, f] w fun ev w' => ev = .returned (.tuple #[st 0 0 0, .int .i64 e]) ∧ Below w.heap.size w w' := by
  have hk := fun w => reno_Check.calls c th ac m e w hc
  have HK := Aside0.mk hk
  clear hk hc
  have he1 : (e != 0) = true := bne_iff_ne.2 he
  go_enter Try.func20, Try.ntmps20
  go_wp2_with (go_at_call 17; refine (HK.out _).mono ?_; rintro ev w1 ⟨rfl, hb⟩; have hc0 := (hb.cell (p := ⟨w.heap.size + 1, 0, none⟩) (by simp)).trans (show _ = some (.int .i64 0) by go_simp); have hf0 := (hb.frozen (p := ⟨w.heap.size + 1, 0, none⟩) (by simp)).trans (show _ = false by go_simp); have hc1 := (hb.cell (p := ⟨w.heap.size + 1, 1, none⟩) (by simp)).trans (show _ = some (.int .i64 0) by go_simp); have hf1 := (hb.frozen (p := ⟨w.heap.size + 1, 1, none⟩) (by simp)).trans (show _ = false by go_simp); have hc2 := (hb.cell (p := ⟨w.heap.size + 1, 2, none⟩) (by simp)).trans (show _ = some (.int .i64 0) by go_simp); have hf2 := (hb.frozen (p := ⟨w.heap.size + 1, 2, none⟩) (by simp)).trans (show _ = false by go_simp); have HB := Aside0.mk hb; clear hb)
  have hW : Below w.heap.size w w1 := (((Below.refl _ w).alloc (Nat.le_refl _) _).alloc (by simp) _).trans (HB.out.mono (by simp; omega))
  have hz : w.heap.size + 1 < w1.heap.size := by have := HB.out.size; simp at this; omega
  refine bodyPost_ret (v := .tuple #[st 0 0 0, .int .i64 e]) (by simp [results, Try.results20, go_sem, hc0, hc1, hc2, hz]) rfl ⟨rfl, ?_⟩
  repeat (first | (with_reducible first | exact hW | apply below_alloc | apply pw_below_drewN | apply below_drew1 | refine below_set ?_ (Nat.le_succ _)) | exact hW)
set_option maxHeartbeats 1600000 in
set_option maxRecDepth 100000 in
theorem step_range (c th ac m n : Int) (f : Value) (w : World) (hc : reno_Check.f c th ac m = some 0) (hn : ¬ (0 ≤ n ∧ n ≤ 1073741824)) :
    Calls Try.prog 20 #[st c th ac, .int .i64 m, .int .i64 n, f] w fun ev w' => ev = .returned (.tuple #[st 0 0 0, .int .i64 4]) ∧ Below w.heap.size w w' := by
  have hk := fun w => reno_Check.calls c th ac m 0 w hc
  have HK := Aside0.mk hk
  clear hk hc
  have hcs : n < 0 ∨ (0 ≤ n ∧ 1073741824 < n) := by omega
  clear hn
  rcases hcs with g | ⟨g, g2⟩
  all_goals
    go_enter Try.func20, Try.ntmps20
    go_wp2_with (go_at_call 17; refine (HK.out _).mono ?_; rintro ev w1 ⟨rfl, hb⟩; have hc0 := (hb.cell (p := ⟨w.heap.size + 1, 0, none⟩) (by simp)).trans (show _ = some (.int .i64 0) by go_simp); have hf0 := (hb.frozen (p := ⟨w.heap.size + 1, 0, none⟩) (by simp)).trans (show _ = false by go_simp); have hc1 := (hb.cell (p := ⟨w.heap.size + 1, 1, none⟩) (by simp)).trans (show _ = some (.int .i64 0) by go_simp); have hf1 := (hb.frozen (p := ⟨w.heap.size + 1, 1, none⟩) (by simp)).trans (show _ = false by go_simp); have hc2 := (hb.cell (p := ⟨w.heap.size + 1, 2, none⟩) (by simp)).trans (show _ = some (.int .i64 0) by go_simp); have hf2 := (hb.frozen (p := ⟨w.heap.size + 1, 2, none⟩) (by simp)).trans (show _ = false by go_simp); have HB := Aside0.mk hb; clear hb)
    have hW : Below w.heap.size w w1 := (((Below.refl _ w).alloc (Nat.le_refl _) _).alloc (by simp) _).trans (HB.out.mono (by simp; omega))
    have hz : w.heap.size + 1 < w1.heap.size := by have := HB.out.size; simp at this; omega
    refine bodyPost_ret (v := .tuple #[st 0 0 0, .int .i64 4]) (by simp [results, Try.results20, go_sem, hc0, hc1, hc2, hz]) rfl ⟨rfl, ?_⟩
    repeat (first | (with_reducible first | exact hW | apply below_alloc | apply pw_below_drewN | apply below_drew1 | refine below_set ?_ (Nat.le_succ _)) | exact hW)
set_option maxHeartbeats 1600000 in
set_option maxRecDepth 100000 in
theorem step_ok (c th ac m n r0 r1 r2 : Int) (g : Nat) (lb : Array Value) (w : World) (hc : reno_Check.f c th ac m = some 0) (hn0 : 0 ≤ n) (hn1 : n ≤ 1073741824)
    (eg : ∀ args w, (callFunc g args).run Try.prog w = .ok (.enter g args) w)
    (hdo : ∀ W, Below w.heap.size w W → Calls Try.prog g (#[st c th ac] ++ lb) W fun e w' => e = .returned (st r0 r1 r2) ∧ Below W.heap.size W w') :
    Calls Try.prog 20 #[st c th ac, .int .i64 m, .int .i64 n, .func (.func g) #[] lb] w fun ev w' => ev = .returned (.tuple #[st r0 r1 r2, .int .i64 0]) ∧ Below w.heap.size w w' := by
  have hk := fun w => reno_Check.calls c th ac m 0 w hc
  have HK := Aside0.mk hk
  clear hk hc
  have HD := Aside0.mk hdo
  clear hdo
  go_enter Try.func20, Try.ntmps20
  go_wp2_with (first
    | (go_at_call 17; refine (HK.out _).mono ?_; rintro ev w1 ⟨rfl, hb⟩; have hc0 := (hb.cell (p := ⟨w.heap.size + 1, 0, none⟩) (by simp)).trans (show _ = some (.int .i64 0) by go_simp); have hf0 := (hb.frozen (p := ⟨w.heap.size + 1, 0, none⟩) (by simp)).trans (show _ = false by go_simp); have hc1 := (hb.cell (p := ⟨w.heap.size + 1, 1, none⟩) (by simp)).trans (show _ = some (.int .i64 0) by go_simp); have hf1 := (hb.frozen (p := ⟨w.heap.size + 1, 1, none⟩) (by simp)).trans (show _ = false by go_simp); have hc2 := (hb.cell (p := ⟨w.heap.size + 1, 2, none⟩) (by simp)).trans (show _ = some (.int .i64 0) by go_simp); have hf2 := (hb.frozen (p := ⟨w.heap.size + 1, 2, none⟩) (by simp)).trans (show _ = false by go_simp); have hs0 := (hb.cell (p := ⟨w.heap.size, 0, none⟩) (by simp; omega)).trans (show _ = some (.int .i64 c) by go_simp); have hs1 := (hb.cell (p := ⟨w.heap.size, 1, none⟩) (by simp; omega)).trans (show _ = some (.int .i64 th) by go_simp); have hs2 := (hb.cell (p := ⟨w.heap.size, 2, none⟩) (by simp; omega)).trans (show _ = some (.int .i64 ac) by go_simp); have hW : Below w.heap.size w w1 := (((Below.refl _ w).alloc (Nat.le_refl _) _).alloc (by simp) _).trans (hb.mono (by simp; omega)); have hz : w.heap.size + 1 < w1.heap.size := (by have := hb.size; simp at this; omega); have HB := Aside0.mk hb; have HW := Aside0.mk hW; clear hb hW)
    | (go_at_fn g; refine (HD.out _ HW.out).mono ?_; rintro ev w2 ⟨rfl, hd⟩; have kc0 := (hd.cell (p := ⟨w.heap.size + 1, 0, none⟩) (by simp [hz])).trans hc0; have kf0 := (hd.frozen (p := ⟨w.heap.size + 1, 0, none⟩) (by simp [hz])).trans hf0; have kc1 := (hd.cell (p := ⟨w.heap.size + 1, 1, none⟩) (by simp [hz])).trans hc1; have kf1 := (hd.frozen (p := ⟨w.heap.size + 1, 1, none⟩) (by simp [hz])).trans hf1; have kc2 := (hd.cell (p := ⟨w.heap.size + 1, 2, none⟩) (by simp [hz])).trans hc2; have kf2 := (hd.frozen (p := ⟨w.heap.size + 1, 2, none⟩) (by simp [hz])).trans hf2; have HE := Aside0.mk (HW.out.trans (hd.mono (by omega))); have hz2 : w.heap.size + 1 < w2.heap.size := Nat.lt_of_lt_of_le hz hd.size; clear hd))
  have hW := HE.out
  refine bodyPost_ret (v := .tuple #[st r0 r1 r2, .int .i64 0]) (by simp [results, Try.results20, go_sem, kc0, kc1, kc2, hz2]) rfl ⟨rfl, ?_⟩
  repeat (first | (with_reducible first | exact hW | apply below_alloc | apply pw_below_drewN | apply below_drew1 | refine below_set ?_ (Nat.le_succ _)) | exact hW)

def okS (c th ac m : Int) : Prop := (m ≤ c ∧ c ≤ 1073741824) ∧ (1 ≤ th ∧ th ≤ 1073741824) ∧ (0 ≤ ac ∧ ac ≤ 1073741824)
instance (c th ac m : Int) : Decidable (okS c th ac m) := by unfold okS; infer_instance
def checkF (c th ac m : Int) : Int := if 1 ≤ m ∧ m ≤ 65535 then (if okS c th ac m then 0 else 171) else 4
theorem check_eq (c th ac m : Int) : reno_Check.f c th ac m = some (checkF c th ac m) := by
  have h1 := Util.mx_or c th
  have h2 := Util.mx_or (mx c th) ac
  unfold reno_Check.f reno_size.f checkF
  by_cases hm : 1 ≤ m ∧ m ≤ 65535
  · rw [if_pos hm, if_neg (by omega), if_neg (by omega)]
    simp only [Option.bind_some]
    rw [if_pos trivial]
    by_cases ho : okS c th ac m
    · have ho' := ho
      unfold okS at ho'
      rw [if_pos ho, if_neg (by omega), if_neg (by omega), if_neg (by omega), if_neg (by omega)]
    · have ho' := ho
      unfold okS at ho'
      rw [if_neg ho]
      refine Util.ite_to (fun _ => rfl) fun q1 => Util.ite_to (fun _ => rfl) fun q2 => Util.ite_to (fun _ => rfl) fun q3 => Util.ite_to (fun _ => rfl) fun q4 => by omega
  · rw [if_neg hm]
    have e : (if m < 1 then some 4 else if m > 65535 then some 4 else some 0) = some (4 : Int) := by
      refine Util.ite_to (fun _ => rfl) fun q1 => Util.ite_to (fun _ => rfl) fun q2 => by omega
    rw [e]
    simp only [Option.bind_some]
    rw [if_neg (by decide)]
theorem check_zero {c th ac m : Int} : checkF c th ac m = 0 ↔ (1 ≤ m ∧ m ≤ 65535) ∧ okS c th ac m := by
  unfold checkF
  by_cases h : 1 ≤ m ∧ m ≤ 65535
  · rw [if_pos h]
    by_cases g : okS c th ac m
    · rw [if_pos g]; exact ⟨fun _ => ⟨h, g⟩, fun _ => rfl⟩
    · rw [if_neg g]; exact ⟨fun q => by omega, fun q => absurd q.2 g⟩
  · rw [if_neg h]; exact ⟨fun q => by omega, fun q => absurd q.1 h⟩
abbrev ptr (B : Nat) : Value := .pointer (some ⟨B, 0, none⟩)
set_option maxHeartbeats 1600000 in
set_option maxRecDepth 100000 in
theorem loss_lit (c th ac m n : Int) (B1 B2 : Nat) (W : World) (hB1 : B1 < W.heap.size) (hB2 : B2 < W.heap.size) (h1 : W.cell? ⟨B1, 0, none⟩ = some (.int .i64 n)) (h2 : W.cell? ⟨B2, 0, none⟩ = some (.int .i64 m)) (hm : 1 ≤ m ∧ m ≤ 65535) (hn0 : 0 ≤ n) (hn1 : n ≤ 1073741824) :
    Calls Try.prog 24 #[st c th ac, ptr B1, ptr B2] W fun e w' => e = .returned (st (mx (n / 2) (2 * m)) (mx (n / 2) (2 * m)) 0) ∧ Below W.heap.size W w' := by
  obtain ⟨hm0, hm1⟩ := hm
  obtain ⟨v, hv⟩ : ∃ v, (if n / 2 < 2 * m then 2 * m else n / 2) = v := ⟨_, rfl⟩
  have E : mx (n / 2) (2 * m) = v := hv
  have EH := Aside0.mk E
  clear E
  go_enter Try.func24, Try.ntmps24
  go_wp2
  refine bodyPost_ret (v := st v v 0) (by simp [results, Try.results24, go_sem]) rfl ⟨by rw [EH.out], ((Below.refl _ _).alloc (Nat.le_refl _) _).alloc (by simp) _⟩
set_option maxHeartbeats 1600000 in
set_option maxRecDepth 100000 in
theorem time_lit (c th ac m n : Int) (B1 B2 : Nat) (W : World) (hB1 : B1 < W.heap.size) (hB2 : B2 < W.heap.size) (h1 : W.cell? ⟨B1, 0, none⟩ = some (.int .i64 m)) (h2 : W.cell? ⟨B2, 0, none⟩ = some (.int .i64 n)) (hm : 1 ≤ m ∧ m ≤ 65535) (hn0 : 0 ≤ n) (hn1 : n ≤ 1073741824) :
    Calls Try.prog 25 #[st c th ac, ptr B1, ptr B2] W fun e w' => e = .returned (st m (mx (n / 2) (2 * m)) 0) ∧ Below W.heap.size W w' := by
  obtain ⟨hm0, hm1⟩ := hm
  obtain ⟨v, hv⟩ : ∃ v, (if n / 2 < 2 * m then 2 * m else n / 2) = v := ⟨_, rfl⟩
  have E : mx (n / 2) (2 * m) = v := hv
  have EH := Aside0.mk E
  clear E
  go_enter Try.func25, Try.ntmps25
  go_wp2
  refine bodyPost_ret (v := st m v 0) (by simp [results, Try.results25, go_sem]) rfl ⟨by rw [EH.out], ((Below.refl _ _).alloc (Nat.le_refl _) _).alloc (by simp) _⟩
set_option maxHeartbeats 1600000 in
set_option maxRecDepth 100000 in
theorem ack_slow (c th ac m n : Int) (B1 B2 : Nat) (W : World) (hB1 : B1 < W.heap.size) (hB2 : B2 < W.heap.size) (h1 : W.cell? ⟨B1, 0, none⟩ = some (.int .i64 n)) (h2 : W.cell? ⟨B2, 0, none⟩ = some (.int .i64 m)) (hm : 1 ≤ m ∧ m ≤ 65535) (hn0 : 0 ≤ n) (hn1 : n ≤ 1073741824) (ho : okS c th ac m) (hlt : c < th) :
    Calls Try.prog 21 #[st c th ac, ptr B1, ptr B2] W fun e w' => e = .returned (st (mn (c + mn n m) 1073741824) th ac) ∧ Below W.heap.size W w' := by
  obtain ⟨hm0, hm1⟩ := hm
  obtain ⟨⟨o1, o2⟩, ⟨o3, o4⟩, o5, o6⟩ := ho
  obtain ⟨v, hv⟩ : ∃ v, (if m < n then m else n) = v := ⟨_, rfl⟩
  have hvb : 0 ≤ v ∧ v ≤ 65535 := by rw [← hv]; split <;> omega
  obtain ⟨hv0, hv1⟩ := hvb
  have E : mn n m = v := hv
  rw [E]
  clear E
  generalize hx : mn (c + v) 1073741824 = x
  have hx' := Aside0.mk hx
  clear hx
  have hcapx : ∀ W, Calls Try.prog 22 #[.int .i64 (c + v)] W fun e w' => e = .returned (.int .i64 x) ∧ w' = W := fun W => by have q := capped_calls (c + v) W; rw [hx'.out] at q; exact q
  have HCx := Aside0.mk hcapx
  clear hcapx
  go_enter Try.func21, Try.ntmps21
  go_wp2_with (go_at_call 22; (refine (HCx.out _).mono ?_); rintro ev w1 ⟨rfl, rfl⟩)
  refine bodyPost_ret (v := st x th ac) (by simp [results, Try.results21, go_sem]) rfl ⟨rfl, ?_⟩
  repeat (first | (with_reducible first | exact Below.refl _ _ | apply below_alloc | apply pw_below_drewN | apply below_drew1 | refine below_set ?_ (by simp)) | exact Below.refl _ _ | (refine Below.setCell ?_ (by simp) _) | (refine Below.alloc ?_ (by simp) _))
set_option maxHeartbeats 1600000 in
set_option maxRecDepth 100000 in
theorem ack_full (c th ac m n : Int) (B1 B2 : Nat) (W : World) (hB1 : B1 < W.heap.size) (hB2 : B2 < W.heap.size) (h1 : W.cell? ⟨B1, 0, none⟩ = some (.int .i64 n)) (h2 : W.cell? ⟨B2, 0, none⟩ = some (.int .i64 m)) (hm : 1 ≤ m ∧ m ≤ 65535) (hn0 : 0 ≤ n) (hn1 : n ≤ 1073741824) (ho : okS c th ac m) (hlt : ¬ c < th) (hge : mn (ac + n) 1073741824 ≥ c) :
    Calls Try.prog 21 #[st c th ac, ptr B1, ptr B2] W fun e w' => e = .returned (st (mn (c + m) 1073741824) th (mn (ac + n) 1073741824 - c)) ∧ Below W.heap.size W w' := by
  obtain ⟨hm0, hm1⟩ := hm
  obtain ⟨⟨o1, o2⟩, ⟨o3, o4⟩, o5, o6⟩ := ho
  have hy1 := Util.mn_or (ac + n) 1073741824
  generalize hy : mn (ac + n) 1073741824 = y at *
  have hy0 : 0 ≤ y ∧ y ≤ 1073741824 := by omega
  obtain ⟨hya, hyb⟩ := hy0
  have hy' := Aside0.mk hy
  clear hy hy1
  generalize hx : mn (c + m) 1073741824 = x
  have hx' := Aside0.mk hx
  clear hx
  have hlt' : decide (c < th) = false := decide_eq_false hlt
  clear hlt
  have hge' : decide (c ≤ y) = true := decide_eq_true hge
  clear hge
  have hcapy : ∀ W, Calls Try.prog 22 #[.int .i64 (ac + n)] W fun e w' => e = .returned (.int .i64 y) ∧ w' = W := fun W => by have q := capped_calls (ac + n) W; rw [hy'.out] at q; exact q
  have HCy := Aside0.mk hcapy
  clear hcapy
  have hcapx : ∀ W, Calls Try.prog 22 #[.int .i64 (c + m)] W fun e w' => e = .returned (.int .i64 x) ∧ w' = W := fun W => by have q := capped_calls (c + m) W; rw [hx'.out] at q; exact q
  have HCx := Aside0.mk hcapx
  clear hcapx
  go_enter Try.func21, Try.ntmps21
  go_wp2_with (go_at_call 22; (first | refine (HCy.out _).mono ?_ | refine (HCx.out _).mono ?_); rintro ev w1 ⟨rfl, rfl⟩)
  refine bodyPost_ret (v := st x th (y - c)) (by simp [results, Try.results21, go_sem]) rfl ⟨rfl, ?_⟩
  repeat (first | (with_reducible first | exact Below.refl _ _ | apply below_alloc | apply pw_below_drewN | apply below_drew1 | refine below_set ?_ (by simp)) | exact Below.refl _ _ | (refine Below.setCell ?_ (by simp) _) | (refine Below.alloc ?_ (by simp) _))
set_option maxHeartbeats 1600000 in
set_option maxRecDepth 100000 in
theorem ack_part (c th ac m n : Int) (B1 B2 : Nat) (W : World) (hB1 : B1 < W.heap.size) (hB2 : B2 < W.heap.size) (h1 : W.cell? ⟨B1, 0, none⟩ = some (.int .i64 n)) (h2 : W.cell? ⟨B2, 0, none⟩ = some (.int .i64 m)) (hm : 1 ≤ m ∧ m ≤ 65535) (hn0 : 0 ≤ n) (hn1 : n ≤ 1073741824) (ho : okS c th ac m) (hlt : ¬ c < th) (hge : ¬ mn (ac + n) 1073741824 ≥ c) :
    Calls Try.prog 21 #[st c th ac, ptr B1, ptr B2] W fun e w' => e = .returned (st c th (mn (ac + n) 1073741824)) ∧ Below W.heap.size W w' := by
  obtain ⟨hm0, hm1⟩ := hm
  obtain ⟨⟨o1, o2⟩, ⟨o3, o4⟩, o5, o6⟩ := ho
  have hy1 := Util.mn_or (ac + n) 1073741824
  generalize hy : mn (ac + n) 1073741824 = y at *
  have hy0 : 0 ≤ y ∧ y ≤ 1073741824 := by omega
  obtain ⟨hya, hyb⟩ := hy0
  have hy' := Aside0.mk hy
  clear hy hy1
  generalize hx : mn (c + m) 1073741824 = x
  have hx' := Aside0.mk hx
  clear hx
  have hlt' : decide (c < th) = false := decide_eq_false hlt
  clear hlt
  have hge' : decide (c ≤ y) = false := decide_eq_false hge
  clear hge
  have hcapy : ∀ W, Calls Try.prog 22 #[.int .i64 (ac + n)] W fun e w' => e = .returned (.int .i64 y) ∧ w' = W := fun W => by have q := capped_calls (ac + n) W; rw [hy'.out] at q; exact q
  have HCy := Aside0.mk hcapy
  clear hcapy
  have hcapx : ∀ W, Calls Try.prog 22 #[.int .i64 (c + m)] W fun e w' => e = .returned (.int .i64 x) ∧ w' = W := fun W => by have q := capped_calls (c + m) W; rw [hx'.out] at q; exact q
  have HCx := Aside0.mk hcapx
  clear hcapx
  go_enter Try.func21, Try.ntmps21
  go_wp2_with (go_at_call 22; (first | refine (HCy.out _).mono ?_ | refine (HCx.out _).mono ?_); rintro ev w1 ⟨rfl, rfl⟩)
  refine bodyPost_ret (v := st c th y) (by simp [results, Try.results21, go_sem]) rfl ⟨rfl, ?_⟩
  repeat (first | (with_reducible first | exact Below.refl _ _ | apply below_alloc | apply pw_below_drewN | apply below_drew1 | refine below_set ?_ (by simp)) | exact Below.refl _ _ | (refine Below.setCell ?_ (by simp) _) | (refine Below.alloc ?_ (by simp) _))
def ackS (c th ac m n : Int) : Int × Int × Int :=
  if c < th then (mn (c + mn n m) 1073741824, th, ac) else if mn (ac + n) 1073741824 ≥ c then (mn (c + m) 1073741824, th, mn (ac + n) 1073741824 - c) else (c, th, mn (ac + n) 1073741824)
def lossS (m n : Int) : Int × Int × Int := (mx (n / 2) (2 * m), mx (n / 2) (2 * m), 0)
def timeS (m n : Int) : Int × Int × Int := (m, mx (n / 2) (2 * m), 0)
theorem ack_lit (c th ac m n : Int) (B1 B2 : Nat) (W : World) (hB1 : B1 < W.heap.size) (hB2 : B2 < W.heap.size) (h1 : W.cell? ⟨B1, 0, none⟩ = some (.int .i64 n)) (h2 : W.cell? ⟨B2, 0, none⟩ = some (.int .i64 m)) (hm : 1 ≤ m ∧ m ≤ 65535) (hn0 : 0 ≤ n) (hn1 : n ≤ 1073741824) (ho : okS c th ac m) :
    Calls Try.prog 21 #[st c th ac, ptr B1, ptr B2] W fun e w' => e = .returned (st (ackS c th ac m n).1 (ackS c th ac m n).2.1 (ackS c th ac m n).2.2) ∧ Below W.heap.size W w' := by
  unfold ackS
  by_cases h : c < th
  · rw [if_pos h]; exact ack_slow c th ac m n B1 B2 W hB1 hB2 h1 h2 hm hn0 hn1 ho h
  · rw [if_neg h]
    by_cases g : mn (ac + n) 1073741824 ≥ c
    · rw [if_pos g]; exact ack_full c th ac m n B1 B2 W hB1 hB2 h1 h2 hm hn0 hn1 ho h g
    · rw [if_neg g]; exact ack_part c th ac m n B1 B2 W hB1 hB2 h1 h2 hm hn0 hn1 ho h g
def inN (n : Int) : Prop := 0 ≤ n ∧ n ≤ 1073741824
instance (n : Int) : Decidable (inN n) := by unfold inN; infer_instance
def stepF (c th ac m n : Int) (s : Int × Int × Int) : Option (Int × Int × Int × Int) :=
  if checkF c th ac m = 0 then (if inN n then some (s.1, s.2.1, s.2.2, 0) else some (0, 0, 0, 4)) else some (0, 0, 0, checkF c th ac m)
set_option maxHeartbeats 1600000 in
set_option maxRecDepth 100000 in
theorem ack_err (c th ac m n : Int) (e : Int) (hc : reno_Check.f c th ac m = some e) (he : e ≠ 0) (w : World) :
    Calls Try.prog 8 #[st c th ac, .int .i64 m, .int .i64 n] w fun ev w' => ev = .returned (.tuple #[st 0 0 0, .int .i64 e]) ∧ Below w.heap.size w w' := by
  have hk := fun f w => step_err c th ac m n e f w hc he
  have HK := Aside0.mk hk
  clear hk hc he
  go_enter Try.func8, Try.ntmps8
  go_wp2_with (go_at_call 20; refine (HK.out _ _).mono ?_; rintro ev w1 ⟨rfl, hb⟩; have hc0 := (hb.cell (p := ⟨w.heap.size + 1 + 1 + 1, 0, none⟩) (by simp)).trans (show _ = some (.int .i64 0) by go_simp); have hf0 := (hb.frozen (p := ⟨w.heap.size + 1 + 1 + 1, 0, none⟩) (by simp)).trans (show _ = false by go_simp); have hc1 := (hb.cell (p := ⟨w.heap.size + 1 + 1 + 1, 1, none⟩) (by simp)).trans (show _ = some (.int .i64 0) by go_simp); have hf1 := (hb.frozen (p := ⟨w.heap.size + 1 + 1 + 1, 1, none⟩) (by simp)).trans (show _ = false by go_simp); have hc2 := (hb.cell (p := ⟨w.heap.size + 1 + 1 + 1, 2, none⟩) (by simp)).trans (show _ = some (.int .i64 0) by go_simp); have hf2 := (hb.frozen (p := ⟨w.heap.size + 1 + 1 + 1, 2, none⟩) (by simp)).trans (show _ = false by go_simp); have HB := Aside0.mk hb; clear hb)
  have hW : Below w.heap.size w w1 := ((((Below.refl _ w).alloc (Nat.le_refl _) _).alloc (by simp) _).alloc (by simp; omega) _ |>.alloc (by simp; omega) _).trans (HB.out.mono (by simp; omega))
  have hz : w.heap.size + 3 < w1.heap.size := by have := HB.out.size; simp at this; omega
  refine bodyPost_ret (v := .tuple #[st 0 0 0, .int .i64 e]) (by simp [results, Try.results8, go_sem, hc0, hc1, hc2, hz]) rfl ⟨rfl, ?_⟩
  repeat (first | (with_reducible first | exact hW | apply below_alloc | apply pw_below_drewN | apply below_drew1 | refine below_set ?_ (by omega)) | exact hW)
set_option maxHeartbeats 1600000 in
set_option maxRecDepth 100000 in
theorem ack_range (c th ac m n : Int) (hc : reno_Check.f c th ac m = some 0) (hn : ¬ (0 ≤ n ∧ n ≤ 1073741824)) (w : World) :
    Calls Try.prog 8 #[st c th ac, .int .i64 m, .int .i64 n] w fun ev w' => ev = .returned (.tuple #[st 0 0 0, .int .i64 4]) ∧ Below w.heap.size w w' := by
  have hk := fun f w => step_range c th ac m n f w hc hn
  have HK := Aside0.mk hk
  clear hk hc hn
  go_enter Try.func8, Try.ntmps8
  go_wp2_with (go_at_call 20; refine (HK.out _ _).mono ?_; rintro ev w1 ⟨rfl, hb⟩; have hc0 := (hb.cell (p := ⟨w.heap.size + 1 + 1 + 1, 0, none⟩) (by simp)).trans (show _ = some (.int .i64 0) by go_simp); have hf0 := (hb.frozen (p := ⟨w.heap.size + 1 + 1 + 1, 0, none⟩) (by simp)).trans (show _ = false by go_simp); have hc1 := (hb.cell (p := ⟨w.heap.size + 1 + 1 + 1, 1, none⟩) (by simp)).trans (show _ = some (.int .i64 0) by go_simp); have hf1 := (hb.frozen (p := ⟨w.heap.size + 1 + 1 + 1, 1, none⟩) (by simp)).trans (show _ = false by go_simp); have hc2 := (hb.cell (p := ⟨w.heap.size + 1 + 1 + 1, 2, none⟩) (by simp)).trans (show _ = some (.int .i64 0) by go_simp); have hf2 := (hb.frozen (p := ⟨w.heap.size + 1 + 1 + 1, 2, none⟩) (by simp)).trans (show _ = false by go_simp); have HB := Aside0.mk hb; clear hb)
  have hW : Below w.heap.size w w1 := ((((Below.refl _ w).alloc (Nat.le_refl _) _).alloc (by simp) _).alloc (by simp; omega) _ |>.alloc (by simp; omega) _).trans (HB.out.mono (by simp; omega))
  have hz : w.heap.size + 3 < w1.heap.size := by have := HB.out.size; simp at this; omega
  refine bodyPost_ret (v := .tuple #[st 0 0 0, .int .i64 4]) (by simp [results, Try.results8, go_sem, hc0, hc1, hc2, hz]) rfl ⟨rfl, ?_⟩
  repeat (first | (with_reducible first | exact hW | apply below_alloc | apply pw_below_drewN | apply below_drew1 | refine below_set ?_ (by omega)) | exact hW)
set_option maxHeartbeats 1600000 in
set_option maxRecDepth 100000 in
theorem ack_ok (c th ac m n : Int) (hc : reno_Check.f c th ac m = some 0) (hm : 1 ≤ m ∧ m ≤ 65535) (ho : okS c th ac m) (hn0 : 0 ≤ n) (hn1 : n ≤ 1073741824) (r0 r1 r2 : Int) (hs : ackS c th ac m n = (r0, r1, r2)) (w : World) :
    Calls Try.prog 8 #[st c th ac, .int .i64 m, .int .i64 n] w fun ev w' => ev = .returned (.tuple #[st r0 r1 r2, .int .i64 0]) ∧ Below w.heap.size w w' := by
  have eg : ∀ args w, (callFunc 21 args).run Try.prog w = .ok (.enter 21 args) w := enters_of Try.func21 (by kernel_rfl) rfl
  have hk := fun B1 B2 W hB1 hB2 h1 h2 => step_ok c th ac m n r0 r1 r2 21 #[ptr B1, ptr B2] W hc hn0 hn1 eg (fun V hV => by
    have q := ack_lit c th ac m n B1 B2 V (Nat.lt_of_lt_of_le hB1 hV.size) (Nat.lt_of_lt_of_le hB2 hV.size) ((hV.cell (p := ⟨B1, 0, none⟩) hB1).trans h1) ((hV.cell (p := ⟨B2, 0, none⟩) hB2).trans h2) hm hn0 hn1 ho
    have e0 : (ackS c th ac m n).1 = r0 := by rw [hs]
    have e1 : (ackS c th ac m n).2.1 = r1 := by rw [hs]
    have e2 : (ackS c th ac m n).2.2 = r2 := by rw [hs]
    rw [← e0, ← e1, ← e2]
    exact q)
  have HK := Aside0.mk hk
  clear hk eg hs hc
  go_enter Try.func8, Try.ntmps8
  go_wp2_with (go_at_call 20; refine (HK.out (w.heap.size + 1 + 1) (w.heap.size + 1) _ (by first | (simp; done) | (simp; omega)) (by first | (simp; done) | (simp; omega)) (by go_simp) (by go_simp)).mono ?_; rintro ev w1 ⟨rfl, hb⟩; have hc0 := (hb.cell (p := ⟨w.heap.size + 1 + 1 + 1, 0, none⟩) (by simp)).trans (show _ = some (.int .i64 0) by go_simp); have hf0 := (hb.frozen (p := ⟨w.heap.size + 1 + 1 + 1, 0, none⟩) (by simp)).trans (show _ = false by go_simp); have hc1 := (hb.cell (p := ⟨w.heap.size + 1 + 1 + 1, 1, none⟩) (by simp)).trans (show _ = some (.int .i64 0) by go_simp); have hf1 := (hb.frozen (p := ⟨w.heap.size + 1 + 1 + 1, 1, none⟩) (by simp)).trans (show _ = false by go_simp); have hc2 := (hb.cell (p := ⟨w.heap.size + 1 + 1 + 1, 2, none⟩) (by simp)).trans (show _ = some (.int .i64 0) by go_simp); have hf2 := (hb.frozen (p := ⟨w.heap.size + 1 + 1 + 1, 2, none⟩) (by simp)).trans (show _ = false by go_simp); have HB := Aside0.mk hb; clear hb)
  have hW : Below w.heap.size w w1 := ((((Below.refl _ w).alloc (Nat.le_refl _) _).alloc (by simp) _).alloc (by simp; omega) _ |>.alloc (by simp; omega) _).trans (HB.out.mono (by simp; omega))
  have hz : w.heap.size + 3 < w1.heap.size := by have := HB.out.size; simp at this; omega
  refine bodyPost_ret (v := .tuple #[st r0 r1 r2, .int .i64 0]) (by simp [results, Try.results8, go_sem, hc0, hc1, hc2, hz]) rfl ⟨rfl, ?_⟩
  repeat (first | (with_reducible first | exact hW | apply below_alloc | apply pw_below_drewN | apply below_drew1 | refine below_set ?_ (by omega)) | exact hW)
theorem ack_calls (c th ac m n r0 r1 r2 e : Int) (w : World) (h : stepF c th ac m n (ackS c th ac m n) = some (r0, r1, r2, e)) :
    Calls Try.prog 8 #[st c th ac, .int .i64 m, .int .i64 n] w fun ev w' => ev = .returned (.tuple #[st r0 r1 r2, .int .i64 e]) ∧ Below w.heap.size w w' := by
  unfold stepF at h
  by_cases hc : checkF c th ac m = 0
  · rw [if_pos hc] at h
    obtain ⟨hm, ho⟩ := check_zero.1 hc
    have hk := check_eq c th ac m
    rw [hc] at hk
    by_cases hn : inN n
    · rw [if_pos hn] at h
      simp only [Option.some.injEq, Prod.mk.injEq] at h
      obtain ⟨rfl, rfl, rfl, rfl⟩ := h
      exact ack_ok c th ac m n hk hm ho hn.1 hn.2 _ _ _ rfl w
    · rw [if_neg hn] at h
      simp only [Option.some.injEq, Prod.mk.injEq] at h
      obtain ⟨rfl, rfl, rfl, rfl⟩ := h
      exact ack_range c th ac m n hk hn w
  · rw [if_neg hc] at h
    simp only [Option.some.injEq, Prod.mk.injEq] at h
    obtain ⟨rfl, rfl, rfl, rfl⟩ := h
    exact ack_err c th ac m n _ (check_eq c th ac m) hc w
set_option maxHeartbeats 1600000 in
set_option maxRecDepth 100000 in
theorem loss_err (c th ac m n : Int) (e : Int) (hc : reno_Check.f c th ac m = some e) (he : e ≠ 0) (w : World) :
    Calls Try.prog 11 #[st c th ac, .int .i64 m, .int .i64 n] w fun ev w' => ev = .returned (.tuple #[st 0 0 0, .int .i64 e]) ∧ Below w.heap.size w w' := by
  have hk := fun f w => step_err c th ac m n e f w hc he
  have HK := Aside0.mk hk
  clear hk hc he
  go_enter Try.func11, Try.ntmps11
  go_wp2_with (go_at_call 20; refine (HK.out _ _).mono ?_; rintro ev w1 ⟨rfl, hb⟩; have hc0 := (hb.cell (p := ⟨w.heap.size + 1 + 1 + 1, 0, none⟩) (by simp)).trans (show _ = some (.int .i64 0) by go_simp); have hf0 := (hb.frozen (p := ⟨w.heap.size + 1 + 1 + 1, 0, none⟩) (by simp)).trans (show _ = false by go_simp); have hc1 := (hb.cell (p := ⟨w.heap.size + 1 + 1 + 1, 1, none⟩) (by simp)).trans (show _ = some (.int .i64 0) by go_simp); have hf1 := (hb.frozen (p := ⟨w.heap.size + 1 + 1 + 1, 1, none⟩) (by simp)).trans (show _ = false by go_simp); have hc2 := (hb.cell (p := ⟨w.heap.size + 1 + 1 + 1, 2, none⟩) (by simp)).trans (show _ = some (.int .i64 0) by go_simp); have hf2 := (hb.frozen (p := ⟨w.heap.size + 1 + 1 + 1, 2, none⟩) (by simp)).trans (show _ = false by go_simp); have HB := Aside0.mk hb; clear hb)
  have hW : Below w.heap.size w w1 := ((((Below.refl _ w).alloc (Nat.le_refl _) _).alloc (by simp) _).alloc (by simp; omega) _ |>.alloc (by simp; omega) _).trans (HB.out.mono (by simp; omega))
  have hz : w.heap.size + 3 < w1.heap.size := by have := HB.out.size; simp at this; omega
  refine bodyPost_ret (v := .tuple #[st 0 0 0, .int .i64 e]) (by simp [results, Try.results11, go_sem, hc0, hc1, hc2, hz]) rfl ⟨rfl, ?_⟩
  repeat (first | (with_reducible first | exact hW | apply below_alloc | apply pw_below_drewN | apply below_drew1 | refine below_set ?_ (by omega)) | exact hW)
set_option maxHeartbeats 1600000 in
set_option maxRecDepth 100000 in
theorem loss_range (c th ac m n : Int) (hc : reno_Check.f c th ac m = some 0) (hn : ¬ (0 ≤ n ∧ n ≤ 1073741824)) (w : World) :
    Calls Try.prog 11 #[st c th ac, .int .i64 m, .int .i64 n] w fun ev w' => ev = .returned (.tuple #[st 0 0 0, .int .i64 4]) ∧ Below w.heap.size w w' := by
  have hk := fun f w => step_range c th ac m n f w hc hn
  have HK := Aside0.mk hk
  clear hk hc hn
  go_enter Try.func11, Try.ntmps11
  go_wp2_with (go_at_call 20; refine (HK.out _ _).mono ?_; rintro ev w1 ⟨rfl, hb⟩; have hc0 := (hb.cell (p := ⟨w.heap.size + 1 + 1 + 1, 0, none⟩) (by simp)).trans (show _ = some (.int .i64 0) by go_simp); have hf0 := (hb.frozen (p := ⟨w.heap.size + 1 + 1 + 1, 0, none⟩) (by simp)).trans (show _ = false by go_simp); have hc1 := (hb.cell (p := ⟨w.heap.size + 1 + 1 + 1, 1, none⟩) (by simp)).trans (show _ = some (.int .i64 0) by go_simp); have hf1 := (hb.frozen (p := ⟨w.heap.size + 1 + 1 + 1, 1, none⟩) (by simp)).trans (show _ = false by go_simp); have hc2 := (hb.cell (p := ⟨w.heap.size + 1 + 1 + 1, 2, none⟩) (by simp)).trans (show _ = some (.int .i64 0) by go_simp); have hf2 := (hb.frozen (p := ⟨w.heap.size + 1 + 1 + 1, 2, none⟩) (by simp)).trans (show _ = false by go_simp); have HB := Aside0.mk hb; clear hb)
  have hW : Below w.heap.size w w1 := ((((Below.refl _ w).alloc (Nat.le_refl _) _).alloc (by simp) _).alloc (by simp; omega) _ |>.alloc (by simp; omega) _).trans (HB.out.mono (by simp; omega))
  have hz : w.heap.size + 3 < w1.heap.size := by have := HB.out.size; simp at this; omega
  refine bodyPost_ret (v := .tuple #[st 0 0 0, .int .i64 4]) (by simp [results, Try.results11, go_sem, hc0, hc1, hc2, hz]) rfl ⟨rfl, ?_⟩
  repeat (first | (with_reducible first | exact hW | apply below_alloc | apply pw_below_drewN | apply below_drew1 | refine below_set ?_ (by omega)) | exact hW)
set_option maxHeartbeats 1600000 in
set_option maxRecDepth 100000 in
theorem loss_ok (c th ac m n : Int) (hc : reno_Check.f c th ac m = some 0) (hm : 1 ≤ m ∧ m ≤ 65535) (ho : okS c th ac m) (hn0 : 0 ≤ n) (hn1 : n ≤ 1073741824) (r0 r1 r2 : Int) (hs : lossS m n = (r0, r1, r2)) (w : World) :
    Calls Try.prog 11 #[st c th ac, .int .i64 m, .int .i64 n] w fun ev w' => ev = .returned (.tuple #[st r0 r1 r2, .int .i64 0]) ∧ Below w.heap.size w w' := by
  have eg : ∀ args w, (callFunc 24 args).run Try.prog w = .ok (.enter 24 args) w := enters_of Try.func24 (by kernel_rfl) rfl
  have hk := fun B1 B2 W hB1 hB2 h1 h2 => step_ok c th ac m n r0 r1 r2 24 #[ptr B1, ptr B2] W hc hn0 hn1 eg (fun V hV => by
    have q := loss_lit c th ac m n B1 B2 V (Nat.lt_of_lt_of_le hB1 hV.size) (Nat.lt_of_lt_of_le hB2 hV.size) ((hV.cell (p := ⟨B1, 0, none⟩) hB1).trans h1) ((hV.cell (p := ⟨B2, 0, none⟩) hB2).trans h2) hm hn0 hn1
    have e0 : (lossS m n).1 = r0 := by rw [hs]
    have e1 : (lossS m n).2.1 = r1 := by rw [hs]
    have e2 : (lossS m n).2.2 = r2 := by rw [hs]
    rw [← e0, ← e1, ← e2]
    exact q)
  have HK := Aside0.mk hk
  clear hk eg hs hc
  go_enter Try.func11, Try.ntmps11
  go_wp2_with (go_at_call 20; refine (HK.out (w.heap.size + 1 + 1) (w.heap.size + 1) _ (by first | (simp; done) | (simp; omega)) (by first | (simp; done) | (simp; omega)) (by go_simp) (by go_simp)).mono ?_; rintro ev w1 ⟨rfl, hb⟩; have hc0 := (hb.cell (p := ⟨w.heap.size + 1 + 1 + 1, 0, none⟩) (by simp)).trans (show _ = some (.int .i64 0) by go_simp); have hf0 := (hb.frozen (p := ⟨w.heap.size + 1 + 1 + 1, 0, none⟩) (by simp)).trans (show _ = false by go_simp); have hc1 := (hb.cell (p := ⟨w.heap.size + 1 + 1 + 1, 1, none⟩) (by simp)).trans (show _ = some (.int .i64 0) by go_simp); have hf1 := (hb.frozen (p := ⟨w.heap.size + 1 + 1 + 1, 1, none⟩) (by simp)).trans (show _ = false by go_simp); have hc2 := (hb.cell (p := ⟨w.heap.size + 1 + 1 + 1, 2, none⟩) (by simp)).trans (show _ = some (.int .i64 0) by go_simp); have hf2 := (hb.frozen (p := ⟨w.heap.size + 1 + 1 + 1, 2, none⟩) (by simp)).trans (show _ = false by go_simp); have HB := Aside0.mk hb; clear hb)
  have hW : Below w.heap.size w w1 := ((((Below.refl _ w).alloc (Nat.le_refl _) _).alloc (by simp) _).alloc (by simp; omega) _ |>.alloc (by simp; omega) _).trans (HB.out.mono (by simp; omega))
  have hz : w.heap.size + 3 < w1.heap.size := by have := HB.out.size; simp at this; omega
  refine bodyPost_ret (v := .tuple #[st r0 r1 r2, .int .i64 0]) (by simp [results, Try.results11, go_sem, hc0, hc1, hc2, hz]) rfl ⟨rfl, ?_⟩
  repeat (first | (with_reducible first | exact hW | apply below_alloc | apply pw_below_drewN | apply below_drew1 | refine below_set ?_ (by omega)) | exact hW)
theorem loss_calls (c th ac m n r0 r1 r2 e : Int) (w : World) (h : stepF c th ac m n (lossS m n) = some (r0, r1, r2, e)) :
    Calls Try.prog 11 #[st c th ac, .int .i64 m, .int .i64 n] w fun ev w' => ev = .returned (.tuple #[st r0 r1 r2, .int .i64 e]) ∧ Below w.heap.size w w' := by
  unfold stepF at h
  by_cases hc : checkF c th ac m = 0
  · rw [if_pos hc] at h
    obtain ⟨hm, ho⟩ := check_zero.1 hc
    have hk := check_eq c th ac m
    rw [hc] at hk
    by_cases hn : inN n
    · rw [if_pos hn] at h
      simp only [Option.some.injEq, Prod.mk.injEq] at h
      obtain ⟨rfl, rfl, rfl, rfl⟩ := h
      exact loss_ok c th ac m n hk hm ho hn.1 hn.2 _ _ _ rfl w
    · rw [if_neg hn] at h
      simp only [Option.some.injEq, Prod.mk.injEq] at h
      obtain ⟨rfl, rfl, rfl, rfl⟩ := h
      exact loss_range c th ac m n hk hn w
  · rw [if_neg hc] at h
    simp only [Option.some.injEq, Prod.mk.injEq] at h
    obtain ⟨rfl, rfl, rfl, rfl⟩ := h
    exact loss_err c th ac m n _ (check_eq c th ac m) hc w
set_option maxHeartbeats 1600000 in
set_option maxRecDepth 100000 in
theorem time_err (c th ac m n : Int) (e : Int) (hc : reno_Check.f c th ac m = some e) (he : e ≠ 0) (w : World) :
    Calls Try.prog 13 #[st c th ac, .int .i64 m, .int .i64 n] w fun ev w' => ev = .returned (.tuple #[st 0 0 0, .int .i64 e]) ∧ Below w.heap.size w w' := by
  have hk := fun f w => step_err c th ac m n e f w hc he
  have HK := Aside0.mk hk
  clear hk hc he
  go_enter Try.func13, Try.ntmps13
  go_wp2_with (go_at_call 20; refine (HK.out _ _).mono ?_; rintro ev w1 ⟨rfl, hb⟩; have hc0 := (hb.cell (p := ⟨w.heap.size + 1 + 1 + 1, 0, none⟩) (by simp)).trans (show _ = some (.int .i64 0) by go_simp); have hf0 := (hb.frozen (p := ⟨w.heap.size + 1 + 1 + 1, 0, none⟩) (by simp)).trans (show _ = false by go_simp); have hc1 := (hb.cell (p := ⟨w.heap.size + 1 + 1 + 1, 1, none⟩) (by simp)).trans (show _ = some (.int .i64 0) by go_simp); have hf1 := (hb.frozen (p := ⟨w.heap.size + 1 + 1 + 1, 1, none⟩) (by simp)).trans (show _ = false by go_simp); have hc2 := (hb.cell (p := ⟨w.heap.size + 1 + 1 + 1, 2, none⟩) (by simp)).trans (show _ = some (.int .i64 0) by go_simp); have hf2 := (hb.frozen (p := ⟨w.heap.size + 1 + 1 + 1, 2, none⟩) (by simp)).trans (show _ = false by go_simp); have HB := Aside0.mk hb; clear hb)
  have hW : Below w.heap.size w w1 := ((((Below.refl _ w).alloc (Nat.le_refl _) _).alloc (by simp) _).alloc (by simp; omega) _ |>.alloc (by simp; omega) _).trans (HB.out.mono (by simp; omega))
  have hz : w.heap.size + 3 < w1.heap.size := by have := HB.out.size; simp at this; omega
  refine bodyPost_ret (v := .tuple #[st 0 0 0, .int .i64 e]) (by simp [results, Try.results13, go_sem, hc0, hc1, hc2, hz]) rfl ⟨rfl, ?_⟩
  repeat (first | (with_reducible first | exact hW | apply below_alloc | apply pw_below_drewN | apply below_drew1 | refine below_set ?_ (by omega)) | exact hW)
set_option maxHeartbeats 1600000 in
set_option maxRecDepth 100000 in
theorem time_range (c th ac m n : Int) (hc : reno_Check.f c th ac m = some 0) (hn : ¬ (0 ≤ n ∧ n ≤ 1073741824)) (w : World) :
    Calls Try.prog 13 #[st c th ac, .int .i64 m, .int .i64 n] w fun ev w' => ev = .returned (.tuple #[st 0 0 0, .int .i64 4]) ∧ Below w.heap.size w w' := by
  have hk := fun f w => step_range c th ac m n f w hc hn
  have HK := Aside0.mk hk
  clear hk hc hn
  go_enter Try.func13, Try.ntmps13
  go_wp2_with (go_at_call 20; refine (HK.out _ _).mono ?_; rintro ev w1 ⟨rfl, hb⟩; have hc0 := (hb.cell (p := ⟨w.heap.size + 1 + 1 + 1, 0, none⟩) (by simp)).trans (show _ = some (.int .i64 0) by go_simp); have hf0 := (hb.frozen (p := ⟨w.heap.size + 1 + 1 + 1, 0, none⟩) (by simp)).trans (show _ = false by go_simp); have hc1 := (hb.cell (p := ⟨w.heap.size + 1 + 1 + 1, 1, none⟩) (by simp)).trans (show _ = some (.int .i64 0) by go_simp); have hf1 := (hb.frozen (p := ⟨w.heap.size + 1 + 1 + 1, 1, none⟩) (by simp)).trans (show _ = false by go_simp); have hc2 := (hb.cell (p := ⟨w.heap.size + 1 + 1 + 1, 2, none⟩) (by simp)).trans (show _ = some (.int .i64 0) by go_simp); have hf2 := (hb.frozen (p := ⟨w.heap.size + 1 + 1 + 1, 2, none⟩) (by simp)).trans (show _ = false by go_simp); have HB := Aside0.mk hb; clear hb)
  have hW : Below w.heap.size w w1 := ((((Below.refl _ w).alloc (Nat.le_refl _) _).alloc (by simp) _).alloc (by simp; omega) _ |>.alloc (by simp; omega) _).trans (HB.out.mono (by simp; omega))
  have hz : w.heap.size + 3 < w1.heap.size := by have := HB.out.size; simp at this; omega
  refine bodyPost_ret (v := .tuple #[st 0 0 0, .int .i64 4]) (by simp [results, Try.results13, go_sem, hc0, hc1, hc2, hz]) rfl ⟨rfl, ?_⟩
  repeat (first | (with_reducible first | exact hW | apply below_alloc | apply pw_below_drewN | apply below_drew1 | refine below_set ?_ (by omega)) | exact hW)
set_option maxHeartbeats 1600000 in
set_option maxRecDepth 100000 in
theorem time_ok (c th ac m n : Int) (hc : reno_Check.f c th ac m = some 0) (hm : 1 ≤ m ∧ m ≤ 65535) (ho : okS c th ac m) (hn0 : 0 ≤ n) (hn1 : n ≤ 1073741824) (r0 r1 r2 : Int) (hs : timeS m n = (r0, r1, r2)) (w : World) :
    Calls Try.prog 13 #[st c th ac, .int .i64 m, .int .i64 n] w fun ev w' => ev = .returned (.tuple #[st r0 r1 r2, .int .i64 0]) ∧ Below w.heap.size w w' := by
  have eg : ∀ args w, (callFunc 25 args).run Try.prog w = .ok (.enter 25 args) w := enters_of Try.func25 (by kernel_rfl) rfl
  have hk := fun B1 B2 W hB1 hB2 h1 h2 => step_ok c th ac m n r0 r1 r2 25 #[ptr B1, ptr B2] W hc hn0 hn1 eg (fun V hV => by
    have q := time_lit c th ac m n B1 B2 V (Nat.lt_of_lt_of_le hB1 hV.size) (Nat.lt_of_lt_of_le hB2 hV.size) ((hV.cell (p := ⟨B1, 0, none⟩) hB1).trans h1) ((hV.cell (p := ⟨B2, 0, none⟩) hB2).trans h2) hm hn0 hn1
    have e0 : (timeS m n).1 = r0 := by rw [hs]
    have e1 : (timeS m n).2.1 = r1 := by rw [hs]
    have e2 : (timeS m n).2.2 = r2 := by rw [hs]
    rw [← e0, ← e1, ← e2]
    exact q)
  have HK := Aside0.mk hk
  clear hk eg hs hc
  go_enter Try.func13, Try.ntmps13
  go_wp2_with (go_at_call 20; refine (HK.out (w.heap.size + 1) (w.heap.size + 1 + 1) _ (by first | (simp; done) | (simp; omega)) (by first | (simp; done) | (simp; omega)) (by go_simp) (by go_simp)).mono ?_; rintro ev w1 ⟨rfl, hb⟩; have hc0 := (hb.cell (p := ⟨w.heap.size + 1 + 1 + 1, 0, none⟩) (by simp)).trans (show _ = some (.int .i64 0) by go_simp); have hf0 := (hb.frozen (p := ⟨w.heap.size + 1 + 1 + 1, 0, none⟩) (by simp)).trans (show _ = false by go_simp); have hc1 := (hb.cell (p := ⟨w.heap.size + 1 + 1 + 1, 1, none⟩) (by simp)).trans (show _ = some (.int .i64 0) by go_simp); have hf1 := (hb.frozen (p := ⟨w.heap.size + 1 + 1 + 1, 1, none⟩) (by simp)).trans (show _ = false by go_simp); have hc2 := (hb.cell (p := ⟨w.heap.size + 1 + 1 + 1, 2, none⟩) (by simp)).trans (show _ = some (.int .i64 0) by go_simp); have hf2 := (hb.frozen (p := ⟨w.heap.size + 1 + 1 + 1, 2, none⟩) (by simp)).trans (show _ = false by go_simp); have HB := Aside0.mk hb; clear hb)
  have hW : Below w.heap.size w w1 := ((((Below.refl _ w).alloc (Nat.le_refl _) _).alloc (by simp) _).alloc (by simp; omega) _ |>.alloc (by simp; omega) _).trans (HB.out.mono (by simp; omega))
  have hz : w.heap.size + 3 < w1.heap.size := by have := HB.out.size; simp at this; omega
  refine bodyPost_ret (v := .tuple #[st r0 r1 r2, .int .i64 0]) (by simp [results, Try.results13, go_sem, hc0, hc1, hc2, hz]) rfl ⟨rfl, ?_⟩
  repeat (first | (with_reducible first | exact hW | apply below_alloc | apply pw_below_drewN | apply below_drew1 | refine below_set ?_ (by omega)) | exact hW)
theorem time_calls (c th ac m n r0 r1 r2 e : Int) (w : World) (h : stepF c th ac m n (timeS m n) = some (r0, r1, r2, e)) :
    Calls Try.prog 13 #[st c th ac, .int .i64 m, .int .i64 n] w fun ev w' => ev = .returned (.tuple #[st r0 r1 r2, .int .i64 e]) ∧ Below w.heap.size w w' := by
  unfold stepF at h
  by_cases hc : checkF c th ac m = 0
  · rw [if_pos hc] at h
    obtain ⟨hm, ho⟩ := check_zero.1 hc
    have hk := check_eq c th ac m
    rw [hc] at hk
    by_cases hn : inN n
    · rw [if_pos hn] at h
      simp only [Option.some.injEq, Prod.mk.injEq] at h
      obtain ⟨rfl, rfl, rfl, rfl⟩ := h
      exact time_ok c th ac m n hk hm ho hn.1 hn.2 _ _ _ rfl w
    · rw [if_neg hn] at h
      simp only [Option.some.injEq, Prod.mk.injEq] at h
      obtain ⟨rfl, rfl, rfl, rfl⟩ := h
      exact time_range c th ac m n hk hn w
  · rw [if_neg hc] at h
    simp only [Option.some.injEq, Prod.mk.injEq] at h
    obtain ⟨rfl, rfl, rfl, rfl⟩ := h
    exact time_err c th ac m n _ (check_eq c th ac m) hc w
end Go.Proofs.Ytjhggbanonfbgaa.Hand
