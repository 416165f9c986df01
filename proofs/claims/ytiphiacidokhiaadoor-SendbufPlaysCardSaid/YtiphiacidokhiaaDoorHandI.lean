/- Chapter 15: the page's buffer: what New, End, Slice, Ack and Write do to it. -/
import Derived.Test.YtiphiacidokhiaaDoorHandU
namespace Go.Proofs.YtiphiacidokhiaaDoor.Hand
open Go.RowKit Go.Proofs.YtiphiacidokhiaaDoor Go.Proofs.YtiphiacidokhiaaDoorW.PrintWords Go.Proofs.YtiphiacidokhiaaDoorW.PrintLast Go.Proofs.YtiphiacidokhiaaDoorW.PrintMore
set_option linter.unusedVariables false
set_option linter.unusedSimpArgs false
attribute [local go_sem] Oper.semAt_some min_two
abbrev c3 (sz : Nat) (una : Int) (v : Value) : Array Value := #[.int .i64 sz, .int .u32 una, v]
/-- The page's buffer at block h: its octets are xs, its row's value is v. -/
structure RB (w : World) (h sz base : Nat) (una : Int) (v : Value) (xs : List Int) : Prop where
  blk : w.heap[h]? = some (.cells (c3 sz una v) 54 (0, 0))
  row : QRow w base 5 1 v xs.length (nums .u8 xs)
  le : xs.length ≤ sz
theorem add_block' (ad : Addr) (i : Nat) : (ad.add i).block = ad.block := by unfold Addr.add; split <;> rfl
theorem q_reads {w : World} {base n : Nat} {A : Option Addr} {c : Nat} {xs : List Int} (h : QRow w base 5 1 (.slice A n c) n (nums .u8 xs)) : ReadsInt w .u8 A n xs := by
  have hl : xs.length = n := by have := h.1; simpa [nums] using this
  refine ⟨hl, q_max h, fun hn => ?_⟩
  obtain ⟨ad, e, hc⟩ := q_cells h hn
  refine ⟨ad, e, fun j hj => hc j _ ?_⟩
  simp [nums, List.getElem?_eq_getElem (show j < xs.length by omega), List.getD_eq_getElem?_getD]
theorem rb_ne {w : World} {h sz base : Nat} {una : Int} {v : Value} {xs : List Int} (H : RB w h sz base una v xs) : v.ownBlock ≠ some h := by
  intro e
  obtain ⟨_, cells, hc⟩ := q_typed H.row h e
  rw [H.blk] at hc
  injection hc with hc
  injection hc with _ h2
  cases h2
theorem rb_heap {w w' : World} {h sz base : Nat} {una : Int} {v : Value} {xs : List Int} (H : RB w h sz base una v xs) (h1 : w'.heap[h]? = w.heap[h]?) (h2 : ∀ k, v.ownBlock = some k → w'.heap[k]? = w.heap[k]?) : RB w' h sz base una v xs :=
  ⟨h1.trans H.blk, q_move H.row h2, H.le⟩
theorem rb_lt {w : World} {h sz base : Nat} {una : Int} {v : Value} {xs : List Int} (H : RB w h sz base una v xs) : h < w.heap.size ∧ ∀ k, v.ownBlock = some k → base ≤ k ∧ k < w.heap.size :=
  ⟨(Array.getElem?_eq_some_iff.1 H.blk).1, fun k hk => ⟨(q_typed H.row k hk).1, q_lt H.row k hk⟩⟩
set_option maxHeartbeats 1000000 in
theorem rnew_ok (z : Nat) (first : Int) (h1 : 1 ≤ z) (h2 : z ≤ 1048576) (w : World) :
    Calls Tryd.prog 14 #[.int .i64 z, .int .u32 first] w fun e w' => ∃ h, e = .returned (.tuple #[.pointer (some ⟨h, 0, none⟩), .int .i64 0]) ∧ RB w' h z w.heap.size first (.slice none 0 0) [] ∧ w.heap.size ≤ h ∧ Below w.heap.size w w' := by
  have h3 : ¬ (z : Int) < 1 := by omega
  have h4 : ¬ (z : Int) > 1048576 := by omega
  go_enter Tryd.func14, Tryd.ntmps14
  go_wp2
  go_ret2
  exact ⟨_, rfl, ⟨Array.getElem?_push_size, ⟨rfl, .inl ⟨rfl, none, rfl, by simp⟩⟩, by simp⟩, Nat.le_refl _, below_alloc (Below.refl _ _) _⟩
set_option maxHeartbeats 1000000 in
theorem rnew_no (z first : Int) (h : z < 1 ∨ z > 1048576) (w : World) :
    Calls Tryd.prog 14 #[.int .i64 z, .int .u32 first] w fun e w' => e = .returned (.tuple #[.pointer none, .int .i64 4]) ∧ w = w' := by
  by_cases h1 : z < 1
  · go_enter Tryd.func14, Tryd.ntmps14
    go_wp2
    go_ret2
    exact ⟨rfl, rfl⟩
  · have h2 : z > 1048576 := by omega
    go_enter Tryd.func14, Tryd.ntmps14
    go_wp2
    go_ret2
    exact ⟨rfl, rfl⟩
set_option maxHeartbeats 1000000 in
theorem rend (h sz base : Nat) (una : Int) (v : Value) (xs : List Int) (w : World) (H : RB w h sz base una v xs) :
    Calls Tryd.prog 22 #[.pointer (some ⟨h, 0, none⟩)] w fun e w' => e = .returned (.int .u32 ((una + (xs.length : Int) % 4294967296) % 4294967296)) ∧ ∃ m, w' = w.drewN m := by
  obtain ⟨A, c, rfl, hc⟩ := q_slice H.row
  have h1 := (blk_cell H.blk 1).trans rfl
  have h2 := (blk_cell H.blk 2).trans rfl
  clear H
  go_enter Tryd.func22, Tryd.ntmps22
  go_wp2
  go_quiet (fail)
  go_wp2
  go_ret
  exact ⟨rfl, ⟨_, rfl⟩⟩
set_option maxHeartbeats 1000000 in
theorem rslice_no (h sz base : Nat) (una q M : Int) (v : Value) (xs : List Int) (hn : M < 0 ∨ 0 ≤ M ∧ (xs.length : Int) < (q - una) % 4294967296) (w : World) (H : RB w h sz base una v xs) :
    Calls Tryd.prog 18 #[.pointer (some ⟨h, 0, none⟩), .int .u32 q, .int .i64 M] w fun e w' => e = .returned (.tuple #[.slice none 0 0, .int .i64 (if M < 0 then 4 else 151)]) ∧ w = w' := by
  obtain ⟨A, c, rfl, hc⟩ := q_slice H.row
  have h1 := (blk_cell H.blk 1).trans rfl
  have h2 := (blk_cell H.blk 2).trans rfl
  clear H
  rcases hn with hm | ⟨hm, ho⟩
  · rw [if_pos hm]
    go_enter Tryd.func18, Tryd.ntmps18
    go_wp2
    go_ret2
    exact ⟨rfl, rfl⟩
  · have hm' : ¬ M < 0 := by omega
    rw [if_neg hm']
    have hlim : 0 ≤ (q - una) % 4294967296 ∧ (q - una) % 4294967296 < 4294967296 := by omega
    obtain ⟨o, hoo⟩ : ∃ o : Int, (q - una) % 4294967296 = o := ⟨_, rfl⟩
    rw [hoo] at ho hlim
    go_enter Tryd.func18, Tryd.ntmps18
    go_wp2
    go_ret2
    exact ⟨rfl, rfl⟩
set_option maxHeartbeats 1000000 in
theorem rslice_ok (h sz base off k : Nat) (una q M : Int) (v : Value) (xs : List Int) (hM : 0 ≤ M ∧ M ≤ 9223372036854775807) (hs : sz ≤ 1048576) (ho : (q - una) % 4294967296 = (off : Int)) (hon : off ≤ xs.length) (hk : k = min M.toNat (xs.length - off)) (w : World) (H : RB w h sz base una v xs) :
    Calls Tryd.prog 18 #[.pointer (some ⟨h, 0, none⟩), .int .u32 q, .int .i64 M] w fun e w' => ∃ A c, e = .returned (.tuple #[.slice A k c, .int .i64 0]) ∧ k ≤ c ∧ ReadsInt w .u8 A k ((xs.drop off).take k) ∧ ∃ m, w' = w.drewN m := by
  obtain ⟨A, c, rfl, hc⟩ := q_slice H.row
  have h1 := (blk_cell H.blk 1).trans rfl
  have h2 := (blk_cell H.blk 2).trans rfl
  obtain ⟨i0, hi0, hz0⟩ := Option.map_eq_some_iff.1 PZ.info5
  have hz1 : i0.size = 1 := by simp only [Prod.mk.injEq] at hz0; exact hz0.2.1
  have hcut := cut_mid (P := Tryd.prog) 31 5 .i64 .i64 Tryd.underlying31 hi0 1 hz1 A xs.length c (off : Int) ((off : Int) + (k : Int)) (by omega) (by omega) (by omega) hc
  have hrd := ((q_reads H.row).drop_ off hon hc).take_ k (by omega)
  rw [show ((off : Int) + (k : Int)).toNat - ((off : Int)).toNat = k by omega, show ((off : Int)).toNat = off by omega, Nat.mul_one] at hcut
  have hlen := H.le
  clear hi0 hz0 hz1 H
  generalize (if c = off then A else A.map (·.add off)) = A1 at hcut hrd
  have HR := Aside0.mk hrd
  have hmn : Builtin.min2 (.int .i64 M) (.int .i64 ((xs.length : Int) - (off : Int))) = pure (.int .i64 (k : Int)) := by
    rw [min2_int]
    congr 2
    omega
  have hkk : k ≤ xs.length - off := by omega
  clear hrd hk
  have hM0 : ¬ M < 0 := by omega
  have hon' : ¬ (xs.length : Int) < (off : Int) := by omega
  go_enter Tryd.func18, Tryd.ntmps18
  go_wp2
  go_quiet (fail)
  go_wp2
  go_ret2
  exact ⟨_, _, rfl, by omega, HR.out, ⟨_, rfl⟩⟩
set_option maxHeartbeats 1000000 in
theorem rack_no (h sz base : Nat) (una q : Int) (v : Value) (xs : List Int) (hn : (xs.length : Int) < (q - una) % 4294967296) (w : World) (H : RB w h sz base una v xs) :
    Calls Tryd.prog 19 #[.pointer (some ⟨h, 0, none⟩), .int .u32 q] w fun e w' => e = .returned (.tuple #[.int .i64 0, .int .i64 151]) ∧ w = w' := by
  obtain ⟨A, c, rfl, hc⟩ := q_slice H.row
  have h1 := (blk_cell H.blk 1).trans rfl
  have h2 := (blk_cell H.blk 2).trans rfl
  clear H
  have hlim : 0 ≤ (q - una) % 4294967296 ∧ (q - una) % 4294967296 < 4294967296 := by omega
  obtain ⟨o, hoo⟩ : ∃ o : Int, (q - una) % 4294967296 = o := ⟨_, rfl⟩
  rw [hoo] at hn hlim
  go_enter Tryd.func19, Tryd.ntmps19
  go_wp2
  go_ret2
  exact ⟨rfl, rfl⟩
set_option maxHeartbeats 1000000 in
theorem rack_ok (h sz base off : Nat) (una q : Int) (v : Value) (xs : List Int) (hs : sz ≤ 1048576) (ho : (q - una) % 4294967296 = (off : Int)) (hon : off ≤ xs.length) (w : World) (H : RB w h sz base una v xs) :
    Calls Tryd.prog 19 #[.pointer (some ⟨h, 0, none⟩), .int .u32 q] w fun e w' => e = .returned (.tuple #[.int .i64 off, .int .i64 0]) ∧ (∃ v', RB w' h sz base q v' (xs.drop off) ∧ v'.ownBlock = v.ownBlock) ∧ w.grownBy w' (some h) := by
  obtain ⟨A, c, rfl, hc⟩ := q_slice H.row
  have h1 := (blk_cell H.blk 1).trans rfl
  have h2 := (blk_cell H.blk 2).trans rfl
  have f1 := blk_frozen H.blk 1
  have f2 := blk_frozen H.blk 2
  obtain ⟨i0, hi0, hz0⟩ := Option.map_eq_some_iff.1 PZ.info5
  have hz1 : i0.size = 1 := by simp only [Prod.mk.injEq] at hz0; exact hz0.2.1
  have hcut := cut_from (P := Tryd.prog) 31 5 .i64 Tryd.underlying31 hi0 1 hz1 A xs.length c (off : Int) (by omega) (by omega)
  have hq := q_drop H.row hon
  rw [show ((off : Int)).toNat = off by omega] at hcut
  have hne := rb_ne H
  have HX := Aside0.mk H
  have hlen := H.le
  clear hi0 hz0 hz1 H
  have hnb : (Value.slice (if c = off then A else A.map (·.add (off * 1))) (xs.length - off) (c - off)).ownBlock = (Value.slice A xs.length c).ownBlock := by
    split
    · cases A <;> rfl
    · cases A with
      | none => rfl
      | some a => simp [Value.ownBlock, add_block']
  rw [← hnb] at hne
  have hnb' := hnb
  generalize (if c = off then A else A.map (·.add (off * 1))) = A1 at hcut hq hne hnb'
  have HQ := Aside0.mk (And.intro hq (And.intro hne hnb'))
  clear hq hne hnb hnb'
  have hon' : ¬ (xs.length : Int) < (off : Int) := by omega
  go_enter Tryd.func19, Tryd.ntmps19
  go_wp2
  go_ret2
  have hb1 := blk_put (blk_put HX.out.blk 2 (.slice A1 (xs.length - off) (c - off)) rfl) 1 (.int .u32 q) rfl
  have hG : w.grownBy ((w.setCell ⟨h, 2, none⟩ (.slice A1 (xs.length - off) (c - off))).setCell ⟨h, 1, none⟩ (.int .u32 q)) (some h) := gb_set (gb_set (World.grownBy.refl w _) _ _) _ _
  refine ⟨rfl, ⟨_, ⟨hb1, ?_, by rw [List.length_drop]; omega⟩, HQ.out.2.2⟩, hG⟩
  have hq := HQ.out.1
  rw [Nat.mul_one] at hq
  have e : nums .u8 (xs.drop off) = (nums .u8 xs).drop off := by simp [nums, List.map_drop]
  rw [List.length_drop, e]
  exact q_move hq fun k hk => hG.block k (q_lt hq k hk) (fun e => HQ.out.2.1 (by rw [hk, e]))
theorem append_q {W : World} (base : Nat) (v : Value) (xs ys : List Int) (A : Option Addr) (c : Nat) (HQ : QRow W base 5 1 v xs.length (nums .u8 xs)) (HR : ReadsInt W .u8 A ys.length ys) (hbase : base ≤ W.heap.size) (hl : xs.length + ys.length ≤ 140737488355328) :
    ∃ v1 w1, (Builtin.append_ #[31, 31] 31 #[v, .slice A ys.length c]).run Tryd.prog W = .ok v1 w1 ∧ QRow w1 base 5 1 v1 (xs ++ ys).length (nums .u8 (xs ++ ys)) ∧ W.grownBy w1 v.ownBlock ∧ (v1.ownBlock = v.ownBlock ∨ ∃ b, v1.ownBlock = some b ∧ W.heap.size ≤ b) := by
  obtain ⟨i0, hi, hzz⟩ := Option.map_eq_some_iff.1 PZ.info5
  simp only [Prod.mk.injEq] at hzz
  obtain ⟨hz0, hz1, hz2⟩ := hzz
  rcases Nat.eq_zero_or_pos ys.length with h0 | h0
  · obtain rfl : ys = [] := List.eq_nil_of_length_eq_zero h0
    refine ⟨v, W, ?_, by simpa using HQ, World.grownBy.refl W _, .inl rfl⟩
    rcases HQ.2 with ⟨hn, A0, rfl, _⟩ | ⟨g, off, cap, cur, rfl, _, _, hnc, _⟩
    · cases A <;> cases A0 <;> simp [Builtin.append_, run_underlying Tryd.underlying31, sizeOf, typeInfo, hi, Builtin.lenOf, Builtin.firstCells, loadCells, loadCellsFrom, storeCells]
    · cases A <;> simp [Builtin.append_, run_underlying Tryd.underlying31, sizeOf, typeInfo, hi, Builtin.lenOf, Builtin.firstCells, loadCells, loadCellsFrom, storeCells, hnc]
  · obtain ⟨ad, rfl, hc⟩ := HR.2.2 h0
    have hcells : ∀ j u, (nums .u8 ys)[j]? = some u → W.cell? (ad.add j) = some u := by
      intro j u hu
      have hj : j < ys.length := by
        rcases Nat.lt_or_ge j ys.length with h | h
        · exact h
        · simp [nums, List.getElem?_eq_none h] at hu
      have := hc j (by omega)
      simp [nums, List.getElem?_eq_getElem hj] at hu
      subst hu
      rw [this]
      simp [List.getD_eq_getElem?_getD, List.getElem?_eq_getElem hj]
    obtain ⟨v1, w1, hr, h2, h3, h5⟩ := q_append (P := Tryd.prog) W base 31 31 5 i0 (.int .u8 0) 1 1 Tryd.underlying31 hi hz0 hz1 hz2 rfl (by omega) v xs.length (nums .u8 xs) HQ ad ys.length c (nums .u8 ys) (by simp [nums]) hcells
      (by intro u hu; simp only [nums, List.mem_map] at hu; obtain ⟨q, _, rfl⟩ := hu; rfl) h0 (by simp only [maxLen]; omega) (by omega) hbase
    exact ⟨v1, w1, hr, by simpa [nums] using h2, h3, h5⟩
theorem exec_append {P : Program} {f : Operand → Value} {o : Oper} {v u v1 : Value} {W w1 : World} (s x : Operand) (ho : o.op = .call { callee := .builtin .append, args := #[s, x], argTypes := #[31, 31] }) (ht : o.type = 31) (hs : f s = v) (hx : f x = u)
    (hr : (Builtin.append_ #[31, 31] 31 #[v, u]).run P W = .ok v1 w1) : (execOp f o).run P W = .ok (.value v1) w1 := by
  unfold execOp
  simp only [ho, ht, resolve, invoke, builtin, Sem.run_bind, Sem.run_pure, Result.andThen_ok, List.map_toArray, List.map_cons, List.map_nil, hs, hx, hr]
set_option maxHeartbeats 4000000 in
set_option maxRecDepth 100000 in
theorem rwrite (h sz base k : Nat) (una code : Int) (v : Value) (xs D : List Int) (A : Option Addr) (c : Nat) (hk : k = min D.length (sz - xs.length)) (hcode : code = if 0 < D.length ∧ xs.length = sz then 251 else 0) (hs : 1 ≤ sz ∧ sz ≤ 1048576) (hc : D.length ≤ c) (hbh : base ≤ h)
    (w : World) (hbw : base ≤ w.heap.size) (H : RB w h sz base una v xs) (hd : ReadsInt w .u8 A D.length D) :
    Calls Tryd.prog 16 #[.pointer (some ⟨h, 0, none⟩), .slice A D.length c] w fun e w' => e = .returned (.tuple #[.int .i64 (k : Int), .int .i64 code]) ∧ (∃ v', RB w' h sz base una v' (xs ++ D.take k) ∧ (v'.ownBlock = v.ownBlock ∨ ∃ b, v'.ownBlock = some b ∧ w.heap.size ≤ b)) ∧
      Below base w w' ∧ ∀ j, j < w.heap.size → j ≠ h → v.ownBlock ≠ some j → w'.heap[j]? = w.heap[j]? := by
  obtain ⟨A0, c0, rfl, hc0⟩ := q_slice H.row
  have hlen := H.le
  have hm := hd.2.1
  have h0 := (blk_cell H.blk 0).trans rfl
  have h2 := (blk_cell H.blk 2).trans rfl
  have hX := Aside0.mk H
  have hD := Aside0.mk hd
  clear H hd
  by_cases hfull : 0 < D.length ∧ xs.length = sz
  · rw [if_pos hfull] at hcode
    subst hcode
    have hk0 : k = 0 := by omega
    subst hk0
    clear hk
    obtain ⟨hf2, rfl⟩ := hfull
    go_enter Tryd.func16, Tryd.ntmps16
    go_wp2
    go_quiet (fail)
    go_wp2
    go_ret2
    refine ⟨rfl, ⟨_, ?_, .inl rfl⟩, ?_, fun j _ _ _ => by simp⟩
    · simp only [List.take_zero, List.append_nil]
      exact rb_heap hX.out (by simp) (fun _ _ => by simp)
    · exact pw_below_drewN (Below.refl _ _) _
  · rw [if_neg hfull] at hcode
    subst hcode
    have hmn : Builtin.min2 (.int .i64 ((sz : Int) - (xs.length : Int))) (.int .i64 (D.length : Int)) = pure (.int .i64 (k : Int)) := by
      rw [min2_int]
      congr 2
      omega
    have hkD : k ≤ D.length := by omega
    have hkl : xs.length + k ≤ sz := by omega
    have hff : ¬ (0 < D.length ∧ xs.length = sz) := hfull
    have hle : (D.take k).length = k := by rw [List.length_take]; omega
    have HE := Aside0.mk (And.intro hff hle)
    clear hff hle hk
    have hcase : D.length = 0 ∨ 0 < D.length ∧ ¬ (xs.length = sz) := by omega
    clear hfull
    rcases hcase with hz | ⟨hz, hz2⟩
    · obtain ⟨i0, hi0, hz0⟩ := Option.map_eq_some_iff.1 PZ.info5
      have hcut := cut_to (P := Tryd.prog) 31 5 .i64 Tryd.underlying31 hi0 A D.length c (k : Int) (by omega) (by omega) hc
      rw [show ((k : Int)).toNat = k by omega] at hcut
      clear hi0 hz0
      rw [hz] at hmn hcut; rw [show ((0 : Nat) : Int) = 0 from rfl] at hmn
      go_enter Tryd.func16, Tryd.ntmps16
      go_wp2
      go_quiet (fail)
      go_wp2
      refine start_ (n := 12) (S := fun w' => w'.cell? ⟨h, 2, none⟩ = some (.slice A0 xs.length c0)) (ds := [11]) (bs 12 0) (by kernel_rfl) rfl rfl ((blk_cell hX.out.blk 2).trans rfl) (fun hHeld => ?_)
      generalize hwd : World.drew _ = wd at hHeld ⊢
      have hh : wd.heap = w.heap := by rw [← hwd]; first | rfl | simp
      have BW : Aside0 (∀ n₀, Below n₀ w wd) := ⟨fun n₀ => by rw [← hwd]; exact below_drew1 (pw_below_drewN (Below.refl _ _) _)⟩
      clear hwd h0 h2
      have hXd := rb_heap (w' := wd) hX.out (by rw [hh]) (fun _ _ => by rw [hh])
      have hdd := reads_heap hD.out hh
      obtain ⟨v1, w1, hap, hq1, hg1, hat⟩ := append_q (W := wd) base _ xs (D.take k) A c hXd.row (by have := hdd.take_ k hkD; rwa [HE.out.2]) (by rw [hh]; exact hbw) (by rw [HE.out.2]; omega)
      rw [HE.out.2] at hap
      obtain ⟨A1, c1, e1, _⟩ := q_slice hq1
      generalize (xs ++ D.take k).length = n1 at e1
      subst e1
      have hblk1 := (hg1.block h (rb_lt hXd).1 (fun e => rb_ne hXd e.symm)).trans hXd.blk
      have c2 := (blk_cell hblk1 2).trans rfl
      have f2 := blk_frozen hblk1 2
      have HQ := Aside0.mk (And.intro hq1 (And.intro hg1 (And.intro hat (And.intro hblk1 (And.intro hXd hh)))))
      clear hdd hq1 hg1 hat hblk1 hXd hh
      refine pure_ (i := 0) (N := some 29) (v := ?_) (a' := ?_) (bs 12 1) rfl rfl (by kernel_rfl) (fun _ _ _ h => h) (Or.inl ⟨by rfl, ?_⟩) ?_ ?_; rotate_left; (intro w'; go_simp; with_reducible rfl); rotate_left; (simp only [Act.put, q1_, q2_, q3_, i64_w, i32_w]; rfl)
      refine pure_ (i := 1) (N := some 30) (v := ?_) (a' := ?_) (bs 12 3) rfl rfl (by kernel_rfl) (fun _ _ _ h => h) (Or.inl ⟨by rfl, ?_⟩) ?_ ?_; rotate_left; (intro w'; go_simp; with_reducible rfl); rotate_left; (simp only [Act.put, q1_, q2_, q3_, i64_w, i32_w]; rfl)
      refine pure_ (i := 2) (N := some 31) (v := ?_) (a' := ?_) (bs 12 7) rfl rfl (by kernel_rfl) (fun _ _ _ h => h) (Or.inl ⟨by rfl, ?_⟩) ?_ ?_; rotate_left; (intro w'; go_simp; with_reducible rfl); rotate_left; (simp only [Act.put, q1_, q2_, q3_, i64_w, i32_w]; rfl)
      refine pure_ (i := 3) (N := some 32) (v := ?_) (a' := ?_) (bs 12 15) rfl rfl (by kernel_rfl) (fun _ _ _ h => h) (Or.inl ⟨by rfl, ?_⟩) ?_ ?_; rotate_left; (intro w'; go_simp; with_reducible rfl); rotate_left; (simp only [Act.put, q1_, q2_, q3_, i64_w, i32_w]; rfl)
      refine pure_ (i := 5) (N := some 34) (v := ?_) (a' := ?_) (bs 12 47) rfl rfl (by kernel_rfl) (fun _ _ _ h => h) (Or.inl ⟨by rfl, ?_⟩) ?_ ?_; rotate_left; (intro w'; go_simp; with_reducible rfl); rotate_left; (simp only [Act.put, q1_, q2_, q3_, i64_w, i32_w]; rfl)
      refine pure_ (i := 6) (N := some 35) (v := ?_) (a' := ?_) (bs 12 111) rfl rfl (by kernel_rfl) (fun _ _ _ h => h) (Or.inl ⟨by rfl, ?_⟩) ?_ ?_; rotate_left; (intro w'; go_simp; with_reducible rfl); rotate_left; (simp only [Act.put, q1_, q2_, q3_, i64_w, i32_w]; rfl)
      refine pure_ (i := 7) (N := some 36) (v := ?_) (a' := ?_) (bs 12 239) rfl rfl (by kernel_rfl) (fun _ _ _ h => h) (Or.inl ⟨by rfl, ?_⟩) ?_ ?_; rotate_left; (intro w'; go_simp; with_reducible rfl); rotate_left; (simp only [Act.put, q1_, q2_, q3_, i64_w, i32_w]; rfl)
      refine take_ (i := 4) (N := some 33) (v := ?_) (a' := ?_) (bs 12 255) rfl rfl (by kernel_rfl) (fun _ _ _ h => h) (Or.inl ⟨by rfl, ?_⟩) hHeld ?_ ?_; rotate_left; (rintro w' s0; go_simp; with_reducible rfl); rotate_left; (simp only [Act.put, q1_, q2_, q3_, i64_w, i32_w]; rfl)
      refine one_ (i := 8) (N := some 37) (bs 12 511) rfl rfl (by kernel_rfl) (by decide) (fun K hK => ?_)
      refine value_ (w1 := w1) (v := .slice A1 n1 c1) (by rfl) rfl (exec_append (.tmp 33) (.tmp 36) rfl rfl rfl rfl hap) ?_
      refine hK.out _ _ c2 (fun hHeld => ?_); clear hK K
      refine norm_ (a' := ?_) ?_ ?_; rotate_left; (show Act.put _ (some 37) _ = _; simp only [Act.put, q1_, q2_, q3_, i64_w, i32_w]; rfl)
      refine pure_ (i := 9) (N := some 38) (v := ?_) (a' := ?_) (bs 12 1023) rfl rfl (by kernel_rfl) (fun _ _ _ h => h) (Or.inl ⟨by rfl, ?_⟩) ?_ ?_; rotate_left; (intro w'; go_simp; with_reducible rfl); rotate_left; (simp only [Act.put, q1_, q2_, q3_, i64_w, i32_w]; rfl)
      refine pure_ (i := 10) (N := some 39) (v := ?_) (a' := ?_) (bs 12 2047) rfl rfl (by kernel_rfl) (fun _ _ _ h => h) (Or.inl ⟨by rfl, ?_⟩) ?_ ?_; rotate_left; (intro w'; go_simp; with_reducible rfl); rotate_left; (simp only [Act.put, q1_, q2_, q3_, i64_w, i32_w]; rfl)
      refine last_ (i := 11) (N := none) (bs 12 4095) rfl rfl (by kernel_rfl) (by decide) (fun K hK => ?_)
      refine skip_ (w1 := w1.setCell ⟨h, 2, none⟩ (.slice A1 n1 c1)) (by rfl) rfl (by go_simp) ?_
      refine hK.out _ _ ?_; clear hK K
      refine done_ (by kernel_rfl) ?_
      have hb9 := blk_put HQ.out.2.2.2.1 2 (.slice A1 n1 c1) rfl
      have hG : w1.grownBy (w1.setCell ⟨h, 2, none⟩ (.slice A1 n1 c1)) (some h) := gb_set (World.grownBy.refl w1 _) 2 (.slice A1 n1 c1)
      generalize w1.setCell ⟨h, 2, none⟩ (.slice A1 n1 c1) = wf at hb9 hG ⊢
      have HB9 := Aside0.mk (And.intro hb9 hG)
      clear hb9 hG hap c2 f2 hHeld
      go_wp2
      go_ret2
      obtain ⟨hq1, hg1, hat, hblk1, hXd, hh⟩ := HQ.out
      obtain ⟨hb9, hG⟩ := HB9.out
      rw [hh] at hat
      have hh9 : h < w.heap.size := (rb_lt hX.out).1
      have hv1 : (Value.slice A1 n1 c1).ownBlock ≠ some h := by
        rcases hat with e | ⟨b, e, hb⟩
        · rw [e]; exact rb_ne hX.out
        · rw [e]; intro he; have := Option.some.inj he; omega
      have hsz := congrArg Array.size hh
      refine ⟨rfl, ⟨_, ⟨hb9, q_move hq1 fun j hj => hG.block j (q_lt hq1 j hj) (fun e => hv1 (by rw [hj, e])), by rw [List.length_append, HE.out.2]; omega⟩, hat⟩, ((BW.out base).grown hg1 (by omega) (fun j hj => ((rb_lt hX.out).2 j hj).1)).grown hG (by have := hg1.size; omega) (fun j hj => by have := Option.some.inj hj; omega), fun j hj1 hj2 hj3 => ?_⟩
      rw [hG.block j (by have := hg1.size; omega) (fun e => hj2 (Option.some.inj e)), hg1.block j (by omega) (fun e => hj3 e.symm), hh]
    · obtain ⟨i0, hi0, hz0⟩ := Option.map_eq_some_iff.1 PZ.info5
      have hcut := cut_to (P := Tryd.prog) 31 5 .i64 Tryd.underlying31 hi0 A D.length c (k : Int) (by omega) (by omega) hc
      rw [show ((k : Int)).toNat = k by omega] at hcut
      clear hi0 hz0
      skip
      go_enter Tryd.func16, Tryd.ntmps16
      go_wp2
      go_quiet (fail)
      go_wp2
      refine start_ (n := 12) (S := fun w' => w'.cell? ⟨h, 2, none⟩ = some (.slice A0 xs.length c0)) (ds := [11]) (bs 12 0) (by kernel_rfl) rfl rfl ((blk_cell hX.out.blk 2).trans rfl) (fun hHeld => ?_)
      generalize hwd : World.drew _ = wd at hHeld ⊢
      have hh : wd.heap = w.heap := by rw [← hwd]; first | rfl | simp
      have BW : Aside0 (∀ n₀, Below n₀ w wd) := ⟨fun n₀ => by rw [← hwd]; exact below_drew1 (pw_below_drewN (Below.refl _ _) _)⟩
      clear hwd h0 h2
      have hXd := rb_heap (w' := wd) hX.out (by rw [hh]) (fun _ _ => by rw [hh])
      have hdd := reads_heap hD.out hh
      obtain ⟨v1, w1, hap, hq1, hg1, hat⟩ := append_q (W := wd) base _ xs (D.take k) A c hXd.row (by have := hdd.take_ k hkD; rwa [HE.out.2]) (by rw [hh]; exact hbw) (by rw [HE.out.2]; omega)
      rw [HE.out.2] at hap
      obtain ⟨A1, c1, e1, _⟩ := q_slice hq1
      generalize (xs ++ D.take k).length = n1 at e1
      subst e1
      have hblk1 := (hg1.block h (rb_lt hXd).1 (fun e => rb_ne hXd e.symm)).trans hXd.blk
      have c2 := (blk_cell hblk1 2).trans rfl
      have f2 := blk_frozen hblk1 2
      have HQ := Aside0.mk (And.intro hq1 (And.intro hg1 (And.intro hat (And.intro hblk1 (And.intro hXd hh)))))
      clear hdd hq1 hg1 hat hblk1 hXd hh
      refine pure_ (i := 0) (N := some 29) (v := ?_) (a' := ?_) (bs 12 1) rfl rfl (by kernel_rfl) (fun _ _ _ h => h) (Or.inl ⟨by rfl, ?_⟩) ?_ ?_; rotate_left; (intro w'; go_simp; with_reducible rfl); rotate_left; (simp only [Act.put, q1_, q2_, q3_, i64_w, i32_w]; rfl)
      refine pure_ (i := 1) (N := some 30) (v := ?_) (a' := ?_) (bs 12 3) rfl rfl (by kernel_rfl) (fun _ _ _ h => h) (Or.inl ⟨by rfl, ?_⟩) ?_ ?_; rotate_left; (intro w'; go_simp; with_reducible rfl); rotate_left; (simp only [Act.put, q1_, q2_, q3_, i64_w, i32_w]; rfl)
      refine pure_ (i := 2) (N := some 31) (v := ?_) (a' := ?_) (bs 12 7) rfl rfl (by kernel_rfl) (fun _ _ _ h => h) (Or.inl ⟨by rfl, ?_⟩) ?_ ?_; rotate_left; (intro w'; go_simp; with_reducible rfl); rotate_left; (simp only [Act.put, q1_, q2_, q3_, i64_w, i32_w]; rfl)
      refine pure_ (i := 3) (N := some 32) (v := ?_) (a' := ?_) (bs 12 15) rfl rfl (by kernel_rfl) (fun _ _ _ h => h) (Or.inl ⟨by rfl, ?_⟩) ?_ ?_; rotate_left; (intro w'; go_simp; with_reducible rfl); rotate_left; (simp only [Act.put, q1_, q2_, q3_, i64_w, i32_w]; rfl)
      refine pure_ (i := 5) (N := some 34) (v := ?_) (a' := ?_) (bs 12 47) rfl rfl (by kernel_rfl) (fun _ _ _ h => h) (Or.inl ⟨by rfl, ?_⟩) ?_ ?_; rotate_left; (intro w'; go_simp; with_reducible rfl); rotate_left; (simp only [Act.put, q1_, q2_, q3_, i64_w, i32_w]; rfl)
      refine pure_ (i := 6) (N := some 35) (v := ?_) (a' := ?_) (bs 12 111) rfl rfl (by kernel_rfl) (fun _ _ _ h => h) (Or.inl ⟨by rfl, ?_⟩) ?_ ?_; rotate_left; (intro w'; go_simp; with_reducible rfl); rotate_left; (simp only [Act.put, q1_, q2_, q3_, i64_w, i32_w]; rfl)
      refine pure_ (i := 7) (N := some 36) (v := ?_) (a' := ?_) (bs 12 239) rfl rfl (by kernel_rfl) (fun _ _ _ h => h) (Or.inl ⟨by rfl, ?_⟩) ?_ ?_; rotate_left; (intro w'; go_simp; with_reducible rfl); rotate_left; (simp only [Act.put, q1_, q2_, q3_, i64_w, i32_w]; rfl)
      refine take_ (i := 4) (N := some 33) (v := ?_) (a' := ?_) (bs 12 255) rfl rfl (by kernel_rfl) (fun _ _ _ h => h) (Or.inl ⟨by rfl, ?_⟩) hHeld ?_ ?_; rotate_left; (rintro w' s0; go_simp; with_reducible rfl); rotate_left; (simp only [Act.put, q1_, q2_, q3_, i64_w, i32_w]; rfl)
      refine one_ (i := 8) (N := some 37) (bs 12 511) rfl rfl (by kernel_rfl) (by decide) (fun K hK => ?_)
      refine value_ (w1 := w1) (v := .slice A1 n1 c1) (by rfl) rfl (exec_append (.tmp 33) (.tmp 36) rfl rfl rfl rfl hap) ?_
      refine hK.out _ _ c2 (fun hHeld => ?_); clear hK K
      refine norm_ (a' := ?_) ?_ ?_; rotate_left; (show Act.put _ (some 37) _ = _; simp only [Act.put, q1_, q2_, q3_, i64_w, i32_w]; rfl)
      refine pure_ (i := 9) (N := some 38) (v := ?_) (a' := ?_) (bs 12 1023) rfl rfl (by kernel_rfl) (fun _ _ _ h => h) (Or.inl ⟨by rfl, ?_⟩) ?_ ?_; rotate_left; (intro w'; go_simp; with_reducible rfl); rotate_left; (simp only [Act.put, q1_, q2_, q3_, i64_w, i32_w]; rfl)
      refine pure_ (i := 10) (N := some 39) (v := ?_) (a' := ?_) (bs 12 2047) rfl rfl (by kernel_rfl) (fun _ _ _ h => h) (Or.inl ⟨by rfl, ?_⟩) ?_ ?_; rotate_left; (intro w'; go_simp; with_reducible rfl); rotate_left; (simp only [Act.put, q1_, q2_, q3_, i64_w, i32_w]; rfl)
      refine last_ (i := 11) (N := none) (bs 12 4095) rfl rfl (by kernel_rfl) (by decide) (fun K hK => ?_)
      refine skip_ (w1 := w1.setCell ⟨h, 2, none⟩ (.slice A1 n1 c1)) (by rfl) rfl (by go_simp) ?_
      refine hK.out _ _ ?_; clear hK K
      refine done_ (by kernel_rfl) ?_
      have hb9 := blk_put HQ.out.2.2.2.1 2 (.slice A1 n1 c1) rfl
      have hG : w1.grownBy (w1.setCell ⟨h, 2, none⟩ (.slice A1 n1 c1)) (some h) := gb_set (World.grownBy.refl w1 _) 2 (.slice A1 n1 c1)
      generalize w1.setCell ⟨h, 2, none⟩ (.slice A1 n1 c1) = wf at hb9 hG ⊢
      have HB9 := Aside0.mk (And.intro hb9 hG)
      clear hb9 hG hap c2 f2 hHeld
      go_wp2
      go_ret2
      obtain ⟨hq1, hg1, hat, hblk1, hXd, hh⟩ := HQ.out
      obtain ⟨hb9, hG⟩ := HB9.out
      rw [hh] at hat
      have hh9 : h < w.heap.size := (rb_lt hX.out).1
      have hv1 : (Value.slice A1 n1 c1).ownBlock ≠ some h := by
        rcases hat with e | ⟨b, e, hb⟩
        · rw [e]; exact rb_ne hX.out
        · rw [e]; intro he; have := Option.some.inj he; omega
      have hsz := congrArg Array.size hh
      refine ⟨rfl, ⟨_, ⟨hb9, q_move hq1 fun j hj => hG.block j (q_lt hq1 j hj) (fun e => hv1 (by rw [hj, e])), by rw [List.length_append, HE.out.2]; omega⟩, hat⟩, ((BW.out base).grown hg1 (by omega) (fun j hj => ((rb_lt hX.out).2 j hj).1)).grown hG (by have := hg1.size; omega) (fun j hj => by have := Option.some.inj hj; omega), fun j hj1 hj2 hj3 => ?_⟩
      rw [hG.block j (by have := hg1.size; omega) (fun e => hj2 (Option.some.inj e)), hg1.block j (by omega) (fun e => hj3 e.symm), hh]
end Go.Proofs.YtiphiacidokhiaaDoor.Hand
