/- The contract of octets.Unhex: what it computes, by hand (a range over slices.Chunk). -/
import Derived.Test.YtpadboidkpembaaHandN
namespace Go.Proofs.Ytpadboidkpembaa.Hand
open Go.RowKit Go.Shelf Go.Proofs.YtpadboidkpembaaW.PrintWords Go.Proofs.YtpadboidkpembaaW.PrintLast Go.Proofs.YtpadboidkpembaaW.PrintMore Go.Proofs.Ytpadboidkpembaa.Lift
set_option linter.unusedVariables false
set_option linter.unusedSimpArgs false
attribute [local go_sem] Oper.semAt_some

theorem bytes_snoc (s : ByteArray) (k : Nat) (h : k < s.size) : (bytesOf s).take (k + 1) = (bytesOf s).take k ++ [(s[k].toNat : Int)] := by
  have hl : k < (bytesOf s).length := by rw [bytesOf_length]; exact h
  rw [List.take_succ_eq_append_getElem hl]
  simp [bytesOf]
  rfl
theorem byte_bd (s : ByteArray) (k : Nat) (h : k < s.size) : 0 ≤ (s[k].toNat : Int) ∧ (s[k].toNat : Int) ≤ 255 := ⟨by omega, by have := s[k].toNat_lt; omega⟩
theorem ret_early {n : Nat} {P : Program} {fn : Func} {R : Ending → World → Prop} {t : Array Value} {w : World} {v : Value} (hr : (results fn t).run P w = .ok v w) (hR : R (.returned v) w) :
    bodyPostM Fence.wide n P fn R .ret { tmps := t, defers := [] } w := ⟨v, hr, hR⟩
theorem nvD_of {c v : Int} (h : nv c = some v) : nvD c = v := by unfold nvD; rw [h]; rfl
/-- The bytes of a text, digit by digit. -/
def dig (s : ByteArray) : List Int := (bytesOf s).map nvD
def digK (s : ByteArray) (k : Nat) : List Int := ((bytesOf s).take k).map nvD
theorem digK_snoc (s : ByteArray) (k : Nat) (h : k < s.size) : digK s (k + 1) = digK s k ++ [nvD (s[k].toNat : Int)] := by
  unfold digK; rw [bytes_snoc s k h, List.map_append]; rfl
theorem digK_all (s : ByteArray) : digK s s.size = dig s := by unfold digK dig; rw [List.take_of_length_le (by rw [bytesOf_length]; omega)]
theorem digK_len (s : ByteArray) (k : Nat) (h : k ≤ s.size) : (digK s k).length = k := by unfold digK; simp [bytesOf_length, h]

set_option maxRecDepth 100000 in
set_option maxHeartbeats 2000000 in
theorem unhex_bad (s : ByteArray) (hs : s.size ≤ 140737488351232) (i : Nat) (hi : i < s.size) (hgood : ∀ j (h : j < i), ∃ v, nv (s[j].toNat : Int) = some v) (hbad : nv (s[i].toNat : Int) = none) (w : World) :
    Calls Try.prog 8 #[.string s] w fun e w' => e = .returned (.tuple #[.slice none 0 0, .int .i64 11, .int .i64 i]) ∧ Below w.heap.size w w' := by
  refine (callsIn_wide (n := 3)).1 ?_
  refine callsIn_of_wp_marks Try.func8 rfl trivial ?_ rfl
  simp only [Try.ntmps8, List.size_toArray, List.length_cons, List.length_nil, Nat.reduceAdd, Nat.reduceSub, Array.replicate_succ, Array.replicate_zero, List.push_toArray, List.append_toArray, List.nil_append, List.cons_append]
  refine wpIn_wide.2 ?_
  have HG := Aside0.mk (And.intro hgood hbad)
  clear hgood hbad
  go_wp2
  go_loopw [5, 13] (fun v i' wr => ∃ k : Nat, k ≤ i ∧ i' = .int .i64 k ∧ Kd.R (Kd.int .u8) 5 wr w.heap.size (fun _ => True) v (digK s k) ∧ Below w.heap.size w wr) (fun _ i' _ => s.size - (intOf i').toNat)
  case atStart => exact ⟨0, Nat.zero_le _, rfl, Kd.R_nil _ _ _ _ _, Below.refl _ _⟩
  case round =>
    obtain ⟨k, hk, rfl, hown, hB⟩ := hrel
    have HO := Aside0.mk hown
    have HB := Aside0.mk hB
    clear hown hB
    have hks : k < s.size := by omega
    by_cases hlt : k < i
    · obtain ⟨v, hv⟩ := HG.out.1 k hlt
      have HV := Aside0.mk hv
      clear hv
      go_wp2_with (first
        | (go_at_call 24; refine (nibble_some _ v _ HV.out).mono ?_; rintro e w1 ⟨rfl, rfl⟩)
        | (at_builtin; go_loud (refine Kd.R_append_row (Value.int .u8) (0 : Int) (h1 := fun _ => rfl) (w0 := w) w.heap.size rfl _ _ 24 5 (.int .u8 0) 1 rfl Try.underlying24 info5 rfl (by decide) _ (digK s k) [v] _ 1 1 (fun _ => True) rfl rfl (fun _ _ => trivial) (Kd.R_alloc HO.out _) (c_new .u8 wr [v] 5 1 rfl (by simp)) (below_alloc HB.out _) (by have := below_size HB.out; simp; omega) (by rw [digK_len s k (by omega)]; omega) ?_); intro v' w1 ho hb _ _))
      go_roundw
      case rel => exact ⟨k + 1, by omega, by go_num, by rw [digK_snoc s k hks, nvD_of HV.out]; exact ho, hb⟩
      case measure => simp [intOf]; omega
    · obtain rfl : k = i := by omega
      go_wp2_with (go_at_call 24; refine (nibble_none _ _ HG.out.2).mono ?_; rintro e w1 ⟨rfl, rfl⟩)
      refine ret_early (v := .tuple #[.slice none 0 0, .int .i64 11, .int .i64 k]) (by simp [results, Try.results8, go_sem]) ⟨rfl, HB.out⟩
theorem and1 (x : Int) (h0 : 0 ≤ x) (h1 : x < 9223372036854775808) : bits .and .i64 x 1 = x % 2 := bits_mask .i64 63 (by decide) (fun n a b => by rw [IntKind.wrap_i64]; omega) 1 (by decide) x h0 h1
def pairs : List Int → List Int
  | a :: b :: r => (a * 16 % 256 + b) % 256 :: pairs r
  | _ => []

theorem keepB_t {Bs Bn : Nat} {A B C : World} (h : keepB Bs Bn A B) (k : keepB Bs Bn B C) : keepB Bs Bn A C := ⟨k.1.trans h.1, k.2.trans h.2⟩
theorem keepB_b {Bs Bn : Nat} {w : World} (h1 : Bs < w.heap.size) (h2 : Bn < w.heap.size) (W : World) (l : Nat) (o o' : Obj) (hl : w.heap.size ≤ l) (_ : W.heap[l]? = some o) (_ : o.isCells = false) (_ : o.isWalk = false) : keepB Bs Bn W (W.putObj l o') :=
  ⟨World.putObj_heap_other (by omega), World.putObj_heap_other (by omega)⟩
/-- Of W0's blocks all but one lie as they lay. -/
def oldB (Bo : Nat) (W0 W : World) : Prop := W0.heap.size ≤ W.heap.size ∧ ∀ k, k < W0.heap.size → k ≠ Bo → W.heap[k]? = W0.heap[k]?
theorem oldB_refl (Bo : Nat) (W : World) : oldB Bo W W := ⟨Nat.le_refl _, fun _ _ _ => rfl⟩
theorem oldB_own {β : Type} (Bo : Nat) (W0 : World) : OwnFrom W0.heap.size (fun (_ : β) W => oldB Bo W0 W) :=
  fun _ W W' row hs hg hr => ⟨Nat.le_trans hs.1 hg.size, fun k hk hne => (hg.block k (by have := hs.1; omega) (fun e => by have := (hr k e.symm).1; omega)).trans (hs.2 k hk hne)⟩
/-- The pairs that have come, put together. -/
def pr1 (s : ByteArray) (x : Nat) : Int := IntKind.u8.wrap (IntKind.u8.wrap (rd (dig s) (2 * (x : Int)) * 16) + rd (dig s) (2 * (x : Int) + 1))
def prs (s : ByteArray) {m : Nat} (pre : List (Up m)) : List Int := pre.map fun x => pr1 s x.1
theorem prs_len (s : ByteArray) {m : Nat} (pre : List (Up m)) : (prs s pre).length = pre.length := by simp [prs]
theorem prs_snoc (s : ByteArray) {m : Nat} (pre : List (Up m)) (x : Up m) : prs s (pre ++ [x]) = prs s pre ++ [pr1 s x.1] := by simp [prs]
theorem pairs_range (l : List Int) : ∀ (m : Nat), l.length = 2 * m → pairs l = (List.range m).map fun x => (rd l (2 * x : Nat) * 16 % 256 + rd l (2 * x + 1 : Nat)) % 256 := by
  induction l using pairs.induct with
  | case1 a b r ih =>
    intro m hm
    obtain ⟨m, rfl⟩ : ∃ j, m = j + 1 := ⟨m - 1, by simp at hm; omega⟩
    rw [pairs, ih m (by simp at hm; omega), List.range_succ_eq_map, List.map_cons, List.map_map]
    congr 1
  | case2 l h =>
    intro m hm
    cases l with
    | nil => obtain rfl : m = 0 := by simp at hm; omega
             rfl
    | cons a l =>
      cases l with
      | nil => simp at hm; omega
      | cons b r => exact absurd rfl (h a b r)
theorem prs_all (s : ByteArray) {m : Nat} (pre : List (Up m)) (hp : pre.map Subtype.val = List.range m) (hs : s.size = 2 * m) : prs s pre = pairs (dig s) := by
  rw [pairs_range (dig s) m (by unfold dig; rw [List.length_map, bytesOf_length]; exact hs), ← hp, List.map_map]
  rfl

set_option maxRecDepth 100000 in
set_option maxHeartbeats 4000000 in
theorem unhex_odd (s : ByteArray) (hs : s.size ≤ 140737488351232) (hgood : ∀ j (h : j < s.size), ∃ v, nv (s[j].toNat : Int) = some v) (m : Nat) (hm : s.size = 2 * m + 1) (w : World) :
    Calls Try.prog 8 #[.string s] w fun e w' => e = .returned (.tuple #[.slice none 0 0, .int .i64 3, .int .i64 s.size]) ∧ Below w.heap.size w w' := by
  refine (callsIn_wide (n := 3)).1 ?_
  refine callsIn_of_wp_marks Try.func8 rfl trivial ?_ rfl
  simp only [Try.ntmps8, List.size_toArray, List.length_cons, List.length_nil, Nat.reduceAdd, Nat.reduceSub, Array.replicate_succ, Array.replicate_zero, List.push_toArray, List.append_toArray, List.nil_append, List.cons_append]
  refine wpIn_wide.2 ?_
  have HG := Aside0.mk hgood
  have HM := Aside0.mk hm
  clear hgood hm
  go_wp2
  go_loopw [5, 13] (fun v i' wr => ∃ k : Nat, k ≤ s.size ∧ i' = .int .i64 k ∧ Kd.R (Kd.int .u8) 5 wr w.heap.size (fun _ => True) v (digK s k) ∧ Below w.heap.size w wr) (fun _ i' _ => s.size - (intOf i').toNat)
  case atStart => exact ⟨0, Nat.zero_le _, rfl, Kd.R_nil _ _ _ _ _, Below.refl _ _⟩
  case round =>
    obtain ⟨k, hk, rfl, hown, hB⟩ := hrel
    have HO := Aside0.mk hown
    have HB := Aside0.mk hB
    clear hown hB
    by_cases hlt : k < s.size
    · obtain ⟨v, hv⟩ := HG.out k hlt
      have HV := Aside0.mk hv
      clear hv
      go_wp2_with (first
        | (go_at_call 24; refine (nibble_some _ v _ HV.out).mono ?_; rintro e w1 ⟨rfl, rfl⟩)
        | (at_builtin; go_loud (refine Kd.R_append_row (Value.int .u8) (0 : Int) (h1 := fun _ => rfl) (w0 := w) w.heap.size rfl _ _ 24 5 (.int .u8 0) 1 rfl Try.underlying24 info5 rfl (by decide) _ (digK s k) [v] _ 1 1 (fun _ => True) rfl rfl (fun _ _ => trivial) (Kd.R_alloc HO.out _) (c_new .u8 wr [v] 5 1 rfl (by simp)) (below_alloc HB.out _) (by have := below_size HB.out; simp; omega) (by rw [digK_len s k (by omega)]; omega) ?_); intro v' w1 ho hb _ _))
      go_roundw
      case rel => exact ⟨k + 1, by omega, by go_num, by rw [digK_snoc s k hlt, nvD_of HV.out]; exact ho, hb⟩
      case measure => simp [intOf]; omega
    · obtain rfl : k = s.size := by omega
      have hb1 : bits .and .i64 (s.size : Int) 1 = 1 := by have := HM.out; rw [and1 _ (by omega) (by omega)]; omega
      obtain ⟨A, c, hv5, hc5, _⟩ := Kd.R_reads HO.out
      rw [digK_all] at hv5 hc5
      have hl : (dig s).length = s.size := by unfold dig; rw [List.length_map, bytesOf_length]
      rw [hl] at hv5 hc5
      subst hv5
      clear hl
      go_wp2
      exact ret_early (v := .tuple #[.slice none 0 0, .int .i64 3, .int .i64 s.size]) (by simp [results, Try.results8, go_sem]) ⟨rfl, HB.out⟩

set_option maxRecDepth 100000 in
set_option maxHeartbeats 4000000 in
theorem unhex_even (s : ByteArray) (hs : s.size ≤ 140737488351232) (hgood : ∀ j (h : j < s.size), ∃ v, nv (s[j].toNat : Int) = some v) (m : Nat) (hm : s.size = 2 * m) (w : World) :
    Calls Try.prog 8 #[.string s] w fun e w' => ∃ v, e = .returned (.tuple #[v, .int .i64 0, .int .i64 s.size]) ∧ Kd.R (Kd.int .u8) 5 w' w.heap.size (fun _ => True) v (pairs (dig s)) ∧ Below w.heap.size w w' := by
  refine (callsIn_wide (n := 3)).1 ?_
  refine callsIn_of_wp_marks Try.func8 rfl trivial ?_ rfl
  simp only [Try.ntmps8, List.size_toArray, List.length_cons, List.length_nil, Nat.reduceAdd, Nat.reduceSub, Array.replicate_succ, Array.replicate_zero, List.push_toArray, List.append_toArray, List.nil_append, List.cons_append]
  refine wpIn_wide.2 ?_
  have HG := Aside0.mk hgood
  have HM := Aside0.mk hm
  clear hgood hm
  go_wp2
  go_loopw [5, 13] (fun v i' wr => ∃ k : Nat, k ≤ s.size ∧ i' = .int .i64 k ∧ Kd.R (Kd.int .u8) 5 wr w.heap.size (fun _ => True) v (digK s k) ∧ Below w.heap.size w wr) (fun _ i' _ => s.size - (intOf i').toNat)
  case atStart => exact ⟨0, Nat.zero_le _, rfl, Kd.R_nil _ _ _ _ _, Below.refl _ _⟩
  case round =>
    obtain ⟨k, hk, rfl, hown, hB⟩ := hrel
    have HO := Aside0.mk hown
    have HB := Aside0.mk hB
    clear hown hB
    by_cases hlt : k < s.size
    · obtain ⟨v, hv⟩ := HG.out k hlt
      have HV := Aside0.mk hv
      clear hv
      go_wp2_with (first
        | (go_at_call 24; refine (nibble_some _ v _ HV.out).mono ?_; rintro e w1 ⟨rfl, rfl⟩)
        | (at_builtin; go_loud (refine Kd.R_append_row (Value.int .u8) (0 : Int) (h1 := fun _ => rfl) (w0 := w) w.heap.size rfl _ _ 24 5 (.int .u8 0) 1 rfl Try.underlying24 info5 rfl (by decide) _ (digK s k) [v] _ 1 1 (fun _ => True) rfl rfl (fun _ _ => trivial) (Kd.R_alloc HO.out _) (c_new .u8 wr [v] 5 1 rfl (by simp)) (below_alloc HB.out _) (by have := below_size HB.out; simp; omega) (by rw [digK_len s k (by omega)]; omega) ?_); intro v' w1 ho hb _ _))
      go_roundw
      case rel => exact ⟨k + 1, by omega, by go_num, by rw [digK_snoc s k hlt, nvD_of HV.out]; exact ho, hb⟩
      case measure => simp [intOf]; omega
    · obtain rfl : k = s.size := by omega
      have hb1 : bits .and .i64 (s.size : Int) 1 = 0 := by have := HM.out; have := HM.out; rw [and1 _ (by omega) (by omega)]; omega
      obtain ⟨A, c, hv5, hc5, _⟩ := Kd.R_reads HO.out
      rw [digK_all] at hv5 hc5
      have hl : (dig s).length = s.size := by unfold dig; rw [List.length_map, bytesOf_length]
      rw [hl] at hv5 hc5
      subst hv5
      have hg : ∃ g, (0 < m → A = some ⟨g, 0, none⟩ ∧ g < wr.heap.size ∧ (∀ j : Nat, j < s.size → wr.cell? ⟨g, j, none⟩ = some (.int .u8 (rd (dig s) j)))) ∧ c ≤ 9223372036854775807 := by
        have HO' := HO.out
        rw [digK_all] at HO'
        rcases (Kd.own_of_R HO').2 with ⟨e, e2⟩ | ⟨g, cap, cur, e, hge, hh, _, hcp, _⟩
        · injection e with e3 e4 e5
          have := HM.out
          exact ⟨0, fun h => by omega, by omega⟩
        · injection e with e3 e4 e5
          subst e3 e5
          exact ⟨g, fun h => ⟨rfl, blk_lt hh, fun j hj => (Kd.R_celln (0 : Int) HO' (j : Int) (by omega) (by omega)).1⟩, by unfold maxLen at hcp; exact hcp⟩
      obtain ⟨g, hgA, hcap⟩ := hg
      have HGA := Aside0.mk hgA
      have HL := Aside0.mk hl
      clear hl hgA
      go_wp2_with (go_at_call 25; refine (callsIn_wide.1 (chunk_in 3 _ _ _ _)).mono ?_; rintro e w1 ⟨rfl, rfl⟩)
      have bO := Boxed.new wr 24 (.slice none 0 0)
      have bS := Boxed.new (wr.alloc (.cells #[.slice none 0 0] 24)) 24 (.slice A s.size c)
      have bN := Boxed.new ((wr.alloc (.cells #[.slice none 0 0] 24)).alloc (.cells #[.slice A s.size c] 24)) 3 (.int .i64 2)
      rw [World.size_alloc] at bS
      rw [World.size_alloc, World.size_alloc] at bN
      have hBl : Below w.heap.size w (((wr.alloc (.cells #[.slice none 0 0] 24)).alloc (.cells #[.slice A s.size c] 24)).alloc (.cells #[.int .i64 2] 3)) := below_alloc (below_alloc (below_alloc HB.out _) _) _
      have hzl : (((wr.alloc (.cells #[.slice none 0 0] 24)).alloc (.cells #[.slice A s.size c] 24)).alloc (.cells #[.int .i64 2] 3)).heap.size = wr.heap.size + 1 + 1 + 1 := by simp
      obtain ⟨wl, hwl⟩ : ∃ wl, ((wr.alloc (.cells #[.slice none 0 0] 24)).alloc (.cells #[.slice A s.size c] 24)).alloc (.cells #[.int .i64 2] 3) = wl := ⟨_, rfl⟩
      have bO' := (bO.alloc (.cells #[.slice A s.size c] 24)).alloc (.cells #[.int .i64 2] 3)
      have bS' := bS.alloc (.cells #[.int .i64 2] 3)
      have hpg : 0 < m → ∀ j : Nat, j < s.size → wl.cell? ⟨g, j, none⟩ = some (.int .u8 (rd (dig s) j)) := fun h j hj => by
        obtain ⟨_, h2, h3⟩ := HGA.out h
        rw [← hwl]
        exact ((below_alloc (below_alloc (below_alloc (Below.refl wr.heap.size wr) _) _) _).cell (p := ⟨g, j, none⟩) h2).trans (h3 j hj)
      rw [hwl] at bO' bS' bN hBl hzl ⊢
      have HWL := Aside0.mk hwl
      have HS2 := HM.out
      rw [HS2] at bS'
      clear hwl HS2
      refine (wpIn_wide (n := 3)).1 ?_
      refine wpIn_rangeFunc_ownG rfl (by omega) (gf := 30) (lb := #[.pointer (some ⟨wr.heap.size + 1, 0, none⟩), .pointer (some ⟨wr.heap.size + 1 + 1, 0, none⟩)]) rfl trivial (enters_of Try.func30 (by kernel_rfl) rfl)
        (chunk_stops 2 (by omega) (wr.heap.size + 1) (wr.heap.size + 1 + 1) g c m A (fun h => (HGA.out h).1) (by have := HM.out; omega) hcap wl (by omega) (by omega) bS'.cell bN.cell) keepB_t (keepB_b (by omega) (by omega)) (Below.refl _ _) (fun _ => rfl)
        (fun (pre : List (Up m)) W => (∃ v, Boxed W wr.heap.size 24 v ∧ W.ownsRow wl.heap.size 5 1 v (prs s pre).length (encs (Value.int .u8) (prs s pre)) ∧ True) ∧ oldB wr.heap.size wl W ∧ Below w.heap.size w W ∧ (pre.length ≤ m))
        (fun _ (_ : List (Up m)) _ => False)
        (OwnFrom.and (Own.from (holdsRow_own wl.heap.size wr.heap.size 24 5 1 (fun (pre : List (Up m)) => (prs s pre).length) (fun pre => encs (Value.int .u8) (prs s pre)) (fun _ _ => True)) _) (OwnFrom.and (oldB_own _ _) (OwnFrom.and (ownFrom_below (Nat.le_refl _) (by have := below_size HB.out; omega)) (ownFrom_pure _ _))))
        (fun _ _ _ _ _ hs _ _ => hs)
        ⟨⟨_, bO', World.ownsRow_nil _ _ _ _, trivial⟩, oldB_refl _ _, hBl, Nat.zero_le _⟩
        ?a1 ?assign ?body ?done ?stop
      case assign =>
        intro l x W K hK
        gi_wp2
        exact hK
      case body =>
        rintro l pre ⟨x, hx⟩ W ⟨⟨vv, hv, hrow, _⟩, hold, hB, hpm⟩ hlt
        dsimp only
        obtain ⟨hgA, hgl, hgc⟩ := HGA.out (by omega)
        have hc0 := hv.cell
        have hf0 := hv.frozen
        have hgne : g ≠ wr.heap.size := by omega
        have hp0 : W.cell? ⟨g, 2 * x, none⟩ = some (.int .u8 (rd (dig s) (2 * (x : Int)))) := ((cell_keep (hold.2 g (by omega) hgne) _ rfl).trans (hpg (by omega) _ (by have := HM.out; omega))).trans (by simp)
        have hp1 : W.cell? ⟨g, 2 * x + 1, none⟩ = some (.int .u8 (rd (dig s) (2 * (x : Int) + 1))) := ((cell_keep (hold.2 g (by omega) hgne) _ rfl).trans (hpg (by omega) _ (by have := HM.out; omega))).trans (by simp)
        have hlen : ((prs s pre).length + 1) * 1 ≤ 140737488355328 := by rw [prs_len]; have := HM.out; omega
        have HV := Aside0.mk hv
        have HP := Aside0.mk (And.intro hold hB)
        have HX := Aside0.mk (And.intro hgA (And.intro hgl hgc))
        clear hv hB hgA hgl hgc hpg
        gi_wp2
        refine start_in (n := 12) (S := fun w' => w'.cell? ⟨wr.heap.size, 0, none⟩ = some vv ∧ w'.cell? ⟨g, 2 * x, none⟩ = some (.int .u8 (rd (dig s) (2 * (x : Int)))) ∧ w'.cell? ⟨g, 2 * x + 1, none⟩ = some (.int .u8 (rd (dig s) (2 * (x : Int) + 1)))) (ds := [10, 11]) (bs 12 0) (by kernel_rfl) rfl rfl (by rintro ⟨_, _, h⟩; exact h) (by kernel_rfl) ⟨hc0, hp0, hp1⟩ (fun hHeld => ?_)
        have hrowd : Kd.R (Kd.int .u8) 5 W.drew wl.heap.size (fun _ => True) vv (prs s pre) := Kd.R_drew (Kd.R_of_own hrow (fun _ _ => trivial))
        have hbd : Below wl.heap.size W W.drew := below_drew1 (Below.refl wl.heap.size W)
        have hvd : Boxed W.drew wr.heap.size 24 vv := HV.out
        have hkd : KeepsOthers W W.drew := KeepsOthers.drew W
        have hzd : wl.heap.size ≤ W.drew.heap.size := HP.out.1.1
        clear hc0 hf0 hp0 hp1 hrow
        generalize W.drew = wd at hHeld hrowd hbd hvd hkd hzd ⊢
        refine take_ (i := 0) (N := some 40) (v := ?_) (a' := ?_) (bs 12 1) rfl rfl (by kernel_rfl) (fun _ _ _ h => h) (Or.inl ⟨by rfl, ?_⟩) hHeld ?_ ?_; rotate_left; (rintro w' ⟨s0, s1, s2⟩; go_simp; with_reducible rfl); rotate_left; (simp only [Act.put, q1_, q2_, q3_, i64_w, i32_w]; rfl)
        refine pure_ (i := 1) (N := some 41) (v := ?_) (a' := ?_) (bs 12 3) rfl rfl (by kernel_rfl) (fun _ _ _ h => h) (Or.inl ⟨by rfl, ?_⟩) ?_ ?_; rotate_left; (intro w'; go_simp; with_reducible rfl); rotate_left; (simp only [Act.put, q1_, q2_, q3_, i64_w, i32_w]; rfl)
        refine pure_ (i := 2) (N := some 42) (v := ?_) (a' := ?_) (bs 12 7) rfl rfl (by kernel_rfl) (fun _ _ _ h => h) (Or.inl ⟨by rfl, ?_⟩) ?_ ?_; rotate_left; (intro w'; go_simp; with_reducible rfl); rotate_left; (simp only [Act.put, q1_, q2_, q3_, i64_w, i32_w]; rfl)
        refine take_ (i := 3) (N := some 43) (v := ?_) (a' := ?_) (bs 12 15) rfl rfl (by kernel_rfl) (fun _ _ _ h => h) (Or.inl ⟨by rfl, ?_⟩) hHeld ?_ ?_; rotate_left; (rintro w' ⟨s0, s1, s2⟩; go_simp; with_reducible rfl); rotate_left; (simp only [Act.put, q1_, q2_, q3_, i64_w, i32_w]; rfl)
        refine pure_ (i := 4) (N := some 44) (v := ?_) (a' := ?_) (bs 12 31) rfl rfl (by kernel_rfl) (fun _ _ _ h => h) (Or.inl ⟨by rfl, ?_⟩) ?_ ?_; rotate_left; (intro w'; go_simp; with_reducible rfl); rotate_left; (simp only [Act.put, q1_, q2_, q3_, i64_w, i32_w]; rfl)
        refine pure_ (i := 5) (N := some 45) (v := ?_) (a' := ?_) (bs 12 63) rfl rfl (by kernel_rfl) (fun _ _ _ h => h) (Or.inl ⟨by rfl, ?_⟩) ?_ ?_; rotate_left; (intro w'; go_simp; with_reducible rfl); rotate_left; (simp only [Act.put, q1_, q2_, q3_, i64_w, i32_w]; rfl)
        refine pure_ (i := 6) (N := some 46) (v := ?_) (a' := ?_) (bs 12 127) rfl rfl (by kernel_rfl) (fun _ _ _ h => h) (Or.inl ⟨by rfl, ?_⟩) ?_ ?_; rotate_left; (intro w'; go_simp; with_reducible rfl); rotate_left; (simp only [Act.put, q1_, q2_, q3_, i64_w, i32_w]; rfl)
        refine take_ (i := 7) (N := some 47) (v := ?_) (a' := ?_) (bs 12 255) rfl rfl (by kernel_rfl) (fun _ _ _ h => h) (Or.inl ⟨by rfl, ?_⟩) hHeld ?_ ?_; rotate_left; (rintro w' ⟨s0, s1, s2⟩; go_simp; with_reducible rfl); rotate_left; (simp only [Act.put, q1_, q2_, q3_, i64_w, i32_w]; rfl)
        refine pure_ (i := 8) (N := some 48) (v := ?_) (a' := ?_) (bs 12 511) rfl rfl (by kernel_rfl) (fun _ _ _ h => h) (Or.inl ⟨by rfl, ?_⟩) ?_ ?_; rotate_left; (intro w'; go_simp; with_reducible rfl); rotate_left; (simp only [Act.put, q1_, q2_, q3_, i64_w, i32_w]; rfl)
        refine one_ (i := 9) (N := some 49) (bs 12 1023) rfl rfl (by kernel_rfl) (by decide) (fun K hK => ?_)
        refine value_ (w1 := ?_) (v := ?_) (by rfl) rfl ?_ ?_; rotate_left 2; (go_simp; constructor; rfl; rfl); refine hK.out _ _ ⟨(World.cell?_alloc_lt _ _ _ (World.block_lt_of_cell? _ _ hHeld.1)).trans hHeld.1, (World.cell?_alloc_lt _ _ _ (World.block_lt_of_cell? _ _ hHeld.2.1)).trans hHeld.2.1, (World.cell?_alloc_lt _ _ _ (World.block_lt_of_cell? _ _ hHeld.2.2)).trans hHeld.2.2⟩ (fun hHeld => ?_); clear hK K
        refine norm_ (a' := ?_) ?_ ?_; rotate_left; (show Act.put _ (some 49) _ = _; simp only [Act.put, q1_, q2_, q3_, i64_w, i32_w]; rfl)
        refine last_ (i := 10) (N := some 50) (bs 12 2047) rfl rfl (by kernel_rfl) (by decide) (fun K hK => ?_)
        refine Kd.R_append_step (Kd.int .u8) (w0 := W) wl.heap.size (by rfl) (.tmp 40) (.tmp 49) 24 5 (.int .u8 0) 1 rfl Try.underlying24 info5 rfl (by decide) (by omega) vv (prs s pre) (pr1 s x) [.int .u8 (pr1 s x)] (fun _ => True) (fun _ => False) rfl rfl ?aP (fun _ hk => hk.elim) ?aF ?aO ?aB ?aS ?aL ?_
        (case aP => exact rfl)
        (case aF => exact fun _ _ => trivial)
        (case aO => exact hrowd)
        (case aB => exact hbd)
        (case aS => exact hzd)
        (case aL => exact hlen)
        intro v1 w1 ho hb hg hat
        obtain ⟨g', cap', rfl⟩ : ∃ g' cap', v1 = .slice (some ⟨g', 0, none⟩) ((prs s pre).length + 1) cap' := by have h2 := Kd.own_of_R ho; rw [List.length_append] at h2; exact ownsRow_succ h2
        have hv1 : Boxed w1 wr.heap.size 24 vv := hvd.kept hg (hvd.not_row (by decide) (Kd.own_of_R hrowd))
        have hc1 := hv1.cell
        have hf1 := hv1.frozen
        refine hK.out _ _ ?_; clear hK K
        refine norm_ (a' := ?_) ?_ ?_; rotate_left; (show Act.put _ (some 50) _ = _; simp only [Act.put, q1_, q2_, q3_, i64_w, i32_w]; rfl)
        refine last_ (i := 11) (N := none) (bs 12 4095) rfl rfl (by kernel_rfl) (by decide) (fun K hK => ?_)
        refine skip_ (w1 := w1.setCell ⟨wr.heap.size, 0, none⟩ (.slice (some ⟨g', 0, none⟩) ((prs s pre).length + 1) cap')) (by rfl) rfl (by go_simp) ?_
        refine hK.out _ _ ?_; clear hK K
        refine done_ (by kernel_rfl) ?_
        obtain ⟨hold, hB⟩ := HP.out
        have hbs := below_size HB.out
        have hk2 : ∀ k, k < wl.heap.size → k ≠ wr.heap.size → (w1.setCell ⟨wr.heap.size, 0, none⟩ (.slice (some ⟨g', 0, none⟩) ((prs s pre).length + 1) cap')).heap[k]? = W.heap[k]? := fun k hk hne => (Below.heap_setCell _ _ _ k hne).trans (hb.block k hk)
        refine ⟨((hkd.trans (KeepsOthers.of_grownBy hg (fun j o ej hj => ?_))).trans (KeepsOthers.setCell _ _ _)).from _, ⟨hk2 _ (by omega) (by omega), hk2 _ (by omega) (by omega)⟩, ⟨⟨_, hv1.set _, ?_, trivial⟩, ⟨?_, fun k hk hne => (hk2 k hk hne).trans (hold.2 k hk hne)⟩, ?_, ?_⟩⟩
        · obtain ⟨cells, hcl⟩ := own_typed (Kd.own_of_R hrowd) j ej
          rw [hcl] at hj; cases hj; rfl
        · rw [prs_snoc]
          exact (Kd.own_of_R ho).kept (grownBy_setCell' w1 _ _) (.inr (hv1.not_row (by decide) (Kd.own_of_R ho)).symm)
        · exact Nat.le_trans hzd (Nat.le_trans hg.size (grownBy_setCell' w1 _ _).size)
        · exact hB.trans ((hb.mono (by omega)).setCell (p := ⟨wr.heap.size, 0, none⟩) (by simp; omega) _)
        · rw [List.length_append]; simp; omega
      case done =>
        rintro D ys W hD hys ⟨⟨v, hv, hrow, _⟩, hold, hB, _⟩ hK
        have hc := hv.cell
        go_wp2
        refine ⟨by simp, .inl ⟨_, _, rfl, run_takeDeferred hK, ?_⟩⟩
        rw [prs_all s ys hys HM.out] at hrow
        have hbs := below_size HB.out
        refine ⟨.tuple #[v, .int .i64 0, .int .i64 s.size], by simp [results, Try.results8, go_sem], v, rfl, Kd.R_lower (Kd.R_of_own (ownsRow_putObj hrow _ hK rfl) (fun _ _ => trivial)) (by omega), hB.trans (belowK_b (w := w) (Nat.le_refl _) W D _ _ (by omega) hK rfl rfl)⟩
      case stop =>
        rintro D c' pre W _ _ h _
        exact h.elim

def badAt (s : ByteArray) : Option Nat := (bytesOf s).findIdx? fun c => (nv c).isNone
def unhex (s : ByteArray) : Option (List Int × Int × Int) :=
  if s.size ≤ 140737488351232 then some (match badAt s with | some i => ([], 11, (i : Int)) | none => if s.size % 2 = 1 then ([], 3, (s.size : Int)) else (pairs (dig s), 0, (s.size : Int))) else none
theorem byte_get (s : ByteArray) (j : Nat) (h : j < s.size) (h' : j < (bytesOf s).length) : (bytesOf s)[j] = (s[j].toNat : Int) := by
  simp [bytesOf]
  rfl
theorem unhex_calls (s : ByteArray) (r1 : List Int) (r2 r3 : Int) (w : World) (h : unhex s = some (r1, r2, r3)) :
    Calls Try.prog 8 #[.string s] w fun e w' => ∃ v0_ : Value, e = .returned (.tuple #[v0_, .int .i64 r2, .int .i64 r3]) ∧ Kd.R (Kd.int .u8) 5 w' w.heap.size (fun _ => True) v0_ r1 ∧ Below w.heap.size w w' := by
  unfold unhex at h
  by_cases hs : s.size ≤ 140737488351232
  · rw [if_pos hs] at h
    have hl : (bytesOf s).length = s.size := bytesOf_length s
    cases hb : badAt s with
    | some i =>
      rw [hb] at h
      simp only [Option.some.injEq, Prod.mk.injEq] at h
      obtain ⟨rfl, rfl, rfl⟩ := h
      unfold badAt at hb
      obtain ⟨hi, h1, h2⟩ := List.findIdx?_eq_some_iff_getElem.1 hb
      rw [hl] at hi
      refine (unhex_bad s hs i hi (fun j hj => ?_) ?_ w).mono ?_
      · have h3 := h2 j hj
        rw [byte_get s j (by omega)] at h3
        exact Option.ne_none_iff_exists'.1 (fun e => by simp [e] at h3)
      · rw [byte_get s i hi] at h1
        simpa using h1
      · rintro e w' ⟨rfl, hB⟩
        exact ⟨_, rfl, Kd.R_nil _ _ _ _ _, hB⟩
    | none =>
      rw [hb] at h
      have hg : ∀ j (h : j < s.size), ∃ v, nv (s[j].toNat : Int) = some v := fun j hj => by
        unfold badAt at hb
        have h3 := List.findIdx?_eq_none_iff.1 hb ((bytesOf s)[j]'(by omega)) (List.getElem_mem _)
        rw [byte_get s j hj] at h3
        exact Option.ne_none_iff_exists'.1 (fun e => by simp [e] at h3)
      by_cases ho : s.size % 2 = 1
      · simp only [Option.some.injEq, if_pos ho, Prod.mk.injEq] at h
        obtain ⟨rfl, rfl, rfl⟩ := h
        refine (unhex_odd s hs hg (s.size / 2) (by omega) w).mono ?_
        rintro e w' ⟨rfl, hB⟩
        exact ⟨_, rfl, Kd.R_nil _ _ _ _ _, hB⟩
      · simp only [Option.some.injEq, if_neg ho, Prod.mk.injEq] at h
        obtain ⟨rfl, rfl, rfl⟩ := h
        exact unhex_even s hs hg (s.size / 2) (by omega) w
  · rw [if_neg hs] at h
    exact absurd h (by simp)
end Go.Proofs.Ytpadboidkpembaa.Hand
