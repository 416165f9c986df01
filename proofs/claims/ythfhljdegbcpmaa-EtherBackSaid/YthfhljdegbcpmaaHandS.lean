/- The contract of ether.Parse: what it computes, by hand. -/
import Derived.Test.YthfhljdegbcpmaaHandT
namespace Go.Proofs.Ythfhljdegbcpmaa.Hand
open Go.RowKit Go.Proofs.YthfhljdegbcpmaaW.PrintWords Go.Proofs.YthfhljdegbcpmaaW.PrintLast Go.Proofs.YthfhljdegbcpmaaW.PrintMore Go.Proofs.Ythfhljdegbcpmaa.PK Go.Proofs.Ythfhljdegbcpmaa.Util
set_option linter.unusedVariables false
set_option linter.unusedSimpArgs false
attribute [local go_sem] Oper.semAt_some

instance (l : List Int) : Decidable (oct l) := inferInstanceAs (Decidable (∀ x ∈ l, _))
def parseF (l : List Int) : Option (Int × Int × Int × List Int × Int) :=
  if oct l then (if l.length < 14 then some (0, 0, 0, [], 8) else if 65535 < l.length then some (0, 0, 0, [], 5) else some (big (l.take 6), big ((l.drop 6).take 6), big (((l.drop 6).drop 6).take 2), ((l.drop 6).drop 6).drop 2, 0)) else none
set_option maxHeartbeats 4000000 in
set_option maxRecDepth 100000 in
theorem parse_bad (A : Option Addr) (c : Nat) (l : List Int) (n : Nat) (hn : l.length = n) (hc : n ≤ c) (w : World) (h : n < 14 ∨ (14 ≤ n ∧ 65535 < n)) :
    Calls Try.prog 11 #[.slice A n c] w fun e w' => e = .returned (.tuple #[.agg #[.int .u64 0, .int .u64 0, .int .i64 0, .slice none 0 0], .int .i64 (if n < 14 then 8 else 5)]) ∧ Below w.heap.size w w' := by
  rcases h with h | ⟨h, h2⟩
  · rw [if_pos h]
    go_enter Try.func11, Try.ntmps11
    go_wp2
    refine bodyPost_ret (v := .tuple #[.agg #[.int .u64 0, .int .u64 0, .int .i64 0, .slice none 0 0], .int .i64 8]) (w := w.alloc (.cells #[.int .u64 0, .int .u64 0, .int .i64 0, .slice none 0 0] 25)) ?_ rfl ⟨rfl, below_alloc (Below.refl _ _) _⟩
    simp [results, Try.results11, go_sem]
  · rw [if_neg (by omega)]
    go_enter Try.func11, Try.ntmps11
    go_wp2
    refine bodyPost_ret (v := .tuple #[.agg #[.int .u64 0, .int .u64 0, .int .i64 0, .slice none 0 0], .int .i64 5]) (w := w.alloc (.cells #[.int .u64 0, .int .u64 0, .int .i64 0, .slice none 0 0] 25)) ?_ rfl ⟨rfl, below_alloc (Below.refl _ _) _⟩
    simp [results, Try.results11, go_sem]
theorem cells4 {w : World} {b : Nat} {x0 x1 x2 x3 : Value} {t : TypeId} (h : w.heap[b]? = some (.cells #[x0, x1, x2, x3] t)) :
    w.cell? ⟨b, 0, none⟩ = some x0 ∧ w.cell? ⟨b, 1, none⟩ = some x1 ∧ w.cell? ⟨b, 2, none⟩ = some x2 ∧ w.cell? ⟨b, 3, none⟩ = some x3 ∧
      w.frozen? ⟨b, 0, none⟩ = false ∧ w.frozen? ⟨b, 1, none⟩ = false ∧ w.frozen? ⟨b, 2, none⟩ = false ∧ w.frozen? ⟨b, 3, none⟩ = false := by
  simp [World.cell?, World.frozen?, h]
theorem clone_n (A : Option Addr) (c : Nat) (l : List Int) (n : Nat) (hn : l.length = n) (w : World) (hr : Kd.C (Kd.int .u8) w A l.length l) (hc : n ≤ c) (hs : n ≤ 140737488351232) :
    Calls Try.prog 22 #[.slice A n c] w fun e w' => ∃ v, e = .returned v ∧ Kd.R (Kd.int .u8) 5 w' w.heap.size (fun _ => True) v l ∧ Below w.heap.size w w' := by
  subst hn
  exact clone_calls A c l w hr hc hs
theorem blk3 {A w1 w2 w3 : World} {g b : Nat} {o : Obj} (h : A.heap[b]? = some o) (hb : b ≠ g) (k1 : sameB g A w1) (k2 : sameB g w1 w2) (k3 : sameB g w2 w3) : w3.heap[b]? = some o := by
  rw [k3.2 b hb, k2.2 b hb, k1.2 b hb, h]
set_option maxHeartbeats 4000000 in
set_option maxRecDepth 100000 in
theorem parse_ok (A : Option Addr) (c : Nat) (l : List Int) (n : Nat) (hn : l.length = n) (w : World) (hr : Kd.C (Kd.int .u8) w A l.length l) (hc : n ≤ c) (h1 : 14 ≤ n) (h2 : n ≤ 65535) (ho : oct l) :
    Calls Try.prog 11 #[.slice A n c] w fun e w' => ∃ v3_ : Value, e = .returned (.tuple #[.agg #[.int .u64 (big (l.take 6)), .int .u64 (big ((l.drop 6).take 6)), .int .i64 (big (((l.drop 6).drop 6).take 2)), v3_], .int .i64 0]) ∧ Kd.R (Kd.int .u8) 5 w' w.heap.size (fun _ => True) v3_ (((l.drop 6).drop 6).drop 2) ∧ Below w.heap.size w w' := by
  have HR := Aside0.mk hr
  have HO := Aside0.mk ho
  have HN := Aside0.mk hn
  have ho1 : oct (l.drop 6) := fun x hx => ho x (List.mem_of_mem_drop hx)
  have ho2 : oct ((l.drop 6).drop 6) := fun x hx => ho1 x (List.mem_of_mem_drop hx)
  have hb2 := big_bd (((l.drop 6).drop 6).take 2) (fun x hx => ho2 x (List.mem_of_mem_take hx))
  rw [show (((l.drop 6).drop 6).take 2).length = 2 by simp; omega] at hb2
  have HO1 := Aside0.mk ho1
  have HO2 := Aside0.mk ho2
  obtain ⟨q, hq⟩ : ∃ q, big (((l.drop 6).drop 6).take 2) = q := ⟨_, rfl⟩
  rw [hq] at hb2 ⊢
  have HQ := Aside0.mk hq
  obtain ⟨hb0, hb1⟩ := hb2
  replace hb1 : q < 65536 := hb1
  clear hr ho hn ho1 ho2 hq
  go_enter Try.func11, Try.ntmps11
  go_wp2_with (go_at_call 21; fail)
  have hBl : Below w.heap.size w ((w.alloc (.cells #[.int .u64 0, .int .u64 0, .int .i64 0, .slice none 0 0] 25)).alloc (.cells #[.slice A n c] 53)) := below_alloc (below_alloc (Below.refl _ _) _) _
  have hbx := Boxed.new (w.alloc (.cells #[.int .u64 0, .int .u64 0, .int .i64 0, .slice none 0 0] 25)) 53 (.slice A n c)
  have hzl : ((w.alloc (.cells #[.int .u64 0, .int .u64 0, .int .i64 0, .slice none 0 0] 25)).alloc (.cells #[.slice A n c] 53)).heap.size = w.heap.size + 2 := by simp
  have hbr : ((w.alloc (.cells #[.int .u64 0, .int .u64 0, .int .i64 0, .slice none 0 0] 25)).alloc (.cells #[.slice A n c] 53)).heap[w.heap.size]? = some (.cells #[.int .u64 0, .int .u64 0, .int .i64 0, .slice none 0 0] 25) := by
    rw [Below.heap_alloc _ _ _ (by simp)]; exact World.alloc_heap_new w _
  rw [World.size_alloc] at hbx
  obtain ⟨wl, hwl⟩ : ∃ wl, (w.alloc (.cells #[.int .u64 0, .int .u64 0, .int .i64 0, .slice none 0 0] 25)).alloc (.cells #[.slice A n c] 53) = wl := ⟨_, rfl⟩
  rw [hwl] at hBl hbx hzl hbr ⊢
  clear hwl
  refine (take_calls w (w.heap.size + 1) A c l 6 HR.out (by rw [HN.out]; exact hc) HO.out (by decide) (by decide) (by rw [HN.out]; omega) wl hBl (by omega) (by rw [HN.out]; exact hbx)).mono ?_
  rintro e w1 ⟨rfl, ⟨A1, hx1, hc1⟩, hB1, hs1⟩
  go_wp2_with (go_at_call 21; fail)
  refine (take_calls w (w.heap.size + 1) A1 (c - 6) (l.drop 6) 6 hc1 (by rw [List.length_drop, HN.out]; omega) HO1.out (by decide) (by decide) (by rw [List.length_drop, HN.out]; omega) w1 hB1 (by omega) hx1).mono ?_
  rintro e w2 ⟨rfl, ⟨A2, hx2, hc2⟩, hB2, hs2⟩
  go_wp2_with (go_at_call 21; fail)
  refine (take_calls w (w.heap.size + 1) A2 (c - 6 - 6) ((l.drop 6).drop 6) 2 hc2 (by simp only [List.length_drop, HN.out]; omega) HO2.out (by decide) (by decide) (by simp only [List.length_drop, HN.out]; omega) w2 hB2 (by omega) hx2).mono ?_
  rintro e w3 ⟨rfl, ⟨A3, hx3, hc3⟩, hB3, hs3⟩
  have hbr3 := blk3 hbr (by omega) hs1 hs2 hs3
  have hz3 : w3.heap.size = w.heap.size + 2 := by rw [hs3.1, hs2.1, hs1.1, hzl]
  rw [HQ.out]
  have HS := Aside0.mk (And.intro hs1 (And.intro hs2 hs3))
  have HX := Aside0.mk hx3
  have HC := Aside0.mk hc3
  have HB := Aside0.mk hB3
  have HBR := Aside0.mk hbr3
  have hcell := hx3.cell
  clear hs1 hs2 hs3 hx1 hx2 hx3 hc1 hc2 hc3 hB1 hB2 hB3 hbr hbr3 hBl hzl hbx
  go_wp2_with (go_at_call 22; fail)
  refine (clone_n A3 (c - 6 - 6 - 2) (((l.drop 6).drop 6).drop 2) (l.length - 14) (by simp only [List.length_drop]; omega) _ (Kd.C_below HC.out (below_alloc HB.out _)) (by rw [HN.out]; omega) (by rw [HN.out]; omega)).mono ?_
  rintro e w5 ⟨v, rfl, hR5, hB5⟩
  obtain ⟨A5, c5, rfl, hc5, _⟩ := Kd.R_reads hR5
  have hs4 : (w3.alloc (.cells #[.int .u64 (big (l.take 6)), .int .u64 (big ((l.drop 6).take 6)), .int .i64 q, .slice none 0 0] 25)).heap.size = w.heap.size + 3 := by simp [hz3]
  rw [hs4] at hB5 hR5
  have hb5 : Below w.heap.size w w5 := (below_alloc HB.out _).trans (hB5.mono (by omega))
  have hr5 : w5.heap[w.heap.size]? = some (.cells #[.int .u64 0, .int .u64 0, .int .i64 0, .slice none 0 0] 25) := by
    rw [hB5.block _ (by omega), Below.heap_alloc _ _ _ (by omega)]; exact HBR.out
  have he5 : w5.heap[w.heap.size + 2]? = some (.cells #[.int .u64 (big (l.take 6)), .int .u64 (big ((l.drop 6).take 6)), .int .i64 q, .slice none 0 0] 25) := by
    rw [hB5.block _ (by omega), ← hz3]; exact World.alloc_heap_new w3 _
  obtain ⟨f0, f1, f2, f3, f4, f5, f6, f7⟩ := cells4 hr5
  obtain ⟨g0, g1, g2, g3, g4, g5, g6, g7⟩ := cells4 he5
  have hl14 : (((l.drop 6).drop 6).drop 2).length = l.length - 14 := by simp only [List.length_drop]; omega
  have HR5 := Aside0.mk (And.intro hR5 hb5)
  clear hR5 hb5 hr5 he5 hcell hB5 hs4
  go_wp2
  obtain ⟨hR6, hB6⟩ := HR5.out
  rw [hl14] at hR6
  have hR7 := Kd.R_mono (Kd.R_bound hR6) (ok' := fun k => w.heap.size + 3 ≤ k) (fun k hk => hk.2.1)
  refine bodyPost_ret (v := .tuple #[.agg #[.int .u64 (big (l.take 6)), .int .u64 (big ((l.drop 6).take 6)), .int .i64 q, .slice A5 (l.length - 14) c5], .int .i64 0]) ?_ rfl ⟨.slice A5 (l.length - 14) c5, rfl, Kd.R_mono (ok := fun k => w.heap.size + 3 ≤ k) (Kd.R_lower ?_ (Nat.le_add_right _ 3)) (fun _ _ => trivial), ?_⟩
  · simp [results, Try.results11, go_sem, *]
  · exact Kd.R_far (Kd.R_far (Kd.R_far (Kd.R_far (Kd.R_far hR7 (fun k hk => by simp; omega) _) (fun k hk => by simp; omega) _) (fun k hk => by simp; omega) _) (fun k hk => by simp; omega) _) (fun k hk => by simp; omega) _
  · exact ((((hB6.setCell (by simp) _).setCell (by simp) _).setCell (by simp) _).setCell (by simp) _).setCell (by simp) _
theorem parse_calls (A : Option Addr) (c : Nat) (l : List Int) (r1 r2 r3 : Int) (r4 : List Int) (r5 : Int) (w : World) (hr : Kd.C (Kd.int .u8) w A l.length l) (hc : l.length ≤ c) (h : parseF l = some (r1, r2, r3, r4, r5)) :
    Calls Try.prog 11 #[.slice A l.length c] w fun e w' => ∃ v3_ : Value, e = .returned (.tuple #[.agg #[.int .u64 r1, .int .u64 r2, .int .i64 r3, v3_], .int .i64 r5]) ∧ Kd.R (Kd.int .u8) 5 w' w.heap.size (fun _ => True) v3_ r4 ∧ Below w.heap.size w w' := by
  unfold parseF at h
  by_cases ho : oct l
  · rw [if_pos ho] at h
    by_cases h1 : l.length < 14
    · rw [if_pos h1] at h
      simp only [Option.some.injEq, Prod.mk.injEq] at h
      obtain ⟨rfl, rfl, rfl, rfl, rfl⟩ := h
      refine (parse_bad A c l l.length rfl hc w (.inl h1)).mono ?_
      rintro e w' ⟨rfl, hB⟩
      exact ⟨_, by rw [if_pos h1], Kd.R_nil _ _ _ _ _, hB⟩
    · rw [if_neg h1] at h
      by_cases h2 : 65535 < l.length
      · rw [if_pos h2] at h
        simp only [Option.some.injEq, Prod.mk.injEq] at h
        obtain ⟨rfl, rfl, rfl, rfl, rfl⟩ := h
        refine (parse_bad A c l l.length rfl hc w (.inr ⟨by omega, h2⟩)).mono ?_
        rintro e w' ⟨rfl, hB⟩
        exact ⟨_, by rw [if_neg h1], Kd.R_nil _ _ _ _ _, hB⟩
      · rw [if_neg h2] at h
        simp only [Option.some.injEq, Prod.mk.injEq] at h
        obtain ⟨rfl, rfl, rfl, rfl, rfl⟩ := h
        exact parse_ok A c l l.length rfl w hr hc (by omega) (by omega) ho
  · rw [if_neg ho] at h
    exact absurd h (by simp)
end Go.Proofs.Ythfhljdegbcpmaa.Hand
