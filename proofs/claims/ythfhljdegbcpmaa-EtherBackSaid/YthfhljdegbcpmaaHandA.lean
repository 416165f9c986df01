/- The contract of ether.ParseArp: what it computes, by hand. -/
import Derived.Test.YthfhljdegbcpmaaHandS
import Derived.Laws.BytesArg
import Derived.Laws.Strings
namespace Go.Proofs.Ythfhljdegbcpmaa.Hand
open Go.RowKit Go.Proofs.YthfhljdegbcpmaaW.PrintWords Go.Proofs.YthfhljdegbcpmaaW.PrintLast Go.Proofs.YthfhljdegbcpmaaW.PrintMore Go.Proofs.Ythfhljdegbcpmaa.PK Go.Proofs.Ythfhljdegbcpmaa.Util
set_option linter.unusedVariables false
set_option linter.unusedSimpArgs false
attribute [local go_sem] Oper.semAt_some

def arpZ : Obj := .cells #[.int .i64 0, .int .u64 0, .int .u32 0, .int .u64 0, .int .u32 0] 39
theorem cells5 {w : World} {b : Nat} {x0 x1 x2 x3 x4 : Value} {t : TypeId} (h : w.heap[b]? = some (.cells #[x0, x1, x2, x3, x4] t)) :
    w.cell? ⟨b, 0, none⟩ = some x0 ∧ w.cell? ⟨b, 1, none⟩ = some x1 ∧ w.cell? ⟨b, 2, none⟩ = some x2 ∧ w.cell? ⟨b, 3, none⟩ = some x3 ∧ w.cell? ⟨b, 4, none⟩ = some x4 ∧
      w.frozen? ⟨b, 0, none⟩ = false ∧ w.frozen? ⟨b, 1, none⟩ = false ∧ w.frozen? ⟨b, 2, none⟩ = false ∧ w.frozen? ⟨b, 3, none⟩ = false ∧ w.frozen? ⟨b, 4, none⟩ = false := by
  simp [World.cell?, World.frozen?, h]
theorem conv7 (A : Option Addr) (c : Nat) (l : List Int) (w : World) (hr : Kd.C (Kd.int .u8) w A l.length l) (h : 7 ≤ l.length) (o : Obj) :
    (convert 23 9 (.slice A 7 c)).run Try.prog (w.alloc o) = .ok (.string (strOfNums (l.take 7))) (w.alloc o) := by
  have hx := Kd.C_take (m := 7) (Kd.C_below hr (below_alloc (Below.refl w.heap.size w) o)) h
  rw [List.length_take, Nat.min_eq_left h] at hx
  exact Kd.C_string Try.underlying23 Try.underlying5 Try.underlying9 hx
set_option maxHeartbeats 4000000 in
set_option maxRecDepth 100000 in
theorem arp_short (A : Option Addr) (c : Nat) (n : Nat) (hc : n ≤ c) (w : World) (h : n < 28) :
    Calls Try.prog 17 #[.slice A n c] w fun e w' => e = .returned (.tuple #[.agg #[.int .i64 0, .int .u64 0, .int .u32 0, .int .u64 0, .int .u32 0], .int .i64 8]) ∧ Below w.heap.size w w' := by
  go_enter Try.func17, Try.ntmps17
  go_wp2
  refine bodyPost_ret (v := .tuple #[.agg #[.int .i64 0, .int .u64 0, .int .u32 0, .int .u64 0, .int .u32 0], .int .i64 8]) (w := w.alloc (.cells #[.int .i64 0, .int .u64 0, .int .u32 0, .int .u64 0, .int .u32 0] 39)) ?_ rfl ⟨rfl, below_alloc (Below.refl _ _) _⟩
  simp [results, Try.results17, go_sem]
set_option maxHeartbeats 4000000 in
set_option maxRecDepth 100000 in
theorem arp_bad (A : Option Addr) (c : Nat) (l : List Int) (n : Nat) (hn : l.length = n) (w : World) (hr : Kd.C (Kd.int .u8) w A l.length l) (hc : n ≤ c) (h : 28 ≤ n) (S : ByteArray) (hS : strOfNums (l.take 7) = S) (x7 : Int) (hx : rd l 7 = x7)
    (hb : S.toList ≠ [0, 1, 8, 0, 6, 4, 0] ∨ (S.toList = [0, 1, 8, 0, 6, 4, 0] ∧ (x7 < 1 ∨ (1 ≤ x7 ∧ 2 < x7)))) :
    Calls Try.prog 17 #[.slice A n c] w fun e w' => e = .returned (.tuple #[.agg #[.int .i64 0, .int .u64 0, .int .u32 0, .int .u64 0, .int .u32 0], .int .i64 31]) ∧ Below w.heap.size w w' := by
  have hconv := conv7 A c l w hr (by omega) (.cells #[.int .i64 0, .int .u64 0, .int .u32 0, .int .u64 0, .int .u32 0] 39)
  obtain ⟨ad, hA, hcell⟩ := Kd.at_int (Kd.C_below hr (below_alloc (Below.refl w.heap.size w) (.cells #[.int .i64 0, .int .u64 0, .int .u32 0, .int .u64 0, .int .u32 0] 39))) 7 (by omega) (by omega)
  subst hA
  rw [hx] at hcell
  replace hcell : World.cell? _ { ad with off := ad.off + 7, spot := none } = _ := hcell
  rw [hS] at hconv
  clear hS hr hn hx
  have hend : Exists fun v => v = Value.tuple #[.agg #[.int .i64 0, .int .u64 0, .int .u32 0, .int .u64 0, .int .u32 0], .int .i64 31] := ⟨_, rfl⟩
  rcases hb with hb | ⟨hb, hb2 | ⟨hb2, hb3⟩⟩
  all_goals
    go_enter Try.func17, Try.ntmps17
    go_wp2
    refine bodyPost_ret (v := .tuple #[.agg #[.int .i64 0, .int .u64 0, .int .u32 0, .int .u64 0, .int .u32 0], .int .i64 31]) (w := w.alloc (.cells #[.int .i64 0, .int .u64 0, .int .u32 0, .int .u64 0, .int .u32 0] 39)) ?_ rfl ⟨rfl, below_alloc (Below.refl _ _) _⟩
    simp [results, Try.results17, go_sem]
set_option maxHeartbeats 4000000 in
set_option maxRecDepth 100000 in
theorem arp_ok (A : Option Addr) (c : Nat) (l : List Int) (n : Nat) (hn : l.length = n) (w : World) (hr : Kd.C (Kd.int .u8) w A l.length l) (hc : n ≤ c) (h : 28 ≤ n) (ho : oct l) (S : ByteArray) (hS : strOfNums (l.take 7) = S) (hb : S.toList = [0, 1, 8, 0, 6, 4, 0]) (x7 : Int) (hx : rd l 7 = x7) (hx1 : 1 ≤ x7) (hx2 : x7 ≤ 2)
    (r : List Int) (hr7 : l.drop 7 = r) :
    Calls Try.prog 17 #[.slice A n c] w fun e w' => e = .returned (.tuple #[.agg #[.int .i64 (big (r.take 1)), .int .u64 (big ((r.drop 1).take 6)), .int .u32 (big (((r.drop 1).drop 6).take 4)), .int .u64 (big ((((r.drop 1).drop 6).drop 4).take 6)), .int .u32 (big (((((r.drop 1).drop 6).drop 4).drop 6).take 4))], .int .i64 0]) ∧ Below w.heap.size w w' := by
  have hconv := conv7 A c l w hr (by omega) (.cells #[.int .i64 0, .int .u64 0, .int .u32 0, .int .u64 0, .int .u32 0] 39)
  obtain ⟨ad, hA, hcell⟩ := Kd.at_int (Kd.C_below hr (below_alloc (Below.refl w.heap.size w) (.cells #[.int .i64 0, .int .u64 0, .int .u32 0, .int .u64 0, .int .u32 0] 39))) 7 (by omega) (by omega)
  subst hA
  rw [hx] at hcell
  replace hcell : World.cell? _ { ad with off := ad.off + 7, spot := none } = _ := hcell
  rw [hS] at hconv
  have hd := Kd.C_drop (c := c) hr (m := 7) (by omega) (by omega)
  rw [if_neg (by omega), hr7] at hd
  have ho0 : oct r := fun x hx => ho x (by rw [← hr7] at hx; exact List.mem_of_mem_drop hx)
  have hrl : r.length = n - 7 := by rw [← hr7, List.length_drop, hn]
  have ho1 : oct (r.drop 1) := fun x hx => ho0 x (List.mem_of_mem_drop hx)
  have ho2 : oct ((r.drop 1).drop 6) := fun x hx => ho1 x (List.mem_of_mem_drop hx)
  have ho3 : oct (((r.drop 1).drop 6).drop 4) := fun x hx => ho2 x (List.mem_of_mem_drop hx)
  have ho4 : oct ((((r.drop 1).drop 6).drop 4).drop 6) := fun x hx => ho3 x (List.mem_of_mem_drop hx)
  have b1 := big_bd (r.take 1) (fun x hx => ho0 x (List.mem_of_mem_take hx))
  rw [show (r.take 1).length = 1 by simp; omega] at b1
  have b2 := big_bd (((r.drop 1).drop 6).take 4) (fun x hx => ho2 x (List.mem_of_mem_take hx))
  rw [show (((r.drop 1).drop 6).take 4).length = 4 by simp; omega] at b2
  have b3 := big_bd (((((r.drop 1).drop 6).drop 4).drop 6).take 4) (fun x hx => ho4 x (List.mem_of_mem_take hx))
  rw [show (((((r.drop 1).drop 6).drop 4).drop 6).take 4).length = 4 by simp; omega] at b3
  obtain ⟨q1, hq1⟩ : ∃ q, big (r.take 1) = q := ⟨_, rfl⟩
  obtain ⟨q2, hq2⟩ : ∃ q, big (((r.drop 1).drop 6).take 4) = q := ⟨_, rfl⟩
  obtain ⟨q3, hq3⟩ : ∃ q, big (((((r.drop 1).drop 6).drop 4).drop 6).take 4) = q := ⟨_, rfl⟩
  obtain ⟨m2, hm2⟩ : ∃ q, big ((r.drop 1).take 6) = q := ⟨_, rfl⟩
  obtain ⟨m4, hm4⟩ : ∃ q, big ((((r.drop 1).drop 6).drop 4).take 6) = q := ⟨_, rfl⟩
  rw [hm2, hm4]
  rw [hq1] at b1 ⊢
  rw [hq2] at b2 ⊢
  rw [hq3] at b3 ⊢
  obtain ⟨b10, b11⟩ := b1
  obtain ⟨b20, b21⟩ := b2
  obtain ⟨b30, b31⟩ := b3
  replace b11 : q1 < 256 := b11
  replace b21 : q2 < 4294967296 := b21
  replace b31 : q3 < 4294967296 := b31
  have HQ := Aside0.mk (And.intro hq1 (And.intro hq2 (And.intro hq3 (And.intro hm2 hm4))))
  have HO := Aside0.mk (And.intro ho0 (And.intro ho1 (And.intro ho2 (And.intro ho3 ho4))))
  have HD := Aside0.mk hd
  have HN := Aside0.mk hrl
  clear hr ho hn hS hx hq1 hq2 hq3 hm2 hm4 ho0 ho1 ho2 ho3 ho4 hd hrl hr7
  go_enter Try.func17, Try.ntmps17
  go_wp2_with (go_at_call 21; fail)
  obtain ⟨ho0, ho1, ho2, ho3, ho4⟩ := HO.out
  have hrl := HN.out
  obtain ⟨A0, hA0⟩ : ∃ A0, (some { ad with off := ad.off + 7, spot := none } : Option Addr) = A0 := ⟨_, rfl⟩
  have hc0 : Kd.C (Kd.int .u8) w A0 r.length r := by rw [← hA0]; exact HD.out
  have hBl : Below w.heap.size w ((w.alloc (.cells #[.int .i64 0, .int .u64 0, .int .u32 0, .int .u64 0, .int .u32 0] 39)).alloc (.cells #[.slice A0 r.length (c - 7)] 53)) := below_alloc (below_alloc (Below.refl _ _) _) _
  have hbx := Boxed.new (w.alloc (.cells #[.int .i64 0, .int .u64 0, .int .u32 0, .int .u64 0, .int .u32 0] 39)) 53 (.slice A0 r.length (c - 7))
  have hzl : ((w.alloc (.cells #[.int .i64 0, .int .u64 0, .int .u32 0, .int .u64 0, .int .u32 0] 39)).alloc (.cells #[.slice A0 r.length (c - 7)] 53)).heap.size = w.heap.size + 2 := by simp
  have hbr : ((w.alloc (.cells #[.int .i64 0, .int .u64 0, .int .u32 0, .int .u64 0, .int .u32 0] 39)).alloc (.cells #[.slice A0 r.length (c - 7)] 53)).heap[w.heap.size]? = some (.cells #[.int .i64 0, .int .u64 0, .int .u32 0, .int .u64 0, .int .u32 0] 39) := by
    rw [Below.heap_alloc _ _ _ (by simp)]; exact World.alloc_heap_new w _
  rw [World.size_alloc] at hbx
  obtain ⟨wl, hwl⟩ : ∃ wl, (w.alloc (.cells #[.int .i64 0, .int .u64 0, .int .u32 0, .int .u64 0, .int .u32 0] 39)).alloc (.cells #[.slice A0 r.length (c - 7)] 53) = wl := ⟨_, rfl⟩
  rw [hwl] at hBl hbx hzl hbr
  rw [← hrl, hA0, hwl]
  clear hwl hA0
  refine (take_calls w (w.heap.size + 1) A0 (c - 7) r 1 hc0 (by omega) ho0 (by decide) (by decide) (by omega) wl hBl (by omega) hbx).mono ?_
  rintro e w1 ⟨rfl, ⟨A1, hx1, hc1⟩, hB1, hs1⟩
  rw [HQ.out.1]
  clear hcell hconv
  go_wp2_with (go_at_call 21; fail)
  refine (take_calls w (w.heap.size + 1) A1 (c - 7 - 1) (r.drop 1) 6 hc1 (by simp only [List.length_drop]; omega) ho1 (by decide) (by decide) (by simp only [List.length_drop]; omega) w1 hB1 (by omega) hx1).mono ?_
  rintro e w2 ⟨rfl, ⟨A2, hx2, hc2⟩, hB2, hs2⟩
  rw [HQ.out.2.2.2.1]
  go_wp2_with (go_at_call 21; fail)
  refine (take_calls w (w.heap.size + 1) A2 (c - 7 - 1 - 6) ((r.drop 1).drop 6) 4 hc2 (by simp only [List.length_drop]; omega) ho2 (by decide) (by decide) (by simp only [List.length_drop]; omega) w2 hB2 (by omega) hx2).mono ?_
  rintro e w3 ⟨rfl, ⟨A3, hx3, hc3⟩, hB3, hs3⟩
  rw [HQ.out.2.1]
  have hbr3 := blk3 hbr (by omega) hs1 hs2 hs3
  have hz3 : w3.heap.size = w.heap.size + 2 := by rw [hs3.1, hs2.1, hs1.1, hzl]
  clear hs1 hs2 hs3 hx1 hx2 hc1 hc2 hB1 hB2 hbr hBl hzl hbx
  have HX := Aside0.mk (And.intro hx3 (And.intro hc3 (And.intro hB3 hbr3)))
  clear hx3 hc3 hB3 hbr3
  go_wp2_with (go_at_call 21; fail)
  obtain ⟨hx3, hc3, hB3, hbr3⟩ := HX.out
  have hs4 : (w3.alloc (.cells #[.int .i64 q1, .int .u64 m2, .int .u32 q2, .int .u64 0, .int .u32 0] 39)).heap.size = w.heap.size + 3 := by simp [hz3]
  refine (take_calls w (w.heap.size + 1) A3 (c - 7 - 1 - 6 - 4) (((r.drop 1).drop 6).drop 4) 6 hc3 (by simp only [List.length_drop]; omega) ho3 (by decide) (by decide) (by simp only [List.length_drop]; omega) _ (below_alloc hB3 _) (by omega) (hx3.alloc _)).mono ?_
  rintro e w5 ⟨rfl, ⟨A5, hx5, hc5⟩, hB5, hs5⟩
  rw [HQ.out.2.2.2.2]
  have hb5 : w5.heap[w.heap.size]? = some (.cells #[.int .i64 0, .int .u64 0, .int .u32 0, .int .u64 0, .int .u32 0] 39) := by
    rw [hs5.2 _ (by omega), Below.heap_alloc _ _ _ (by omega)]; exact hbr3
  have he5 : w5.heap[w.heap.size + 2]? = some (.cells #[.int .i64 q1, .int .u64 m2, .int .u32 q2, .int .u64 0, .int .u32 0] 39) := by
    rw [hs5.2 _ (by omega), ← hz3]; exact World.alloc_heap_new w3 _
  clear hx3 hc3 hB3 hbr3 hs4 hs5
  go_wp2_with (go_at_call 21; fail)
  refine (take_calls w (w.heap.size + 1) A5 (c - 7 - 1 - 6 - 4 - 6) ((((r.drop 1).drop 6).drop 4).drop 6) 4 hc5 (by simp only [List.length_drop]; omega) ho4 (by decide) (by decide) (by simp only [List.length_drop]; omega) w5 hB5 (by omega) hx5).mono ?_
  rintro e w6 ⟨rfl, ⟨A6, hx6, hc6⟩, hB6, hs6⟩
  rw [HQ.out.2.2.1]
  have hb6 : w6.heap[w.heap.size]? = some (.cells #[.int .i64 0, .int .u64 0, .int .u32 0, .int .u64 0, .int .u32 0] 39) := by rw [hs6.2 _ (by omega)]; exact hb5
  have he6 : w6.heap[w.heap.size + 2]? = some (.cells #[.int .i64 q1, .int .u64 m2, .int .u32 q2, .int .u64 0, .int .u32 0] 39) := by rw [hs6.2 _ (by omega)]; exact he5
  have HB6 := Aside0.mk hB6
  obtain ⟨f0, f1, f2, f3, f4, f5, f6, f7, f8, f9⟩ := cells5 hb6
  obtain ⟨g0, g1, g2, g3, g4, g5, g6, g7, g8, g9⟩ := cells5 he6
  clear hx5 hc5 hB5 hb5 he5 hx6 hc6 hs6 hB6 hb6 he6
  go_wp2
  refine bodyPost_ret (v := .tuple #[.agg #[.int .i64 q1, .int .u64 m2, .int .u32 q2, .int .u64 m4, .int .u32 q3], .int .i64 0]) ?_ rfl ⟨rfl, ?_⟩
  · simp [results, Try.results17, go_sem, *]
  · have hB7 := HB6.out
    refine Below.setCell (Below.setCell (Below.setCell (Below.setCell (Below.setCell (Below.setCell (Below.setCell hB7 ?_ _) ?_ _) ?_ _) ?_ _) ?_ _) ?_ _) ?_ _ <;> simp
theorem oct_ne : ∀ (a b : List Int), oct a → oct b → a.map (fun n => UInt8.ofNat n.toNat) = b.map (fun n => UInt8.ofNat n.toNat) → a = b
  | [], [], _, _, _ => rfl
  | [], b :: bs, _, _, h => by simp at h
  | a :: xs, [], _, _, h => by simp at h
  | a :: xs, b :: bs, ha, hb, h => by
    simp only [List.map_cons, List.cons.injEq] at h
    have h1 := ha a (by simp)
    have h2 := hb b (by simp)
    have h3 := congrArg UInt8.toNat h.1
    simp only [UInt8.toNat_ofNat'] at h3
    obtain rfl : a = b := by omega
    rw [oct_ne xs bs (fun x hx => ha x (by simp [hx])) (fun x hx => hb x (by simp [hx])) h.2]
def kind7 : List Int := [0, 1, 8, 0, 6, 4, 0]
theorem str7 (l : List Int) (h : oct l) : (strOfNums (l.take 7)).toList = [0, 1, 8, 0, 6, 4, 0] ↔ l.take 7 = kind7 := by
  rw [ByteArray.toList_eq, strOfNums_data]
  constructor
  · intro e
    exact oct_ne _ _ (fun x hx => h x (List.mem_of_mem_take hx)) (by unfold kind7; decide) e
  · intro e
    rw [e]; rfl
def parseArpF (l : List Int) : Option (Int × Int × Int × Int × Int × Int) :=
  if oct l then
    if l.length < 28 then some (0, 0, 0, 0, 0, 8)
    else if l.take 7 ≠ kind7 ∨ rd l 7 < 1 ∨ 2 < rd l 7 then some (0, 0, 0, 0, 0, 31)
    else some (big ((l.drop 7).take 1), big (((l.drop 7).drop 1).take 6), big ((((l.drop 7).drop 1).drop 6).take 4), big (((((l.drop 7).drop 1).drop 6).drop 4).take 6), big ((((((l.drop 7).drop 1).drop 6).drop 4).drop 6).take 4), 0)
  else none
theorem parseArp_calls (A : Option Addr) (c : Nat) (l : List Int) (r1 r2 r3 r4 r5 r6 : Int) (w : World) (hr : Kd.C (Kd.int .u8) w A l.length l) (hc : l.length ≤ c) (h : parseArpF l = some (r1, r2, r3, r4, r5, r6)) :
    Calls Try.prog 17 #[.slice A l.length c] w fun e w' => e = .returned (.tuple #[.agg #[.int .i64 r1, .int .u64 r2, .int .u32 r3, .int .u64 r4, .int .u32 r5], .int .i64 r6]) ∧ Below w.heap.size w w' := by
  unfold parseArpF at h
  by_cases ho : oct l
  · rw [if_pos ho] at h
    by_cases h1 : l.length < 28
    · rw [if_pos h1] at h
      simp only [Option.some.injEq, Prod.mk.injEq] at h
      obtain ⟨rfl, rfl, rfl, rfl, rfl, rfl⟩ := h
      exact arp_short A c l.length hc w h1
    · rw [if_neg h1] at h
      by_cases h2 : l.take 7 ≠ kind7 ∨ rd l 7 < 1 ∨ 2 < rd l 7
      · rw [if_pos h2] at h
        simp only [Option.some.injEq, Prod.mk.injEq] at h
        obtain ⟨rfl, rfl, rfl, rfl, rfl, rfl⟩ := h
        refine arp_bad A c l l.length rfl w hr hc (by omega) _ rfl _ rfl ?_
        by_cases h3 : l.take 7 = kind7
        · refine .inr ⟨(str7 l ho).2 h3, ?_⟩
          rcases h2 with h2 | h2 | h2
          · exact absurd h3 h2
          · exact .inl h2
          · exact .inr ⟨by omega, h2⟩
        · exact .inl fun e => h3 ((str7 l ho).1 e)
      · rw [if_neg h2] at h
        simp only [Option.some.injEq, Prod.mk.injEq] at h
        obtain ⟨rfl, rfl, rfl, rfl, rfl, rfl⟩ := h
        have h3 : l.take 7 = kind7 := Decidable.byContradiction fun e => h2 (.inl e)
        exact arp_ok A c l l.length rfl w hr hc (by omega) ho _ rfl ((str7 l ho).2 h3) _ rfl (Int.not_lt.1 fun e => h2 (.inr (.inl e))) (Int.not_lt.1 fun e => h2 (.inr (.inr e))) _ rfl
  · rw [if_neg ho] at h
    exact absurd h (by simp)
end Go.Proofs.Ythfhljdegbcpmaa.Hand
