/- Chapter 15: SendbufPlays: its steps, as they are read; Spoil and CopyBytes; Una, End and Room of a buffer. -/
import Derived.Test.YtiphiacidokhiaaDoorHandI
import Derived.Test.YtiphiacidokhiaaDoorPZx2
import Derived.Test.YtiphiacidokhiaaDoorOpen
namespace Go.Proofs.YtiphiacidokhiaaDoor.Hand
open Go.RowKit Go.Proofs.YtiphiacidokhiaaDoor Go.Proofs.YtiphiacidokhiaaDoor.Util Go.Proofs.YtiphiacidokhiaaDoor.PZ Go.Proofs.YtiphiacidokhiaaDoorW.PrintWords Go.Proofs.YtiphiacidokhiaaDoorW.PrintLast Go.Proofs.YtiphiacidokhiaaDoorW.PrintMore
set_option linter.unusedVariables false
structure Step where
  what : Int
  seq : Int
  n : Int
  data : List Int
def z44 : Step := ⟨0, 0, 0, []⟩
def k44 : Kd Step := Kd.iso (Kd.pair (Kd.int .i64) (Kd.pair (Kd.int .u32) (Kd.pair (Kd.int .i64) (Kd.slice 5 (Kd.int .u8))))) (fun x : Step => (x.what, x.seq, x.n, x.data))
/-- What is known of a step that came in. -/
def okStep (x : Step) : Prop := (Lit.int .i64 x.what).wf = true ∧ (Lit.int .u32 x.seq).wf = true ∧ (Lit.int .i64 x.n).wf = true ∧ (x.data.length * 1 ≤ 140737488351232 ∧ ∀ y ∈ x.data, (Lit.int .u8 y).wf = true)
theorem tells44 : Open.Tells Tryd.prog 44 k44 okStep :=
  Open.tells_struct (P := Tryd.prog) (t := 44) (d := (Kd.pair (Kd.int .i64) (Kd.pair (Kd.int .u32) (Kd.pair (Kd.int .i64) (Kd.slice 5 (Kd.int .u8)))))) (ok := fun p => (Lit.int .i64 p.1).wf = true ∧ (Lit.int .u32 p.2.1).wf = true ∧ (Lit.int .i64 p.2.2.1).wf = true ∧ (p.2.2.2.length * 1 ≤ 140737488351232 ∧ ∀ y ∈ p.2.2.2, (Lit.int .u8 y).wf = true)) (f := fun x : Step => (x.what, x.seq, x.n, x.data)) (fun p => (⟨p.1, p.2.1, p.2.2.1, p.2.2.2⟩ : Step)) (fun _ => rfl) Tryd.underlying44 (by kernel_rfl)
    (Open.tellsF_cons rfl (by kernel_rfl) (Open.tells_int Tryd.underlying3) (Open.tellsF_cons rfl (by kernel_rfl) (Open.tells_int Tryd.underlying22) (Open.tellsF_cons rfl (by kernel_rfl) (Open.tells_int Tryd.underlying3) (Open.tellsF_one rfl (by kernel_rfl) (Open.tells_slice Tryd.underlying31 (by kernel_rfl) (by kernel_rfl) (Open.tells_int Tryd.underlying5))))))
theorem step_at {w : World} {A : Option Addr} {n : Nat} {l : List Step} (h : Kd.C k44 w A n l) (i : Nat) (hi : i < n) :
    ∃ ad B c, A = some ad ∧ w.cell? (ad.add (i * 4)) = some (.int .i64 (l.getD i z44).what) ∧ w.cell? ⟨(ad.add (i * 4)).block, (ad.add (i * 4)).off + 1, none⟩ = some (.int .u32 (l.getD i z44).seq) ∧
      w.cell? ⟨(ad.add (i * 4)).block, (ad.add (i * 4)).off + 2, none⟩ = some (.int .i64 (l.getD i z44).n) ∧ w.cell? ⟨(ad.add (i * 4)).block, (ad.add (i * 4)).off + 3, none⟩ = some (.slice B (l.getD i z44).data.length c) ∧
      (l.getD i z44).data.length ≤ c ∧ ReadsInt w .u8 B (l.getD i z44).data.length (l.getD i z44).data := by
  obtain ⟨ad, cs, e, _, hK, hc0⟩ := Kd.C_get h z44 (i : Int) (by omega) (by omega)
  have hc : ∀ j u, cs[j]? = some u → w.cell? (ad.add (i * 4 + j)) = some u := by
    intro j u hj
    have := hc0 j u hj
    rwa [show (i : Int).toNat = i by omega] at this
  rw [show (i : Int).toNat = i by omega] at hK
  obtain ⟨_, _, rfl, rfl, _, _, rfl, rfl, _, _, rfl, rfl, B, c, rfl, hl, hr⟩ := hK
  refine ⟨ad, B, c, e, hc 0 _ rfl, ?_, ?_, ?_, hl, readsInt_of.2 (Kd.reads_of_C (d := (0 : Int)) (h1 := fun _ => rfl) hr)⟩
  · rw [← add_field _ _ 1 (by omega)]; exact hc 1 _ rfl
  · rw [← add_field _ _ 2 (by omega)]; exact hc 2 _ rfl
  · rw [← add_field _ _ 3 (by omega)]; exact hc 3 _ rfl
theorem spoil_ev : ∀ (d i : Nat) (xs : List Int), i + d = xs.length → xs.length ≤ 140737488355328 → ∃ k r, stopcockplain_Spoil.l0 k xs (i : Int) = some r
  | 0, i, xs, h, _ => ⟨1, xs, by simp only [stopcockplain_Spoil.l0]; rw [if_neg (by omega)]⟩
  | d + 1, i, xs, h, hs => by
    obtain ⟨k, r, hk⟩ := spoil_ev d (i + 1) (xs.set i (Go.bits .xor .u8 (rd xs i) 85)) (by rw [List.length_set]; omega) (by rw [List.length_set]; exact hs)
    refine ⟨k + 1, r, ?_⟩
    simp only [stopcockplain_Spoil.l0]
    rw [if_pos (by omega), if_pos (by omega), wrap_id (by omega) (by omega), show ((i : Nat) : Int).toNat = i by omega]
    exact hk
theorem spoil_calls (v : Value) (base : Nat) (xs : List Int) (w : World) (ho : w.ownsRow base 5 1 v xs.length (nums .u8 xs)) (hs : xs.length ≤ 140737488355328) :
    Calls Tryd.prog 17 #[v] w fun e w' => e = .returned (.tuple #[]) ∧ w.grownBy w' v.ownBlock := by
  obtain ⟨k, r, hk⟩ := spoil_ev xs.length 0 xs (by omega) hs
  have hw0 : Below ({ w with heap := #[] } : World).heap.size { w with heap := #[] } w := ⟨rfl, rfl, rfl, Nat.zero_le _, fun _ h => absurd h (Nat.not_lt_zero _)⟩
  refine (stopcockplain_Spoil.calls k (fun j => v.ownBlock = some j) v xs r { w with heap := #[] } w hw0 (Kd.R_of_own (own_weaken ho (Nat.zero_le _)) (fun _ h => h)) hk).mono ?_
  rintro e w' ⟨he, _, hB, hK⟩
  exact ⟨he, hB.os, hB.tape, hB.output, hK.1, fun j hj hne => hK.2 j hj (fun h => hne h.symm)⟩
theorem copy_calls (A : Option Addr) (c : Nat) (D : List Int) (w : World) (hd : ReadsInt w .u8 A D.length D) (hc : D.length ≤ c) (hs : D.length ≤ 140737488351232) :
    Calls Tryd.prog 15 #[.slice A D.length c] w fun e w' => ∃ v, e = .returned v ∧ w'.ownsRow w.heap.size 5 1 v D.length (nums .u8 D) ∧ Below w.heap.size w w' := by
  refine (stopcockplain_CopyBytes.calls A c D D w (Kd.C_of_reads (d := (0 : Int)) (h1 := fun _ => rfl) (readsInt_of.1 hd)) hc (by unfold stopcockplain_CopyBytes.f; rw [if_pos (by simp; omega)]; rfl)).mono ?_
  rintro e w' ⟨v, he, hR, hB⟩
  exact ⟨v, he, Kd.own_of_R hR, hB⟩
theorem una_ring (g R sz : Nat) (una : Int) (xs : List Int) (w : World) (h : Ring w g R sz una xs) : Calls Tryd.prog 20 #[.pointer (some ⟨g, 0, none⟩)] w fun e w' => e = .returned (.int .u32 una) ∧ ∃ m, w' = w.drewN m := by
  obtain ⟨fr, C, hb, _⟩ := h
  refine (una_calls g R sz fr _ una w hb).mono ?_
  rintro e w' ⟨he, rfl⟩
  exact ⟨he, 0, rfl⟩
theorem end_ring (g R sz : Nat) (una : Int) (xs : List Int) (w : World) (h : Ring w g R sz una xs) : Calls Tryd.prog 21 #[.pointer (some ⟨g, 0, none⟩)] w fun e w' => e = .returned (.int .u32 ((una + (xs.length : Int) % 4294967296) % 4294967296)) ∧ ∃ m, w' = w.drewN m := by
  obtain ⟨fr, C, hb, _⟩ := h
  refine (end_calls g R sz fr _ una w hb).mono ?_
  rintro e w' ⟨he, hD⟩
  exact ⟨he, hD.out⟩
theorem room_ring (g R sz : Nat) (una : Int) (xs : List Int) (hs : sz ≤ 1048576) (w : World) (h : Ring w g R sz una xs) : Calls Tryd.prog 23 #[.pointer (some ⟨g, 0, none⟩)] w fun e w' => e = .returned (.int .i64 ((sz : Int) - (xs.length : Int))) ∧ ∃ m, w' = w.drewN m := by
  obtain ⟨fr, C, hb, _, _, _, hn, _⟩ := h
  refine (room_calls g R sz fr _ una (by omega) hs w hb).mono ?_
  rintro e w' ⟨he, hD⟩
  exact ⟨he, hD.out⟩
theorem ring_drew {w : World} {g R sz n : Nat} {una : Int} {xs : List Int} (h : Ring w g R sz una xs) : Ring (w.drewN n) g R sz una xs := ring_heap h (by simp) (by simp)
theorem rb_drew {w : World} {h sz base n : Nat} {una : Int} {v : Value} {xs : List Int} (H : RB w h sz base una v xs) : RB (w.drewN n) h sz base una v xs := rb_heap H (by simp) (fun _ _ => by simp)
/-- Slice and Ack of a ring, refused. -/
theorem slice_ring_no (g R sz : Nat) (una q m : Int) (xs : List Int) (h2 : m < 0 ∨ 0 ≤ m ∧ (xs.length : Int) < (q - una) % 4294967296) (w : World) (h : Ring w g R sz una xs) :
    Calls Tryd.prog 12 #[.pointer (some ⟨g, 0, none⟩), .int .u32 q, .int .i64 m] w fun e w' => e = .returned (.tuple #[.slice none 0 0, .int .i64 (if m < 0 then 4 else 151)]) ∧ w = w' := by
  obtain ⟨fr, C, hb, _⟩ := h
  exact slice_ref g R sz fr _ una q m w hb h2
theorem ack_ring_no (g R sz : Nat) (una q : Int) (xs : List Int) (h2 : (xs.length : Int) < (q - una) % 4294967296) (w : World) (h : Ring w g R sz una xs) :
    Calls Tryd.prog 11 #[.pointer (some ⟨g, 0, none⟩), .int .u32 q] w fun e w' => e = .returned (.tuple #[.int .i64 0, .int .i64 151]) ∧ w = w' := by
  obtain ⟨fr, C, hb, _⟩ := h
  exact ack_no g R sz fr _ una q _ rfl (by omega) h2 w hb
end Go.Proofs.YtiphiacidokhiaaDoor.Hand
