/- How what comes in is read: kinds of values out of the row's own reading, with their bounds. -/
import Derived.SizedLaws
import Derived.ChangeArms
import Derived.ChangeSlices
import Derived.WideShapes
import Derived.DataReads
import Derived.Test.YtigmlklcbhlmpaaWWords
namespace Go.Proofs.Ytigmlklcbhlmpaa.Open
open Go.Proofs.YtigmlklcbhlmpaaW.PrintWords

/-- What is read at type t shows as a value of kind d that meets ok. -/
structure Tells {α : Type} (P : Program) (t : TypeId) (d : Kd α) (ok : α → Prop) : Prop where
  out : ∀ (H : Type) (enc : TypeId × Value → H) (w : World) (base : Nat) (held : Bool) (fuel : Nat) (cs : List Value) (x : DataW H × List MemPlace),
    DataW.trod enc P w base (fun _ => true) held fuel t cs = some x → (∀ n ∈ x.1.weights P t, n ≤ reachBytes) → ∃ y, d.K w y cs ∧ ok y

theorem tells_int {P : Program} {t : TypeId} {k : IntKind} (h : P.underlying t = some (.int k)) : Tells P t (Kd.int k) (fun n => (Lit.int k n).wf = true) := by
  refine ⟨?_⟩
  intro H enc w base held fuel cs x hx _
  obtain ⟨n, rfl, rfl, hw⟩ := DataW.trod_int h hx
  exact ⟨n, rfl, hw⟩
theorem tells_bool {P : Program} {t : TypeId} (h : P.underlying t = some .bool) : Tells P t Kd.bool (fun _ => True) := by
  refine ⟨?_⟩
  intro H enc w base held fuel cs x hx _
  obtain ⟨n, rfl, rfl⟩ := DataW.trod_bool h hx
  exact ⟨n, rfl, trivial⟩
theorem reach_eq : reachBytes = 140737488351232 := by decide
theorem tells_string {P : Program} {t : TypeId} (h : P.underlying t = some .string) : Tells P t Kd.string (fun s => s.size ≤ 140737488351232) := by
  refine ⟨?_⟩
  intro H enc w base held fuel cs x hx hw
  obtain ⟨s, rfl, rfl, _⟩ := DataW.trod_string h hx
  refine ⟨s, rfl, ?_⟩
  have := hw s.data.toList.length (by simp [DataW.weights])
  rw [reach_eq] at this
  simpa using this

theorem mem_weightsAll {H : Type} {P : Program} {e : TypeId} : ∀ {l : List (DataW H)} {d : DataW H}, d ∈ l → ∀ n ∈ d.weights P e, n ∈ DataW.weightsAll P e l
  | [], _, h, _, _ => by simp at h
  | a :: l, d, h, n, hn => by
    simp only [DataW.weightsAll, List.mem_append]
    rcases List.mem_cons.1 h with rfl | h
    · exact .inl hn
    · exact .inr (mem_weightsAll h n hn)

theorem pick {α : Type} {R : Nat → α → Prop} : ∀ (n : Nat), (∀ i, i < n → ∃ y, R i y) → ∃ l : List α, l.length = n ∧ ∀ i y, l[i]? = some y → R i y
  | 0, _ => ⟨[], rfl, by simp⟩
  | n + 1, h => by
    obtain ⟨l, hl, hr⟩ := pick n (fun i hi => h i (by omega))
    obtain ⟨y, hy⟩ := h n (by omega)
    refine ⟨l ++ [y], by simp [hl], fun i z hz => ?_⟩
    by_cases hi : i < n
    · rw [List.getElem?_append_left (by omega)] at hz; exact hr i z hz
    · rw [List.getElem?_append_right (by omega)] at hz
      have e : i - l.length = 0 := by
        rcases Nat.eq_zero_or_pos (i - l.length) with h0 | h0
        · exact h0
        · rw [List.getElem?_eq_none (by simp; omega)] at hz; cases hz
      rw [e] at hz
      simp at hz
      subst hz
      obtain rfl : i = n := by omega
      exact hy

theorem tells_slice {α : Type} {P : Program} {t e : TypeId} {d : Kd α} {ok : α → Prop} {B : Nat} (h : P.underlying t = some (.slice e)) (hs : P.cellsOf e = d.sz) (hB : P.bytesOf e = B) (hd : Tells P e d ok) :
    Tells P t (Kd.slice e d) (fun xs => xs.length * B ≤ 140737488351232 ∧ ∀ y ∈ xs, ok y) := by
  refine ⟨?_⟩
  intro H enc w base held fuel cs x hx hw
  rcases DataW.trod_slice h hx with ⟨rfl, rfl⟩ | ⟨a, len, cap, elems, rest, n, rfl, rfl, rfl, hb, hl, hm, hlen, hel, hsp, _⟩
  · exact ⟨[], ⟨none, 0, rfl, Nat.zero_le _, Kd.C_nil _ _⟩, by simp, by simp⟩
  · have hw1 := hw ((elems.length + rest.length) * P.bytesOf e) (by simp [DataW.weights, h])
    have each : ∀ i, i < len → ∃ y, (∃ c, d.K w y c ∧ c.length = d.sz ∧ ∀ j u, c[j]? = some u → w.cell? (a.add (i * d.sz + j)) = some u) ∧ ok y := by
      intro i hi
      have hi' := hel i hi
      have hlt : i < elems.length := by omega
      rw [List.getElem?_eq_getElem hlt] at hi'
      obtain ⟨c, hc, ht⟩ := Option.bind_eq_some_iff.1 hi'
      obtain ⟨y, hy, hok⟩ := hd.out H enc w base held n c elems[i] ht (fun m hmm => hw m (by
        simp only [DataW.weights, h, List.mem_cons, List.mem_append]
        exact .inr (.inl (mem_weightsAll (List.mem_map.2 ⟨elems[i], List.getElem_mem hlt, rfl⟩) m hmm))))
      obtain ⟨_, h1, h2⟩ := World.cells?_some hc
      refine ⟨y, ⟨c, hy, d.K_len hy, fun j u hj => ?_⟩, hok⟩
      have hjl : j < P.cellsOf e := by
        have := (List.getElem?_eq_some_iff.1 hj).1
        omega
      have := h2 j hjl
      rw [hj] at this
      rw [← this, hs, Addr.add_add]
    obtain ⟨l, hll, hR⟩ := pick len each
    refine ⟨l, ⟨some a, cap, by rw [hll], by omega, rfl, ?_, fun hn => ⟨a, rfl, fun j p hj => ?_⟩⟩, ?_, fun y hy => ?_⟩
    · unfold maxLen at hm; omega
    · obtain ⟨⟨c, h1, h2, h3⟩, _⟩ := hR j p hj
      exact ⟨c, h2, h1, h3⟩
    · rw [reach_eq, hB] at hw1
      rw [hll]
      exact Nat.le_trans (Nat.mul_le_mul_right _ (by omega)) hw1
    · obtain ⟨j, hj⟩ := List.mem_iff_getElem?.1 hy
      exact (hR j y hj).2

/-- The fields from one on, whose cells begin at off. -/
structure TellsF {α : Type} (P : Program) (fs : List Field) (off : Nat) (d : Kd α) (ok : α → Prop) : Prop where
  out : ∀ (H : Type) (enc : TypeId × Value → H) (w : World) (base : Nat) (held : Bool) (n : Nat) (cs : List Value) (xs : List (DataW H × List MemPlace)),
    off + d.sz = cs.length → xs.length = fs.length →
    (∀ (i : Nat) (f : Field), fs[i]? = some f → DataW.trod enc P w base (fun _ => true) held n f.type ((cs.drop f.offset).take (P.cellsOf f.type)) = xs[i]?) →
    (∀ m ∈ DataW.weightsEach P (fs.map (·.type)) (xs.map (·.1)), m ≤ reachBytes) → ∃ y, d.K w y (cs.drop off) ∧ ok y

theorem tellsF_one {α : Type} {P : Program} {f : Field} {off : Nat} {d : Kd α} {ok : α → Prop} (ho : f.offset = off) (hs : P.cellsOf f.type = d.sz) (hd : Tells P f.type d ok) : TellsF P [f] off d ok := by
  refine ⟨?_⟩
  intro H enc w base held n cs xs hl hx hi hw
  obtain ⟨x, rfl⟩ : ∃ x, xs = [x] := by
    match xs, hx with
    | [x], _ => exact ⟨x, rfl⟩
  have h0 := hi 0 f rfl
  rw [ho, hs, List.take_of_length_le (by simp; omega)] at h0
  exact hd.out H enc w base held n _ x h0 (fun m hm => hw m (by simp [DataW.weightsEach]; exact hm))

theorem tellsF_cons {α β : Type} {P : Program} {f : Field} {fs : List Field} {off : Nat} {d1 : Kd α} {d2 : Kd β} {ok1 : α → Prop} {ok2 : β → Prop} (ho : f.offset = off) (hs : P.cellsOf f.type = d1.sz) (h1 : Tells P f.type d1 ok1)
    (h2 : TellsF P fs (off + d1.sz) d2 ok2) : TellsF P (f :: fs) off (Kd.pair d1 d2) (fun p => ok1 p.1 ∧ ok2 p.2) := by
  refine ⟨?_⟩
  intro H enc w base held n cs xs hl hx hi hw
  match xs, hx with
  | x :: xs, hx =>
    have hl' : off + (d1.sz + d2.sz) = cs.length := hl
    have h0 := hi 0 f rfl
    rw [ho, hs] at h0
    obtain ⟨y1, k1, o1⟩ := h1.out H enc w base held n _ x h0 (fun m hm => hw m (by simp only [List.map_cons, DataW.weightsEach, List.mem_append]; exact .inl hm))
    obtain ⟨y2, k2, o2⟩ := h2.out H enc w base held n cs xs (by omega) (by simpa using hx) (fun i g hg => by simpa using hi (i + 1) g (by simpa using hg)) (fun m hm => hw m (by simp only [List.map_cons, DataW.weightsEach, List.mem_append]; exact .inr hm))
    refine ⟨(y1, y2), ⟨_, _, ?_, k1, k2⟩, o1, o2⟩
    rw [← List.drop_drop, List.take_append_drop]

theorem tells_struct {α β : Type} {P : Program} {t : TypeId} {fs : Array Field} {d : Kd α} {ok : α → Prop} {f : β → α} (g : α → β) (hg : ∀ y, f (g y) = y) (h : P.underlying t = some (.struct fs)) (hs : P.cellsOf t = d.sz) (hf : TellsF P fs.toList 0 d ok) :
    Tells P t (Kd.iso d f) (fun x => ok (f x)) := by
  refine ⟨?_⟩
  intro H enc w base held fuel cs x hx hw
  obtain ⟨xs, n, rfl, rfl, hl, hlen, hi⟩ := DataW.trod_struct h hx
  obtain ⟨y, hk, ho⟩ := hf.out H enc w base held n cs xs (by omega) (by simpa using hlen) (fun i f' hf' => hi i f' (by simpa using hf')) (fun m hm => hw m (by simp only [DataW.weights, h]; exact hm))
  refine ⟨g y, ?_, ?_⟩
  · show d.K w (f (g y)) cs
    rw [hg]; simpa using hk
  · show ok (f (g y))
    rw [hg]; exact ho

/-- One argument of a row. -/
theorem arg {α : Type} {H : Type} {enc : TypeId × Value → H} {P : Program} {W : World} {t : TypeId} {d : Kd α} {ok : α → Prop} {v : Value} {D : DataW H} {ps : List MemPlace} {ts : List TypeId} {ds : List (DataW H)} {j : Nat} (hT : Tells P t d ok)
    (hsz : (DataW.weightsEach P ts ds).all (· ≤ reachBytes) = true) (ht : ts[j]? = some t) (hd : ds[j]? = some D) (h : DataW.Trod enc P W 0 (fun _ => true) true t v D ps) : ∃ y, d.K W y v.cells.toList ∧ ok y := by
  obtain ⟨fuel, hf⟩ := h
  exact hT.out H enc W 0 true fuel _ _ hf (fun n hn => by simpa using List.all_eq_true.1 hsz n (DataW.weights_mem_each ht hd n hn))
end Go.Proofs.Ytigmlklcbhlmpaa.Open
