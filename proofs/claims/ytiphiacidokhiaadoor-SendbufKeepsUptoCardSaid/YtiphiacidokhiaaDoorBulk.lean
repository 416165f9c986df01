/- What the bound on a call's whole bulk gives of nested slices; the wrap of a row that lists variables AND bears a condition. -/
import Derived.Test.YtiphiacidokhiaaDoorRows
import Derived.Test.YtiphiacidokhiaaDoorOpen
import Derived.JoinedCond
import Derived.SizedLaws
import Derived.LaidMore
import Derived.Lay
namespace Go.Proofs.YtiphiacidokhiaaDoor.bulks
open Go.Proofs.YtiphiacidokhiaaDoorW.PrintWords
open Go.ChangeShapes
/-- What is read at type t shows as a value of kind d that meets ok; its measure is at most the bulk. -/
structure TellsB {α : Type} (P : Program) (t : TypeId) (d : Kd α) (ok : α → Prop) (mu : α → Nat) : Prop where
  out : ∀ (H : Type) (enc : TypeId × Value → H) (w : World) (base : Nat) (held : Bool) (fuel : Nat) (cs : List Value) (x : DataW H × List MemPlace),
    DataW.trod enc P w base (fun _ => true) held fuel t cs = some x → ∃ y, d.K w y cs ∧ ok y ∧ mu y ≤ Rows.uptoBulk x.1
theorem tellsB_int {P : Program} {t : TypeId} {k : IntKind} (h : P.underlying t = some (.int k)) : TellsB P t (Kd.int k) (fun n => (Lit.int k n).wf = true) (fun _ => 1) := by
  refine ⟨?_⟩
  intro H enc w base held fuel cs x hx
  obtain ⟨n, rfl, rfl, hw⟩ := DataW.trod_int h hx
  exact ⟨n, rfl, hw, by simp [Rows.uptoBulk]⟩
theorem sum_le {α H : Type} {mu : α → Nat} : ∀ (l : List α) (ds : List (DataW H)), l.length ≤ ds.length → (∀ (i : Nat) (y : α) (D : DataW H), l[i]? = some y → ds[i]? = some D → mu y ≤ Rows.uptoBulk D) → (l.map mu).sum ≤ Rows.uptoBulkAll ds
  | [], _, _, _ => by simp
  | _ :: _, [], h, _ => by simp at h
  | y :: l, D :: ds, h, hi => by
    have h0 := hi 0 y D rfl rfl
    have h1 := sum_le l ds (by simpa using h) (fun i y' D' h1 h2 => hi (i + 1) y' D' (by simpa using h1) (by simpa using h2))
    simp only [List.map_cons, List.sum_cons, Rows.uptoBulkAll]
    omega
theorem tellsB_slice {α : Type} {P : Program} {t e : TypeId} {d : Kd α} {ok : α → Prop} {mu : α → Nat} (h : P.underlying t = some (.slice e)) (hs : P.cellsOf e = d.sz) (hd : TellsB P e d ok mu) :
    TellsB P t (Kd.slice e d) (fun xs => xs.length ≤ 9223372036854775807 ∧ ∀ y ∈ xs, ok y) (fun xs => (xs.map mu).sum) := by
  refine ⟨?_⟩
  intro H enc w base held fuel cs x hx
  rcases DataW.trod_slice h hx with ⟨rfl, rfl⟩ | ⟨a, len, cap, elems, rest, n, rfl, rfl, rfl, hb, hl, hm, hlen, hel, hsp, _⟩
  · exact ⟨[], ⟨none, 0, rfl, Nat.zero_le _, Kd.C_nil _ _⟩, by simp, by simp⟩
  · have each : ∀ i, i < len → ∃ y, ((∃ c, d.K w y c ∧ c.length = d.sz ∧ ∀ j u, c[j]? = some u → w.cell? (a.add (i * d.sz + j)) = some u) ∧ ok y) ∧ ∀ D, (elems.map (·.1))[i]? = some D → mu y ≤ Rows.uptoBulk D := by
      intro i hi
      have hi' := hel i hi
      have hlt : i < elems.length := by omega
      rw [List.getElem?_eq_getElem hlt] at hi'
      obtain ⟨c, hc, ht⟩ := Option.bind_eq_some_iff.1 hi'
      obtain ⟨y, hy, hok, hmu⟩ := hd.out H enc w base held n c elems[i] ht
      obtain ⟨_, h1, h2⟩ := World.cells?_some hc
      refine ⟨y, ⟨⟨c, hy, d.K_len hy, fun j u hj => ?_⟩, hok⟩, fun D hD => ?_⟩
      · have hjl : j < P.cellsOf e := by
          have := (List.getElem?_eq_some_iff.1 hj).1
          omega
        have := h2 j hjl
        rw [hj] at this
        rw [← this, hs, Addr.add_add]
      · rw [List.getElem?_map, List.getElem?_eq_getElem hlt] at hD
        obtain rfl := Option.some.inj hD
        exact hmu
    obtain ⟨l, hll, hR⟩ := Open.pick len each
    refine ⟨l, ⟨some a, cap, by rw [hll], by omega, rfl, ?_, fun hn => ⟨a, rfl, fun j p hj => ?_⟩⟩, ⟨?_, fun y hy => ?_⟩, ?_⟩
    · unfold maxLen at hm; omega
    · obtain ⟨⟨⟨c, h1, h2, h3⟩, _⟩, _⟩ := hR j p hj
      exact ⟨c, h2, h1, h3⟩
    · unfold maxLen at hm; omega
    · obtain ⟨j, hj⟩ := List.mem_iff_getElem?.1 hy
      exact (hR j y hj).1.2
    · have := sum_le (mu := mu) l (elems.map (·.1)) (by simp; omega) (fun i y D h1 h2 => (hR i y h1).2 D h2)
      simp only [Rows.uptoBulk]
      omega
theorem sum_one {α : Type} (l : List α) : (l.map fun _ => 1).sum = l.length := by induction l with | nil => rfl | cons a l ih => simp only [List.map_cons, List.sum_cons, List.length_cons, ih]; omega
theorem bound {H : Type} {l : List (DataW H)} (hk : Rows.uptoSmall H l = true) : Rows.uptoBulkAll l ≤ 1048576 := by
  simpa [Rows.uptoSmall] using hk
theorem part_le {H : Type} {d : DataW H} {l : List (DataW H)} (h : d ∈ l) : Rows.uptoBulk d ≤ Rows.uptoBulkAll l := by
  induction l with
  | nil => cases h
  | cons x r ih =>
    simp only [Rows.uptoBulkAll]
    rcases List.mem_cons.1 h with e | e
    · subst e; omega
    · have := ih e; omega
/-- One argument of a row. -/
theorem arg {α : Type} {H : Type} {enc : TypeId × Value → H} {P : Program} {W : World} {t : TypeId} {d : Kd α} {ok : α → Prop} {mu : α → Nat} {v : Value} {D : DataW H} {ps : List MemPlace} {ds : List (DataW H)} (hT : TellsB P t d ok mu)
    (hk : Rows.uptoSmall H ds = true) (hd : D ∈ ds) (h : DataW.Trod enc P W 0 (fun _ => true) true t v D ps) : ∃ y, d.K W y v.cells.toList ∧ ok y ∧ mu y ≤ 1048576 := by
  obtain ⟨fuel, hf⟩ := h
  obtain ⟨y, h1, h2, h3⟩ := hT.out H enc W 0 true fuel _ _ hf
  exact ⟨y, h1, h2, Nat.le_trans h3 (Nat.le_trans (part_le hd) (bound hk))⟩
section
variable {H : Type} {enc : TypeId × Value → H}
/-- The wrap: a condition, and variables that are listed. -/
theorem returns_of_cond_and {a : Assume} {C : Checked} {os : Os} {f : FuncId} {fn : Func} {s : OpenSpec} {k : (H : Type) → List (DataW H) → Bool} (hk : s.cond = some k) {F : Stop.Interp} {conds : List PathCond} {apart fresh handsOn again : Bool} {X : World → Array Value → Prop}
    (own : ownKnob C.prog.godebug = none) (started : os.Started) (noInit : C.prog.inits.idxOf? f = none) (hfn : C.prog.funcs[f]? = some fn)
    (witness : ∃ (w : World) (tape : Tape) (i : Input), w.os = os ∧ (w.forCall tape i).Shaped C.prog ∧ i.vars = [] ∧ Input.okWide C.prog (w.forCall tape i) .any w.heap.size f i ∧
      ((s.pre enc C.prog fn conds apart (w.forCall tape i).memory i.args ∧ X (w.forCall tape i).memory i.args) ∧ sizedMet enc C.prog fn s apart (w.forCall tape i).memory i.args) ∧ a.holds C.prog (lone (Frame.enter C.prog f i.args .normal) [] (w.forCall tape i)))
    (contract : ∀ (W : World) (base : Nat) (args : Array Value) (ds gs : List (DataW H)) (before : List MemPlace),
      (∀ (j : Nat) t v, fn.params[j]? = some t → args[j]? = some v → Value.okWide C.prog W .any base t v) →
      DataW.Whole enc C.prog fn.params.toList s.vars apart W args.toList ds gs before → k H (ds ++ gs) = true →
      Calls C.prog f args W fun e W' => ∃ v, e = .returned v ∧ (s.at F).post enc C.prog fn apart fresh handsOn again W args v W') :
    ReturnsInHanded a C os f .any (fun w args => (s.pre enc C.prog fn conds apart w args ∧ X w args) ∧ sizedMet enc C.prog fn s apart w args) ((s.at F).post enc C.prog fn apart fresh handsOn again) := by
  refine returnsInHanded_of_calls own started noInit witness ?_
  intro w tape i _ _ _ hok hpre hholds
  obtain ⟨_, _, _, fn', hfn', _, _, _, _, hval⟩ := hok
  have e : fn' = fn := Option.some.inj (hfn'.symm.trans hfn)
  subst e
  obtain ⟨⟨hp, _⟩, _⟩ := hpre
  obtain ⟨ds, gs, before, hw, _, hkk⟩ := (OpenSpec.pre_some hk conds apart _ _).1 hp
  refine (contract (w.forCall tape i) w.heap.size i.args ds gs before hval (DataW.Whole.of_heap (w' := w.forCall tape i) (by rfl) hw) hkk).mono fun e W' ⟨v, he, hq⟩ => ?_
  subst he
  exact ChangeSpec.post_blind hq
theorem witness_cond_and {C : Checked} {os : Os} {f : FuncId} {fn : Func} {s : OpenSpec} {k : (H : Type) → List (DataW H) → Bool} (hk : s.cond = some k) {conds : List PathCond} {apart : Bool} {X : World → Array Value → Prop} (w0 : World) (args : Array Value) (fuel : Nat) (hos : w0.os = os)
    (hsh : (w0.forCall (fun _ _ => 0) ⟨#[], args, []⟩).Shaped C.prog)
    (hok : Input.okWideB C.prog (w0.forCall (fun _ _ => 0) ⟨#[], args, []⟩) f ⟨#[], args, []⟩ = true)
    {x : List (DataW H) × List (DataW H) × List MemPlace} (hx : DataW.whole enc C.prog (w0.forCall (fun _ _ => 0) ⟨#[], args, []⟩).memory fn.params.toList s.vars apart args.toList fuel = some x)
    (hconds : conds.all (PathCond.test C.prog ⟨fn.params.toList, x.1, s.bare.plain.varTypes C.prog, x.2.1⟩) = true) (hkk : k H (x.1 ++ x.2.1) = true)
    (hsz : s.bare.sizedB enc C.prog fn apart (w0.forCall (fun _ _ => 0) ⟨#[], args, []⟩).memory args fuel = true)
    (hXw : X (w0.forCall (fun _ _ => 0) ⟨#[], args, []⟩).memory args) :
    ∃ (w : World) (tape : Tape) (i : Input), w.os = os ∧ (w.forCall tape i).Shaped C.prog ∧ i.vars = [] ∧ Input.okWide C.prog (w.forCall tape i) .any w.heap.size f i ∧
      ((s.pre enc C.prog fn conds apart (w.forCall tape i).memory i.args ∧ X (w.forCall tape i).memory i.args) ∧ sizedMet enc C.prog fn s apart (w.forCall tape i).memory i.args) ∧ ({} : Assume).holds C.prog (lone (Frame.enter C.prog f i.args .normal) [] (w.forCall tape i)) :=
  ⟨w0, fun _ _ => 0, ⟨#[], args, []⟩, hos, hsh, (Input.okWide_of_okWideB (base := 0) hok).1, (Input.okWide_of_okWideB hok).2,
    ⟨⟨(OpenSpec.pre_some hk conds apart _ _).2 ⟨x.1, x.2.1, x.2.2, DataW.Whole_of_whole hx, hconds, hkk⟩, hXw⟩, sizedMet_of_sizedB hsz⟩, by
    simp only [Assume.holds]
    exact ⟨by simp, by simp, by simp, by simp, by simp⟩⟩
end
end Go.Proofs.YtiphiacidokhiaaDoor.bulks
