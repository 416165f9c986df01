-- Written by a program of this session (wip/tools/mkprint.py, mp.sh) for this claim.
import Derived.Test.YtiphiacidokhiaaDoorPAx0
import Derived.Test.YtiphiacidokhiaaDoorPAx1
namespace Go.Proofs.YtiphiacidokhiaaDoor.PA
open Go.RowKit Go.Proofs.YtiphiacidokhiaaDoorW.PrintWords Go.Proofs.YtiphiacidokhiaaDoorW.PrintLast Go.Proofs.YtiphiacidokhiaaDoorW.PrintMore
attribute [local go_sem] max2_int min2_int max_two min_two max_three min_three max_four min_four   -- for this text's walks alone
set_option linter.unusedVariables false
set_option linter.unusedSimpArgs false

/-! ### stopcocklaw15_SendbufNumbers: function 6 -/
def stopcocklaw15_SendbufNumbers.f (a0 : Int) (a1 : Int) (a2 : Int) : Option (Bool) := (sendbuf_Less.f a0 a1).bind fun t106 => ((stopcockref15_Less.f a0 a1).bind fun t107 => (if (t106 != t107) = true then (some false) else ((sendbuf_Within.f a0 a1 a2).bind fun t108 => ((stopcockref15_Within.f a0 a1 a2).bind fun t109 => (if (t108 != t109) = true then (some false) else ((sendbuf_Max.f a0 a1).bind fun t110 => ((stopcockref15_Max.f a0 a1).bind fun t111 => (if t110 = t111 then ((sendbuf_Less.f a0 a0).bind fun t112 => (if t112 = true then (some false) else ((sendbuf_Less.f a0 ((a0 + 1) % 4294967296)).bind fun t113 => (if t113 = true then ((sendbuf_Less.f ((a0 + a2) % 4294967296) ((a1 + a2) % 4294967296)).bind fun t114 => ((sendbuf_Less.f a0 a1).bind fun t115 => (if (t114 == t115) = true then ((stopcocklaw15_alive.f).bind fun t116 => (some t116)) else (some false)))) else (some false))))) else (some false)))))))))
set_option maxHeartbeats 8000000 in
set_option maxRecDepth 100000 in
theorem stopcocklaw15_SendbufNumbers.calls (a0 : Int) (a1 : Int) (a2 : Int) (r : Bool) (w : World) (h : stopcocklaw15_SendbufNumbers.f a0 a1 a2 = some r) (hrt : r = true) :
    Calls Tryd.prog 6 #[.int .u32 a0, .int .u32 a1, .int .u32 a2] w fun e w' => e = .returned (.bool r) ∧ Below w.heap.size w w' := by
  have HRT := Aside0.mk hrt; clear hrt; have HB := Aside0.mk (Below.refl w.heap.size w); have H : ((sendbuf_Less.f a0 a1).bind fun t106 => ((stopcockref15_Less.f a0 a1).bind fun t107 => (if (t106 != t107) = true then (some false) else ((sendbuf_Within.f a0 a1 a2).bind fun t108 => ((stopcockref15_Within.f a0 a1 a2).bind fun t109 => (if (t108 != t109) = true then (some false) else ((sendbuf_Max.f a0 a1).bind fun t110 => ((stopcockref15_Max.f a0 a1).bind fun t111 => (if t110 = t111 then ((sendbuf_Less.f a0 a0).bind fun t112 => (if t112 = true then (some false) else ((sendbuf_Less.f a0 ((a0 + 1) % 4294967296)).bind fun t113 => (if t113 = true then ((sendbuf_Less.f ((a0 + a2) % 4294967296) ((a1 + a2) % 4294967296)).bind fun t114 => ((sendbuf_Less.f a0 a1).bind fun t115 => (if (t114 == t115) = true then ((stopcocklaw15_alive.f).bind fun t116 => (some t116)) else (some false)))) else (some false))))) else (some false)))))))))) = some r := h; clear h; replace H := Option.bind_eq_some_iff.mp H; obtain ⟨t106, A40, H⟩ := H; replace H : ((stopcockref15_Less.f a0 a1).bind fun t107 => (if (t106 != t107) = true then (some false) else ((sendbuf_Within.f a0 a1 a2).bind fun t108 => ((stopcockref15_Within.f a0 a1 a2).bind fun t109 => (if (t108 != t109) = true then (some false) else ((sendbuf_Max.f a0 a1).bind fun t110 => ((stopcockref15_Max.f a0 a1).bind fun t111 => (if t110 = t111 then ((sendbuf_Less.f a0 a0).bind fun t112 => (if t112 = true then (some false) else ((sendbuf_Less.f a0 ((a0 + 1) % 4294967296)).bind fun t113 => (if t113 = true then ((sendbuf_Less.f ((a0 + a2) % 4294967296) ((a1 + a2) % 4294967296)).bind fun t114 => ((sendbuf_Less.f a0 a1).bind fun t115 => (if (t114 == t115) = true then ((stopcocklaw15_alive.f).bind fun t116 => (some t116)) else (some false)))) else (some false))))) else (some false))))))))) = some r := H
  have A4 := Aside0.mk A40; clear A40; replace H := Option.bind_eq_some_iff.mp H; obtain ⟨t107, A50, H⟩ := H; replace H : (if (t106 != t107) = true then (some false) else ((sendbuf_Within.f a0 a1 a2).bind fun t108 => ((stopcockref15_Within.f a0 a1 a2).bind fun t109 => (if (t108 != t109) = true then (some false) else ((sendbuf_Max.f a0 a1).bind fun t110 => ((stopcockref15_Max.f a0 a1).bind fun t111 => (if t110 = t111 then ((sendbuf_Less.f a0 a0).bind fun t112 => (if t112 = true then (some false) else ((sendbuf_Less.f a0 ((a0 + 1) % 4294967296)).bind fun t113 => (if t113 = true then ((sendbuf_Less.f ((a0 + a2) % 4294967296) ((a1 + a2) % 4294967296)).bind fun t114 => ((sendbuf_Less.f a0 a1).bind fun t115 => (if (t114 == t115) = true then ((stopcocklaw15_alive.f).bind fun t116 => (some t116)) else (some false)))) else (some false))))) else (some false)))))))) = some r := H; have A5 := Aside0.mk A50; clear A50
  by_cases c6 : (t106 != t107) = true
  · rw [if_pos c6] at H
    have c6b0 : (t106 != t107) = true := c6
    (try (have c6b1 : decide (t106 = t107) = false := by simpa using c6))
    (try (have c6b2 : (t106 == t107) = false := by simpa using c6))
    (try (have c6b3 : ¬ (t106 = t107) := by simpa using c6))
    clear c6; exact absurd ((Option.some.inj H).trans HRT.out) (by decide)
  rw [if_neg c6] at H; have c6b0 : (t106 != t107) = false := by simpa using c6
  (try (have c6b1 : decide (t106 = t107) = true := by simpa using c6))
  (try (have c6b2 : (t106 == t107) = true := by simpa using c6))
  clear c6; replace H := Option.bind_eq_some_iff.mp H; obtain ⟨t108, A70, H⟩ := H; replace H : ((stopcockref15_Within.f a0 a1 a2).bind fun t109 => (if (t108 != t109) = true then (some false) else ((sendbuf_Max.f a0 a1).bind fun t110 => ((stopcockref15_Max.f a0 a1).bind fun t111 => (if t110 = t111 then ((sendbuf_Less.f a0 a0).bind fun t112 => (if t112 = true then (some false) else ((sendbuf_Less.f a0 ((a0 + 1) % 4294967296)).bind fun t113 => (if t113 = true then ((sendbuf_Less.f ((a0 + a2) % 4294967296) ((a1 + a2) % 4294967296)).bind fun t114 => ((sendbuf_Less.f a0 a1).bind fun t115 => (if (t114 == t115) = true then ((stopcocklaw15_alive.f).bind fun t116 => (some t116)) else (some false)))) else (some false))))) else (some false)))))) = some r := H; have A7 := Aside0.mk A70; clear A70; replace H := Option.bind_eq_some_iff.mp H; obtain ⟨t109, A80, H⟩ := H; replace H : (if (t108 != t109) = true then (some false) else ((sendbuf_Max.f a0 a1).bind fun t110 => ((stopcockref15_Max.f a0 a1).bind fun t111 => (if t110 = t111 then ((sendbuf_Less.f a0 a0).bind fun t112 => (if t112 = true then (some false) else ((sendbuf_Less.f a0 ((a0 + 1) % 4294967296)).bind fun t113 => (if t113 = true then ((sendbuf_Less.f ((a0 + a2) % 4294967296) ((a1 + a2) % 4294967296)).bind fun t114 => ((sendbuf_Less.f a0 a1).bind fun t115 => (if (t114 == t115) = true then ((stopcocklaw15_alive.f).bind fun t116 => (some t116)) else (some false)))) else (some false))))) else (some false))))) = some r := H; have A8 := Aside0.mk A80
  clear A80
  by_cases c9 : (t108 != t109) = true
  · rw [if_pos c9] at H
    have c9b0 : (t108 != t109) = true := c9
    (try (have c9b1 : decide (t108 = t109) = false := by simpa using c9))
    (try (have c9b2 : (t108 == t109) = false := by simpa using c9))
    (try (have c9b3 : ¬ (t108 = t109) := by simpa using c9))
    clear c9; exact absurd ((Option.some.inj H).trans HRT.out) (by decide)
  rw [if_neg c9] at H; have c9b0 : (t108 != t109) = false := by simpa using c9
  (try (have c9b1 : decide (t108 = t109) = true := by simpa using c9))
  (try (have c9b2 : (t108 == t109) = true := by simpa using c9))
  clear c9; replace H := Option.bind_eq_some_iff.mp H; obtain ⟨t110, A100, H⟩ := H; replace H : ((stopcockref15_Max.f a0 a1).bind fun t111 => (if t110 = t111 then ((sendbuf_Less.f a0 a0).bind fun t112 => (if t112 = true then (some false) else ((sendbuf_Less.f a0 ((a0 + 1) % 4294967296)).bind fun t113 => (if t113 = true then ((sendbuf_Less.f ((a0 + a2) % 4294967296) ((a1 + a2) % 4294967296)).bind fun t114 => ((sendbuf_Less.f a0 a1).bind fun t115 => (if (t114 == t115) = true then ((stopcocklaw15_alive.f).bind fun t116 => (some t116)) else (some false)))) else (some false))))) else (some false))) = some r := H; have A10 := Aside0.mk A100; clear A100; replace H := Option.bind_eq_some_iff.mp H; obtain ⟨t111, A110, H⟩ := H; replace H : (if t110 = t111 then ((sendbuf_Less.f a0 a0).bind fun t112 => (if t112 = true then (some false) else ((sendbuf_Less.f a0 ((a0 + 1) % 4294967296)).bind fun t113 => (if t113 = true then ((sendbuf_Less.f ((a0 + a2) % 4294967296) ((a1 + a2) % 4294967296)).bind fun t114 => ((sendbuf_Less.f a0 a1).bind fun t115 => (if (t114 == t115) = true then ((stopcocklaw15_alive.f).bind fun t116 => (some t116)) else (some false)))) else (some false))))) else (some false)) = some r := H; have A11 := Aside0.mk A110; clear A110
  by_cases c12 : t110 = t111
  · rw [if_pos c12] at H
    have c12b0 : (t110 == t111) = true := beq_iff_eq.mpr c12; have c12b1 : (t110 != t111) = false := bne_eq_false_iff_eq.mpr c12; clear c12; replace H := Option.bind_eq_some_iff.mp H; obtain ⟨t112, A130, H⟩ := H; replace H : (if t112 = true then (some false) else ((sendbuf_Less.f a0 ((a0 + 1) % 4294967296)).bind fun t113 => (if t113 = true then ((sendbuf_Less.f ((a0 + a2) % 4294967296) ((a1 + a2) % 4294967296)).bind fun t114 => ((sendbuf_Less.f a0 a1).bind fun t115 => (if (t114 == t115) = true then ((stopcocklaw15_alive.f).bind fun t116 => (some t116)) else (some false)))) else (some false)))) = some r := H; have A13 := Aside0.mk A130; clear A130
    by_cases c14 : t112 = true
    · subst c14
      have H1 : (some false) = some r := by rw [if_pos rfl] at H; exact H
      clear H; have H := H1; clear H1; exact absurd ((Option.some.inj H).trans HRT.out) (by decide)
    replace c14 := Bool.eq_false_iff.mpr c14
    subst c14
    have H1 : ((sendbuf_Less.f a0 ((a0 + 1) % 4294967296)).bind fun t113 => (if t113 = true then ((sendbuf_Less.f ((a0 + a2) % 4294967296) ((a1 + a2) % 4294967296)).bind fun t114 => ((sendbuf_Less.f a0 a1).bind fun t115 => (if (t114 == t115) = true then ((stopcocklaw15_alive.f).bind fun t116 => (some t116)) else (some false)))) else (some false))) = some r := by rw [if_neg (show ¬ (false = true) by decide)] at H; exact H
    clear H; have H := H1; clear H1; replace H := Option.bind_eq_some_iff.mp H; obtain ⟨t113, A150, H⟩ := H; replace H : (if t113 = true then ((sendbuf_Less.f ((a0 + a2) % 4294967296) ((a1 + a2) % 4294967296)).bind fun t114 => ((sendbuf_Less.f a0 a1).bind fun t115 => (if (t114 == t115) = true then ((stopcocklaw15_alive.f).bind fun t116 => (some t116)) else (some false)))) else (some false)) = some r := H; have A15 := Aside0.mk A150; clear A150
    by_cases c16 : t113 = true
    · subst c16
      have H1 : ((sendbuf_Less.f ((a0 + a2) % 4294967296) ((a1 + a2) % 4294967296)).bind fun t114 => ((sendbuf_Less.f a0 a1).bind fun t115 => (if (t114 == t115) = true then ((stopcocklaw15_alive.f).bind fun t116 => (some t116)) else (some false)))) = some r := by rw [if_pos rfl] at H; exact H
      clear H; have H := H1; clear H1; replace H := Option.bind_eq_some_iff.mp H; obtain ⟨t114, A170, H⟩ := H; replace H : ((sendbuf_Less.f a0 a1).bind fun t115 => (if (t114 == t115) = true then ((stopcocklaw15_alive.f).bind fun t116 => (some t116)) else (some false))) = some r := H; have A17 := Aside0.mk A170; clear A170; replace H := Option.bind_eq_some_iff.mp H; obtain ⟨t115, A180, H⟩ := H; replace H : (if (t114 == t115) = true then ((stopcocklaw15_alive.f).bind fun t116 => (some t116)) else (some false)) = some r := H; have A18 := Aside0.mk A180; clear A180
      by_cases c19 : (t114 == t115) = true
      · rw [if_pos c19] at H
        have c19b0 : (t114 == t115) = true := c19
        (try (have c19b1 : decide (t114 = t115) = true := by simpa using c19))
        (try (have c19b2 : (t114 == t115) = true := by simpa using c19))
        clear c19; replace H := Option.bind_eq_some_iff.mp H; obtain ⟨t116, A200, H⟩ := H; replace H : (some t116) = some r := H; have A20 := Aside0.mk A200; clear A200; obtain rfl := Option.some.inj H
        go_enter Tryd.func6, Tryd.ntmps6
        go_wp2_with (first | ((with_reducible refine gate_callee (f := 25) rfl ?_); refine goesL_ (some 9) rfl rfl Tryd.func25 (by kernel_rfl) rfl #[.int .u32 a0, .int .u32 a1] rfl (by (try simp only [List.map_toArray, List.map_cons, List.map_nil]); first | done | rfl | (simp only [List.length_drop, List.length_take]; rfl)) ?_; (with_reducible refine (sendbuf_Less.calls a0 a1 t106 _ A4.out).mono ?_); rintro e w' ⟨rfl, ⟨nd, rfl⟩⟩; refine ⟨_, rfl, ?_⟩) | ((with_reducible refine gate_callee (f := 26) rfl ?_); refine goesL_ (some 12) rfl rfl Tryd.func26 (by kernel_rfl) rfl #[.int .u32 a0, .int .u32 a1] rfl (by (try simp only [List.map_toArray, List.map_cons, List.map_nil]); first | done | rfl | (simp only [List.length_drop, List.length_take]; rfl)) ?_; (with_reducible refine (stopcockref15_Less.calls a0 a1 t107 _ A5.out).mono ?_); rintro e w' ⟨rfl, ⟨nd, rfl⟩⟩; refine ⟨_, rfl, ?_⟩) | (go_at_call 27; (with_reducible refine (sendbuf_Within.calls a0 a1 a2 t108 _ A7.out).mono ?_); rintro e w' ⟨rfl, ⟨nd, rfl⟩⟩) | (go_at_call 28; (with_reducible refine (stopcockref15_Within.calls a0 a1 a2 t109 _ A8.out).mono ?_); rintro e w' ⟨rfl, ⟨nd, rfl⟩⟩) | (go_at_call 29; (with_reducible refine (sendbuf_Max.calls a0 a1 t110 _ A10.out).mono ?_); rintro e w' ⟨rfl, ⟨nd, rfl⟩⟩) | (go_at_call 30; (with_reducible refine (stopcockref15_Max.calls a0 a1 t111 _ A11.out).mono ?_); rintro e w' ⟨rfl, ⟨nd, rfl⟩⟩) | ((with_reducible refine gate_callee (f := 25) rfl ?_); refine goesL_ (some 36) rfl rfl Tryd.func25 (by kernel_rfl) rfl #[.int .u32 a0, .int .u32 a0] rfl (by (try simp only [List.map_toArray, List.map_cons, List.map_nil]); first | done | rfl | (simp only [List.length_drop, List.length_take]; rfl)) ?_; (with_reducible refine (sendbuf_Less.calls a0 a0 false _ A13.out).mono ?_); rintro e w' ⟨rfl, ⟨nd, rfl⟩⟩; refine ⟨_, rfl, ?_⟩) | (go_at_call 25; (with_reducible refine (sendbuf_Less.calls a0 ((a0 + 1) % 4294967296) true _ A15.out).mono ?_); rintro e w' ⟨rfl, ⟨nd, rfl⟩⟩) | (go_at_call 25; (with_reducible refine (sendbuf_Less.calls ((a0 + a2) % 4294967296) ((a1 + a2) % 4294967296) t114 _ A17.out).mono ?_); rintro e w' ⟨rfl, ⟨nd, rfl⟩⟩) | (go_at_call 25; (with_reducible refine (sendbuf_Less.calls a0 a1 t115 _ A18.out).mono ?_); rintro e w' ⟨rfl, ⟨nd, rfl⟩⟩) | (go_at_call 7; (with_reducible refine (stopcocklaw15_alive.calls  t116 _ A20.out).mono ?_); rintro e w21 ⟨rfl, hb⟩; have n0_ := Aside0.mk (below_step (bel0 HB.out) hb); clear HB; have HB := n0_; clear n0_; (try clear hb); (try clear hb2); (try clear hk); (try clear hi)))
        go_ret
        exact ⟨by first | rfl | (simp [errW_none, errW_some] <;> rfl) | (simp [*, errW_none, errW_some] <;> rfl), by exact bel0 HB.out⟩
      rw [if_neg c19] at H; have c19b0 : (t114 == t115) = false := by simpa using c19
      (try (have c19b1 : decide (t114 = t115) = false := by simpa using c19))
      (try (have c19b2 : (t114 == t115) = false := by simpa using c19))
      (try (have c19b3 : ¬ (t114 = t115) := by simpa using c19))
      clear c19; exact absurd ((Option.some.inj H).trans HRT.out) (by decide)
    replace c16 := Bool.eq_false_iff.mpr c16
    subst c16
    have H1 : (some false) = some r := by rw [if_neg (show ¬ (false = true) by decide)] at H; exact H
    clear H; have H := H1; clear H1; exact absurd ((Option.some.inj H).trans HRT.out) (by decide)
  rw [if_neg c12] at H; have c12b0 : (t110 == t111) = false := beq_eq_false_iff_ne.mpr c12; have c12b1 : (t110 != t111) = true := bne_iff_ne.mpr c12; exact absurd ((Option.some.inj H).trans HRT.out) (by decide)

/-- THE ONE PURE STATEMENT of stopcocklaw15_SendbufNumbers: yours. -/
def stopcocklaw15_SendbufNumbers.Pure : Prop := ∀ (a0 : Int) (a1 : Int) (a2 : Int), (Lit.int .u32 a0).wf = true → (Lit.int .u32 a1).wf = true → (Lit.int .u32 a2).wf = true → stopcocklaw15_SendbufNumbers.f a0 a1 a2 = some true
theorem stopcocklaw15_SendbufNumbers.walk (P : stopcocklaw15_SendbufNumbers.Pure) (a0 : Int) (a1 : Int) (a2 : Int) (w : World) (w0 : (Lit.int .u32 a0).wf = true) (w1 : (Lit.int .u32 a1).wf = true) (w2 : (Lit.int .u32 a2).wf = true) :
    Calls Tryd.prog 6 #[.int .u32 a0, .int .u32 a1, .int .u32 a2] w fun e w' => e = .returned (.bool true) ∧ Below w.heap.size w w' := by
  have h := P a0 a1 a2 w0 w1 w2; refine (stopcocklaw15_SendbufNumbers.calls a0 a1 a2 true w h rfl).mono ?_
  rintro e w' ⟨rfl, hd⟩
  exact ⟨rfl, hd⟩

end Go.Proofs.YtiphiacidokhiaaDoor.PA
