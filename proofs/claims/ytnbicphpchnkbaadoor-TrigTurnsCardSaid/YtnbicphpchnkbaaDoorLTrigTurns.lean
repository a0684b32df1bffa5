/- The walk of the law TrigTurns: where its Lean function tells true, the call returns true and leaves memory below as it was. Laid by a program of this project out of the kit's print of the Go functions. -/
import Derived.Test.YtnbicphpchnkbaaDoorB0
import Derived.Test.YtnbicphpchnkbaaDoorB2
namespace Go.Proofs.YtnbicphpchnkbaaDoor.B
open Go.RowKit Go.Proofs.YtnbicphpchnkbaaDoorW.PrintWords Go.Proofs.YtnbicphpchnkbaaDoorW.PrintLast Go.Proofs.YtnbicphpchnkbaaDoorW.PrintMore
attribute [local go_sem] max2_int min2_int max_two min_two max_three min_three max_four min_four
set_option linter.unusedVariables false
set_option linter.unusedSimpArgs false

/-! ### outriggerlaw05_TrigTurns: function 4 -/
def outriggerlaw05_TrigTurns.f (a0 : Int) (a1 : Int) : Option (Bool) := (outriggerlaw05_awake.f).bind fun t127 => ((trig_Angle.f a0).bind fun t128 => ((trig_Both.f t128).bind fun bt129 => ((trig_Both.f (wrap64 (t128 + 2147483648))).bind fun bt131 => ((trig_Both.f (wrap64 (t128 + (wrap64 ((Go.bits .and .i64 a1 65535) * 4294967296))))).bind fun bt133 => ((trig_Both.f a0).bind fun bt135 => (if t127 = true then ((trig_Cos.f (wrap64 (t128 - 1073741824))).bind fun t137 => (if t137 = bt129.1 then ((trig_Sin.f (wrap64 (t128 + 1073741824))).bind fun t138 => (if t138 = bt129.2 then (if bt131.1 = (wrap64 (-bt129.1)) then (if bt131.2 = (wrap64 (-bt129.2)) then (if bt133.1 = bt129.1 then (if bt133.2 = bt129.2 then (if bt135.1 = bt129.1 then (if bt135.2 = bt129.2 then (if t128 ≥ 0 then (some (decide (t128 < 4294967296))) else (some false)) else (some false)) else (some false)) else (some false)) else (some false)) else (some false)) else (some false)) else (some false))) else (some false))) else (some false)))))))
set_option maxHeartbeats 8000000 in
set_option maxRecDepth 100000 in
theorem outriggerlaw05_TrigTurns.calls (a0 : Int) (a1 : Int) (r : Bool) (w : World) (h : outriggerlaw05_TrigTurns.f a0 a1 = some r) (hr : Aside0 (r = true)) (HG : Aside0 (Glob w)) :
    Calls Tryd.prog 4 #[.int .i64 a0, .int .i64 a1] w fun e w' => e = .returned (.bool r) ∧ Below w.heap.size w w' := by
  have HB := Aside0.mk (Below.refl w.heap.size w)
  have H : ((outriggerlaw05_awake.f).bind fun t127 => ((trig_Angle.f a0).bind fun t128 => ((trig_Both.f t128).bind fun bt129 => ((trig_Both.f (wrap64 (t128 + 2147483648))).bind fun bt131 => ((trig_Both.f (wrap64 (t128 + (wrap64 ((Go.bits .and .i64 a1 65535) * 4294967296))))).bind fun bt133 => ((trig_Both.f a0).bind fun bt135 => (if t127 = true then ((trig_Cos.f (wrap64 (t128 - 1073741824))).bind fun t137 => (if t137 = bt129.1 then ((trig_Sin.f (wrap64 (t128 + 1073741824))).bind fun t138 => (if t138 = bt129.2 then (if bt131.1 = (wrap64 (-bt129.1)) then (if bt131.2 = (wrap64 (-bt129.2)) then (if bt133.1 = bt129.1 then (if bt133.2 = bt129.2 then (if bt135.1 = bt129.1 then (if bt135.2 = bt129.2 then (if t128 ≥ 0 then (some (decide (t128 < 4294967296))) else (some false)) else (some false)) else (some false)) else (some false)) else (some false)) else (some false)) else (some false)) else (some false))) else (some false))) else (some false)))))))) = some r := h
  clear h
  replace H := Option.bind_eq_some_iff.mp H
  obtain ⟨t127, A30, H⟩ := H
  replace H : ((trig_Angle.f a0).bind fun t128 => ((trig_Both.f t128).bind fun bt129 => ((trig_Both.f (wrap64 (t128 + 2147483648))).bind fun bt131 => ((trig_Both.f (wrap64 (t128 + (wrap64 ((Go.bits .and .i64 a1 65535) * 4294967296))))).bind fun bt133 => ((trig_Both.f a0).bind fun bt135 => (if t127 = true then ((trig_Cos.f (wrap64 (t128 - 1073741824))).bind fun t137 => (if t137 = bt129.1 then ((trig_Sin.f (wrap64 (t128 + 1073741824))).bind fun t138 => (if t138 = bt129.2 then (if bt131.1 = (wrap64 (-bt129.1)) then (if bt131.2 = (wrap64 (-bt129.2)) then (if bt133.1 = bt129.1 then (if bt133.2 = bt129.2 then (if bt135.1 = bt129.1 then (if bt135.2 = bt129.2 then (if t128 ≥ 0 then (some (decide (t128 < 4294967296))) else (some false)) else (some false)) else (some false)) else (some false)) else (some false)) else (some false)) else (some false)) else (some false))) else (some false))) else (some false))))))) = some r := H
  have A3 := Aside0.mk A30
  clear A30
  replace H := Option.bind_eq_some_iff.mp H
  obtain ⟨t128, A40, H⟩ := H
  replace H : ((trig_Both.f t128).bind fun bt129 => ((trig_Both.f (wrap64 (t128 + 2147483648))).bind fun bt131 => ((trig_Both.f (wrap64 (t128 + (wrap64 ((Go.bits .and .i64 a1 65535) * 4294967296))))).bind fun bt133 => ((trig_Both.f a0).bind fun bt135 => (if t127 = true then ((trig_Cos.f (wrap64 (t128 - 1073741824))).bind fun t137 => (if t137 = bt129.1 then ((trig_Sin.f (wrap64 (t128 + 1073741824))).bind fun t138 => (if t138 = bt129.2 then (if bt131.1 = (wrap64 (-bt129.1)) then (if bt131.2 = (wrap64 (-bt129.2)) then (if bt133.1 = bt129.1 then (if bt133.2 = bt129.2 then (if bt135.1 = bt129.1 then (if bt135.2 = bt129.2 then (if t128 ≥ 0 then (some (decide (t128 < 4294967296))) else (some false)) else (some false)) else (some false)) else (some false)) else (some false)) else (some false)) else (some false)) else (some false))) else (some false))) else (some false)))))) = some r := H
  have A4 := Aside0.mk A40
  clear A40
  replace H := Option.bind_eq_some_iff.mp H
  obtain ⟨⟨t129, t130⟩, A50, H⟩ := H
  replace H : ((trig_Both.f (wrap64 (t128 + 2147483648))).bind fun bt131 => ((trig_Both.f (wrap64 (t128 + (wrap64 ((Go.bits .and .i64 a1 65535) * 4294967296))))).bind fun bt133 => ((trig_Both.f a0).bind fun bt135 => (if t127 = true then ((trig_Cos.f (wrap64 (t128 - 1073741824))).bind fun t137 => (if t137 = t129 then ((trig_Sin.f (wrap64 (t128 + 1073741824))).bind fun t138 => (if t138 = t130 then (if bt131.1 = (wrap64 (-t129)) then (if bt131.2 = (wrap64 (-t130)) then (if bt133.1 = t129 then (if bt133.2 = t130 then (if bt135.1 = t129 then (if bt135.2 = t130 then (if t128 ≥ 0 then (some (decide (t128 < 4294967296))) else (some false)) else (some false)) else (some false)) else (some false)) else (some false)) else (some false)) else (some false)) else (some false))) else (some false))) else (some false))))) = some r := H
  have A5 := Aside0.mk A50
  clear A50
  replace H := Option.bind_eq_some_iff.mp H
  obtain ⟨⟨t131, t132⟩, A60, H⟩ := H
  replace H : ((trig_Both.f (wrap64 (t128 + (wrap64 ((Go.bits .and .i64 a1 65535) * 4294967296))))).bind fun bt133 => ((trig_Both.f a0).bind fun bt135 => (if t127 = true then ((trig_Cos.f (wrap64 (t128 - 1073741824))).bind fun t137 => (if t137 = t129 then ((trig_Sin.f (wrap64 (t128 + 1073741824))).bind fun t138 => (if t138 = t130 then (if t131 = (wrap64 (-t129)) then (if t132 = (wrap64 (-t130)) then (if bt133.1 = t129 then (if bt133.2 = t130 then (if bt135.1 = t129 then (if bt135.2 = t130 then (if t128 ≥ 0 then (some (decide (t128 < 4294967296))) else (some false)) else (some false)) else (some false)) else (some false)) else (some false)) else (some false)) else (some false)) else (some false))) else (some false))) else (some false)))) = some r := H
  have A6 := Aside0.mk A60
  clear A60
  replace H := Option.bind_eq_some_iff.mp H
  obtain ⟨⟨t133, t134⟩, A70, H⟩ := H
  replace H : ((trig_Both.f a0).bind fun bt135 => (if t127 = true then ((trig_Cos.f (wrap64 (t128 - 1073741824))).bind fun t137 => (if t137 = t129 then ((trig_Sin.f (wrap64 (t128 + 1073741824))).bind fun t138 => (if t138 = t130 then (if t131 = (wrap64 (-t129)) then (if t132 = (wrap64 (-t130)) then (if t133 = t129 then (if t134 = t130 then (if bt135.1 = t129 then (if bt135.2 = t130 then (if t128 ≥ 0 then (some (decide (t128 < 4294967296))) else (some false)) else (some false)) else (some false)) else (some false)) else (some false)) else (some false)) else (some false)) else (some false))) else (some false))) else (some false))) = some r := H
  have A7 := Aside0.mk A70
  clear A70
  replace H := Option.bind_eq_some_iff.mp H
  obtain ⟨⟨t135, t136⟩, A80, H⟩ := H
  replace H : (if t127 = true then ((trig_Cos.f (wrap64 (t128 - 1073741824))).bind fun t137 => (if t137 = t129 then ((trig_Sin.f (wrap64 (t128 + 1073741824))).bind fun t138 => (if t138 = t130 then (if t131 = (wrap64 (-t129)) then (if t132 = (wrap64 (-t130)) then (if t133 = t129 then (if t134 = t130 then (if t135 = t129 then (if t136 = t130 then (if t128 ≥ 0 then (some (decide (t128 < 4294967296))) else (some false)) else (some false)) else (some false)) else (some false)) else (some false)) else (some false)) else (some false)) else (some false))) else (some false))) else (some false)) = some r := H
  have A8 := Aside0.mk A80
  clear A80
  by_cases c9 : t127 = true
  · subst c9
    have H1 : ((trig_Cos.f (wrap64 (t128 - 1073741824))).bind fun t137 => (if t137 = t129 then ((trig_Sin.f (wrap64 (t128 + 1073741824))).bind fun t138 => (if t138 = t130 then (if t131 = (wrap64 (-t129)) then (if t132 = (wrap64 (-t130)) then (if t133 = t129 then (if t134 = t130 then (if t135 = t129 then (if t136 = t130 then (if t128 ≥ 0 then (some (decide (t128 < 4294967296))) else (some false)) else (some false)) else (some false)) else (some false)) else (some false)) else (some false)) else (some false)) else (some false))) else (some false))) = some r := by rw [if_pos rfl] at H; exact H
    clear H
    have H := H1
    clear H1
    replace H := Option.bind_eq_some_iff.mp H
    obtain ⟨t137, A100, H⟩ := H
    replace H : (if t137 = t129 then ((trig_Sin.f (wrap64 (t128 + 1073741824))).bind fun t138 => (if t138 = t130 then (if t131 = (wrap64 (-t129)) then (if t132 = (wrap64 (-t130)) then (if t133 = t129 then (if t134 = t130 then (if t135 = t129 then (if t136 = t130 then (if t128 ≥ 0 then (some (decide (t128 < 4294967296))) else (some false)) else (some false)) else (some false)) else (some false)) else (some false)) else (some false)) else (some false)) else (some false))) else (some false)) = some r := H
    have A10 := Aside0.mk A100
    clear A100
    by_cases c11 : t137 = t129
    · rw [if_pos c11] at H
      have c11b0 : (t137 == t129) = true := beq_iff_eq.mpr c11
      have c11b1 : (t137 != t129) = false := bne_eq_false_iff_eq.mpr c11
      clear c11
      replace H := Option.bind_eq_some_iff.mp H
      obtain ⟨t138, A120, H⟩ := H
      replace H : (if t138 = t130 then (if t131 = (wrap64 (-t129)) then (if t132 = (wrap64 (-t130)) then (if t133 = t129 then (if t134 = t130 then (if t135 = t129 then (if t136 = t130 then (if t128 ≥ 0 then (some (decide (t128 < 4294967296))) else (some false)) else (some false)) else (some false)) else (some false)) else (some false)) else (some false)) else (some false)) else (some false)) = some r := H
      have A12 := Aside0.mk A120
      clear A120
      by_cases c13 : t138 = t130
      · rw [if_pos c13] at H
        have c13b0 : (t138 == t130) = true := beq_iff_eq.mpr c13
        have c13b1 : (t138 != t130) = false := bne_eq_false_iff_eq.mpr c13
        clear c13
        by_cases c14 : t131 = (wrap64 (-t129))
        · rw [if_pos c14] at H
          have c14b0 : (t131 == (wrap64 (-t129))) = true := beq_iff_eq.mpr c14
          have c14b1 : (t131 != (wrap64 (-t129))) = false := bne_eq_false_iff_eq.mpr c14
          clear c14
          by_cases c15 : t132 = (wrap64 (-t130))
          · rw [if_pos c15] at H
            have c15b0 : (t132 == (wrap64 (-t130))) = true := beq_iff_eq.mpr c15
            have c15b1 : (t132 != (wrap64 (-t130))) = false := bne_eq_false_iff_eq.mpr c15
            clear c15
            by_cases c16 : t133 = t129
            · rw [if_pos c16] at H
              have c16b0 : (t133 == t129) = true := beq_iff_eq.mpr c16
              have c16b1 : (t133 != t129) = false := bne_eq_false_iff_eq.mpr c16
              clear c16
              by_cases c17 : t134 = t130
              · rw [if_pos c17] at H
                have c17b0 : (t134 == t130) = true := beq_iff_eq.mpr c17
                have c17b1 : (t134 != t130) = false := bne_eq_false_iff_eq.mpr c17
                clear c17
                by_cases c18 : t135 = t129
                · rw [if_pos c18] at H
                  have c18b0 : (t135 == t129) = true := beq_iff_eq.mpr c18
                  have c18b1 : (t135 != t129) = false := bne_eq_false_iff_eq.mpr c18
                  clear c18
                  by_cases c19 : t136 = t130
                  · rw [if_pos c19] at H
                    have c19b0 : (t136 == t130) = true := beq_iff_eq.mpr c19
                    have c19b1 : (t136 != t130) = false := bne_eq_false_iff_eq.mpr c19
                    clear c19
                    by_cases c20 : t128 ≥ 0
                    · rw [if_pos c20] at H
                      have c20b0 : decide (0 ≤ t128) = true := decide_eq_true c20
                      clear c20
                      clear hr
                      obtain rfl := Option.some.inj H
                      go_enter Tryd.func4, Tryd.ntmps4
                      go_wp2_with (first | ((with_reducible refine gate_callee (f := 10) rfl ?_); refine goesL_ (some 15) rfl rfl Tryd.func10 (by kernel_rfl) rfl #[] rfl (by (try simp only [List.map_toArray, List.map_cons, List.map_nil]); first | done | rfl | (simp only [List.length_drop, List.length_take]; rfl)) ?_; (with_reducible refine (outriggerlaw05_awake.calls  true _ A3.out ⟨(by repeat (first | exact HG.out | apply glob_drewN | apply glob_drew | (refine glob_below HG ?_; repeat (first | (with_reducible first | exact HB.out | apply below_alloc | apply pw_below_drewN | apply below_drew1) | exact HB.out))))⟩).mono ?_); rintro e w21 ⟨rfl, hb⟩; refine ⟨_, rfl, ?_⟩; have n0_ := Aside0.mk (below_step (by repeat (first | (with_reducible first | exact HB.out | apply below_alloc | apply pw_below_drewN | apply below_drew1) | exact HB.out)) hb); clear HB; have HB := n0_; clear n0_; (try clear hb); (try clear hb2); (try clear hk); (try clear hi)) | ((with_reducible refine gate_callee (f := 13) rfl ?_); refine goesL_ (some 17) rfl rfl Tryd.func13 (by kernel_rfl) rfl #[.int .i64 a0] rfl (by (try simp only [List.map_toArray, List.map_cons, List.map_nil]); first | done | rfl | (simp only [List.length_drop, List.length_take]; rfl)) ?_; (with_reducible refine (trig_Angle.calls a0 t128 _ A4.out).mono ?_); rintro e w' ⟨rfl, ⟨nd, rfl⟩⟩; refine ⟨_, rfl, ?_⟩) | ((with_reducible refine gate_callee (f := 11) rfl ?_); refine goesL_ (some 20) rfl rfl Tryd.func11 (by kernel_rfl) rfl #[.int .i64 t128] rfl (by (try simp only [List.map_toArray, List.map_cons, List.map_nil]); first | done | rfl | (simp only [List.length_drop, List.length_take]; rfl)) ?_; (with_reducible refine (trig_Both.calls t128 t129 t130 _ A5.out ⟨(by repeat (first | exact HG.out | apply glob_drewN | apply glob_drew | (refine glob_below HG ?_; repeat (first | (with_reducible first | exact HB.out | apply below_alloc | apply pw_below_drewN | apply below_drew1) | exact HB.out))))⟩).mono ?_); rintro e w' ⟨rfl, ⟨nd, rfl⟩⟩; refine ⟨_, rfl, ?_⟩) | ((with_reducible refine gate_callee (f := 11) rfl ?_); refine goesL_ (some 26) rfl rfl Tryd.func11 (by kernel_rfl) rfl #[.int .i64 (wrap64 (t128 + 2147483648))] rfl (by (try simp only [List.map_toArray, List.map_cons, List.map_nil]); first | done | rfl | (simp only [List.length_drop, List.length_take]; rfl)) ?_; (with_reducible refine (trig_Both.calls (wrap64 (t128 + 2147483648)) t131 t132 _ A6.out ⟨(by repeat (first | exact HG.out | apply glob_drewN | apply glob_drew | (refine glob_below HG ?_; repeat (first | (with_reducible first | exact HB.out | apply below_alloc | apply pw_below_drewN | apply below_drew1) | exact HB.out))))⟩).mono ?_); rintro e w' ⟨rfl, ⟨nd, rfl⟩⟩; refine ⟨_, rfl, ?_⟩) | ((with_reducible refine gate_callee (f := 11) rfl ?_); refine goesL_ (some 35) rfl rfl Tryd.func11 (by kernel_rfl) rfl #[.int .i64 (wrap64 (t128 + (wrap64 ((Go.bits .and .i64 a1 65535) * 4294967296))))] rfl (by (try simp only [List.map_toArray, List.map_cons, List.map_nil]); first | done | rfl | (simp only [List.length_drop, List.length_take]; rfl)) ?_; (with_reducible refine (trig_Both.calls (wrap64 (t128 + (wrap64 ((Go.bits .and .i64 a1 65535) * 4294967296)))) t133 t134 _ A7.out ⟨(by repeat (first | exact HG.out | apply glob_drewN | apply glob_drew | (refine glob_below HG ?_; repeat (first | (with_reducible first | exact HB.out | apply below_alloc | apply pw_below_drewN | apply below_drew1) | exact HB.out))))⟩).mono ?_); rintro e w' ⟨rfl, ⟨nd, rfl⟩⟩; refine ⟨_, rfl, ?_⟩) | ((with_reducible refine gate_callee (f := 11) rfl ?_); refine goesL_ (some 40) rfl rfl Tryd.func11 (by kernel_rfl) rfl #[.int .i64 a0] rfl (by (try simp only [List.map_toArray, List.map_cons, List.map_nil]); first | done | rfl | (simp only [List.length_drop, List.length_take]; rfl)) ?_; (with_reducible refine (trig_Both.calls a0 t135 t136 _ A8.out ⟨(by repeat (first | exact HG.out | apply glob_drewN | apply glob_drew | (refine glob_below HG ?_; repeat (first | (with_reducible first | exact HB.out | apply below_alloc | apply pw_below_drewN | apply below_drew1) | exact HB.out))))⟩).mono ?_); rintro e w' ⟨rfl, ⟨nd, rfl⟩⟩; refine ⟨_, rfl, ?_⟩) | (go_at_call 16; (with_reducible refine (trig_Cos.calls (wrap64 (t128 - 1073741824)) t137 _ A10.out ⟨(by repeat (first | exact HG.out | apply glob_drewN | apply glob_drew | (refine glob_below HG ?_; repeat (first | (with_reducible first | exact HB.out | apply below_alloc | apply pw_below_drewN | apply below_drew1) | exact HB.out))))⟩).mono ?_); rintro e w' ⟨rfl, ⟨nd, rfl⟩⟩) | (go_at_call 15; (with_reducible refine (trig_Sin.calls (wrap64 (t128 + 1073741824)) t138 _ A12.out ⟨(by repeat (first | exact HG.out | apply glob_drewN | apply glob_drew | (refine glob_below HG ?_; repeat (first | (with_reducible first | exact HB.out | apply below_alloc | apply pw_below_drewN | apply below_drew1) | exact HB.out))))⟩).mono ?_); rintro e w' ⟨rfl, ⟨nd, rfl⟩⟩))
                      go_ret
                      exact ⟨by first | rfl | (simp [errW_none, errW_some] <;> rfl) | (simp [*, errW_none, errW_some] <;> rfl), by repeat (first | (with_reducible first | exact HB.out | apply below_alloc | apply pw_below_drewN | apply below_drew1) | exact HB.out)⟩
                    · rw [if_neg c20] at H
                      have c20b0 : decide (0 ≤ t128) = false := decide_eq_false c20
                      clear c20
                      exact absurd ((Option.some.inj H).trans hr.out) (by decide)
                  · rw [if_neg c19] at H
                    have c19b0 : (t136 == t130) = false := beq_eq_false_iff_ne.mpr c19
                    have c19b1 : (t136 != t130) = true := bne_iff_ne.mpr c19
                    exact absurd ((Option.some.inj H).trans hr.out) (by decide)
                · rw [if_neg c18] at H
                  have c18b0 : (t135 == t129) = false := beq_eq_false_iff_ne.mpr c18
                  have c18b1 : (t135 != t129) = true := bne_iff_ne.mpr c18
                  exact absurd ((Option.some.inj H).trans hr.out) (by decide)
              · rw [if_neg c17] at H
                have c17b0 : (t134 == t130) = false := beq_eq_false_iff_ne.mpr c17
                have c17b1 : (t134 != t130) = true := bne_iff_ne.mpr c17
                exact absurd ((Option.some.inj H).trans hr.out) (by decide)
            · rw [if_neg c16] at H
              have c16b0 : (t133 == t129) = false := beq_eq_false_iff_ne.mpr c16
              have c16b1 : (t133 != t129) = true := bne_iff_ne.mpr c16
              exact absurd ((Option.some.inj H).trans hr.out) (by decide)
          · rw [if_neg c15] at H
            have c15b0 : (t132 == (wrap64 (-t130))) = false := beq_eq_false_iff_ne.mpr c15
            have c15b1 : (t132 != (wrap64 (-t130))) = true := bne_iff_ne.mpr c15
            exact absurd ((Option.some.inj H).trans hr.out) (by decide)
        · rw [if_neg c14] at H
          have c14b0 : (t131 == (wrap64 (-t129))) = false := beq_eq_false_iff_ne.mpr c14
          have c14b1 : (t131 != (wrap64 (-t129))) = true := bne_iff_ne.mpr c14
          exact absurd ((Option.some.inj H).trans hr.out) (by decide)
      · rw [if_neg c13] at H
        have c13b0 : (t138 == t130) = false := beq_eq_false_iff_ne.mpr c13
        have c13b1 : (t138 != t130) = true := bne_iff_ne.mpr c13
        exact absurd ((Option.some.inj H).trans hr.out) (by decide)
    · rw [if_neg c11] at H
      have c11b0 : (t137 == t129) = false := beq_eq_false_iff_ne.mpr c11
      have c11b1 : (t137 != t129) = true := bne_iff_ne.mpr c11
      exact absurd ((Option.some.inj H).trans hr.out) (by decide)
  · replace c9 := Bool.eq_false_iff.mpr c9
    subst c9
    have H1 : (some false) = some r := by rw [if_neg (show ¬ (false = true) by decide)] at H; exact H
    clear H
    have H := H1
    clear H1
    exact absurd ((Option.some.inj H).trans hr.out) (by decide)


end Go.Proofs.YtnbicphpchnkbaaDoor.B
