/- The walk of the law TrigSigns: where its Lean function tells true, the call returns true and leaves memory below as it was. Laid by a program of this project out of the kit's print of the Go functions. -/
import Derived.Test.YtnbicphpchnkbaaDoorB0
import Derived.Test.YtnbicphpchnkbaaDoorB2
namespace Go.Proofs.YtnbicphpchnkbaaDoor.B
open Go.RowKit Go.Proofs.YtnbicphpchnkbaaDoorW.PrintWords Go.Proofs.YtnbicphpchnkbaaDoorW.PrintLast Go.Proofs.YtnbicphpchnkbaaDoorW.PrintMore
attribute [local go_sem] max2_int min2_int max_two min_two max_three min_three max_four min_four
set_option linter.unusedVariables false
set_option linter.unusedSimpArgs false

/-! ### outriggerlaw05_TrigSigns: function 7 -/
def outriggerlaw05_TrigSigns.f (a0 : Int) : Option (Bool) := (outriggerlaw05_awake.f).bind fun t127 => ((trig_Both.f a0).bind fun bt128 => ((trig_Angle.f a0).bind fun t130 => (if t127 = true then (if t130 < 2147483648 then (if bt128.1 ≥ (-8) then (if bt128.1 ≤ 4294967304 then (if bt128.1 ≥ (-4294967304) then (if bt128.2 ≤ 4294967304 then (some (decide (bt128.2 ≥ (-4294967304)))) else (some false)) else (some false)) else (some false)) else (some false)) else (if bt128.1 ≤ 8 then (if bt128.1 ≤ 4294967304 then (if bt128.1 ≥ (-4294967304) then (if bt128.2 ≤ 4294967304 then (some (decide (bt128.2 ≥ (-4294967304)))) else (some false)) else (some false)) else (some false)) else (some false))) else (some false))))
set_option maxHeartbeats 8000000 in
set_option maxRecDepth 100000 in
theorem outriggerlaw05_TrigSigns.calls (a0 : Int) (r : Bool) (w : World) (h : outriggerlaw05_TrigSigns.f a0 = some r) (hr : Aside0 (r = true)) (HG : Aside0 (Glob w)) :
    Calls Tryd.prog 7 #[.int .i64 a0] w fun e w' => e = .returned (.bool r) ∧ Below w.heap.size w w' := by
  have HB := Aside0.mk (Below.refl w.heap.size w)
  have H : ((outriggerlaw05_awake.f).bind fun t127 => ((trig_Both.f a0).bind fun bt128 => ((trig_Angle.f a0).bind fun t130 => (if t127 = true then (if t130 < 2147483648 then (if bt128.1 ≥ (-8) then (if bt128.1 ≤ 4294967304 then (if bt128.1 ≥ (-4294967304) then (if bt128.2 ≤ 4294967304 then (some (decide (bt128.2 ≥ (-4294967304)))) else (some false)) else (some false)) else (some false)) else (some false)) else (if bt128.1 ≤ 8 then (if bt128.1 ≤ 4294967304 then (if bt128.1 ≥ (-4294967304) then (if bt128.2 ≤ 4294967304 then (some (decide (bt128.2 ≥ (-4294967304)))) else (some false)) else (some false)) else (some false)) else (some false))) else (some false))))) = some r := h
  clear h
  replace H := Option.bind_eq_some_iff.mp H
  obtain ⟨t127, A20, H⟩ := H
  replace H : ((trig_Both.f a0).bind fun bt128 => ((trig_Angle.f a0).bind fun t130 => (if t127 = true then (if t130 < 2147483648 then (if bt128.1 ≥ (-8) then (if bt128.1 ≤ 4294967304 then (if bt128.1 ≥ (-4294967304) then (if bt128.2 ≤ 4294967304 then (some (decide (bt128.2 ≥ (-4294967304)))) else (some false)) else (some false)) else (some false)) else (some false)) else (if bt128.1 ≤ 8 then (if bt128.1 ≤ 4294967304 then (if bt128.1 ≥ (-4294967304) then (if bt128.2 ≤ 4294967304 then (some (decide (bt128.2 ≥ (-4294967304)))) else (some false)) else (some false)) else (some false)) else (some false))) else (some false)))) = some r := H
  have A2 := Aside0.mk A20
  clear A20
  replace H := Option.bind_eq_some_iff.mp H
  obtain ⟨⟨t128, t129⟩, A30, H⟩ := H
  replace H : ((trig_Angle.f a0).bind fun t130 => (if t127 = true then (if t130 < 2147483648 then (if t128 ≥ (-8) then (if t128 ≤ 4294967304 then (if t128 ≥ (-4294967304) then (if t129 ≤ 4294967304 then (some (decide (t129 ≥ (-4294967304)))) else (some false)) else (some false)) else (some false)) else (some false)) else (if t128 ≤ 8 then (if t128 ≤ 4294967304 then (if t128 ≥ (-4294967304) then (if t129 ≤ 4294967304 then (some (decide (t129 ≥ (-4294967304)))) else (some false)) else (some false)) else (some false)) else (some false))) else (some false))) = some r := H
  have A3 := Aside0.mk A30
  clear A30
  replace H := Option.bind_eq_some_iff.mp H
  obtain ⟨t130, A40, H⟩ := H
  replace H : (if t127 = true then (if t130 < 2147483648 then (if t128 ≥ (-8) then (if t128 ≤ 4294967304 then (if t128 ≥ (-4294967304) then (if t129 ≤ 4294967304 then (some (decide (t129 ≥ (-4294967304)))) else (some false)) else (some false)) else (some false)) else (some false)) else (if t128 ≤ 8 then (if t128 ≤ 4294967304 then (if t128 ≥ (-4294967304) then (if t129 ≤ 4294967304 then (some (decide (t129 ≥ (-4294967304)))) else (some false)) else (some false)) else (some false)) else (some false))) else (some false)) = some r := H
  have A4 := Aside0.mk A40
  clear A40
  by_cases c5 : t127 = true
  · subst c5
    have H1 : (if t130 < 2147483648 then (if t128 ≥ (-8) then (if t128 ≤ 4294967304 then (if t128 ≥ (-4294967304) then (if t129 ≤ 4294967304 then (some (decide (t129 ≥ (-4294967304)))) else (some false)) else (some false)) else (some false)) else (some false)) else (if t128 ≤ 8 then (if t128 ≤ 4294967304 then (if t128 ≥ (-4294967304) then (if t129 ≤ 4294967304 then (some (decide (t129 ≥ (-4294967304)))) else (some false)) else (some false)) else (some false)) else (some false))) = some r := by rw [if_pos rfl] at H; exact H
    clear H
    have H := H1
    clear H1
    by_cases c6 : t130 < 2147483648
    · rw [if_pos c6] at H
      have c6b0 : decide (t130 < 2147483648) = true := decide_eq_true c6
      clear c6
      by_cases c7 : t128 ≥ (-8)
      · rw [if_pos c7] at H
        have c7b0 : decide ((-8) ≤ t128) = true := decide_eq_true c7
        clear c7
        by_cases c8 : t128 ≤ 4294967304
        · rw [if_pos c8] at H
          have c8b0 : decide (t128 ≤ 4294967304) = true := decide_eq_true c8
          clear c8
          by_cases c9 : t128 ≥ (-4294967304)
          · rw [if_pos c9] at H
            have c9b0 : decide ((-4294967304) ≤ t128) = true := decide_eq_true c9
            clear c9
            by_cases c10 : t129 ≤ 4294967304
            · rw [if_pos c10] at H
              have c10b0 : decide (t129 ≤ 4294967304) = true := decide_eq_true c10
              clear c10
              clear hr
              obtain rfl := Option.some.inj H
              go_enter Tryd.func7, Tryd.ntmps7
              go_wp2_with (first | ((with_reducible refine gate_callee (f := 10) rfl ?_); refine goesL_ (some 7) rfl rfl Tryd.func10 (by kernel_rfl) rfl #[] rfl (by (try simp only [List.map_toArray, List.map_cons, List.map_nil]); first | done | rfl | (simp only [List.length_drop, List.length_take]; rfl)) ?_; (with_reducible refine (outriggerlaw05_awake.calls  true _ A2.out ⟨(by repeat (first | exact HG.out | apply glob_drewN | apply glob_drew | (refine glob_below HG ?_; repeat (first | (with_reducible first | exact HB.out | apply below_alloc | apply pw_below_drewN | apply below_drew1) | exact HB.out))))⟩).mono ?_); rintro e w11 ⟨rfl, hb⟩; refine ⟨_, rfl, ?_⟩; have n0_ := Aside0.mk (below_step (by repeat (first | (with_reducible first | exact HB.out | apply below_alloc | apply pw_below_drewN | apply below_drew1) | exact HB.out)) hb); clear HB; have HB := n0_; clear n0_; (try clear hb); (try clear hb2); (try clear hk); (try clear hi)) | ((with_reducible refine gate_callee (f := 11) rfl ?_); refine goesL_ (some 10) rfl rfl Tryd.func11 (by kernel_rfl) rfl #[.int .i64 a0] rfl (by (try simp only [List.map_toArray, List.map_cons, List.map_nil]); first | done | rfl | (simp only [List.length_drop, List.length_take]; rfl)) ?_; (with_reducible refine (trig_Both.calls a0 t128 t129 _ A3.out ⟨(by repeat (first | exact HG.out | apply glob_drewN | apply glob_drew | (refine glob_below HG ?_; repeat (first | (with_reducible first | exact HB.out | apply below_alloc | apply pw_below_drewN | apply below_drew1) | exact HB.out))))⟩).mono ?_); rintro e w' ⟨rfl, ⟨nd, rfl⟩⟩; refine ⟨_, rfl, ?_⟩) | ((with_reducible refine gate_callee (f := 13) rfl ?_); refine goesL_ (some 14) rfl rfl Tryd.func13 (by kernel_rfl) rfl #[.int .i64 a0] rfl (by (try simp only [List.map_toArray, List.map_cons, List.map_nil]); first | done | rfl | (simp only [List.length_drop, List.length_take]; rfl)) ?_; (with_reducible refine (trig_Angle.calls a0 t130 _ A4.out).mono ?_); rintro e w' ⟨rfl, ⟨nd, rfl⟩⟩; refine ⟨_, rfl, ?_⟩))
              go_ret
              exact ⟨by first | rfl | (simp [errW_none, errW_some] <;> rfl) | (simp [*, errW_none, errW_some] <;> rfl), by repeat (first | (with_reducible first | exact HB.out | apply below_alloc | apply pw_below_drewN | apply below_drew1) | exact HB.out)⟩
            · rw [if_neg c10] at H
              have c10b0 : decide (t129 ≤ 4294967304) = false := decide_eq_false c10
              clear c10
              exact absurd ((Option.some.inj H).trans hr.out) (by decide)
          · rw [if_neg c9] at H
            have c9b0 : decide ((-4294967304) ≤ t128) = false := decide_eq_false c9
            clear c9
            exact absurd ((Option.some.inj H).trans hr.out) (by decide)
        · rw [if_neg c8] at H
          have c8b0 : decide (t128 ≤ 4294967304) = false := decide_eq_false c8
          clear c8
          exact absurd ((Option.some.inj H).trans hr.out) (by decide)
      · rw [if_neg c7] at H
        have c7b0 : decide ((-8) ≤ t128) = false := decide_eq_false c7
        clear c7
        exact absurd ((Option.some.inj H).trans hr.out) (by decide)
    · rw [if_neg c6] at H
      have c6b0 : decide (t130 < 2147483648) = false := decide_eq_false c6
      clear c6
      by_cases c16 : t128 ≤ 8
      · rw [if_pos c16] at H
        have c16b0 : decide (t128 ≤ 8) = true := decide_eq_true c16
        clear c16
        by_cases c17 : t128 ≤ 4294967304
        · rw [if_pos c17] at H
          have c17b0 : decide (t128 ≤ 4294967304) = true := decide_eq_true c17
          clear c17
          by_cases c18 : t128 ≥ (-4294967304)
          · rw [if_pos c18] at H
            have c18b0 : decide ((-4294967304) ≤ t128) = true := decide_eq_true c18
            clear c18
            by_cases c19 : t129 ≤ 4294967304
            · rw [if_pos c19] at H
              have c19b0 : decide (t129 ≤ 4294967304) = true := decide_eq_true c19
              clear c19
              clear hr
              obtain rfl := Option.some.inj H
              go_enter Tryd.func7, Tryd.ntmps7
              go_wp2_with (first | ((with_reducible refine gate_callee (f := 10) rfl ?_); refine goesL_ (some 7) rfl rfl Tryd.func10 (by kernel_rfl) rfl #[] rfl (by (try simp only [List.map_toArray, List.map_cons, List.map_nil]); first | done | rfl | (simp only [List.length_drop, List.length_take]; rfl)) ?_; (with_reducible refine (outriggerlaw05_awake.calls  true _ A2.out ⟨(by repeat (first | exact HG.out | apply glob_drewN | apply glob_drew | (refine glob_below HG ?_; repeat (first | (with_reducible first | exact HB.out | apply below_alloc | apply pw_below_drewN | apply below_drew1) | exact HB.out))))⟩).mono ?_); rintro e w20 ⟨rfl, hb⟩; refine ⟨_, rfl, ?_⟩; have n0_ := Aside0.mk (below_step (by repeat (first | (with_reducible first | exact HB.out | apply below_alloc | apply pw_below_drewN | apply below_drew1) | exact HB.out)) hb); clear HB; have HB := n0_; clear n0_; (try clear hb); (try clear hb2); (try clear hk); (try clear hi)) | ((with_reducible refine gate_callee (f := 11) rfl ?_); refine goesL_ (some 10) rfl rfl Tryd.func11 (by kernel_rfl) rfl #[.int .i64 a0] rfl (by (try simp only [List.map_toArray, List.map_cons, List.map_nil]); first | done | rfl | (simp only [List.length_drop, List.length_take]; rfl)) ?_; (with_reducible refine (trig_Both.calls a0 t128 t129 _ A3.out ⟨(by repeat (first | exact HG.out | apply glob_drewN | apply glob_drew | (refine glob_below HG ?_; repeat (first | (with_reducible first | exact HB.out | apply below_alloc | apply pw_below_drewN | apply below_drew1) | exact HB.out))))⟩).mono ?_); rintro e w' ⟨rfl, ⟨nd, rfl⟩⟩; refine ⟨_, rfl, ?_⟩) | ((with_reducible refine gate_callee (f := 13) rfl ?_); refine goesL_ (some 14) rfl rfl Tryd.func13 (by kernel_rfl) rfl #[.int .i64 a0] rfl (by (try simp only [List.map_toArray, List.map_cons, List.map_nil]); first | done | rfl | (simp only [List.length_drop, List.length_take]; rfl)) ?_; (with_reducible refine (trig_Angle.calls a0 t130 _ A4.out).mono ?_); rintro e w' ⟨rfl, ⟨nd, rfl⟩⟩; refine ⟨_, rfl, ?_⟩))
              go_ret
              exact ⟨by first | rfl | (simp [errW_none, errW_some] <;> rfl) | (simp [*, errW_none, errW_some] <;> rfl), by repeat (first | (with_reducible first | exact HB.out | apply below_alloc | apply pw_below_drewN | apply below_drew1) | exact HB.out)⟩
            · rw [if_neg c19] at H
              have c19b0 : decide (t129 ≤ 4294967304) = false := decide_eq_false c19
              clear c19
              exact absurd ((Option.some.inj H).trans hr.out) (by decide)
          · rw [if_neg c18] at H
            have c18b0 : decide ((-4294967304) ≤ t128) = false := decide_eq_false c18
            clear c18
            exact absurd ((Option.some.inj H).trans hr.out) (by decide)
        · rw [if_neg c17] at H
          have c17b0 : decide (t128 ≤ 4294967304) = false := decide_eq_false c17
          clear c17
          exact absurd ((Option.some.inj H).trans hr.out) (by decide)
      · rw [if_neg c16] at H
        have c16b0 : decide (t128 ≤ 8) = false := decide_eq_false c16
        clear c16
        exact absurd ((Option.some.inj H).trans hr.out) (by decide)
  · replace c5 := Bool.eq_false_iff.mpr c5
    subst c5
    have H1 : (some false) = some r := by rw [if_neg (show ¬ (false = true) by decide)] at H; exact H
    clear H
    have H := H1
    clear H1
    exact absurd ((Option.some.inj H).trans hr.out) (by decide)


end Go.Proofs.YtnbicphpchnkbaaDoor.B
