/- The walk of the law TrigIs: where its Lean function tells true, the call returns true and leaves memory below as it was. Laid by a program of this project out of the kit's print of the Go functions. -/
import Derived.Test.YtnbicphpchnkbaaDoorB0
import Derived.Test.YtnbicphpchnkbaaDoorB2
import Derived.Test.YtnbicphpchnkbaaDoorB4
namespace Go.Proofs.YtnbicphpchnkbaaDoor.B
open Go.RowKit Go.Proofs.YtnbicphpchnkbaaDoorW.PrintWords Go.Proofs.YtnbicphpchnkbaaDoorW.PrintLast Go.Proofs.YtnbicphpchnkbaaDoorW.PrintMore
attribute [local go_sem] max2_int min2_int max_two min_two max_three min_three max_four min_four
set_option linter.unusedVariables false
set_option linter.unusedSimpArgs false

/-! ### outriggerlaw05_TrigIs: function 3 -/
def outriggerlaw05_TrigIs.f (k : Nat) (a0 : Int) (a1 : Int) (a2 : Int) : Option (Bool) := (outriggerlaw05_awake.f).bind fun t161 => ((trig_Both.f a0).bind fun bt162 => ((outriggerref05_Both.f k a0).bind fun bt164 => (if t161 = true then ((trig_Angle.f a0).bind fun t166 => ((outriggerref05_Angle.f a0).bind fun t167 => (if t166 = t167 then (if bt162.1 = bt164.1 then (if bt162.2 = bt164.2 then ((trig_Sin.f a0).bind fun t168 => (if t168 = bt164.1 then ((trig_Cos.f a0).bind fun t169 => (if t169 = bt164.2 then ((trig_Atan.f a1 a2).bind fun t170 => ((outriggerref05_Atan.f k a1 a2).bind fun t171 => (some (t170 == t171)))) else (some false))) else (some false))) else (some false)) else (some false)) else (some false)))) else (some false))))
theorem outriggerlaw05_TrigIs.mono : ∀ a0 a1 a2 k, LeO (outriggerlaw05_TrigIs.f k a0 a1 a2) (outriggerlaw05_TrigIs.f (k + 1) a0 a1 a2) := by
  intro a0 a1 a2 k
  unfold outriggerlaw05_TrigIs.f
  repeat' first
      | (with_reducible exact outriggerref05_Atan.mono _ _ _)
      | (with_reducible exact outriggerref05_Both.mono _ _)
      | (with_reducible exact LeO.refl _)
      | (with_reducible exact LeO.none _)
      | (with_reducible refine LeO.ite ?_ ?_)
      | (with_reducible refine LeO.bind ?_ (fun _ => ?_))
      | exact outriggerref05_Atan.mono _ _ _
      | exact outriggerref05_Both.mono _ _
      | exact LeO.none _
      | refine LeO.ite ?_ ?_
      | refine LeO.bind ?_ (fun _ => ?_)
set_option maxHeartbeats 8000000 in
set_option maxRecDepth 100000 in
theorem outriggerlaw05_TrigIs.calls (k : Nat) (a0 : Int) (a1 : Int) (a2 : Int) (r : Bool) (w : World) (h : outriggerlaw05_TrigIs.f k a0 a1 a2 = some r) (hr : Aside0 (r = true)) (HG : Aside0 (Glob w)) :
    Calls Tryd.prog 3 #[.int .i64 a0, .int .i64 a1, .int .i64 a2] w fun e w' => e = .returned (.bool r) ∧ Below w.heap.size w w' := by
  have HB := Aside0.mk (Below.refl w.heap.size w)
  have H : ((outriggerlaw05_awake.f).bind fun t161 => ((trig_Both.f a0).bind fun bt162 => ((outriggerref05_Both.f k a0).bind fun bt164 => (if t161 = true then ((trig_Angle.f a0).bind fun t166 => ((outriggerref05_Angle.f a0).bind fun t167 => (if t166 = t167 then (if bt162.1 = bt164.1 then (if bt162.2 = bt164.2 then ((trig_Sin.f a0).bind fun t168 => (if t168 = bt164.1 then ((trig_Cos.f a0).bind fun t169 => (if t169 = bt164.2 then ((trig_Atan.f a1 a2).bind fun t170 => ((outriggerref05_Atan.f k a1 a2).bind fun t171 => (some (t170 == t171)))) else (some false))) else (some false))) else (some false)) else (some false)) else (some false)))) else (some false))))) = some r := h
  clear h
  replace H := Option.bind_eq_some_iff.mp H
  obtain ⟨t161, A40, H⟩ := H
  replace H : ((trig_Both.f a0).bind fun bt162 => ((outriggerref05_Both.f k a0).bind fun bt164 => (if t161 = true then ((trig_Angle.f a0).bind fun t166 => ((outriggerref05_Angle.f a0).bind fun t167 => (if t166 = t167 then (if bt162.1 = bt164.1 then (if bt162.2 = bt164.2 then ((trig_Sin.f a0).bind fun t168 => (if t168 = bt164.1 then ((trig_Cos.f a0).bind fun t169 => (if t169 = bt164.2 then ((trig_Atan.f a1 a2).bind fun t170 => ((outriggerref05_Atan.f k a1 a2).bind fun t171 => (some (t170 == t171)))) else (some false))) else (some false))) else (some false)) else (some false)) else (some false)))) else (some false)))) = some r := H
  have A4 := Aside0.mk A40
  clear A40
  replace H := Option.bind_eq_some_iff.mp H
  obtain ⟨⟨t162, t163⟩, A50, H⟩ := H
  replace H : ((outriggerref05_Both.f k a0).bind fun bt164 => (if t161 = true then ((trig_Angle.f a0).bind fun t166 => ((outriggerref05_Angle.f a0).bind fun t167 => (if t166 = t167 then (if t162 = bt164.1 then (if t163 = bt164.2 then ((trig_Sin.f a0).bind fun t168 => (if t168 = bt164.1 then ((trig_Cos.f a0).bind fun t169 => (if t169 = bt164.2 then ((trig_Atan.f a1 a2).bind fun t170 => ((outriggerref05_Atan.f k a1 a2).bind fun t171 => (some (t170 == t171)))) else (some false))) else (some false))) else (some false)) else (some false)) else (some false)))) else (some false))) = some r := H
  have A5 := Aside0.mk A50
  clear A50
  replace H := Option.bind_eq_some_iff.mp H
  obtain ⟨⟨t164, t165⟩, A60, H⟩ := H
  replace H : (if t161 = true then ((trig_Angle.f a0).bind fun t166 => ((outriggerref05_Angle.f a0).bind fun t167 => (if t166 = t167 then (if t162 = t164 then (if t163 = t165 then ((trig_Sin.f a0).bind fun t168 => (if t168 = t164 then ((trig_Cos.f a0).bind fun t169 => (if t169 = t165 then ((trig_Atan.f a1 a2).bind fun t170 => ((outriggerref05_Atan.f k a1 a2).bind fun t171 => (some (t170 == t171)))) else (some false))) else (some false))) else (some false)) else (some false)) else (some false)))) else (some false)) = some r := H
  have A6 := Aside0.mk A60
  clear A60
  by_cases c7 : t161 = true
  · subst c7
    have H1 : ((trig_Angle.f a0).bind fun t166 => ((outriggerref05_Angle.f a0).bind fun t167 => (if t166 = t167 then (if t162 = t164 then (if t163 = t165 then ((trig_Sin.f a0).bind fun t168 => (if t168 = t164 then ((trig_Cos.f a0).bind fun t169 => (if t169 = t165 then ((trig_Atan.f a1 a2).bind fun t170 => ((outriggerref05_Atan.f k a1 a2).bind fun t171 => (some (t170 == t171)))) else (some false))) else (some false))) else (some false)) else (some false)) else (some false)))) = some r := by rw [if_pos rfl] at H; exact H
    clear H
    have H := H1
    clear H1
    replace H := Option.bind_eq_some_iff.mp H
    obtain ⟨t166, A80, H⟩ := H
    replace H : ((outriggerref05_Angle.f a0).bind fun t167 => (if t166 = t167 then (if t162 = t164 then (if t163 = t165 then ((trig_Sin.f a0).bind fun t168 => (if t168 = t164 then ((trig_Cos.f a0).bind fun t169 => (if t169 = t165 then ((trig_Atan.f a1 a2).bind fun t170 => ((outriggerref05_Atan.f k a1 a2).bind fun t171 => (some (t170 == t171)))) else (some false))) else (some false))) else (some false)) else (some false)) else (some false))) = some r := H
    have A8 := Aside0.mk A80
    clear A80
    replace H := Option.bind_eq_some_iff.mp H
    obtain ⟨t167, A90, H⟩ := H
    replace H : (if t166 = t167 then (if t162 = t164 then (if t163 = t165 then ((trig_Sin.f a0).bind fun t168 => (if t168 = t164 then ((trig_Cos.f a0).bind fun t169 => (if t169 = t165 then ((trig_Atan.f a1 a2).bind fun t170 => ((outriggerref05_Atan.f k a1 a2).bind fun t171 => (some (t170 == t171)))) else (some false))) else (some false))) else (some false)) else (some false)) else (some false)) = some r := H
    have A9 := Aside0.mk A90
    clear A90
    by_cases c10 : t166 = t167
    · rw [if_pos c10] at H
      have c10b0 : (t166 == t167) = true := beq_iff_eq.mpr c10
      have c10b1 : (t166 != t167) = false := bne_eq_false_iff_eq.mpr c10
      clear c10
      by_cases c11 : t162 = t164
      · rw [if_pos c11] at H
        have c11b0 : (t162 == t164) = true := beq_iff_eq.mpr c11
        have c11b1 : (t162 != t164) = false := bne_eq_false_iff_eq.mpr c11
        clear c11
        by_cases c12 : t163 = t165
        · rw [if_pos c12] at H
          have c12b0 : (t163 == t165) = true := beq_iff_eq.mpr c12
          have c12b1 : (t163 != t165) = false := bne_eq_false_iff_eq.mpr c12
          clear c12
          replace H := Option.bind_eq_some_iff.mp H
          obtain ⟨t168, A130, H⟩ := H
          replace H : (if t168 = t164 then ((trig_Cos.f a0).bind fun t169 => (if t169 = t165 then ((trig_Atan.f a1 a2).bind fun t170 => ((outriggerref05_Atan.f k a1 a2).bind fun t171 => (some (t170 == t171)))) else (some false))) else (some false)) = some r := H
          have A13 := Aside0.mk A130
          clear A130
          by_cases c14 : t168 = t164
          · rw [if_pos c14] at H
            have c14b0 : (t168 == t164) = true := beq_iff_eq.mpr c14
            have c14b1 : (t168 != t164) = false := bne_eq_false_iff_eq.mpr c14
            clear c14
            replace H := Option.bind_eq_some_iff.mp H
            obtain ⟨t169, A150, H⟩ := H
            replace H : (if t169 = t165 then ((trig_Atan.f a1 a2).bind fun t170 => ((outriggerref05_Atan.f k a1 a2).bind fun t171 => (some (t170 == t171)))) else (some false)) = some r := H
            have A15 := Aside0.mk A150
            clear A150
            by_cases c16 : t169 = t165
            · rw [if_pos c16] at H
              have c16b0 : (t169 == t165) = true := beq_iff_eq.mpr c16
              have c16b1 : (t169 != t165) = false := bne_eq_false_iff_eq.mpr c16
              clear c16
              replace H := Option.bind_eq_some_iff.mp H
              obtain ⟨t170, A170, H⟩ := H
              replace H : ((outriggerref05_Atan.f k a1 a2).bind fun t171 => (some (t170 == t171))) = some r := H
              have A17 := Aside0.mk A170
              clear A170
              replace H := Option.bind_eq_some_iff.mp H
              obtain ⟨t171, A180, H⟩ := H
              replace H : (some (t170 == t171)) = some r := H
              have A18 := Aside0.mk A180
              clear A180
              clear hr
              obtain rfl := Option.some.inj H
              go_enter Tryd.func3, Tryd.ntmps3
              go_wp2_with (first | ((with_reducible refine gate_callee (f := 10) rfl ?_); refine goesL_ (some 12) rfl rfl Tryd.func10 (by kernel_rfl) rfl #[] rfl (by (try simp only [List.map_toArray, List.map_cons, List.map_nil]); first | done | rfl | (simp only [List.length_drop, List.length_take]; rfl)) ?_; (with_reducible refine (outriggerlaw05_awake.calls  true _ A4.out ⟨(by repeat (first | exact HG.out | apply glob_drewN | apply glob_drew | (refine glob_below HG ?_; repeat (first | (with_reducible first | exact HB.out | apply below_alloc | apply pw_below_drewN | apply below_drew1) | exact HB.out))))⟩).mono ?_); rintro e w19 ⟨rfl, hb⟩; refine ⟨_, rfl, ?_⟩; have n0_ := Aside0.mk (below_step (by repeat (first | (with_reducible first | exact HB.out | apply below_alloc | apply pw_below_drewN | apply below_drew1) | exact HB.out)) hb); clear HB; have HB := n0_; clear n0_; (try clear hb); (try clear hb2); (try clear hk); (try clear hi)) | ((with_reducible refine gate_callee (f := 11) rfl ?_); refine goesL_ (some 15) rfl rfl Tryd.func11 (by kernel_rfl) rfl #[.int .i64 a0] rfl (by (try simp only [List.map_toArray, List.map_cons, List.map_nil]); first | done | rfl | (simp only [List.length_drop, List.length_take]; rfl)) ?_; (with_reducible refine (trig_Both.calls a0 t162 t163 _ A5.out ⟨(by repeat (first | exact HG.out | apply glob_drewN | apply glob_drew | (refine glob_below HG ?_; repeat (first | (with_reducible first | exact HB.out | apply below_alloc | apply pw_below_drewN | apply below_drew1) | exact HB.out))))⟩).mono ?_); rintro e w' ⟨rfl, ⟨nd, rfl⟩⟩; refine ⟨_, rfl, ?_⟩) | ((with_reducible refine gate_callee (f := 12) rfl ?_); refine goesL_ (some 20) rfl rfl Tryd.func12 (by kernel_rfl) rfl #[.int .i64 a0] rfl (by (try simp only [List.map_toArray, List.map_cons, List.map_nil]); first | done | rfl | (simp only [List.length_drop, List.length_take]; rfl)) ?_; (with_reducible refine (outriggerref05_Both.calls k a0 t164 t165 _ A6.out).mono ?_); rintro e w20 ⟨rfl, hb⟩; refine ⟨_, rfl, ?_⟩; have n0_ := Aside0.mk (below_step (by repeat (first | (with_reducible first | exact HB.out | apply below_alloc | apply pw_below_drewN | apply below_drew1) | exact HB.out)) hb); clear HB; have HB := n0_; clear n0_; (try clear hb); (try clear hb2); (try clear hk); (try clear hi)) | (go_at_call 13; (with_reducible refine (trig_Angle.calls a0 t166 _ A8.out).mono ?_); rintro e w' ⟨rfl, ⟨nd, rfl⟩⟩) | (go_at_call 14; (with_reducible refine (outriggerref05_Angle.calls a0 t167 _ A9.out).mono ?_); rintro e w' ⟨rfl, ⟨nd, rfl⟩⟩) | (go_at_call 15; (with_reducible refine (trig_Sin.calls a0 t168 _ A13.out ⟨(by repeat (first | exact HG.out | apply glob_drewN | apply glob_drew | (refine glob_below HG ?_; repeat (first | (with_reducible first | exact HB.out | apply below_alloc | apply pw_below_drewN | apply below_drew1) | exact HB.out))))⟩).mono ?_); rintro e w' ⟨rfl, ⟨nd, rfl⟩⟩) | (go_at_call 16; (with_reducible refine (trig_Cos.calls a0 t169 _ A15.out ⟨(by repeat (first | exact HG.out | apply glob_drewN | apply glob_drew | (refine glob_below HG ?_; repeat (first | (with_reducible first | exact HB.out | apply below_alloc | apply pw_below_drewN | apply below_drew1) | exact HB.out))))⟩).mono ?_); rintro e w' ⟨rfl, ⟨nd, rfl⟩⟩) | (go_at_call 17; (with_reducible refine (trig_Atan.calls a1 a2 t170 _ A17.out ⟨(by repeat (first | exact HG.out | apply glob_drewN | apply glob_drew | (refine glob_below HG ?_; repeat (first | (with_reducible first | exact HB.out | apply below_alloc | apply pw_below_drewN | apply below_drew1) | exact HB.out))))⟩).mono ?_); rintro e w21 ⟨rfl, hb⟩; have n0_ := Aside0.mk (below_step (by repeat (first | (with_reducible first | exact HB.out | apply below_alloc | apply pw_below_drewN | apply below_drew1) | exact HB.out)) hb); clear HB; have HB := n0_; clear n0_; (try clear hb); (try clear hb2); (try clear hk); (try clear hi)) | (go_at_call 18; (with_reducible refine (outriggerref05_Atan.calls k a1 a2 t171 _ A18.out).mono ?_); rintro e w22 ⟨rfl, hb⟩; have n0_ := Aside0.mk (below_step (by repeat (first | (with_reducible first | exact HB.out | apply below_alloc | apply pw_below_drewN | apply below_drew1) | exact HB.out)) hb); clear HB; have HB := n0_; clear n0_; (try clear hb); (try clear hb2); (try clear hk); (try clear hi)))
              go_ret
              exact ⟨by first | rfl | (simp [errW_none, errW_some] <;> rfl) | (simp [*, errW_none, errW_some] <;> rfl), by repeat (first | (with_reducible first | exact HB.out | apply below_alloc | apply pw_below_drewN | apply below_drew1) | exact HB.out)⟩
            · rw [if_neg c16] at H
              have c16b0 : (t169 == t165) = false := beq_eq_false_iff_ne.mpr c16
              have c16b1 : (t169 != t165) = true := bne_iff_ne.mpr c16
              exact absurd ((Option.some.inj H).trans hr.out) (by decide)
          · rw [if_neg c14] at H
            have c14b0 : (t168 == t164) = false := beq_eq_false_iff_ne.mpr c14
            have c14b1 : (t168 != t164) = true := bne_iff_ne.mpr c14
            exact absurd ((Option.some.inj H).trans hr.out) (by decide)
        · rw [if_neg c12] at H
          have c12b0 : (t163 == t165) = false := beq_eq_false_iff_ne.mpr c12
          have c12b1 : (t163 != t165) = true := bne_iff_ne.mpr c12
          exact absurd ((Option.some.inj H).trans hr.out) (by decide)
      · rw [if_neg c11] at H
        have c11b0 : (t162 == t164) = false := beq_eq_false_iff_ne.mpr c11
        have c11b1 : (t162 != t164) = true := bne_iff_ne.mpr c11
        exact absurd ((Option.some.inj H).trans hr.out) (by decide)
    · rw [if_neg c10] at H
      have c10b0 : (t166 == t167) = false := beq_eq_false_iff_ne.mpr c10
      have c10b1 : (t166 != t167) = true := bne_iff_ne.mpr c10
      exact absurd ((Option.some.inj H).trans hr.out) (by decide)
  · replace c7 := Bool.eq_false_iff.mpr c7
    subst c7
    have H1 : (some false) = some r := by rw [if_neg (show ¬ (false = true) by decide)] at H; exact H
    clear H
    have H := H1
    clear H1
    exact absurd ((Option.some.inj H).trans hr.out) (by decide)


end Go.Proofs.YtnbicphpchnkbaaDoor.B
