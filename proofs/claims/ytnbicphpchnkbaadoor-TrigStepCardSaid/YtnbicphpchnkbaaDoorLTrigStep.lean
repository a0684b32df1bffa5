/- The walk of the law TrigStep: where its Lean function tells true, the call returns true and leaves memory below as it was. Laid by a program of this project out of the kit's print of the Go functions. -/
import Derived.Test.YtnbicphpchnkbaaDoorB0
import Derived.Test.YtnbicphpchnkbaaDoorB2
namespace Go.Proofs.YtnbicphpchnkbaaDoor.B
open Go.RowKit Go.Proofs.YtnbicphpchnkbaaDoorW.PrintWords Go.Proofs.YtnbicphpchnkbaaDoorW.PrintLast Go.Proofs.YtnbicphpchnkbaaDoorW.PrintMore
attribute [local go_sem] max2_int min2_int max_two min_two max_three min_three max_four min_four
set_option linter.unusedVariables false
set_option linter.unusedSimpArgs false

/-! ### outriggerlaw05_TrigStep: function 8 -/
def outriggerlaw05_TrigStep.f (a0 : Int) (a1 : Int) : Option (Bool) := (outriggerlaw05_awake.f).bind fun t127 => ((trig_Angle.f a0).bind fun t128 => ((trig_Both.f t128).bind fun bt129 => ((trig_Angle.f a0).bind fun t131 => ((trig_Both.f (wrap64 (t131 + (Go.bits .and .i64 a1 15)))).bind fun bt132 => (if t127 = true then ((outriggerlaw05_near.f bt129.1 bt132.1 (wrap64 ((wrap64 (7 * (Go.bits .and .i64 a1 15))) + 16))).bind fun t134 => (if t134 = true then ((outriggerlaw05_near.f bt129.2 bt132.2 (wrap64 ((wrap64 (7 * (Go.bits .and .i64 a1 15))) + 16))).bind fun t135 => (some t135)) else (some false))) else (some false))))))
set_option maxHeartbeats 8000000 in
set_option maxRecDepth 100000 in
theorem outriggerlaw05_TrigStep.calls (a0 : Int) (a1 : Int) (r : Bool) (w : World) (h : outriggerlaw05_TrigStep.f a0 a1 = some r) (hr : Aside0 (r = true)) (HG : Aside0 (Glob w)) :
    Calls Tryd.prog 8 #[.int .i64 a0, .int .i64 a1] w fun e w' => e = .returned (.bool r) ∧ Below w.heap.size w w' := by
  have HB := Aside0.mk (Below.refl w.heap.size w)
  have H : ((outriggerlaw05_awake.f).bind fun t127 => ((trig_Angle.f a0).bind fun t128 => ((trig_Both.f t128).bind fun bt129 => ((trig_Angle.f a0).bind fun t131 => ((trig_Both.f (wrap64 (t131 + (Go.bits .and .i64 a1 15)))).bind fun bt132 => (if t127 = true then ((outriggerlaw05_near.f bt129.1 bt132.1 (wrap64 ((wrap64 (7 * (Go.bits .and .i64 a1 15))) + 16))).bind fun t134 => (if t134 = true then ((outriggerlaw05_near.f bt129.2 bt132.2 (wrap64 ((wrap64 (7 * (Go.bits .and .i64 a1 15))) + 16))).bind fun t135 => (some t135)) else (some false))) else (some false))))))) = some r := h
  clear h
  replace H := Option.bind_eq_some_iff.mp H
  obtain ⟨t127, A30, H⟩ := H
  replace H : ((trig_Angle.f a0).bind fun t128 => ((trig_Both.f t128).bind fun bt129 => ((trig_Angle.f a0).bind fun t131 => ((trig_Both.f (wrap64 (t131 + (Go.bits .and .i64 a1 15)))).bind fun bt132 => (if t127 = true then ((outriggerlaw05_near.f bt129.1 bt132.1 (wrap64 ((wrap64 (7 * (Go.bits .and .i64 a1 15))) + 16))).bind fun t134 => (if t134 = true then ((outriggerlaw05_near.f bt129.2 bt132.2 (wrap64 ((wrap64 (7 * (Go.bits .and .i64 a1 15))) + 16))).bind fun t135 => (some t135)) else (some false))) else (some false)))))) = some r := H
  have A3 := Aside0.mk A30
  clear A30
  replace H := Option.bind_eq_some_iff.mp H
  obtain ⟨t128, A40, H⟩ := H
  replace H : ((trig_Both.f t128).bind fun bt129 => ((trig_Angle.f a0).bind fun t131 => ((trig_Both.f (wrap64 (t131 + (Go.bits .and .i64 a1 15)))).bind fun bt132 => (if t127 = true then ((outriggerlaw05_near.f bt129.1 bt132.1 (wrap64 ((wrap64 (7 * (Go.bits .and .i64 a1 15))) + 16))).bind fun t134 => (if t134 = true then ((outriggerlaw05_near.f bt129.2 bt132.2 (wrap64 ((wrap64 (7 * (Go.bits .and .i64 a1 15))) + 16))).bind fun t135 => (some t135)) else (some false))) else (some false))))) = some r := H
  have A4 := Aside0.mk A40
  clear A40
  replace H := Option.bind_eq_some_iff.mp H
  obtain ⟨⟨t129, t130⟩, A50, H⟩ := H
  replace H : ((trig_Angle.f a0).bind fun t131 => ((trig_Both.f (wrap64 (t131 + (Go.bits .and .i64 a1 15)))).bind fun bt132 => (if t127 = true then ((outriggerlaw05_near.f t129 bt132.1 (wrap64 ((wrap64 (7 * (Go.bits .and .i64 a1 15))) + 16))).bind fun t134 => (if t134 = true then ((outriggerlaw05_near.f t130 bt132.2 (wrap64 ((wrap64 (7 * (Go.bits .and .i64 a1 15))) + 16))).bind fun t135 => (some t135)) else (some false))) else (some false)))) = some r := H
  have A5 := Aside0.mk A50
  clear A50
  replace H := Option.bind_eq_some_iff.mp H
  obtain ⟨t131, A60, H⟩ := H
  replace H : ((trig_Both.f (wrap64 (t131 + (Go.bits .and .i64 a1 15)))).bind fun bt132 => (if t127 = true then ((outriggerlaw05_near.f t129 bt132.1 (wrap64 ((wrap64 (7 * (Go.bits .and .i64 a1 15))) + 16))).bind fun t134 => (if t134 = true then ((outriggerlaw05_near.f t130 bt132.2 (wrap64 ((wrap64 (7 * (Go.bits .and .i64 a1 15))) + 16))).bind fun t135 => (some t135)) else (some false))) else (some false))) = some r := H
  have A6 := Aside0.mk A60
  clear A60
  replace H := Option.bind_eq_some_iff.mp H
  obtain ⟨⟨t132, t133⟩, A70, H⟩ := H
  replace H : (if t127 = true then ((outriggerlaw05_near.f t129 t132 (wrap64 ((wrap64 (7 * (Go.bits .and .i64 a1 15))) + 16))).bind fun t134 => (if t134 = true then ((outriggerlaw05_near.f t130 t133 (wrap64 ((wrap64 (7 * (Go.bits .and .i64 a1 15))) + 16))).bind fun t135 => (some t135)) else (some false))) else (some false)) = some r := H
  have A7 := Aside0.mk A70
  clear A70
  by_cases c8 : t127 = true
  · subst c8
    have H1 : ((outriggerlaw05_near.f t129 t132 (wrap64 ((wrap64 (7 * (Go.bits .and .i64 a1 15))) + 16))).bind fun t134 => (if t134 = true then ((outriggerlaw05_near.f t130 t133 (wrap64 ((wrap64 (7 * (Go.bits .and .i64 a1 15))) + 16))).bind fun t135 => (some t135)) else (some false))) = some r := by rw [if_pos rfl] at H; exact H
    clear H
    have H := H1
    clear H1
    replace H := Option.bind_eq_some_iff.mp H
    obtain ⟨t134, A90, H⟩ := H
    replace H : (if t134 = true then ((outriggerlaw05_near.f t130 t133 (wrap64 ((wrap64 (7 * (Go.bits .and .i64 a1 15))) + 16))).bind fun t135 => (some t135)) else (some false)) = some r := H
    have A9 := Aside0.mk A90
    clear A90
    by_cases c10 : t134 = true
    · subst c10
      have H1 : ((outriggerlaw05_near.f t130 t133 (wrap64 ((wrap64 (7 * (Go.bits .and .i64 a1 15))) + 16))).bind fun t135 => (some t135)) = some r := by rw [if_pos rfl] at H; exact H
      clear H
      have H := H1
      clear H1
      replace H := Option.bind_eq_some_iff.mp H
      obtain ⟨t135, A110, H⟩ := H
      replace H : (some t135) = some r := H
      have A11 := Aside0.mk A110
      clear A110
      clear hr
      obtain rfl := Option.some.inj H
      go_enter Tryd.func8, Tryd.ntmps8
      go_wp2_with (first | ((with_reducible refine gate_callee (f := 10) rfl ?_); refine goesL_ (some 11) rfl rfl Tryd.func10 (by kernel_rfl) rfl #[] rfl (by (try simp only [List.map_toArray, List.map_cons, List.map_nil]); first | done | rfl | (simp only [List.length_drop, List.length_take]; rfl)) ?_; (with_reducible refine (outriggerlaw05_awake.calls  true _ A3.out ⟨(by repeat (first | exact HG.out | apply glob_drewN | apply glob_drew | (refine glob_below HG ?_; repeat (first | (with_reducible first | exact HB.out | apply below_alloc | apply pw_below_drewN | apply below_drew1) | exact HB.out))))⟩).mono ?_); rintro e w12 ⟨rfl, hb⟩; refine ⟨_, rfl, ?_⟩; have n0_ := Aside0.mk (below_step (by repeat (first | (with_reducible first | exact HB.out | apply below_alloc | apply pw_below_drewN | apply below_drew1) | exact HB.out)) hb); clear HB; have HB := n0_; clear n0_; (try clear hb); (try clear hb2); (try clear hk); (try clear hi)) | ((with_reducible refine gate_callee (f := 13) rfl ?_); refine goesL_ (some 16) rfl rfl Tryd.func13 (by kernel_rfl) rfl #[.int .i64 a0] rfl (by (try simp only [List.map_toArray, List.map_cons, List.map_nil]); first | done | rfl | (simp only [List.length_drop, List.length_take]; rfl)) ?_; (with_reducible refine (trig_Angle.calls a0 t128 _ A4.out).mono ?_); rintro e w' ⟨rfl, ⟨nd, rfl⟩⟩; refine ⟨_, rfl, ?_⟩) | ((with_reducible refine gate_callee (f := 11) rfl ?_); refine goesL_ (some 17) rfl rfl Tryd.func11 (by kernel_rfl) rfl #[.int .i64 t128] rfl (by (try simp only [List.map_toArray, List.map_cons, List.map_nil]); first | done | rfl | (simp only [List.length_drop, List.length_take]; rfl)) ?_; (with_reducible refine (trig_Both.calls t128 t129 t130 _ A5.out ⟨(by repeat (first | exact HG.out | apply glob_drewN | apply glob_drew | (refine glob_below HG ?_; repeat (first | (with_reducible first | exact HB.out | apply below_alloc | apply pw_below_drewN | apply below_drew1) | exact HB.out))))⟩).mono ?_); rintro e w' ⟨rfl, ⟨nd, rfl⟩⟩; refine ⟨_, rfl, ?_⟩) | ((with_reducible refine gate_callee (f := 13) rfl ?_); refine goesL_ (some 22) rfl rfl Tryd.func13 (by kernel_rfl) rfl #[.int .i64 a0] rfl (by (try simp only [List.map_toArray, List.map_cons, List.map_nil]); first | done | rfl | (simp only [List.length_drop, List.length_take]; rfl)) ?_; (with_reducible refine (trig_Angle.calls a0 t131 _ A6.out).mono ?_); rintro e w' ⟨rfl, ⟨nd, rfl⟩⟩; refine ⟨_, rfl, ?_⟩) | ((with_reducible refine gate_callee (f := 11) rfl ?_); refine goesL_ (some 25) rfl rfl Tryd.func11 (by kernel_rfl) rfl #[.int .i64 (wrap64 (t131 + (Go.bits .and .i64 a1 15)))] rfl (by (try simp only [List.map_toArray, List.map_cons, List.map_nil]); first | done | rfl | (simp only [List.length_drop, List.length_take]; rfl)) ?_; (with_reducible refine (trig_Both.calls (wrap64 (t131 + (Go.bits .and .i64 a1 15))) t132 t133 _ A7.out ⟨(by repeat (first | exact HG.out | apply glob_drewN | apply glob_drew | (refine glob_below HG ?_; repeat (first | (with_reducible first | exact HB.out | apply below_alloc | apply pw_below_drewN | apply below_drew1) | exact HB.out))))⟩).mono ?_); rintro e w' ⟨rfl, ⟨nd, rfl⟩⟩; refine ⟨_, rfl, ?_⟩) | (go_at_call 19; (with_reducible refine (outriggerlaw05_near.calls t129 t132 (wrap64 ((wrap64 (7 * (Go.bits .and .i64 a1 15))) + 16)) true _ A9.out).mono ?_); rintro e w' ⟨rfl, ⟨nd, rfl⟩⟩) | (go_at_call 19; (with_reducible refine (outriggerlaw05_near.calls t130 t133 (wrap64 ((wrap64 (7 * (Go.bits .and .i64 a1 15))) + 16)) t135 _ A11.out).mono ?_); rintro e w' ⟨rfl, ⟨nd, rfl⟩⟩))
      go_ret
      exact ⟨by first | rfl | (simp [errW_none, errW_some] <;> rfl) | (simp [*, errW_none, errW_some] <;> rfl), by repeat (first | (with_reducible first | exact HB.out | apply below_alloc | apply pw_below_drewN | apply below_drew1) | exact HB.out)⟩
    · replace c10 := Bool.eq_false_iff.mpr c10
      subst c10
      have H1 : (some false) = some r := by rw [if_neg (show ¬ (false = true) by decide)] at H; exact H
      clear H
      have H := H1
      clear H1
      exact absurd ((Option.some.inj H).trans hr.out) (by decide)
  · replace c8 := Bool.eq_false_iff.mpr c8
    subst c8
    have H1 : (some false) = some r := by rw [if_neg (show ¬ (false = true) by decide)] at H; exact H
    clear H
    have H := H1
    clear H1
    exact absurd ((Option.some.inj H).trans hr.out) (by decide)


end Go.Proofs.YtnbicphpchnkbaaDoor.B
