/- The walk of the law RootFour: where its Lean function tells true, the call returns true and leaves memory below as it was. Laid by a program of this project out of the kit's print of the Go functions. -/
import Derived.Test.YthfcodicpcengaaB0
import Derived.Test.YthfcodicpcengaaB3
import Derived.Test.YthfcodicpcengaaB4
namespace Go.Proofs.Ythfcodicpcengaa.B
open Go.RowKit Go.Proofs.YthfcodicpcengaaW.PrintWords Go.Proofs.YthfcodicpcengaaW.PrintLast Go.Proofs.YthfcodicpcengaaW.PrintMore
attribute [local go_sem] max2_int min2_int max_two min_two max_three min_three max_four min_four
set_option linter.unusedVariables false
set_option linter.unusedSimpArgs false

/-! ### outriggerlaw04_RootFour: function 6 -/
def outriggerlaw04_RootFour.j0 : Nat → Int → Int → Bool → Bool → Option (Bool)
  | 0, _, _, _, _ => none
  | k + 1, x0, x1, x5, x28 => if x28 = true then (some x5) else ((root_Sqrt.f k x0).bind fun bt190 => ((root_Sqrt.f k (wrap64 (4 * x0))).bind fun bt192 => ((root_Hyp.f k x0 x1).bind fun bt194 => ((root_Hyp.f k (wrap64 (2 * x0)) (wrap64 (2 * x1))).bind fun bt196 => (if x5 = true then (if bt190.2 = true then (some false) else (if bt192.2 = true then (some false) else (if bt194.2 = true then (some false) else (if bt196.2 = true then (some false) else (if bt192.1 = (wrap64 (2 * bt190.1)) then (if bt196.1 = (wrap64 (2 * bt194.1)) then (some true) else (some (bt196.1 == (wrap64 ((wrap64 (2 * bt194.1)) + 1))))) else (if bt192.1 = (wrap64 ((wrap64 (2 * bt190.1)) + 1)) then (if bt196.1 = (wrap64 (2 * bt194.1)) then (some true) else (some (bt196.1 == (wrap64 ((wrap64 (2 * bt194.1)) + 1))))) else (some false))))))) else (some false))))))
def outriggerlaw04_RootFour.f (k : Nat) (a0 : Int) (a1 : Int) : Option (Bool) := (outriggerlaw04_awake.f k).bind fun t189 => (if a0 < 0 then (outriggerlaw04_RootFour.j0 k a0 a1 t189 true) else (if a0 > 72057594037927936 then (outriggerlaw04_RootFour.j0 k a0 a1 t189 true) else (if a1 > 72057594037927936 then (outriggerlaw04_RootFour.j0 k a0 a1 t189 true) else (outriggerlaw04_RootFour.j0 k a0 a1 t189 (decide (a1 < (-72057594037927936)))))))
theorem outriggerlaw04_RootFour.mono_l : ∀ k, (∀ y0 y1 y2 y3, LeO (outriggerlaw04_RootFour.j0 k y0 y1 y2 y3) (outriggerlaw04_RootFour.j0 (k + 1) y0 y1 y2 y3))
  | 0 => fun _ _ _ _ r h => by simp [outriggerlaw04_RootFour.j0] at h
  | k + 1 => by
    have ih0 := outriggerlaw04_RootFour.mono_l k
    · intro y0 y1 y2 y3
      unfold outriggerlaw04_RootFour.j0
      repeat' first
      | (with_reducible exact ih0 _ _ _ _)
      | (with_reducible exact outriggerlaw04_awake.mono _)
      | (with_reducible exact root_Hyp.mono _ _ _)
      | (with_reducible exact root_Sqrt.mono _ _)
      | (with_reducible exact LeO.refl _)
      | (with_reducible exact LeO.none _)
      | (with_reducible refine LeO.ite ?_ ?_)
      | (with_reducible refine LeO.bind ?_ (fun _ => ?_))
      | exact ih0 _ _ _ _
      | exact outriggerlaw04_awake.mono _
      | exact root_Hyp.mono _ _ _
      | exact root_Sqrt.mono _ _
      | exact LeO.none _
      | refine LeO.ite ?_ ?_
      | refine LeO.bind ?_ (fun _ => ?_)
theorem outriggerlaw04_RootFour.mono : ∀ a0 a1 k, LeO (outriggerlaw04_RootFour.f k a0 a1) (outriggerlaw04_RootFour.f (k + 1) a0 a1) := by
  intro a0 a1 k
  have ih0 := outriggerlaw04_RootFour.mono_l k
  unfold outriggerlaw04_RootFour.f
  repeat' first
      | (with_reducible exact ih0 _ _ _ _)
      | (with_reducible exact outriggerlaw04_awake.mono _)
      | (with_reducible exact root_Hyp.mono _ _ _)
      | (with_reducible exact root_Sqrt.mono _ _)
      | (with_reducible exact LeO.refl _)
      | (with_reducible exact LeO.none _)
      | (with_reducible refine LeO.ite ?_ ?_)
      | (with_reducible refine LeO.bind ?_ (fun _ => ?_))
      | exact ih0 _ _ _ _
      | exact outriggerlaw04_awake.mono _
      | exact root_Hyp.mono _ _ _
      | exact root_Sqrt.mono _ _
      | exact LeO.none _
      | refine LeO.ite ?_ ?_
      | refine LeO.bind ?_ (fun _ => ?_)
set_option maxHeartbeats 8000000 in
set_option maxRecDepth 100000 in
theorem outriggerlaw04_RootFour.calls (k : Nat) (a0 : Int) (a1 : Int) (r : Bool) (w : World) (h : outriggerlaw04_RootFour.f k a0 a1 = some r) (hr : Aside0 (r = true)) :
    Calls Try.prog 6 #[.int .i64 a0, .int .i64 a1] w fun e w' => e = .returned (.bool r) ∧ Below w.heap.size w w' := by
  have HB := Aside0.mk (Below.refl w.heap.size w)
  have H : ((outriggerlaw04_awake.f k).bind fun t189 => (if a0 < 0 then (outriggerlaw04_RootFour.j0 k a0 a1 t189 true) else (if a0 > 72057594037927936 then (outriggerlaw04_RootFour.j0 k a0 a1 t189 true) else (if a1 > 72057594037927936 then (outriggerlaw04_RootFour.j0 k a0 a1 t189 true) else (outriggerlaw04_RootFour.j0 k a0 a1 t189 (decide (a1 < (-72057594037927936)))))))) = some r := h
  clear h
  replace H := Option.bind_eq_some_iff.mp H
  obtain ⟨t189, A30, H⟩ := H
  replace H : (if a0 < 0 then (outriggerlaw04_RootFour.j0 k a0 a1 t189 true) else (if a0 > 72057594037927936 then (outriggerlaw04_RootFour.j0 k a0 a1 t189 true) else (if a1 > 72057594037927936 then (outriggerlaw04_RootFour.j0 k a0 a1 t189 true) else (outriggerlaw04_RootFour.j0 k a0 a1 t189 (decide (a1 < (-72057594037927936))))))) = some r := H
  have A3 := Aside0.mk A30
  clear A30
  have HC4 := Aside0.mk H
  clear H
  go_enter Try.func6, Try.ntmps6
  go_upto_region 2 with (first | ((with_reducible refine gate_callee (f := 9) rfl ?_); refine goesL_ (some 14) rfl rfl Try.func9 (by kernel_rfl) rfl #[] rfl (by (try simp only [List.map_toArray, List.map_cons, List.map_nil]); first | done | rfl | (simp only [List.length_drop, List.length_take]; rfl)) ?_; (with_reducible refine (outriggerlaw04_awake.calls k  t189 _ A3.out).mono ?_); rintro e w5 ⟨rfl, hb⟩; refine ⟨_, rfl, ?_⟩; have n0_ := Aside0.mk (below_step (by repeat (first | (with_reducible first | exact HB.out | apply below_alloc | apply pw_below_drewN | apply below_drew1) | exact HB.out)) hb); clear HB; have HB := n0_; clear n0_; (try clear hb); (try clear hb2); (try clear hk); (try clear hi)))
  (try simp only [Act.put, List.setIfInBounds_toArray, List.set_cons_zero, List.set_cons_succ])
  go_cut [28] (fun v28 wc => ∃ (kq : Nat) (x28_3 : Bool), v28 = .bool x28_3 ∧ Aside0 (outriggerlaw04_RootFour.j0 kq a0 a1 t189 x28_3 = some r) ∧ Aside0 (kq ≤ k) ∧ Aside0 (Below w.heap.size w wc))
  case first =>
    have H := HC4.out
    clear HC4
    by_cases c6 : a0 < 0
    · rw [if_pos c6] at H
      have c6b0 : decide (a0 < 0) = true := decide_eq_true c6
      clear c6
      (first | rw [c6b0] | (simp only [i64_w, i32_w]; rw [c6b0]) | skip)
      have H' := Aside0.mk H
      clear H
      go_wp2
      go_meet
      case rel => exact ⟨_, (true), (by first | rfl | (simp; done) | (simp [*]; done)), H', ⟨by first | omega | exact Nat.le_refl _⟩, ⟨by repeat (first | (with_reducible first | exact HB.out | apply below_alloc | apply pw_below_drewN | apply below_drew1) | exact HB.out)⟩⟩
    · rw [if_neg c6] at H
      have c6b0 : decide (a0 < 0) = false := decide_eq_false c6
      clear c6
      (first | rw [c6b0] | (simp only [i64_w, i32_w]; rw [c6b0]) | skip)
      by_cases c7 : a0 > 72057594037927936
      · rw [if_pos c7] at H
        have c7b0 : decide (72057594037927936 < a0) = true := decide_eq_true c7
        clear c7
        have H' := Aside0.mk H
        clear H
        go_wp2
        go_meet
        case rel => exact ⟨_, (true), (by first | rfl | (simp; done) | (simp [*]; done)), H', ⟨by first | omega | exact Nat.le_refl _⟩, ⟨by repeat (first | (with_reducible first | exact HB.out | apply below_alloc | apply pw_below_drewN | apply below_drew1) | exact HB.out)⟩⟩
      · rw [if_neg c7] at H
        have c7b0 : decide (72057594037927936 < a0) = false := decide_eq_false c7
        clear c7
        by_cases c8 : a1 > 72057594037927936
        · rw [if_pos c8] at H
          have c8b0 : decide (72057594037927936 < a1) = true := decide_eq_true c8
          clear c8
          have H' := Aside0.mk H
          clear H
          go_wp2
          go_meet
          case rel => exact ⟨_, (true), (by first | rfl | (simp; done) | (simp [*]; done)), H', ⟨by first | omega | exact Nat.le_refl _⟩, ⟨by repeat (first | (with_reducible first | exact HB.out | apply below_alloc | apply pw_below_drewN | apply below_drew1) | exact HB.out)⟩⟩
        · rw [if_neg c8] at H
          have c8b0 : decide (72057594037927936 < a1) = false := decide_eq_false c8
          clear c8
          have H' := Aside0.mk H
          clear H
          go_wp2
          go_meet
          case rel => exact ⟨_, (decide (a1 < (-72057594037927936))), (by first | rfl | (simp; done) | (simp [*]; done)), H', ⟨by first | omega | exact Nat.le_refl _⟩, ⟨by repeat (first | (with_reducible first | exact HB.out | apply below_alloc | apply pw_below_drewN | apply below_drew1) | exact HB.out)⟩⟩
  case rest =>
    clear HC4
    try clear p2
    try clear c6
    try clear c6b0
    try clear c7
    try clear c7b0
    try clear c8
    try clear c8b0
    obtain ⟨kq, x28_3, rfl, HA, HJ3, HB⟩ := hcut
    cases kq with
    | zero => exact absurd HA.out (by simp [outriggerlaw04_RootFour.j0])
    | succ kj3 =>
      have H := HA.out
      clear HA
      simp only [outriggerlaw04_RootFour.j0] at H
      by_cases c9 : x28_3 = true
      · subst c9
        have H1 : (some t189) = some r := by rw [if_pos rfl] at H; exact H
        clear H
        have H := H1
        clear H1
        clear hr
        obtain rfl := Option.some.inj H
        go_wp2
        go_ret
        exact ⟨by first | rfl | (simp [errW_none, errW_some] <;> rfl) | (simp [*, errW_none, errW_some] <;> rfl), by repeat (first | (with_reducible first | exact HB.out | apply below_alloc | apply pw_below_drewN | apply below_drew1) | exact HB.out)⟩
      · replace c9 := Bool.eq_false_iff.mpr c9
        subst c9
        have H1 : ((root_Sqrt.f kj3 a0).bind fun bt190 => ((root_Sqrt.f kj3 (wrap64 (4 * a0))).bind fun bt192 => ((root_Hyp.f kj3 a0 a1).bind fun bt194 => ((root_Hyp.f kj3 (wrap64 (2 * a0)) (wrap64 (2 * a1))).bind fun bt196 => (if t189 = true then (if bt190.2 = true then (some false) else (if bt192.2 = true then (some false) else (if bt194.2 = true then (some false) else (if bt196.2 = true then (some false) else (if bt192.1 = (wrap64 (2 * bt190.1)) then (if bt196.1 = (wrap64 (2 * bt194.1)) then (some true) else (some (bt196.1 == (wrap64 ((wrap64 (2 * bt194.1)) + 1))))) else (if bt192.1 = (wrap64 ((wrap64 (2 * bt190.1)) + 1)) then (if bt196.1 = (wrap64 (2 * bt194.1)) then (some true) else (some (bt196.1 == (wrap64 ((wrap64 (2 * bt194.1)) + 1))))) else (some false))))))) else (some false)))))) = some r := by rw [if_neg (show ¬ (false = true) by decide)] at H; exact H
        clear H
        have H := H1
        clear H1
        replace H := Option.bind_eq_some_iff.mp H
        obtain ⟨⟨t190, t191⟩, A100, H⟩ := H
        replace H : ((root_Sqrt.f kj3 (wrap64 (4 * a0))).bind fun bt192 => ((root_Hyp.f kj3 a0 a1).bind fun bt194 => ((root_Hyp.f kj3 (wrap64 (2 * a0)) (wrap64 (2 * a1))).bind fun bt196 => (if t189 = true then (if t191 = true then (some false) else (if bt192.2 = true then (some false) else (if bt194.2 = true then (some false) else (if bt196.2 = true then (some false) else (if bt192.1 = (wrap64 (2 * t190)) then (if bt196.1 = (wrap64 (2 * bt194.1)) then (some true) else (some (bt196.1 == (wrap64 ((wrap64 (2 * bt194.1)) + 1))))) else (if bt192.1 = (wrap64 ((wrap64 (2 * t190)) + 1)) then (if bt196.1 = (wrap64 (2 * bt194.1)) then (some true) else (some (bt196.1 == (wrap64 ((wrap64 (2 * bt194.1)) + 1))))) else (some false))))))) else (some false))))) = some r := H
        have A10 := Aside0.mk A100
        clear A100
        replace H := Option.bind_eq_some_iff.mp H
        obtain ⟨⟨t192, t193⟩, A110, H⟩ := H
        replace H : ((root_Hyp.f kj3 a0 a1).bind fun bt194 => ((root_Hyp.f kj3 (wrap64 (2 * a0)) (wrap64 (2 * a1))).bind fun bt196 => (if t189 = true then (if t191 = true then (some false) else (if t193 = true then (some false) else (if bt194.2 = true then (some false) else (if bt196.2 = true then (some false) else (if t192 = (wrap64 (2 * t190)) then (if bt196.1 = (wrap64 (2 * bt194.1)) then (some true) else (some (bt196.1 == (wrap64 ((wrap64 (2 * bt194.1)) + 1))))) else (if t192 = (wrap64 ((wrap64 (2 * t190)) + 1)) then (if bt196.1 = (wrap64 (2 * bt194.1)) then (some true) else (some (bt196.1 == (wrap64 ((wrap64 (2 * bt194.1)) + 1))))) else (some false))))))) else (some false)))) = some r := H
        have A11 := Aside0.mk A110
        clear A110
        replace H := Option.bind_eq_some_iff.mp H
        obtain ⟨⟨t194, t195⟩, A120, H⟩ := H
        replace H : ((root_Hyp.f kj3 (wrap64 (2 * a0)) (wrap64 (2 * a1))).bind fun bt196 => (if t189 = true then (if t191 = true then (some false) else (if t193 = true then (some false) else (if t195 = true then (some false) else (if bt196.2 = true then (some false) else (if t192 = (wrap64 (2 * t190)) then (if bt196.1 = (wrap64 (2 * t194)) then (some true) else (some (bt196.1 == (wrap64 ((wrap64 (2 * t194)) + 1))))) else (if t192 = (wrap64 ((wrap64 (2 * t190)) + 1)) then (if bt196.1 = (wrap64 (2 * t194)) then (some true) else (some (bt196.1 == (wrap64 ((wrap64 (2 * t194)) + 1))))) else (some false))))))) else (some false))) = some r := H
        have A12 := Aside0.mk A120
        clear A120
        replace H := Option.bind_eq_some_iff.mp H
        obtain ⟨⟨t196, t197⟩, A130, H⟩ := H
        replace H : (if t189 = true then (if t191 = true then (some false) else (if t193 = true then (some false) else (if t195 = true then (some false) else (if t197 = true then (some false) else (if t192 = (wrap64 (2 * t190)) then (if t196 = (wrap64 (2 * t194)) then (some true) else (some (t196 == (wrap64 ((wrap64 (2 * t194)) + 1))))) else (if t192 = (wrap64 ((wrap64 (2 * t190)) + 1)) then (if t196 = (wrap64 (2 * t194)) then (some true) else (some (t196 == (wrap64 ((wrap64 (2 * t194)) + 1))))) else (some false))))))) else (some false)) = some r := H
        have A13 := Aside0.mk A130
        clear A130
        by_cases c14 : t189 = true
        · subst c14
          have H1 : (if t191 = true then (some false) else (if t193 = true then (some false) else (if t195 = true then (some false) else (if t197 = true then (some false) else (if t192 = (wrap64 (2 * t190)) then (if t196 = (wrap64 (2 * t194)) then (some true) else (some (t196 == (wrap64 ((wrap64 (2 * t194)) + 1))))) else (if t192 = (wrap64 ((wrap64 (2 * t190)) + 1)) then (if t196 = (wrap64 (2 * t194)) then (some true) else (some (t196 == (wrap64 ((wrap64 (2 * t194)) + 1))))) else (some false))))))) = some r := by rw [if_pos rfl] at H; exact H
          clear H
          have H := H1
          clear H1
          by_cases c15 : t191 = true
          · subst c15
            have H1 : (some false) = some r := by rw [if_pos rfl] at H; exact H
            clear H
            have H := H1
            clear H1
            exact absurd ((Option.some.inj H).trans hr.out) (by decide)
          · replace c15 := Bool.eq_false_iff.mpr c15
            subst c15
            have H1 : (if t193 = true then (some false) else (if t195 = true then (some false) else (if t197 = true then (some false) else (if t192 = (wrap64 (2 * t190)) then (if t196 = (wrap64 (2 * t194)) then (some true) else (some (t196 == (wrap64 ((wrap64 (2 * t194)) + 1))))) else (if t192 = (wrap64 ((wrap64 (2 * t190)) + 1)) then (if t196 = (wrap64 (2 * t194)) then (some true) else (some (t196 == (wrap64 ((wrap64 (2 * t194)) + 1))))) else (some false)))))) = some r := by rw [if_neg (show ¬ (false = true) by decide)] at H; exact H
            clear H
            have H := H1
            clear H1
            by_cases c20 : t193 = true
            · subst c20
              have H1 : (some false) = some r := by rw [if_pos rfl] at H; exact H
              clear H
              have H := H1
              clear H1
              exact absurd ((Option.some.inj H).trans hr.out) (by decide)
            · replace c20 := Bool.eq_false_iff.mpr c20
              subst c20
              have H1 : (if t195 = true then (some false) else (if t197 = true then (some false) else (if t192 = (wrap64 (2 * t190)) then (if t196 = (wrap64 (2 * t194)) then (some true) else (some (t196 == (wrap64 ((wrap64 (2 * t194)) + 1))))) else (if t192 = (wrap64 ((wrap64 (2 * t190)) + 1)) then (if t196 = (wrap64 (2 * t194)) then (some true) else (some (t196 == (wrap64 ((wrap64 (2 * t194)) + 1))))) else (some false))))) = some r := by rw [if_neg (show ¬ (false = true) by decide)] at H; exact H
              clear H
              have H := H1
              clear H1
              by_cases c25 : t195 = true
              · subst c25
                have H1 : (some false) = some r := by rw [if_pos rfl] at H; exact H
                clear H
                have H := H1
                clear H1
                exact absurd ((Option.some.inj H).trans hr.out) (by decide)
              · replace c25 := Bool.eq_false_iff.mpr c25
                subst c25
                have H1 : (if t197 = true then (some false) else (if t192 = (wrap64 (2 * t190)) then (if t196 = (wrap64 (2 * t194)) then (some true) else (some (t196 == (wrap64 ((wrap64 (2 * t194)) + 1))))) else (if t192 = (wrap64 ((wrap64 (2 * t190)) + 1)) then (if t196 = (wrap64 (2 * t194)) then (some true) else (some (t196 == (wrap64 ((wrap64 (2 * t194)) + 1))))) else (some false)))) = some r := by rw [if_neg (show ¬ (false = true) by decide)] at H; exact H
                clear H
                have H := H1
                clear H1
                by_cases c30 : t197 = true
                · subst c30
                  have H1 : (some false) = some r := by rw [if_pos rfl] at H; exact H
                  clear H
                  have H := H1
                  clear H1
                  exact absurd ((Option.some.inj H).trans hr.out) (by decide)
                · replace c30 := Bool.eq_false_iff.mpr c30
                  subst c30
                  have H1 : (if t192 = (wrap64 (2 * t190)) then (if t196 = (wrap64 (2 * t194)) then (some true) else (some (t196 == (wrap64 ((wrap64 (2 * t194)) + 1))))) else (if t192 = (wrap64 ((wrap64 (2 * t190)) + 1)) then (if t196 = (wrap64 (2 * t194)) then (some true) else (some (t196 == (wrap64 ((wrap64 (2 * t194)) + 1))))) else (some false))) = some r := by rw [if_neg (show ¬ (false = true) by decide)] at H; exact H
                  clear H
                  have H := H1
                  clear H1
                  by_cases c35 : t192 = (wrap64 (2 * t190))
                  · rw [if_pos c35] at H
                    have c35b0 : (t192 == (wrap64 (2 * t190))) = true := beq_iff_eq.mpr c35
                    have c35b1 : (t192 != (wrap64 (2 * t190))) = false := bne_eq_false_iff_eq.mpr c35
                    clear c35
                    by_cases c36 : t196 = (wrap64 (2 * t194))
                    · rw [if_pos c36] at H
                      have c36b0 : (t196 == (wrap64 (2 * t194))) = true := beq_iff_eq.mpr c36
                      have c36b1 : (t196 != (wrap64 (2 * t194))) = false := bne_eq_false_iff_eq.mpr c36
                      clear c36
                      clear hr
                      obtain rfl := Option.some.inj H
                      go_wp2_with (first | ((with_reducible refine gate_callee (f := 12) rfl ?_); refine goesL_ (some 32) rfl rfl Try.func12 (by kernel_rfl) rfl #[.int .i64 a0] rfl (by (try simp only [List.map_toArray, List.map_cons, List.map_nil]); first | done | rfl | (simp only [List.length_drop, List.length_take]; rfl)) ?_; (with_reducible refine (root_Sqrt.calls kj3 a0 t190 false _ A10.out).mono ?_); rintro e w37 ⟨rfl, hb⟩; refine ⟨_, rfl, ?_⟩; have n0_ := Aside0.mk (below_step (by repeat (first | (with_reducible first | exact HB.out | apply below_alloc | apply pw_below_drewN | apply below_drew1) | exact HB.out)) hb); clear HB; have HB := n0_; clear n0_; (try clear hb); (try clear hb2); (try clear hk); (try clear hi)) | ((with_reducible refine gate_callee (f := 12) rfl ?_); refine goesL_ (some 38) rfl rfl Try.func12 (by kernel_rfl) rfl #[.int .i64 (wrap64 (4 * a0))] rfl (by (try simp only [List.map_toArray, List.map_cons, List.map_nil]); first | done | rfl | (simp only [List.length_drop, List.length_take]; rfl)) ?_; (with_reducible refine (root_Sqrt.calls kj3 (wrap64 (4 * a0)) t192 false _ A11.out).mono ?_); rintro e w38 ⟨rfl, hb⟩; refine ⟨_, rfl, ?_⟩; have n0_ := Aside0.mk (below_step (by repeat (first | (with_reducible first | exact HB.out | apply below_alloc | apply pw_below_drewN | apply below_drew1) | exact HB.out)) hb); clear HB; have HB := n0_; clear n0_; (try clear hb); (try clear hb2); (try clear hk); (try clear hi)) | ((with_reducible refine gate_callee (f := 14) rfl ?_); refine goesL_ (some 44) rfl rfl Try.func14 (by kernel_rfl) rfl #[.int .i64 a0, .int .i64 a1] rfl (by (try simp only [List.map_toArray, List.map_cons, List.map_nil]); first | done | rfl | (simp only [List.length_drop, List.length_take]; rfl)) ?_; (with_reducible refine (root_Hyp.calls kj3 a0 a1 t194 false _ A12.out).mono ?_); rintro e w39 ⟨rfl, hb⟩; refine ⟨_, rfl, ?_⟩; have n0_ := Aside0.mk (below_step (by repeat (first | (with_reducible first | exact HB.out | apply below_alloc | apply pw_below_drewN | apply below_drew1) | exact HB.out)) hb); clear HB; have HB := n0_; clear n0_; (try clear hb); (try clear hb2); (try clear hk); (try clear hi)) | ((with_reducible refine gate_callee (f := 14) rfl ?_); refine goesL_ (some 52) rfl rfl Try.func14 (by kernel_rfl) rfl #[.int .i64 (wrap64 (2 * a0)), .int .i64 (wrap64 (2 * a1))] rfl (by (try simp only [List.map_toArray, List.map_cons, List.map_nil]); first | done | rfl | (simp only [List.length_drop, List.length_take]; rfl)) ?_; (with_reducible refine (root_Hyp.calls kj3 (wrap64 (2 * a0)) (wrap64 (2 * a1)) t196 false _ A13.out).mono ?_); rintro e w40 ⟨rfl, hb⟩; refine ⟨_, rfl, ?_⟩; have n0_ := Aside0.mk (below_step (by repeat (first | (with_reducible first | exact HB.out | apply below_alloc | apply pw_below_drewN | apply below_drew1) | exact HB.out)) hb); clear HB; have HB := n0_; clear n0_; (try clear hb); (try clear hb2); (try clear hk); (try clear hi)))
                      go_ret
                      exact ⟨by first | rfl | (simp [errW_none, errW_some] <;> rfl) | (simp [*, errW_none, errW_some] <;> rfl), by repeat (first | (with_reducible first | exact HB.out | apply below_alloc | apply pw_below_drewN | apply below_drew1) | exact HB.out)⟩
                    · rw [if_neg c36] at H
                      have c36b0 : (t196 == (wrap64 (2 * t194))) = false := beq_eq_false_iff_ne.mpr c36
                      have c36b1 : (t196 != (wrap64 (2 * t194))) = true := bne_iff_ne.mpr c36
                      clear hr
                      obtain rfl := Option.some.inj H
                      go_wp2_with (first | ((with_reducible refine gate_callee (f := 12) rfl ?_); refine goesL_ (some 32) rfl rfl Try.func12 (by kernel_rfl) rfl #[.int .i64 a0] rfl (by (try simp only [List.map_toArray, List.map_cons, List.map_nil]); first | done | rfl | (simp only [List.length_drop, List.length_take]; rfl)) ?_; (with_reducible refine (root_Sqrt.calls kj3 a0 t190 false _ A10.out).mono ?_); rintro e w41 ⟨rfl, hb⟩; refine ⟨_, rfl, ?_⟩; have n0_ := Aside0.mk (below_step (by repeat (first | (with_reducible first | exact HB.out | apply below_alloc | apply pw_below_drewN | apply below_drew1) | exact HB.out)) hb); clear HB; have HB := n0_; clear n0_; (try clear hb); (try clear hb2); (try clear hk); (try clear hi)) | ((with_reducible refine gate_callee (f := 12) rfl ?_); refine goesL_ (some 38) rfl rfl Try.func12 (by kernel_rfl) rfl #[.int .i64 (wrap64 (4 * a0))] rfl (by (try simp only [List.map_toArray, List.map_cons, List.map_nil]); first | done | rfl | (simp only [List.length_drop, List.length_take]; rfl)) ?_; (with_reducible refine (root_Sqrt.calls kj3 (wrap64 (4 * a0)) t192 false _ A11.out).mono ?_); rintro e w42 ⟨rfl, hb⟩; refine ⟨_, rfl, ?_⟩; have n0_ := Aside0.mk (below_step (by repeat (first | (with_reducible first | exact HB.out | apply below_alloc | apply pw_below_drewN | apply below_drew1) | exact HB.out)) hb); clear HB; have HB := n0_; clear n0_; (try clear hb); (try clear hb2); (try clear hk); (try clear hi)) | ((with_reducible refine gate_callee (f := 14) rfl ?_); refine goesL_ (some 44) rfl rfl Try.func14 (by kernel_rfl) rfl #[.int .i64 a0, .int .i64 a1] rfl (by (try simp only [List.map_toArray, List.map_cons, List.map_nil]); first | done | rfl | (simp only [List.length_drop, List.length_take]; rfl)) ?_; (with_reducible refine (root_Hyp.calls kj3 a0 a1 t194 false _ A12.out).mono ?_); rintro e w43 ⟨rfl, hb⟩; refine ⟨_, rfl, ?_⟩; have n0_ := Aside0.mk (below_step (by repeat (first | (with_reducible first | exact HB.out | apply below_alloc | apply pw_below_drewN | apply below_drew1) | exact HB.out)) hb); clear HB; have HB := n0_; clear n0_; (try clear hb); (try clear hb2); (try clear hk); (try clear hi)) | ((with_reducible refine gate_callee (f := 14) rfl ?_); refine goesL_ (some 52) rfl rfl Try.func14 (by kernel_rfl) rfl #[.int .i64 (wrap64 (2 * a0)), .int .i64 (wrap64 (2 * a1))] rfl (by (try simp only [List.map_toArray, List.map_cons, List.map_nil]); first | done | rfl | (simp only [List.length_drop, List.length_take]; rfl)) ?_; (with_reducible refine (root_Hyp.calls kj3 (wrap64 (2 * a0)) (wrap64 (2 * a1)) t196 false _ A13.out).mono ?_); rintro e w44 ⟨rfl, hb⟩; refine ⟨_, rfl, ?_⟩; have n0_ := Aside0.mk (below_step (by repeat (first | (with_reducible first | exact HB.out | apply below_alloc | apply pw_below_drewN | apply below_drew1) | exact HB.out)) hb); clear HB; have HB := n0_; clear n0_; (try clear hb); (try clear hb2); (try clear hk); (try clear hi)))
                      go_ret
                      exact ⟨by first | rfl | (simp [errW_none, errW_some] <;> rfl) | (simp [*, errW_none, errW_some] <;> rfl), by repeat (first | (with_reducible first | exact HB.out | apply below_alloc | apply pw_below_drewN | apply below_drew1) | exact HB.out)⟩
                  · rw [if_neg c35] at H
                    have c35b0 : (t192 == (wrap64 (2 * t190))) = false := beq_eq_false_iff_ne.mpr c35
                    have c35b1 : (t192 != (wrap64 (2 * t190))) = true := bne_iff_ne.mpr c35
                    by_cases c45 : t192 = (wrap64 ((wrap64 (2 * t190)) + 1))
                    · rw [if_pos c45] at H
                      have c45b0 : (t192 == (wrap64 ((wrap64 (2 * t190)) + 1))) = true := beq_iff_eq.mpr c45
                      have c45b1 : (t192 != (wrap64 ((wrap64 (2 * t190)) + 1))) = false := bne_eq_false_iff_eq.mpr c45
                      clear c45
                      by_cases c46 : t196 = (wrap64 (2 * t194))
                      · rw [if_pos c46] at H
                        have c46b0 : (t196 == (wrap64 (2 * t194))) = true := beq_iff_eq.mpr c46
                        have c46b1 : (t196 != (wrap64 (2 * t194))) = false := bne_eq_false_iff_eq.mpr c46
                        clear c46
                        clear hr
                        obtain rfl := Option.some.inj H
                        go_wp2_with (first | ((with_reducible refine gate_callee (f := 12) rfl ?_); refine goesL_ (some 32) rfl rfl Try.func12 (by kernel_rfl) rfl #[.int .i64 a0] rfl (by (try simp only [List.map_toArray, List.map_cons, List.map_nil]); first | done | rfl | (simp only [List.length_drop, List.length_take]; rfl)) ?_; (with_reducible refine (root_Sqrt.calls kj3 a0 t190 false _ A10.out).mono ?_); rintro e w47 ⟨rfl, hb⟩; refine ⟨_, rfl, ?_⟩; have n0_ := Aside0.mk (below_step (by repeat (first | (with_reducible first | exact HB.out | apply below_alloc | apply pw_below_drewN | apply below_drew1) | exact HB.out)) hb); clear HB; have HB := n0_; clear n0_; (try clear hb); (try clear hb2); (try clear hk); (try clear hi)) | ((with_reducible refine gate_callee (f := 12) rfl ?_); refine goesL_ (some 38) rfl rfl Try.func12 (by kernel_rfl) rfl #[.int .i64 (wrap64 (4 * a0))] rfl (by (try simp only [List.map_toArray, List.map_cons, List.map_nil]); first | done | rfl | (simp only [List.length_drop, List.length_take]; rfl)) ?_; (with_reducible refine (root_Sqrt.calls kj3 (wrap64 (4 * a0)) t192 false _ A11.out).mono ?_); rintro e w48 ⟨rfl, hb⟩; refine ⟨_, rfl, ?_⟩; have n0_ := Aside0.mk (below_step (by repeat (first | (with_reducible first | exact HB.out | apply below_alloc | apply pw_below_drewN | apply below_drew1) | exact HB.out)) hb); clear HB; have HB := n0_; clear n0_; (try clear hb); (try clear hb2); (try clear hk); (try clear hi)) | ((with_reducible refine gate_callee (f := 14) rfl ?_); refine goesL_ (some 44) rfl rfl Try.func14 (by kernel_rfl) rfl #[.int .i64 a0, .int .i64 a1] rfl (by (try simp only [List.map_toArray, List.map_cons, List.map_nil]); first | done | rfl | (simp only [List.length_drop, List.length_take]; rfl)) ?_; (with_reducible refine (root_Hyp.calls kj3 a0 a1 t194 false _ A12.out).mono ?_); rintro e w49 ⟨rfl, hb⟩; refine ⟨_, rfl, ?_⟩; have n0_ := Aside0.mk (below_step (by repeat (first | (with_reducible first | exact HB.out | apply below_alloc | apply pw_below_drewN | apply below_drew1) | exact HB.out)) hb); clear HB; have HB := n0_; clear n0_; (try clear hb); (try clear hb2); (try clear hk); (try clear hi)) | ((with_reducible refine gate_callee (f := 14) rfl ?_); refine goesL_ (some 52) rfl rfl Try.func14 (by kernel_rfl) rfl #[.int .i64 (wrap64 (2 * a0)), .int .i64 (wrap64 (2 * a1))] rfl (by (try simp only [List.map_toArray, List.map_cons, List.map_nil]); first | done | rfl | (simp only [List.length_drop, List.length_take]; rfl)) ?_; (with_reducible refine (root_Hyp.calls kj3 (wrap64 (2 * a0)) (wrap64 (2 * a1)) t196 false _ A13.out).mono ?_); rintro e w50 ⟨rfl, hb⟩; refine ⟨_, rfl, ?_⟩; have n0_ := Aside0.mk (below_step (by repeat (first | (with_reducible first | exact HB.out | apply below_alloc | apply pw_below_drewN | apply below_drew1) | exact HB.out)) hb); clear HB; have HB := n0_; clear n0_; (try clear hb); (try clear hb2); (try clear hk); (try clear hi)))
                        go_ret
                        exact ⟨by first | rfl | (simp [errW_none, errW_some] <;> rfl) | (simp [*, errW_none, errW_some] <;> rfl), by repeat (first | (with_reducible first | exact HB.out | apply below_alloc | apply pw_below_drewN | apply below_drew1) | exact HB.out)⟩
                      · rw [if_neg c46] at H
                        have c46b0 : (t196 == (wrap64 (2 * t194))) = false := beq_eq_false_iff_ne.mpr c46
                        have c46b1 : (t196 != (wrap64 (2 * t194))) = true := bne_iff_ne.mpr c46
                        clear hr
                        obtain rfl := Option.some.inj H
                        go_wp2_with (first | ((with_reducible refine gate_callee (f := 12) rfl ?_); refine goesL_ (some 32) rfl rfl Try.func12 (by kernel_rfl) rfl #[.int .i64 a0] rfl (by (try simp only [List.map_toArray, List.map_cons, List.map_nil]); first | done | rfl | (simp only [List.length_drop, List.length_take]; rfl)) ?_; (with_reducible refine (root_Sqrt.calls kj3 a0 t190 false _ A10.out).mono ?_); rintro e w51 ⟨rfl, hb⟩; refine ⟨_, rfl, ?_⟩; have n0_ := Aside0.mk (below_step (by repeat (first | (with_reducible first | exact HB.out | apply below_alloc | apply pw_below_drewN | apply below_drew1) | exact HB.out)) hb); clear HB; have HB := n0_; clear n0_; (try clear hb); (try clear hb2); (try clear hk); (try clear hi)) | ((with_reducible refine gate_callee (f := 12) rfl ?_); refine goesL_ (some 38) rfl rfl Try.func12 (by kernel_rfl) rfl #[.int .i64 (wrap64 (4 * a0))] rfl (by (try simp only [List.map_toArray, List.map_cons, List.map_nil]); first | done | rfl | (simp only [List.length_drop, List.length_take]; rfl)) ?_; (with_reducible refine (root_Sqrt.calls kj3 (wrap64 (4 * a0)) t192 false _ A11.out).mono ?_); rintro e w52 ⟨rfl, hb⟩; refine ⟨_, rfl, ?_⟩; have n0_ := Aside0.mk (below_step (by repeat (first | (with_reducible first | exact HB.out | apply below_alloc | apply pw_below_drewN | apply below_drew1) | exact HB.out)) hb); clear HB; have HB := n0_; clear n0_; (try clear hb); (try clear hb2); (try clear hk); (try clear hi)) | ((with_reducible refine gate_callee (f := 14) rfl ?_); refine goesL_ (some 44) rfl rfl Try.func14 (by kernel_rfl) rfl #[.int .i64 a0, .int .i64 a1] rfl (by (try simp only [List.map_toArray, List.map_cons, List.map_nil]); first | done | rfl | (simp only [List.length_drop, List.length_take]; rfl)) ?_; (with_reducible refine (root_Hyp.calls kj3 a0 a1 t194 false _ A12.out).mono ?_); rintro e w53 ⟨rfl, hb⟩; refine ⟨_, rfl, ?_⟩; have n0_ := Aside0.mk (below_step (by repeat (first | (with_reducible first | exact HB.out | apply below_alloc | apply pw_below_drewN | apply below_drew1) | exact HB.out)) hb); clear HB; have HB := n0_; clear n0_; (try clear hb); (try clear hb2); (try clear hk); (try clear hi)) | ((with_reducible refine gate_callee (f := 14) rfl ?_); refine goesL_ (some 52) rfl rfl Try.func14 (by kernel_rfl) rfl #[.int .i64 (wrap64 (2 * a0)), .int .i64 (wrap64 (2 * a1))] rfl (by (try simp only [List.map_toArray, List.map_cons, List.map_nil]); first | done | rfl | (simp only [List.length_drop, List.length_take]; rfl)) ?_; (with_reducible refine (root_Hyp.calls kj3 (wrap64 (2 * a0)) (wrap64 (2 * a1)) t196 false _ A13.out).mono ?_); rintro e w54 ⟨rfl, hb⟩; refine ⟨_, rfl, ?_⟩; have n0_ := Aside0.mk (below_step (by repeat (first | (with_reducible first | exact HB.out | apply below_alloc | apply pw_below_drewN | apply below_drew1) | exact HB.out)) hb); clear HB; have HB := n0_; clear n0_; (try clear hb); (try clear hb2); (try clear hk); (try clear hi)))
                        go_ret
                        exact ⟨by first | rfl | (simp [errW_none, errW_some] <;> rfl) | (simp [*, errW_none, errW_some] <;> rfl), by repeat (first | (with_reducible first | exact HB.out | apply below_alloc | apply pw_below_drewN | apply below_drew1) | exact HB.out)⟩
                    · rw [if_neg c45] at H
                      have c45b0 : (t192 == (wrap64 ((wrap64 (2 * t190)) + 1))) = false := beq_eq_false_iff_ne.mpr c45
                      have c45b1 : (t192 != (wrap64 ((wrap64 (2 * t190)) + 1))) = true := bne_iff_ne.mpr c45
                      exact absurd ((Option.some.inj H).trans hr.out) (by decide)
        · replace c14 := Bool.eq_false_iff.mpr c14
          subst c14
          have H1 : (some false) = some r := by rw [if_neg (show ¬ (false = true) by decide)] at H; exact H
          clear H
          have H := H1
          clear H1
          exact absurd ((Option.some.inj H).trans hr.out) (by decide)

/-- THE ONE PURE STATEMENT of outriggerlaw04_RootFour: yours. -/
def outriggerlaw04_RootFour.Pure : Prop := ∀ (a0 : Int) (a1 : Int), (Lit.int .i64 a0).wf = true → (Lit.int .i64 a1).wf = true → ∃ k, outriggerlaw04_RootFour.f k a0 a1 = some true
theorem outriggerlaw04_RootFour.walk (P : outriggerlaw04_RootFour.Pure) (a0 : Int) (a1 : Int) (w : World) (w0 : (Lit.int .i64 a0).wf = true) (w1 : (Lit.int .i64 a1).wf = true) :
    Calls Try.prog 6 #[.int .i64 a0, .int .i64 a1] w fun e w' => e = .returned (.bool true) ∧ Below w.heap.size w w' := by
  obtain ⟨k, h⟩ := P a0 a1 w0 w1
  refine (outriggerlaw04_RootFour.calls k a0 a1 true w h ⟨rfl⟩).mono ?_
  rintro e w' ⟨rfl, hd⟩
  exact ⟨rfl, hd⟩


end Go.Proofs.Ythfcodicpcengaa.B
