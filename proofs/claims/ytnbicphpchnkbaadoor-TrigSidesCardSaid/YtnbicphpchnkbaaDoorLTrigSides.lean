/- The walk of the law TrigSides: where its Lean function tells true, the call returns true and leaves memory below as it was. Laid by a program of this project out of the kit's print of the Go functions. -/
import Derived.Test.YtnbicphpchnkbaaDoorB0
import Derived.Test.YtnbicphpchnkbaaDoorB2
namespace Go.Proofs.YtnbicphpchnkbaaDoor.B
open Go.RowKit Go.Proofs.YtnbicphpchnkbaaDoorW.PrintWords Go.Proofs.YtnbicphpchnkbaaDoorW.PrintLast Go.Proofs.YtnbicphpchnkbaaDoorW.PrintMore
attribute [local go_sem] max2_int min2_int max_two min_two max_three min_three max_four min_four
set_option linter.unusedVariables false
set_option linter.unusedSimpArgs false

/-! ### outriggerlaw05_TrigSides: function 6 -/
def outriggerlaw05_TrigSides.j0 : Nat → Int → Int → Bool → Bool → Option (Bool)
  | 0, _, _, _, _ => none
  | k + 1, x0, x1, x5, x21 => if x21 = true then (some x5) else ((trig_Atan.f x0 x1).bind fun t128 => (if x5 = true then ((trig_Atan.f (wrap64 (-x0)) x1).bind fun t129 => ((trig_Angle.f (wrap64 (t129 + t128))).bind fun t130 => (if t130 = 0 then ((trig_Atan.f x0 (wrap64 (-x1))).bind fun t131 => ((trig_Angle.f (wrap64 (t131 + t128))).bind fun t132 => (if t132 = 2147483648 then ((trig_Atan.f (wrap64 (-x0)) (wrap64 (-x1))).bind fun t133 => ((trig_Angle.f (wrap64 (t133 - t128))).bind fun t134 => (if t134 = 2147483648 then (if (mx x1 x0) ≥ 72057594037927936 then (some true) else ((trig_Atan.f (wrap64 (2 * x0)) (wrap64 (2 * x1))).bind fun t135 => (some (t135 == t128)))) else (some false)))) else (some false)))) else (some false)))) else (some false)))
def outriggerlaw05_TrigSides.f (k : Nat) (a0 : Int) (a1 : Int) : Option (Bool) := (outriggerlaw05_awake.f).bind fun t127 => (if a0 ≤ 0 then (outriggerlaw05_TrigSides.j0 k a0 a1 t127 true) else (if a1 ≤ 0 then (outriggerlaw05_TrigSides.j0 k a0 a1 t127 true) else (if a0 > 144115188075855872 then (outriggerlaw05_TrigSides.j0 k a0 a1 t127 true) else (outriggerlaw05_TrigSides.j0 k a0 a1 t127 (decide (a1 > 144115188075855872))))))
theorem outriggerlaw05_TrigSides.mono_l : ∀ k, (∀ y0 y1 y2 y3, LeO (outriggerlaw05_TrigSides.j0 k y0 y1 y2 y3) (outriggerlaw05_TrigSides.j0 (k + 1) y0 y1 y2 y3))
  | 0 => fun _ _ _ _ r h => by simp [outriggerlaw05_TrigSides.j0] at h
  | k + 1 => by
    have ih0 := outriggerlaw05_TrigSides.mono_l k
    · intro y0 y1 y2 y3
      unfold outriggerlaw05_TrigSides.j0
      repeat' first
      | (with_reducible exact ih0 _ _ _ _)
      | (with_reducible exact LeO.refl _)
      | (with_reducible exact LeO.none _)
      | (with_reducible refine LeO.ite ?_ ?_)
      | (with_reducible refine LeO.bind ?_ (fun _ => ?_))
      | exact ih0 _ _ _ _
      | exact LeO.none _
      | refine LeO.ite ?_ ?_
      | refine LeO.bind ?_ (fun _ => ?_)
theorem outriggerlaw05_TrigSides.mono : ∀ a0 a1 k, LeO (outriggerlaw05_TrigSides.f k a0 a1) (outriggerlaw05_TrigSides.f (k + 1) a0 a1) := by
  intro a0 a1 k
  have ih0 := outriggerlaw05_TrigSides.mono_l k
  unfold outriggerlaw05_TrigSides.f
  repeat' first
      | (with_reducible exact ih0 _ _ _ _)
      | (with_reducible exact LeO.refl _)
      | (with_reducible exact LeO.none _)
      | (with_reducible refine LeO.ite ?_ ?_)
      | (with_reducible refine LeO.bind ?_ (fun _ => ?_))
      | exact ih0 _ _ _ _
      | exact LeO.none _
      | refine LeO.ite ?_ ?_
      | refine LeO.bind ?_ (fun _ => ?_)
set_option maxHeartbeats 8000000 in
set_option maxRecDepth 100000 in
theorem outriggerlaw05_TrigSides.calls (k : Nat) (a0 : Int) (a1 : Int) (r : Bool) (w : World) (h : outriggerlaw05_TrigSides.f k a0 a1 = some r) (hr : Aside0 (r = true)) (HG : Aside0 (Glob w)) :
    Calls Tryd.prog 6 #[.int .i64 a0, .int .i64 a1] w fun e w' => e = .returned (.bool r) ∧ Below w.heap.size w w' := by
  have HB := Aside0.mk (Below.refl w.heap.size w)
  have H : ((outriggerlaw05_awake.f).bind fun t127 => (if a0 ≤ 0 then (outriggerlaw05_TrigSides.j0 k a0 a1 t127 true) else (if a1 ≤ 0 then (outriggerlaw05_TrigSides.j0 k a0 a1 t127 true) else (if a0 > 144115188075855872 then (outriggerlaw05_TrigSides.j0 k a0 a1 t127 true) else (outriggerlaw05_TrigSides.j0 k a0 a1 t127 (decide (a1 > 144115188075855872))))))) = some r := h
  clear h
  replace H := Option.bind_eq_some_iff.mp H
  obtain ⟨t127, A30, H⟩ := H
  replace H : (if a0 ≤ 0 then (outriggerlaw05_TrigSides.j0 k a0 a1 t127 true) else (if a1 ≤ 0 then (outriggerlaw05_TrigSides.j0 k a0 a1 t127 true) else (if a0 > 144115188075855872 then (outriggerlaw05_TrigSides.j0 k a0 a1 t127 true) else (outriggerlaw05_TrigSides.j0 k a0 a1 t127 (decide (a1 > 144115188075855872)))))) = some r := H
  have A3 := Aside0.mk A30
  clear A30
  have HC4 := Aside0.mk H
  clear H
  go_enter Tryd.func6, Tryd.ntmps6
  go_upto_region 2 with (first | ((with_reducible refine gate_callee (f := 10) rfl ?_); refine goesL_ (some 7) rfl rfl Tryd.func10 (by kernel_rfl) rfl #[] rfl (by (try simp only [List.map_toArray, List.map_cons, List.map_nil]); first | done | rfl | (simp only [List.length_drop, List.length_take]; rfl)) ?_; (with_reducible refine (outriggerlaw05_awake.calls  t127 _ A3.out ⟨(by repeat (first | exact HG.out | apply glob_drewN | apply glob_drew | (refine glob_below HG ?_; repeat (first | (with_reducible first | exact HB.out | apply below_alloc | apply pw_below_drewN | apply below_drew1) | exact HB.out))))⟩).mono ?_); rintro e w5 ⟨rfl, hb⟩; refine ⟨_, rfl, ?_⟩; have n0_ := Aside0.mk (below_step (by repeat (first | (with_reducible first | exact HB.out | apply below_alloc | apply pw_below_drewN | apply below_drew1) | exact HB.out)) hb); clear HB; have HB := n0_; clear n0_; (try clear hb); (try clear hb2); (try clear hk); (try clear hi)))
  (try simp only [Act.put, List.setIfInBounds_toArray, List.set_cons_zero, List.set_cons_succ])
  go_cut [21] (fun v21 wc => ∃ (kq : Nat) (x21_3 : Bool), v21 = .bool x21_3 ∧ Aside0 (outriggerlaw05_TrigSides.j0 kq a0 a1 t127 x21_3 = some r) ∧ Aside0 (kq ≤ k) ∧ Aside0 (Below w.heap.size w wc))
  case first =>
    have H := HC4.out
    clear HC4
    by_cases c6 : a0 ≤ 0
    · rw [if_pos c6] at H
      have c6b0 : decide (a0 ≤ 0) = true := decide_eq_true c6
      clear c6
      (first | rw [c6b0] | (simp only [i64_w, i32_w]; rw [c6b0]) | skip)
      have H' := Aside0.mk H
      clear H
      go_wp2
      go_meet
      case rel => exact ⟨_, (true), (by first | rfl | (simp; done) | (simp [*]; done)), H', ⟨by first | omega | exact Nat.le_refl _⟩, ⟨by repeat (first | (with_reducible first | exact HB.out | apply below_alloc | apply pw_below_drewN | apply below_drew1) | exact HB.out)⟩⟩
    · rw [if_neg c6] at H
      have c6b0 : decide (a0 ≤ 0) = false := decide_eq_false c6
      clear c6
      (first | rw [c6b0] | (simp only [i64_w, i32_w]; rw [c6b0]) | skip)
      by_cases c7 : a1 ≤ 0
      · rw [if_pos c7] at H
        have c7b0 : decide (a1 ≤ 0) = true := decide_eq_true c7
        clear c7
        have H' := Aside0.mk H
        clear H
        go_wp2
        go_meet
        case rel => exact ⟨_, (true), (by first | rfl | (simp; done) | (simp [*]; done)), H', ⟨by first | omega | exact Nat.le_refl _⟩, ⟨by repeat (first | (with_reducible first | exact HB.out | apply below_alloc | apply pw_below_drewN | apply below_drew1) | exact HB.out)⟩⟩
      · rw [if_neg c7] at H
        have c7b0 : decide (a1 ≤ 0) = false := decide_eq_false c7
        clear c7
        by_cases c8 : a0 > 144115188075855872
        · rw [if_pos c8] at H
          have c8b0 : decide (144115188075855872 < a0) = true := decide_eq_true c8
          clear c8
          have H' := Aside0.mk H
          clear H
          go_wp2
          go_meet
          case rel => exact ⟨_, (true), (by first | rfl | (simp; done) | (simp [*]; done)), H', ⟨by first | omega | exact Nat.le_refl _⟩, ⟨by repeat (first | (with_reducible first | exact HB.out | apply below_alloc | apply pw_below_drewN | apply below_drew1) | exact HB.out)⟩⟩
        · rw [if_neg c8] at H
          have c8b0 : decide (144115188075855872 < a0) = false := decide_eq_false c8
          clear c8
          have H' := Aside0.mk H
          clear H
          go_wp2
          go_meet
          case rel => exact ⟨_, (decide (a1 > 144115188075855872)), (by first | rfl | (simp; done) | (simp [*]; done)), H', ⟨by first | omega | exact Nat.le_refl _⟩, ⟨by repeat (first | (with_reducible first | exact HB.out | apply below_alloc | apply pw_below_drewN | apply below_drew1) | exact HB.out)⟩⟩
  case rest =>
    clear HC4
    try clear c1
    try clear p2
    try clear c6
    try clear c6b0
    try clear c7
    try clear c7b0
    try clear c8
    try clear c8b0
    obtain ⟨kq, x21_3, rfl, HA, HJ3, HB⟩ := hcut
    cases kq with
    | zero => exact absurd HA.out (by simp [outriggerlaw05_TrigSides.j0])
    | succ kj3 =>
      have H := HA.out
      clear HA
      simp only [outriggerlaw05_TrigSides.j0] at H
      by_cases c9 : x21_3 = true
      · subst c9
        have H1 : (some t127) = some r := by rw [if_pos rfl] at H; exact H
        clear H
        have H := H1
        clear H1
        clear hr
        obtain rfl := Option.some.inj H
        go_wp2
        go_ret
        exact ⟨by first | rfl | (simp [errW_none, errW_some] <;> rfl) | (simp [*, errW_none, errW_some] <;> rfl), by repeat (first | (with_reducible first | exact HB.out | apply below_alloc | apply pw_below_drewN | apply below_drew1) | exact HB.out)⟩
      · replace c9 := Bool.eq_false_iff.mpr c9
        subst c9
        have H1 : ((trig_Atan.f a0 a1).bind fun t128 => (if t127 = true then ((trig_Atan.f (wrap64 (-a0)) a1).bind fun t129 => ((trig_Angle.f (wrap64 (t129 + t128))).bind fun t130 => (if t130 = 0 then ((trig_Atan.f a0 (wrap64 (-a1))).bind fun t131 => ((trig_Angle.f (wrap64 (t131 + t128))).bind fun t132 => (if t132 = 2147483648 then ((trig_Atan.f (wrap64 (-a0)) (wrap64 (-a1))).bind fun t133 => ((trig_Angle.f (wrap64 (t133 - t128))).bind fun t134 => (if t134 = 2147483648 then (if (mx a1 a0) ≥ 72057594037927936 then (some true) else ((trig_Atan.f (wrap64 (2 * a0)) (wrap64 (2 * a1))).bind fun t135 => (some (t135 == t128)))) else (some false)))) else (some false)))) else (some false)))) else (some false))) = some r := by rw [if_neg (show ¬ (false = true) by decide)] at H; exact H
        clear H
        have H := H1
        clear H1
        replace H := Option.bind_eq_some_iff.mp H
        obtain ⟨t128, A100, H⟩ := H
        replace H : (if t127 = true then ((trig_Atan.f (wrap64 (-a0)) a1).bind fun t129 => ((trig_Angle.f (wrap64 (t129 + t128))).bind fun t130 => (if t130 = 0 then ((trig_Atan.f a0 (wrap64 (-a1))).bind fun t131 => ((trig_Angle.f (wrap64 (t131 + t128))).bind fun t132 => (if t132 = 2147483648 then ((trig_Atan.f (wrap64 (-a0)) (wrap64 (-a1))).bind fun t133 => ((trig_Angle.f (wrap64 (t133 - t128))).bind fun t134 => (if t134 = 2147483648 then (if (mx a1 a0) ≥ 72057594037927936 then (some true) else ((trig_Atan.f (wrap64 (2 * a0)) (wrap64 (2 * a1))).bind fun t135 => (some (t135 == t128)))) else (some false)))) else (some false)))) else (some false)))) else (some false)) = some r := H
        have A10 := Aside0.mk A100
        clear A100
        by_cases c11 : t127 = true
        · subst c11
          have H1 : ((trig_Atan.f (wrap64 (-a0)) a1).bind fun t129 => ((trig_Angle.f (wrap64 (t129 + t128))).bind fun t130 => (if t130 = 0 then ((trig_Atan.f a0 (wrap64 (-a1))).bind fun t131 => ((trig_Angle.f (wrap64 (t131 + t128))).bind fun t132 => (if t132 = 2147483648 then ((trig_Atan.f (wrap64 (-a0)) (wrap64 (-a1))).bind fun t133 => ((trig_Angle.f (wrap64 (t133 - t128))).bind fun t134 => (if t134 = 2147483648 then (if (mx a1 a0) ≥ 72057594037927936 then (some true) else ((trig_Atan.f (wrap64 (2 * a0)) (wrap64 (2 * a1))).bind fun t135 => (some (t135 == t128)))) else (some false)))) else (some false)))) else (some false)))) = some r := by rw [if_pos rfl] at H; exact H
          clear H
          have H := H1
          clear H1
          replace H := Option.bind_eq_some_iff.mp H
          obtain ⟨t129, A120, H⟩ := H
          replace H : ((trig_Angle.f (wrap64 (t129 + t128))).bind fun t130 => (if t130 = 0 then ((trig_Atan.f a0 (wrap64 (-a1))).bind fun t131 => ((trig_Angle.f (wrap64 (t131 + t128))).bind fun t132 => (if t132 = 2147483648 then ((trig_Atan.f (wrap64 (-a0)) (wrap64 (-a1))).bind fun t133 => ((trig_Angle.f (wrap64 (t133 - t128))).bind fun t134 => (if t134 = 2147483648 then (if (mx a1 a0) ≥ 72057594037927936 then (some true) else ((trig_Atan.f (wrap64 (2 * a0)) (wrap64 (2 * a1))).bind fun t135 => (some (t135 == t128)))) else (some false)))) else (some false)))) else (some false))) = some r := H
          have A12 := Aside0.mk A120
          clear A120
          replace H := Option.bind_eq_some_iff.mp H
          obtain ⟨t130, A130, H⟩ := H
          replace H : (if t130 = 0 then ((trig_Atan.f a0 (wrap64 (-a1))).bind fun t131 => ((trig_Angle.f (wrap64 (t131 + t128))).bind fun t132 => (if t132 = 2147483648 then ((trig_Atan.f (wrap64 (-a0)) (wrap64 (-a1))).bind fun t133 => ((trig_Angle.f (wrap64 (t133 - t128))).bind fun t134 => (if t134 = 2147483648 then (if (mx a1 a0) ≥ 72057594037927936 then (some true) else ((trig_Atan.f (wrap64 (2 * a0)) (wrap64 (2 * a1))).bind fun t135 => (some (t135 == t128)))) else (some false)))) else (some false)))) else (some false)) = some r := H
          have A13 := Aside0.mk A130
          clear A130
          by_cases c14 : t130 = 0
          · rw [if_pos c14] at H
            have c14b0 : (t130 == 0) = true := beq_iff_eq.mpr c14
            have c14b1 : (t130 != 0) = false := bne_eq_false_iff_eq.mpr c14
            clear c14
            replace H := Option.bind_eq_some_iff.mp H
            obtain ⟨t131, A150, H⟩ := H
            replace H : ((trig_Angle.f (wrap64 (t131 + t128))).bind fun t132 => (if t132 = 2147483648 then ((trig_Atan.f (wrap64 (-a0)) (wrap64 (-a1))).bind fun t133 => ((trig_Angle.f (wrap64 (t133 - t128))).bind fun t134 => (if t134 = 2147483648 then (if (mx a1 a0) ≥ 72057594037927936 then (some true) else ((trig_Atan.f (wrap64 (2 * a0)) (wrap64 (2 * a1))).bind fun t135 => (some (t135 == t128)))) else (some false)))) else (some false))) = some r := H
            have A15 := Aside0.mk A150
            clear A150
            replace H := Option.bind_eq_some_iff.mp H
            obtain ⟨t132, A160, H⟩ := H
            replace H : (if t132 = 2147483648 then ((trig_Atan.f (wrap64 (-a0)) (wrap64 (-a1))).bind fun t133 => ((trig_Angle.f (wrap64 (t133 - t128))).bind fun t134 => (if t134 = 2147483648 then (if (mx a1 a0) ≥ 72057594037927936 then (some true) else ((trig_Atan.f (wrap64 (2 * a0)) (wrap64 (2 * a1))).bind fun t135 => (some (t135 == t128)))) else (some false)))) else (some false)) = some r := H
            have A16 := Aside0.mk A160
            clear A160
            by_cases c17 : t132 = 2147483648
            · rw [if_pos c17] at H
              have c17b0 : (t132 == 2147483648) = true := beq_iff_eq.mpr c17
              have c17b1 : (t132 != 2147483648) = false := bne_eq_false_iff_eq.mpr c17
              clear c17
              replace H := Option.bind_eq_some_iff.mp H
              obtain ⟨t133, A180, H⟩ := H
              replace H : ((trig_Angle.f (wrap64 (t133 - t128))).bind fun t134 => (if t134 = 2147483648 then (if (mx a1 a0) ≥ 72057594037927936 then (some true) else ((trig_Atan.f (wrap64 (2 * a0)) (wrap64 (2 * a1))).bind fun t135 => (some (t135 == t128)))) else (some false))) = some r := H
              have A18 := Aside0.mk A180
              clear A180
              replace H := Option.bind_eq_some_iff.mp H
              obtain ⟨t134, A190, H⟩ := H
              replace H : (if t134 = 2147483648 then (if (mx a1 a0) ≥ 72057594037927936 then (some true) else ((trig_Atan.f (wrap64 (2 * a0)) (wrap64 (2 * a1))).bind fun t135 => (some (t135 == t128)))) else (some false)) = some r := H
              have A19 := Aside0.mk A190
              clear A190
              by_cases c20 : t134 = 2147483648
              · rw [if_pos c20] at H
                have c20b0 : (t134 == 2147483648) = true := beq_iff_eq.mpr c20
                have c20b1 : (t134 != 2147483648) = false := bne_eq_false_iff_eq.mpr c20
                clear c20
                obtain ⟨ji21, hji21⟩ : ∃ j_ : Int, (mx a1 a0) = j_ := ⟨_, rfl⟩
                replace H : (if (ji21) ≥ 72057594037927936 then (some true) else ((trig_Atan.f (wrap64 (2 * a0)) (wrap64 (2 * a1))).bind fun t135 => (some (t135 == t128)))) = some r := by first | (rw [hji21] at H; exact H) | (simp only [hji21] at H ⊢; exact H)
                (try rw [hji21] at A10)
                (try rw [hji21] at A12)
                (try rw [hji21] at A13)
                (try rw [hji21] at A15)
                (try rw [hji21] at A16)
                (try rw [hji21] at A18)
                (try rw [hji21] at A19)
                have hji21_ : (if a1 < a0 then a0 else a1) = ji21 := hji21
                by_cases c22 : (ji21) ≥ 72057594037927936
                · rw [if_pos c22] at H
                  have c22b0 : decide (72057594037927936 ≤ (ji21)) = true := decide_eq_true c22
                  clear c22
                  clear hr
                  obtain rfl := Option.some.inj H
                  go_wp2_with (first | ((with_reducible refine gate_callee (f := 17) rfl ?_); refine goesL_ (some 25) rfl rfl Tryd.func17 (by kernel_rfl) rfl #[.int .i64 a0, .int .i64 a1] rfl (by (try simp only [List.map_toArray, List.map_cons, List.map_nil]); first | done | rfl | (simp only [List.length_drop, List.length_take]; rfl)) ?_; (with_reducible refine (trig_Atan.calls a0 a1 t128 _ A10.out ⟨(by repeat (first | exact HG.out | apply glob_drewN | apply glob_drew | (refine glob_below HG ?_; repeat (first | (with_reducible first | exact HB.out | apply below_alloc | apply pw_below_drewN | apply below_drew1) | exact HB.out))))⟩).mono ?_); rintro e w23 ⟨rfl, hb⟩; refine ⟨_, rfl, ?_⟩; have n0_ := Aside0.mk (below_step (by repeat (first | (with_reducible first | exact HB.out | apply below_alloc | apply pw_below_drewN | apply below_drew1) | exact HB.out)) hb); clear HB; have HB := n0_; clear n0_; (try clear hb); (try clear hb2); (try clear hk); (try clear hi)) | (go_at_call 17; (with_reducible refine (trig_Atan.calls (wrap64 (-a0)) a1 t129 _ A12.out ⟨(by repeat (first | exact HG.out | apply glob_drewN | apply glob_drew | (refine glob_below HG ?_; repeat (first | (with_reducible first | exact HB.out | apply below_alloc | apply pw_below_drewN | apply below_drew1) | exact HB.out))))⟩).mono ?_); rintro e w24 ⟨rfl, hb⟩; have n0_ := Aside0.mk (below_step (by repeat (first | (with_reducible first | exact HB.out | apply below_alloc | apply pw_below_drewN | apply below_drew1) | exact HB.out)) hb); clear HB; have HB := n0_; clear n0_; (try clear hb); (try clear hb2); (try clear hk); (try clear hi)) | (go_at_call 13; (with_reducible refine (trig_Angle.calls (wrap64 (t129 + t128)) t130 _ A13.out).mono ?_); rintro e w' ⟨rfl, ⟨nd, rfl⟩⟩) | (go_at_call 17; (with_reducible refine (trig_Atan.calls a0 (wrap64 (-a1)) t131 _ A15.out ⟨(by repeat (first | exact HG.out | apply glob_drewN | apply glob_drew | (refine glob_below HG ?_; repeat (first | (with_reducible first | exact HB.out | apply below_alloc | apply pw_below_drewN | apply below_drew1) | exact HB.out))))⟩).mono ?_); rintro e w25 ⟨rfl, hb⟩; have n0_ := Aside0.mk (below_step (by repeat (first | (with_reducible first | exact HB.out | apply below_alloc | apply pw_below_drewN | apply below_drew1) | exact HB.out)) hb); clear HB; have HB := n0_; clear n0_; (try clear hb); (try clear hb2); (try clear hk); (try clear hi)) | (go_at_call 13; (with_reducible refine (trig_Angle.calls (wrap64 (t131 + t128)) t132 _ A16.out).mono ?_); rintro e w' ⟨rfl, ⟨nd, rfl⟩⟩) | (go_at_call 17; (with_reducible refine (trig_Atan.calls (wrap64 (-a0)) (wrap64 (-a1)) t133 _ A18.out ⟨(by repeat (first | exact HG.out | apply glob_drewN | apply glob_drew | (refine glob_below HG ?_; repeat (first | (with_reducible first | exact HB.out | apply below_alloc | apply pw_below_drewN | apply below_drew1) | exact HB.out))))⟩).mono ?_); rintro e w26 ⟨rfl, hb⟩; have n0_ := Aside0.mk (below_step (by repeat (first | (with_reducible first | exact HB.out | apply below_alloc | apply pw_below_drewN | apply below_drew1) | exact HB.out)) hb); clear HB; have HB := n0_; clear n0_; (try clear hb); (try clear hb2); (try clear hk); (try clear hi)) | (go_at_call 13; (with_reducible refine (trig_Angle.calls (wrap64 (t133 - t128)) t134 _ A19.out).mono ?_); rintro e w' ⟨rfl, ⟨nd, rfl⟩⟩))
                  go_ret
                  exact ⟨by first | rfl | (simp [errW_none, errW_some] <;> rfl) | (simp only [← hji21]; first | rfl | (simp [errW_none, errW_some] <;> rfl)) | (simp [*, errW_none, errW_some] <;> rfl), by repeat (first | (with_reducible first | exact HB.out | apply below_alloc | apply pw_below_drewN | apply below_drew1) | exact HB.out)⟩
                · rw [if_neg c22] at H
                  have c22b0 : decide (72057594037927936 ≤ (ji21)) = false := decide_eq_false c22
                  clear c22
                  replace H := Option.bind_eq_some_iff.mp H
                  obtain ⟨t135, A270, H⟩ := H
                  replace H : (some (t135 == t128)) = some r := H
                  have A27 := Aside0.mk A270
                  clear A270
                  clear hr
                  obtain rfl := Option.some.inj H
                  go_wp2_with (first | ((with_reducible refine gate_callee (f := 17) rfl ?_); refine goesL_ (some 25) rfl rfl Tryd.func17 (by kernel_rfl) rfl #[.int .i64 a0, .int .i64 a1] rfl (by (try simp only [List.map_toArray, List.map_cons, List.map_nil]); first | done | rfl | (simp only [List.length_drop, List.length_take]; rfl)) ?_; (with_reducible refine (trig_Atan.calls a0 a1 t128 _ A10.out ⟨(by repeat (first | exact HG.out | apply glob_drewN | apply glob_drew | (refine glob_below HG ?_; repeat (first | (with_reducible first | exact HB.out | apply below_alloc | apply pw_below_drewN | apply below_drew1) | exact HB.out))))⟩).mono ?_); rintro e w28 ⟨rfl, hb⟩; refine ⟨_, rfl, ?_⟩; have n0_ := Aside0.mk (below_step (by repeat (first | (with_reducible first | exact HB.out | apply below_alloc | apply pw_below_drewN | apply below_drew1) | exact HB.out)) hb); clear HB; have HB := n0_; clear n0_; (try clear hb); (try clear hb2); (try clear hk); (try clear hi)) | (go_at_call 17; (with_reducible refine (trig_Atan.calls (wrap64 (-a0)) a1 t129 _ A12.out ⟨(by repeat (first | exact HG.out | apply glob_drewN | apply glob_drew | (refine glob_below HG ?_; repeat (first | (with_reducible first | exact HB.out | apply below_alloc | apply pw_below_drewN | apply below_drew1) | exact HB.out))))⟩).mono ?_); rintro e w29 ⟨rfl, hb⟩; have n0_ := Aside0.mk (below_step (by repeat (first | (with_reducible first | exact HB.out | apply below_alloc | apply pw_below_drewN | apply below_drew1) | exact HB.out)) hb); clear HB; have HB := n0_; clear n0_; (try clear hb); (try clear hb2); (try clear hk); (try clear hi)) | (go_at_call 13; (with_reducible refine (trig_Angle.calls (wrap64 (t129 + t128)) t130 _ A13.out).mono ?_); rintro e w' ⟨rfl, ⟨nd, rfl⟩⟩) | (go_at_call 17; (with_reducible refine (trig_Atan.calls a0 (wrap64 (-a1)) t131 _ A15.out ⟨(by repeat (first | exact HG.out | apply glob_drewN | apply glob_drew | (refine glob_below HG ?_; repeat (first | (with_reducible first | exact HB.out | apply below_alloc | apply pw_below_drewN | apply below_drew1) | exact HB.out))))⟩).mono ?_); rintro e w30 ⟨rfl, hb⟩; have n0_ := Aside0.mk (below_step (by repeat (first | (with_reducible first | exact HB.out | apply below_alloc | apply pw_below_drewN | apply below_drew1) | exact HB.out)) hb); clear HB; have HB := n0_; clear n0_; (try clear hb); (try clear hb2); (try clear hk); (try clear hi)) | (go_at_call 13; (with_reducible refine (trig_Angle.calls (wrap64 (t131 + t128)) t132 _ A16.out).mono ?_); rintro e w' ⟨rfl, ⟨nd, rfl⟩⟩) | (go_at_call 17; (with_reducible refine (trig_Atan.calls (wrap64 (-a0)) (wrap64 (-a1)) t133 _ A18.out ⟨(by repeat (first | exact HG.out | apply glob_drewN | apply glob_drew | (refine glob_below HG ?_; repeat (first | (with_reducible first | exact HB.out | apply below_alloc | apply pw_below_drewN | apply below_drew1) | exact HB.out))))⟩).mono ?_); rintro e w31 ⟨rfl, hb⟩; have n0_ := Aside0.mk (below_step (by repeat (first | (with_reducible first | exact HB.out | apply below_alloc | apply pw_below_drewN | apply below_drew1) | exact HB.out)) hb); clear HB; have HB := n0_; clear n0_; (try clear hb); (try clear hb2); (try clear hk); (try clear hi)) | (go_at_call 13; (with_reducible refine (trig_Angle.calls (wrap64 (t133 - t128)) t134 _ A19.out).mono ?_); rintro e w' ⟨rfl, ⟨nd, rfl⟩⟩) | (go_at_call 17; (with_reducible refine (trig_Atan.calls (wrap64 (2 * a0)) (wrap64 (2 * a1)) t135 _ A27.out ⟨(by repeat (first | exact HG.out | apply glob_drewN | apply glob_drew | (refine glob_below HG ?_; repeat (first | (with_reducible first | exact HB.out | apply below_alloc | apply pw_below_drewN | apply below_drew1) | exact HB.out))))⟩).mono ?_); rintro e w32 ⟨rfl, hb⟩; have n0_ := Aside0.mk (below_step (by repeat (first | (with_reducible first | exact HB.out | apply below_alloc | apply pw_below_drewN | apply below_drew1) | exact HB.out)) hb); clear HB; have HB := n0_; clear n0_; (try clear hb); (try clear hb2); (try clear hk); (try clear hi)))
                  go_ret
                  exact ⟨by first | rfl | (simp [errW_none, errW_some] <;> rfl) | (simp only [← hji21]; first | rfl | (simp [errW_none, errW_some] <;> rfl)) | (simp [*, errW_none, errW_some] <;> rfl), by repeat (first | (with_reducible first | exact HB.out | apply below_alloc | apply pw_below_drewN | apply below_drew1) | exact HB.out)⟩
              · rw [if_neg c20] at H
                have c20b0 : (t134 == 2147483648) = false := beq_eq_false_iff_ne.mpr c20
                have c20b1 : (t134 != 2147483648) = true := bne_iff_ne.mpr c20
                exact absurd ((Option.some.inj H).trans hr.out) (by decide)
            · rw [if_neg c17] at H
              have c17b0 : (t132 == 2147483648) = false := beq_eq_false_iff_ne.mpr c17
              have c17b1 : (t132 != 2147483648) = true := bne_iff_ne.mpr c17
              exact absurd ((Option.some.inj H).trans hr.out) (by decide)
          · rw [if_neg c14] at H
            have c14b0 : (t130 == 0) = false := beq_eq_false_iff_ne.mpr c14
            have c14b1 : (t130 != 0) = true := bne_iff_ne.mpr c14
            exact absurd ((Option.some.inj H).trans hr.out) (by decide)
        · replace c11 := Bool.eq_false_iff.mpr c11
          subst c11
          have H1 : (some false) = some r := by rw [if_neg (show ¬ (false = true) by decide)] at H; exact H
          clear H
          have H := H1
          clear H1
          exact absurd ((Option.some.inj H).trans hr.out) (by decide)


end Go.Proofs.YtnbicphpchnkbaaDoor.B
