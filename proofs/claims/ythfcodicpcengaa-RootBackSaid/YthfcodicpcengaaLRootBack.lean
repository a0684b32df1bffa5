/- The walk of the law RootBack: where its Lean function tells true, the call returns true and leaves memory below as it was. Laid by a program of this project out of the kit's print of the Go functions. -/
import Derived.Test.YthfcodicpcengaaB0
import Derived.Test.YthfcodicpcengaaB2
import Derived.Test.YthfcodicpcengaaB3
import Derived.Test.YthfcodicpcengaaB4
namespace Go.Proofs.Ythfcodicpcengaa.B
open Go.RowKit Go.Proofs.YthfcodicpcengaaW.PrintWords Go.Proofs.YthfcodicpcengaaW.PrintLast Go.Proofs.YthfcodicpcengaaW.PrintMore
attribute [local go_sem] max2_int min2_int max_two min_two max_three min_three max_four min_four
set_option linter.unusedVariables false
set_option linter.unusedSimpArgs false

/-! ### outriggerlaw04_RootBack: function 5 -/
def outriggerlaw04_RootBack.j0 : Nat → Int → Bool → Int → Int → Bool → Int → Option (Bool)
  | 0, _, _, _, _, _, _ => none
  | k + 1, x0, x5, x6, x7, x8, x9 => (wide_Mul.f x6 x6).bind fun bt195 => ((wide_Of.f x9).bind fun bt197 => ((wide_Add.f bt195.1 bt195.2 bt197.1 bt197.2).bind fun bt199 => ((root_Wide.f k bt199.1 bt199.2.1).bind fun bt203 => ((root_Hyp.f k x0 0).bind fun bt205 => ((fix_Clamp.f x0).bind fun bt207 => (if x5 = true then (if x7 = x6 then (if x8 = true then (some false) else (if bt199.2.2 = true then (if bt203.1 = x6 then (if bt203.2 = true then (some false) else (if bt205.1 = x6 then (some (bt205.2 == bt207.2)) else (some false))) else (some false)) else (some false))) else (some false)) else (some false)))))))
def outriggerlaw04_RootBack.f (k : Nat) (a0 : Int) (a1 : Int) : Option (Bool) := (outriggerlaw04_awake.f k).bind fun t189 => ((fix_Abs.f a0).bind fun t190 => ((wide_Mul.f a0 a0).bind fun bt191 => ((root_Wide.f k bt191.1 bt191.2).bind fun bt193 => (if t190 > 0 then (if (wrap64 ((wrap64 (2 * t190)) + 1)) = 0 then (none) else (outriggerlaw04_RootBack.j0 k a0 t189 t190 bt193.1 bt193.2 (Int.tmod (Go.bits .and .i64 a1 144115188075855871) (wrap64 ((wrap64 (2 * t190)) + 1))))) else (outriggerlaw04_RootBack.j0 k a0 t189 t190 bt193.1 bt193.2 0)))))
theorem outriggerlaw04_RootBack.mono_l : ∀ k, (∀ y0 y1 y2 y3 y4 y5, LeO (outriggerlaw04_RootBack.j0 k y0 y1 y2 y3 y4 y5) (outriggerlaw04_RootBack.j0 (k + 1) y0 y1 y2 y3 y4 y5))
  | 0 => fun _ _ _ _ _ _ r h => by simp [outriggerlaw04_RootBack.j0] at h
  | k + 1 => by
    have ih0 := outriggerlaw04_RootBack.mono_l k
    · intro y0 y1 y2 y3 y4 y5
      unfold outriggerlaw04_RootBack.j0
      repeat' first
      | (with_reducible exact ih0 _ _ _ _ _ _)
      | (with_reducible exact outriggerlaw04_awake.mono _)
      | (with_reducible exact root_Hyp.mono _ _ _)
      | (with_reducible exact root_Wide.mono _ _ _)
      | (with_reducible exact LeO.refl _)
      | (with_reducible exact LeO.none _)
      | (with_reducible refine LeO.ite ?_ ?_)
      | (with_reducible refine LeO.bind ?_ (fun _ => ?_))
      | exact ih0 _ _ _ _ _ _
      | exact outriggerlaw04_awake.mono _
      | exact root_Hyp.mono _ _ _
      | exact root_Wide.mono _ _ _
      | exact LeO.none _
      | refine LeO.ite ?_ ?_
      | refine LeO.bind ?_ (fun _ => ?_)
theorem outriggerlaw04_RootBack.mono : ∀ a0 a1 k, LeO (outriggerlaw04_RootBack.f k a0 a1) (outriggerlaw04_RootBack.f (k + 1) a0 a1) := by
  intro a0 a1 k
  have ih0 := outriggerlaw04_RootBack.mono_l k
  unfold outriggerlaw04_RootBack.f
  repeat' first
      | (with_reducible exact ih0 _ _ _ _ _ _)
      | (with_reducible exact outriggerlaw04_awake.mono _)
      | (with_reducible exact root_Hyp.mono _ _ _)
      | (with_reducible exact root_Wide.mono _ _ _)
      | (with_reducible exact LeO.refl _)
      | (with_reducible exact LeO.none _)
      | (with_reducible refine LeO.ite ?_ ?_)
      | (with_reducible refine LeO.bind ?_ (fun _ => ?_))
      | exact ih0 _ _ _ _ _ _
      | exact outriggerlaw04_awake.mono _
      | exact root_Hyp.mono _ _ _
      | exact root_Wide.mono _ _ _
      | exact LeO.none _
      | refine LeO.ite ?_ ?_
      | refine LeO.bind ?_ (fun _ => ?_)
set_option maxHeartbeats 8000000 in
set_option maxRecDepth 100000 in
theorem outriggerlaw04_RootBack.calls (k : Nat) (a0 : Int) (a1 : Int) (r : Bool) (w : World) (h : outriggerlaw04_RootBack.f k a0 a1 = some r) (hr : Aside0 (r = true)) :
    Calls Try.prog 5 #[.int .i64 a0, .int .i64 a1] w fun e w' => e = .returned (.bool r) ∧ Below w.heap.size w w' := by
  have hu23 := Try.underlying23
  have HB := Aside0.mk (Below.refl w.heap.size w)
  have H : ((outriggerlaw04_awake.f k).bind fun t189 => ((fix_Abs.f a0).bind fun t190 => ((wide_Mul.f a0 a0).bind fun bt191 => ((root_Wide.f k bt191.1 bt191.2).bind fun bt193 => (if t190 > 0 then (if (wrap64 ((wrap64 (2 * t190)) + 1)) = 0 then (none) else (outriggerlaw04_RootBack.j0 k a0 t189 t190 bt193.1 bt193.2 (Int.tmod (Go.bits .and .i64 a1 144115188075855871) (wrap64 ((wrap64 (2 * t190)) + 1))))) else (outriggerlaw04_RootBack.j0 k a0 t189 t190 bt193.1 bt193.2 0)))))) = some r := h
  clear h
  replace H := Option.bind_eq_some_iff.mp H
  obtain ⟨t189, A30, H⟩ := H
  replace H : ((fix_Abs.f a0).bind fun t190 => ((wide_Mul.f a0 a0).bind fun bt191 => ((root_Wide.f k bt191.1 bt191.2).bind fun bt193 => (if t190 > 0 then (if (wrap64 ((wrap64 (2 * t190)) + 1)) = 0 then (none) else (outriggerlaw04_RootBack.j0 k a0 t189 t190 bt193.1 bt193.2 (Int.tmod (Go.bits .and .i64 a1 144115188075855871) (wrap64 ((wrap64 (2 * t190)) + 1))))) else (outriggerlaw04_RootBack.j0 k a0 t189 t190 bt193.1 bt193.2 0))))) = some r := H
  have A3 := Aside0.mk A30
  clear A30
  replace H := Option.bind_eq_some_iff.mp H
  obtain ⟨t190, A40, H⟩ := H
  replace H : ((wide_Mul.f a0 a0).bind fun bt191 => ((root_Wide.f k bt191.1 bt191.2).bind fun bt193 => (if t190 > 0 then (if (wrap64 ((wrap64 (2 * t190)) + 1)) = 0 then (none) else (outriggerlaw04_RootBack.j0 k a0 t189 t190 bt193.1 bt193.2 (Int.tmod (Go.bits .and .i64 a1 144115188075855871) (wrap64 ((wrap64 (2 * t190)) + 1))))) else (outriggerlaw04_RootBack.j0 k a0 t189 t190 bt193.1 bt193.2 0)))) = some r := H
  have A4 := Aside0.mk A40
  clear A40
  replace H := Option.bind_eq_some_iff.mp H
  obtain ⟨⟨t191, t192⟩, A50, H⟩ := H
  replace H : ((root_Wide.f k t191 t192).bind fun bt193 => (if t190 > 0 then (if (wrap64 ((wrap64 (2 * t190)) + 1)) = 0 then (none) else (outriggerlaw04_RootBack.j0 k a0 t189 t190 bt193.1 bt193.2 (Int.tmod (Go.bits .and .i64 a1 144115188075855871) (wrap64 ((wrap64 (2 * t190)) + 1))))) else (outriggerlaw04_RootBack.j0 k a0 t189 t190 bt193.1 bt193.2 0))) = some r := H
  have A5 := Aside0.mk A50
  clear A50
  replace H := Option.bind_eq_some_iff.mp H
  obtain ⟨⟨t193, t194⟩, A60, H⟩ := H
  replace H : (if t190 > 0 then (if (wrap64 ((wrap64 (2 * t190)) + 1)) = 0 then (none) else (outriggerlaw04_RootBack.j0 k a0 t189 t190 t193 t194 (Int.tmod (Go.bits .and .i64 a1 144115188075855871) (wrap64 ((wrap64 (2 * t190)) + 1))))) else (outriggerlaw04_RootBack.j0 k a0 t189 t190 t193 t194 0)) = some r := H
  have A6 := Aside0.mk A60
  clear A60
  have HC7 := Aside0.mk H
  clear H
  go_enter Try.func5, Try.ntmps5
  go_upto_if 29 with (first | ((with_reducible refine gate_callee (f := 9) rfl ?_); refine goesL_ (some 18) rfl rfl Try.func9 (by kernel_rfl) rfl #[] rfl (by (try simp only [List.map_toArray, List.map_cons, List.map_nil]); first | done | rfl | (simp only [List.length_drop, List.length_take]; rfl)) ?_; (with_reducible refine (outriggerlaw04_awake.calls k  t189 _ A3.out).mono ?_); rintro e w8 ⟨rfl, hb⟩; refine ⟨_, rfl, ?_⟩; have n0_ := Aside0.mk (below_step (by repeat (first | (with_reducible first | exact HB.out | apply below_alloc | apply pw_below_drewN | apply below_drew1) | exact HB.out)) hb); clear HB; have HB := n0_; clear n0_; (try clear hb); (try clear hb2); (try clear hk); (try clear hi)) | ((with_reducible refine gate_callee (f := 19) rfl ?_); refine goesL_ (some 20) rfl rfl Try.func19 (by kernel_rfl) rfl #[.int .i64 a0] rfl (by (try simp only [List.map_toArray, List.map_cons, List.map_nil]); first | done | rfl | (simp only [List.length_drop, List.length_take]; rfl)) ?_; (with_reducible refine (fix_Abs.calls a0 t190 _ A4.out).mono ?_); rintro e w9 ⟨rfl, hb⟩; refine ⟨_, rfl, ?_⟩; have n0_ := Aside0.mk (below_step (by repeat (first | (with_reducible first | exact HB.out | apply below_alloc | apply pw_below_drewN | apply below_drew1) | exact HB.out)) hb); clear HB; have HB := n0_; clear n0_; (try clear hb); (try clear hb2); (try clear hk); (try clear hi)) | ((with_reducible refine gate_callee (f := 18) rfl ?_); refine goesL_ (some 24) rfl rfl Try.func18 (by kernel_rfl) rfl #[.int .i64 a0, .int .i64 a0] rfl (by (try simp only [List.map_toArray, List.map_cons, List.map_nil]); first | done | rfl | (simp only [List.length_drop, List.length_take]; rfl)) ?_; (with_reducible refine (wide_Mul.calls a0 a0 t191 t192 _ A5.out).mono ?_); rintro e w10 ⟨rfl, hb⟩; refine ⟨_, rfl, ?_⟩; have n0_ := Aside0.mk (below_step (by repeat (first | (with_reducible first | exact HB.out | apply below_alloc | apply pw_below_drewN | apply below_drew1) | exact HB.out)) hb); clear HB; have HB := n0_; clear n0_; (try clear hb); (try clear hb2); (try clear hk); (try clear hi)) | ((with_reducible refine gate_callee (f := 10) rfl ?_); refine goesL_ (some 25) rfl rfl Try.func10 (by kernel_rfl) rfl #[.agg #[.int .i64 t191, .int .i64 t192]] rfl (by (try simp only [List.map_toArray, List.map_cons, List.map_nil]); first | done | rfl | (simp only [List.length_drop, List.length_take]; rfl)) ?_; (with_reducible refine (root_Wide.calls k t191 t192 t193 t194 _ A6.out).mono ?_); rintro e w11 ⟨rfl, hb⟩; refine ⟨_, rfl, ?_⟩; have n0_ := Aside0.mk (below_step (by repeat (first | (with_reducible first | exact HB.out | apply below_alloc | apply pw_below_drewN | apply below_drew1) | exact HB.out)) hb); clear HB; have HB := n0_; clear n0_; (try clear hb); (try clear hb2); (try clear hk); (try clear hi)))
  (try simp only [Act.put, List.setIfInBounds_toArray, List.set_cons_zero, List.set_cons_succ])
  go_cut [9] (fun v9 wc => ∃ (kq : Nat) (x9_6 : Int), v9 = .int .i64 x9_6 ∧ Aside0 (outriggerlaw04_RootBack.j0 kq a0 t189 t190 t193 t194 x9_6 = some r) ∧ Aside0 (kq ≤ k) ∧ Aside0 (Below w.heap.size w wc))
  case first =>
    have H := HC7.out
    clear HC7
    by_cases c12 : t190 > 0
    · rw [if_pos c12] at H
      have c12b0 : decide (0 < t190) = true := decide_eq_true c12
      clear c12
      (first | rw [c12b0] | (simp only [i64_w, i32_w]; rw [c12b0]) | skip)
      by_cases c13 : (wrap64 ((wrap64 (2 * t190)) + 1)) = 0
      · rw [if_pos c13] at H
        exact absurd H (by simp)
      · rw [if_neg c13] at H
        have c13b0 : ((wrap64 ((wrap64 (2 * t190)) + 1)) == 0) = false := beq_eq_false_iff_ne.mpr c13
        have c13b1 : ((wrap64 ((wrap64 (2 * t190)) + 1)) != 0) = true := bne_iff_ne.mpr c13
        have H' := Aside0.mk H
        clear H
        go_wp2
        go_meet
        case rel => exact ⟨_, (Int.tmod (Go.bits .and .i64 a1 144115188075855871) (wrap64 ((wrap64 (2 * t190)) + 1))), (by first | rfl | (simp; done) | (simp [*]; done)), H', ⟨by first | omega | exact Nat.le_refl _⟩, ⟨by repeat (first | (with_reducible first | exact HB.out | apply below_alloc | apply pw_below_drewN | apply below_drew1) | exact HB.out)⟩⟩
    · rw [if_neg c12] at H
      have c12b0 : decide (0 < t190) = false := decide_eq_false c12
      clear c12
      (first | rw [c12b0] | (simp only [i64_w, i32_w]; rw [c12b0]) | skip)
      have H' := Aside0.mk H
      clear H
      go_wp2
      go_meet
      case rel => exact ⟨_, (0), (by first | rfl | (simp; done) | (simp [*]; done)), H', ⟨by first | omega | exact Nat.le_refl _⟩, ⟨by repeat (first | (with_reducible first | exact HB.out | apply below_alloc | apply pw_below_drewN | apply below_drew1) | exact HB.out)⟩⟩
  case rest =>
    clear HC7
    try clear c1
    try clear p2
    try clear c5
    try clear p6
    try clear c9
    try clear c10
    try clear c12
    try clear c12b0
    try clear c13
    try clear c13b0
    try clear c13b1
    obtain ⟨kq, x9_6, rfl, HA, HJ6, HB⟩ := hcut
    cases kq with
    | zero => exact absurd HA.out (by simp [outriggerlaw04_RootBack.j0])
    | succ kj6 =>
      have H := HA.out
      clear HA
      simp only [outriggerlaw04_RootBack.j0] at H
      replace H := Option.bind_eq_some_iff.mp H
      obtain ⟨⟨t195, t196⟩, A140, H⟩ := H
      replace H : ((wide_Of.f x9_6).bind fun bt197 => ((wide_Add.f t195 t196 bt197.1 bt197.2).bind fun bt199 => ((root_Wide.f kj6 bt199.1 bt199.2.1).bind fun bt203 => ((root_Hyp.f kj6 a0 0).bind fun bt205 => ((fix_Clamp.f a0).bind fun bt207 => (if t189 = true then (if t193 = t190 then (if t194 = true then (some false) else (if bt199.2.2 = true then (if bt203.1 = t190 then (if bt203.2 = true then (some false) else (if bt205.1 = t190 then (some (bt205.2 == bt207.2)) else (some false))) else (some false)) else (some false))) else (some false)) else (some false))))))) = some r := H
      have A14 := Aside0.mk A140
      clear A140
      replace H := Option.bind_eq_some_iff.mp H
      obtain ⟨⟨t197, t198⟩, A150, H⟩ := H
      replace H : ((wide_Add.f t195 t196 t197 t198).bind fun bt199 => ((root_Wide.f kj6 bt199.1 bt199.2.1).bind fun bt203 => ((root_Hyp.f kj6 a0 0).bind fun bt205 => ((fix_Clamp.f a0).bind fun bt207 => (if t189 = true then (if t193 = t190 then (if t194 = true then (some false) else (if bt199.2.2 = true then (if bt203.1 = t190 then (if bt203.2 = true then (some false) else (if bt205.1 = t190 then (some (bt205.2 == bt207.2)) else (some false))) else (some false)) else (some false))) else (some false)) else (some false)))))) = some r := H
      have A15 := Aside0.mk A150
      clear A150
      replace H := Option.bind_eq_some_iff.mp H
      obtain ⟨⟨t199, t200, t201⟩, A160, H⟩ := H
      replace H : ((root_Wide.f kj6 t199 t200).bind fun bt203 => ((root_Hyp.f kj6 a0 0).bind fun bt205 => ((fix_Clamp.f a0).bind fun bt207 => (if t189 = true then (if t193 = t190 then (if t194 = true then (some false) else (if t201 = true then (if bt203.1 = t190 then (if bt203.2 = true then (some false) else (if bt205.1 = t190 then (some (bt205.2 == bt207.2)) else (some false))) else (some false)) else (some false))) else (some false)) else (some false))))) = some r := H
      have A16 := Aside0.mk A160
      clear A160
      replace H := Option.bind_eq_some_iff.mp H
      obtain ⟨⟨t203, t204⟩, A170, H⟩ := H
      replace H : ((root_Hyp.f kj6 a0 0).bind fun bt205 => ((fix_Clamp.f a0).bind fun bt207 => (if t189 = true then (if t193 = t190 then (if t194 = true then (some false) else (if t201 = true then (if t203 = t190 then (if t204 = true then (some false) else (if bt205.1 = t190 then (some (bt205.2 == bt207.2)) else (some false))) else (some false)) else (some false))) else (some false)) else (some false)))) = some r := H
      have A17 := Aside0.mk A170
      clear A170
      replace H := Option.bind_eq_some_iff.mp H
      obtain ⟨⟨t205, t206⟩, A180, H⟩ := H
      replace H : ((fix_Clamp.f a0).bind fun bt207 => (if t189 = true then (if t193 = t190 then (if t194 = true then (some false) else (if t201 = true then (if t203 = t190 then (if t204 = true then (some false) else (if t205 = t190 then (some (t206 == bt207.2)) else (some false))) else (some false)) else (some false))) else (some false)) else (some false))) = some r := H
      have A18 := Aside0.mk A180
      clear A180
      replace H := Option.bind_eq_some_iff.mp H
      obtain ⟨⟨t207, t208⟩, A190, H⟩ := H
      replace H : (if t189 = true then (if t193 = t190 then (if t194 = true then (some false) else (if t201 = true then (if t203 = t190 then (if t204 = true then (some false) else (if t205 = t190 then (some (t206 == t208)) else (some false))) else (some false)) else (some false))) else (some false)) else (some false)) = some r := H
      have A19 := Aside0.mk A190
      clear A190
      by_cases c20 : t189 = true
      · subst c20
        have H1 : (if t193 = t190 then (if t194 = true then (some false) else (if t201 = true then (if t203 = t190 then (if t204 = true then (some false) else (if t205 = t190 then (some (t206 == t208)) else (some false))) else (some false)) else (some false))) else (some false)) = some r := by rw [if_pos rfl] at H; exact H
        clear H
        have H := H1
        clear H1
        by_cases c21 : t193 = t190
        · rw [if_pos c21] at H
          have c21b0 : (t193 == t190) = true := beq_iff_eq.mpr c21
          have c21b1 : (t193 != t190) = false := bne_eq_false_iff_eq.mpr c21
          clear c21
          by_cases c22 : t194 = true
          · subst c22
            have H1 : (some false) = some r := by rw [if_pos rfl] at H; exact H
            clear H
            have H := H1
            clear H1
            exact absurd ((Option.some.inj H).trans hr.out) (by decide)
          · replace c22 := Bool.eq_false_iff.mpr c22
            subst c22
            have H1 : (if t201 = true then (if t203 = t190 then (if t204 = true then (some false) else (if t205 = t190 then (some (t206 == t208)) else (some false))) else (some false)) else (some false)) = some r := by rw [if_neg (show ¬ (false = true) by decide)] at H; exact H
            clear H
            have H := H1
            clear H1
            by_cases c31 : t201 = true
            · subst c31
              have H1 : (if t203 = t190 then (if t204 = true then (some false) else (if t205 = t190 then (some (t206 == t208)) else (some false))) else (some false)) = some r := by rw [if_pos rfl] at H; exact H
              clear H
              have H := H1
              clear H1
              by_cases c32 : t203 = t190
              · rw [if_pos c32] at H
                have c32b0 : (t203 == t190) = true := beq_iff_eq.mpr c32
                have c32b1 : (t203 != t190) = false := bne_eq_false_iff_eq.mpr c32
                clear c32
                by_cases c33 : t204 = true
                · subst c33
                  have H1 : (some false) = some r := by rw [if_pos rfl] at H; exact H
                  clear H
                  have H := H1
                  clear H1
                  exact absurd ((Option.some.inj H).trans hr.out) (by decide)
                · replace c33 := Bool.eq_false_iff.mpr c33
                  subst c33
                  have H1 : (if t205 = t190 then (some (t206 == t208)) else (some false)) = some r := by rw [if_neg (show ¬ (false = true) by decide)] at H; exact H
                  clear H
                  have H := H1
                  clear H1
                  by_cases c42 : t205 = t190
                  · rw [if_pos c42] at H
                    have c42b0 : (t205 == t190) = true := beq_iff_eq.mpr c42
                    have c42b1 : (t205 != t190) = false := bne_eq_false_iff_eq.mpr c42
                    clear c42
                    clear hr
                    obtain rfl := Option.some.inj H
                    go_wp2_with (first | ((with_reducible refine gate_callee (f := 18) rfl ?_); refine goesL_ (some 39) rfl rfl Try.func18 (by kernel_rfl) rfl #[.int .i64 t190, .int .i64 t190] rfl (by (try simp only [List.map_toArray, List.map_cons, List.map_nil]); first | done | rfl | (simp only [List.length_drop, List.length_take]; rfl)) ?_; (with_reducible refine (wide_Mul.calls t190 t190 t195 t196 _ A14.out).mono ?_); rintro e w43 ⟨rfl, hb⟩; refine ⟨_, rfl, ?_⟩; have n0_ := Aside0.mk (below_step (by repeat (first | (with_reducible first | exact HB.out | apply below_alloc | apply pw_below_drewN | apply below_drew1) | exact HB.out)) hb); clear HB; have HB := n0_; clear n0_; (try clear hb); (try clear hb2); (try clear hk); (try clear hi)) | ((with_reducible refine gate_callee (f := 21) rfl ?_); refine goesL_ (some 41) rfl rfl Try.func21 (by kernel_rfl) rfl #[.int .i64 x9_6] rfl (by (try simp only [List.map_toArray, List.map_cons, List.map_nil]); first | done | rfl | (simp only [List.length_drop, List.length_take]; rfl)) ?_; (with_reducible refine (wide_Of.calls x9_6 t197 t198 _ A15.out).mono ?_); rintro e w44 ⟨rfl, hb⟩; refine ⟨_, rfl, ?_⟩; have n0_ := Aside0.mk (below_step (by repeat (first | (with_reducible first | exact HB.out | apply below_alloc | apply pw_below_drewN | apply below_drew1) | exact HB.out)) hb); clear HB; have HB := n0_; clear n0_; (try clear hb); (try clear hb2); (try clear hk); (try clear hi)) | ((with_reducible refine gate_callee (f := 20) rfl ?_); refine goesL_ (some 42) rfl rfl Try.func20 (by kernel_rfl) rfl #[.agg #[.int .i64 t195, .int .i64 t196], .agg #[.int .i64 t197, .int .i64 t198]] rfl (by (try simp only [List.map_toArray, List.map_cons, List.map_nil]); first | done | rfl | (simp only [List.length_drop, List.length_take]; rfl)) ?_; (with_reducible refine (wide_Add.calls t195 t196 t197 t198 t199 t200 true _ A16.out).mono ?_); rintro e w45 ⟨rfl, hb⟩; refine ⟨_, rfl, ?_⟩; have n0_ := Aside0.mk (below_step (by repeat (first | (with_reducible first | exact HB.out | apply below_alloc | apply pw_below_drewN | apply below_drew1) | exact HB.out)) hb); clear HB; have HB := n0_; clear n0_; (try clear hb); (try clear hb2); (try clear hk); (try clear hi)) | ((with_reducible refine gate_dst (N := 10) rfl ?_); refine box_event ?hg (N := 10) ?hd (cs := #[.int .i64 0, .int .i64 0]) (t := 23) ?hr ?_; (case hd => rfl); (case hg => rfl); (case hr => first | (go_simp; done) | (go_simp; rfl)); intro gb202 hg w46 hbox hb; have n0_ := Aside0.mk (below_step (by repeat (first | (with_reducible first | exact HB.out | apply below_alloc | apply pw_below_drewN | apply below_drew1) | exact HB.out)) hb); have n1_ := Aside0.mk (hbox); have n2_ := Aside0.mk ((by rw [hg]; exact (below_size (by repeat (first | (with_reducible first | exact HB.out | apply below_alloc | apply pw_below_drewN | apply below_drew1) | exact HB.out))) : w.heap.size ≤ gb202)); have n3_ := Aside0.mk ((by rw [hg]; exact (below_size (by repeat (first | (with_reducible first | exact HB.out | apply below_alloc | apply pw_below_drewN | apply below_drew1) | exact HB.out))) : w.heap.size ≤ gb202)); clear HB; have HB := n0_; have BK202 := n1_; have GW202 := n2_; have GE202 := n3_; clear n0_ n1_ n2_ n3_; clear hb hbox hg; have hcz47_0 : w46.cell? ⟨gb202, 0, none⟩ = some (.int .i64 0) := (blk_cell BK202.out 0).trans rfl; have hcz47_1 : w46.cell? ⟨gb202, 1, none⟩ = some (.int .i64 0) := (blk_cell BK202.out 1).trans rfl; have hfz47_0 := blk_frozen BK202.out 0; have hfz47_1 := blk_frozen BK202.out 1) | ((with_reducible refine gate_callee (f := 10) rfl ?_); refine goesL_ (some 47) rfl rfl Try.func10 (by kernel_rfl) rfl #[.agg #[.int .i64 t199, .int .i64 t200]] rfl (by (try simp only [List.map_toArray, List.map_cons, List.map_nil]); first | done | rfl | (simp only [List.length_drop, List.length_take]; rfl)) ?_; (with_reducible refine (root_Wide.calls kj6 t199 t200 t203 false _ A17.out).mono ?_); rintro e w48 ⟨rfl, hb⟩; refine ⟨_, rfl, ?_⟩; have n0_ := Aside0.mk (blk_below (g := gb202) (o := .cells #[.int .i64 t199, .int .i64 t200] 23 (0, 0)) (by (with_reducible repeat (first | refine blk_drewN ?_ _ | refine blk_drew ?_ | refine blk_alloc ?_ _)); refine blk_put (cs := #[.int .i64 t199, .int .i64 0]) ?_ 1 _ rfl; (with_reducible repeat (first | refine blk_drewN ?_ _ | refine blk_drew ?_ | refine blk_alloc ?_ _)); refine blk_put (cs := #[.int .i64 0, .int .i64 0]) ?_ 0 _ rfl; (with_reducible repeat (first | refine blk_drewN ?_ _ | refine blk_drew ?_ | refine blk_alloc ?_ _)); exact BK202.out) hb); have n1_ := Aside0.mk (below_step (by repeat (first | (with_reducible first | exact HB.out | apply below_alloc | apply pw_below_drewN | apply below_drew1 | refine below_set ?_ GE202.out) | exact HB.out)) hb); clear BK202; clear HB; have BK202 := n0_; have HB := n1_; clear n0_ n1_; (try clear hb); (try clear hb2); (try clear hk); (try clear hi)) | ((with_reducible refine gate_callee (f := 14) rfl ?_); refine goesL_ (some 52) rfl rfl Try.func14 (by kernel_rfl) rfl #[.int .i64 a0, .int .i64 0] rfl (by (try simp only [List.map_toArray, List.map_cons, List.map_nil]); first | done | rfl | (simp only [List.length_drop, List.length_take]; rfl)) ?_; (with_reducible refine (root_Hyp.calls kj6 a0 0 t205 t206 _ A18.out).mono ?_); rintro e w49 ⟨rfl, hb⟩; refine ⟨_, rfl, ?_⟩; have n0_ := Aside0.mk (blk_below (g := gb202) (o := .cells #[.int .i64 t199, .int .i64 t200] 23 (0, 0)) (by (with_reducible repeat (first | refine blk_drewN ?_ _ | refine blk_drew ?_ | refine blk_alloc ?_ _)); exact BK202.out) hb); have n1_ := Aside0.mk (below_step (by repeat (first | (with_reducible first | exact HB.out | apply below_alloc | apply pw_below_drewN | apply below_drew1 | refine below_set ?_ GE202.out) | exact HB.out)) hb); clear BK202; clear HB; have BK202 := n0_; have HB := n1_; clear n0_ n1_; (try clear hb); (try clear hb2); (try clear hk); (try clear hi)) | ((with_reducible refine gate_callee (f := 22) rfl ?_); refine goesL_ (some 57) rfl rfl Try.func22 (by kernel_rfl) rfl #[.int .i64 a0] rfl (by (try simp only [List.map_toArray, List.map_cons, List.map_nil]); first | done | rfl | (simp only [List.length_drop, List.length_take]; rfl)) ?_; (with_reducible refine (fix_Clamp.calls a0 t207 t208 _ A19.out).mono ?_); rintro e w50 ⟨rfl, hb⟩; refine ⟨_, rfl, ?_⟩; have n0_ := Aside0.mk (blk_below (g := gb202) (o := .cells #[.int .i64 t199, .int .i64 t200] 23 (0, 0)) (by (with_reducible repeat (first | refine blk_drewN ?_ _ | refine blk_drew ?_ | refine blk_alloc ?_ _)); exact BK202.out) hb); have n1_ := Aside0.mk (below_step (by repeat (first | (with_reducible first | exact HB.out | apply below_alloc | apply pw_below_drewN | apply below_drew1 | refine below_set ?_ GE202.out) | exact HB.out)) hb); clear BK202; clear HB; have BK202 := n0_; have HB := n1_; clear n0_ n1_; (try clear hb); (try clear hb2); (try clear hk); (try clear hi)))
                    go_ret
                    exact ⟨by first | rfl | (simp [errW_none, errW_some] <;> rfl) | (simp [*, errW_none, errW_some] <;> rfl), by repeat (first | (with_reducible first | exact HB.out | apply below_alloc | apply pw_below_drewN | apply below_drew1 | refine below_set ?_ GE202.out) | exact HB.out)⟩
                  · rw [if_neg c42] at H
                    have c42b0 : (t205 == t190) = false := beq_eq_false_iff_ne.mpr c42
                    have c42b1 : (t205 != t190) = true := bne_iff_ne.mpr c42
                    exact absurd ((Option.some.inj H).trans hr.out) (by decide)
              · rw [if_neg c32] at H
                have c32b0 : (t203 == t190) = false := beq_eq_false_iff_ne.mpr c32
                have c32b1 : (t203 != t190) = true := bne_iff_ne.mpr c32
                exact absurd ((Option.some.inj H).trans hr.out) (by decide)
            · replace c31 := Bool.eq_false_iff.mpr c31
              subst c31
              have H1 : (some false) = some r := by rw [if_neg (show ¬ (false = true) by decide)] at H; exact H
              clear H
              have H := H1
              clear H1
              exact absurd ((Option.some.inj H).trans hr.out) (by decide)
        · rw [if_neg c21] at H
          have c21b0 : (t193 == t190) = false := beq_eq_false_iff_ne.mpr c21
          have c21b1 : (t193 != t190) = true := bne_iff_ne.mpr c21
          exact absurd ((Option.some.inj H).trans hr.out) (by decide)
      · replace c20 := Bool.eq_false_iff.mpr c20
        subst c20
        have H1 : (some false) = some r := by rw [if_neg (show ¬ (false = true) by decide)] at H; exact H
        clear H
        have H := H1
        clear H1
        exact absurd ((Option.some.inj H).trans hr.out) (by decide)

/-- THE ONE PURE STATEMENT of outriggerlaw04_RootBack: yours. -/
def outriggerlaw04_RootBack.Pure : Prop := ∀ (a0 : Int) (a1 : Int), (Lit.int .i64 a0).wf = true → (Lit.int .i64 a1).wf = true → ∃ k, outriggerlaw04_RootBack.f k a0 a1 = some true
theorem outriggerlaw04_RootBack.walk (P : outriggerlaw04_RootBack.Pure) (a0 : Int) (a1 : Int) (w : World) (w0 : (Lit.int .i64 a0).wf = true) (w1 : (Lit.int .i64 a1).wf = true) :
    Calls Try.prog 5 #[.int .i64 a0, .int .i64 a1] w fun e w' => e = .returned (.bool true) ∧ Below w.heap.size w w' := by
  obtain ⟨k, h⟩ := P a0 a1 w0 w1
  refine (outriggerlaw04_RootBack.calls k a0 a1 true w h ⟨rfl⟩).mono ?_
  rintro e w' ⟨rfl, hd⟩
  exact ⟨rfl, hd⟩


end Go.Proofs.Ythfcodicpcengaa.B
