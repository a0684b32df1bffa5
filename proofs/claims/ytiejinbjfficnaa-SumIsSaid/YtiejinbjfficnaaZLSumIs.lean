/- Lemmas that the row leans on; laid by a program of this project out of longer texts: what the row does not name is left out. -/
import Derived.Test.YtiejinbjfficnaaZB0
import Derived.Test.YtiejinbjfficnaaZB3
import Derived.Test.YtiejinbjfficnaaZB6
import Derived.Test.YtiejinbjfficnaaZB7
import Derived.Test.YtiejinbjfficnaaZB10
import Derived.Test.YtiejinbjfficnaaZB12
import Derived.Test.YtiejinbjfficnaaZB14
namespace Go.Proofs.Ytiejinbjfficnaa.B
open Go.RowKit Go.Proofs.YtiejinbjfficnaaW.PrintWords Go.Proofs.YtiejinbjfficnaaW.PrintLast Go.Proofs.YtiejinbjfficnaaW.PrintMore
attribute [local go_sem] max2_int min2_int max_two min_two max_three min_three max_four min_four
set_option linter.unusedVariables false
set_option linter.unusedSimpArgs false
def outriggerlaw06_SumIs.j0 : Nat → List Int → List Int → Bool → Bool → Option (Bool)
  | 0, _, _, _, _ => none
  | k + 1, x0, x1, x5, x30 => if x30 = true then (some x5) else ((sum_Total.f k x0).bind fun bt418 => ((outriggerref06_Total.f k x0).bind fun bt420 => ((sum_Mean.f k x0).bind fun bt422 => ((outriggerref06_Mean.f k x0).bind fun bt424 => ((sum_Dot.f k x0 x1).bind fun bt426 => ((outriggerref06_Dot.f k x0 x1).bind fun bt428 => ((sum_Norm.f k x0).bind fun bt430 => ((outriggerref06_Norm.f k x0).bind fun bt432 => (if x5 = true then (if bt418.1 = bt420.1 then (if (bt418.2 == bt420.2) = true then (if bt422.1 = bt424.1 then (if (bt422.2 == bt424.2) = true then (if bt426.1 = bt428.1 then (if (bt426.2 == bt428.2) = true then (if bt430.1 = bt432.1 then (some (bt430.2 == bt432.2)) else (some false)) else (some false)) else (some false)) else (some false)) else (some false)) else (some false)) else (some false)) else (some false))))))))))
def outriggerlaw06_SumIs.f (k : Nat) (l0 : List Int) (l1 : List Int) : Option (Bool) := (outriggerlaw06_awake.f k).bind fun t417 => (if (l0.length : Int) > 100 then (outriggerlaw06_SumIs.j0 k l0 l1 t417 true) else (outriggerlaw06_SumIs.j0 k l0 l1 t417 (decide ((l1.length : Int) > 100))))
set_option maxHeartbeats 8000000 in
set_option maxRecDepth 100000 in
theorem outriggerlaw06_SumIs.calls (k : Nat) (A0 : Option Addr) (c0 : Nat) (l0 : List Int) (A1 : Option Addr) (c1 : Nat) (l1 : List Int) (r : Bool) (w : World) (hr0 : Kd.C (Kd.int .i64) w A0 l0.length l0) (hc0 : l0.length ≤ c0) (hr1 : Kd.C (Kd.int .i64) w A1 l1.length l1) (hc1 : l1.length ≤ c1) (h : outriggerlaw06_SumIs.f k l0 l1 = some r) (hr : Aside0 (r = true)) :
  Calls Try.prog 3 #[.slice A0 l0.length c0, .slice A1 l1.length c1] w fun e w' => e = .returned (.bool r) ∧ Below w.heap.size w w' := by
 have HR0 := Aside0.mk hr0
 have HC0 := Aside0.mk hc0
 clear hr0 hc0
 have HR1 := Aside0.mk hr1
 have HC1 := Aside0.mk hc1
 clear hr1 hc1
 have HB := Aside0.mk (Below.refl w.heap.size w)
 have H : ((outriggerlaw06_awake.f k).bind fun t417 => (if (l0.length : Int) > 100 then (outriggerlaw06_SumIs.j0 k l0 l1 t417 true) else (outriggerlaw06_SumIs.j0 k l0 l1 t417 (decide ((l1.length : Int) > 100))))) = some r := h
 clear h
 replace H := Option.bind_eq_some_iff.mp H
 obtain ⟨t417, A30, H⟩ := H
 replace H : (if (l0.length : Int) > 100 then (outriggerlaw06_SumIs.j0 k l0 l1 t417 true) else (outriggerlaw06_SumIs.j0 k l0 l1 t417 (decide ((l1.length : Int) > 100)))) = some r := H
 have A3 := Aside0.mk A30
 clear A30
 have HC4 := Aside0.mk H
 clear H
 go_enter Try.func3, Try.ntmps3
 go_upto_region 2 with (first | ((with_reducible refine gate_callee (f := 8) rfl ?_); refine goesL_ (some 22) rfl rfl Try.func8 (by kernel_rfl) rfl #[] rfl (by (try simp only [List.map_toArray, List.map_cons, List.map_nil]); first | done | rfl | (simp only [List.length_drop, List.length_take]; rfl)) ?_; (with_reducible refine (outriggerlaw06_awake.calls k  t417 _ A3.out).mono ?_); rintro e w5 ⟨rfl, hb⟩; refine ⟨_, rfl, ?_⟩; have n0_ := Aside0.mk (below_step (by repeat (first | (with_reducible first | exact HB.out | apply below_alloc | apply pw_below_drewN | apply below_drew1) | exact HB.out)) hb); clear HB; have HB := n0_; clear n0_; (try clear hb); (try clear hb2); (try clear hk); (try clear hi)))
 (try simp only [Act.put, List.setIfInBounds_toArray, List.set_cons_zero, List.set_cons_succ])
 go_cut [30] (fun v30 wc => ∃ (kq : Nat) (x30_3 : Bool), v30 = .bool x30_3 ∧ Aside0 (outriggerlaw06_SumIs.j0 kq l0 l1 t417 x30_3 = some r) ∧ Aside0 (kq ≤ k) ∧ Aside0 (Below w.heap.size w wc))
 case first =>
  have H := HC4.out
  clear HC4
  by_cases c6 : (l0.length : Int) > 100
  ·rw [if_pos c6] at H
   have c6b0 : decide (100 < (l0.length : Int)) = true := decide_eq_true c6
   have c6b1 : decide (100 < l0.length) = true := decide_eq_true (by omega)
   clear c6
   (first | rw [c6b0] | (simp only [i64_w, i32_w]; rw [c6b0]) | skip)
   have H' := Aside0.mk H
   clear H
   go_wp2
   go_meet
   case rel => exact ⟨_, (true), (by first | rfl | (simp; done) | (simp [*]; done)), H', ⟨by first | omega | exact Nat.le_refl _⟩, ⟨by repeat (first | (with_reducible first | exact HB.out | apply below_alloc | apply pw_below_drewN | apply below_drew1) | exact HB.out)⟩⟩
  ·rw [if_neg c6] at H
   have c6b0 : decide (100 < (l0.length : Int)) = false := decide_eq_false c6
   have c6b1 : decide (100 < l0.length) = false := decide_eq_false (by omega)
   clear c6
   (first | rw [c6b0] | (simp only [i64_w, i32_w]; rw [c6b0]) | skip)
   have H' := Aside0.mk H
   clear H
   go_wp2
   go_meet
   case rel => exact ⟨_, (decide ((l1.length : Int) > 100)), (by first | rfl | (simp; done) | (simp [*]; done)), H', ⟨by first | omega | exact Nat.le_refl _⟩, ⟨by repeat (first | (with_reducible first | exact HB.out | apply below_alloc | apply pw_below_drewN | apply below_drew1) | exact HB.out)⟩⟩
 case rest =>
  clear HC4
  try clear c1
  try clear p2
  try clear c3
  try clear c6
  try clear c6b0
  try clear c6b1
  obtain ⟨kq, x30_3, rfl, HA, HJ3, HB⟩ := hcut
  cases kq with
  | zero => exact absurd HA.out (by simp [outriggerlaw06_SumIs.j0])
  | succ kj3 =>
   have H := HA.out
   clear HA
   simp only [outriggerlaw06_SumIs.j0] at H
   by_cases c7 : x30_3 = true
   ·subst c7
    have H1 : (some t417) = some r := by rw [if_pos rfl] at H; exact H
    clear H
    have H := H1
    clear H1
    clear hr
    obtain rfl := Option.some.inj H
    go_wp2
    go_ret
    exact ⟨by first | rfl | (simp [errW_none, errW_some] <;> rfl) | (simp [*, errW_none, errW_some] <;> rfl), by repeat (first | (with_reducible first | exact HB.out | apply below_alloc | apply pw_below_drewN | apply below_drew1) | exact HB.out)⟩
   ·replace c7 := Bool.eq_false_iff.mpr c7
    subst c7
    have H1 : ((sum_Total.f kj3 l0).bind fun bt418 => ((outriggerref06_Total.f kj3 l0).bind fun bt420 => ((sum_Mean.f kj3 l0).bind fun bt422 => ((outriggerref06_Mean.f kj3 l0).bind fun bt424 => ((sum_Dot.f kj3 l0 l1).bind fun bt426 => ((outriggerref06_Dot.f kj3 l0 l1).bind fun bt428 => ((sum_Norm.f kj3 l0).bind fun bt430 => ((outriggerref06_Norm.f kj3 l0).bind fun bt432 => (if t417 = true then (if bt418.1 = bt420.1 then (if (bt418.2 == bt420.2) = true then (if bt422.1 = bt424.1 then (if (bt422.2 == bt424.2) = true then (if bt426.1 = bt428.1 then (if (bt426.2 == bt428.2) = true then (if bt430.1 = bt432.1 then (some (bt430.2 == bt432.2)) else (some false)) else (some false)) else (some false)) else (some false)) else (some false)) else (some false)) else (some false)) else (some false)))))))))) = some r := by rw [if_neg (show ¬ (false = true) by decide)] at H; exact H
    clear H
    have H := H1
    clear H1
    replace H := Option.bind_eq_some_iff.mp H
    obtain ⟨⟨t418, t419⟩, A80, H⟩ := H
    replace H : ((outriggerref06_Total.f kj3 l0).bind fun bt420 => ((sum_Mean.f kj3 l0).bind fun bt422 => ((outriggerref06_Mean.f kj3 l0).bind fun bt424 => ((sum_Dot.f kj3 l0 l1).bind fun bt426 => ((outriggerref06_Dot.f kj3 l0 l1).bind fun bt428 => ((sum_Norm.f kj3 l0).bind fun bt430 => ((outriggerref06_Norm.f kj3 l0).bind fun bt432 => (if t417 = true then (if t418 = bt420.1 then (if (t419 == bt420.2) = true then (if bt422.1 = bt424.1 then (if (bt422.2 == bt424.2) = true then (if bt426.1 = bt428.1 then (if (bt426.2 == bt428.2) = true then (if bt430.1 = bt432.1 then (some (bt430.2 == bt432.2)) else (some false)) else (some false)) else (some false)) else (some false)) else (some false)) else (some false)) else (some false)) else (some false))))))))) = some r := H
    have A8 := Aside0.mk A80
    clear A80
    replace H := Option.bind_eq_some_iff.mp H
    obtain ⟨⟨t420, t421⟩, A90, H⟩ := H
    replace H : ((sum_Mean.f kj3 l0).bind fun bt422 => ((outriggerref06_Mean.f kj3 l0).bind fun bt424 => ((sum_Dot.f kj3 l0 l1).bind fun bt426 => ((outriggerref06_Dot.f kj3 l0 l1).bind fun bt428 => ((sum_Norm.f kj3 l0).bind fun bt430 => ((outriggerref06_Norm.f kj3 l0).bind fun bt432 => (if t417 = true then (if t418 = t420 then (if (t419 == t421) = true then (if bt422.1 = bt424.1 then (if (bt422.2 == bt424.2) = true then (if bt426.1 = bt428.1 then (if (bt426.2 == bt428.2) = true then (if bt430.1 = bt432.1 then (some (bt430.2 == bt432.2)) else (some false)) else (some false)) else (some false)) else (some false)) else (some false)) else (some false)) else (some false)) else (some false)))))))) = some r := H
    have A9 := Aside0.mk A90
    clear A90
    replace H := Option.bind_eq_some_iff.mp H
    obtain ⟨⟨t422, t423⟩, A100, H⟩ := H
    replace H : ((outriggerref06_Mean.f kj3 l0).bind fun bt424 => ((sum_Dot.f kj3 l0 l1).bind fun bt426 => ((outriggerref06_Dot.f kj3 l0 l1).bind fun bt428 => ((sum_Norm.f kj3 l0).bind fun bt430 => ((outriggerref06_Norm.f kj3 l0).bind fun bt432 => (if t417 = true then (if t418 = t420 then (if (t419 == t421) = true then (if t422 = bt424.1 then (if (t423 == bt424.2) = true then (if bt426.1 = bt428.1 then (if (bt426.2 == bt428.2) = true then (if bt430.1 = bt432.1 then (some (bt430.2 == bt432.2)) else (some false)) else (some false)) else (some false)) else (some false)) else (some false)) else (some false)) else (some false)) else (some false))))))) = some r := H
    have A10 := Aside0.mk A100
    clear A100
    replace H := Option.bind_eq_some_iff.mp H
    obtain ⟨⟨t424, t425⟩, A110, H⟩ := H
    replace H : ((sum_Dot.f kj3 l0 l1).bind fun bt426 => ((outriggerref06_Dot.f kj3 l0 l1).bind fun bt428 => ((sum_Norm.f kj3 l0).bind fun bt430 => ((outriggerref06_Norm.f kj3 l0).bind fun bt432 => (if t417 = true then (if t418 = t420 then (if (t419 == t421) = true then (if t422 = t424 then (if (t423 == t425) = true then (if bt426.1 = bt428.1 then (if (bt426.2 == bt428.2) = true then (if bt430.1 = bt432.1 then (some (bt430.2 == bt432.2)) else (some false)) else (some false)) else (some false)) else (some false)) else (some false)) else (some false)) else (some false)) else (some false)))))) = some r := H
    have A11 := Aside0.mk A110
    clear A110
    replace H := Option.bind_eq_some_iff.mp H
    obtain ⟨⟨t426, t427⟩, A120, H⟩ := H
    replace H : ((outriggerref06_Dot.f kj3 l0 l1).bind fun bt428 => ((sum_Norm.f kj3 l0).bind fun bt430 => ((outriggerref06_Norm.f kj3 l0).bind fun bt432 => (if t417 = true then (if t418 = t420 then (if (t419 == t421) = true then (if t422 = t424 then (if (t423 == t425) = true then (if t426 = bt428.1 then (if (t427 == bt428.2) = true then (if bt430.1 = bt432.1 then (some (bt430.2 == bt432.2)) else (some false)) else (some false)) else (some false)) else (some false)) else (some false)) else (some false)) else (some false)) else (some false))))) = some r := H
    have A12 := Aside0.mk A120
    clear A120
    replace H := Option.bind_eq_some_iff.mp H
    obtain ⟨⟨t428, t429⟩, A130, H⟩ := H
    replace H : ((sum_Norm.f kj3 l0).bind fun bt430 => ((outriggerref06_Norm.f kj3 l0).bind fun bt432 => (if t417 = true then (if t418 = t420 then (if (t419 == t421) = true then (if t422 = t424 then (if (t423 == t425) = true then (if t426 = t428 then (if (t427 == t429) = true then (if bt430.1 = bt432.1 then (some (bt430.2 == bt432.2)) else (some false)) else (some false)) else (some false)) else (some false)) else (some false)) else (some false)) else (some false)) else (some false)))) = some r := H
    have A13 := Aside0.mk A130
    clear A130
    replace H := Option.bind_eq_some_iff.mp H
    obtain ⟨⟨t430, t431⟩, A140, H⟩ := H
    replace H : ((outriggerref06_Norm.f kj3 l0).bind fun bt432 => (if t417 = true then (if t418 = t420 then (if (t419 == t421) = true then (if t422 = t424 then (if (t423 == t425) = true then (if t426 = t428 then (if (t427 == t429) = true then (if t430 = bt432.1 then (some (t431 == bt432.2)) else (some false)) else (some false)) else (some false)) else (some false)) else (some false)) else (some false)) else (some false)) else (some false))) = some r := H
    have A14 := Aside0.mk A140
    clear A140
    replace H := Option.bind_eq_some_iff.mp H
    obtain ⟨⟨t432, t433⟩, A150, H⟩ := H
    replace H : (if t417 = true then (if t418 = t420 then (if (t419 == t421) = true then (if t422 = t424 then (if (t423 == t425) = true then (if t426 = t428 then (if (t427 == t429) = true then (if t430 = t432 then (some (t431 == t433)) else (some false)) else (some false)) else (some false)) else (some false)) else (some false)) else (some false)) else (some false)) else (some false)) = some r := H
    have A15 := Aside0.mk A150
    clear A150
    by_cases c16 : t417 = true
    ·subst c16
     have H1 : (if t418 = t420 then (if (t419 == t421) = true then (if t422 = t424 then (if (t423 == t425) = true then (if t426 = t428 then (if (t427 == t429) = true then (if t430 = t432 then (some (t431 == t433)) else (some false)) else (some false)) else (some false)) else (some false)) else (some false)) else (some false)) else (some false)) = some r := by rw [if_pos rfl] at H; exact H
     clear H
     have H := H1
     clear H1
     by_cases c17 : t418 = t420
     ·rw [if_pos c17] at H
      have c17b0 : (t418 == t420) = true := beq_iff_eq.mpr c17
      have c17b1 : (t418 != t420) = false := bne_eq_false_iff_eq.mpr c17
      clear c17
      by_cases c18 : (t419 == t421) = true
      ·rw [if_pos c18] at H
       have c18b0 : (t419 == t421) = true := c18
       (try (have c18b1 : decide (t419 = t421) = true := by simpa using c18))
       (try (have c18b2 : (t419 == t421) = true := by simpa using c18))
       clear c18
       by_cases c19 : t422 = t424
       ·rw [if_pos c19] at H
        have c19b0 : (t422 == t424) = true := beq_iff_eq.mpr c19
        have c19b1 : (t422 != t424) = false := bne_eq_false_iff_eq.mpr c19
        clear c19
        by_cases c20 : (t423 == t425) = true
        ·rw [if_pos c20] at H
         have c20b0 : (t423 == t425) = true := c20
         (try (have c20b1 : decide (t423 = t425) = true := by simpa using c20))
         (try (have c20b2 : (t423 == t425) = true := by simpa using c20))
         clear c20
         by_cases c21 : t426 = t428
         ·rw [if_pos c21] at H
          have c21b0 : (t426 == t428) = true := beq_iff_eq.mpr c21
          have c21b1 : (t426 != t428) = false := bne_eq_false_iff_eq.mpr c21
          clear c21
          by_cases c22 : (t427 == t429) = true
          ·rw [if_pos c22] at H
           have c22b0 : (t427 == t429) = true := c22
           (try (have c22b1 : decide (t427 = t429) = true := by simpa using c22))
           (try (have c22b2 : (t427 == t429) = true := by simpa using c22))
           clear c22
           by_cases c23 : t430 = t432
           ·rw [if_pos c23] at H
            have c23b0 : (t430 == t432) = true := beq_iff_eq.mpr c23
            have c23b1 : (t430 != t432) = false := bne_eq_false_iff_eq.mpr c23
            clear c23
            clear hr
            obtain rfl := Option.some.inj H
            go_wp2_with (first | ((with_reducible refine gate_callee (f := 9) rfl ?_); refine goesL_ (some 34) rfl rfl Try.func9 (by kernel_rfl) rfl #[.slice A0 l0.length c0] rfl (by (try simp only [List.map_toArray, List.map_cons, List.map_nil]); first | done | rfl | (simp only [List.length_drop, List.length_take]; rfl)) ?_; (with_reducible refine (sum_Total.calls kj3 _ _ l0 t418 t419 _ ?side1 ?side2 A8.out).mono ?_); (case side1 => repeat (first | exact (Kd.C_below HR0.out HB.out) | (with_reducible refine Kd.C_alloc ?_ _) | (with_reducible refine Kd.C_drewN ?_ _) | (with_reducible refine Kd.C_drew ?_))); (case side2 => exact HC0.out); rintro e w24 ⟨rfl, hb⟩; refine ⟨_, rfl, ?_⟩; have n0_ := Aside0.mk (below_step (by repeat (first | (with_reducible first | exact HB.out | apply below_alloc | apply pw_below_drewN | apply below_drew1) | exact HB.out)) hb); clear HB; have HB := n0_; clear n0_; (try clear hb); (try clear hb2); (try clear hk); (try clear hi)) | ((with_reducible refine gate_callee (f := 10) rfl ?_); refine goesL_ (some 39) rfl rfl Try.func10 (by kernel_rfl) rfl #[.slice A0 l0.length c0] rfl (by (try simp only [List.map_toArray, List.map_cons, List.map_nil]); first | done | rfl | (simp only [List.length_drop, List.length_take]; rfl)) ?_; (with_reducible refine (outriggerref06_Total.calls kj3 _ _ l0 t420 t421 _ ?side1 ?side2 A9.out).mono ?_); (case side1 => repeat (first | exact (Kd.C_below HR0.out HB.out) | (with_reducible refine Kd.C_alloc ?_ _) | (with_reducible refine Kd.C_drewN ?_ _) | (with_reducible refine Kd.C_drew ?_))); (case side2 => exact HC0.out); rintro e w25 ⟨rfl, hb⟩; refine ⟨_, rfl, ?_⟩; have n0_ := Aside0.mk (below_step (by repeat (first | (with_reducible first | exact HB.out | apply below_alloc | apply pw_below_drewN | apply below_drew1) | exact HB.out)) hb); clear HB; have HB := n0_; clear n0_; (try clear hb); (try clear hb2); (try clear hk); (try clear hi)) | ((with_reducible refine gate_callee (f := 11) rfl ?_); refine goesL_ (some 44) rfl rfl Try.func11 (by kernel_rfl) rfl #[.slice A0 l0.length c0] rfl (by (try simp only [List.map_toArray, List.map_cons, List.map_nil]); first | done | rfl | (simp only [List.length_drop, List.length_take]; rfl)) ?_; (with_reducible refine (sum_Mean.calls kj3 _ _ l0 t422 t423 _ ?side1 ?side2 A10.out).mono ?_); (case side1 => repeat (first | exact (Kd.C_below HR0.out HB.out) | (with_reducible refine Kd.C_alloc ?_ _) | (with_reducible refine Kd.C_drewN ?_ _) | (with_reducible refine Kd.C_drew ?_))); (case side2 => exact HC0.out); rintro e w26 ⟨rfl, hb⟩; refine ⟨_, rfl, ?_⟩; have n0_ := Aside0.mk (below_step (by repeat (first | (with_reducible first | exact HB.out | apply below_alloc | apply pw_below_drewN | apply below_drew1) | exact HB.out)) hb); clear HB; have HB := n0_; clear n0_; (try clear hb); (try clear hb2); (try clear hk); (try clear hi)) | ((with_reducible refine gate_callee (f := 12) rfl ?_); refine goesL_ (some 49) rfl rfl Try.func12 (by kernel_rfl) rfl #[.slice A0 l0.length c0] rfl (by (try simp only [List.map_toArray, List.map_cons, List.map_nil]); first | done | rfl | (simp only [List.length_drop, List.length_take]; rfl)) ?_; (with_reducible refine (outriggerref06_Mean.calls kj3 _ _ l0 t424 t425 _ ?side1 ?side2 A11.out).mono ?_); (case side1 => repeat (first | exact (Kd.C_below HR0.out HB.out) | (with_reducible refine Kd.C_alloc ?_ _) | (with_reducible refine Kd.C_drewN ?_ _) | (with_reducible refine Kd.C_drew ?_))); (case side2 => exact HC0.out); rintro e w27 ⟨rfl, hb⟩; refine ⟨_, rfl, ?_⟩; have n0_ := Aside0.mk (below_step (by repeat (first | (with_reducible first | exact HB.out | apply below_alloc | apply pw_below_drewN | apply below_drew1) | exact HB.out)) hb); clear HB; have HB := n0_; clear n0_; (try clear hb); (try clear hb2); (try clear hk); (try clear hi)) | ((with_reducible refine gate_callee (f := 13) rfl ?_); refine goesL_ (some 55) rfl rfl Try.func13 (by kernel_rfl) rfl #[.slice A0 l0.length c0, .slice A1 l1.length c1] rfl (by (try simp only [List.map_toArray, List.map_cons, List.map_nil]); first | done | rfl | (simp only [List.length_drop, List.length_take]; rfl)) ?_; (with_reducible refine (sum_Dot.calls kj3 _ _ l0 _ _ l1 t426 t427 _ ?side1 ?side2 ?side3 ?side4 A12.out).mono ?_); (case side1 => repeat (first | exact (Kd.C_below HR0.out HB.out) | (with_reducible refine Kd.C_alloc ?_ _) | (with_reducible refine Kd.C_drewN ?_ _) | (with_reducible refine Kd.C_drew ?_))); (case side2 => exact HC0.out); (case side3 => repeat (first | exact (Kd.C_below HR1.out HB.out) | (with_reducible refine Kd.C_alloc ?_ _) | (with_reducible refine Kd.C_drewN ?_ _) | (with_reducible refine Kd.C_drew ?_))); (case side4 => exact HC1.out); rintro e w28 ⟨rfl, hb⟩; refine ⟨_, rfl, ?_⟩; have n0_ := Aside0.mk (below_step (by repeat (first | (with_reducible first | exact HB.out | apply below_alloc | apply pw_below_drewN | apply below_drew1) | exact HB.out)) hb); clear HB; have HB := n0_; clear n0_; (try clear hb); (try clear hb2); (try clear hk); (try clear hi)) | ((with_reducible refine gate_callee (f := 14) rfl ?_); refine goesL_ (some 61) rfl rfl Try.func14 (by kernel_rfl) rfl #[.slice A0 l0.length c0, .slice A1 l1.length c1] rfl (by (try simp only [List.map_toArray, List.map_cons, List.map_nil]); first | done | rfl | (simp only [List.length_drop, List.length_take]; rfl)) ?_; (with_reducible refine (outriggerref06_Dot.calls kj3 _ _ l0 _ _ l1 t428 t429 _ ?side1 ?side2 ?side3 ?side4 A13.out).mono ?_); (case side1 => repeat (first | exact (Kd.C_below HR0.out HB.out) | (with_reducible refine Kd.C_alloc ?_ _) | (with_reducible refine Kd.C_drewN ?_ _) | (with_reducible refine Kd.C_drew ?_))); (case side2 => exact HC0.out); (case side3 => repeat (first | exact (Kd.C_below HR1.out HB.out) | (with_reducible refine Kd.C_alloc ?_ _) | (with_reducible refine Kd.C_drewN ?_ _) | (with_reducible refine Kd.C_drew ?_))); (case side4 => exact HC1.out); rintro e w29 ⟨rfl, hb⟩; refine ⟨_, rfl, ?_⟩; have n0_ := Aside0.mk (below_step (by repeat (first | (with_reducible first | exact HB.out | apply below_alloc | apply pw_below_drewN | apply below_drew1) | exact HB.out)) hb); clear HB; have HB := n0_; clear n0_; (try clear hb); (try clear hb2); (try clear hk); (try clear hi)) | ((with_reducible refine gate_callee (f := 15) rfl ?_); refine goesL_ (some 66) rfl rfl Try.func15 (by kernel_rfl) rfl #[.slice A0 l0.length c0] rfl (by (try simp only [List.map_toArray, List.map_cons, List.map_nil]); first | done | rfl | (simp only [List.length_drop, List.length_take]; rfl)) ?_; (with_reducible refine (sum_Norm.calls kj3 _ _ l0 t430 t431 _ ?side1 ?side2 A14.out).mono ?_); (case side1 => repeat (first | exact (Kd.C_below HR0.out HB.out) | (with_reducible refine Kd.C_alloc ?_ _) | (with_reducible refine Kd.C_drewN ?_ _) | (with_reducible refine Kd.C_drew ?_))); (case side2 => exact HC0.out); rintro e w30 ⟨rfl, hb⟩; refine ⟨_, rfl, ?_⟩; have n0_ := Aside0.mk (below_step (by repeat (first | (with_reducible first | exact HB.out | apply below_alloc | apply pw_below_drewN | apply below_drew1) | exact HB.out)) hb); clear HB; have HB := n0_; clear n0_; (try clear hb); (try clear hb2); (try clear hk); (try clear hi)) | ((with_reducible refine gate_callee (f := 16) rfl ?_); refine goesL_ (some 71) rfl rfl Try.func16 (by kernel_rfl) rfl #[.slice A0 l0.length c0] rfl (by (try simp only [List.map_toArray, List.map_cons, List.map_nil]); first | done | rfl | (simp only [List.length_drop, List.length_take]; rfl)) ?_; (with_reducible refine (outriggerref06_Norm.calls kj3 _ _ l0 t432 t433 _ ?side1 ?side2 A15.out).mono ?_); (case side1 => repeat (first | exact (Kd.C_below HR0.out HB.out) | (with_reducible refine Kd.C_alloc ?_ _) | (with_reducible refine Kd.C_drewN ?_ _) | (with_reducible refine Kd.C_drew ?_))); (case side2 => exact HC0.out); rintro e w31 ⟨rfl, hb⟩; refine ⟨_, rfl, ?_⟩; have n0_ := Aside0.mk (below_step (by repeat (first | (with_reducible first | exact HB.out | apply below_alloc | apply pw_below_drewN | apply below_drew1) | exact HB.out)) hb); clear HB; have HB := n0_; clear n0_; (try clear hb); (try clear hb2); (try clear hk); (try clear hi)))
            go_ret
            exact ⟨by first | rfl | (simp [errW_none, errW_some] <;> rfl) | (simp [*, errW_none, errW_some] <;> rfl), by repeat (first | (with_reducible first | exact HB.out | apply below_alloc | apply pw_below_drewN | apply below_drew1) | exact HB.out)⟩
           ·rw [if_neg c23] at H
            have c23b0 : (t430 == t432) = false := beq_eq_false_iff_ne.mpr c23
            have c23b1 : (t430 != t432) = true := bne_iff_ne.mpr c23
            exact absurd ((Option.some.inj H).trans hr.out) (by decide)
          ·rw [if_neg c22] at H
           have c22b0 : (t427 == t429) = false := by simpa using c22
           (try (have c22b1 : decide (t427 = t429) = false := by simpa using c22))
           (try (have c22b2 : (t427 == t429) = false := by simpa using c22))
           (try (have c22b3 : ¬ (t427 = t429) := by simpa using c22))
           clear c22
           exact absurd ((Option.some.inj H).trans hr.out) (by decide)
         ·rw [if_neg c21] at H
          have c21b0 : (t426 == t428) = false := beq_eq_false_iff_ne.mpr c21
          have c21b1 : (t426 != t428) = true := bne_iff_ne.mpr c21
          exact absurd ((Option.some.inj H).trans hr.out) (by decide)
        ·rw [if_neg c20] at H
         have c20b0 : (t423 == t425) = false := by simpa using c20
         (try (have c20b1 : decide (t423 = t425) = false := by simpa using c20))
         (try (have c20b2 : (t423 == t425) = false := by simpa using c20))
         (try (have c20b3 : ¬ (t423 = t425) := by simpa using c20))
         clear c20
         exact absurd ((Option.some.inj H).trans hr.out) (by decide)
       ·rw [if_neg c19] at H
        have c19b0 : (t422 == t424) = false := beq_eq_false_iff_ne.mpr c19
        have c19b1 : (t422 != t424) = true := bne_iff_ne.mpr c19
        exact absurd ((Option.some.inj H).trans hr.out) (by decide)
      ·rw [if_neg c18] at H
       have c18b0 : (t419 == t421) = false := by simpa using c18
       (try (have c18b1 : decide (t419 = t421) = false := by simpa using c18))
       (try (have c18b2 : (t419 == t421) = false := by simpa using c18))
       (try (have c18b3 : ¬ (t419 = t421) := by simpa using c18))
       clear c18
       exact absurd ((Option.some.inj H).trans hr.out) (by decide)
     ·rw [if_neg c17] at H
      have c17b0 : (t418 == t420) = false := beq_eq_false_iff_ne.mpr c17
      have c17b1 : (t418 != t420) = true := bne_iff_ne.mpr c17
      exact absurd ((Option.some.inj H).trans hr.out) (by decide)
    ·replace c16 := Bool.eq_false_iff.mpr c16
     subst c16
     have H1 : (some false) = some r := by rw [if_neg (show ¬ (false = true) by decide)] at H; exact H
     clear H
     have H := H1
     clear H1
     exact absurd ((Option.some.inj H).trans hr.out) (by decide)
end Go.Proofs.Ytiejinbjfficnaa.B
