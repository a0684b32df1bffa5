/- The walk of the law SumParts: where its Lean function tells true, the call returns true and leaves memory below as it was. Laid by a program of this project out of the kit's print of the Go functions. -/
import Derived.Test.YtiejinbjfficnaaB0
import Derived.Test.YtiejinbjfficnaaB2
import Derived.Test.YtiejinbjfficnaaB3
import Derived.Test.YtiejinbjfficnaaB6
import Derived.Test.YtiejinbjfficnaaB7
namespace Go.Proofs.Ytiejinbjfficnaa.B
open Go.RowKit Go.Proofs.YtiejinbjfficnaaW.PrintWords Go.Proofs.YtiejinbjfficnaaW.PrintLast Go.Proofs.YtiejinbjfficnaaW.PrintMore
attribute [local go_sem] max2_int min2_int max_two min_two max_three min_three max_four min_four
set_option linter.unusedVariables false
set_option linter.unusedSimpArgs false

/-! ### outriggerlaw06_SumParts: function 5 -/
def outriggerlaw06_SumParts.l0 : Nat → Bool → List Int → Int → Bool → Bool → Bool → Int → Bool → List Int → Int → Int → Int → Option (Bool)
  | 0, _, _, _, _, _, _, _, _, _, _, _, _ => none
  | k + 1, x5, x6, x8, x9, x11, x13, x14, x15, x16, x17, x18, x19 => if x19 < (x6.length : Int) then (if x16.length < 17592186044416 then (if 0 ≤ x19 then ((fix_Clamp.f (rd x6 x19)).bind fun bt285 => (outriggerlaw06_SumParts.l0 k x5 x6 x8 x9 x11 x13 x14 x15 (x16 ++ [4294967296]) (mn x17 bt285.1) (mx x18 bt285.1) (wrap64 (x19 + 1)))) else (none)) else (none)) else ((sum_Dot.f k x6 x16).bind fun bt287 => ((sum_Mean.f k x6).bind fun bt289 => (if (x6.length : Int) > 0 then (if bt289.1 < x17 then (some false) else (if bt289.1 > x18 then (some false) else (if (x6.length : Int) = 0 then (if bt289.1 = 0 then (if x5 = true then (if x11 = true then (if bt287.1 = x8 then (some (bt287.2 == x9)) else (some false)) else (if x13 = true then (if bt287.1 = x8 then (some (bt287.2 == x9)) else (some false)) else (if x15 = true then (if bt287.1 = x8 then (some (bt287.2 == x9)) else (some false)) else (if x14 = x8 then (if x9 = true then (some false) else (if bt287.1 = x8 then (some (bt287.2 == x9)) else (some false))) else (some false))))) else (some false)) else (some false)) else (if x5 = true then (if x11 = true then (if bt287.1 = x8 then (some (bt287.2 == x9)) else (some false)) else (if x13 = true then (if bt287.1 = x8 then (some (bt287.2 == x9)) else (some false)) else (if x15 = true then (if bt287.1 = x8 then (some (bt287.2 == x9)) else (some false)) else (if x14 = x8 then (if x9 = true then (some false) else (if bt287.1 = x8 then (some (bt287.2 == x9)) else (some false))) else (some false))))) else (some false))))) else (if (x6.length : Int) = 0 then (if bt289.1 = 0 then (if x5 = true then (if x11 = true then (if bt287.1 = x8 then (some (bt287.2 == x9)) else (some false)) else (if x13 = true then (if bt287.1 = x8 then (some (bt287.2 == x9)) else (some false)) else (if x15 = true then (if bt287.1 = x8 then (some (bt287.2 == x9)) else (some false)) else (if x14 = x8 then (if x9 = true then (some false) else (if bt287.1 = x8 then (some (bt287.2 == x9)) else (some false))) else (some false))))) else (some false)) else (some false)) else (if x5 = true then (if x11 = true then (if bt287.1 = x8 then (some (bt287.2 == x9)) else (some false)) else (if x13 = true then (if bt287.1 = x8 then (some (bt287.2 == x9)) else (some false)) else (if x15 = true then (if bt287.1 = x8 then (some (bt287.2 == x9)) else (some false)) else (if x14 = x8 then (if x9 = true then (some false) else (if bt287.1 = x8 then (some (bt287.2 == x9)) else (some false))) else (some false))))) else (some false))))))
def outriggerlaw06_SumParts.f (k : Nat) (l0 : List Int) (a1 : Int) : Option (Bool) := (outriggerlaw06_awake.f k).bind fun t269 => (if 0 ≤ (mn (l0.length : Int) 64) then (if (mn (l0.length : Int) 64) ≤ (l0.length : Int) then (if (wrap64 (((l0.take ((mn (l0.length : Int) 64) : Int).toNat).length : Int) + 1)) = 0 then (none) else ((sum_Total.f k (l0.take ((mn (l0.length : Int) 64) : Int).toNat)).bind fun bt271 => (if 0 ≤ (Int.tmod (Go.bits .and .i64 a1 65535) (wrap64 (((l0.take ((mn (l0.length : Int) 64) : Int).toNat).length : Int) + 1))) then (if (Int.tmod (Go.bits .and .i64 a1 65535) (wrap64 (((l0.take ((mn (l0.length : Int) 64) : Int).toNat).length : Int) + 1))) ≤ ((l0.take ((mn (l0.length : Int) 64) : Int).toNat).length : Int) then ((sum_Total.f k ((l0.take ((mn (l0.length : Int) 64) : Int).toNat).take ((Int.tmod (Go.bits .and .i64 a1 65535) (wrap64 (((l0.take ((mn (l0.length : Int) 64) : Int).toNat).length : Int) + 1))) : Int).toNat)).bind fun bt274 => ((sum_Total.f k ((l0.take ((mn (l0.length : Int) 64) : Int).toNat).drop ((Int.tmod (Go.bits .and .i64 a1 65535) (wrap64 (((l0.take ((mn (l0.length : Int) 64) : Int).toNat).length : Int) + 1))) : Int).toNat)).bind fun bt277 => ((fix_Add.f bt274.1 bt277.1).bind fun bt279 => (outriggerlaw06_SumParts.l0 k t269 (l0.take ((mn (l0.length : Int) 64) : Int).toNat) bt271.1 bt271.2 bt274.2 bt277.2 bt279.1 bt279.2 ([] : List Int) 288230376151711744 (-288230376151711744) 0)))) else (none)) else (none)))) else (none)) else (none))
theorem outriggerlaw06_SumParts.mono_l : ∀ k, (∀ y0 y1 y2 y3 y4 y5 y6 y7 y8 y9 y10 y11, LeO (outriggerlaw06_SumParts.l0 k y0 y1 y2 y3 y4 y5 y6 y7 y8 y9 y10 y11) (outriggerlaw06_SumParts.l0 (k + 1) y0 y1 y2 y3 y4 y5 y6 y7 y8 y9 y10 y11))
  | 0 => fun _ _ _ _ _ _ _ _ _ _ _ _ r h => by simp [outriggerlaw06_SumParts.l0] at h
  | k + 1 => by
    have ih0 := outriggerlaw06_SumParts.mono_l k
    · intro y0 y1 y2 y3 y4 y5 y6 y7 y8 y9 y10 y11
      unfold outriggerlaw06_SumParts.l0
      repeat' first
      | (with_reducible exact ih0 _ _ _ _ _ _ _ _ _ _ _ _)
      | (with_reducible exact outriggerlaw06_awake.mono _)
      | (with_reducible exact sum_Dot.mono _ _ _)
      | (with_reducible exact sum_Mean.mono _ _)
      | (with_reducible exact sum_Total.mono _ _)
      | (with_reducible exact LeO.refl _)
      | (with_reducible exact LeO.none _)
      | (with_reducible refine LeO.ite ?_ ?_)
      | (with_reducible refine LeO.bind ?_ (fun _ => ?_))
      | exact ih0 _ _ _ _ _ _ _ _ _ _ _ _
      | exact outriggerlaw06_awake.mono _
      | exact sum_Dot.mono _ _ _
      | exact sum_Mean.mono _ _
      | exact sum_Total.mono _ _
      | exact LeO.none _
      | refine LeO.ite ?_ ?_
      | refine LeO.bind ?_ (fun _ => ?_)
theorem outriggerlaw06_SumParts.mono : ∀ a0 a1 k, LeO (outriggerlaw06_SumParts.f k a0 a1) (outriggerlaw06_SumParts.f (k + 1) a0 a1) := by
  intro a0 a1 k
  have ih0 := outriggerlaw06_SumParts.mono_l k
  unfold outriggerlaw06_SumParts.f
  repeat' first
      | (with_reducible exact ih0 _ _ _ _ _ _ _ _ _ _ _ _)
      | (with_reducible exact outriggerlaw06_awake.mono _)
      | (with_reducible exact sum_Dot.mono _ _ _)
      | (with_reducible exact sum_Mean.mono _ _)
      | (with_reducible exact sum_Total.mono _ _)
      | (with_reducible exact LeO.refl _)
      | (with_reducible exact LeO.none _)
      | (with_reducible refine LeO.ite ?_ ?_)
      | (with_reducible refine LeO.bind ?_ (fun _ => ?_))
      | exact ih0 _ _ _ _ _ _ _ _ _ _ _ _
      | exact outriggerlaw06_awake.mono _
      | exact sum_Dot.mono _ _ _
      | exact sum_Mean.mono _ _
      | exact sum_Total.mono _ _
      | exact LeO.none _
      | refine LeO.ite ?_ ?_
      | refine LeO.bind ?_ (fun _ => ?_)
set_option maxHeartbeats 8000000 in
set_option maxRecDepth 100000 in
theorem outriggerlaw06_SumParts.calls (k : Nat) (A0 : Option Addr) (c0 : Nat) (l0 : List Int) (a1 : Int) (r : Bool) (w : World) (hr0 : Kd.C (Kd.int .i64) w A0 l0.length l0) (hc0 : l0.length ≤ c0) (h : outriggerlaw06_SumParts.f k l0 a1 = some r) (hr : Aside0 (r = true)) :
    Calls Try.prog 5 #[.slice A0 l0.length c0, .int .i64 a1] w fun e w' => e = .returned (.bool r) ∧ Below w.heap.size w w' := by
  have HR0 := Aside0.mk hr0
  have HC0 := Aside0.mk hc0
  clear hr0 hc0
  have HB := Aside0.mk (Below.refl w.heap.size w)
  have H : ((outriggerlaw06_awake.f k).bind fun t269 => (if 0 ≤ (mn (l0.length : Int) 64) then (if (mn (l0.length : Int) 64) ≤ (l0.length : Int) then (if (wrap64 (((l0.take ((mn (l0.length : Int) 64) : Int).toNat).length : Int) + 1)) = 0 then (none) else ((sum_Total.f k (l0.take ((mn (l0.length : Int) 64) : Int).toNat)).bind fun bt271 => (if 0 ≤ (Int.tmod (Go.bits .and .i64 a1 65535) (wrap64 (((l0.take ((mn (l0.length : Int) 64) : Int).toNat).length : Int) + 1))) then (if (Int.tmod (Go.bits .and .i64 a1 65535) (wrap64 (((l0.take ((mn (l0.length : Int) 64) : Int).toNat).length : Int) + 1))) ≤ ((l0.take ((mn (l0.length : Int) 64) : Int).toNat).length : Int) then ((sum_Total.f k ((l0.take ((mn (l0.length : Int) 64) : Int).toNat).take ((Int.tmod (Go.bits .and .i64 a1 65535) (wrap64 (((l0.take ((mn (l0.length : Int) 64) : Int).toNat).length : Int) + 1))) : Int).toNat)).bind fun bt274 => ((sum_Total.f k ((l0.take ((mn (l0.length : Int) 64) : Int).toNat).drop ((Int.tmod (Go.bits .and .i64 a1 65535) (wrap64 (((l0.take ((mn (l0.length : Int) 64) : Int).toNat).length : Int) + 1))) : Int).toNat)).bind fun bt277 => ((fix_Add.f bt274.1 bt277.1).bind fun bt279 => (outriggerlaw06_SumParts.l0 k t269 (l0.take ((mn (l0.length : Int) 64) : Int).toNat) bt271.1 bt271.2 bt274.2 bt277.2 bt279.1 bt279.2 ([] : List Int) 288230376151711744 (-288230376151711744) 0)))) else (none)) else (none)))) else (none)) else (none))) = some r := h
  clear h
  replace H := Option.bind_eq_some_iff.mp H
  obtain ⟨t269, A30, H⟩ := H
  replace H : (if 0 ≤ (mn (l0.length : Int) 64) then (if (mn (l0.length : Int) 64) ≤ (l0.length : Int) then (if (wrap64 (((l0.take ((mn (l0.length : Int) 64) : Int).toNat).length : Int) + 1)) = 0 then (none) else ((sum_Total.f k (l0.take ((mn (l0.length : Int) 64) : Int).toNat)).bind fun bt271 => (if 0 ≤ (Int.tmod (Go.bits .and .i64 a1 65535) (wrap64 (((l0.take ((mn (l0.length : Int) 64) : Int).toNat).length : Int) + 1))) then (if (Int.tmod (Go.bits .and .i64 a1 65535) (wrap64 (((l0.take ((mn (l0.length : Int) 64) : Int).toNat).length : Int) + 1))) ≤ ((l0.take ((mn (l0.length : Int) 64) : Int).toNat).length : Int) then ((sum_Total.f k ((l0.take ((mn (l0.length : Int) 64) : Int).toNat).take ((Int.tmod (Go.bits .and .i64 a1 65535) (wrap64 (((l0.take ((mn (l0.length : Int) 64) : Int).toNat).length : Int) + 1))) : Int).toNat)).bind fun bt274 => ((sum_Total.f k ((l0.take ((mn (l0.length : Int) 64) : Int).toNat).drop ((Int.tmod (Go.bits .and .i64 a1 65535) (wrap64 (((l0.take ((mn (l0.length : Int) 64) : Int).toNat).length : Int) + 1))) : Int).toNat)).bind fun bt277 => ((fix_Add.f bt274.1 bt277.1).bind fun bt279 => (outriggerlaw06_SumParts.l0 k t269 (l0.take ((mn (l0.length : Int) 64) : Int).toNat) bt271.1 bt271.2 bt274.2 bt277.2 bt279.1 bt279.2 ([] : List Int) 288230376151711744 (-288230376151711744) 0)))) else (none)) else (none)))) else (none)) else (none)) = some r := H
  have A3 := Aside0.mk A30
  clear A30
  obtain ⟨ji4, hji4⟩ : ∃ j_ : Int, (mn (l0.length : Int) 64) = j_ := ⟨_, rfl⟩
  replace H : (if 0 ≤ (ji4) then (if (ji4) ≤ (l0.length : Int) then (if (wrap64 (((l0.take ((ji4) : Int).toNat).length : Int) + 1)) = 0 then (none) else ((sum_Total.f k (l0.take ((ji4) : Int).toNat)).bind fun bt271 => (if 0 ≤ (Int.tmod (Go.bits .and .i64 a1 65535) (wrap64 (((l0.take ((ji4) : Int).toNat).length : Int) + 1))) then (if (Int.tmod (Go.bits .and .i64 a1 65535) (wrap64 (((l0.take ((ji4) : Int).toNat).length : Int) + 1))) ≤ ((l0.take ((ji4) : Int).toNat).length : Int) then ((sum_Total.f k ((l0.take ((ji4) : Int).toNat).take ((Int.tmod (Go.bits .and .i64 a1 65535) (wrap64 (((l0.take ((ji4) : Int).toNat).length : Int) + 1))) : Int).toNat)).bind fun bt274 => ((sum_Total.f k ((l0.take ((ji4) : Int).toNat).drop ((Int.tmod (Go.bits .and .i64 a1 65535) (wrap64 (((l0.take ((ji4) : Int).toNat).length : Int) + 1))) : Int).toNat)).bind fun bt277 => ((fix_Add.f bt274.1 bt277.1).bind fun bt279 => (outriggerlaw06_SumParts.l0 k t269 (l0.take ((ji4) : Int).toNat) bt271.1 bt271.2 bt274.2 bt277.2 bt279.1 bt279.2 ([] : List Int) 288230376151711744 (-288230376151711744) 0)))) else (none)) else (none)))) else (none)) else (none)) = some r := by first | (rw [hji4] at H; exact H) | (simp only [hji4] at H ⊢; exact H)
  (try rw [hji4] at A3)
  (try (have hji4h : ji4 ≤ 64 := by (rw [← hji4]; unfold mn; (repeat' split) <;> omega)))
  (try (have hji4g : ji4 ≤ 64 := by omega))
  (try (have hji4l : 0 ≤ ji4 := by (rw [← hji4]; unfold mn; (repeat' split) <;> omega)))
  (try (have hji4m : 0 ≤ ji4 := by omega))
  have hji4_ : (if 64 < (l0.length : Int) then 64 else (l0.length : Int)) = ji4 := hji4
  obtain ⟨m0_4, hm0_4⟩ : ∃ m_ : List Int, (l0.take ((ji4) : Int).toNat) = m_ := ⟨_, rfl⟩
  rw [hm0_4] at H
  by_cases c5 : 0 ≤ (ji4)
  · rw [if_pos c5] at H
    have c5b0 := eq_true c5
    have c5b1 : decide (0 ≤ (ji4)) = true := decide_eq_true c5
    clear c5
    by_cases c6 : (ji4) ≤ (l0.length : Int)
    · rw [if_pos c6] at H
      have c6b0 := eq_true c6
      have c6b1 : decide ((ji4) ≤ (l0.length : Int)) = true := decide_eq_true c6
      clear c6
      by_cases c7 : (wrap64 ((m0_4.length : Int) + 1)) = 0
      · rw [if_pos c7] at H
        exact absurd H (by simp)
      · rw [if_neg c7] at H
        have c7b0 : ((wrap64 ((m0_4.length : Int) + 1)) == 0) = false := beq_eq_false_iff_ne.mpr c7
        have c7b1 : ((wrap64 ((m0_4.length : Int) + 1)) != 0) = true := bne_iff_ne.mpr c7
        replace H := Option.bind_eq_some_iff.mp H
        obtain ⟨⟨t271, t272⟩, A80, H⟩ := H
        replace H : (if 0 ≤ (Int.tmod (Go.bits .and .i64 a1 65535) (wrap64 ((m0_4.length : Int) + 1))) then (if (Int.tmod (Go.bits .and .i64 a1 65535) (wrap64 ((m0_4.length : Int) + 1))) ≤ (m0_4.length : Int) then ((sum_Total.f k (m0_4.take ((Int.tmod (Go.bits .and .i64 a1 65535) (wrap64 ((m0_4.length : Int) + 1))) : Int).toNat)).bind fun bt274 => ((sum_Total.f k (m0_4.drop ((Int.tmod (Go.bits .and .i64 a1 65535) (wrap64 ((m0_4.length : Int) + 1))) : Int).toNat)).bind fun bt277 => ((fix_Add.f bt274.1 bt277.1).bind fun bt279 => (outriggerlaw06_SumParts.l0 k t269 m0_4 t271 t272 bt274.2 bt277.2 bt279.1 bt279.2 ([] : List Int) 288230376151711744 (-288230376151711744) 0)))) else (none)) else (none)) = some r := H
        have A8 := Aside0.mk A80
        clear A80
        obtain ⟨ji9, hji9⟩ : ∃ j_ : Int, (Int.tmod (Go.bits .and .i64 a1 65535) (wrap64 ((m0_4.length : Int) + 1))) = j_ := ⟨_, rfl⟩
        replace H : (if 0 ≤ (ji9) then (if (ji9) ≤ (m0_4.length : Int) then ((sum_Total.f k (m0_4.take ((ji9) : Int).toNat)).bind fun bt274 => ((sum_Total.f k (m0_4.drop ((ji9) : Int).toNat)).bind fun bt277 => ((fix_Add.f bt274.1 bt277.1).bind fun bt279 => (outriggerlaw06_SumParts.l0 k t269 m0_4 t271 t272 bt274.2 bt277.2 bt279.1 bt279.2 ([] : List Int) 288230376151711744 (-288230376151711744) 0)))) else (none)) else (none)) = some r := by first | (rw [hji9] at H; exact H) | (simp only [hji9] at H ⊢; exact H)
        obtain ⟨m0_4_9, hm0_4_9⟩ : ∃ m_ : List Int, (m0_4.take ((ji9) : Int).toNat) = m_ := ⟨_, rfl⟩
        rw [hm0_4_9] at H
        (try rw [hji9] at A3)
        (try rw [hji9] at A8)
        by_cases c10 : 0 ≤ (ji9)
        · rw [if_pos c10] at H
          have c10b0 := eq_true c10
          have c10b1 : decide (0 ≤ (ji9)) = true := decide_eq_true c10
          clear c10
          by_cases c11 : (ji9) ≤ (m0_4.length : Int)
          · rw [if_pos c11] at H
            have c11b0 := eq_true c11
            have c11b1 : decide ((ji9) ≤ (m0_4.length : Int)) = true := decide_eq_true c11
            clear c11
            replace H := Option.bind_eq_some_iff.mp H
            obtain ⟨⟨t274, t275⟩, A120, H⟩ := H
            replace H : ((sum_Total.f k (m0_4.drop ((ji9) : Int).toNat)).bind fun bt277 => ((fix_Add.f t274 bt277.1).bind fun bt279 => (outriggerlaw06_SumParts.l0 k t269 m0_4 t271 t272 t275 bt277.2 bt279.1 bt279.2 ([] : List Int) 288230376151711744 (-288230376151711744) 0))) = some r := H
            have A12 := Aside0.mk A120
            clear A120
            have c13b0 := eq_true (of_decide_eq_true (by first | (with_reducible assumption) | assumption) : 0 ≤ (ji9))
            have c14b0 := eq_true (of_decide_eq_true (by first | (with_reducible assumption) | assumption) : (ji9) ≤ (m0_4.length : Int))
            replace H := Option.bind_eq_some_iff.mp H
            obtain ⟨⟨t277, t278⟩, A150, H⟩ := H
            replace H : ((fix_Add.f t274 t277).bind fun bt279 => (outriggerlaw06_SumParts.l0 k t269 m0_4 t271 t272 t275 t278 bt279.1 bt279.2 ([] : List Int) 288230376151711744 (-288230376151711744) 0)) = some r := H
            have A15 := Aside0.mk A150
            clear A150
            replace H := Option.bind_eq_some_iff.mp H
            obtain ⟨⟨t279, t280⟩, A160, H⟩ := H
            replace H : (outriggerlaw06_SumParts.l0 k t269 m0_4 t271 t272 t275 t278 t279 t280 ([] : List Int) 288230376151711744 (-288230376151711744) 0) = some r := H
            have A16 := Aside0.mk A160
            clear A160
            have H' := Aside0.mk H
            clear H
            go_enter Try.func5, Try.ntmps5
            go_wp2_with (first | ((with_reducible refine gate_callee (f := 8) rfl ?_); refine goesL_ (some 26) rfl rfl Try.func8 (by kernel_rfl) rfl #[] rfl (by (try simp only [List.map_toArray, List.map_cons, List.map_nil]); first | done | rfl | (simp only [List.length_drop, List.length_take]; rfl)) ?_; (with_reducible refine (outriggerlaw06_awake.calls k  t269 _ A3.out).mono ?_); rintro e w17 ⟨rfl, hb⟩; refine ⟨_, rfl, ?_⟩; have n0_ := Aside0.mk (below_step (by repeat (first | (with_reducible first | exact HB.out | apply below_alloc | apply pw_below_drewN | apply below_drew1) | exact HB.out)) hb); clear HB; have HB := n0_; clear n0_; (try clear hb); (try clear hb2); (try clear hk); (try clear hi); obtain ⟨i018, hi018, _, hsz18, _⟩ := info_parts info3; obtain ⟨hcut18, hA18, hC18⟩ := print_take_of (P := Try.prog) (Value.int .i64) 0 22 3 .i64 Try.underlying22 hi018 hsz18 A0 c0 l0 (ji4) (of_decide_eq_true (by first | (with_reducible assumption) | assumption)) (of_decide_eq_true (by first | (with_reducible assumption) | assumption)) HC0.out; rw [hm0_4] at hA18 hC18; simp only [hm0_4] at hcut18; have HR270 := Aside0.mk (Kd.C_of_reads (h1 := fun _ => rfl) (hA18 _ (Kd.reads_of_C HR0.out))); have HC270 := Aside0.mk hC18; clear hA18 hC18 hi018 hsz18) | ((with_reducible refine gate_callee (f := 9) rfl ?_); refine goesL_ (some 40) rfl rfl Try.func9 (by kernel_rfl) rfl #[.slice A0 m0_4.length c0] rfl (by (try simp only [List.map_toArray, List.map_cons, List.map_nil]); first | done | (rw [show m0_4.length = (ji4).toNat from (by rw [List.length_take]; have h_ : ((ji4) : Int) ≤ (l0.length : Int) := of_decide_eq_true (by first | (with_reducible assumption) | assumption); omega)] <;> rfl) | (simp only [hji4]; rfl) | rfl | (simp only [List.length_drop, List.length_take]; rfl)) ?_; (with_reducible refine (sum_Total.calls k _ _ m0_4 t271 t272 _ ?side1 ?side2 A8.out).mono ?_); (case side1 => repeat (first | exact (Kd.C_below HR270.out HB.out) | (with_reducible refine Kd.C_alloc ?_ _) | (with_reducible refine Kd.C_drewN ?_ _) | (with_reducible refine Kd.C_drew ?_))); (case side2 => exact HC270.out); rintro e w19 ⟨rfl, hb⟩; refine ⟨_, rfl, ?_⟩; have n0_ := Aside0.mk (below_step (by repeat (first | (with_reducible first | exact HB.out | apply below_alloc | apply pw_below_drewN | apply below_drew1) | exact HB.out)) hb); clear HB; have HB := n0_; clear n0_; (try clear hb); (try clear hb2); (try clear hk); (try clear hi); obtain ⟨i020, hi020, _, hsz20, _⟩ := info_parts info3; obtain ⟨hcut20, hA20, hC20⟩ := print_take_of (P := Try.prog) (Value.int .i64) 0 22 3 .i64 Try.underlying22 hi020 hsz20 A0 c0 m0_4 (ji9) (of_decide_eq_true (by first | (with_reducible assumption) | assumption)) (of_decide_eq_true (by first | (with_reducible assumption) | assumption)) HC270.out; rw [hm0_4_9] at hA20 hC20; simp only [hm0_4_9] at hcut20; have HR273 := Aside0.mk (Kd.C_of_reads (h1 := fun _ => rfl) (hA20 _ (Kd.reads_of_C HR270.out))); have HC273 := Aside0.mk hC20; clear hA20 hC20 hi020 hsz20) | ((with_reducible refine gate_callee (f := 9) rfl ?_); refine goesL_ (some 47) rfl rfl Try.func9 (by kernel_rfl) rfl #[.slice A0 m0_4_9.length c0] rfl (by (try simp only [List.map_toArray, List.map_cons, List.map_nil]); first | done | (rw [show m0_4_9.length = (ji9).toNat from (by rw [List.length_take]; have h_ : ((ji9) : Int) ≤ (m0_4.length : Int) := of_decide_eq_true (by first | (with_reducible assumption) | assumption); omega)] <;> rfl) | (simp only [hji4, hji9]; rfl) | rfl | (simp only [List.length_drop, List.length_take]; rfl)) ?_; (with_reducible refine (sum_Total.calls k _ _ m0_4_9 t274 t275 _ ?side1 ?side2 A12.out).mono ?_); (case side1 => repeat (first | exact (Kd.C_below HR273.out HB.out) | (with_reducible refine Kd.C_alloc ?_ _) | (with_reducible refine Kd.C_drewN ?_ _) | (with_reducible refine Kd.C_drew ?_))); (case side2 => exact HC273.out); rintro e w21 ⟨rfl, hb⟩; refine ⟨_, rfl, ?_⟩; have n0_ := Aside0.mk (below_step (by repeat (first | (with_reducible first | exact HB.out | apply below_alloc | apply pw_below_drewN | apply below_drew1) | exact HB.out)) hb); clear HB; have HB := n0_; clear n0_; (try clear hb); (try clear hb2); (try clear hk); (try clear hi); obtain ⟨i022, hi022, _, hsz22, _⟩ := info_parts info3; obtain ⟨A22, hcut22, hA22, hC22⟩ := print_drop_of (P := Try.prog) (Value.int .i64) 0 22 3 .i64 Try.underlying22 hi022 hsz22 A0 c0 m0_4 (ji9) (of_decide_eq_true (by first | (with_reducible assumption) | assumption)) (of_decide_eq_true (by first | (with_reducible assumption) | assumption)) HC270.out; have HR276 := Aside0.mk (Kd.C_of_reads (h1 := fun _ => rfl) (hA22 _ (Kd.reads_of_C HR270.out))); have HC276 := Aside0.mk hC22; clear hA22 hC22 hi022 hsz22) | ((with_reducible refine gate_callee (f := 9) rfl ?_); refine goesL_ (some 54) rfl rfl Try.func9 (by kernel_rfl) rfl #[.slice A22 (m0_4.drop ((ji9) : Int).toNat).length (c0 - (ji9).toNat)] rfl (by (try simp only [List.map_toArray, List.map_cons, List.map_nil]); first | done | (rw [show (m0_4.drop ((ji9) : Int).toNat).length = (m0_4.length - (ji9).toNat) from List.length_drop] <;> rfl) | (simp only [hji4, hji9]; rfl) | rfl | (simp only [List.length_drop, List.length_take]; rfl)) ?_; (with_reducible refine (sum_Total.calls k _ _ (m0_4.drop ((ji9) : Int).toNat) t277 t278 _ ?side1 ?side2 A15.out).mono ?_); (case side1 => repeat (first | exact (Kd.C_below HR276.out HB.out) | (with_reducible refine Kd.C_alloc ?_ _) | (with_reducible refine Kd.C_drewN ?_ _) | (with_reducible refine Kd.C_drew ?_))); (case side2 => exact HC276.out); rintro e w23 ⟨rfl, hb⟩; refine ⟨_, rfl, ?_⟩; have n0_ := Aside0.mk (below_step (by repeat (first | (with_reducible first | exact HB.out | apply below_alloc | apply pw_below_drewN | apply below_drew1) | exact HB.out)) hb); clear HB; have HB := n0_; clear n0_; (try clear hb); (try clear hb2); (try clear hk); (try clear hi)) | ((with_reducible refine gate_callee (f := 17) rfl ?_); refine goesL_ (some 60) rfl rfl Try.func17 (by kernel_rfl) rfl #[.int .i64 t274, .int .i64 t277] rfl (by (try simp only [List.map_toArray, List.map_cons, List.map_nil]); first | done | rfl | (simp only [List.length_drop, List.length_take]; rfl)) ?_; (with_reducible refine (fix_Add.calls t274 t277 t279 t280 _ A16.out).mono ?_); rintro e w24 ⟨rfl, hb⟩; refine ⟨_, rfl, ?_⟩; have n0_ := Aside0.mk (below_step (by repeat (first | (with_reducible first | exact HB.out | apply below_alloc | apply pw_below_drewN | apply below_drew1) | exact HB.out)) hb); clear HB; have HB := n0_; clear n0_; (try clear hb); (try clear hb2); (try clear hk); (try clear hi)))
            go_loopg [16, 17, 18, 19] k (fun kq v16 v17 v18 v19 w' => ∃ (x16_1 : List Int) (x17_1 : Int) (x18_1 : Int) (x19_1 : Int), v17 = .int .i64 x17_1 ∧ v18 = .int .i64 x18_1 ∧ v19 = .int .i64 x19_1 ∧ Aside0 (outriggerlaw06_SumParts.l0 kq t269 m0_4 t271 t272 t275 t278 t279 t280 x16_1 x17_1 x18_1 x19_1 = some r) ∧ Aside0 (kq ≤ k) ∧ Aside0 (Kd.R (Kd.int .i64) 3 w' w.heap.size (fun _ => True) v16 x16_1) ∧ Aside0 (Below w.heap.size w w'))
            case atStart => exact ⟨(([] : List Int)), (288230376151711744), ((-288230376151711744)), (0), (by first | rfl | (simp; done) | (simp [*]; done)), (by first | rfl | (simp; done) | (simp [*]; done)), (by first | rfl | (simp; done) | (simp [*]; done)), H', ⟨Nat.le_refl _⟩, ⟨by first | exact Kd.R_nil _ _ _ _ _ | exact Kd.N_nil _ _ _ _ _ | exact Kd.V_nil _ _ _ _ _ | exact Kd.Q_nil _ _ _ _ _ | exact Kd.S_nil _ _ _ _ _⟩, ⟨by repeat (first | (with_reducible first | exact HB.out | apply below_alloc | apply pw_below_drewN | apply below_drew1) | exact HB.out)⟩⟩
            case round =>
              clear H'
              try clear c1
              try clear p2
              try clear c5
              try clear c5b0
              try clear c5b1
              try clear c6
              try clear c6b0
              try clear c6b1
              try clear p6
              try clear c7
              try clear c7b0
              try clear c7b1
              try clear c8
              try clear c9
              try clear c10
              try clear c10b0
              try clear c10b1
              try clear c11
              try clear c11b0
              try clear c11b1
              try clear c13
              try clear c13b0
              try clear c14
              try clear c14b0
              try clear c17
              obtain ⟨x16_1, x17_1, x18_1, x19_1, rfl, rfl, rfl, HA, HK1, HO_16, HB⟩ := hrel
              cases gk with
              | zero => exact absurd HA.out (by simp [outriggerlaw06_SumParts.l0])
              | succ k1 =>
                have H := HA.out
                clear HA
                simp only [outriggerlaw06_SumParts.l0] at H
                by_cases c25 : x19_1 < (m0_4.length : Int)
                · rw [if_pos c25] at H
                  have c25b0 : decide (x19_1 < (m0_4.length : Int)) = true := decide_eq_true c25
                  clear c25
                  by_cases c26 : x16_1.length < 17592186044416
                  · rw [if_pos c26] at H
                    have LMc26 := Aside0.mk c26
                    clear c26
                    obtain ⟨y281, hy281⟩ : ∃ y_ : List Int, y_ = (x16_1 ++ [4294967296]) := ⟨_, rfl⟩
                    replace H : (if 0 ≤ x19_1 then ((fix_Clamp.f (rd m0_4 x19_1)).bind fun bt285 => (outriggerlaw06_SumParts.l0 k1 t269 m0_4 t271 t272 t275 t278 t279 t280 y281 (mn x17_1 bt285.1) (mx x18_1 bt285.1) (wrap64 (x19_1 + 1)))) else (none)) = some r := by first | (rw [hy281]; with_reducible exact H) | (have H2_ := (Option.bind_some _ _).symm.trans H; rw [hy281]; with_reducible exact H2_) | (have H2_ := (Option.bind_some _ _).symm.trans H; with_reducible exact H2_) | with_reducible exact H | (rw [hy281]; exact H) | exact H
                    have Ny281 := Aside0.mk hy281
                    clear hy281
                    by_cases c27 : 0 ≤ x19_1
                    · rw [if_pos c27] at H
                      have c27b0 : decide (0 ≤ x19_1) = true := decide_eq_true c27
                      clear c27
                      replace H := Option.bind_eq_some_iff.mp H
                      obtain ⟨⟨t285, t286⟩, A280, H⟩ := H
                      replace H : (outriggerlaw06_SumParts.l0 k1 t269 m0_4 t271 t272 t275 t278 t279 t280 y281 (mn x17_1 t285) (mx x18_1 t285) (wrap64 (x19_1 + 1))) = some r := H
                      have A28 := Aside0.mk A280
                      clear A280
                      obtain ⟨ji29, hji29⟩ : ∃ j_ : Int, (mn x17_1 t285) = j_ := ⟨_, rfl⟩
                      replace H : (outriggerlaw06_SumParts.l0 k1 t269 m0_4 t271 t272 t275 t278 t279 t280 y281 ji29 (mx x18_1 t285) (wrap64 (x19_1 + 1))) = some r := by first | (rw [hji29] at H; exact H) | (simp only [hji29] at H ⊢; exact H)
                      (try rw [hji29] at A28)
                      have hji29_ : (if t285 < x17_1 then t285 else x17_1) = ji29 := hji29
                      obtain ⟨ji30, hji30⟩ : ∃ j_ : Int, (mx x18_1 t285) = j_ := ⟨_, rfl⟩
                      replace H : (outriggerlaw06_SumParts.l0 k1 t269 m0_4 t271 t272 t275 t278 t279 t280 y281 ji29 ji30 (wrap64 (x19_1 + 1))) = some r := by first | (rw [hji30] at H; exact H) | (simp only [hji30] at H ⊢; exact H)
                      (try rw [hji30] at A28)
                      have hji30_ : (if x18_1 < t285 then t285 else x18_1) = ji30 := hji30
                      have H' := Aside0.mk H
                      clear H
                      go_wp2_with (first | ((with_reducible refine gate_builtin (b := .append) (xs := #[.tmp 69, .tmp 70]) rfl ?_); (try (refine gate_guard (by rfl) ?_; dsimp only)); at_builtin; refine Kd.R_append (Kd.int .i64) (w0 := w) w.heap.size rfl (.tmp 69) (.tmp 70) 22 3 (.int .i64 0) 8 rfl Try.underlying22 info3 rfl (by decide) (by omega) u16 x16_1 4294967296 [.int .i64 4294967296] (fun _ => True) (fun _ => False) rfl rfl ?aP (fun _ hk => hk.elim) ?aF ?aO ?aB ?aS ?aL ?_; (case aP => exact rfl); (case aB => exact (by repeat (first | (with_reducible first | exact HB.out | apply below_alloc | apply pw_below_drewN | apply below_drew1) | exact HB.out))); (case aF => exact (fun _ _ => trivial)); (case aO => exact (by (with_reducible repeat (first | apply Kd.R_alloc | apply Kd.R_drewN | apply Kd.R_drew)); exact HO_16.out)); (case aS => exact (below_size (by repeat (first | (with_reducible first | exact HB.out | apply below_alloc | apply pw_below_drewN | apply below_drew1) | exact HB.out)))); (case aL => have := LMc26.out; omega); intro v282 w31 ho hb hg hat; rw [← Ny281.out] at ho; have n0_ := Aside0.mk (hb); have n1_ := Aside0.mk (ho); clear HB; clear HO_16; have HB := n0_; have HO283 := n1_; clear n0_ n1_; clear ho hb hg hat; have p284 : 0 ≤ (x19_1 : Int) := of_decide_eq_true (by first | (with_reducible assumption) | assumption); have q284 : x19_1 < (m0_4.length : Int) := of_decide_eq_true (by first | (with_reducible assumption) | assumption); obtain ⟨ad284, e284, hx284_0⟩ := Kd.at_int HR270.out x19_1 p284 q284; cases e284; replace hx284_0 := (HB.out.cell (World.block_lt_of_cell? w _ hx284_0)).trans hx284_0; replace p284 := eq_true p284; replace q284 := eq_true q284) | ((with_reducible refine gate_callee (f := 18) rfl ?_); refine goesL_ (some 77) rfl rfl Try.func18 (by kernel_rfl) rfl #[.int .i64 (rd m0_4 x19_1)] rfl (by (try simp only [List.map_toArray, List.map_cons, List.map_nil]); first | done | (simp only [hji4]; rfl) | rfl | (simp only [List.length_drop, List.length_take]; rfl)) ?_; (with_reducible refine (fix_Clamp.calls (rd m0_4 x19_1) t285 t286 _ A28.out).mono ?_); rintro e w32 ⟨rfl, hb⟩; refine ⟨_, rfl, ?_⟩; have n0_ := Aside0.mk (Kd.R_below (by (with_reducible repeat (first | apply Kd.R_alloc | apply Kd.R_drewN | apply Kd.R_drew)); exact HO283.out) hb); have n1_ := Aside0.mk (below_step (by repeat (first | (with_reducible first | exact HB.out | apply below_alloc | apply pw_below_drewN | apply below_drew1) | exact HB.out)) hb); clear HO283; clear HB; have HO283 := n0_; have HB := n1_; clear n0_ n1_; (try clear hb); (try clear hb2); (try clear hk); (try clear hi)))
                      go_roundg k1
                      case measure => have := HK1.out; omega
                      case rel => exact ⟨(y281), (ji29), (ji30), (wrap64 (x19_1 + 1)), (by first | rfl | (simp; done) | (simp only [← hji29] <;> (first | rfl | simp)) | (simp [*]; done)), (by first | rfl | (simp; done) | (simp only [← hji30] <;> (first | rfl | simp)) | (simp [*]; done)), (by first | rfl | (simp; done) | (simp [*]; done)), H', ⟨by have := HK1.out; omega⟩, ⟨by (with_reducible repeat (first | apply Kd.R_alloc | apply Kd.R_drewN | apply Kd.R_drew)); exact HO283.out⟩, ⟨by repeat (first | (with_reducible first | exact HB.out | apply below_alloc | apply pw_below_drewN | apply below_drew1) | exact HB.out)⟩⟩
                    · rw [if_neg c27] at H
                      exact absurd H (by simp)
                  · rw [if_neg c26] at H
                    exact absurd H (by simp)
                · rw [if_neg c25] at H
                  have c25b0 : decide (x19_1 < (m0_4.length : Int)) = false := decide_eq_false c25
                  clear c25
                  replace H := Option.bind_eq_some_iff.mp H
                  obtain ⟨⟨t287, t288⟩, A330, H⟩ := H
                  replace H : ((sum_Mean.f k1 m0_4).bind fun bt289 => (if (m0_4.length : Int) > 0 then (if bt289.1 < x17_1 then (some false) else (if bt289.1 > x18_1 then (some false) else (if (m0_4.length : Int) = 0 then (if bt289.1 = 0 then (if t269 = true then (if t275 = true then (if t287 = t271 then (some (t288 == t272)) else (some false)) else (if t278 = true then (if t287 = t271 then (some (t288 == t272)) else (some false)) else (if t280 = true then (if t287 = t271 then (some (t288 == t272)) else (some false)) else (if t279 = t271 then (if t272 = true then (some false) else (if t287 = t271 then (some (t288 == t272)) else (some false))) else (some false))))) else (some false)) else (some false)) else (if t269 = true then (if t275 = true then (if t287 = t271 then (some (t288 == t272)) else (some false)) else (if t278 = true then (if t287 = t271 then (some (t288 == t272)) else (some false)) else (if t280 = true then (if t287 = t271 then (some (t288 == t272)) else (some false)) else (if t279 = t271 then (if t272 = true then (some false) else (if t287 = t271 then (some (t288 == t272)) else (some false))) else (some false))))) else (some false))))) else (if (m0_4.length : Int) = 0 then (if bt289.1 = 0 then (if t269 = true then (if t275 = true then (if t287 = t271 then (some (t288 == t272)) else (some false)) else (if t278 = true then (if t287 = t271 then (some (t288 == t272)) else (some false)) else (if t280 = true then (if t287 = t271 then (some (t288 == t272)) else (some false)) else (if t279 = t271 then (if t272 = true then (some false) else (if t287 = t271 then (some (t288 == t272)) else (some false))) else (some false))))) else (some false)) else (some false)) else (if t269 = true then (if t275 = true then (if t287 = t271 then (some (t288 == t272)) else (some false)) else (if t278 = true then (if t287 = t271 then (some (t288 == t272)) else (some false)) else (if t280 = true then (if t287 = t271 then (some (t288 == t272)) else (some false)) else (if t279 = t271 then (if t272 = true then (some false) else (if t287 = t271 then (some (t288 == t272)) else (some false))) else (some false))))) else (some false))))) = some r := H
                  have A33 := Aside0.mk A330
                  clear A330
                  replace H := Option.bind_eq_some_iff.mp H
                  obtain ⟨⟨t289, t290⟩, A340, H⟩ := H
                  replace H : (if (m0_4.length : Int) > 0 then (if t289 < x17_1 then (some false) else (if t289 > x18_1 then (some false) else (if (m0_4.length : Int) = 0 then (if t289 = 0 then (if t269 = true then (if t275 = true then (if t287 = t271 then (some (t288 == t272)) else (some false)) else (if t278 = true then (if t287 = t271 then (some (t288 == t272)) else (some false)) else (if t280 = true then (if t287 = t271 then (some (t288 == t272)) else (some false)) else (if t279 = t271 then (if t272 = true then (some false) else (if t287 = t271 then (some (t288 == t272)) else (some false))) else (some false))))) else (some false)) else (some false)) else (if t269 = true then (if t275 = true then (if t287 = t271 then (some (t288 == t272)) else (some false)) else (if t278 = true then (if t287 = t271 then (some (t288 == t272)) else (some false)) else (if t280 = true then (if t287 = t271 then (some (t288 == t272)) else (some false)) else (if t279 = t271 then (if t272 = true then (some false) else (if t287 = t271 then (some (t288 == t272)) else (some false))) else (some false))))) else (some false))))) else (if (m0_4.length : Int) = 0 then (if t289 = 0 then (if t269 = true then (if t275 = true then (if t287 = t271 then (some (t288 == t272)) else (some false)) else (if t278 = true then (if t287 = t271 then (some (t288 == t272)) else (some false)) else (if t280 = true then (if t287 = t271 then (some (t288 == t272)) else (some false)) else (if t279 = t271 then (if t272 = true then (some false) else (if t287 = t271 then (some (t288 == t272)) else (some false))) else (some false))))) else (some false)) else (some false)) else (if t269 = true then (if t275 = true then (if t287 = t271 then (some (t288 == t272)) else (some false)) else (if t278 = true then (if t287 = t271 then (some (t288 == t272)) else (some false)) else (if t280 = true then (if t287 = t271 then (some (t288 == t272)) else (some false)) else (if t279 = t271 then (if t272 = true then (some false) else (if t287 = t271 then (some (t288 == t272)) else (some false))) else (some false))))) else (some false)))) = some r := H
                  have A34 := Aside0.mk A340
                  clear A340
                  by_cases c35 : (m0_4.length : Int) > 0
                  · rw [if_pos c35] at H
                    have c35b0 : decide (0 < (m0_4.length : Int)) = true := decide_eq_true c35
                    have c35b1 : decide (0 < m0_4.length) = true := decide_eq_true (by omega)
                    clear c35
                    by_cases c36 : t289 < x17_1
                    · rw [if_pos c36] at H
                      have c36b0 : decide (t289 < x17_1) = true := decide_eq_true c36
                      clear c36
                      exact absurd ((Option.some.inj H).trans hr.out) (by decide)
                    · rw [if_neg c36] at H
                      have c36b0 : decide (t289 < x17_1) = false := decide_eq_false c36
                      clear c36
                      by_cases c40 : t289 > x18_1
                      · rw [if_pos c40] at H
                        have c40b0 : decide (x18_1 < t289) = true := decide_eq_true c40
                        clear c40
                        exact absurd ((Option.some.inj H).trans hr.out) (by decide)
                      · rw [if_neg c40] at H
                        have c40b0 : decide (x18_1 < t289) = false := decide_eq_false c40
                        clear c40
                        by_cases c44 : (m0_4.length : Int) = 0
                        · rw [if_pos c44] at H
                          have c44b0 : ((m0_4.length : Int) == 0) = true := beq_iff_eq.mpr c44
                          have c44b1 : ((m0_4.length : Int) != 0) = false := bne_eq_false_iff_eq.mpr c44
                          clear c44
                          by_cases c45 : t289 = 0
                          · rw [if_pos c45] at H
                            have c45b0 : (t289 == 0) = true := beq_iff_eq.mpr c45
                            have c45b1 : (t289 != 0) = false := bne_eq_false_iff_eq.mpr c45
                            clear c45
                            by_cases c46 : t269 = true
                            · subst c46
                              have H1 : (if t275 = true then (if t287 = t271 then (some (t288 == t272)) else (some false)) else (if t278 = true then (if t287 = t271 then (some (t288 == t272)) else (some false)) else (if t280 = true then (if t287 = t271 then (some (t288 == t272)) else (some false)) else (if t279 = t271 then (if t272 = true then (some false) else (if t287 = t271 then (some (t288 == t272)) else (some false))) else (some false))))) = some r := by rw [if_pos rfl] at H; exact H
                              clear H
                              have H := H1
                              clear H1
                              by_cases c47 : t275 = true
                              · subst c47
                                have H1 : (if t287 = t271 then (some (t288 == t272)) else (some false)) = some r := by rw [if_pos rfl] at H; exact H
                                clear H
                                have H := H1
                                clear H1
                                by_cases c48 : t287 = t271
                                · rw [if_pos c48] at H
                                  have c48b0 : (t287 == t271) = true := beq_iff_eq.mpr c48
                                  have c48b1 : (t287 != t271) = false := bne_eq_false_iff_eq.mpr c48
                                  clear c48
                                  clear hr
                                  obtain rfl := Option.some.inj H
                                  obtain ⟨Ao49, co49, eo49⟩ := Kd.R_slice HO_16.out
                                  subst eo49
                                  go_wp2_with (first | ((with_reducible refine gate_callee (f := 13) rfl ?_); refine goesL_ (some 89) rfl rfl Try.func13 (by kernel_rfl) rfl #[.slice A0 m0_4.length c0, .slice Ao49 x16_1.length co49] rfl (by (try simp only [List.map_toArray, List.map_cons, List.map_nil]); first | done | (rw [show m0_4.length = (ji4).toNat from (by rw [List.length_take]; have h_ : ((ji4) : Int) ≤ (l0.length : Int) := of_decide_eq_true (by first | (with_reducible assumption) | assumption); omega)] <;> rfl) | (simp only [hji4]; rfl) | rfl | (simp only [List.length_drop, List.length_take]; rfl)) ?_; (with_reducible refine (sum_Dot.calls k1 _ _ m0_4 _ _ x16_1 t287 t288 _ ?side1 ?side2 ?side3 ?side4 A33.out).mono ?_); (case side1 => repeat (first | exact (Kd.C_below HR270.out HB.out) | (with_reducible refine Kd.C_alloc ?_ _) | (with_reducible refine Kd.C_drewN ?_ _) | (with_reducible refine Kd.C_drew ?_))); (case side2 => exact HC270.out); (case side3 => repeat (first | exact (Kd.R_reads' HO_16.out).2.2 | (with_reducible refine Kd.C_alloc ?_ _) | (with_reducible refine Kd.C_drewN ?_ _) | (with_reducible refine Kd.C_drew ?_))); (case side4 => exact (Kd.R_reads' HO_16.out).2.1); rintro e w50 ⟨rfl, hb⟩; refine ⟨_, rfl, ?_⟩; have n0_ := Aside0.mk (Kd.R_below (by (with_reducible repeat (first | apply Kd.R_alloc | apply Kd.R_drewN | apply Kd.R_drew)); exact HO_16.out) hb); have n1_ := Aside0.mk (below_step (by repeat (first | (with_reducible first | exact HB.out | apply below_alloc | apply pw_below_drewN | apply below_drew1) | exact HB.out)) hb); clear HO_16; clear HB; have HO_16 := n0_; have HB := n1_; clear n0_ n1_; (try clear hb); (try clear hb2); (try clear hk); (try clear hi)) | ((with_reducible refine gate_callee (f := 11) rfl ?_); refine goesL_ (some 94) rfl rfl Try.func11 (by kernel_rfl) rfl #[.slice A0 m0_4.length c0] rfl (by (try simp only [List.map_toArray, List.map_cons, List.map_nil]); first | done | (rw [show m0_4.length = (ji4).toNat from (by rw [List.length_take]; have h_ : ((ji4) : Int) ≤ (l0.length : Int) := of_decide_eq_true (by first | (with_reducible assumption) | assumption); omega)] <;> rfl) | (simp only [hji4]; rfl) | rfl | (simp only [List.length_drop, List.length_take]; rfl)) ?_; (with_reducible refine (sum_Mean.calls k1 _ _ m0_4 t289 t290 _ ?side1 ?side2 A34.out).mono ?_); (case side1 => repeat (first | exact (Kd.C_below HR270.out HB.out) | (with_reducible refine Kd.C_alloc ?_ _) | (with_reducible refine Kd.C_drewN ?_ _) | (with_reducible refine Kd.C_drew ?_))); (case side2 => exact HC270.out); rintro e w51 ⟨rfl, hb⟩; refine ⟨_, rfl, ?_⟩; have n0_ := Aside0.mk (Kd.R_below (by (with_reducible repeat (first | apply Kd.R_alloc | apply Kd.R_drewN | apply Kd.R_drew)); exact HO_16.out) hb); have n1_ := Aside0.mk (below_step (by repeat (first | (with_reducible first | exact HB.out | apply below_alloc | apply pw_below_drewN | apply below_drew1) | exact HB.out)) hb); clear HO_16; clear HB; have HO_16 := n0_; have HB := n1_; clear n0_ n1_; (try clear hb); (try clear hb2); (try clear hk); (try clear hi)))
                                  go_ret
                                  exact ⟨by first | rfl | (simp [errW_none, errW_some] <;> rfl) | (simp only [← hji4, ← hji9]; first | rfl | (simp [errW_none, errW_some] <;> rfl)) | (simp [*, errW_none, errW_some] <;> rfl), by repeat (first | (with_reducible first | exact HB.out | apply below_alloc | apply pw_below_drewN | apply below_drew1) | exact HB.out)⟩
                                · rw [if_neg c48] at H
                                  have c48b0 : (t287 == t271) = false := beq_eq_false_iff_ne.mpr c48
                                  have c48b1 : (t287 != t271) = true := bne_iff_ne.mpr c48
                                  exact absurd ((Option.some.inj H).trans hr.out) (by decide)
                              · replace c47 := Bool.eq_false_iff.mpr c47
                                subst c47
                                have H1 : (if t278 = true then (if t287 = t271 then (some (t288 == t272)) else (some false)) else (if t280 = true then (if t287 = t271 then (some (t288 == t272)) else (some false)) else (if t279 = t271 then (if t272 = true then (some false) else (if t287 = t271 then (some (t288 == t272)) else (some false))) else (some false)))) = some r := by rw [if_neg (show ¬ (false = true) by decide)] at H; exact H
                                clear H
                                have H := H1
                                clear H1
                                by_cases c55 : t278 = true
                                · subst c55
                                  have H1 : (if t287 = t271 then (some (t288 == t272)) else (some false)) = some r := by rw [if_pos rfl] at H; exact H
                                  clear H
                                  have H := H1
                                  clear H1
                                  by_cases c56 : t287 = t271
                                  · rw [if_pos c56] at H
                                    have c56b0 : (t287 == t271) = true := beq_iff_eq.mpr c56
                                    have c56b1 : (t287 != t271) = false := bne_eq_false_iff_eq.mpr c56
                                    clear c56
                                    clear hr
                                    obtain rfl := Option.some.inj H
                                    obtain ⟨Ao57, co57, eo57⟩ := Kd.R_slice HO_16.out
                                    subst eo57
                                    go_wp2_with (first | ((with_reducible refine gate_callee (f := 13) rfl ?_); refine goesL_ (some 89) rfl rfl Try.func13 (by kernel_rfl) rfl #[.slice A0 m0_4.length c0, .slice Ao57 x16_1.length co57] rfl (by (try simp only [List.map_toArray, List.map_cons, List.map_nil]); first | done | (rw [show m0_4.length = (ji4).toNat from (by rw [List.length_take]; have h_ : ((ji4) : Int) ≤ (l0.length : Int) := of_decide_eq_true (by first | (with_reducible assumption) | assumption); omega)] <;> rfl) | (simp only [hji4]; rfl) | rfl | (simp only [List.length_drop, List.length_take]; rfl)) ?_; (with_reducible refine (sum_Dot.calls k1 _ _ m0_4 _ _ x16_1 t287 t288 _ ?side1 ?side2 ?side3 ?side4 A33.out).mono ?_); (case side1 => repeat (first | exact (Kd.C_below HR270.out HB.out) | (with_reducible refine Kd.C_alloc ?_ _) | (with_reducible refine Kd.C_drewN ?_ _) | (with_reducible refine Kd.C_drew ?_))); (case side2 => exact HC270.out); (case side3 => repeat (first | exact (Kd.R_reads' HO_16.out).2.2 | (with_reducible refine Kd.C_alloc ?_ _) | (with_reducible refine Kd.C_drewN ?_ _) | (with_reducible refine Kd.C_drew ?_))); (case side4 => exact (Kd.R_reads' HO_16.out).2.1); rintro e w58 ⟨rfl, hb⟩; refine ⟨_, rfl, ?_⟩; have n0_ := Aside0.mk (Kd.R_below (by (with_reducible repeat (first | apply Kd.R_alloc | apply Kd.R_drewN | apply Kd.R_drew)); exact HO_16.out) hb); have n1_ := Aside0.mk (below_step (by repeat (first | (with_reducible first | exact HB.out | apply below_alloc | apply pw_below_drewN | apply below_drew1) | exact HB.out)) hb); clear HO_16; clear HB; have HO_16 := n0_; have HB := n1_; clear n0_ n1_; (try clear hb); (try clear hb2); (try clear hk); (try clear hi)) | ((with_reducible refine gate_callee (f := 11) rfl ?_); refine goesL_ (some 94) rfl rfl Try.func11 (by kernel_rfl) rfl #[.slice A0 m0_4.length c0] rfl (by (try simp only [List.map_toArray, List.map_cons, List.map_nil]); first | done | (rw [show m0_4.length = (ji4).toNat from (by rw [List.length_take]; have h_ : ((ji4) : Int) ≤ (l0.length : Int) := of_decide_eq_true (by first | (with_reducible assumption) | assumption); omega)] <;> rfl) | (simp only [hji4]; rfl) | rfl | (simp only [List.length_drop, List.length_take]; rfl)) ?_; (with_reducible refine (sum_Mean.calls k1 _ _ m0_4 t289 t290 _ ?side1 ?side2 A34.out).mono ?_); (case side1 => repeat (first | exact (Kd.C_below HR270.out HB.out) | (with_reducible refine Kd.C_alloc ?_ _) | (with_reducible refine Kd.C_drewN ?_ _) | (with_reducible refine Kd.C_drew ?_))); (case side2 => exact HC270.out); rintro e w59 ⟨rfl, hb⟩; refine ⟨_, rfl, ?_⟩; have n0_ := Aside0.mk (Kd.R_below (by (with_reducible repeat (first | apply Kd.R_alloc | apply Kd.R_drewN | apply Kd.R_drew)); exact HO_16.out) hb); have n1_ := Aside0.mk (below_step (by repeat (first | (with_reducible first | exact HB.out | apply below_alloc | apply pw_below_drewN | apply below_drew1) | exact HB.out)) hb); clear HO_16; clear HB; have HO_16 := n0_; have HB := n1_; clear n0_ n1_; (try clear hb); (try clear hb2); (try clear hk); (try clear hi)))
                                    go_ret
                                    exact ⟨by first | rfl | (simp [errW_none, errW_some] <;> rfl) | (simp only [← hji4, ← hji9]; first | rfl | (simp [errW_none, errW_some] <;> rfl)) | (simp [*, errW_none, errW_some] <;> rfl), by repeat (first | (with_reducible first | exact HB.out | apply below_alloc | apply pw_below_drewN | apply below_drew1) | exact HB.out)⟩
                                  · rw [if_neg c56] at H
                                    have c56b0 : (t287 == t271) = false := beq_eq_false_iff_ne.mpr c56
                                    have c56b1 : (t287 != t271) = true := bne_iff_ne.mpr c56
                                    exact absurd ((Option.some.inj H).trans hr.out) (by decide)
                                · replace c55 := Bool.eq_false_iff.mpr c55
                                  subst c55
                                  have H1 : (if t280 = true then (if t287 = t271 then (some (t288 == t272)) else (some false)) else (if t279 = t271 then (if t272 = true then (some false) else (if t287 = t271 then (some (t288 == t272)) else (some false))) else (some false))) = some r := by rw [if_neg (show ¬ (false = true) by decide)] at H; exact H
                                  clear H
                                  have H := H1
                                  clear H1
                                  by_cases c63 : t280 = true
                                  · subst c63
                                    have H1 : (if t287 = t271 then (some (t288 == t272)) else (some false)) = some r := by rw [if_pos rfl] at H; exact H
                                    clear H
                                    have H := H1
                                    clear H1
                                    by_cases c64 : t287 = t271
                                    · rw [if_pos c64] at H
                                      have c64b0 : (t287 == t271) = true := beq_iff_eq.mpr c64
                                      have c64b1 : (t287 != t271) = false := bne_eq_false_iff_eq.mpr c64
                                      clear c64
                                      clear hr
                                      obtain rfl := Option.some.inj H
                                      obtain ⟨Ao65, co65, eo65⟩ := Kd.R_slice HO_16.out
                                      subst eo65
                                      go_wp2_with (first | ((with_reducible refine gate_callee (f := 13) rfl ?_); refine goesL_ (some 89) rfl rfl Try.func13 (by kernel_rfl) rfl #[.slice A0 m0_4.length c0, .slice Ao65 x16_1.length co65] rfl (by (try simp only [List.map_toArray, List.map_cons, List.map_nil]); first | done | (rw [show m0_4.length = (ji4).toNat from (by rw [List.length_take]; have h_ : ((ji4) : Int) ≤ (l0.length : Int) := of_decide_eq_true (by first | (with_reducible assumption) | assumption); omega)] <;> rfl) | (simp only [hji4]; rfl) | rfl | (simp only [List.length_drop, List.length_take]; rfl)) ?_; (with_reducible refine (sum_Dot.calls k1 _ _ m0_4 _ _ x16_1 t287 t288 _ ?side1 ?side2 ?side3 ?side4 A33.out).mono ?_); (case side1 => repeat (first | exact (Kd.C_below HR270.out HB.out) | (with_reducible refine Kd.C_alloc ?_ _) | (with_reducible refine Kd.C_drewN ?_ _) | (with_reducible refine Kd.C_drew ?_))); (case side2 => exact HC270.out); (case side3 => repeat (first | exact (Kd.R_reads' HO_16.out).2.2 | (with_reducible refine Kd.C_alloc ?_ _) | (with_reducible refine Kd.C_drewN ?_ _) | (with_reducible refine Kd.C_drew ?_))); (case side4 => exact (Kd.R_reads' HO_16.out).2.1); rintro e w66 ⟨rfl, hb⟩; refine ⟨_, rfl, ?_⟩; have n0_ := Aside0.mk (Kd.R_below (by (with_reducible repeat (first | apply Kd.R_alloc | apply Kd.R_drewN | apply Kd.R_drew)); exact HO_16.out) hb); have n1_ := Aside0.mk (below_step (by repeat (first | (with_reducible first | exact HB.out | apply below_alloc | apply pw_below_drewN | apply below_drew1) | exact HB.out)) hb); clear HO_16; clear HB; have HO_16 := n0_; have HB := n1_; clear n0_ n1_; (try clear hb); (try clear hb2); (try clear hk); (try clear hi)) | ((with_reducible refine gate_callee (f := 11) rfl ?_); refine goesL_ (some 94) rfl rfl Try.func11 (by kernel_rfl) rfl #[.slice A0 m0_4.length c0] rfl (by (try simp only [List.map_toArray, List.map_cons, List.map_nil]); first | done | (rw [show m0_4.length = (ji4).toNat from (by rw [List.length_take]; have h_ : ((ji4) : Int) ≤ (l0.length : Int) := of_decide_eq_true (by first | (with_reducible assumption) | assumption); omega)] <;> rfl) | (simp only [hji4]; rfl) | rfl | (simp only [List.length_drop, List.length_take]; rfl)) ?_; (with_reducible refine (sum_Mean.calls k1 _ _ m0_4 t289 t290 _ ?side1 ?side2 A34.out).mono ?_); (case side1 => repeat (first | exact (Kd.C_below HR270.out HB.out) | (with_reducible refine Kd.C_alloc ?_ _) | (with_reducible refine Kd.C_drewN ?_ _) | (with_reducible refine Kd.C_drew ?_))); (case side2 => exact HC270.out); rintro e w67 ⟨rfl, hb⟩; refine ⟨_, rfl, ?_⟩; have n0_ := Aside0.mk (Kd.R_below (by (with_reducible repeat (first | apply Kd.R_alloc | apply Kd.R_drewN | apply Kd.R_drew)); exact HO_16.out) hb); have n1_ := Aside0.mk (below_step (by repeat (first | (with_reducible first | exact HB.out | apply below_alloc | apply pw_below_drewN | apply below_drew1) | exact HB.out)) hb); clear HO_16; clear HB; have HO_16 := n0_; have HB := n1_; clear n0_ n1_; (try clear hb); (try clear hb2); (try clear hk); (try clear hi)))
                                      go_ret
                                      exact ⟨by first | rfl | (simp [errW_none, errW_some] <;> rfl) | (simp only [← hji4, ← hji9]; first | rfl | (simp [errW_none, errW_some] <;> rfl)) | (simp [*, errW_none, errW_some] <;> rfl), by repeat (first | (with_reducible first | exact HB.out | apply below_alloc | apply pw_below_drewN | apply below_drew1) | exact HB.out)⟩
                                    · rw [if_neg c64] at H
                                      have c64b0 : (t287 == t271) = false := beq_eq_false_iff_ne.mpr c64
                                      have c64b1 : (t287 != t271) = true := bne_iff_ne.mpr c64
                                      exact absurd ((Option.some.inj H).trans hr.out) (by decide)
                                  · replace c63 := Bool.eq_false_iff.mpr c63
                                    subst c63
                                    have H1 : (if t279 = t271 then (if t272 = true then (some false) else (if t287 = t271 then (some (t288 == t272)) else (some false))) else (some false)) = some r := by rw [if_neg (show ¬ (false = true) by decide)] at H; exact H
                                    clear H
                                    have H := H1
                                    clear H1
                                    by_cases c71 : t279 = t271
                                    · rw [if_pos c71] at H
                                      have c71b0 : (t279 == t271) = true := beq_iff_eq.mpr c71
                                      have c71b1 : (t279 != t271) = false := bne_eq_false_iff_eq.mpr c71
                                      clear c71
                                      by_cases c72 : t272 = true
                                      · subst c72
                                        have H1 : (some false) = some r := by rw [if_pos rfl] at H; exact H
                                        clear H
                                        have H := H1
                                        clear H1
                                        exact absurd ((Option.some.inj H).trans hr.out) (by decide)
                                      · replace c72 := Bool.eq_false_iff.mpr c72
                                        subst c72
                                        have H1 : (if t287 = t271 then (some (t288 == false)) else (some false)) = some r := by rw [if_neg (show ¬ (false = true) by decide)] at H; exact H
                                        clear H
                                        have H := H1
                                        clear H1
                                        by_cases c76 : t287 = t271
                                        · rw [if_pos c76] at H
                                          have c76b0 : (t287 == t271) = true := beq_iff_eq.mpr c76
                                          have c76b1 : (t287 != t271) = false := bne_eq_false_iff_eq.mpr c76
                                          clear c76
                                          clear hr
                                          obtain rfl := Option.some.inj H
                                          obtain ⟨Ao77, co77, eo77⟩ := Kd.R_slice HO_16.out
                                          subst eo77
                                          go_wp2_with (first | ((with_reducible refine gate_callee (f := 13) rfl ?_); refine goesL_ (some 89) rfl rfl Try.func13 (by kernel_rfl) rfl #[.slice A0 m0_4.length c0, .slice Ao77 x16_1.length co77] rfl (by (try simp only [List.map_toArray, List.map_cons, List.map_nil]); first | done | (rw [show m0_4.length = (ji4).toNat from (by rw [List.length_take]; have h_ : ((ji4) : Int) ≤ (l0.length : Int) := of_decide_eq_true (by first | (with_reducible assumption) | assumption); omega)] <;> rfl) | (simp only [hji4]; rfl) | rfl | (simp only [List.length_drop, List.length_take]; rfl)) ?_; (with_reducible refine (sum_Dot.calls k1 _ _ m0_4 _ _ x16_1 t287 t288 _ ?side1 ?side2 ?side3 ?side4 A33.out).mono ?_); (case side1 => repeat (first | exact (Kd.C_below HR270.out HB.out) | (with_reducible refine Kd.C_alloc ?_ _) | (with_reducible refine Kd.C_drewN ?_ _) | (with_reducible refine Kd.C_drew ?_))); (case side2 => exact HC270.out); (case side3 => repeat (first | exact (Kd.R_reads' HO_16.out).2.2 | (with_reducible refine Kd.C_alloc ?_ _) | (with_reducible refine Kd.C_drewN ?_ _) | (with_reducible refine Kd.C_drew ?_))); (case side4 => exact (Kd.R_reads' HO_16.out).2.1); rintro e w78 ⟨rfl, hb⟩; refine ⟨_, rfl, ?_⟩; have n0_ := Aside0.mk (Kd.R_below (by (with_reducible repeat (first | apply Kd.R_alloc | apply Kd.R_drewN | apply Kd.R_drew)); exact HO_16.out) hb); have n1_ := Aside0.mk (below_step (by repeat (first | (with_reducible first | exact HB.out | apply below_alloc | apply pw_below_drewN | apply below_drew1) | exact HB.out)) hb); clear HO_16; clear HB; have HO_16 := n0_; have HB := n1_; clear n0_ n1_; (try clear hb); (try clear hb2); (try clear hk); (try clear hi)) | ((with_reducible refine gate_callee (f := 11) rfl ?_); refine goesL_ (some 94) rfl rfl Try.func11 (by kernel_rfl) rfl #[.slice A0 m0_4.length c0] rfl (by (try simp only [List.map_toArray, List.map_cons, List.map_nil]); first | done | (rw [show m0_4.length = (ji4).toNat from (by rw [List.length_take]; have h_ : ((ji4) : Int) ≤ (l0.length : Int) := of_decide_eq_true (by first | (with_reducible assumption) | assumption); omega)] <;> rfl) | (simp only [hji4]; rfl) | rfl | (simp only [List.length_drop, List.length_take]; rfl)) ?_; (with_reducible refine (sum_Mean.calls k1 _ _ m0_4 t289 t290 _ ?side1 ?side2 A34.out).mono ?_); (case side1 => repeat (first | exact (Kd.C_below HR270.out HB.out) | (with_reducible refine Kd.C_alloc ?_ _) | (with_reducible refine Kd.C_drewN ?_ _) | (with_reducible refine Kd.C_drew ?_))); (case side2 => exact HC270.out); rintro e w79 ⟨rfl, hb⟩; refine ⟨_, rfl, ?_⟩; have n0_ := Aside0.mk (Kd.R_below (by (with_reducible repeat (first | apply Kd.R_alloc | apply Kd.R_drewN | apply Kd.R_drew)); exact HO_16.out) hb); have n1_ := Aside0.mk (below_step (by repeat (first | (with_reducible first | exact HB.out | apply below_alloc | apply pw_below_drewN | apply below_drew1) | exact HB.out)) hb); clear HO_16; clear HB; have HO_16 := n0_; have HB := n1_; clear n0_ n1_; (try clear hb); (try clear hb2); (try clear hk); (try clear hi)))
                                          go_ret
                                          exact ⟨by first | rfl | (simp [errW_none, errW_some] <;> rfl) | (simp only [← hji4, ← hji9]; first | rfl | (simp [errW_none, errW_some] <;> rfl)) | (simp [*, errW_none, errW_some] <;> rfl), by repeat (first | (with_reducible first | exact HB.out | apply below_alloc | apply pw_below_drewN | apply below_drew1) | exact HB.out)⟩
                                        · rw [if_neg c76] at H
                                          have c76b0 : (t287 == t271) = false := beq_eq_false_iff_ne.mpr c76
                                          have c76b1 : (t287 != t271) = true := bne_iff_ne.mpr c76
                                          exact absurd ((Option.some.inj H).trans hr.out) (by decide)
                                    · rw [if_neg c71] at H
                                      have c71b0 : (t279 == t271) = false := beq_eq_false_iff_ne.mpr c71
                                      have c71b1 : (t279 != t271) = true := bne_iff_ne.mpr c71
                                      exact absurd ((Option.some.inj H).trans hr.out) (by decide)
                            · replace c46 := Bool.eq_false_iff.mpr c46
                              subst c46
                              have H1 : (some false) = some r := by rw [if_neg (show ¬ (false = true) by decide)] at H; exact H
                              clear H
                              have H := H1
                              clear H1
                              exact absurd ((Option.some.inj H).trans hr.out) (by decide)
                          · rw [if_neg c45] at H
                            have c45b0 : (t289 == 0) = false := beq_eq_false_iff_ne.mpr c45
                            have c45b1 : (t289 != 0) = true := bne_iff_ne.mpr c45
                            exact absurd ((Option.some.inj H).trans hr.out) (by decide)
                        · rw [if_neg c44] at H
                          have c44b0 : ((m0_4.length : Int) == 0) = false := beq_eq_false_iff_ne.mpr c44
                          have c44b1 : ((m0_4.length : Int) != 0) = true := bne_iff_ne.mpr c44
                          have c44b2 : ¬ (m0_4 = []) := fun h_ => c44 (by rw [h_]; rfl)
                          by_cases c92 : t269 = true
                          · subst c92
                            have H1 : (if t275 = true then (if t287 = t271 then (some (t288 == t272)) else (some false)) else (if t278 = true then (if t287 = t271 then (some (t288 == t272)) else (some false)) else (if t280 = true then (if t287 = t271 then (some (t288 == t272)) else (some false)) else (if t279 = t271 then (if t272 = true then (some false) else (if t287 = t271 then (some (t288 == t272)) else (some false))) else (some false))))) = some r := by rw [if_pos rfl] at H; exact H
                            clear H
                            have H := H1
                            clear H1
                            by_cases c93 : t275 = true
                            · subst c93
                              have H1 : (if t287 = t271 then (some (t288 == t272)) else (some false)) = some r := by rw [if_pos rfl] at H; exact H
                              clear H
                              have H := H1
                              clear H1
                              by_cases c94 : t287 = t271
                              · rw [if_pos c94] at H
                                have c94b0 : (t287 == t271) = true := beq_iff_eq.mpr c94
                                have c94b1 : (t287 != t271) = false := bne_eq_false_iff_eq.mpr c94
                                clear c94
                                clear hr
                                obtain rfl := Option.some.inj H
                                obtain ⟨Ao95, co95, eo95⟩ := Kd.R_slice HO_16.out
                                subst eo95
                                go_wp2_with (first | ((with_reducible refine gate_callee (f := 13) rfl ?_); refine goesL_ (some 89) rfl rfl Try.func13 (by kernel_rfl) rfl #[.slice A0 m0_4.length c0, .slice Ao95 x16_1.length co95] rfl (by (try simp only [List.map_toArray, List.map_cons, List.map_nil]); first | done | (rw [show m0_4.length = (ji4).toNat from (by rw [List.length_take]; have h_ : ((ji4) : Int) ≤ (l0.length : Int) := of_decide_eq_true (by first | (with_reducible assumption) | assumption); omega)] <;> rfl) | (simp only [hji4]; rfl) | rfl | (simp only [List.length_drop, List.length_take]; rfl)) ?_; (with_reducible refine (sum_Dot.calls k1 _ _ m0_4 _ _ x16_1 t287 t288 _ ?side1 ?side2 ?side3 ?side4 A33.out).mono ?_); (case side1 => repeat (first | exact (Kd.C_below HR270.out HB.out) | (with_reducible refine Kd.C_alloc ?_ _) | (with_reducible refine Kd.C_drewN ?_ _) | (with_reducible refine Kd.C_drew ?_))); (case side2 => exact HC270.out); (case side3 => repeat (first | exact (Kd.R_reads' HO_16.out).2.2 | (with_reducible refine Kd.C_alloc ?_ _) | (with_reducible refine Kd.C_drewN ?_ _) | (with_reducible refine Kd.C_drew ?_))); (case side4 => exact (Kd.R_reads' HO_16.out).2.1); rintro e w96 ⟨rfl, hb⟩; refine ⟨_, rfl, ?_⟩; have n0_ := Aside0.mk (Kd.R_below (by (with_reducible repeat (first | apply Kd.R_alloc | apply Kd.R_drewN | apply Kd.R_drew)); exact HO_16.out) hb); have n1_ := Aside0.mk (below_step (by repeat (first | (with_reducible first | exact HB.out | apply below_alloc | apply pw_below_drewN | apply below_drew1) | exact HB.out)) hb); clear HO_16; clear HB; have HO_16 := n0_; have HB := n1_; clear n0_ n1_; (try clear hb); (try clear hb2); (try clear hk); (try clear hi)) | ((with_reducible refine gate_callee (f := 11) rfl ?_); refine goesL_ (some 94) rfl rfl Try.func11 (by kernel_rfl) rfl #[.slice A0 m0_4.length c0] rfl (by (try simp only [List.map_toArray, List.map_cons, List.map_nil]); first | done | (rw [show m0_4.length = (ji4).toNat from (by rw [List.length_take]; have h_ : ((ji4) : Int) ≤ (l0.length : Int) := of_decide_eq_true (by first | (with_reducible assumption) | assumption); omega)] <;> rfl) | (simp only [hji4]; rfl) | rfl | (simp only [List.length_drop, List.length_take]; rfl)) ?_; (with_reducible refine (sum_Mean.calls k1 _ _ m0_4 t289 t290 _ ?side1 ?side2 A34.out).mono ?_); (case side1 => repeat (first | exact (Kd.C_below HR270.out HB.out) | (with_reducible refine Kd.C_alloc ?_ _) | (with_reducible refine Kd.C_drewN ?_ _) | (with_reducible refine Kd.C_drew ?_))); (case side2 => exact HC270.out); rintro e w97 ⟨rfl, hb⟩; refine ⟨_, rfl, ?_⟩; have n0_ := Aside0.mk (Kd.R_below (by (with_reducible repeat (first | apply Kd.R_alloc | apply Kd.R_drewN | apply Kd.R_drew)); exact HO_16.out) hb); have n1_ := Aside0.mk (below_step (by repeat (first | (with_reducible first | exact HB.out | apply below_alloc | apply pw_below_drewN | apply below_drew1) | exact HB.out)) hb); clear HO_16; clear HB; have HO_16 := n0_; have HB := n1_; clear n0_ n1_; (try clear hb); (try clear hb2); (try clear hk); (try clear hi)))
                                go_ret
                                exact ⟨by first | rfl | (simp [errW_none, errW_some] <;> rfl) | (simp only [← hji4, ← hji9]; first | rfl | (simp [errW_none, errW_some] <;> rfl)) | (simp [*, errW_none, errW_some] <;> rfl), by repeat (first | (with_reducible first | exact HB.out | apply below_alloc | apply pw_below_drewN | apply below_drew1) | exact HB.out)⟩
                              · rw [if_neg c94] at H
                                have c94b0 : (t287 == t271) = false := beq_eq_false_iff_ne.mpr c94
                                have c94b1 : (t287 != t271) = true := bne_iff_ne.mpr c94
                                exact absurd ((Option.some.inj H).trans hr.out) (by decide)
                            · replace c93 := Bool.eq_false_iff.mpr c93
                              subst c93
                              have H1 : (if t278 = true then (if t287 = t271 then (some (t288 == t272)) else (some false)) else (if t280 = true then (if t287 = t271 then (some (t288 == t272)) else (some false)) else (if t279 = t271 then (if t272 = true then (some false) else (if t287 = t271 then (some (t288 == t272)) else (some false))) else (some false)))) = some r := by rw [if_neg (show ¬ (false = true) by decide)] at H; exact H
                              clear H
                              have H := H1
                              clear H1
                              by_cases c101 : t278 = true
                              · subst c101
                                have H1 : (if t287 = t271 then (some (t288 == t272)) else (some false)) = some r := by rw [if_pos rfl] at H; exact H
                                clear H
                                have H := H1
                                clear H1
                                by_cases c102 : t287 = t271
                                · rw [if_pos c102] at H
                                  have c102b0 : (t287 == t271) = true := beq_iff_eq.mpr c102
                                  have c102b1 : (t287 != t271) = false := bne_eq_false_iff_eq.mpr c102
                                  clear c102
                                  clear hr
                                  obtain rfl := Option.some.inj H
                                  obtain ⟨Ao103, co103, eo103⟩ := Kd.R_slice HO_16.out
                                  subst eo103
                                  go_wp2_with (first | ((with_reducible refine gate_callee (f := 13) rfl ?_); refine goesL_ (some 89) rfl rfl Try.func13 (by kernel_rfl) rfl #[.slice A0 m0_4.length c0, .slice Ao103 x16_1.length co103] rfl (by (try simp only [List.map_toArray, List.map_cons, List.map_nil]); first | done | (rw [show m0_4.length = (ji4).toNat from (by rw [List.length_take]; have h_ : ((ji4) : Int) ≤ (l0.length : Int) := of_decide_eq_true (by first | (with_reducible assumption) | assumption); omega)] <;> rfl) | (simp only [hji4]; rfl) | rfl | (simp only [List.length_drop, List.length_take]; rfl)) ?_; (with_reducible refine (sum_Dot.calls k1 _ _ m0_4 _ _ x16_1 t287 t288 _ ?side1 ?side2 ?side3 ?side4 A33.out).mono ?_); (case side1 => repeat (first | exact (Kd.C_below HR270.out HB.out) | (with_reducible refine Kd.C_alloc ?_ _) | (with_reducible refine Kd.C_drewN ?_ _) | (with_reducible refine Kd.C_drew ?_))); (case side2 => exact HC270.out); (case side3 => repeat (first | exact (Kd.R_reads' HO_16.out).2.2 | (with_reducible refine Kd.C_alloc ?_ _) | (with_reducible refine Kd.C_drewN ?_ _) | (with_reducible refine Kd.C_drew ?_))); (case side4 => exact (Kd.R_reads' HO_16.out).2.1); rintro e w104 ⟨rfl, hb⟩; refine ⟨_, rfl, ?_⟩; have n0_ := Aside0.mk (Kd.R_below (by (with_reducible repeat (first | apply Kd.R_alloc | apply Kd.R_drewN | apply Kd.R_drew)); exact HO_16.out) hb); have n1_ := Aside0.mk (below_step (by repeat (first | (with_reducible first | exact HB.out | apply below_alloc | apply pw_below_drewN | apply below_drew1) | exact HB.out)) hb); clear HO_16; clear HB; have HO_16 := n0_; have HB := n1_; clear n0_ n1_; (try clear hb); (try clear hb2); (try clear hk); (try clear hi)) | ((with_reducible refine gate_callee (f := 11) rfl ?_); refine goesL_ (some 94) rfl rfl Try.func11 (by kernel_rfl) rfl #[.slice A0 m0_4.length c0] rfl (by (try simp only [List.map_toArray, List.map_cons, List.map_nil]); first | done | (rw [show m0_4.length = (ji4).toNat from (by rw [List.length_take]; have h_ : ((ji4) : Int) ≤ (l0.length : Int) := of_decide_eq_true (by first | (with_reducible assumption) | assumption); omega)] <;> rfl) | (simp only [hji4]; rfl) | rfl | (simp only [List.length_drop, List.length_take]; rfl)) ?_; (with_reducible refine (sum_Mean.calls k1 _ _ m0_4 t289 t290 _ ?side1 ?side2 A34.out).mono ?_); (case side1 => repeat (first | exact (Kd.C_below HR270.out HB.out) | (with_reducible refine Kd.C_alloc ?_ _) | (with_reducible refine Kd.C_drewN ?_ _) | (with_reducible refine Kd.C_drew ?_))); (case side2 => exact HC270.out); rintro e w105 ⟨rfl, hb⟩; refine ⟨_, rfl, ?_⟩; have n0_ := Aside0.mk (Kd.R_below (by (with_reducible repeat (first | apply Kd.R_alloc | apply Kd.R_drewN | apply Kd.R_drew)); exact HO_16.out) hb); have n1_ := Aside0.mk (below_step (by repeat (first | (with_reducible first | exact HB.out | apply below_alloc | apply pw_below_drewN | apply below_drew1) | exact HB.out)) hb); clear HO_16; clear HB; have HO_16 := n0_; have HB := n1_; clear n0_ n1_; (try clear hb); (try clear hb2); (try clear hk); (try clear hi)))
                                  go_ret
                                  exact ⟨by first | rfl | (simp [errW_none, errW_some] <;> rfl) | (simp only [← hji4, ← hji9]; first | rfl | (simp [errW_none, errW_some] <;> rfl)) | (simp [*, errW_none, errW_some] <;> rfl), by repeat (first | (with_reducible first | exact HB.out | apply below_alloc | apply pw_below_drewN | apply below_drew1) | exact HB.out)⟩
                                · rw [if_neg c102] at H
                                  have c102b0 : (t287 == t271) = false := beq_eq_false_iff_ne.mpr c102
                                  have c102b1 : (t287 != t271) = true := bne_iff_ne.mpr c102
                                  exact absurd ((Option.some.inj H).trans hr.out) (by decide)
                              · replace c101 := Bool.eq_false_iff.mpr c101
                                subst c101
                                have H1 : (if t280 = true then (if t287 = t271 then (some (t288 == t272)) else (some false)) else (if t279 = t271 then (if t272 = true then (some false) else (if t287 = t271 then (some (t288 == t272)) else (some false))) else (some false))) = some r := by rw [if_neg (show ¬ (false = true) by decide)] at H; exact H
                                clear H
                                have H := H1
                                clear H1
                                by_cases c109 : t280 = true
                                · subst c109
                                  have H1 : (if t287 = t271 then (some (t288 == t272)) else (some false)) = some r := by rw [if_pos rfl] at H; exact H
                                  clear H
                                  have H := H1
                                  clear H1
                                  by_cases c110 : t287 = t271
                                  · rw [if_pos c110] at H
                                    have c110b0 : (t287 == t271) = true := beq_iff_eq.mpr c110
                                    have c110b1 : (t287 != t271) = false := bne_eq_false_iff_eq.mpr c110
                                    clear c110
                                    clear hr
                                    obtain rfl := Option.some.inj H
                                    obtain ⟨Ao111, co111, eo111⟩ := Kd.R_slice HO_16.out
                                    subst eo111
                                    go_wp2_with (first | ((with_reducible refine gate_callee (f := 13) rfl ?_); refine goesL_ (some 89) rfl rfl Try.func13 (by kernel_rfl) rfl #[.slice A0 m0_4.length c0, .slice Ao111 x16_1.length co111] rfl (by (try simp only [List.map_toArray, List.map_cons, List.map_nil]); first | done | (rw [show m0_4.length = (ji4).toNat from (by rw [List.length_take]; have h_ : ((ji4) : Int) ≤ (l0.length : Int) := of_decide_eq_true (by first | (with_reducible assumption) | assumption); omega)] <;> rfl) | (simp only [hji4]; rfl) | rfl | (simp only [List.length_drop, List.length_take]; rfl)) ?_; (with_reducible refine (sum_Dot.calls k1 _ _ m0_4 _ _ x16_1 t287 t288 _ ?side1 ?side2 ?side3 ?side4 A33.out).mono ?_); (case side1 => repeat (first | exact (Kd.C_below HR270.out HB.out) | (with_reducible refine Kd.C_alloc ?_ _) | (with_reducible refine Kd.C_drewN ?_ _) | (with_reducible refine Kd.C_drew ?_))); (case side2 => exact HC270.out); (case side3 => repeat (first | exact (Kd.R_reads' HO_16.out).2.2 | (with_reducible refine Kd.C_alloc ?_ _) | (with_reducible refine Kd.C_drewN ?_ _) | (with_reducible refine Kd.C_drew ?_))); (case side4 => exact (Kd.R_reads' HO_16.out).2.1); rintro e w112 ⟨rfl, hb⟩; refine ⟨_, rfl, ?_⟩; have n0_ := Aside0.mk (Kd.R_below (by (with_reducible repeat (first | apply Kd.R_alloc | apply Kd.R_drewN | apply Kd.R_drew)); exact HO_16.out) hb); have n1_ := Aside0.mk (below_step (by repeat (first | (with_reducible first | exact HB.out | apply below_alloc | apply pw_below_drewN | apply below_drew1) | exact HB.out)) hb); clear HO_16; clear HB; have HO_16 := n0_; have HB := n1_; clear n0_ n1_; (try clear hb); (try clear hb2); (try clear hk); (try clear hi)) | ((with_reducible refine gate_callee (f := 11) rfl ?_); refine goesL_ (some 94) rfl rfl Try.func11 (by kernel_rfl) rfl #[.slice A0 m0_4.length c0] rfl (by (try simp only [List.map_toArray, List.map_cons, List.map_nil]); first | done | (rw [show m0_4.length = (ji4).toNat from (by rw [List.length_take]; have h_ : ((ji4) : Int) ≤ (l0.length : Int) := of_decide_eq_true (by first | (with_reducible assumption) | assumption); omega)] <;> rfl) | (simp only [hji4]; rfl) | rfl | (simp only [List.length_drop, List.length_take]; rfl)) ?_; (with_reducible refine (sum_Mean.calls k1 _ _ m0_4 t289 t290 _ ?side1 ?side2 A34.out).mono ?_); (case side1 => repeat (first | exact (Kd.C_below HR270.out HB.out) | (with_reducible refine Kd.C_alloc ?_ _) | (with_reducible refine Kd.C_drewN ?_ _) | (with_reducible refine Kd.C_drew ?_))); (case side2 => exact HC270.out); rintro e w113 ⟨rfl, hb⟩; refine ⟨_, rfl, ?_⟩; have n0_ := Aside0.mk (Kd.R_below (by (with_reducible repeat (first | apply Kd.R_alloc | apply Kd.R_drewN | apply Kd.R_drew)); exact HO_16.out) hb); have n1_ := Aside0.mk (below_step (by repeat (first | (with_reducible first | exact HB.out | apply below_alloc | apply pw_below_drewN | apply below_drew1) | exact HB.out)) hb); clear HO_16; clear HB; have HO_16 := n0_; have HB := n1_; clear n0_ n1_; (try clear hb); (try clear hb2); (try clear hk); (try clear hi)))
                                    go_ret
                                    exact ⟨by first | rfl | (simp [errW_none, errW_some] <;> rfl) | (simp only [← hji4, ← hji9]; first | rfl | (simp [errW_none, errW_some] <;> rfl)) | (simp [*, errW_none, errW_some] <;> rfl), by repeat (first | (with_reducible first | exact HB.out | apply below_alloc | apply pw_below_drewN | apply below_drew1) | exact HB.out)⟩
                                  · rw [if_neg c110] at H
                                    have c110b0 : (t287 == t271) = false := beq_eq_false_iff_ne.mpr c110
                                    have c110b1 : (t287 != t271) = true := bne_iff_ne.mpr c110
                                    exact absurd ((Option.some.inj H).trans hr.out) (by decide)
                                · replace c109 := Bool.eq_false_iff.mpr c109
                                  subst c109
                                  have H1 : (if t279 = t271 then (if t272 = true then (some false) else (if t287 = t271 then (some (t288 == t272)) else (some false))) else (some false)) = some r := by rw [if_neg (show ¬ (false = true) by decide)] at H; exact H
                                  clear H
                                  have H := H1
                                  clear H1
                                  by_cases c117 : t279 = t271
                                  · rw [if_pos c117] at H
                                    have c117b0 : (t279 == t271) = true := beq_iff_eq.mpr c117
                                    have c117b1 : (t279 != t271) = false := bne_eq_false_iff_eq.mpr c117
                                    clear c117
                                    by_cases c118 : t272 = true
                                    · subst c118
                                      have H1 : (some false) = some r := by rw [if_pos rfl] at H; exact H
                                      clear H
                                      have H := H1
                                      clear H1
                                      exact absurd ((Option.some.inj H).trans hr.out) (by decide)
                                    · replace c118 := Bool.eq_false_iff.mpr c118
                                      subst c118
                                      have H1 : (if t287 = t271 then (some (t288 == false)) else (some false)) = some r := by rw [if_neg (show ¬ (false = true) by decide)] at H; exact H
                                      clear H
                                      have H := H1
                                      clear H1
                                      by_cases c122 : t287 = t271
                                      · rw [if_pos c122] at H
                                        have c122b0 : (t287 == t271) = true := beq_iff_eq.mpr c122
                                        have c122b1 : (t287 != t271) = false := bne_eq_false_iff_eq.mpr c122
                                        clear c122
                                        clear hr
                                        obtain rfl := Option.some.inj H
                                        obtain ⟨Ao123, co123, eo123⟩ := Kd.R_slice HO_16.out
                                        subst eo123
                                        go_wp2_with (first | ((with_reducible refine gate_callee (f := 13) rfl ?_); refine goesL_ (some 89) rfl rfl Try.func13 (by kernel_rfl) rfl #[.slice A0 m0_4.length c0, .slice Ao123 x16_1.length co123] rfl (by (try simp only [List.map_toArray, List.map_cons, List.map_nil]); first | done | (rw [show m0_4.length = (ji4).toNat from (by rw [List.length_take]; have h_ : ((ji4) : Int) ≤ (l0.length : Int) := of_decide_eq_true (by first | (with_reducible assumption) | assumption); omega)] <;> rfl) | (simp only [hji4]; rfl) | rfl | (simp only [List.length_drop, List.length_take]; rfl)) ?_; (with_reducible refine (sum_Dot.calls k1 _ _ m0_4 _ _ x16_1 t287 t288 _ ?side1 ?side2 ?side3 ?side4 A33.out).mono ?_); (case side1 => repeat (first | exact (Kd.C_below HR270.out HB.out) | (with_reducible refine Kd.C_alloc ?_ _) | (with_reducible refine Kd.C_drewN ?_ _) | (with_reducible refine Kd.C_drew ?_))); (case side2 => exact HC270.out); (case side3 => repeat (first | exact (Kd.R_reads' HO_16.out).2.2 | (with_reducible refine Kd.C_alloc ?_ _) | (with_reducible refine Kd.C_drewN ?_ _) | (with_reducible refine Kd.C_drew ?_))); (case side4 => exact (Kd.R_reads' HO_16.out).2.1); rintro e w124 ⟨rfl, hb⟩; refine ⟨_, rfl, ?_⟩; have n0_ := Aside0.mk (Kd.R_below (by (with_reducible repeat (first | apply Kd.R_alloc | apply Kd.R_drewN | apply Kd.R_drew)); exact HO_16.out) hb); have n1_ := Aside0.mk (below_step (by repeat (first | (with_reducible first | exact HB.out | apply below_alloc | apply pw_below_drewN | apply below_drew1) | exact HB.out)) hb); clear HO_16; clear HB; have HO_16 := n0_; have HB := n1_; clear n0_ n1_; (try clear hb); (try clear hb2); (try clear hk); (try clear hi)) | ((with_reducible refine gate_callee (f := 11) rfl ?_); refine goesL_ (some 94) rfl rfl Try.func11 (by kernel_rfl) rfl #[.slice A0 m0_4.length c0] rfl (by (try simp only [List.map_toArray, List.map_cons, List.map_nil]); first | done | (rw [show m0_4.length = (ji4).toNat from (by rw [List.length_take]; have h_ : ((ji4) : Int) ≤ (l0.length : Int) := of_decide_eq_true (by first | (with_reducible assumption) | assumption); omega)] <;> rfl) | (simp only [hji4]; rfl) | rfl | (simp only [List.length_drop, List.length_take]; rfl)) ?_; (with_reducible refine (sum_Mean.calls k1 _ _ m0_4 t289 t290 _ ?side1 ?side2 A34.out).mono ?_); (case side1 => repeat (first | exact (Kd.C_below HR270.out HB.out) | (with_reducible refine Kd.C_alloc ?_ _) | (with_reducible refine Kd.C_drewN ?_ _) | (with_reducible refine Kd.C_drew ?_))); (case side2 => exact HC270.out); rintro e w125 ⟨rfl, hb⟩; refine ⟨_, rfl, ?_⟩; have n0_ := Aside0.mk (Kd.R_below (by (with_reducible repeat (first | apply Kd.R_alloc | apply Kd.R_drewN | apply Kd.R_drew)); exact HO_16.out) hb); have n1_ := Aside0.mk (below_step (by repeat (first | (with_reducible first | exact HB.out | apply below_alloc | apply pw_below_drewN | apply below_drew1) | exact HB.out)) hb); clear HO_16; clear HB; have HO_16 := n0_; have HB := n1_; clear n0_ n1_; (try clear hb); (try clear hb2); (try clear hk); (try clear hi)))
                                        go_ret
                                        exact ⟨by first | rfl | (simp [errW_none, errW_some] <;> rfl) | (simp only [← hji4, ← hji9]; first | rfl | (simp [errW_none, errW_some] <;> rfl)) | (simp [*, errW_none, errW_some] <;> rfl), by repeat (first | (with_reducible first | exact HB.out | apply below_alloc | apply pw_below_drewN | apply below_drew1) | exact HB.out)⟩
                                      · rw [if_neg c122] at H
                                        have c122b0 : (t287 == t271) = false := beq_eq_false_iff_ne.mpr c122
                                        have c122b1 : (t287 != t271) = true := bne_iff_ne.mpr c122
                                        exact absurd ((Option.some.inj H).trans hr.out) (by decide)
                                  · rw [if_neg c117] at H
                                    have c117b0 : (t279 == t271) = false := beq_eq_false_iff_ne.mpr c117
                                    have c117b1 : (t279 != t271) = true := bne_iff_ne.mpr c117
                                    exact absurd ((Option.some.inj H).trans hr.out) (by decide)
                          · replace c92 := Bool.eq_false_iff.mpr c92
                            subst c92
                            have H1 : (some false) = some r := by rw [if_neg (show ¬ (false = true) by decide)] at H; exact H
                            clear H
                            have H := H1
                            clear H1
                            exact absurd ((Option.some.inj H).trans hr.out) (by decide)
                  · rw [if_neg c35] at H
                    have c35b0 : decide (0 < (m0_4.length : Int)) = false := decide_eq_false c35
                    have c35b1 : decide (0 < m0_4.length) = false := decide_eq_false (by omega)
                    clear c35
                    by_cases c135 : (m0_4.length : Int) = 0
                    · rw [if_pos c135] at H
                      have c135b0 : ((m0_4.length : Int) == 0) = true := beq_iff_eq.mpr c135
                      have c135b1 : ((m0_4.length : Int) != 0) = false := bne_eq_false_iff_eq.mpr c135
                      clear c135
                      by_cases c136 : t289 = 0
                      · rw [if_pos c136] at H
                        have c136b0 : (t289 == 0) = true := beq_iff_eq.mpr c136
                        have c136b1 : (t289 != 0) = false := bne_eq_false_iff_eq.mpr c136
                        clear c136
                        by_cases c137 : t269 = true
                        · subst c137
                          have H1 : (if t275 = true then (if t287 = t271 then (some (t288 == t272)) else (some false)) else (if t278 = true then (if t287 = t271 then (some (t288 == t272)) else (some false)) else (if t280 = true then (if t287 = t271 then (some (t288 == t272)) else (some false)) else (if t279 = t271 then (if t272 = true then (some false) else (if t287 = t271 then (some (t288 == t272)) else (some false))) else (some false))))) = some r := by rw [if_pos rfl] at H; exact H
                          clear H
                          have H := H1
                          clear H1
                          by_cases c138 : t275 = true
                          · subst c138
                            have H1 : (if t287 = t271 then (some (t288 == t272)) else (some false)) = some r := by rw [if_pos rfl] at H; exact H
                            clear H
                            have H := H1
                            clear H1
                            by_cases c139 : t287 = t271
                            · rw [if_pos c139] at H
                              have c139b0 : (t287 == t271) = true := beq_iff_eq.mpr c139
                              have c139b1 : (t287 != t271) = false := bne_eq_false_iff_eq.mpr c139
                              clear c139
                              clear hr
                              obtain rfl := Option.some.inj H
                              obtain ⟨Ao140, co140, eo140⟩ := Kd.R_slice HO_16.out
                              subst eo140
                              go_wp2_with (first | ((with_reducible refine gate_callee (f := 13) rfl ?_); refine goesL_ (some 89) rfl rfl Try.func13 (by kernel_rfl) rfl #[.slice A0 m0_4.length c0, .slice Ao140 x16_1.length co140] rfl (by (try simp only [List.map_toArray, List.map_cons, List.map_nil]); first | done | (rw [show m0_4.length = (ji4).toNat from (by rw [List.length_take]; have h_ : ((ji4) : Int) ≤ (l0.length : Int) := of_decide_eq_true (by first | (with_reducible assumption) | assumption); omega)] <;> rfl) | (simp only [hji4]; rfl) | rfl | (simp only [List.length_drop, List.length_take]; rfl)) ?_; (with_reducible refine (sum_Dot.calls k1 _ _ m0_4 _ _ x16_1 t287 t288 _ ?side1 ?side2 ?side3 ?side4 A33.out).mono ?_); (case side1 => repeat (first | exact (Kd.C_below HR270.out HB.out) | (with_reducible refine Kd.C_alloc ?_ _) | (with_reducible refine Kd.C_drewN ?_ _) | (with_reducible refine Kd.C_drew ?_))); (case side2 => exact HC270.out); (case side3 => repeat (first | exact (Kd.R_reads' HO_16.out).2.2 | (with_reducible refine Kd.C_alloc ?_ _) | (with_reducible refine Kd.C_drewN ?_ _) | (with_reducible refine Kd.C_drew ?_))); (case side4 => exact (Kd.R_reads' HO_16.out).2.1); rintro e w141 ⟨rfl, hb⟩; refine ⟨_, rfl, ?_⟩; have n0_ := Aside0.mk (Kd.R_below (by (with_reducible repeat (first | apply Kd.R_alloc | apply Kd.R_drewN | apply Kd.R_drew)); exact HO_16.out) hb); have n1_ := Aside0.mk (below_step (by repeat (first | (with_reducible first | exact HB.out | apply below_alloc | apply pw_below_drewN | apply below_drew1) | exact HB.out)) hb); clear HO_16; clear HB; have HO_16 := n0_; have HB := n1_; clear n0_ n1_; (try clear hb); (try clear hb2); (try clear hk); (try clear hi)) | ((with_reducible refine gate_callee (f := 11) rfl ?_); refine goesL_ (some 94) rfl rfl Try.func11 (by kernel_rfl) rfl #[.slice A0 m0_4.length c0] rfl (by (try simp only [List.map_toArray, List.map_cons, List.map_nil]); first | done | (rw [show m0_4.length = (ji4).toNat from (by rw [List.length_take]; have h_ : ((ji4) : Int) ≤ (l0.length : Int) := of_decide_eq_true (by first | (with_reducible assumption) | assumption); omega)] <;> rfl) | (simp only [hji4]; rfl) | rfl | (simp only [List.length_drop, List.length_take]; rfl)) ?_; (with_reducible refine (sum_Mean.calls k1 _ _ m0_4 t289 t290 _ ?side1 ?side2 A34.out).mono ?_); (case side1 => repeat (first | exact (Kd.C_below HR270.out HB.out) | (with_reducible refine Kd.C_alloc ?_ _) | (with_reducible refine Kd.C_drewN ?_ _) | (with_reducible refine Kd.C_drew ?_))); (case side2 => exact HC270.out); rintro e w142 ⟨rfl, hb⟩; refine ⟨_, rfl, ?_⟩; have n0_ := Aside0.mk (Kd.R_below (by (with_reducible repeat (first | apply Kd.R_alloc | apply Kd.R_drewN | apply Kd.R_drew)); exact HO_16.out) hb); have n1_ := Aside0.mk (below_step (by repeat (first | (with_reducible first | exact HB.out | apply below_alloc | apply pw_below_drewN | apply below_drew1) | exact HB.out)) hb); clear HO_16; clear HB; have HO_16 := n0_; have HB := n1_; clear n0_ n1_; (try clear hb); (try clear hb2); (try clear hk); (try clear hi)))
                              go_ret
                              exact ⟨by first | rfl | (simp [errW_none, errW_some] <;> rfl) | (simp only [← hji4, ← hji9]; first | rfl | (simp [errW_none, errW_some] <;> rfl)) | (simp [*, errW_none, errW_some] <;> rfl), by repeat (first | (with_reducible first | exact HB.out | apply below_alloc | apply pw_below_drewN | apply below_drew1) | exact HB.out)⟩
                            · rw [if_neg c139] at H
                              have c139b0 : (t287 == t271) = false := beq_eq_false_iff_ne.mpr c139
                              have c139b1 : (t287 != t271) = true := bne_iff_ne.mpr c139
                              exact absurd ((Option.some.inj H).trans hr.out) (by decide)
                          · replace c138 := Bool.eq_false_iff.mpr c138
                            subst c138
                            have H1 : (if t278 = true then (if t287 = t271 then (some (t288 == t272)) else (some false)) else (if t280 = true then (if t287 = t271 then (some (t288 == t272)) else (some false)) else (if t279 = t271 then (if t272 = true then (some false) else (if t287 = t271 then (some (t288 == t272)) else (some false))) else (some false)))) = some r := by rw [if_neg (show ¬ (false = true) by decide)] at H; exact H
                            clear H
                            have H := H1
                            clear H1
                            by_cases c146 : t278 = true
                            · subst c146
                              have H1 : (if t287 = t271 then (some (t288 == t272)) else (some false)) = some r := by rw [if_pos rfl] at H; exact H
                              clear H
                              have H := H1
                              clear H1
                              by_cases c147 : t287 = t271
                              · rw [if_pos c147] at H
                                have c147b0 : (t287 == t271) = true := beq_iff_eq.mpr c147
                                have c147b1 : (t287 != t271) = false := bne_eq_false_iff_eq.mpr c147
                                clear c147
                                clear hr
                                obtain rfl := Option.some.inj H
                                obtain ⟨Ao148, co148, eo148⟩ := Kd.R_slice HO_16.out
                                subst eo148
                                go_wp2_with (first | ((with_reducible refine gate_callee (f := 13) rfl ?_); refine goesL_ (some 89) rfl rfl Try.func13 (by kernel_rfl) rfl #[.slice A0 m0_4.length c0, .slice Ao148 x16_1.length co148] rfl (by (try simp only [List.map_toArray, List.map_cons, List.map_nil]); first | done | (rw [show m0_4.length = (ji4).toNat from (by rw [List.length_take]; have h_ : ((ji4) : Int) ≤ (l0.length : Int) := of_decide_eq_true (by first | (with_reducible assumption) | assumption); omega)] <;> rfl) | (simp only [hji4]; rfl) | rfl | (simp only [List.length_drop, List.length_take]; rfl)) ?_; (with_reducible refine (sum_Dot.calls k1 _ _ m0_4 _ _ x16_1 t287 t288 _ ?side1 ?side2 ?side3 ?side4 A33.out).mono ?_); (case side1 => repeat (first | exact (Kd.C_below HR270.out HB.out) | (with_reducible refine Kd.C_alloc ?_ _) | (with_reducible refine Kd.C_drewN ?_ _) | (with_reducible refine Kd.C_drew ?_))); (case side2 => exact HC270.out); (case side3 => repeat (first | exact (Kd.R_reads' HO_16.out).2.2 | (with_reducible refine Kd.C_alloc ?_ _) | (with_reducible refine Kd.C_drewN ?_ _) | (with_reducible refine Kd.C_drew ?_))); (case side4 => exact (Kd.R_reads' HO_16.out).2.1); rintro e w149 ⟨rfl, hb⟩; refine ⟨_, rfl, ?_⟩; have n0_ := Aside0.mk (Kd.R_below (by (with_reducible repeat (first | apply Kd.R_alloc | apply Kd.R_drewN | apply Kd.R_drew)); exact HO_16.out) hb); have n1_ := Aside0.mk (below_step (by repeat (first | (with_reducible first | exact HB.out | apply below_alloc | apply pw_below_drewN | apply below_drew1) | exact HB.out)) hb); clear HO_16; clear HB; have HO_16 := n0_; have HB := n1_; clear n0_ n1_; (try clear hb); (try clear hb2); (try clear hk); (try clear hi)) | ((with_reducible refine gate_callee (f := 11) rfl ?_); refine goesL_ (some 94) rfl rfl Try.func11 (by kernel_rfl) rfl #[.slice A0 m0_4.length c0] rfl (by (try simp only [List.map_toArray, List.map_cons, List.map_nil]); first | done | (rw [show m0_4.length = (ji4).toNat from (by rw [List.length_take]; have h_ : ((ji4) : Int) ≤ (l0.length : Int) := of_decide_eq_true (by first | (with_reducible assumption) | assumption); omega)] <;> rfl) | (simp only [hji4]; rfl) | rfl | (simp only [List.length_drop, List.length_take]; rfl)) ?_; (with_reducible refine (sum_Mean.calls k1 _ _ m0_4 t289 t290 _ ?side1 ?side2 A34.out).mono ?_); (case side1 => repeat (first | exact (Kd.C_below HR270.out HB.out) | (with_reducible refine Kd.C_alloc ?_ _) | (with_reducible refine Kd.C_drewN ?_ _) | (with_reducible refine Kd.C_drew ?_))); (case side2 => exact HC270.out); rintro e w150 ⟨rfl, hb⟩; refine ⟨_, rfl, ?_⟩; have n0_ := Aside0.mk (Kd.R_below (by (with_reducible repeat (first | apply Kd.R_alloc | apply Kd.R_drewN | apply Kd.R_drew)); exact HO_16.out) hb); have n1_ := Aside0.mk (below_step (by repeat (first | (with_reducible first | exact HB.out | apply below_alloc | apply pw_below_drewN | apply below_drew1) | exact HB.out)) hb); clear HO_16; clear HB; have HO_16 := n0_; have HB := n1_; clear n0_ n1_; (try clear hb); (try clear hb2); (try clear hk); (try clear hi)))
                                go_ret
                                exact ⟨by first | rfl | (simp [errW_none, errW_some] <;> rfl) | (simp only [← hji4, ← hji9]; first | rfl | (simp [errW_none, errW_some] <;> rfl)) | (simp [*, errW_none, errW_some] <;> rfl), by repeat (first | (with_reducible first | exact HB.out | apply below_alloc | apply pw_below_drewN | apply below_drew1) | exact HB.out)⟩
                              · rw [if_neg c147] at H
                                have c147b0 : (t287 == t271) = false := beq_eq_false_iff_ne.mpr c147
                                have c147b1 : (t287 != t271) = true := bne_iff_ne.mpr c147
                                exact absurd ((Option.some.inj H).trans hr.out) (by decide)
                            · replace c146 := Bool.eq_false_iff.mpr c146
                              subst c146
                              have H1 : (if t280 = true then (if t287 = t271 then (some (t288 == t272)) else (some false)) else (if t279 = t271 then (if t272 = true then (some false) else (if t287 = t271 then (some (t288 == t272)) else (some false))) else (some false))) = some r := by rw [if_neg (show ¬ (false = true) by decide)] at H; exact H
                              clear H
                              have H := H1
                              clear H1
                              by_cases c154 : t280 = true
                              · subst c154
                                have H1 : (if t287 = t271 then (some (t288 == t272)) else (some false)) = some r := by rw [if_pos rfl] at H; exact H
                                clear H
                                have H := H1
                                clear H1
                                by_cases c155 : t287 = t271
                                · rw [if_pos c155] at H
                                  have c155b0 : (t287 == t271) = true := beq_iff_eq.mpr c155
                                  have c155b1 : (t287 != t271) = false := bne_eq_false_iff_eq.mpr c155
                                  clear c155
                                  clear hr
                                  obtain rfl := Option.some.inj H
                                  obtain ⟨Ao156, co156, eo156⟩ := Kd.R_slice HO_16.out
                                  subst eo156
                                  go_wp2_with (first | ((with_reducible refine gate_callee (f := 13) rfl ?_); refine goesL_ (some 89) rfl rfl Try.func13 (by kernel_rfl) rfl #[.slice A0 m0_4.length c0, .slice Ao156 x16_1.length co156] rfl (by (try simp only [List.map_toArray, List.map_cons, List.map_nil]); first | done | (rw [show m0_4.length = (ji4).toNat from (by rw [List.length_take]; have h_ : ((ji4) : Int) ≤ (l0.length : Int) := of_decide_eq_true (by first | (with_reducible assumption) | assumption); omega)] <;> rfl) | (simp only [hji4]; rfl) | rfl | (simp only [List.length_drop, List.length_take]; rfl)) ?_; (with_reducible refine (sum_Dot.calls k1 _ _ m0_4 _ _ x16_1 t287 t288 _ ?side1 ?side2 ?side3 ?side4 A33.out).mono ?_); (case side1 => repeat (first | exact (Kd.C_below HR270.out HB.out) | (with_reducible refine Kd.C_alloc ?_ _) | (with_reducible refine Kd.C_drewN ?_ _) | (with_reducible refine Kd.C_drew ?_))); (case side2 => exact HC270.out); (case side3 => repeat (first | exact (Kd.R_reads' HO_16.out).2.2 | (with_reducible refine Kd.C_alloc ?_ _) | (with_reducible refine Kd.C_drewN ?_ _) | (with_reducible refine Kd.C_drew ?_))); (case side4 => exact (Kd.R_reads' HO_16.out).2.1); rintro e w157 ⟨rfl, hb⟩; refine ⟨_, rfl, ?_⟩; have n0_ := Aside0.mk (Kd.R_below (by (with_reducible repeat (first | apply Kd.R_alloc | apply Kd.R_drewN | apply Kd.R_drew)); exact HO_16.out) hb); have n1_ := Aside0.mk (below_step (by repeat (first | (with_reducible first | exact HB.out | apply below_alloc | apply pw_below_drewN | apply below_drew1) | exact HB.out)) hb); clear HO_16; clear HB; have HO_16 := n0_; have HB := n1_; clear n0_ n1_; (try clear hb); (try clear hb2); (try clear hk); (try clear hi)) | ((with_reducible refine gate_callee (f := 11) rfl ?_); refine goesL_ (some 94) rfl rfl Try.func11 (by kernel_rfl) rfl #[.slice A0 m0_4.length c0] rfl (by (try simp only [List.map_toArray, List.map_cons, List.map_nil]); first | done | (rw [show m0_4.length = (ji4).toNat from (by rw [List.length_take]; have h_ : ((ji4) : Int) ≤ (l0.length : Int) := of_decide_eq_true (by first | (with_reducible assumption) | assumption); omega)] <;> rfl) | (simp only [hji4]; rfl) | rfl | (simp only [List.length_drop, List.length_take]; rfl)) ?_; (with_reducible refine (sum_Mean.calls k1 _ _ m0_4 t289 t290 _ ?side1 ?side2 A34.out).mono ?_); (case side1 => repeat (first | exact (Kd.C_below HR270.out HB.out) | (with_reducible refine Kd.C_alloc ?_ _) | (with_reducible refine Kd.C_drewN ?_ _) | (with_reducible refine Kd.C_drew ?_))); (case side2 => exact HC270.out); rintro e w158 ⟨rfl, hb⟩; refine ⟨_, rfl, ?_⟩; have n0_ := Aside0.mk (Kd.R_below (by (with_reducible repeat (first | apply Kd.R_alloc | apply Kd.R_drewN | apply Kd.R_drew)); exact HO_16.out) hb); have n1_ := Aside0.mk (below_step (by repeat (first | (with_reducible first | exact HB.out | apply below_alloc | apply pw_below_drewN | apply below_drew1) | exact HB.out)) hb); clear HO_16; clear HB; have HO_16 := n0_; have HB := n1_; clear n0_ n1_; (try clear hb); (try clear hb2); (try clear hk); (try clear hi)))
                                  go_ret
                                  exact ⟨by first | rfl | (simp [errW_none, errW_some] <;> rfl) | (simp only [← hji4, ← hji9]; first | rfl | (simp [errW_none, errW_some] <;> rfl)) | (simp [*, errW_none, errW_some] <;> rfl), by repeat (first | (with_reducible first | exact HB.out | apply below_alloc | apply pw_below_drewN | apply below_drew1) | exact HB.out)⟩
                                · rw [if_neg c155] at H
                                  have c155b0 : (t287 == t271) = false := beq_eq_false_iff_ne.mpr c155
                                  have c155b1 : (t287 != t271) = true := bne_iff_ne.mpr c155
                                  exact absurd ((Option.some.inj H).trans hr.out) (by decide)
                              · replace c154 := Bool.eq_false_iff.mpr c154
                                subst c154
                                have H1 : (if t279 = t271 then (if t272 = true then (some false) else (if t287 = t271 then (some (t288 == t272)) else (some false))) else (some false)) = some r := by rw [if_neg (show ¬ (false = true) by decide)] at H; exact H
                                clear H
                                have H := H1
                                clear H1
                                by_cases c162 : t279 = t271
                                · rw [if_pos c162] at H
                                  have c162b0 : (t279 == t271) = true := beq_iff_eq.mpr c162
                                  have c162b1 : (t279 != t271) = false := bne_eq_false_iff_eq.mpr c162
                                  clear c162
                                  by_cases c163 : t272 = true
                                  · subst c163
                                    have H1 : (some false) = some r := by rw [if_pos rfl] at H; exact H
                                    clear H
                                    have H := H1
                                    clear H1
                                    exact absurd ((Option.some.inj H).trans hr.out) (by decide)
                                  · replace c163 := Bool.eq_false_iff.mpr c163
                                    subst c163
                                    have H1 : (if t287 = t271 then (some (t288 == false)) else (some false)) = some r := by rw [if_neg (show ¬ (false = true) by decide)] at H; exact H
                                    clear H
                                    have H := H1
                                    clear H1
                                    by_cases c167 : t287 = t271
                                    · rw [if_pos c167] at H
                                      have c167b0 : (t287 == t271) = true := beq_iff_eq.mpr c167
                                      have c167b1 : (t287 != t271) = false := bne_eq_false_iff_eq.mpr c167
                                      clear c167
                                      clear hr
                                      obtain rfl := Option.some.inj H
                                      obtain ⟨Ao168, co168, eo168⟩ := Kd.R_slice HO_16.out
                                      subst eo168
                                      go_wp2_with (first | ((with_reducible refine gate_callee (f := 13) rfl ?_); refine goesL_ (some 89) rfl rfl Try.func13 (by kernel_rfl) rfl #[.slice A0 m0_4.length c0, .slice Ao168 x16_1.length co168] rfl (by (try simp only [List.map_toArray, List.map_cons, List.map_nil]); first | done | (rw [show m0_4.length = (ji4).toNat from (by rw [List.length_take]; have h_ : ((ji4) : Int) ≤ (l0.length : Int) := of_decide_eq_true (by first | (with_reducible assumption) | assumption); omega)] <;> rfl) | (simp only [hji4]; rfl) | rfl | (simp only [List.length_drop, List.length_take]; rfl)) ?_; (with_reducible refine (sum_Dot.calls k1 _ _ m0_4 _ _ x16_1 t287 t288 _ ?side1 ?side2 ?side3 ?side4 A33.out).mono ?_); (case side1 => repeat (first | exact (Kd.C_below HR270.out HB.out) | (with_reducible refine Kd.C_alloc ?_ _) | (with_reducible refine Kd.C_drewN ?_ _) | (with_reducible refine Kd.C_drew ?_))); (case side2 => exact HC270.out); (case side3 => repeat (first | exact (Kd.R_reads' HO_16.out).2.2 | (with_reducible refine Kd.C_alloc ?_ _) | (with_reducible refine Kd.C_drewN ?_ _) | (with_reducible refine Kd.C_drew ?_))); (case side4 => exact (Kd.R_reads' HO_16.out).2.1); rintro e w169 ⟨rfl, hb⟩; refine ⟨_, rfl, ?_⟩; have n0_ := Aside0.mk (Kd.R_below (by (with_reducible repeat (first | apply Kd.R_alloc | apply Kd.R_drewN | apply Kd.R_drew)); exact HO_16.out) hb); have n1_ := Aside0.mk (below_step (by repeat (first | (with_reducible first | exact HB.out | apply below_alloc | apply pw_below_drewN | apply below_drew1) | exact HB.out)) hb); clear HO_16; clear HB; have HO_16 := n0_; have HB := n1_; clear n0_ n1_; (try clear hb); (try clear hb2); (try clear hk); (try clear hi)) | ((with_reducible refine gate_callee (f := 11) rfl ?_); refine goesL_ (some 94) rfl rfl Try.func11 (by kernel_rfl) rfl #[.slice A0 m0_4.length c0] rfl (by (try simp only [List.map_toArray, List.map_cons, List.map_nil]); first | done | (rw [show m0_4.length = (ji4).toNat from (by rw [List.length_take]; have h_ : ((ji4) : Int) ≤ (l0.length : Int) := of_decide_eq_true (by first | (with_reducible assumption) | assumption); omega)] <;> rfl) | (simp only [hji4]; rfl) | rfl | (simp only [List.length_drop, List.length_take]; rfl)) ?_; (with_reducible refine (sum_Mean.calls k1 _ _ m0_4 t289 t290 _ ?side1 ?side2 A34.out).mono ?_); (case side1 => repeat (first | exact (Kd.C_below HR270.out HB.out) | (with_reducible refine Kd.C_alloc ?_ _) | (with_reducible refine Kd.C_drewN ?_ _) | (with_reducible refine Kd.C_drew ?_))); (case side2 => exact HC270.out); rintro e w170 ⟨rfl, hb⟩; refine ⟨_, rfl, ?_⟩; have n0_ := Aside0.mk (Kd.R_below (by (with_reducible repeat (first | apply Kd.R_alloc | apply Kd.R_drewN | apply Kd.R_drew)); exact HO_16.out) hb); have n1_ := Aside0.mk (below_step (by repeat (first | (with_reducible first | exact HB.out | apply below_alloc | apply pw_below_drewN | apply below_drew1) | exact HB.out)) hb); clear HO_16; clear HB; have HO_16 := n0_; have HB := n1_; clear n0_ n1_; (try clear hb); (try clear hb2); (try clear hk); (try clear hi)))
                                      go_ret
                                      exact ⟨by first | rfl | (simp [errW_none, errW_some] <;> rfl) | (simp only [← hji4, ← hji9]; first | rfl | (simp [errW_none, errW_some] <;> rfl)) | (simp [*, errW_none, errW_some] <;> rfl), by repeat (first | (with_reducible first | exact HB.out | apply below_alloc | apply pw_below_drewN | apply below_drew1) | exact HB.out)⟩
                                    · rw [if_neg c167] at H
                                      have c167b0 : (t287 == t271) = false := beq_eq_false_iff_ne.mpr c167
                                      have c167b1 : (t287 != t271) = true := bne_iff_ne.mpr c167
                                      exact absurd ((Option.some.inj H).trans hr.out) (by decide)
                                · rw [if_neg c162] at H
                                  have c162b0 : (t279 == t271) = false := beq_eq_false_iff_ne.mpr c162
                                  have c162b1 : (t279 != t271) = true := bne_iff_ne.mpr c162
                                  exact absurd ((Option.some.inj H).trans hr.out) (by decide)
                        · replace c137 := Bool.eq_false_iff.mpr c137
                          subst c137
                          have H1 : (some false) = some r := by rw [if_neg (show ¬ (false = true) by decide)] at H; exact H
                          clear H
                          have H := H1
                          clear H1
                          exact absurd ((Option.some.inj H).trans hr.out) (by decide)
                      · rw [if_neg c136] at H
                        have c136b0 : (t289 == 0) = false := beq_eq_false_iff_ne.mpr c136
                        have c136b1 : (t289 != 0) = true := bne_iff_ne.mpr c136
                        exact absurd ((Option.some.inj H).trans hr.out) (by decide)
                    · rw [if_neg c135] at H
                      have c135b0 : ((m0_4.length : Int) == 0) = false := beq_eq_false_iff_ne.mpr c135
                      have c135b1 : ((m0_4.length : Int) != 0) = true := bne_iff_ne.mpr c135
                      have c135b2 : ¬ (m0_4 = []) := fun h_ => c135 (by rw [h_]; rfl)
                      by_cases c183 : t269 = true
                      · subst c183
                        have H1 : (if t275 = true then (if t287 = t271 then (some (t288 == t272)) else (some false)) else (if t278 = true then (if t287 = t271 then (some (t288 == t272)) else (some false)) else (if t280 = true then (if t287 = t271 then (some (t288 == t272)) else (some false)) else (if t279 = t271 then (if t272 = true then (some false) else (if t287 = t271 then (some (t288 == t272)) else (some false))) else (some false))))) = some r := by rw [if_pos rfl] at H; exact H
                        clear H
                        have H := H1
                        clear H1
                        by_cases c184 : t275 = true
                        · subst c184
                          have H1 : (if t287 = t271 then (some (t288 == t272)) else (some false)) = some r := by rw [if_pos rfl] at H; exact H
                          clear H
                          have H := H1
                          clear H1
                          by_cases c185 : t287 = t271
                          · rw [if_pos c185] at H
                            have c185b0 : (t287 == t271) = true := beq_iff_eq.mpr c185
                            have c185b1 : (t287 != t271) = false := bne_eq_false_iff_eq.mpr c185
                            clear c185
                            clear hr
                            obtain rfl := Option.some.inj H
                            obtain ⟨Ao186, co186, eo186⟩ := Kd.R_slice HO_16.out
                            subst eo186
                            go_wp2_with (first | ((with_reducible refine gate_callee (f := 13) rfl ?_); refine goesL_ (some 89) rfl rfl Try.func13 (by kernel_rfl) rfl #[.slice A0 m0_4.length c0, .slice Ao186 x16_1.length co186] rfl (by (try simp only [List.map_toArray, List.map_cons, List.map_nil]); first | done | (rw [show m0_4.length = (ji4).toNat from (by rw [List.length_take]; have h_ : ((ji4) : Int) ≤ (l0.length : Int) := of_decide_eq_true (by first | (with_reducible assumption) | assumption); omega)] <;> rfl) | (simp only [hji4]; rfl) | rfl | (simp only [List.length_drop, List.length_take]; rfl)) ?_; (with_reducible refine (sum_Dot.calls k1 _ _ m0_4 _ _ x16_1 t287 t288 _ ?side1 ?side2 ?side3 ?side4 A33.out).mono ?_); (case side1 => repeat (first | exact (Kd.C_below HR270.out HB.out) | (with_reducible refine Kd.C_alloc ?_ _) | (with_reducible refine Kd.C_drewN ?_ _) | (with_reducible refine Kd.C_drew ?_))); (case side2 => exact HC270.out); (case side3 => repeat (first | exact (Kd.R_reads' HO_16.out).2.2 | (with_reducible refine Kd.C_alloc ?_ _) | (with_reducible refine Kd.C_drewN ?_ _) | (with_reducible refine Kd.C_drew ?_))); (case side4 => exact (Kd.R_reads' HO_16.out).2.1); rintro e w187 ⟨rfl, hb⟩; refine ⟨_, rfl, ?_⟩; have n0_ := Aside0.mk (Kd.R_below (by (with_reducible repeat (first | apply Kd.R_alloc | apply Kd.R_drewN | apply Kd.R_drew)); exact HO_16.out) hb); have n1_ := Aside0.mk (below_step (by repeat (first | (with_reducible first | exact HB.out | apply below_alloc | apply pw_below_drewN | apply below_drew1) | exact HB.out)) hb); clear HO_16; clear HB; have HO_16 := n0_; have HB := n1_; clear n0_ n1_; (try clear hb); (try clear hb2); (try clear hk); (try clear hi)) | ((with_reducible refine gate_callee (f := 11) rfl ?_); refine goesL_ (some 94) rfl rfl Try.func11 (by kernel_rfl) rfl #[.slice A0 m0_4.length c0] rfl (by (try simp only [List.map_toArray, List.map_cons, List.map_nil]); first | done | (rw [show m0_4.length = (ji4).toNat from (by rw [List.length_take]; have h_ : ((ji4) : Int) ≤ (l0.length : Int) := of_decide_eq_true (by first | (with_reducible assumption) | assumption); omega)] <;> rfl) | (simp only [hji4]; rfl) | rfl | (simp only [List.length_drop, List.length_take]; rfl)) ?_; (with_reducible refine (sum_Mean.calls k1 _ _ m0_4 t289 t290 _ ?side1 ?side2 A34.out).mono ?_); (case side1 => repeat (first | exact (Kd.C_below HR270.out HB.out) | (with_reducible refine Kd.C_alloc ?_ _) | (with_reducible refine Kd.C_drewN ?_ _) | (with_reducible refine Kd.C_drew ?_))); (case side2 => exact HC270.out); rintro e w188 ⟨rfl, hb⟩; refine ⟨_, rfl, ?_⟩; have n0_ := Aside0.mk (Kd.R_below (by (with_reducible repeat (first | apply Kd.R_alloc | apply Kd.R_drewN | apply Kd.R_drew)); exact HO_16.out) hb); have n1_ := Aside0.mk (below_step (by repeat (first | (with_reducible first | exact HB.out | apply below_alloc | apply pw_below_drewN | apply below_drew1) | exact HB.out)) hb); clear HO_16; clear HB; have HO_16 := n0_; have HB := n1_; clear n0_ n1_; (try clear hb); (try clear hb2); (try clear hk); (try clear hi)))
                            go_ret
                            exact ⟨by first | rfl | (simp [errW_none, errW_some] <;> rfl) | (simp only [← hji4, ← hji9]; first | rfl | (simp [errW_none, errW_some] <;> rfl)) | (simp [*, errW_none, errW_some] <;> rfl), by repeat (first | (with_reducible first | exact HB.out | apply below_alloc | apply pw_below_drewN | apply below_drew1) | exact HB.out)⟩
                          · rw [if_neg c185] at H
                            have c185b0 : (t287 == t271) = false := beq_eq_false_iff_ne.mpr c185
                            have c185b1 : (t287 != t271) = true := bne_iff_ne.mpr c185
                            exact absurd ((Option.some.inj H).trans hr.out) (by decide)
                        · replace c184 := Bool.eq_false_iff.mpr c184
                          subst c184
                          have H1 : (if t278 = true then (if t287 = t271 then (some (t288 == t272)) else (some false)) else (if t280 = true then (if t287 = t271 then (some (t288 == t272)) else (some false)) else (if t279 = t271 then (if t272 = true then (some false) else (if t287 = t271 then (some (t288 == t272)) else (some false))) else (some false)))) = some r := by rw [if_neg (show ¬ (false = true) by decide)] at H; exact H
                          clear H
                          have H := H1
                          clear H1
                          by_cases c192 : t278 = true
                          · subst c192
                            have H1 : (if t287 = t271 then (some (t288 == t272)) else (some false)) = some r := by rw [if_pos rfl] at H; exact H
                            clear H
                            have H := H1
                            clear H1
                            by_cases c193 : t287 = t271
                            · rw [if_pos c193] at H
                              have c193b0 : (t287 == t271) = true := beq_iff_eq.mpr c193
                              have c193b1 : (t287 != t271) = false := bne_eq_false_iff_eq.mpr c193
                              clear c193
                              clear hr
                              obtain rfl := Option.some.inj H
                              obtain ⟨Ao194, co194, eo194⟩ := Kd.R_slice HO_16.out
                              subst eo194
                              go_wp2_with (first | ((with_reducible refine gate_callee (f := 13) rfl ?_); refine goesL_ (some 89) rfl rfl Try.func13 (by kernel_rfl) rfl #[.slice A0 m0_4.length c0, .slice Ao194 x16_1.length co194] rfl (by (try simp only [List.map_toArray, List.map_cons, List.map_nil]); first | done | (rw [show m0_4.length = (ji4).toNat from (by rw [List.length_take]; have h_ : ((ji4) : Int) ≤ (l0.length : Int) := of_decide_eq_true (by first | (with_reducible assumption) | assumption); omega)] <;> rfl) | (simp only [hji4]; rfl) | rfl | (simp only [List.length_drop, List.length_take]; rfl)) ?_; (with_reducible refine (sum_Dot.calls k1 _ _ m0_4 _ _ x16_1 t287 t288 _ ?side1 ?side2 ?side3 ?side4 A33.out).mono ?_); (case side1 => repeat (first | exact (Kd.C_below HR270.out HB.out) | (with_reducible refine Kd.C_alloc ?_ _) | (with_reducible refine Kd.C_drewN ?_ _) | (with_reducible refine Kd.C_drew ?_))); (case side2 => exact HC270.out); (case side3 => repeat (first | exact (Kd.R_reads' HO_16.out).2.2 | (with_reducible refine Kd.C_alloc ?_ _) | (with_reducible refine Kd.C_drewN ?_ _) | (with_reducible refine Kd.C_drew ?_))); (case side4 => exact (Kd.R_reads' HO_16.out).2.1); rintro e w195 ⟨rfl, hb⟩; refine ⟨_, rfl, ?_⟩; have n0_ := Aside0.mk (Kd.R_below (by (with_reducible repeat (first | apply Kd.R_alloc | apply Kd.R_drewN | apply Kd.R_drew)); exact HO_16.out) hb); have n1_ := Aside0.mk (below_step (by repeat (first | (with_reducible first | exact HB.out | apply below_alloc | apply pw_below_drewN | apply below_drew1) | exact HB.out)) hb); clear HO_16; clear HB; have HO_16 := n0_; have HB := n1_; clear n0_ n1_; (try clear hb); (try clear hb2); (try clear hk); (try clear hi)) | ((with_reducible refine gate_callee (f := 11) rfl ?_); refine goesL_ (some 94) rfl rfl Try.func11 (by kernel_rfl) rfl #[.slice A0 m0_4.length c0] rfl (by (try simp only [List.map_toArray, List.map_cons, List.map_nil]); first | done | (rw [show m0_4.length = (ji4).toNat from (by rw [List.length_take]; have h_ : ((ji4) : Int) ≤ (l0.length : Int) := of_decide_eq_true (by first | (with_reducible assumption) | assumption); omega)] <;> rfl) | (simp only [hji4]; rfl) | rfl | (simp only [List.length_drop, List.length_take]; rfl)) ?_; (with_reducible refine (sum_Mean.calls k1 _ _ m0_4 t289 t290 _ ?side1 ?side2 A34.out).mono ?_); (case side1 => repeat (first | exact (Kd.C_below HR270.out HB.out) | (with_reducible refine Kd.C_alloc ?_ _) | (with_reducible refine Kd.C_drewN ?_ _) | (with_reducible refine Kd.C_drew ?_))); (case side2 => exact HC270.out); rintro e w196 ⟨rfl, hb⟩; refine ⟨_, rfl, ?_⟩; have n0_ := Aside0.mk (Kd.R_below (by (with_reducible repeat (first | apply Kd.R_alloc | apply Kd.R_drewN | apply Kd.R_drew)); exact HO_16.out) hb); have n1_ := Aside0.mk (below_step (by repeat (first | (with_reducible first | exact HB.out | apply below_alloc | apply pw_below_drewN | apply below_drew1) | exact HB.out)) hb); clear HO_16; clear HB; have HO_16 := n0_; have HB := n1_; clear n0_ n1_; (try clear hb); (try clear hb2); (try clear hk); (try clear hi)))
                              go_ret
                              exact ⟨by first | rfl | (simp [errW_none, errW_some] <;> rfl) | (simp only [← hji4, ← hji9]; first | rfl | (simp [errW_none, errW_some] <;> rfl)) | (simp [*, errW_none, errW_some] <;> rfl), by repeat (first | (with_reducible first | exact HB.out | apply below_alloc | apply pw_below_drewN | apply below_drew1) | exact HB.out)⟩
                            · rw [if_neg c193] at H
                              have c193b0 : (t287 == t271) = false := beq_eq_false_iff_ne.mpr c193
                              have c193b1 : (t287 != t271) = true := bne_iff_ne.mpr c193
                              exact absurd ((Option.some.inj H).trans hr.out) (by decide)
                          · replace c192 := Bool.eq_false_iff.mpr c192
                            subst c192
                            have H1 : (if t280 = true then (if t287 = t271 then (some (t288 == t272)) else (some false)) else (if t279 = t271 then (if t272 = true then (some false) else (if t287 = t271 then (some (t288 == t272)) else (some false))) else (some false))) = some r := by rw [if_neg (show ¬ (false = true) by decide)] at H; exact H
                            clear H
                            have H := H1
                            clear H1
                            by_cases c200 : t280 = true
                            · subst c200
                              have H1 : (if t287 = t271 then (some (t288 == t272)) else (some false)) = some r := by rw [if_pos rfl] at H; exact H
                              clear H
                              have H := H1
                              clear H1
                              by_cases c201 : t287 = t271
                              · rw [if_pos c201] at H
                                have c201b0 : (t287 == t271) = true := beq_iff_eq.mpr c201
                                have c201b1 : (t287 != t271) = false := bne_eq_false_iff_eq.mpr c201
                                clear c201
                                clear hr
                                obtain rfl := Option.some.inj H
                                obtain ⟨Ao202, co202, eo202⟩ := Kd.R_slice HO_16.out
                                subst eo202
                                go_wp2_with (first | ((with_reducible refine gate_callee (f := 13) rfl ?_); refine goesL_ (some 89) rfl rfl Try.func13 (by kernel_rfl) rfl #[.slice A0 m0_4.length c0, .slice Ao202 x16_1.length co202] rfl (by (try simp only [List.map_toArray, List.map_cons, List.map_nil]); first | done | (rw [show m0_4.length = (ji4).toNat from (by rw [List.length_take]; have h_ : ((ji4) : Int) ≤ (l0.length : Int) := of_decide_eq_true (by first | (with_reducible assumption) | assumption); omega)] <;> rfl) | (simp only [hji4]; rfl) | rfl | (simp only [List.length_drop, List.length_take]; rfl)) ?_; (with_reducible refine (sum_Dot.calls k1 _ _ m0_4 _ _ x16_1 t287 t288 _ ?side1 ?side2 ?side3 ?side4 A33.out).mono ?_); (case side1 => repeat (first | exact (Kd.C_below HR270.out HB.out) | (with_reducible refine Kd.C_alloc ?_ _) | (with_reducible refine Kd.C_drewN ?_ _) | (with_reducible refine Kd.C_drew ?_))); (case side2 => exact HC270.out); (case side3 => repeat (first | exact (Kd.R_reads' HO_16.out).2.2 | (with_reducible refine Kd.C_alloc ?_ _) | (with_reducible refine Kd.C_drewN ?_ _) | (with_reducible refine Kd.C_drew ?_))); (case side4 => exact (Kd.R_reads' HO_16.out).2.1); rintro e w203 ⟨rfl, hb⟩; refine ⟨_, rfl, ?_⟩; have n0_ := Aside0.mk (Kd.R_below (by (with_reducible repeat (first | apply Kd.R_alloc | apply Kd.R_drewN | apply Kd.R_drew)); exact HO_16.out) hb); have n1_ := Aside0.mk (below_step (by repeat (first | (with_reducible first | exact HB.out | apply below_alloc | apply pw_below_drewN | apply below_drew1) | exact HB.out)) hb); clear HO_16; clear HB; have HO_16 := n0_; have HB := n1_; clear n0_ n1_; (try clear hb); (try clear hb2); (try clear hk); (try clear hi)) | ((with_reducible refine gate_callee (f := 11) rfl ?_); refine goesL_ (some 94) rfl rfl Try.func11 (by kernel_rfl) rfl #[.slice A0 m0_4.length c0] rfl (by (try simp only [List.map_toArray, List.map_cons, List.map_nil]); first | done | (rw [show m0_4.length = (ji4).toNat from (by rw [List.length_take]; have h_ : ((ji4) : Int) ≤ (l0.length : Int) := of_decide_eq_true (by first | (with_reducible assumption) | assumption); omega)] <;> rfl) | (simp only [hji4]; rfl) | rfl | (simp only [List.length_drop, List.length_take]; rfl)) ?_; (with_reducible refine (sum_Mean.calls k1 _ _ m0_4 t289 t290 _ ?side1 ?side2 A34.out).mono ?_); (case side1 => repeat (first | exact (Kd.C_below HR270.out HB.out) | (with_reducible refine Kd.C_alloc ?_ _) | (with_reducible refine Kd.C_drewN ?_ _) | (with_reducible refine Kd.C_drew ?_))); (case side2 => exact HC270.out); rintro e w204 ⟨rfl, hb⟩; refine ⟨_, rfl, ?_⟩; have n0_ := Aside0.mk (Kd.R_below (by (with_reducible repeat (first | apply Kd.R_alloc | apply Kd.R_drewN | apply Kd.R_drew)); exact HO_16.out) hb); have n1_ := Aside0.mk (below_step (by repeat (first | (with_reducible first | exact HB.out | apply below_alloc | apply pw_below_drewN | apply below_drew1) | exact HB.out)) hb); clear HO_16; clear HB; have HO_16 := n0_; have HB := n1_; clear n0_ n1_; (try clear hb); (try clear hb2); (try clear hk); (try clear hi)))
                                go_ret
                                exact ⟨by first | rfl | (simp [errW_none, errW_some] <;> rfl) | (simp only [← hji4, ← hji9]; first | rfl | (simp [errW_none, errW_some] <;> rfl)) | (simp [*, errW_none, errW_some] <;> rfl), by repeat (first | (with_reducible first | exact HB.out | apply below_alloc | apply pw_below_drewN | apply below_drew1) | exact HB.out)⟩
                              · rw [if_neg c201] at H
                                have c201b0 : (t287 == t271) = false := beq_eq_false_iff_ne.mpr c201
                                have c201b1 : (t287 != t271) = true := bne_iff_ne.mpr c201
                                exact absurd ((Option.some.inj H).trans hr.out) (by decide)
                            · replace c200 := Bool.eq_false_iff.mpr c200
                              subst c200
                              have H1 : (if t279 = t271 then (if t272 = true then (some false) else (if t287 = t271 then (some (t288 == t272)) else (some false))) else (some false)) = some r := by rw [if_neg (show ¬ (false = true) by decide)] at H; exact H
                              clear H
                              have H := H1
                              clear H1
                              by_cases c208 : t279 = t271
                              · rw [if_pos c208] at H
                                have c208b0 : (t279 == t271) = true := beq_iff_eq.mpr c208
                                have c208b1 : (t279 != t271) = false := bne_eq_false_iff_eq.mpr c208
                                clear c208
                                by_cases c209 : t272 = true
                                · subst c209
                                  have H1 : (some false) = some r := by rw [if_pos rfl] at H; exact H
                                  clear H
                                  have H := H1
                                  clear H1
                                  exact absurd ((Option.some.inj H).trans hr.out) (by decide)
                                · replace c209 := Bool.eq_false_iff.mpr c209
                                  subst c209
                                  have H1 : (if t287 = t271 then (some (t288 == false)) else (some false)) = some r := by rw [if_neg (show ¬ (false = true) by decide)] at H; exact H
                                  clear H
                                  have H := H1
                                  clear H1
                                  by_cases c213 : t287 = t271
                                  · rw [if_pos c213] at H
                                    have c213b0 : (t287 == t271) = true := beq_iff_eq.mpr c213
                                    have c213b1 : (t287 != t271) = false := bne_eq_false_iff_eq.mpr c213
                                    clear c213
                                    clear hr
                                    obtain rfl := Option.some.inj H
                                    obtain ⟨Ao214, co214, eo214⟩ := Kd.R_slice HO_16.out
                                    subst eo214
                                    go_wp2_with (first | ((with_reducible refine gate_callee (f := 13) rfl ?_); refine goesL_ (some 89) rfl rfl Try.func13 (by kernel_rfl) rfl #[.slice A0 m0_4.length c0, .slice Ao214 x16_1.length co214] rfl (by (try simp only [List.map_toArray, List.map_cons, List.map_nil]); first | done | (rw [show m0_4.length = (ji4).toNat from (by rw [List.length_take]; have h_ : ((ji4) : Int) ≤ (l0.length : Int) := of_decide_eq_true (by first | (with_reducible assumption) | assumption); omega)] <;> rfl) | (simp only [hji4]; rfl) | rfl | (simp only [List.length_drop, List.length_take]; rfl)) ?_; (with_reducible refine (sum_Dot.calls k1 _ _ m0_4 _ _ x16_1 t287 t288 _ ?side1 ?side2 ?side3 ?side4 A33.out).mono ?_); (case side1 => repeat (first | exact (Kd.C_below HR270.out HB.out) | (with_reducible refine Kd.C_alloc ?_ _) | (with_reducible refine Kd.C_drewN ?_ _) | (with_reducible refine Kd.C_drew ?_))); (case side2 => exact HC270.out); (case side3 => repeat (first | exact (Kd.R_reads' HO_16.out).2.2 | (with_reducible refine Kd.C_alloc ?_ _) | (with_reducible refine Kd.C_drewN ?_ _) | (with_reducible refine Kd.C_drew ?_))); (case side4 => exact (Kd.R_reads' HO_16.out).2.1); rintro e w215 ⟨rfl, hb⟩; refine ⟨_, rfl, ?_⟩; have n0_ := Aside0.mk (Kd.R_below (by (with_reducible repeat (first | apply Kd.R_alloc | apply Kd.R_drewN | apply Kd.R_drew)); exact HO_16.out) hb); have n1_ := Aside0.mk (below_step (by repeat (first | (with_reducible first | exact HB.out | apply below_alloc | apply pw_below_drewN | apply below_drew1) | exact HB.out)) hb); clear HO_16; clear HB; have HO_16 := n0_; have HB := n1_; clear n0_ n1_; (try clear hb); (try clear hb2); (try clear hk); (try clear hi)) | ((with_reducible refine gate_callee (f := 11) rfl ?_); refine goesL_ (some 94) rfl rfl Try.func11 (by kernel_rfl) rfl #[.slice A0 m0_4.length c0] rfl (by (try simp only [List.map_toArray, List.map_cons, List.map_nil]); first | done | (rw [show m0_4.length = (ji4).toNat from (by rw [List.length_take]; have h_ : ((ji4) : Int) ≤ (l0.length : Int) := of_decide_eq_true (by first | (with_reducible assumption) | assumption); omega)] <;> rfl) | (simp only [hji4]; rfl) | rfl | (simp only [List.length_drop, List.length_take]; rfl)) ?_; (with_reducible refine (sum_Mean.calls k1 _ _ m0_4 t289 t290 _ ?side1 ?side2 A34.out).mono ?_); (case side1 => repeat (first | exact (Kd.C_below HR270.out HB.out) | (with_reducible refine Kd.C_alloc ?_ _) | (with_reducible refine Kd.C_drewN ?_ _) | (with_reducible refine Kd.C_drew ?_))); (case side2 => exact HC270.out); rintro e w216 ⟨rfl, hb⟩; refine ⟨_, rfl, ?_⟩; have n0_ := Aside0.mk (Kd.R_below (by (with_reducible repeat (first | apply Kd.R_alloc | apply Kd.R_drewN | apply Kd.R_drew)); exact HO_16.out) hb); have n1_ := Aside0.mk (below_step (by repeat (first | (with_reducible first | exact HB.out | apply below_alloc | apply pw_below_drewN | apply below_drew1) | exact HB.out)) hb); clear HO_16; clear HB; have HO_16 := n0_; have HB := n1_; clear n0_ n1_; (try clear hb); (try clear hb2); (try clear hk); (try clear hi)))
                                    go_ret
                                    exact ⟨by first | rfl | (simp [errW_none, errW_some] <;> rfl) | (simp only [← hji4, ← hji9]; first | rfl | (simp [errW_none, errW_some] <;> rfl)) | (simp [*, errW_none, errW_some] <;> rfl), by repeat (first | (with_reducible first | exact HB.out | apply below_alloc | apply pw_below_drewN | apply below_drew1) | exact HB.out)⟩
                                  · rw [if_neg c213] at H
                                    have c213b0 : (t287 == t271) = false := beq_eq_false_iff_ne.mpr c213
                                    have c213b1 : (t287 != t271) = true := bne_iff_ne.mpr c213
                                    exact absurd ((Option.some.inj H).trans hr.out) (by decide)
                              · rw [if_neg c208] at H
                                have c208b0 : (t279 == t271) = false := beq_eq_false_iff_ne.mpr c208
                                have c208b1 : (t279 != t271) = true := bne_iff_ne.mpr c208
                                exact absurd ((Option.some.inj H).trans hr.out) (by decide)
                      · replace c183 := Bool.eq_false_iff.mpr c183
                        subst c183
                        have H1 : (some false) = some r := by rw [if_neg (show ¬ (false = true) by decide)] at H; exact H
                        clear H
                        have H := H1
                        clear H1
                        exact absurd ((Option.some.inj H).trans hr.out) (by decide)
          · rw [if_neg c11] at H
            exact absurd H (by simp)
        · rw [if_neg c10] at H
          exact absurd H (by simp)
    · rw [if_neg c6] at H
      exact absurd H (by simp)
  · rw [if_neg c5] at H
    exact absurd H (by simp)


end Go.Proofs.Ytiejinbjfficnaa.B
