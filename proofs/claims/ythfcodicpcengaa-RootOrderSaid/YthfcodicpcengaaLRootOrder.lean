/- The walk of the law RootOrder: where its Lean function tells true, the call returns true and leaves memory below as it was. Laid by a program of this project out of the kit's print of the Go functions. -/
import Derived.Test.YthfcodicpcengaaB0
import Derived.Test.YthfcodicpcengaaB2
import Derived.Test.YthfcodicpcengaaB3
import Derived.Test.YthfcodicpcengaaB4
namespace Go.Proofs.Ythfcodicpcengaa.B
open Go.RowKit Go.Proofs.YthfcodicpcengaaW.PrintWords Go.Proofs.YthfcodicpcengaaW.PrintLast Go.Proofs.YthfcodicpcengaaW.PrintMore
attribute [local go_sem] max2_int min2_int max_two min_two max_three min_three max_four min_four
set_option linter.unusedVariables false
set_option linter.unusedSimpArgs false

/-! ### outriggerlaw04_RootOrder: function 8 -/
def outriggerlaw04_RootOrder.f (k : Nat) (a0 : Int) (a1 : Int) : Option (Bool) := (outriggerlaw04_awake.f k).bind fun t196 => ((root_Sqrt.f k (mn a0 a1)).bind fun bt197 => ((root_Sqrt.f k (mx a0 a1)).bind fun bt199 => ((root_Hyp.f k a0 a1).bind fun bt201 => ((fix_Neg.f a0).bind fun t203 => ((root_Hyp.f k a1 t203).bind fun bt204 => ((fix_Abs.f a0).bind fun t206 => ((fix_Abs.f a1).bind fun t207 => ((fix_Add.f t206 t207).bind fun bt208 => ((fix_Clamp.f a0).bind fun bt210 => ((fix_Clamp.f a1).bind fun bt212 => (if t196 = true then (if bt197.1 ≤ bt199.1 then (if bt201.1 = bt204.1 then (if (bt201.2 == bt204.2) = true then ((fix_Abs.f a0).bind fun t214 => ((fix_Abs.f a1).bind fun t215 => (if bt201.1 ≥ (mx t214 t215) then (some (decide (bt201.1 ≤ bt208.1))) else (some false)))) else (if bt210.2 = true then ((fix_Abs.f a0).bind fun t216 => ((fix_Abs.f a1).bind fun t217 => (if bt201.1 ≥ (mx t216 t217) then (some (decide (bt201.1 ≤ bt208.1))) else (some false)))) else (if bt212.2 = true then ((fix_Abs.f a0).bind fun t218 => ((fix_Abs.f a1).bind fun t219 => (if bt201.1 ≥ (mx t218 t219) then (some (decide (bt201.1 ≤ bt208.1))) else (some false)))) else (some false)))) else (some false)) else (some false)) else (some false))))))))))))
theorem outriggerlaw04_RootOrder.mono : ∀ a0 a1 k, LeO (outriggerlaw04_RootOrder.f k a0 a1) (outriggerlaw04_RootOrder.f (k + 1) a0 a1) := by
  intro a0 a1 k
  unfold outriggerlaw04_RootOrder.f
  repeat' first
      | (with_reducible exact outriggerlaw04_awake.mono _)
      | (with_reducible exact root_Hyp.mono _ _ _)
      | (with_reducible exact root_Sqrt.mono _ _)
      | (with_reducible exact LeO.refl _)
      | (with_reducible exact LeO.none _)
      | (with_reducible refine LeO.ite ?_ ?_)
      | (with_reducible refine LeO.bind ?_ (fun _ => ?_))
      | exact outriggerlaw04_awake.mono _
      | exact root_Hyp.mono _ _ _
      | exact root_Sqrt.mono _ _
      | exact LeO.none _
      | refine LeO.ite ?_ ?_
      | refine LeO.bind ?_ (fun _ => ?_)
set_option maxHeartbeats 8000000 in
set_option maxRecDepth 100000 in
theorem outriggerlaw04_RootOrder.calls (k : Nat) (a0 : Int) (a1 : Int) (r : Bool) (w : World) (h : outriggerlaw04_RootOrder.f k a0 a1 = some r) (hr : Aside0 (r = true)) :
    Calls Try.prog 8 #[.int .i64 a0, .int .i64 a1] w fun e w' => e = .returned (.bool r) ∧ Below w.heap.size w w' := by
  have HB := Aside0.mk (Below.refl w.heap.size w)
  have H : ((outriggerlaw04_awake.f k).bind fun t196 => ((root_Sqrt.f k (mn a0 a1)).bind fun bt197 => ((root_Sqrt.f k (mx a0 a1)).bind fun bt199 => ((root_Hyp.f k a0 a1).bind fun bt201 => ((fix_Neg.f a0).bind fun t203 => ((root_Hyp.f k a1 t203).bind fun bt204 => ((fix_Abs.f a0).bind fun t206 => ((fix_Abs.f a1).bind fun t207 => ((fix_Add.f t206 t207).bind fun bt208 => ((fix_Clamp.f a0).bind fun bt210 => ((fix_Clamp.f a1).bind fun bt212 => (if t196 = true then (if bt197.1 ≤ bt199.1 then (if bt201.1 = bt204.1 then (if (bt201.2 == bt204.2) = true then ((fix_Abs.f a0).bind fun t214 => ((fix_Abs.f a1).bind fun t215 => (if bt201.1 ≥ (mx t214 t215) then (some (decide (bt201.1 ≤ bt208.1))) else (some false)))) else (if bt210.2 = true then ((fix_Abs.f a0).bind fun t216 => ((fix_Abs.f a1).bind fun t217 => (if bt201.1 ≥ (mx t216 t217) then (some (decide (bt201.1 ≤ bt208.1))) else (some false)))) else (if bt212.2 = true then ((fix_Abs.f a0).bind fun t218 => ((fix_Abs.f a1).bind fun t219 => (if bt201.1 ≥ (mx t218 t219) then (some (decide (bt201.1 ≤ bt208.1))) else (some false)))) else (some false)))) else (some false)) else (some false)) else (some false))))))))))))) = some r := h
  clear h
  replace H := Option.bind_eq_some_iff.mp H
  obtain ⟨t196, A30, H⟩ := H
  replace H : ((root_Sqrt.f k (mn a0 a1)).bind fun bt197 => ((root_Sqrt.f k (mx a0 a1)).bind fun bt199 => ((root_Hyp.f k a0 a1).bind fun bt201 => ((fix_Neg.f a0).bind fun t203 => ((root_Hyp.f k a1 t203).bind fun bt204 => ((fix_Abs.f a0).bind fun t206 => ((fix_Abs.f a1).bind fun t207 => ((fix_Add.f t206 t207).bind fun bt208 => ((fix_Clamp.f a0).bind fun bt210 => ((fix_Clamp.f a1).bind fun bt212 => (if t196 = true then (if bt197.1 ≤ bt199.1 then (if bt201.1 = bt204.1 then (if (bt201.2 == bt204.2) = true then ((fix_Abs.f a0).bind fun t214 => ((fix_Abs.f a1).bind fun t215 => (if bt201.1 ≥ (mx t214 t215) then (some (decide (bt201.1 ≤ bt208.1))) else (some false)))) else (if bt210.2 = true then ((fix_Abs.f a0).bind fun t216 => ((fix_Abs.f a1).bind fun t217 => (if bt201.1 ≥ (mx t216 t217) then (some (decide (bt201.1 ≤ bt208.1))) else (some false)))) else (if bt212.2 = true then ((fix_Abs.f a0).bind fun t218 => ((fix_Abs.f a1).bind fun t219 => (if bt201.1 ≥ (mx t218 t219) then (some (decide (bt201.1 ≤ bt208.1))) else (some false)))) else (some false)))) else (some false)) else (some false)) else (some false)))))))))))) = some r := H
  have A3 := Aside0.mk A30
  clear A30
  obtain ⟨ji4, hji4⟩ : ∃ j_ : Int, (mn a0 a1) = j_ := ⟨_, rfl⟩
  replace H : ((root_Sqrt.f k (ji4)).bind fun bt197 => ((root_Sqrt.f k (mx a0 a1)).bind fun bt199 => ((root_Hyp.f k a0 a1).bind fun bt201 => ((fix_Neg.f a0).bind fun t203 => ((root_Hyp.f k a1 t203).bind fun bt204 => ((fix_Abs.f a0).bind fun t206 => ((fix_Abs.f a1).bind fun t207 => ((fix_Add.f t206 t207).bind fun bt208 => ((fix_Clamp.f a0).bind fun bt210 => ((fix_Clamp.f a1).bind fun bt212 => (if t196 = true then (if bt197.1 ≤ bt199.1 then (if bt201.1 = bt204.1 then (if (bt201.2 == bt204.2) = true then ((fix_Abs.f a0).bind fun t214 => ((fix_Abs.f a1).bind fun t215 => (if bt201.1 ≥ (mx t214 t215) then (some (decide (bt201.1 ≤ bt208.1))) else (some false)))) else (if bt210.2 = true then ((fix_Abs.f a0).bind fun t216 => ((fix_Abs.f a1).bind fun t217 => (if bt201.1 ≥ (mx t216 t217) then (some (decide (bt201.1 ≤ bt208.1))) else (some false)))) else (if bt212.2 = true then ((fix_Abs.f a0).bind fun t218 => ((fix_Abs.f a1).bind fun t219 => (if bt201.1 ≥ (mx t218 t219) then (some (decide (bt201.1 ≤ bt208.1))) else (some false)))) else (some false)))) else (some false)) else (some false)) else (some false)))))))))))) = some r := by first | (rw [hji4] at H; exact H) | (simp only [hji4] at H ⊢; exact H)
  (try rw [hji4] at A3)
  have hji4_ : (if a1 < a0 then a1 else a0) = ji4 := hji4
  replace H := Option.bind_eq_some_iff.mp H
  obtain ⟨⟨t197, t198⟩, A50, H⟩ := H
  replace H : ((root_Sqrt.f k (mx a0 a1)).bind fun bt199 => ((root_Hyp.f k a0 a1).bind fun bt201 => ((fix_Neg.f a0).bind fun t203 => ((root_Hyp.f k a1 t203).bind fun bt204 => ((fix_Abs.f a0).bind fun t206 => ((fix_Abs.f a1).bind fun t207 => ((fix_Add.f t206 t207).bind fun bt208 => ((fix_Clamp.f a0).bind fun bt210 => ((fix_Clamp.f a1).bind fun bt212 => (if t196 = true then (if t197 ≤ bt199.1 then (if bt201.1 = bt204.1 then (if (bt201.2 == bt204.2) = true then ((fix_Abs.f a0).bind fun t214 => ((fix_Abs.f a1).bind fun t215 => (if bt201.1 ≥ (mx t214 t215) then (some (decide (bt201.1 ≤ bt208.1))) else (some false)))) else (if bt210.2 = true then ((fix_Abs.f a0).bind fun t216 => ((fix_Abs.f a1).bind fun t217 => (if bt201.1 ≥ (mx t216 t217) then (some (decide (bt201.1 ≤ bt208.1))) else (some false)))) else (if bt212.2 = true then ((fix_Abs.f a0).bind fun t218 => ((fix_Abs.f a1).bind fun t219 => (if bt201.1 ≥ (mx t218 t219) then (some (decide (bt201.1 ≤ bt208.1))) else (some false)))) else (some false)))) else (some false)) else (some false)) else (some false))))))))))) = some r := H
  have A5 := Aside0.mk A50
  clear A50
  obtain ⟨ji6, hji6⟩ : ∃ j_ : Int, (mx a0 a1) = j_ := ⟨_, rfl⟩
  replace H : ((root_Sqrt.f k (ji6)).bind fun bt199 => ((root_Hyp.f k a0 a1).bind fun bt201 => ((fix_Neg.f a0).bind fun t203 => ((root_Hyp.f k a1 t203).bind fun bt204 => ((fix_Abs.f a0).bind fun t206 => ((fix_Abs.f a1).bind fun t207 => ((fix_Add.f t206 t207).bind fun bt208 => ((fix_Clamp.f a0).bind fun bt210 => ((fix_Clamp.f a1).bind fun bt212 => (if t196 = true then (if t197 ≤ bt199.1 then (if bt201.1 = bt204.1 then (if (bt201.2 == bt204.2) = true then ((fix_Abs.f a0).bind fun t214 => ((fix_Abs.f a1).bind fun t215 => (if bt201.1 ≥ (mx t214 t215) then (some (decide (bt201.1 ≤ bt208.1))) else (some false)))) else (if bt210.2 = true then ((fix_Abs.f a0).bind fun t216 => ((fix_Abs.f a1).bind fun t217 => (if bt201.1 ≥ (mx t216 t217) then (some (decide (bt201.1 ≤ bt208.1))) else (some false)))) else (if bt212.2 = true then ((fix_Abs.f a0).bind fun t218 => ((fix_Abs.f a1).bind fun t219 => (if bt201.1 ≥ (mx t218 t219) then (some (decide (bt201.1 ≤ bt208.1))) else (some false)))) else (some false)))) else (some false)) else (some false)) else (some false))))))))))) = some r := by first | (rw [hji6] at H; exact H) | (simp only [hji6] at H ⊢; exact H)
  (try rw [hji6] at A3)
  (try rw [hji6] at A5)
  have hji6_ : (if a0 < a1 then a1 else a0) = ji6 := hji6
  replace H := Option.bind_eq_some_iff.mp H
  obtain ⟨⟨t199, t200⟩, A70, H⟩ := H
  replace H : ((root_Hyp.f k a0 a1).bind fun bt201 => ((fix_Neg.f a0).bind fun t203 => ((root_Hyp.f k a1 t203).bind fun bt204 => ((fix_Abs.f a0).bind fun t206 => ((fix_Abs.f a1).bind fun t207 => ((fix_Add.f t206 t207).bind fun bt208 => ((fix_Clamp.f a0).bind fun bt210 => ((fix_Clamp.f a1).bind fun bt212 => (if t196 = true then (if t197 ≤ t199 then (if bt201.1 = bt204.1 then (if (bt201.2 == bt204.2) = true then ((fix_Abs.f a0).bind fun t214 => ((fix_Abs.f a1).bind fun t215 => (if bt201.1 ≥ (mx t214 t215) then (some (decide (bt201.1 ≤ bt208.1))) else (some false)))) else (if bt210.2 = true then ((fix_Abs.f a0).bind fun t216 => ((fix_Abs.f a1).bind fun t217 => (if bt201.1 ≥ (mx t216 t217) then (some (decide (bt201.1 ≤ bt208.1))) else (some false)))) else (if bt212.2 = true then ((fix_Abs.f a0).bind fun t218 => ((fix_Abs.f a1).bind fun t219 => (if bt201.1 ≥ (mx t218 t219) then (some (decide (bt201.1 ≤ bt208.1))) else (some false)))) else (some false)))) else (some false)) else (some false)) else (some false)))))))))) = some r := H
  have A7 := Aside0.mk A70
  clear A70
  replace H := Option.bind_eq_some_iff.mp H
  obtain ⟨⟨t201, t202⟩, A80, H⟩ := H
  replace H : ((fix_Neg.f a0).bind fun t203 => ((root_Hyp.f k a1 t203).bind fun bt204 => ((fix_Abs.f a0).bind fun t206 => ((fix_Abs.f a1).bind fun t207 => ((fix_Add.f t206 t207).bind fun bt208 => ((fix_Clamp.f a0).bind fun bt210 => ((fix_Clamp.f a1).bind fun bt212 => (if t196 = true then (if t197 ≤ t199 then (if t201 = bt204.1 then (if (t202 == bt204.2) = true then ((fix_Abs.f a0).bind fun t214 => ((fix_Abs.f a1).bind fun t215 => (if t201 ≥ (mx t214 t215) then (some (decide (t201 ≤ bt208.1))) else (some false)))) else (if bt210.2 = true then ((fix_Abs.f a0).bind fun t216 => ((fix_Abs.f a1).bind fun t217 => (if t201 ≥ (mx t216 t217) then (some (decide (t201 ≤ bt208.1))) else (some false)))) else (if bt212.2 = true then ((fix_Abs.f a0).bind fun t218 => ((fix_Abs.f a1).bind fun t219 => (if t201 ≥ (mx t218 t219) then (some (decide (t201 ≤ bt208.1))) else (some false)))) else (some false)))) else (some false)) else (some false)) else (some false))))))))) = some r := H
  have A8 := Aside0.mk A80
  clear A80
  replace H := Option.bind_eq_some_iff.mp H
  obtain ⟨t203, A90, H⟩ := H
  replace H : ((root_Hyp.f k a1 t203).bind fun bt204 => ((fix_Abs.f a0).bind fun t206 => ((fix_Abs.f a1).bind fun t207 => ((fix_Add.f t206 t207).bind fun bt208 => ((fix_Clamp.f a0).bind fun bt210 => ((fix_Clamp.f a1).bind fun bt212 => (if t196 = true then (if t197 ≤ t199 then (if t201 = bt204.1 then (if (t202 == bt204.2) = true then ((fix_Abs.f a0).bind fun t214 => ((fix_Abs.f a1).bind fun t215 => (if t201 ≥ (mx t214 t215) then (some (decide (t201 ≤ bt208.1))) else (some false)))) else (if bt210.2 = true then ((fix_Abs.f a0).bind fun t216 => ((fix_Abs.f a1).bind fun t217 => (if t201 ≥ (mx t216 t217) then (some (decide (t201 ≤ bt208.1))) else (some false)))) else (if bt212.2 = true then ((fix_Abs.f a0).bind fun t218 => ((fix_Abs.f a1).bind fun t219 => (if t201 ≥ (mx t218 t219) then (some (decide (t201 ≤ bt208.1))) else (some false)))) else (some false)))) else (some false)) else (some false)) else (some false)))))))) = some r := H
  have A9 := Aside0.mk A90
  clear A90
  replace H := Option.bind_eq_some_iff.mp H
  obtain ⟨⟨t204, t205⟩, A100, H⟩ := H
  replace H : ((fix_Abs.f a0).bind fun t206 => ((fix_Abs.f a1).bind fun t207 => ((fix_Add.f t206 t207).bind fun bt208 => ((fix_Clamp.f a0).bind fun bt210 => ((fix_Clamp.f a1).bind fun bt212 => (if t196 = true then (if t197 ≤ t199 then (if t201 = t204 then (if (t202 == t205) = true then ((fix_Abs.f a0).bind fun t214 => ((fix_Abs.f a1).bind fun t215 => (if t201 ≥ (mx t214 t215) then (some (decide (t201 ≤ bt208.1))) else (some false)))) else (if bt210.2 = true then ((fix_Abs.f a0).bind fun t216 => ((fix_Abs.f a1).bind fun t217 => (if t201 ≥ (mx t216 t217) then (some (decide (t201 ≤ bt208.1))) else (some false)))) else (if bt212.2 = true then ((fix_Abs.f a0).bind fun t218 => ((fix_Abs.f a1).bind fun t219 => (if t201 ≥ (mx t218 t219) then (some (decide (t201 ≤ bt208.1))) else (some false)))) else (some false)))) else (some false)) else (some false)) else (some false))))))) = some r := H
  have A10 := Aside0.mk A100
  clear A100
  replace H := Option.bind_eq_some_iff.mp H
  obtain ⟨t206, A110, H⟩ := H
  replace H : ((fix_Abs.f a1).bind fun t207 => ((fix_Add.f t206 t207).bind fun bt208 => ((fix_Clamp.f a0).bind fun bt210 => ((fix_Clamp.f a1).bind fun bt212 => (if t196 = true then (if t197 ≤ t199 then (if t201 = t204 then (if (t202 == t205) = true then ((fix_Abs.f a0).bind fun t214 => ((fix_Abs.f a1).bind fun t215 => (if t201 ≥ (mx t214 t215) then (some (decide (t201 ≤ bt208.1))) else (some false)))) else (if bt210.2 = true then ((fix_Abs.f a0).bind fun t216 => ((fix_Abs.f a1).bind fun t217 => (if t201 ≥ (mx t216 t217) then (some (decide (t201 ≤ bt208.1))) else (some false)))) else (if bt212.2 = true then ((fix_Abs.f a0).bind fun t218 => ((fix_Abs.f a1).bind fun t219 => (if t201 ≥ (mx t218 t219) then (some (decide (t201 ≤ bt208.1))) else (some false)))) else (some false)))) else (some false)) else (some false)) else (some false)))))) = some r := H
  have A11 := Aside0.mk A110
  clear A110
  replace H := Option.bind_eq_some_iff.mp H
  obtain ⟨t207, A120, H⟩ := H
  replace H : ((fix_Add.f t206 t207).bind fun bt208 => ((fix_Clamp.f a0).bind fun bt210 => ((fix_Clamp.f a1).bind fun bt212 => (if t196 = true then (if t197 ≤ t199 then (if t201 = t204 then (if (t202 == t205) = true then ((fix_Abs.f a0).bind fun t214 => ((fix_Abs.f a1).bind fun t215 => (if t201 ≥ (mx t214 t215) then (some (decide (t201 ≤ bt208.1))) else (some false)))) else (if bt210.2 = true then ((fix_Abs.f a0).bind fun t216 => ((fix_Abs.f a1).bind fun t217 => (if t201 ≥ (mx t216 t217) then (some (decide (t201 ≤ bt208.1))) else (some false)))) else (if bt212.2 = true then ((fix_Abs.f a0).bind fun t218 => ((fix_Abs.f a1).bind fun t219 => (if t201 ≥ (mx t218 t219) then (some (decide (t201 ≤ bt208.1))) else (some false)))) else (some false)))) else (some false)) else (some false)) else (some false))))) = some r := H
  have A12 := Aside0.mk A120
  clear A120
  replace H := Option.bind_eq_some_iff.mp H
  obtain ⟨⟨t208, t209⟩, A130, H⟩ := H
  replace H : ((fix_Clamp.f a0).bind fun bt210 => ((fix_Clamp.f a1).bind fun bt212 => (if t196 = true then (if t197 ≤ t199 then (if t201 = t204 then (if (t202 == t205) = true then ((fix_Abs.f a0).bind fun t214 => ((fix_Abs.f a1).bind fun t215 => (if t201 ≥ (mx t214 t215) then (some (decide (t201 ≤ t208))) else (some false)))) else (if bt210.2 = true then ((fix_Abs.f a0).bind fun t216 => ((fix_Abs.f a1).bind fun t217 => (if t201 ≥ (mx t216 t217) then (some (decide (t201 ≤ t208))) else (some false)))) else (if bt212.2 = true then ((fix_Abs.f a0).bind fun t218 => ((fix_Abs.f a1).bind fun t219 => (if t201 ≥ (mx t218 t219) then (some (decide (t201 ≤ t208))) else (some false)))) else (some false)))) else (some false)) else (some false)) else (some false)))) = some r := H
  have A13 := Aside0.mk A130
  clear A130
  replace H := Option.bind_eq_some_iff.mp H
  obtain ⟨⟨t210, t211⟩, A140, H⟩ := H
  replace H : ((fix_Clamp.f a1).bind fun bt212 => (if t196 = true then (if t197 ≤ t199 then (if t201 = t204 then (if (t202 == t205) = true then ((fix_Abs.f a0).bind fun t214 => ((fix_Abs.f a1).bind fun t215 => (if t201 ≥ (mx t214 t215) then (some (decide (t201 ≤ t208))) else (some false)))) else (if t211 = true then ((fix_Abs.f a0).bind fun t216 => ((fix_Abs.f a1).bind fun t217 => (if t201 ≥ (mx t216 t217) then (some (decide (t201 ≤ t208))) else (some false)))) else (if bt212.2 = true then ((fix_Abs.f a0).bind fun t218 => ((fix_Abs.f a1).bind fun t219 => (if t201 ≥ (mx t218 t219) then (some (decide (t201 ≤ t208))) else (some false)))) else (some false)))) else (some false)) else (some false)) else (some false))) = some r := H
  have A14 := Aside0.mk A140
  clear A140
  replace H := Option.bind_eq_some_iff.mp H
  obtain ⟨⟨t212, t213⟩, A150, H⟩ := H
  replace H : (if t196 = true then (if t197 ≤ t199 then (if t201 = t204 then (if (t202 == t205) = true then ((fix_Abs.f a0).bind fun t214 => ((fix_Abs.f a1).bind fun t215 => (if t201 ≥ (mx t214 t215) then (some (decide (t201 ≤ t208))) else (some false)))) else (if t211 = true then ((fix_Abs.f a0).bind fun t216 => ((fix_Abs.f a1).bind fun t217 => (if t201 ≥ (mx t216 t217) then (some (decide (t201 ≤ t208))) else (some false)))) else (if t213 = true then ((fix_Abs.f a0).bind fun t218 => ((fix_Abs.f a1).bind fun t219 => (if t201 ≥ (mx t218 t219) then (some (decide (t201 ≤ t208))) else (some false)))) else (some false)))) else (some false)) else (some false)) else (some false)) = some r := H
  have A15 := Aside0.mk A150
  clear A150
  by_cases c16 : t196 = true
  · subst c16
    have H1 : (if t197 ≤ t199 then (if t201 = t204 then (if (t202 == t205) = true then ((fix_Abs.f a0).bind fun t214 => ((fix_Abs.f a1).bind fun t215 => (if t201 ≥ (mx t214 t215) then (some (decide (t201 ≤ t208))) else (some false)))) else (if t211 = true then ((fix_Abs.f a0).bind fun t216 => ((fix_Abs.f a1).bind fun t217 => (if t201 ≥ (mx t216 t217) then (some (decide (t201 ≤ t208))) else (some false)))) else (if t213 = true then ((fix_Abs.f a0).bind fun t218 => ((fix_Abs.f a1).bind fun t219 => (if t201 ≥ (mx t218 t219) then (some (decide (t201 ≤ t208))) else (some false)))) else (some false)))) else (some false)) else (some false)) = some r := by rw [if_pos rfl] at H; exact H
    clear H
    have H := H1
    clear H1
    by_cases c17 : t197 ≤ t199
    · rw [if_pos c17] at H
      have c17b0 : decide (t197 ≤ t199) = true := decide_eq_true c17
      clear c17
      by_cases c18 : t201 = t204
      · rw [if_pos c18] at H
        have c18b0 : (t201 == t204) = true := beq_iff_eq.mpr c18
        have c18b1 : (t201 != t204) = false := bne_eq_false_iff_eq.mpr c18
        clear c18
        by_cases c19 : (t202 == t205) = true
        · rw [if_pos c19] at H
          have c19b0 : (t202 == t205) = true := c19
          (try (have c19b1 : decide (t202 = t205) = true := by simpa using c19))
          (try (have c19b2 : (t202 == t205) = true := by simpa using c19))
          clear c19
          replace H := Option.bind_eq_some_iff.mp H
          obtain ⟨t214, A200, H⟩ := H
          replace H : ((fix_Abs.f a1).bind fun t215 => (if t201 ≥ (mx t214 t215) then (some (decide (t201 ≤ t208))) else (some false))) = some r := H
          have A20 := Aside0.mk A200
          clear A200
          replace H := Option.bind_eq_some_iff.mp H
          obtain ⟨t215, A210, H⟩ := H
          replace H : (if t201 ≥ (mx t214 t215) then (some (decide (t201 ≤ t208))) else (some false)) = some r := H
          have A21 := Aside0.mk A210
          clear A210
          obtain ⟨ji22, hji22⟩ : ∃ j_ : Int, (mx t214 t215) = j_ := ⟨_, rfl⟩
          replace H : (if t201 ≥ (ji22) then (some (decide (t201 ≤ t208))) else (some false)) = some r := by first | (rw [hji22] at H; exact H) | (simp only [hji22] at H ⊢; exact H)
          (try rw [hji22] at A3)
          (try rw [hji22] at A5)
          (try rw [hji22] at A7)
          (try rw [hji22] at A8)
          (try rw [hji22] at A9)
          (try rw [hji22] at A10)
          (try rw [hji22] at A11)
          (try rw [hji22] at A12)
          (try rw [hji22] at A13)
          (try rw [hji22] at A14)
          (try rw [hji22] at A15)
          (try rw [hji22] at A20)
          (try rw [hji22] at A21)
          have hji22_ : (if t214 < t215 then t215 else t214) = ji22 := hji22
          by_cases c23 : t201 ≥ (ji22)
          · rw [if_pos c23] at H
            have c23b0 : decide ((ji22) ≤ t201) = true := decide_eq_true c23
            clear c23
            clear hr
            obtain rfl := Option.some.inj H
            go_enter Try.func8, Try.ntmps8
            go_wp2_with (first | ((with_reducible refine gate_callee (f := 9) rfl ?_); refine goesL_ (some 20) rfl rfl Try.func9 (by kernel_rfl) rfl #[] rfl (by (try simp only [List.map_toArray, List.map_cons, List.map_nil]); first | done | rfl | (simp only [List.length_drop, List.length_take]; rfl)) ?_; (with_reducible refine (outriggerlaw04_awake.calls k  true _ A3.out).mono ?_); rintro e w24 ⟨rfl, hb⟩; refine ⟨_, rfl, ?_⟩; have n0_ := Aside0.mk (below_step (by repeat (first | (with_reducible first | exact HB.out | apply below_alloc | apply pw_below_drewN | apply below_drew1) | exact HB.out)) hb); clear HB; have HB := n0_; clear n0_; (try clear hb); (try clear hb2); (try clear hk); (try clear hi)) | ((with_reducible refine gate_callee (f := 12) rfl ?_); refine goesL_ (some 25) rfl rfl Try.func12 (by kernel_rfl) rfl #[.int .i64 ji4] rfl (by (try simp only [List.map_toArray, List.map_cons, List.map_nil]); first | done | (simp only [hji4]; rfl) | rfl | (simp only [List.length_drop, List.length_take]; rfl)) ?_; (with_reducible refine (root_Sqrt.calls k ji4 t197 t198 _ A5.out).mono ?_); rintro e w25 ⟨rfl, hb⟩; refine ⟨_, rfl, ?_⟩; have n0_ := Aside0.mk (below_step (by repeat (first | (with_reducible first | exact HB.out | apply below_alloc | apply pw_below_drewN | apply below_drew1) | exact HB.out)) hb); clear HB; have HB := n0_; clear n0_; (try clear hb); (try clear hb2); (try clear hk); (try clear hi)) | ((with_reducible refine gate_callee (f := 12) rfl ?_); refine goesL_ (some 32) rfl rfl Try.func12 (by kernel_rfl) rfl #[.int .i64 ji6] rfl (by (try simp only [List.map_toArray, List.map_cons, List.map_nil]); first | done | (simp only [hji6]; rfl) | rfl | (simp only [List.length_drop, List.length_take]; rfl)) ?_; (with_reducible refine (root_Sqrt.calls k ji6 t199 t200 _ A7.out).mono ?_); rintro e w26 ⟨rfl, hb⟩; refine ⟨_, rfl, ?_⟩; have n0_ := Aside0.mk (below_step (by repeat (first | (with_reducible first | exact HB.out | apply below_alloc | apply pw_below_drewN | apply below_drew1) | exact HB.out)) hb); clear HB; have HB := n0_; clear n0_; (try clear hb); (try clear hb2); (try clear hk); (try clear hi)) | ((with_reducible refine gate_callee (f := 14) rfl ?_); refine goesL_ (some 38) rfl rfl Try.func14 (by kernel_rfl) rfl #[.int .i64 a0, .int .i64 a1] rfl (by (try simp only [List.map_toArray, List.map_cons, List.map_nil]); first | done | rfl | (simp only [List.length_drop, List.length_take]; rfl)) ?_; (with_reducible refine (root_Hyp.calls k a0 a1 t201 t202 _ A8.out).mono ?_); rintro e w27 ⟨rfl, hb⟩; refine ⟨_, rfl, ?_⟩; have n0_ := Aside0.mk (below_step (by repeat (first | (with_reducible first | exact HB.out | apply below_alloc | apply pw_below_drewN | apply below_drew1) | exact HB.out)) hb); clear HB; have HB := n0_; clear n0_; (try clear hb); (try clear hb2); (try clear hk); (try clear hi)) | ((with_reducible refine gate_callee (f := 23) rfl ?_); refine goesL_ (some 44) rfl rfl Try.func23 (by kernel_rfl) rfl #[.int .i64 a0] rfl (by (try simp only [List.map_toArray, List.map_cons, List.map_nil]); first | done | rfl | (simp only [List.length_drop, List.length_take]; rfl)) ?_; (with_reducible refine (fix_Neg.calls a0 t203 _ A9.out).mono ?_); rintro e w28 ⟨rfl, hb⟩; refine ⟨_, rfl, ?_⟩; have n0_ := Aside0.mk (below_step (by repeat (first | (with_reducible first | exact HB.out | apply below_alloc | apply pw_below_drewN | apply below_drew1) | exact HB.out)) hb); clear HB; have HB := n0_; clear n0_; (try clear hb); (try clear hb2); (try clear hk); (try clear hi)) | ((with_reducible refine gate_callee (f := 14) rfl ?_); refine goesL_ (some 45) rfl rfl Try.func14 (by kernel_rfl) rfl #[.int .i64 a1, .int .i64 t203] rfl (by (try simp only [List.map_toArray, List.map_cons, List.map_nil]); first | done | rfl | (simp only [List.length_drop, List.length_take]; rfl)) ?_; (with_reducible refine (root_Hyp.calls k a1 t203 t204 t205 _ A10.out).mono ?_); rintro e w29 ⟨rfl, hb⟩; refine ⟨_, rfl, ?_⟩; have n0_ := Aside0.mk (below_step (by repeat (first | (with_reducible first | exact HB.out | apply below_alloc | apply pw_below_drewN | apply below_drew1) | exact HB.out)) hb); clear HB; have HB := n0_; clear n0_; (try clear hb); (try clear hb2); (try clear hk); (try clear hi)) | ((with_reducible refine gate_callee (f := 19) rfl ?_); refine goesL_ (some 50) rfl rfl Try.func19 (by kernel_rfl) rfl #[.int .i64 a0] rfl (by (try simp only [List.map_toArray, List.map_cons, List.map_nil]); first | done | rfl | (simp only [List.length_drop, List.length_take]; rfl)) ?_; (with_reducible refine (fix_Abs.calls a0 t206 _ A11.out).mono ?_); rintro e w30 ⟨rfl, hb⟩; refine ⟨_, rfl, ?_⟩; have n0_ := Aside0.mk (below_step (by repeat (first | (with_reducible first | exact HB.out | apply below_alloc | apply pw_below_drewN | apply below_drew1) | exact HB.out)) hb); clear HB; have HB := n0_; clear n0_; (try clear hb); (try clear hb2); (try clear hk); (try clear hi)) | ((with_reducible refine gate_callee (f := 19) rfl ?_); refine goesL_ (some 52) rfl rfl Try.func19 (by kernel_rfl) rfl #[.int .i64 a1] rfl (by (try simp only [List.map_toArray, List.map_cons, List.map_nil]); first | done | rfl | (simp only [List.length_drop, List.length_take]; rfl)) ?_; (with_reducible refine (fix_Abs.calls a1 t207 _ A12.out).mono ?_); rintro e w31 ⟨rfl, hb⟩; refine ⟨_, rfl, ?_⟩; have n0_ := Aside0.mk (below_step (by repeat (first | (with_reducible first | exact HB.out | apply below_alloc | apply pw_below_drewN | apply below_drew1) | exact HB.out)) hb); clear HB; have HB := n0_; clear n0_; (try clear hb); (try clear hb2); (try clear hk); (try clear hi)) | ((with_reducible refine gate_callee (f := 24) rfl ?_); refine goesL_ (some 53) rfl rfl Try.func24 (by kernel_rfl) rfl #[.int .i64 t206, .int .i64 t207] rfl (by (try simp only [List.map_toArray, List.map_cons, List.map_nil]); first | done | rfl | (simp only [List.length_drop, List.length_take]; rfl)) ?_; (with_reducible refine (fix_Add.calls t206 t207 t208 t209 _ A13.out).mono ?_); rintro e w32 ⟨rfl, hb⟩; refine ⟨_, rfl, ?_⟩; have n0_ := Aside0.mk (below_step (by repeat (first | (with_reducible first | exact HB.out | apply below_alloc | apply pw_below_drewN | apply below_drew1) | exact HB.out)) hb); clear HB; have HB := n0_; clear n0_; (try clear hb); (try clear hb2); (try clear hk); (try clear hi)) | ((with_reducible refine gate_callee (f := 22) rfl ?_); refine goesL_ (some 58) rfl rfl Try.func22 (by kernel_rfl) rfl #[.int .i64 a0] rfl (by (try simp only [List.map_toArray, List.map_cons, List.map_nil]); first | done | rfl | (simp only [List.length_drop, List.length_take]; rfl)) ?_; (with_reducible refine (fix_Clamp.calls a0 t210 t211 _ A14.out).mono ?_); rintro e w33 ⟨rfl, hb⟩; refine ⟨_, rfl, ?_⟩; have n0_ := Aside0.mk (below_step (by repeat (first | (with_reducible first | exact HB.out | apply below_alloc | apply pw_below_drewN | apply below_drew1) | exact HB.out)) hb); clear HB; have HB := n0_; clear n0_; (try clear hb); (try clear hb2); (try clear hk); (try clear hi)) | ((with_reducible refine gate_callee (f := 22) rfl ?_); refine goesL_ (some 63) rfl rfl Try.func22 (by kernel_rfl) rfl #[.int .i64 a1] rfl (by (try simp only [List.map_toArray, List.map_cons, List.map_nil]); first | done | rfl | (simp only [List.length_drop, List.length_take]; rfl)) ?_; (with_reducible refine (fix_Clamp.calls a1 t212 t213 _ A15.out).mono ?_); rintro e w34 ⟨rfl, hb⟩; refine ⟨_, rfl, ?_⟩; have n0_ := Aside0.mk (below_step (by repeat (first | (with_reducible first | exact HB.out | apply below_alloc | apply pw_below_drewN | apply below_drew1) | exact HB.out)) hb); clear HB; have HB := n0_; clear n0_; (try clear hb); (try clear hb2); (try clear hk); (try clear hi)) | (go_at_call 19; (with_reducible refine (fix_Abs.calls a0 t214 _ A20.out).mono ?_); rintro e w35 ⟨rfl, hb⟩; have n0_ := Aside0.mk (below_step (by repeat (first | (with_reducible first | exact HB.out | apply below_alloc | apply pw_below_drewN | apply below_drew1) | exact HB.out)) hb); clear HB; have HB := n0_; clear n0_; (try clear hb); (try clear hb2); (try clear hk); (try clear hi)) | (go_at_call 19; (with_reducible refine (fix_Abs.calls a1 t215 _ A21.out).mono ?_); rintro e w36 ⟨rfl, hb⟩; have n0_ := Aside0.mk (below_step (by repeat (first | (with_reducible first | exact HB.out | apply below_alloc | apply pw_below_drewN | apply below_drew1) | exact HB.out)) hb); clear HB; have HB := n0_; clear n0_; (try clear hb); (try clear hb2); (try clear hk); (try clear hi)))
            go_ret
            exact ⟨by first | rfl | (simp [errW_none, errW_some] <;> rfl) | (simp only [← hji4, ← hji6, ← hji22]; first | rfl | (simp [errW_none, errW_some] <;> rfl)) | (simp [*, errW_none, errW_some] <;> rfl), by repeat (first | (with_reducible first | exact HB.out | apply below_alloc | apply pw_below_drewN | apply below_drew1) | exact HB.out)⟩
          · rw [if_neg c23] at H
            have c23b0 : decide ((ji22) ≤ t201) = false := decide_eq_false c23
            clear c23
            exact absurd ((Option.some.inj H).trans hr.out) (by decide)
        · rw [if_neg c19] at H
          have c19b0 : (t202 == t205) = false := by simpa using c19
          (try (have c19b1 : decide (t202 = t205) = false := by simpa using c19))
          (try (have c19b2 : (t202 == t205) = false := by simpa using c19))
          (try (have c19b3 : ¬ (t202 = t205) := by simpa using c19))
          clear c19
          by_cases c50 : t211 = true
          · subst c50
            have H1 : ((fix_Abs.f a0).bind fun t216 => ((fix_Abs.f a1).bind fun t217 => (if t201 ≥ (mx t216 t217) then (some (decide (t201 ≤ t208))) else (some false)))) = some r := by rw [if_pos rfl] at H; exact H
            clear H
            have H := H1
            clear H1
            replace H := Option.bind_eq_some_iff.mp H
            obtain ⟨t216, A510, H⟩ := H
            replace H : ((fix_Abs.f a1).bind fun t217 => (if t201 ≥ (mx t216 t217) then (some (decide (t201 ≤ t208))) else (some false))) = some r := H
            have A51 := Aside0.mk A510
            clear A510
            replace H := Option.bind_eq_some_iff.mp H
            obtain ⟨t217, A520, H⟩ := H
            replace H : (if t201 ≥ (mx t216 t217) then (some (decide (t201 ≤ t208))) else (some false)) = some r := H
            have A52 := Aside0.mk A520
            clear A520
            obtain ⟨ji53, hji53⟩ : ∃ j_ : Int, (mx t216 t217) = j_ := ⟨_, rfl⟩
            replace H : (if t201 ≥ (ji53) then (some (decide (t201 ≤ t208))) else (some false)) = some r := by first | (rw [hji53] at H; exact H) | (simp only [hji53] at H ⊢; exact H)
            (try rw [hji53] at A3)
            (try rw [hji53] at A5)
            (try rw [hji53] at A7)
            (try rw [hji53] at A8)
            (try rw [hji53] at A9)
            (try rw [hji53] at A10)
            (try rw [hji53] at A11)
            (try rw [hji53] at A12)
            (try rw [hji53] at A13)
            (try rw [hji53] at A14)
            (try rw [hji53] at A15)
            (try rw [hji53] at A51)
            (try rw [hji53] at A52)
            have hji53_ : (if t216 < t217 then t217 else t216) = ji53 := hji53
            by_cases c54 : t201 ≥ (ji53)
            · rw [if_pos c54] at H
              have c54b0 : decide ((ji53) ≤ t201) = true := decide_eq_true c54
              clear c54
              clear hr
              obtain rfl := Option.some.inj H
              go_enter Try.func8, Try.ntmps8
              go_wp2_with (first | ((with_reducible refine gate_callee (f := 9) rfl ?_); refine goesL_ (some 20) rfl rfl Try.func9 (by kernel_rfl) rfl #[] rfl (by (try simp only [List.map_toArray, List.map_cons, List.map_nil]); first | done | rfl | (simp only [List.length_drop, List.length_take]; rfl)) ?_; (with_reducible refine (outriggerlaw04_awake.calls k  true _ A3.out).mono ?_); rintro e w55 ⟨rfl, hb⟩; refine ⟨_, rfl, ?_⟩; have n0_ := Aside0.mk (below_step (by repeat (first | (with_reducible first | exact HB.out | apply below_alloc | apply pw_below_drewN | apply below_drew1) | exact HB.out)) hb); clear HB; have HB := n0_; clear n0_; (try clear hb); (try clear hb2); (try clear hk); (try clear hi)) | ((with_reducible refine gate_callee (f := 12) rfl ?_); refine goesL_ (some 25) rfl rfl Try.func12 (by kernel_rfl) rfl #[.int .i64 ji4] rfl (by (try simp only [List.map_toArray, List.map_cons, List.map_nil]); first | done | (simp only [hji4]; rfl) | rfl | (simp only [List.length_drop, List.length_take]; rfl)) ?_; (with_reducible refine (root_Sqrt.calls k ji4 t197 t198 _ A5.out).mono ?_); rintro e w56 ⟨rfl, hb⟩; refine ⟨_, rfl, ?_⟩; have n0_ := Aside0.mk (below_step (by repeat (first | (with_reducible first | exact HB.out | apply below_alloc | apply pw_below_drewN | apply below_drew1) | exact HB.out)) hb); clear HB; have HB := n0_; clear n0_; (try clear hb); (try clear hb2); (try clear hk); (try clear hi)) | ((with_reducible refine gate_callee (f := 12) rfl ?_); refine goesL_ (some 32) rfl rfl Try.func12 (by kernel_rfl) rfl #[.int .i64 ji6] rfl (by (try simp only [List.map_toArray, List.map_cons, List.map_nil]); first | done | (simp only [hji6]; rfl) | rfl | (simp only [List.length_drop, List.length_take]; rfl)) ?_; (with_reducible refine (root_Sqrt.calls k ji6 t199 t200 _ A7.out).mono ?_); rintro e w57 ⟨rfl, hb⟩; refine ⟨_, rfl, ?_⟩; have n0_ := Aside0.mk (below_step (by repeat (first | (with_reducible first | exact HB.out | apply below_alloc | apply pw_below_drewN | apply below_drew1) | exact HB.out)) hb); clear HB; have HB := n0_; clear n0_; (try clear hb); (try clear hb2); (try clear hk); (try clear hi)) | ((with_reducible refine gate_callee (f := 14) rfl ?_); refine goesL_ (some 38) rfl rfl Try.func14 (by kernel_rfl) rfl #[.int .i64 a0, .int .i64 a1] rfl (by (try simp only [List.map_toArray, List.map_cons, List.map_nil]); first | done | rfl | (simp only [List.length_drop, List.length_take]; rfl)) ?_; (with_reducible refine (root_Hyp.calls k a0 a1 t201 t202 _ A8.out).mono ?_); rintro e w58 ⟨rfl, hb⟩; refine ⟨_, rfl, ?_⟩; have n0_ := Aside0.mk (below_step (by repeat (first | (with_reducible first | exact HB.out | apply below_alloc | apply pw_below_drewN | apply below_drew1) | exact HB.out)) hb); clear HB; have HB := n0_; clear n0_; (try clear hb); (try clear hb2); (try clear hk); (try clear hi)) | ((with_reducible refine gate_callee (f := 23) rfl ?_); refine goesL_ (some 44) rfl rfl Try.func23 (by kernel_rfl) rfl #[.int .i64 a0] rfl (by (try simp only [List.map_toArray, List.map_cons, List.map_nil]); first | done | rfl | (simp only [List.length_drop, List.length_take]; rfl)) ?_; (with_reducible refine (fix_Neg.calls a0 t203 _ A9.out).mono ?_); rintro e w59 ⟨rfl, hb⟩; refine ⟨_, rfl, ?_⟩; have n0_ := Aside0.mk (below_step (by repeat (first | (with_reducible first | exact HB.out | apply below_alloc | apply pw_below_drewN | apply below_drew1) | exact HB.out)) hb); clear HB; have HB := n0_; clear n0_; (try clear hb); (try clear hb2); (try clear hk); (try clear hi)) | ((with_reducible refine gate_callee (f := 14) rfl ?_); refine goesL_ (some 45) rfl rfl Try.func14 (by kernel_rfl) rfl #[.int .i64 a1, .int .i64 t203] rfl (by (try simp only [List.map_toArray, List.map_cons, List.map_nil]); first | done | rfl | (simp only [List.length_drop, List.length_take]; rfl)) ?_; (with_reducible refine (root_Hyp.calls k a1 t203 t204 t205 _ A10.out).mono ?_); rintro e w60 ⟨rfl, hb⟩; refine ⟨_, rfl, ?_⟩; have n0_ := Aside0.mk (below_step (by repeat (first | (with_reducible first | exact HB.out | apply below_alloc | apply pw_below_drewN | apply below_drew1) | exact HB.out)) hb); clear HB; have HB := n0_; clear n0_; (try clear hb); (try clear hb2); (try clear hk); (try clear hi)) | ((with_reducible refine gate_callee (f := 19) rfl ?_); refine goesL_ (some 50) rfl rfl Try.func19 (by kernel_rfl) rfl #[.int .i64 a0] rfl (by (try simp only [List.map_toArray, List.map_cons, List.map_nil]); first | done | rfl | (simp only [List.length_drop, List.length_take]; rfl)) ?_; (with_reducible refine (fix_Abs.calls a0 t206 _ A11.out).mono ?_); rintro e w61 ⟨rfl, hb⟩; refine ⟨_, rfl, ?_⟩; have n0_ := Aside0.mk (below_step (by repeat (first | (with_reducible first | exact HB.out | apply below_alloc | apply pw_below_drewN | apply below_drew1) | exact HB.out)) hb); clear HB; have HB := n0_; clear n0_; (try clear hb); (try clear hb2); (try clear hk); (try clear hi)) | ((with_reducible refine gate_callee (f := 19) rfl ?_); refine goesL_ (some 52) rfl rfl Try.func19 (by kernel_rfl) rfl #[.int .i64 a1] rfl (by (try simp only [List.map_toArray, List.map_cons, List.map_nil]); first | done | rfl | (simp only [List.length_drop, List.length_take]; rfl)) ?_; (with_reducible refine (fix_Abs.calls a1 t207 _ A12.out).mono ?_); rintro e w62 ⟨rfl, hb⟩; refine ⟨_, rfl, ?_⟩; have n0_ := Aside0.mk (below_step (by repeat (first | (with_reducible first | exact HB.out | apply below_alloc | apply pw_below_drewN | apply below_drew1) | exact HB.out)) hb); clear HB; have HB := n0_; clear n0_; (try clear hb); (try clear hb2); (try clear hk); (try clear hi)) | ((with_reducible refine gate_callee (f := 24) rfl ?_); refine goesL_ (some 53) rfl rfl Try.func24 (by kernel_rfl) rfl #[.int .i64 t206, .int .i64 t207] rfl (by (try simp only [List.map_toArray, List.map_cons, List.map_nil]); first | done | rfl | (simp only [List.length_drop, List.length_take]; rfl)) ?_; (with_reducible refine (fix_Add.calls t206 t207 t208 t209 _ A13.out).mono ?_); rintro e w63 ⟨rfl, hb⟩; refine ⟨_, rfl, ?_⟩; have n0_ := Aside0.mk (below_step (by repeat (first | (with_reducible first | exact HB.out | apply below_alloc | apply pw_below_drewN | apply below_drew1) | exact HB.out)) hb); clear HB; have HB := n0_; clear n0_; (try clear hb); (try clear hb2); (try clear hk); (try clear hi)) | ((with_reducible refine gate_callee (f := 22) rfl ?_); refine goesL_ (some 58) rfl rfl Try.func22 (by kernel_rfl) rfl #[.int .i64 a0] rfl (by (try simp only [List.map_toArray, List.map_cons, List.map_nil]); first | done | rfl | (simp only [List.length_drop, List.length_take]; rfl)) ?_; (with_reducible refine (fix_Clamp.calls a0 t210 true _ A14.out).mono ?_); rintro e w64 ⟨rfl, hb⟩; refine ⟨_, rfl, ?_⟩; have n0_ := Aside0.mk (below_step (by repeat (first | (with_reducible first | exact HB.out | apply below_alloc | apply pw_below_drewN | apply below_drew1) | exact HB.out)) hb); clear HB; have HB := n0_; clear n0_; (try clear hb); (try clear hb2); (try clear hk); (try clear hi)) | ((with_reducible refine gate_callee (f := 22) rfl ?_); refine goesL_ (some 63) rfl rfl Try.func22 (by kernel_rfl) rfl #[.int .i64 a1] rfl (by (try simp only [List.map_toArray, List.map_cons, List.map_nil]); first | done | rfl | (simp only [List.length_drop, List.length_take]; rfl)) ?_; (with_reducible refine (fix_Clamp.calls a1 t212 t213 _ A15.out).mono ?_); rintro e w65 ⟨rfl, hb⟩; refine ⟨_, rfl, ?_⟩; have n0_ := Aside0.mk (below_step (by repeat (first | (with_reducible first | exact HB.out | apply below_alloc | apply pw_below_drewN | apply below_drew1) | exact HB.out)) hb); clear HB; have HB := n0_; clear n0_; (try clear hb); (try clear hb2); (try clear hk); (try clear hi)) | (go_at_call 19; (with_reducible refine (fix_Abs.calls a0 t216 _ A51.out).mono ?_); rintro e w66 ⟨rfl, hb⟩; have n0_ := Aside0.mk (below_step (by repeat (first | (with_reducible first | exact HB.out | apply below_alloc | apply pw_below_drewN | apply below_drew1) | exact HB.out)) hb); clear HB; have HB := n0_; clear n0_; (try clear hb); (try clear hb2); (try clear hk); (try clear hi)) | (go_at_call 19; (with_reducible refine (fix_Abs.calls a1 t217 _ A52.out).mono ?_); rintro e w67 ⟨rfl, hb⟩; have n0_ := Aside0.mk (below_step (by repeat (first | (with_reducible first | exact HB.out | apply below_alloc | apply pw_below_drewN | apply below_drew1) | exact HB.out)) hb); clear HB; have HB := n0_; clear n0_; (try clear hb); (try clear hb2); (try clear hk); (try clear hi)))
              go_ret
              exact ⟨by first | rfl | (simp [errW_none, errW_some] <;> rfl) | (simp only [← hji4, ← hji6, ← hji53]; first | rfl | (simp [errW_none, errW_some] <;> rfl)) | (simp [*, errW_none, errW_some] <;> rfl), by repeat (first | (with_reducible first | exact HB.out | apply below_alloc | apply pw_below_drewN | apply below_drew1) | exact HB.out)⟩
            · rw [if_neg c54] at H
              have c54b0 : decide ((ji53) ≤ t201) = false := decide_eq_false c54
              clear c54
              exact absurd ((Option.some.inj H).trans hr.out) (by decide)
          · replace c50 := Bool.eq_false_iff.mpr c50
            subst c50
            have H1 : (if t213 = true then ((fix_Abs.f a0).bind fun t218 => ((fix_Abs.f a1).bind fun t219 => (if t201 ≥ (mx t218 t219) then (some (decide (t201 ≤ t208))) else (some false)))) else (some false)) = some r := by rw [if_neg (show ¬ (false = true) by decide)] at H; exact H
            clear H
            have H := H1
            clear H1
            by_cases c81 : t213 = true
            · subst c81
              have H1 : ((fix_Abs.f a0).bind fun t218 => ((fix_Abs.f a1).bind fun t219 => (if t201 ≥ (mx t218 t219) then (some (decide (t201 ≤ t208))) else (some false)))) = some r := by rw [if_pos rfl] at H; exact H
              clear H
              have H := H1
              clear H1
              replace H := Option.bind_eq_some_iff.mp H
              obtain ⟨t218, A820, H⟩ := H
              replace H : ((fix_Abs.f a1).bind fun t219 => (if t201 ≥ (mx t218 t219) then (some (decide (t201 ≤ t208))) else (some false))) = some r := H
              have A82 := Aside0.mk A820
              clear A820
              replace H := Option.bind_eq_some_iff.mp H
              obtain ⟨t219, A830, H⟩ := H
              replace H : (if t201 ≥ (mx t218 t219) then (some (decide (t201 ≤ t208))) else (some false)) = some r := H
              have A83 := Aside0.mk A830
              clear A830
              obtain ⟨ji84, hji84⟩ : ∃ j_ : Int, (mx t218 t219) = j_ := ⟨_, rfl⟩
              replace H : (if t201 ≥ (ji84) then (some (decide (t201 ≤ t208))) else (some false)) = some r := by first | (rw [hji84] at H; exact H) | (simp only [hji84] at H ⊢; exact H)
              (try rw [hji84] at A3)
              (try rw [hji84] at A5)
              (try rw [hji84] at A7)
              (try rw [hji84] at A8)
              (try rw [hji84] at A9)
              (try rw [hji84] at A10)
              (try rw [hji84] at A11)
              (try rw [hji84] at A12)
              (try rw [hji84] at A13)
              (try rw [hji84] at A14)
              (try rw [hji84] at A15)
              (try rw [hji84] at A82)
              (try rw [hji84] at A83)
              have hji84_ : (if t218 < t219 then t219 else t218) = ji84 := hji84
              by_cases c85 : t201 ≥ (ji84)
              · rw [if_pos c85] at H
                have c85b0 : decide ((ji84) ≤ t201) = true := decide_eq_true c85
                clear c85
                clear hr
                obtain rfl := Option.some.inj H
                go_enter Try.func8, Try.ntmps8
                go_wp2_with (first | ((with_reducible refine gate_callee (f := 9) rfl ?_); refine goesL_ (some 20) rfl rfl Try.func9 (by kernel_rfl) rfl #[] rfl (by (try simp only [List.map_toArray, List.map_cons, List.map_nil]); first | done | rfl | (simp only [List.length_drop, List.length_take]; rfl)) ?_; (with_reducible refine (outriggerlaw04_awake.calls k  true _ A3.out).mono ?_); rintro e w86 ⟨rfl, hb⟩; refine ⟨_, rfl, ?_⟩; have n0_ := Aside0.mk (below_step (by repeat (first | (with_reducible first | exact HB.out | apply below_alloc | apply pw_below_drewN | apply below_drew1) | exact HB.out)) hb); clear HB; have HB := n0_; clear n0_; (try clear hb); (try clear hb2); (try clear hk); (try clear hi)) | ((with_reducible refine gate_callee (f := 12) rfl ?_); refine goesL_ (some 25) rfl rfl Try.func12 (by kernel_rfl) rfl #[.int .i64 ji4] rfl (by (try simp only [List.map_toArray, List.map_cons, List.map_nil]); first | done | (simp only [hji4]; rfl) | rfl | (simp only [List.length_drop, List.length_take]; rfl)) ?_; (with_reducible refine (root_Sqrt.calls k ji4 t197 t198 _ A5.out).mono ?_); rintro e w87 ⟨rfl, hb⟩; refine ⟨_, rfl, ?_⟩; have n0_ := Aside0.mk (below_step (by repeat (first | (with_reducible first | exact HB.out | apply below_alloc | apply pw_below_drewN | apply below_drew1) | exact HB.out)) hb); clear HB; have HB := n0_; clear n0_; (try clear hb); (try clear hb2); (try clear hk); (try clear hi)) | ((with_reducible refine gate_callee (f := 12) rfl ?_); refine goesL_ (some 32) rfl rfl Try.func12 (by kernel_rfl) rfl #[.int .i64 ji6] rfl (by (try simp only [List.map_toArray, List.map_cons, List.map_nil]); first | done | (simp only [hji6]; rfl) | rfl | (simp only [List.length_drop, List.length_take]; rfl)) ?_; (with_reducible refine (root_Sqrt.calls k ji6 t199 t200 _ A7.out).mono ?_); rintro e w88 ⟨rfl, hb⟩; refine ⟨_, rfl, ?_⟩; have n0_ := Aside0.mk (below_step (by repeat (first | (with_reducible first | exact HB.out | apply below_alloc | apply pw_below_drewN | apply below_drew1) | exact HB.out)) hb); clear HB; have HB := n0_; clear n0_; (try clear hb); (try clear hb2); (try clear hk); (try clear hi)) | ((with_reducible refine gate_callee (f := 14) rfl ?_); refine goesL_ (some 38) rfl rfl Try.func14 (by kernel_rfl) rfl #[.int .i64 a0, .int .i64 a1] rfl (by (try simp only [List.map_toArray, List.map_cons, List.map_nil]); first | done | rfl | (simp only [List.length_drop, List.length_take]; rfl)) ?_; (with_reducible refine (root_Hyp.calls k a0 a1 t201 t202 _ A8.out).mono ?_); rintro e w89 ⟨rfl, hb⟩; refine ⟨_, rfl, ?_⟩; have n0_ := Aside0.mk (below_step (by repeat (first | (with_reducible first | exact HB.out | apply below_alloc | apply pw_below_drewN | apply below_drew1) | exact HB.out)) hb); clear HB; have HB := n0_; clear n0_; (try clear hb); (try clear hb2); (try clear hk); (try clear hi)) | ((with_reducible refine gate_callee (f := 23) rfl ?_); refine goesL_ (some 44) rfl rfl Try.func23 (by kernel_rfl) rfl #[.int .i64 a0] rfl (by (try simp only [List.map_toArray, List.map_cons, List.map_nil]); first | done | rfl | (simp only [List.length_drop, List.length_take]; rfl)) ?_; (with_reducible refine (fix_Neg.calls a0 t203 _ A9.out).mono ?_); rintro e w90 ⟨rfl, hb⟩; refine ⟨_, rfl, ?_⟩; have n0_ := Aside0.mk (below_step (by repeat (first | (with_reducible first | exact HB.out | apply below_alloc | apply pw_below_drewN | apply below_drew1) | exact HB.out)) hb); clear HB; have HB := n0_; clear n0_; (try clear hb); (try clear hb2); (try clear hk); (try clear hi)) | ((with_reducible refine gate_callee (f := 14) rfl ?_); refine goesL_ (some 45) rfl rfl Try.func14 (by kernel_rfl) rfl #[.int .i64 a1, .int .i64 t203] rfl (by (try simp only [List.map_toArray, List.map_cons, List.map_nil]); first | done | rfl | (simp only [List.length_drop, List.length_take]; rfl)) ?_; (with_reducible refine (root_Hyp.calls k a1 t203 t204 t205 _ A10.out).mono ?_); rintro e w91 ⟨rfl, hb⟩; refine ⟨_, rfl, ?_⟩; have n0_ := Aside0.mk (below_step (by repeat (first | (with_reducible first | exact HB.out | apply below_alloc | apply pw_below_drewN | apply below_drew1) | exact HB.out)) hb); clear HB; have HB := n0_; clear n0_; (try clear hb); (try clear hb2); (try clear hk); (try clear hi)) | ((with_reducible refine gate_callee (f := 19) rfl ?_); refine goesL_ (some 50) rfl rfl Try.func19 (by kernel_rfl) rfl #[.int .i64 a0] rfl (by (try simp only [List.map_toArray, List.map_cons, List.map_nil]); first | done | rfl | (simp only [List.length_drop, List.length_take]; rfl)) ?_; (with_reducible refine (fix_Abs.calls a0 t206 _ A11.out).mono ?_); rintro e w92 ⟨rfl, hb⟩; refine ⟨_, rfl, ?_⟩; have n0_ := Aside0.mk (below_step (by repeat (first | (with_reducible first | exact HB.out | apply below_alloc | apply pw_below_drewN | apply below_drew1) | exact HB.out)) hb); clear HB; have HB := n0_; clear n0_; (try clear hb); (try clear hb2); (try clear hk); (try clear hi)) | ((with_reducible refine gate_callee (f := 19) rfl ?_); refine goesL_ (some 52) rfl rfl Try.func19 (by kernel_rfl) rfl #[.int .i64 a1] rfl (by (try simp only [List.map_toArray, List.map_cons, List.map_nil]); first | done | rfl | (simp only [List.length_drop, List.length_take]; rfl)) ?_; (with_reducible refine (fix_Abs.calls a1 t207 _ A12.out).mono ?_); rintro e w93 ⟨rfl, hb⟩; refine ⟨_, rfl, ?_⟩; have n0_ := Aside0.mk (below_step (by repeat (first | (with_reducible first | exact HB.out | apply below_alloc | apply pw_below_drewN | apply below_drew1) | exact HB.out)) hb); clear HB; have HB := n0_; clear n0_; (try clear hb); (try clear hb2); (try clear hk); (try clear hi)) | ((with_reducible refine gate_callee (f := 24) rfl ?_); refine goesL_ (some 53) rfl rfl Try.func24 (by kernel_rfl) rfl #[.int .i64 t206, .int .i64 t207] rfl (by (try simp only [List.map_toArray, List.map_cons, List.map_nil]); first | done | rfl | (simp only [List.length_drop, List.length_take]; rfl)) ?_; (with_reducible refine (fix_Add.calls t206 t207 t208 t209 _ A13.out).mono ?_); rintro e w94 ⟨rfl, hb⟩; refine ⟨_, rfl, ?_⟩; have n0_ := Aside0.mk (below_step (by repeat (first | (with_reducible first | exact HB.out | apply below_alloc | apply pw_below_drewN | apply below_drew1) | exact HB.out)) hb); clear HB; have HB := n0_; clear n0_; (try clear hb); (try clear hb2); (try clear hk); (try clear hi)) | ((with_reducible refine gate_callee (f := 22) rfl ?_); refine goesL_ (some 58) rfl rfl Try.func22 (by kernel_rfl) rfl #[.int .i64 a0] rfl (by (try simp only [List.map_toArray, List.map_cons, List.map_nil]); first | done | rfl | (simp only [List.length_drop, List.length_take]; rfl)) ?_; (with_reducible refine (fix_Clamp.calls a0 t210 false _ A14.out).mono ?_); rintro e w95 ⟨rfl, hb⟩; refine ⟨_, rfl, ?_⟩; have n0_ := Aside0.mk (below_step (by repeat (first | (with_reducible first | exact HB.out | apply below_alloc | apply pw_below_drewN | apply below_drew1) | exact HB.out)) hb); clear HB; have HB := n0_; clear n0_; (try clear hb); (try clear hb2); (try clear hk); (try clear hi)) | ((with_reducible refine gate_callee (f := 22) rfl ?_); refine goesL_ (some 63) rfl rfl Try.func22 (by kernel_rfl) rfl #[.int .i64 a1] rfl (by (try simp only [List.map_toArray, List.map_cons, List.map_nil]); first | done | rfl | (simp only [List.length_drop, List.length_take]; rfl)) ?_; (with_reducible refine (fix_Clamp.calls a1 t212 true _ A15.out).mono ?_); rintro e w96 ⟨rfl, hb⟩; refine ⟨_, rfl, ?_⟩; have n0_ := Aside0.mk (below_step (by repeat (first | (with_reducible first | exact HB.out | apply below_alloc | apply pw_below_drewN | apply below_drew1) | exact HB.out)) hb); clear HB; have HB := n0_; clear n0_; (try clear hb); (try clear hb2); (try clear hk); (try clear hi)) | (go_at_call 19; (with_reducible refine (fix_Abs.calls a0 t218 _ A82.out).mono ?_); rintro e w97 ⟨rfl, hb⟩; have n0_ := Aside0.mk (below_step (by repeat (first | (with_reducible first | exact HB.out | apply below_alloc | apply pw_below_drewN | apply below_drew1) | exact HB.out)) hb); clear HB; have HB := n0_; clear n0_; (try clear hb); (try clear hb2); (try clear hk); (try clear hi)) | (go_at_call 19; (with_reducible refine (fix_Abs.calls a1 t219 _ A83.out).mono ?_); rintro e w98 ⟨rfl, hb⟩; have n0_ := Aside0.mk (below_step (by repeat (first | (with_reducible first | exact HB.out | apply below_alloc | apply pw_below_drewN | apply below_drew1) | exact HB.out)) hb); clear HB; have HB := n0_; clear n0_; (try clear hb); (try clear hb2); (try clear hk); (try clear hi)))
                go_ret
                exact ⟨by first | rfl | (simp [errW_none, errW_some] <;> rfl) | (simp only [← hji4, ← hji6, ← hji84]; first | rfl | (simp [errW_none, errW_some] <;> rfl)) | (simp [*, errW_none, errW_some] <;> rfl), by repeat (first | (with_reducible first | exact HB.out | apply below_alloc | apply pw_below_drewN | apply below_drew1) | exact HB.out)⟩
              · rw [if_neg c85] at H
                have c85b0 : decide ((ji84) ≤ t201) = false := decide_eq_false c85
                clear c85
                exact absurd ((Option.some.inj H).trans hr.out) (by decide)
            · replace c81 := Bool.eq_false_iff.mpr c81
              subst c81
              have H1 : (some false) = some r := by rw [if_neg (show ¬ (false = true) by decide)] at H; exact H
              clear H
              have H := H1
              clear H1
              exact absurd ((Option.some.inj H).trans hr.out) (by decide)
      · rw [if_neg c18] at H
        have c18b0 : (t201 == t204) = false := beq_eq_false_iff_ne.mpr c18
        have c18b1 : (t201 != t204) = true := bne_iff_ne.mpr c18
        exact absurd ((Option.some.inj H).trans hr.out) (by decide)
    · rw [if_neg c17] at H
      have c17b0 : decide (t197 ≤ t199) = false := decide_eq_false c17
      clear c17
      exact absurd ((Option.some.inj H).trans hr.out) (by decide)
  · replace c16 := Bool.eq_false_iff.mpr c16
    subst c16
    have H1 : (some false) = some r := by rw [if_neg (show ¬ (false = true) by decide)] at H; exact H
    clear H
    have H := H1
    clear H1
    exact absurd ((Option.some.inj H).trans hr.out) (by decide)

/-- THE ONE PURE STATEMENT of outriggerlaw04_RootOrder: yours. -/
def outriggerlaw04_RootOrder.Pure : Prop := ∀ (a0 : Int) (a1 : Int), (Lit.int .i64 a0).wf = true → (Lit.int .i64 a1).wf = true → ∃ k, outriggerlaw04_RootOrder.f k a0 a1 = some true
theorem outriggerlaw04_RootOrder.walk (P : outriggerlaw04_RootOrder.Pure) (a0 : Int) (a1 : Int) (w : World) (w0 : (Lit.int .i64 a0).wf = true) (w1 : (Lit.int .i64 a1).wf = true) :
    Calls Try.prog 8 #[.int .i64 a0, .int .i64 a1] w fun e w' => e = .returned (.bool true) ∧ Below w.heap.size w w' := by
  obtain ⟨k, h⟩ := P a0 a1 w0 w1
  refine (outriggerlaw04_RootOrder.calls k a0 a1 true w h ⟨rfl⟩).mono ?_
  rintro e w' ⟨rfl, hd⟩
  exact ⟨rfl, hd⟩


end Go.Proofs.Ythfcodicpcengaa.B
