/- The functions of the law WideSums. Laid by a program of this project out of the kit's print of the Go functions. -/
import Derived.Test.YtannmhdoggefnaaB0
import Derived.Test.YtannmhdoggefnaaB1
import Derived.Test.YtannmhdoggefnaaB2
import Derived.Test.YtannmhdoggefnaaB3
import Derived.Test.YtannmhdoggefnaaB4
namespace Go.Proofs.Ytannmhdoggefnaa.B
open Go.RowKit Go.Proofs.YtannmhdoggefnaaW.PrintWords Go.Proofs.YtannmhdoggefnaaW.PrintLast Go.Proofs.YtannmhdoggefnaaW.PrintMore
attribute [local go_sem] max2_int min2_int max_two min_two max_three min_three max_four min_four
set_option linter.unusedVariables false
set_option linter.unusedSimpArgs false

attribute [local go_sem high] eqA23
/-! ### outriggerlaw02_WideSums: function 4 -/
mutual
def outriggerlaw02_WideSums.j0 : Nat → Bool → Bool → Bool → Bool → Bool → Bool → Int → Int → Int → Int → Int → Int → Int → Int → Int → Int → Int → Int → Option (Bool)
  | 0, _, _, _, _, _, _, _, _, _, _, _, _, _, _, _, _, _, _ => none
  | k + 1, x7, x9, x13, x15, x17, x63, x184000, x184001, x185000, x185001, x186000, x186001, x191000, x191001, x199000, x199001, x207000, x207001 => if x63 = true then (some false) else ((wide_Sane.f x184000 x184001).bind fun t208 => (if t208 = true then ((wide_Sane.f x185000 x185001).bind fun t209 => (if t209 = true then ((wide_Sane.f x186000 x186001).bind fun t210 => (if t210 = true then (if x9 = true then (if x13 = true then (if x15 = true then (outriggerlaw02_WideSums.j1 k x7 (!x17) x184000 x184001 x185000 x185001 x191000 x191001 x199000 x199001 x207000 x207001) else (outriggerlaw02_WideSums.j1 k x7 true x184000 x184001 x185000 x185001 x191000 x191001 x199000 x199001 x207000 x207001)) else (outriggerlaw02_WideSums.j1 k x7 true x184000 x184001 x185000 x185001 x191000 x191001 x199000 x199001 x207000 x207001)) else (outriggerlaw02_WideSums.j1 k x7 true x184000 x184001 x185000 x185001 x191000 x191001 x199000 x199001 x207000 x207001)) else (outriggerlaw02_WideSums.j1 k x7 true x184000 x184001 x185000 x185001 x191000 x191001 x199000 x199001 x207000 x207001))) else (outriggerlaw02_WideSums.j1 k x7 true x184000 x184001 x185000 x185001 x191000 x191001 x199000 x199001 x207000 x207001))) else (outriggerlaw02_WideSums.j1 k x7 true x184000 x184001 x185000 x185001 x191000 x191001 x199000 x199001 x207000 x207001)))
def outriggerlaw02_WideSums.j1 : Nat → Bool → Bool → Int → Int → Int → Int → Int → Int → Int → Int → Int → Int → Option (Bool)
  | 0, _, _, _, _, _, _, _, _, _, _, _, _ => none
  | k + 1, x7, x92, x184000, x184001, x185000, x185001, x191000, x191001, x199000, x199001, x207000, x207001 => if x92 = true then (some x7) else ((wide_Neg.f x185000 x185001).bind fun bt211 => ((wide_Add.f x191000 x191001 bt211.1 bt211.2).bind fun bt213 => (if x7 = true then (if (x199000 == x207000 && (x199001 == x207001)) = true then (if x185000 = (-2305843009213693952) then (if x185001 = 0 then (some true) else (if bt213.2.2 = true then (some (bt213.1 == x184000 && (bt213.2.1 == x184001))) else (some false))) else (if bt213.2.2 = true then (some (bt213.1 == x184000 && (bt213.2.1 == x184001))) else (some false))) else (some false)) else (some false))))
end
def outriggerlaw02_WideSums.f (k : Nat) (a0_0 : Int) (a0_1 : Int) (a1_0 : Int) (a1_1 : Int) (a2_0 : Int) (a2_1 : Int) : Option (Bool) := (outriggerlaw02_awake.f k).bind fun t186 => ((wide_Add.f a0_0 a0_1 a1_0 a1_1).bind fun bt187 => ((wide_Add.f a1_0 a1_1 a0_0 a0_1).bind fun bt191 => ((wide_Add.f bt187.1 bt187.2.1 a2_0 a2_1).bind fun bt195 => ((wide_Add.f a1_0 a1_1 a2_0 a2_1).bind fun bt199 => ((wide_Add.f a0_0 a0_1 bt199.1 bt199.2.1).bind fun bt203 => (if (!(bt187.1 == bt191.1) || (!(bt187.2.1 == bt191.2.1))) = true then (outriggerlaw02_WideSums.j0 k t186 bt187.2.2 bt195.2.2 bt199.2.2 bt203.2.2 true a0_0 a0_1 a1_0 a1_1 a2_0 a2_1 bt187.1 bt187.2.1 bt195.1 bt195.2.1 bt203.1 bt203.2.1) else (if (bt187.2.2 != bt191.2.2) = true then (outriggerlaw02_WideSums.j0 k t186 bt187.2.2 bt195.2.2 bt199.2.2 bt203.2.2 true a0_0 a0_1 a1_0 a1_1 a2_0 a2_1 bt187.1 bt187.2.1 bt195.1 bt195.2.1 bt203.1 bt203.2.1) else ((wide_Sane.f bt187.1 bt187.2.1).bind fun t207 => (outriggerlaw02_WideSums.j0 k t186 bt187.2.2 bt195.2.2 bt199.2.2 bt203.2.2 (!t207) a0_0 a0_1 a1_0 a1_1 a2_0 a2_1 bt187.1 bt187.2.1 bt195.1 bt195.2.1 bt203.1 bt203.2.1)))))))))
theorem outriggerlaw02_WideSums.mono_l : ∀ k, (∀ y0 y1 y2 y3 y4 y5 y6 y7 y8 y9 y10 y11 y12 y13 y14 y15 y16 y17, LeO (outriggerlaw02_WideSums.j0 k y0 y1 y2 y3 y4 y5 y6 y7 y8 y9 y10 y11 y12 y13 y14 y15 y16 y17) (outriggerlaw02_WideSums.j0 (k + 1) y0 y1 y2 y3 y4 y5 y6 y7 y8 y9 y10 y11 y12 y13 y14 y15 y16 y17)) ∧ (∀ y0 y1 y2 y3 y4 y5 y6 y7 y8 y9 y10 y11, LeO (outriggerlaw02_WideSums.j1 k y0 y1 y2 y3 y4 y5 y6 y7 y8 y9 y10 y11) (outriggerlaw02_WideSums.j1 (k + 1) y0 y1 y2 y3 y4 y5 y6 y7 y8 y9 y10 y11))
  | 0 => ⟨fun _ _ _ _ _ _ _ _ _ _ _ _ _ _ _ _ _ _ r h => by simp [outriggerlaw02_WideSums.j0] at h, fun _ _ _ _ _ _ _ _ _ _ _ _ r h => by simp [outriggerlaw02_WideSums.j1] at h⟩
  | k + 1 => by
    obtain ⟨ih0, ih1⟩ := outriggerlaw02_WideSums.mono_l k
    refine ⟨?_, ?_⟩
    · intro y0 y1 y2 y3 y4 y5 y6 y7 y8 y9 y10 y11 y12 y13 y14 y15 y16 y17
      unfold outriggerlaw02_WideSums.j0
      repeat' first
      | (with_reducible exact ih0 _ _ _ _ _ _ _ _ _ _ _ _ _ _ _ _ _ _)
      | (with_reducible exact ih1 _ _ _ _ _ _ _ _ _ _ _ _)
      | (with_reducible exact outriggerlaw02_awake.mono _)
      | (with_reducible exact LeO.refl _)
      | (with_reducible exact LeO.none _)
      | (with_reducible refine LeO.ite ?_ ?_)
      | (with_reducible refine LeO.bind ?_ (fun _ => ?_))
      | exact ih0 _ _ _ _ _ _ _ _ _ _ _ _ _ _ _ _ _ _
      | exact ih1 _ _ _ _ _ _ _ _ _ _ _ _
      | exact outriggerlaw02_awake.mono _
      | exact LeO.none _
      | refine LeO.ite ?_ ?_
      | refine LeO.bind ?_ (fun _ => ?_)
    · intro y0 y1 y2 y3 y4 y5 y6 y7 y8 y9 y10 y11
      unfold outriggerlaw02_WideSums.j1
      repeat' first
      | (with_reducible exact ih0 _ _ _ _ _ _ _ _ _ _ _ _ _ _ _ _ _ _)
      | (with_reducible exact ih1 _ _ _ _ _ _ _ _ _ _ _ _)
      | (with_reducible exact outriggerlaw02_awake.mono _)
      | (with_reducible exact LeO.refl _)
      | (with_reducible exact LeO.none _)
      | (with_reducible refine LeO.ite ?_ ?_)
      | (with_reducible refine LeO.bind ?_ (fun _ => ?_))
      | exact ih0 _ _ _ _ _ _ _ _ _ _ _ _ _ _ _ _ _ _
      | exact ih1 _ _ _ _ _ _ _ _ _ _ _ _
      | exact outriggerlaw02_awake.mono _
      | exact LeO.none _
      | refine LeO.ite ?_ ?_
      | refine LeO.bind ?_ (fun _ => ?_)
theorem outriggerlaw02_WideSums.mono : ∀ a0 a1 a2 a3 a4 a5 k, LeO (outriggerlaw02_WideSums.f k a0 a1 a2 a3 a4 a5) (outriggerlaw02_WideSums.f (k + 1) a0 a1 a2 a3 a4 a5) := by
  intro a0 a1 a2 a3 a4 a5 k
  obtain ⟨ih0, ih1⟩ := outriggerlaw02_WideSums.mono_l k
  unfold outriggerlaw02_WideSums.f
  repeat' first
      | (with_reducible exact ih0 _ _ _ _ _ _ _ _ _ _ _ _ _ _ _ _ _ _)
      | (with_reducible exact ih1 _ _ _ _ _ _ _ _ _ _ _ _)
      | (with_reducible exact outriggerlaw02_awake.mono _)
      | (with_reducible exact LeO.refl _)
      | (with_reducible exact LeO.none _)
      | (with_reducible refine LeO.ite ?_ ?_)
      | (with_reducible refine LeO.bind ?_ (fun _ => ?_))
      | exact ih0 _ _ _ _ _ _ _ _ _ _ _ _ _ _ _ _ _ _
      | exact ih1 _ _ _ _ _ _ _ _ _ _ _ _
      | exact outriggerlaw02_awake.mono _
      | exact LeO.none _
      | refine LeO.ite ?_ ?_
      | refine LeO.bind ?_ (fun _ => ?_)
def outriggerlaw02_WideSums.T11 : Bool × List (List Nat × List Nat) := (true, [([], []), ([], []), ([1], [1]), ([0, 2, 2], [0, 2]), ([3], [3]), ([4], [4]), ([4], [4]), ([], []), ([7, 5, 3, 0, 1, 2, 3, 4, 5, 7], [5, 7]), ([6, 8, 0, 1, 2, 3, 4, 5, 6, 7, 8], [6])])
def outriggerlaw02_WideSums.B11 : List Nat := [0, 0, 2, 7, 15, 31, 31, 0, 191, 511]
theorem outriggerlaw02_WideSums.tab11 : rtab .any (opsOf Try.f4 11) = outriggerlaw02_WideSums.T11 := by kernel_rfl
theorem outriggerlaw02_WideSums.bits11 : waitsOk outriggerlaw02_WideSums.T11.2 outriggerlaw02_WideSums.B11 = true := by kernel_rfl

end Go.Proofs.Ytannmhdoggefnaa.B
