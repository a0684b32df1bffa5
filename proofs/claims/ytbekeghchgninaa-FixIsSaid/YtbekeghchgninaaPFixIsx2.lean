-- PRINTED BY print.sh 35421559b90ae4d0a3588c463048766b98c2df88dd9212a6774a882060cdf62d: not written by this session
import Derived.Test.YtbekeghchgninaaPFixIsx0
import Derived.Test.YtbekeghchgninaaPFixIsx1
namespace Go.Proofs.Ytbekeghchgninaa.PFixIs
open Go.RowKit Go.Proofs.YtbekeghchgninaaW.PrintWords Go.Proofs.YtbekeghchgninaaW.PrintLast Go.Proofs.YtbekeghchgninaaW.PrintMore
attribute [local go_sem] max2_int min2_int max_two min_two max_three min_three max_four min_four   -- for this text's walks alone
set_option linter.unusedVariables false
set_option linter.unusedSimpArgs false

/-! ### outriggerlaw01_FixIs: function 5 -/
def outriggerlaw01_FixIs.j0 : Nat → Int → Bool → Bool → Option (Bool)
  | 0, _, _, _ => none
  | k + 1, x0, x5, x104 => if x104 = true then (some false) else (if x5 = true then ((fix_Neg.f x0).bind fun t169 => ((outriggerref01_Neg.f x0).bind fun t170 => (if t169 = t170 then ((fix_Abs.f x0).bind fun t171 => ((outriggerref01_Abs.f x0).bind fun t172 => (if t171 = t172 then ((fix_Floor.f x0).bind fun t173 => ((outriggerref01_Floor.f x0).bind fun t174 => (if t173 = t174 then ((fix_Near.f x0).bind fun t175 => ((outriggerref01_Near.f x0).bind fun t176 => (if t175 = t176 then ((fix_Rest.f x0).bind fun t177 => ((outriggerref01_Rest.f x0).bind fun t178 => (some (t177 == t178)))) else (some false)))) else (some false)))) else (some false)))) else (some false)))) else (some false))
def outriggerlaw01_FixIs.f (k : Nat) (a0 : Int) (a1 : Int) : Option (Bool) := (outriggerlaw01_awake.f).bind fun t152 => ((fix_Clamp.f a0).bind fun bt153 => ((outriggerref01_Clamp.f a0).bind fun bt155 => ((fix_Add.f a0 a1).bind fun bt157 => ((outriggerref01_Add.f a0 a1).bind fun bt159 => ((fix_Sub.f a0 a1).bind fun bt161 => ((outriggerref01_Sub.f a0 a1).bind fun bt163 => ((fix_Of.f a0).bind fun bt165 => ((outriggerref01_Of.f a0).bind fun bt167 => (if bt153.1 = bt155.1 then (if (bt153.2 != bt155.2) = true then (outriggerlaw01_FixIs.j0 k a0 t152 true) else (if bt157.1 = bt159.1 then (if (bt157.2 != bt159.2) = true then (outriggerlaw01_FixIs.j0 k a0 t152 true) else (if bt161.1 = bt163.1 then (if (bt161.2 != bt163.2) = true then (outriggerlaw01_FixIs.j0 k a0 t152 true) else (if bt165.1 = bt167.1 then (outriggerlaw01_FixIs.j0 k a0 t152 (bt165.2 != bt167.2)) else (outriggerlaw01_FixIs.j0 k a0 t152 true))) else (outriggerlaw01_FixIs.j0 k a0 t152 true))) else (outriggerlaw01_FixIs.j0 k a0 t152 true))) else (outriggerlaw01_FixIs.j0 k a0 t152 true))))))))))
theorem outriggerlaw01_FixIs.mono_l : ∀ k, (∀ y0 y1 y2, LeO (outriggerlaw01_FixIs.j0 k y0 y1 y2) (outriggerlaw01_FixIs.j0 (k + 1) y0 y1 y2))
  | 0 => fun _ _ _ r h => by simp [outriggerlaw01_FixIs.j0] at h
  | k + 1 => by
    have ih0 := outriggerlaw01_FixIs.mono_l k
    · intro y0 y1 y2
      unfold outriggerlaw01_FixIs.j0
      repeat' first
      | (with_reducible exact ih0 _ _ _)
      | (with_reducible exact LeO.refl _)
      | (with_reducible exact LeO.none _)
      | (with_reducible refine LeO.ite ?_ ?_)
      | (with_reducible refine LeO.bind ?_ (fun _ => ?_))
      | exact ih0 _ _ _
      | exact LeO.none _
      | refine LeO.ite ?_ ?_
      | refine LeO.bind ?_ (fun _ => ?_)
theorem outriggerlaw01_FixIs.mono : ∀ a0 a1 k, LeO (outriggerlaw01_FixIs.f k a0 a1) (outriggerlaw01_FixIs.f (k + 1) a0 a1) := by
  intro a0 a1 k
  have ih0 := outriggerlaw01_FixIs.mono_l k
  unfold outriggerlaw01_FixIs.f
  repeat' first
      | (with_reducible exact ih0 _ _ _)
      | (with_reducible exact LeO.refl _)
      | (with_reducible exact LeO.none _)
      | (with_reducible refine LeO.ite ?_ ?_)
      | (with_reducible refine LeO.bind ?_ (fun _ => ?_))
      | exact ih0 _ _ _
      | exact LeO.none _
      | refine LeO.ite ?_ ?_
      | refine LeO.bind ?_ (fun _ => ?_)
set_option maxHeartbeats 8000000 in
set_option maxRecDepth 100000 in
theorem outriggerlaw01_FixIs.calls (k : Nat) (a0 : Int) (a1 : Int) (r : Bool) (w : World) (h : outriggerlaw01_FixIs.f k a0 a1 = some r) :
    Calls Try.prog 5 #[.int .i64 a0, .int .i64 a1] w fun e w' => e = .returned (.bool r) ∧ Below w.heap.size w w' := by
  have HB := Aside0.mk (Below.refl w.heap.size w)
  have H : ((outriggerlaw01_awake.f).bind fun t152 => ((fix_Clamp.f a0).bind fun bt153 => ((outriggerref01_Clamp.f a0).bind fun bt155 => ((fix_Add.f a0 a1).bind fun bt157 => ((outriggerref01_Add.f a0 a1).bind fun bt159 => ((fix_Sub.f a0 a1).bind fun bt161 => ((outriggerref01_Sub.f a0 a1).bind fun bt163 => ((fix_Of.f a0).bind fun bt165 => ((outriggerref01_Of.f a0).bind fun bt167 => (if bt153.1 = bt155.1 then (if (bt153.2 != bt155.2) = true then (outriggerlaw01_FixIs.j0 k a0 t152 true) else (if bt157.1 = bt159.1 then (if (bt157.2 != bt159.2) = true then (outriggerlaw01_FixIs.j0 k a0 t152 true) else (if bt161.1 = bt163.1 then (if (bt161.2 != bt163.2) = true then (outriggerlaw01_FixIs.j0 k a0 t152 true) else (if bt165.1 = bt167.1 then (outriggerlaw01_FixIs.j0 k a0 t152 (bt165.2 != bt167.2)) else (outriggerlaw01_FixIs.j0 k a0 t152 true))) else (outriggerlaw01_FixIs.j0 k a0 t152 true))) else (outriggerlaw01_FixIs.j0 k a0 t152 true))) else (outriggerlaw01_FixIs.j0 k a0 t152 true))))))))))) = some r := h
  clear h
  replace H := Option.bind_eq_some_iff.mp H
  obtain ⟨t152, A30, H⟩ := H
  replace H : ((fix_Clamp.f a0).bind fun bt153 => ((outriggerref01_Clamp.f a0).bind fun bt155 => ((fix_Add.f a0 a1).bind fun bt157 => ((outriggerref01_Add.f a0 a1).bind fun bt159 => ((fix_Sub.f a0 a1).bind fun bt161 => ((outriggerref01_Sub.f a0 a1).bind fun bt163 => ((fix_Of.f a0).bind fun bt165 => ((outriggerref01_Of.f a0).bind fun bt167 => (if bt153.1 = bt155.1 then (if (bt153.2 != bt155.2) = true then (outriggerlaw01_FixIs.j0 k a0 t152 true) else (if bt157.1 = bt159.1 then (if (bt157.2 != bt159.2) = true then (outriggerlaw01_FixIs.j0 k a0 t152 true) else (if bt161.1 = bt163.1 then (if (bt161.2 != bt163.2) = true then (outriggerlaw01_FixIs.j0 k a0 t152 true) else (if bt165.1 = bt167.1 then (outriggerlaw01_FixIs.j0 k a0 t152 (bt165.2 != bt167.2)) else (outriggerlaw01_FixIs.j0 k a0 t152 true))) else (outriggerlaw01_FixIs.j0 k a0 t152 true))) else (outriggerlaw01_FixIs.j0 k a0 t152 true))) else (outriggerlaw01_FixIs.j0 k a0 t152 true)))))))))) = some r := H
  have A3 := Aside0.mk A30
  clear A30
  replace H := Option.bind_eq_some_iff.mp H
  obtain ⟨⟨t153, t154⟩, A40, H⟩ := H
  replace H : ((outriggerref01_Clamp.f a0).bind fun bt155 => ((fix_Add.f a0 a1).bind fun bt157 => ((outriggerref01_Add.f a0 a1).bind fun bt159 => ((fix_Sub.f a0 a1).bind fun bt161 => ((outriggerref01_Sub.f a0 a1).bind fun bt163 => ((fix_Of.f a0).bind fun bt165 => ((outriggerref01_Of.f a0).bind fun bt167 => (if t153 = bt155.1 then (if (t154 != bt155.2) = true then (outriggerlaw01_FixIs.j0 k a0 t152 true) else (if bt157.1 = bt159.1 then (if (bt157.2 != bt159.2) = true then (outriggerlaw01_FixIs.j0 k a0 t152 true) else (if bt161.1 = bt163.1 then (if (bt161.2 != bt163.2) = true then (outriggerlaw01_FixIs.j0 k a0 t152 true) else (if bt165.1 = bt167.1 then (outriggerlaw01_FixIs.j0 k a0 t152 (bt165.2 != bt167.2)) else (outriggerlaw01_FixIs.j0 k a0 t152 true))) else (outriggerlaw01_FixIs.j0 k a0 t152 true))) else (outriggerlaw01_FixIs.j0 k a0 t152 true))) else (outriggerlaw01_FixIs.j0 k a0 t152 true))))))))) = some r := H
  have A4 := Aside0.mk A40
  clear A40
  replace H := Option.bind_eq_some_iff.mp H
  obtain ⟨⟨t155, t156⟩, A50, H⟩ := H
  replace H : ((fix_Add.f a0 a1).bind fun bt157 => ((outriggerref01_Add.f a0 a1).bind fun bt159 => ((fix_Sub.f a0 a1).bind fun bt161 => ((outriggerref01_Sub.f a0 a1).bind fun bt163 => ((fix_Of.f a0).bind fun bt165 => ((outriggerref01_Of.f a0).bind fun bt167 => (if t153 = t155 then (if (t154 != t156) = true then (outriggerlaw01_FixIs.j0 k a0 t152 true) else (if bt157.1 = bt159.1 then (if (bt157.2 != bt159.2) = true then (outriggerlaw01_FixIs.j0 k a0 t152 true) else (if bt161.1 = bt163.1 then (if (bt161.2 != bt163.2) = true then (outriggerlaw01_FixIs.j0 k a0 t152 true) else (if bt165.1 = bt167.1 then (outriggerlaw01_FixIs.j0 k a0 t152 (bt165.2 != bt167.2)) else (outriggerlaw01_FixIs.j0 k a0 t152 true))) else (outriggerlaw01_FixIs.j0 k a0 t152 true))) else (outriggerlaw01_FixIs.j0 k a0 t152 true))) else (outriggerlaw01_FixIs.j0 k a0 t152 true)))))))) = some r := H
  have A5 := Aside0.mk A50
  clear A50
  replace H := Option.bind_eq_some_iff.mp H
  obtain ⟨⟨t157, t158⟩, A60, H⟩ := H
  replace H : ((outriggerref01_Add.f a0 a1).bind fun bt159 => ((fix_Sub.f a0 a1).bind fun bt161 => ((outriggerref01_Sub.f a0 a1).bind fun bt163 => ((fix_Of.f a0).bind fun bt165 => ((outriggerref01_Of.f a0).bind fun bt167 => (if t153 = t155 then (if (t154 != t156) = true then (outriggerlaw01_FixIs.j0 k a0 t152 true) else (if t157 = bt159.1 then (if (t158 != bt159.2) = true then (outriggerlaw01_FixIs.j0 k a0 t152 true) else (if bt161.1 = bt163.1 then (if (bt161.2 != bt163.2) = true then (outriggerlaw01_FixIs.j0 k a0 t152 true) else (if bt165.1 = bt167.1 then (outriggerlaw01_FixIs.j0 k a0 t152 (bt165.2 != bt167.2)) else (outriggerlaw01_FixIs.j0 k a0 t152 true))) else (outriggerlaw01_FixIs.j0 k a0 t152 true))) else (outriggerlaw01_FixIs.j0 k a0 t152 true))) else (outriggerlaw01_FixIs.j0 k a0 t152 true))))))) = some r := H
  have A6 := Aside0.mk A60
  clear A60
  replace H := Option.bind_eq_some_iff.mp H
  obtain ⟨⟨t159, t160⟩, A70, H⟩ := H
  replace H : ((fix_Sub.f a0 a1).bind fun bt161 => ((outriggerref01_Sub.f a0 a1).bind fun bt163 => ((fix_Of.f a0).bind fun bt165 => ((outriggerref01_Of.f a0).bind fun bt167 => (if t153 = t155 then (if (t154 != t156) = true then (outriggerlaw01_FixIs.j0 k a0 t152 true) else (if t157 = t159 then (if (t158 != t160) = true then (outriggerlaw01_FixIs.j0 k a0 t152 true) else (if bt161.1 = bt163.1 then (if (bt161.2 != bt163.2) = true then (outriggerlaw01_FixIs.j0 k a0 t152 true) else (if bt165.1 = bt167.1 then (outriggerlaw01_FixIs.j0 k a0 t152 (bt165.2 != bt167.2)) else (outriggerlaw01_FixIs.j0 k a0 t152 true))) else (outriggerlaw01_FixIs.j0 k a0 t152 true))) else (outriggerlaw01_FixIs.j0 k a0 t152 true))) else (outriggerlaw01_FixIs.j0 k a0 t152 true)))))) = some r := H
  have A7 := Aside0.mk A70
  clear A70
  replace H := Option.bind_eq_some_iff.mp H
  obtain ⟨⟨t161, t162⟩, A80, H⟩ := H
  replace H : ((outriggerref01_Sub.f a0 a1).bind fun bt163 => ((fix_Of.f a0).bind fun bt165 => ((outriggerref01_Of.f a0).bind fun bt167 => (if t153 = t155 then (if (t154 != t156) = true then (outriggerlaw01_FixIs.j0 k a0 t152 true) else (if t157 = t159 then (if (t158 != t160) = true then (outriggerlaw01_FixIs.j0 k a0 t152 true) else (if t161 = bt163.1 then (if (t162 != bt163.2) = true then (outriggerlaw01_FixIs.j0 k a0 t152 true) else (if bt165.1 = bt167.1 then (outriggerlaw01_FixIs.j0 k a0 t152 (bt165.2 != bt167.2)) else (outriggerlaw01_FixIs.j0 k a0 t152 true))) else (outriggerlaw01_FixIs.j0 k a0 t152 true))) else (outriggerlaw01_FixIs.j0 k a0 t152 true))) else (outriggerlaw01_FixIs.j0 k a0 t152 true))))) = some r := H
  have A8 := Aside0.mk A80
  clear A80
  replace H := Option.bind_eq_some_iff.mp H
  obtain ⟨⟨t163, t164⟩, A90, H⟩ := H
  replace H : ((fix_Of.f a0).bind fun bt165 => ((outriggerref01_Of.f a0).bind fun bt167 => (if t153 = t155 then (if (t154 != t156) = true then (outriggerlaw01_FixIs.j0 k a0 t152 true) else (if t157 = t159 then (if (t158 != t160) = true then (outriggerlaw01_FixIs.j0 k a0 t152 true) else (if t161 = t163 then (if (t162 != t164) = true then (outriggerlaw01_FixIs.j0 k a0 t152 true) else (if bt165.1 = bt167.1 then (outriggerlaw01_FixIs.j0 k a0 t152 (bt165.2 != bt167.2)) else (outriggerlaw01_FixIs.j0 k a0 t152 true))) else (outriggerlaw01_FixIs.j0 k a0 t152 true))) else (outriggerlaw01_FixIs.j0 k a0 t152 true))) else (outriggerlaw01_FixIs.j0 k a0 t152 true)))) = some r := H
  have A9 := Aside0.mk A90
  clear A90
  replace H := Option.bind_eq_some_iff.mp H
  obtain ⟨⟨t165, t166⟩, A100, H⟩ := H
  replace H : ((outriggerref01_Of.f a0).bind fun bt167 => (if t153 = t155 then (if (t154 != t156) = true then (outriggerlaw01_FixIs.j0 k a0 t152 true) else (if t157 = t159 then (if (t158 != t160) = true then (outriggerlaw01_FixIs.j0 k a0 t152 true) else (if t161 = t163 then (if (t162 != t164) = true then (outriggerlaw01_FixIs.j0 k a0 t152 true) else (if t165 = bt167.1 then (outriggerlaw01_FixIs.j0 k a0 t152 (t166 != bt167.2)) else (outriggerlaw01_FixIs.j0 k a0 t152 true))) else (outriggerlaw01_FixIs.j0 k a0 t152 true))) else (outriggerlaw01_FixIs.j0 k a0 t152 true))) else (outriggerlaw01_FixIs.j0 k a0 t152 true))) = some r := H
  have A10 := Aside0.mk A100
  clear A100
  replace H := Option.bind_eq_some_iff.mp H
  obtain ⟨⟨t167, t168⟩, A110, H⟩ := H
  replace H : (if t153 = t155 then (if (t154 != t156) = true then (outriggerlaw01_FixIs.j0 k a0 t152 true) else (if t157 = t159 then (if (t158 != t160) = true then (outriggerlaw01_FixIs.j0 k a0 t152 true) else (if t161 = t163 then (if (t162 != t164) = true then (outriggerlaw01_FixIs.j0 k a0 t152 true) else (if t165 = t167 then (outriggerlaw01_FixIs.j0 k a0 t152 (t166 != t168)) else (outriggerlaw01_FixIs.j0 k a0 t152 true))) else (outriggerlaw01_FixIs.j0 k a0 t152 true))) else (outriggerlaw01_FixIs.j0 k a0 t152 true))) else (outriggerlaw01_FixIs.j0 k a0 t152 true)) = some r := H
  have A11 := Aside0.mk A110
  clear A110
  have HC12 := Aside0.mk H
  clear H
  go_enter Try.func5, Try.ntmps5
  go_upto_region 10 with (first | ((with_reducible refine gate_callee (f := 8) rfl ?_); refine goesL_ (some 22) rfl rfl Try.func8 (by kernel_rfl) rfl #[] rfl (by (try simp only [List.map_toArray, List.map_cons, List.map_nil]); first | done | rfl | (simp only [List.length_drop, List.length_take]; rfl)) ?_; (with_reducible refine (outriggerlaw01_awake.calls  t152 _ A3.out).mono ?_); rintro e w13 ⟨rfl, hb⟩; refine ⟨_, rfl, ?_⟩; have n0_ := Aside0.mk (below_step (by repeat (first | (with_reducible first | exact HB.out | apply below_alloc | apply pw_below_drewN | apply below_drew1) | exact HB.out)) hb); clear HB; have HB := n0_; clear n0_; (try clear hb); (try clear hb2); (try clear hk); (try clear hi)) | ((with_reducible refine gate_callee (f := 9) rfl ?_); refine goesL_ (some 25) rfl rfl Try.func9 (by kernel_rfl) rfl #[.int .i64 a0] rfl (by (try simp only [List.map_toArray, List.map_cons, List.map_nil]); first | done | rfl | (simp only [List.length_drop, List.length_take]; rfl)) ?_; (with_reducible refine (fix_Clamp.calls a0 t153 t154 _ A4.out).mono ?_); rintro e w14 ⟨rfl, hb⟩; refine ⟨_, rfl, ?_⟩; have n0_ := Aside0.mk (below_step (by repeat (first | (with_reducible first | exact HB.out | apply below_alloc | apply pw_below_drewN | apply below_drew1) | exact HB.out)) hb); clear HB; have HB := n0_; clear n0_; (try clear hb); (try clear hb2); (try clear hk); (try clear hi)) | ((with_reducible refine gate_callee (f := 16) rfl ?_); refine goesL_ (some 30) rfl rfl Try.func16 (by kernel_rfl) rfl #[.int .i64 a0] rfl (by (try simp only [List.map_toArray, List.map_cons, List.map_nil]); first | done | rfl | (simp only [List.length_drop, List.length_take]; rfl)) ?_; (with_reducible refine (outriggerref01_Clamp.calls a0 t155 t156 _ A5.out).mono ?_); rintro e w' ⟨rfl, ⟨nd, rfl⟩⟩; refine ⟨_, rfl, ?_⟩) | ((with_reducible refine gate_callee (f := 14) rfl ?_); refine goesL_ (some 36) rfl rfl Try.func14 (by kernel_rfl) rfl #[.int .i64 a0, .int .i64 a1] rfl (by (try simp only [List.map_toArray, List.map_cons, List.map_nil]); first | done | rfl | (simp only [List.length_drop, List.length_take]; rfl)) ?_; (with_reducible refine (fix_Add.calls a0 a1 t157 t158 _ A6.out).mono ?_); rintro e w15 ⟨rfl, hb⟩; refine ⟨_, rfl, ?_⟩; have n0_ := Aside0.mk (below_step (by repeat (first | (with_reducible first | exact HB.out | apply below_alloc | apply pw_below_drewN | apply below_drew1) | exact HB.out)) hb); clear HB; have HB := n0_; clear n0_; (try clear hb); (try clear hb2); (try clear hk); (try clear hi)) | ((with_reducible refine gate_callee (f := 17) rfl ?_); refine goesL_ (some 42) rfl rfl Try.func17 (by kernel_rfl) rfl #[.int .i64 a0, .int .i64 a1] rfl (by (try simp only [List.map_toArray, List.map_cons, List.map_nil]); first | done | rfl | (simp only [List.length_drop, List.length_take]; rfl)) ?_; (with_reducible refine (outriggerref01_Add.calls a0 a1 t159 t160 _ A7.out).mono ?_); rintro e w' ⟨rfl, ⟨nd, rfl⟩⟩; refine ⟨_, rfl, ?_⟩) | ((with_reducible refine gate_callee (f := 18) rfl ?_); refine goesL_ (some 48) rfl rfl Try.func18 (by kernel_rfl) rfl #[.int .i64 a0, .int .i64 a1] rfl (by (try simp only [List.map_toArray, List.map_cons, List.map_nil]); first | done | rfl | (simp only [List.length_drop, List.length_take]; rfl)) ?_; (with_reducible refine (fix_Sub.calls a0 a1 t161 t162 _ A8.out).mono ?_); rintro e w16 ⟨rfl, hb⟩; refine ⟨_, rfl, ?_⟩; have n0_ := Aside0.mk (below_step (by repeat (first | (with_reducible first | exact HB.out | apply below_alloc | apply pw_below_drewN | apply below_drew1) | exact HB.out)) hb); clear HB; have HB := n0_; clear n0_; (try clear hb); (try clear hb2); (try clear hk); (try clear hi)) | ((with_reducible refine gate_callee (f := 19) rfl ?_); refine goesL_ (some 54) rfl rfl Try.func19 (by kernel_rfl) rfl #[.int .i64 a0, .int .i64 a1] rfl (by (try simp only [List.map_toArray, List.map_cons, List.map_nil]); first | done | rfl | (simp only [List.length_drop, List.length_take]; rfl)) ?_; (with_reducible refine (outriggerref01_Sub.calls a0 a1 t163 t164 _ A9.out).mono ?_); rintro e w' ⟨rfl, ⟨nd, rfl⟩⟩; refine ⟨_, rfl, ?_⟩) | ((with_reducible refine gate_callee (f := 12) rfl ?_); refine goesL_ (some 59) rfl rfl Try.func12 (by kernel_rfl) rfl #[.int .i64 a0] rfl (by (try simp only [List.map_toArray, List.map_cons, List.map_nil]); first | done | rfl | (simp only [List.length_drop, List.length_take]; rfl)) ?_; (with_reducible refine (fix_Of.calls a0 t165 t166 _ A10.out).mono ?_); rintro e w17 ⟨rfl, hb⟩; refine ⟨_, rfl, ?_⟩; have n0_ := Aside0.mk (below_step (by repeat (first | (with_reducible first | exact HB.out | apply below_alloc | apply pw_below_drewN | apply below_drew1) | exact HB.out)) hb); clear HB; have HB := n0_; clear n0_; (try clear hb); (try clear hb2); (try clear hk); (try clear hi)) | ((with_reducible refine gate_callee (f := 20) rfl ?_); refine goesL_ (some 64) rfl rfl Try.func20 (by kernel_rfl) rfl #[.int .i64 a0] rfl (by (try simp only [List.map_toArray, List.map_cons, List.map_nil]); first | done | rfl | (simp only [List.length_drop, List.length_take]; rfl)) ?_; (with_reducible refine (outriggerref01_Of.calls a0 t167 t168 _ A11.out).mono ?_); rintro e w' ⟨rfl, ⟨nd, rfl⟩⟩; refine ⟨_, rfl, ?_⟩))
  (try simp only [Act.put, List.setIfInBounds_toArray, List.set_cons_zero, List.set_cons_succ])
  go_cut [104] (fun v104 wc => ∃ (kq : Nat) (x104_11 : Bool), v104 = .bool x104_11 ∧ Aside0 (outriggerlaw01_FixIs.j0 kq a0 t152 x104_11 = some r) ∧ Aside0 (kq ≤ k) ∧ Aside0 (Below w.heap.size w wc))
  case first =>
    have H := HC12.out
    clear HC12
    by_cases c18 : t153 = t155
    · rw [if_pos c18] at H
      have c18b0 : (t153 == t155) = true := beq_iff_eq.mpr c18
      have c18b1 : (t153 != t155) = false := bne_eq_false_iff_eq.mpr c18
      clear c18
      (first | rw [c18b0] | (simp only [i64_w, i32_w]; rw [c18b0]) | skip)
      by_cases c19 : (t154 != t156) = true
      · rw [if_pos c19] at H
        have c19b0 : (t154 != t156) = true := c19
        (try (have c19b1 : decide (t154 = t156) = false := by simpa using c19))
        (try (have c19b2 : (t154 == t156) = false := by simpa using c19))
        (try (have c19b3 : ¬ (t154 = t156) := by simpa using c19))
        clear c19
        have H' := Aside0.mk H
        clear H
        go_wp2
        go_meet
        case rel => exact ⟨_, (true), (by first | rfl | (simp; done) | (simp [*]; done)), H', ⟨by first | omega | exact Nat.le_refl _⟩, ⟨by repeat (first | (with_reducible first | exact HB.out | apply below_alloc | apply pw_below_drewN | apply below_drew1) | exact HB.out)⟩⟩
      · rw [if_neg c19] at H
        have c19b0 : (t154 != t156) = false := by simpa using c19
        (try (have c19b1 : decide (t154 = t156) = true := by simpa using c19))
        (try (have c19b2 : (t154 == t156) = true := by simpa using c19))
        clear c19
        by_cases c20 : t157 = t159
        · rw [if_pos c20] at H
          have c20b0 : (t157 == t159) = true := beq_iff_eq.mpr c20
          have c20b1 : (t157 != t159) = false := bne_eq_false_iff_eq.mpr c20
          clear c20
          by_cases c21 : (t158 != t160) = true
          · rw [if_pos c21] at H
            have c21b0 : (t158 != t160) = true := c21
            (try (have c21b1 : decide (t158 = t160) = false := by simpa using c21))
            (try (have c21b2 : (t158 == t160) = false := by simpa using c21))
            (try (have c21b3 : ¬ (t158 = t160) := by simpa using c21))
            clear c21
            have H' := Aside0.mk H
            clear H
            go_wp2
            go_meet
            case rel => exact ⟨_, (true), (by first | rfl | (simp; done) | (simp [*]; done)), H', ⟨by first | omega | exact Nat.le_refl _⟩, ⟨by repeat (first | (with_reducible first | exact HB.out | apply below_alloc | apply pw_below_drewN | apply below_drew1) | exact HB.out)⟩⟩
          · rw [if_neg c21] at H
            have c21b0 : (t158 != t160) = false := by simpa using c21
            (try (have c21b1 : decide (t158 = t160) = true := by simpa using c21))
            (try (have c21b2 : (t158 == t160) = true := by simpa using c21))
            clear c21
            by_cases c22 : t161 = t163
            · rw [if_pos c22] at H
              have c22b0 : (t161 == t163) = true := beq_iff_eq.mpr c22
              have c22b1 : (t161 != t163) = false := bne_eq_false_iff_eq.mpr c22
              clear c22
              by_cases c23 : (t162 != t164) = true
              · rw [if_pos c23] at H
                have c23b0 : (t162 != t164) = true := c23
                (try (have c23b1 : decide (t162 = t164) = false := by simpa using c23))
                (try (have c23b2 : (t162 == t164) = false := by simpa using c23))
                (try (have c23b3 : ¬ (t162 = t164) := by simpa using c23))
                clear c23
                have H' := Aside0.mk H
                clear H
                go_wp2
                go_meet
                case rel => exact ⟨_, (true), (by first | rfl | (simp; done) | (simp [*]; done)), H', ⟨by first | omega | exact Nat.le_refl _⟩, ⟨by repeat (first | (with_reducible first | exact HB.out | apply below_alloc | apply pw_below_drewN | apply below_drew1) | exact HB.out)⟩⟩
              · rw [if_neg c23] at H
                have c23b0 : (t162 != t164) = false := by simpa using c23
                (try (have c23b1 : decide (t162 = t164) = true := by simpa using c23))
                (try (have c23b2 : (t162 == t164) = true := by simpa using c23))
                clear c23
                by_cases c24 : t165 = t167
                · rw [if_pos c24] at H
                  have c24b0 : (t165 == t167) = true := beq_iff_eq.mpr c24
                  have c24b1 : (t165 != t167) = false := bne_eq_false_iff_eq.mpr c24
                  clear c24
                  have H' := Aside0.mk H
                  clear H
                  go_wp2
                  go_meet
                  case rel => exact ⟨_, ((t166 != t168)), (by first | rfl | (simp; done) | (simp [*]; done)), H', ⟨by first | omega | exact Nat.le_refl _⟩, ⟨by repeat (first | (with_reducible first | exact HB.out | apply below_alloc | apply pw_below_drewN | apply below_drew1) | exact HB.out)⟩⟩
                · rw [if_neg c24] at H
                  have c24b0 : (t165 == t167) = false := beq_eq_false_iff_ne.mpr c24
                  have c24b1 : (t165 != t167) = true := bne_iff_ne.mpr c24
                  have H' := Aside0.mk H
                  clear H
                  go_wp2
                  go_meet
                  case rel => exact ⟨_, (true), (by first | rfl | (simp; done) | (simp [*]; done)), H', ⟨by first | omega | exact Nat.le_refl _⟩, ⟨by repeat (first | (with_reducible first | exact HB.out | apply below_alloc | apply pw_below_drewN | apply below_drew1) | exact HB.out)⟩⟩
            · rw [if_neg c22] at H
              have c22b0 : (t161 == t163) = false := beq_eq_false_iff_ne.mpr c22
              have c22b1 : (t161 != t163) = true := bne_iff_ne.mpr c22
              have H' := Aside0.mk H
              clear H
              go_wp2
              go_meet
              case rel => exact ⟨_, (true), (by first | rfl | (simp; done) | (simp [*]; done)), H', ⟨by first | omega | exact Nat.le_refl _⟩, ⟨by repeat (first | (with_reducible first | exact HB.out | apply below_alloc | apply pw_below_drewN | apply below_drew1) | exact HB.out)⟩⟩
        · rw [if_neg c20] at H
          have c20b0 : (t157 == t159) = false := beq_eq_false_iff_ne.mpr c20
          have c20b1 : (t157 != t159) = true := bne_iff_ne.mpr c20
          have H' := Aside0.mk H
          clear H
          go_wp2
          go_meet
          case rel => exact ⟨_, (true), (by first | rfl | (simp; done) | (simp [*]; done)), H', ⟨by first | omega | exact Nat.le_refl _⟩, ⟨by repeat (first | (with_reducible first | exact HB.out | apply below_alloc | apply pw_below_drewN | apply below_drew1) | exact HB.out)⟩⟩
    · rw [if_neg c18] at H
      have c18b0 : (t153 == t155) = false := beq_eq_false_iff_ne.mpr c18
      have c18b1 : (t153 != t155) = true := bne_iff_ne.mpr c18
      (first | rw [c18b0] | (simp only [i64_w, i32_w]; rw [c18b0]) | skip)
      have H' := Aside0.mk H
      clear H
      go_wp2
      go_meet
      case rel => exact ⟨_, (true), (by first | rfl | (simp; done) | (simp [*]; done)), H', ⟨by first | omega | exact Nat.le_refl _⟩, ⟨by repeat (first | (with_reducible first | exact HB.out | apply below_alloc | apply pw_below_drewN | apply below_drew1) | exact HB.out)⟩⟩
  case rest =>
    clear HC12
    try clear c1
    try clear c2
    try clear p2
    try clear c5
    try clear c8
    try clear c9
    try clear c12
    try clear c14
    try clear c16
    try clear c17
    try clear c18
    try clear c18b0
    try clear c18b1
    try clear c19
    try clear c19b0
    try clear c19b1
    try clear c19b2
    try clear c20
    try clear c20b0
    try clear c20b1
    try clear c21
    try clear c21b0
    try clear c21b1
    try clear c21b2
    try clear c22
    try clear c22b0
    try clear c22b1
    try clear c23
    try clear c23b0
    try clear c23b1
    try clear c23b2
    try clear c24
    try clear c24b0
    try clear c24b1
    obtain ⟨kq, x104_11, rfl, HA, HJ11, HB⟩ := hcut
    cases kq with
    | zero => exact absurd HA.out (by simp [outriggerlaw01_FixIs.j0])
    | succ kj11 =>
      have H := HA.out
      clear HA
      simp only [outriggerlaw01_FixIs.j0] at H
      by_cases c25 : x104_11 = true
      · subst c25
        have H1 : (some false) = some r := by rw [if_pos rfl] at H; exact H
        clear H
        have H := H1
        clear H1
        obtain rfl := Option.some.inj H
        go_wp2
        go_ret
        exact ⟨by first | rfl | (simp [errW_none, errW_some] <;> rfl) | (simp [*, errW_none, errW_some] <;> rfl), by repeat (first | (with_reducible first | exact HB.out | apply below_alloc | apply pw_below_drewN | apply below_drew1) | exact HB.out)⟩
      · replace c25 := Bool.eq_false_iff.mpr c25
        subst c25
        have H1 : (if t152 = true then ((fix_Neg.f a0).bind fun t169 => ((outriggerref01_Neg.f a0).bind fun t170 => (if t169 = t170 then ((fix_Abs.f a0).bind fun t171 => ((outriggerref01_Abs.f a0).bind fun t172 => (if t171 = t172 then ((fix_Floor.f a0).bind fun t173 => ((outriggerref01_Floor.f a0).bind fun t174 => (if t173 = t174 then ((fix_Near.f a0).bind fun t175 => ((outriggerref01_Near.f a0).bind fun t176 => (if t175 = t176 then ((fix_Rest.f a0).bind fun t177 => ((outriggerref01_Rest.f a0).bind fun t178 => (some (t177 == t178)))) else (some false)))) else (some false)))) else (some false)))) else (some false)))) else (some false)) = some r := by rw [if_neg (show ¬ (false = true) by decide)] at H; exact H
        clear H
        have H := H1
        clear H1
        by_cases c26 : t152 = true
        · subst c26
          have H1 : ((fix_Neg.f a0).bind fun t169 => ((outriggerref01_Neg.f a0).bind fun t170 => (if t169 = t170 then ((fix_Abs.f a0).bind fun t171 => ((outriggerref01_Abs.f a0).bind fun t172 => (if t171 = t172 then ((fix_Floor.f a0).bind fun t173 => ((outriggerref01_Floor.f a0).bind fun t174 => (if t173 = t174 then ((fix_Near.f a0).bind fun t175 => ((outriggerref01_Near.f a0).bind fun t176 => (if t175 = t176 then ((fix_Rest.f a0).bind fun t177 => ((outriggerref01_Rest.f a0).bind fun t178 => (some (t177 == t178)))) else (some false)))) else (some false)))) else (some false)))) else (some false)))) = some r := by rw [if_pos rfl] at H; exact H
          clear H
          have H := H1
          clear H1
          replace H := Option.bind_eq_some_iff.mp H
          obtain ⟨t169, A270, H⟩ := H
          replace H : ((outriggerref01_Neg.f a0).bind fun t170 => (if t169 = t170 then ((fix_Abs.f a0).bind fun t171 => ((outriggerref01_Abs.f a0).bind fun t172 => (if t171 = t172 then ((fix_Floor.f a0).bind fun t173 => ((outriggerref01_Floor.f a0).bind fun t174 => (if t173 = t174 then ((fix_Near.f a0).bind fun t175 => ((outriggerref01_Near.f a0).bind fun t176 => (if t175 = t176 then ((fix_Rest.f a0).bind fun t177 => ((outriggerref01_Rest.f a0).bind fun t178 => (some (t177 == t178)))) else (some false)))) else (some false)))) else (some false)))) else (some false))) = some r := H
          have A27 := Aside0.mk A270
          clear A270
          replace H := Option.bind_eq_some_iff.mp H
          obtain ⟨t170, A280, H⟩ := H
          replace H : (if t169 = t170 then ((fix_Abs.f a0).bind fun t171 => ((outriggerref01_Abs.f a0).bind fun t172 => (if t171 = t172 then ((fix_Floor.f a0).bind fun t173 => ((outriggerref01_Floor.f a0).bind fun t174 => (if t173 = t174 then ((fix_Near.f a0).bind fun t175 => ((outriggerref01_Near.f a0).bind fun t176 => (if t175 = t176 then ((fix_Rest.f a0).bind fun t177 => ((outriggerref01_Rest.f a0).bind fun t178 => (some (t177 == t178)))) else (some false)))) else (some false)))) else (some false)))) else (some false)) = some r := H
          have A28 := Aside0.mk A280
          clear A280
          by_cases c29 : t169 = t170
          · rw [if_pos c29] at H
            have c29b0 : (t169 == t170) = true := beq_iff_eq.mpr c29
            have c29b1 : (t169 != t170) = false := bne_eq_false_iff_eq.mpr c29
            clear c29
            replace H := Option.bind_eq_some_iff.mp H
            obtain ⟨t171, A300, H⟩ := H
            replace H : ((outriggerref01_Abs.f a0).bind fun t172 => (if t171 = t172 then ((fix_Floor.f a0).bind fun t173 => ((outriggerref01_Floor.f a0).bind fun t174 => (if t173 = t174 then ((fix_Near.f a0).bind fun t175 => ((outriggerref01_Near.f a0).bind fun t176 => (if t175 = t176 then ((fix_Rest.f a0).bind fun t177 => ((outriggerref01_Rest.f a0).bind fun t178 => (some (t177 == t178)))) else (some false)))) else (some false)))) else (some false))) = some r := H
            have A30 := Aside0.mk A300
            clear A300
            replace H := Option.bind_eq_some_iff.mp H
            obtain ⟨t172, A310, H⟩ := H
            replace H : (if t171 = t172 then ((fix_Floor.f a0).bind fun t173 => ((outriggerref01_Floor.f a0).bind fun t174 => (if t173 = t174 then ((fix_Near.f a0).bind fun t175 => ((outriggerref01_Near.f a0).bind fun t176 => (if t175 = t176 then ((fix_Rest.f a0).bind fun t177 => ((outriggerref01_Rest.f a0).bind fun t178 => (some (t177 == t178)))) else (some false)))) else (some false)))) else (some false)) = some r := H
            have A31 := Aside0.mk A310
            clear A310
            by_cases c32 : t171 = t172
            · rw [if_pos c32] at H
              have c32b0 : (t171 == t172) = true := beq_iff_eq.mpr c32
              have c32b1 : (t171 != t172) = false := bne_eq_false_iff_eq.mpr c32
              clear c32
              replace H := Option.bind_eq_some_iff.mp H
              obtain ⟨t173, A330, H⟩ := H
              replace H : ((outriggerref01_Floor.f a0).bind fun t174 => (if t173 = t174 then ((fix_Near.f a0).bind fun t175 => ((outriggerref01_Near.f a0).bind fun t176 => (if t175 = t176 then ((fix_Rest.f a0).bind fun t177 => ((outriggerref01_Rest.f a0).bind fun t178 => (some (t177 == t178)))) else (some false)))) else (some false))) = some r := H
              have A33 := Aside0.mk A330
              clear A330
              replace H := Option.bind_eq_some_iff.mp H
              obtain ⟨t174, A340, H⟩ := H
              replace H : (if t173 = t174 then ((fix_Near.f a0).bind fun t175 => ((outriggerref01_Near.f a0).bind fun t176 => (if t175 = t176 then ((fix_Rest.f a0).bind fun t177 => ((outriggerref01_Rest.f a0).bind fun t178 => (some (t177 == t178)))) else (some false)))) else (some false)) = some r := H
              have A34 := Aside0.mk A340
              clear A340
              by_cases c35 : t173 = t174
              · rw [if_pos c35] at H
                have c35b0 : (t173 == t174) = true := beq_iff_eq.mpr c35
                have c35b1 : (t173 != t174) = false := bne_eq_false_iff_eq.mpr c35
                clear c35
                replace H := Option.bind_eq_some_iff.mp H
                obtain ⟨t175, A360, H⟩ := H
                replace H : ((outriggerref01_Near.f a0).bind fun t176 => (if t175 = t176 then ((fix_Rest.f a0).bind fun t177 => ((outriggerref01_Rest.f a0).bind fun t178 => (some (t177 == t178)))) else (some false))) = some r := H
                have A36 := Aside0.mk A360
                clear A360
                replace H := Option.bind_eq_some_iff.mp H
                obtain ⟨t176, A370, H⟩ := H
                replace H : (if t175 = t176 then ((fix_Rest.f a0).bind fun t177 => ((outriggerref01_Rest.f a0).bind fun t178 => (some (t177 == t178)))) else (some false)) = some r := H
                have A37 := Aside0.mk A370
                clear A370
                by_cases c38 : t175 = t176
                · rw [if_pos c38] at H
                  have c38b0 : (t175 == t176) = true := beq_iff_eq.mpr c38
                  have c38b1 : (t175 != t176) = false := bne_eq_false_iff_eq.mpr c38
                  clear c38
                  replace H := Option.bind_eq_some_iff.mp H
                  obtain ⟨t177, A390, H⟩ := H
                  replace H : ((outriggerref01_Rest.f a0).bind fun t178 => (some (t177 == t178))) = some r := H
                  have A39 := Aside0.mk A390
                  clear A390
                  replace H := Option.bind_eq_some_iff.mp H
                  obtain ⟨t178, A400, H⟩ := H
                  replace H : (some (t177 == t178)) = some r := H
                  have A40 := Aside0.mk A400
                  clear A400
                  obtain rfl := Option.some.inj H
                  go_wp2_with (first | (go_at_call 15; (with_reducible refine (fix_Neg.calls a0 t169 _ A27.out).mono ?_); rintro e w41 ⟨rfl, hb⟩; have n0_ := Aside0.mk (below_step (by repeat (first | (with_reducible first | exact HB.out | apply below_alloc | apply pw_below_drewN | apply below_drew1) | exact HB.out)) hb); clear HB; have HB := n0_; clear n0_; (try clear hb); (try clear hb2); (try clear hk); (try clear hi)) | (go_at_call 21; (with_reducible refine (outriggerref01_Neg.calls a0 t170 _ A28.out).mono ?_); rintro e w' ⟨rfl, ⟨nd, rfl⟩⟩) | (go_at_call 22; (with_reducible refine (fix_Abs.calls a0 t171 _ A30.out).mono ?_); rintro e w42 ⟨rfl, hb⟩; have n0_ := Aside0.mk (below_step (by repeat (first | (with_reducible first | exact HB.out | apply below_alloc | apply pw_below_drewN | apply below_drew1) | exact HB.out)) hb); clear HB; have HB := n0_; clear n0_; (try clear hb); (try clear hb2); (try clear hk); (try clear hi)) | (go_at_call 23; (with_reducible refine (outriggerref01_Abs.calls a0 t172 _ A31.out).mono ?_); rintro e w43 ⟨rfl, hb⟩; have n0_ := Aside0.mk (below_step (by repeat (first | (with_reducible first | exact HB.out | apply below_alloc | apply pw_below_drewN | apply below_drew1) | exact HB.out)) hb); clear HB; have HB := n0_; clear n0_; (try clear hb); (try clear hb2); (try clear hk); (try clear hi)) | (go_at_call 10; (with_reducible refine (fix_Floor.calls a0 t173 _ A33.out).mono ?_); rintro e w44 ⟨rfl, hb⟩; have n0_ := Aside0.mk (below_step (by repeat (first | (with_reducible first | exact HB.out | apply below_alloc | apply pw_below_drewN | apply below_drew1) | exact HB.out)) hb); clear HB; have HB := n0_; clear n0_; (try clear hb); (try clear hb2); (try clear hk); (try clear hi)) | (go_at_call 24; (with_reducible refine (outriggerref01_Floor.calls a0 t174 _ A34.out).mono ?_); rintro e w' ⟨rfl, ⟨nd, rfl⟩⟩) | (go_at_call 13; (with_reducible refine (fix_Near.calls a0 t175 _ A36.out).mono ?_); rintro e w45 ⟨rfl, hb⟩; have n0_ := Aside0.mk (below_step (by repeat (first | (with_reducible first | exact HB.out | apply below_alloc | apply pw_below_drewN | apply below_drew1) | exact HB.out)) hb); clear HB; have HB := n0_; clear n0_; (try clear hb); (try clear hb2); (try clear hk); (try clear hi)) | (go_at_call 25; (with_reducible refine (outriggerref01_Near.calls a0 t176 _ A37.out).mono ?_); rintro e w' ⟨rfl, ⟨nd, rfl⟩⟩) | (go_at_call 11; (with_reducible refine (fix_Rest.calls a0 t177 _ A39.out).mono ?_); rintro e w46 ⟨rfl, hb⟩; have n0_ := Aside0.mk (below_step (by repeat (first | (with_reducible first | exact HB.out | apply below_alloc | apply pw_below_drewN | apply below_drew1) | exact HB.out)) hb); clear HB; have HB := n0_; clear n0_; (try clear hb); (try clear hb2); (try clear hk); (try clear hi)) | (go_at_call 26; (with_reducible refine (outriggerref01_Rest.calls a0 t178 _ A40.out).mono ?_); rintro e w' ⟨rfl, ⟨nd, rfl⟩⟩))
                  go_ret
                  exact ⟨by first | rfl | (simp [errW_none, errW_some] <;> rfl) | (simp [*, errW_none, errW_some] <;> rfl), by repeat (first | (with_reducible first | exact HB.out | apply below_alloc | apply pw_below_drewN | apply below_drew1) | exact HB.out)⟩
                · rw [if_neg c38] at H
                  have c38b0 : (t175 == t176) = false := beq_eq_false_iff_ne.mpr c38
                  have c38b1 : (t175 != t176) = true := bne_iff_ne.mpr c38
                  obtain rfl := Option.some.inj H
                  go_wp2_with (first | (go_at_call 15; (with_reducible refine (fix_Neg.calls a0 t169 _ A27.out).mono ?_); rintro e w47 ⟨rfl, hb⟩; have n0_ := Aside0.mk (below_step (by repeat (first | (with_reducible first | exact HB.out | apply below_alloc | apply pw_below_drewN | apply below_drew1) | exact HB.out)) hb); clear HB; have HB := n0_; clear n0_; (try clear hb); (try clear hb2); (try clear hk); (try clear hi)) | (go_at_call 21; (with_reducible refine (outriggerref01_Neg.calls a0 t170 _ A28.out).mono ?_); rintro e w' ⟨rfl, ⟨nd, rfl⟩⟩) | (go_at_call 22; (with_reducible refine (fix_Abs.calls a0 t171 _ A30.out).mono ?_); rintro e w48 ⟨rfl, hb⟩; have n0_ := Aside0.mk (below_step (by repeat (first | (with_reducible first | exact HB.out | apply below_alloc | apply pw_below_drewN | apply below_drew1) | exact HB.out)) hb); clear HB; have HB := n0_; clear n0_; (try clear hb); (try clear hb2); (try clear hk); (try clear hi)) | (go_at_call 23; (with_reducible refine (outriggerref01_Abs.calls a0 t172 _ A31.out).mono ?_); rintro e w49 ⟨rfl, hb⟩; have n0_ := Aside0.mk (below_step (by repeat (first | (with_reducible first | exact HB.out | apply below_alloc | apply pw_below_drewN | apply below_drew1) | exact HB.out)) hb); clear HB; have HB := n0_; clear n0_; (try clear hb); (try clear hb2); (try clear hk); (try clear hi)) | (go_at_call 10; (with_reducible refine (fix_Floor.calls a0 t173 _ A33.out).mono ?_); rintro e w50 ⟨rfl, hb⟩; have n0_ := Aside0.mk (below_step (by repeat (first | (with_reducible first | exact HB.out | apply below_alloc | apply pw_below_drewN | apply below_drew1) | exact HB.out)) hb); clear HB; have HB := n0_; clear n0_; (try clear hb); (try clear hb2); (try clear hk); (try clear hi)) | (go_at_call 24; (with_reducible refine (outriggerref01_Floor.calls a0 t174 _ A34.out).mono ?_); rintro e w' ⟨rfl, ⟨nd, rfl⟩⟩) | (go_at_call 13; (with_reducible refine (fix_Near.calls a0 t175 _ A36.out).mono ?_); rintro e w51 ⟨rfl, hb⟩; have n0_ := Aside0.mk (below_step (by repeat (first | (with_reducible first | exact HB.out | apply below_alloc | apply pw_below_drewN | apply below_drew1) | exact HB.out)) hb); clear HB; have HB := n0_; clear n0_; (try clear hb); (try clear hb2); (try clear hk); (try clear hi)) | (go_at_call 25; (with_reducible refine (outriggerref01_Near.calls a0 t176 _ A37.out).mono ?_); rintro e w' ⟨rfl, ⟨nd, rfl⟩⟩))
                  go_ret
                  exact ⟨by first | rfl | (simp [errW_none, errW_some] <;> rfl) | (simp [*, errW_none, errW_some] <;> rfl), by repeat (first | (with_reducible first | exact HB.out | apply below_alloc | apply pw_below_drewN | apply below_drew1) | exact HB.out)⟩
              · rw [if_neg c35] at H
                have c35b0 : (t173 == t174) = false := beq_eq_false_iff_ne.mpr c35
                have c35b1 : (t173 != t174) = true := bne_iff_ne.mpr c35
                obtain rfl := Option.some.inj H
                go_wp2_with (first | (go_at_call 15; (with_reducible refine (fix_Neg.calls a0 t169 _ A27.out).mono ?_); rintro e w52 ⟨rfl, hb⟩; have n0_ := Aside0.mk (below_step (by repeat (first | (with_reducible first | exact HB.out | apply below_alloc | apply pw_below_drewN | apply below_drew1) | exact HB.out)) hb); clear HB; have HB := n0_; clear n0_; (try clear hb); (try clear hb2); (try clear hk); (try clear hi)) | (go_at_call 21; (with_reducible refine (outriggerref01_Neg.calls a0 t170 _ A28.out).mono ?_); rintro e w' ⟨rfl, ⟨nd, rfl⟩⟩) | (go_at_call 22; (with_reducible refine (fix_Abs.calls a0 t171 _ A30.out).mono ?_); rintro e w53 ⟨rfl, hb⟩; have n0_ := Aside0.mk (below_step (by repeat (first | (with_reducible first | exact HB.out | apply below_alloc | apply pw_below_drewN | apply below_drew1) | exact HB.out)) hb); clear HB; have HB := n0_; clear n0_; (try clear hb); (try clear hb2); (try clear hk); (try clear hi)) | (go_at_call 23; (with_reducible refine (outriggerref01_Abs.calls a0 t172 _ A31.out).mono ?_); rintro e w54 ⟨rfl, hb⟩; have n0_ := Aside0.mk (below_step (by repeat (first | (with_reducible first | exact HB.out | apply below_alloc | apply pw_below_drewN | apply below_drew1) | exact HB.out)) hb); clear HB; have HB := n0_; clear n0_; (try clear hb); (try clear hb2); (try clear hk); (try clear hi)) | (go_at_call 10; (with_reducible refine (fix_Floor.calls a0 t173 _ A33.out).mono ?_); rintro e w55 ⟨rfl, hb⟩; have n0_ := Aside0.mk (below_step (by repeat (first | (with_reducible first | exact HB.out | apply below_alloc | apply pw_below_drewN | apply below_drew1) | exact HB.out)) hb); clear HB; have HB := n0_; clear n0_; (try clear hb); (try clear hb2); (try clear hk); (try clear hi)) | (go_at_call 24; (with_reducible refine (outriggerref01_Floor.calls a0 t174 _ A34.out).mono ?_); rintro e w' ⟨rfl, ⟨nd, rfl⟩⟩))
                go_ret
                exact ⟨by first | rfl | (simp [errW_none, errW_some] <;> rfl) | (simp [*, errW_none, errW_some] <;> rfl), by repeat (first | (with_reducible first | exact HB.out | apply below_alloc | apply pw_below_drewN | apply below_drew1) | exact HB.out)⟩
            · rw [if_neg c32] at H
              have c32b0 : (t171 == t172) = false := beq_eq_false_iff_ne.mpr c32
              have c32b1 : (t171 != t172) = true := bne_iff_ne.mpr c32
              obtain rfl := Option.some.inj H
              go_wp2_with (first | (go_at_call 15; (with_reducible refine (fix_Neg.calls a0 t169 _ A27.out).mono ?_); rintro e w56 ⟨rfl, hb⟩; have n0_ := Aside0.mk (below_step (by repeat (first | (with_reducible first | exact HB.out | apply below_alloc | apply pw_below_drewN | apply below_drew1) | exact HB.out)) hb); clear HB; have HB := n0_; clear n0_; (try clear hb); (try clear hb2); (try clear hk); (try clear hi)) | (go_at_call 21; (with_reducible refine (outriggerref01_Neg.calls a0 t170 _ A28.out).mono ?_); rintro e w' ⟨rfl, ⟨nd, rfl⟩⟩) | (go_at_call 22; (with_reducible refine (fix_Abs.calls a0 t171 _ A30.out).mono ?_); rintro e w57 ⟨rfl, hb⟩; have n0_ := Aside0.mk (below_step (by repeat (first | (with_reducible first | exact HB.out | apply below_alloc | apply pw_below_drewN | apply below_drew1) | exact HB.out)) hb); clear HB; have HB := n0_; clear n0_; (try clear hb); (try clear hb2); (try clear hk); (try clear hi)) | (go_at_call 23; (with_reducible refine (outriggerref01_Abs.calls a0 t172 _ A31.out).mono ?_); rintro e w58 ⟨rfl, hb⟩; have n0_ := Aside0.mk (below_step (by repeat (first | (with_reducible first | exact HB.out | apply below_alloc | apply pw_below_drewN | apply below_drew1) | exact HB.out)) hb); clear HB; have HB := n0_; clear n0_; (try clear hb); (try clear hb2); (try clear hk); (try clear hi)))
              go_ret
              exact ⟨by first | rfl | (simp [errW_none, errW_some] <;> rfl) | (simp [*, errW_none, errW_some] <;> rfl), by repeat (first | (with_reducible first | exact HB.out | apply below_alloc | apply pw_below_drewN | apply below_drew1) | exact HB.out)⟩
          · rw [if_neg c29] at H
            have c29b0 : (t169 == t170) = false := beq_eq_false_iff_ne.mpr c29
            have c29b1 : (t169 != t170) = true := bne_iff_ne.mpr c29
            obtain rfl := Option.some.inj H
            go_wp2_with (first | (go_at_call 15; (with_reducible refine (fix_Neg.calls a0 t169 _ A27.out).mono ?_); rintro e w59 ⟨rfl, hb⟩; have n0_ := Aside0.mk (below_step (by repeat (first | (with_reducible first | exact HB.out | apply below_alloc | apply pw_below_drewN | apply below_drew1) | exact HB.out)) hb); clear HB; have HB := n0_; clear n0_; (try clear hb); (try clear hb2); (try clear hk); (try clear hi)) | (go_at_call 21; (with_reducible refine (outriggerref01_Neg.calls a0 t170 _ A28.out).mono ?_); rintro e w' ⟨rfl, ⟨nd, rfl⟩⟩))
            go_ret
            exact ⟨by first | rfl | (simp [errW_none, errW_some] <;> rfl) | (simp [*, errW_none, errW_some] <;> rfl), by repeat (first | (with_reducible first | exact HB.out | apply below_alloc | apply pw_below_drewN | apply below_drew1) | exact HB.out)⟩
        · replace c26 := Bool.eq_false_iff.mpr c26
          subst c26
          have H1 : (some false) = some r := by rw [if_neg (show ¬ (false = true) by decide)] at H; exact H
          clear H
          have H := H1
          clear H1
          obtain rfl := Option.some.inj H
          go_wp2
          go_ret
          exact ⟨by first | rfl | (simp [errW_none, errW_some] <;> rfl) | (simp [*, errW_none, errW_some] <;> rfl), by repeat (first | (with_reducible first | exact HB.out | apply below_alloc | apply pw_below_drewN | apply below_drew1) | exact HB.out)⟩

/-- THE ONE PURE STATEMENT of outriggerlaw01_FixIs: yours. -/
def outriggerlaw01_FixIs.Pure : Prop := ∀ (a0 : Int) (a1 : Int), (Lit.int .i64 a0).wf = true → (Lit.int .i64 a1).wf = true → ∃ k, outriggerlaw01_FixIs.f k a0 a1 = some true
theorem outriggerlaw01_FixIs.walk (P : outriggerlaw01_FixIs.Pure) (a0 : Int) (a1 : Int) (w : World) (w0 : (Lit.int .i64 a0).wf = true) (w1 : (Lit.int .i64 a1).wf = true) :
    Calls Try.prog 5 #[.int .i64 a0, .int .i64 a1] w fun e w' => e = .returned (.bool true) ∧ Below w.heap.size w w' := by
  obtain ⟨k, h⟩ := P a0 a1 w0 w1
  refine (outriggerlaw01_FixIs.calls k a0 a1 true w h).mono ?_
  rintro e w' ⟨rfl, hd⟩
  exact ⟨rfl, hd⟩

end Go.Proofs.Ytbekeghchgninaa.PFixIs
