/- The walk of the law RootIs: where its Lean function tells true, the call returns true and leaves memory below as it was. Laid by a program of this project out of the kit's print of the Go functions. -/
import Derived.Test.YthfcodicpcengaaB0
import Derived.Test.YthfcodicpcengaaB3
import Derived.Test.YthfcodicpcengaaB4
import Derived.Test.YthfcodicpcengaaB6
import Derived.Test.YthfcodicpcengaaB7
namespace Go.Proofs.Ythfcodicpcengaa.B
open Go.RowKit Go.Proofs.YthfcodicpcengaaW.PrintWords Go.Proofs.YthfcodicpcengaaW.PrintLast Go.Proofs.YthfcodicpcengaaW.PrintMore
attribute [local go_sem] max2_int min2_int max_two min_two max_three min_three max_four min_four
set_option linter.unusedVariables false
set_option linter.unusedSimpArgs false

/-! ### outriggerlaw04_RootIs: function 3 -/
def outriggerlaw04_RootIs.f (k : Nat) (a0_0 : Int) (a0_1 : Int) (a1 : Int) (a2 : Int) : Option (Bool) := (outriggerlaw04_awake.f k).bind fun t268 => ((root_Wide.f k a0_0 a0_1).bind fun bt269 => ((outriggerref04_Wide.f k a0_0 a0_1).bind fun bt271 => ((root_Sqrt.f k a1).bind fun bt273 => ((outriggerref04_Sqrt.f k a1).bind fun bt275 => ((root_Hyp.f k a1 a2).bind fun bt277 => ((outriggerref04_Hyp.f k a1 a2).bind fun bt279 => (if t268 = true then (if bt269.1 = bt271.1 then (if (bt269.2 == bt271.2) = true then (if bt273.1 = bt275.1 then (if (bt273.2 == bt275.2) = true then (if bt277.1 = bt279.1 then (some (bt277.2 == bt279.2)) else (some false)) else (some false)) else (some false)) else (some false)) else (some false)) else (some false))))))))
theorem outriggerlaw04_RootIs.mono : ∀ a0 a1 a2 a3 k, LeO (outriggerlaw04_RootIs.f k a0 a1 a2 a3) (outriggerlaw04_RootIs.f (k + 1) a0 a1 a2 a3) := by
  intro a0 a1 a2 a3 k
  unfold outriggerlaw04_RootIs.f
  repeat' first
      | (with_reducible exact outriggerlaw04_awake.mono _)
      | (with_reducible exact outriggerref04_Hyp.mono _ _ _)
      | (with_reducible exact outriggerref04_Sqrt.mono _ _)
      | (with_reducible exact outriggerref04_Wide.mono _ _ _)
      | (with_reducible exact root_Hyp.mono _ _ _)
      | (with_reducible exact root_Sqrt.mono _ _)
      | (with_reducible exact root_Wide.mono _ _ _)
      | (with_reducible exact LeO.refl _)
      | (with_reducible exact LeO.none _)
      | (with_reducible refine LeO.ite ?_ ?_)
      | (with_reducible refine LeO.bind ?_ (fun _ => ?_))
      | exact outriggerlaw04_awake.mono _
      | exact outriggerref04_Hyp.mono _ _ _
      | exact outriggerref04_Sqrt.mono _ _
      | exact outriggerref04_Wide.mono _ _ _
      | exact root_Hyp.mono _ _ _
      | exact root_Sqrt.mono _ _
      | exact root_Wide.mono _ _ _
      | exact LeO.none _
      | refine LeO.ite ?_ ?_
      | refine LeO.bind ?_ (fun _ => ?_)
set_option maxHeartbeats 8000000 in
set_option maxRecDepth 100000 in
theorem outriggerlaw04_RootIs.calls (k : Nat) (a0_0 : Int) (a0_1 : Int) (a1 : Int) (a2 : Int) (r : Bool) (w : World) (h : outriggerlaw04_RootIs.f k a0_0 a0_1 a1 a2 = some r) (hr : Aside0 (r = true)) :
    Calls Try.prog 3 #[.agg #[.int .i64 a0_0, .int .i64 a0_1], .int .i64 a1, .int .i64 a2] w fun e w' => e = .returned (.bool r) ∧ Below w.heap.size w w' := by
  have hu23 := Try.underlying23
  have HB := Aside0.mk (Below.refl w.heap.size w)
  have H : ((outriggerlaw04_awake.f k).bind fun t268 => ((root_Wide.f k a0_0 a0_1).bind fun bt269 => ((outriggerref04_Wide.f k a0_0 a0_1).bind fun bt271 => ((root_Sqrt.f k a1).bind fun bt273 => ((outriggerref04_Sqrt.f k a1).bind fun bt275 => ((root_Hyp.f k a1 a2).bind fun bt277 => ((outriggerref04_Hyp.f k a1 a2).bind fun bt279 => (if t268 = true then (if bt269.1 = bt271.1 then (if (bt269.2 == bt271.2) = true then (if bt273.1 = bt275.1 then (if (bt273.2 == bt275.2) = true then (if bt277.1 = bt279.1 then (some (bt277.2 == bt279.2)) else (some false)) else (some false)) else (some false)) else (some false)) else (some false)) else (some false))))))))) = some r := h
  clear h
  replace H := Option.bind_eq_some_iff.mp H
  obtain ⟨t268, A40, H⟩ := H
  replace H : ((root_Wide.f k a0_0 a0_1).bind fun bt269 => ((outriggerref04_Wide.f k a0_0 a0_1).bind fun bt271 => ((root_Sqrt.f k a1).bind fun bt273 => ((outriggerref04_Sqrt.f k a1).bind fun bt275 => ((root_Hyp.f k a1 a2).bind fun bt277 => ((outriggerref04_Hyp.f k a1 a2).bind fun bt279 => (if t268 = true then (if bt269.1 = bt271.1 then (if (bt269.2 == bt271.2) = true then (if bt273.1 = bt275.1 then (if (bt273.2 == bt275.2) = true then (if bt277.1 = bt279.1 then (some (bt277.2 == bt279.2)) else (some false)) else (some false)) else (some false)) else (some false)) else (some false)) else (some false)))))))) = some r := H
  have A4 := Aside0.mk A40
  clear A40
  replace H := Option.bind_eq_some_iff.mp H
  obtain ⟨⟨t269, t270⟩, A50, H⟩ := H
  replace H : ((outriggerref04_Wide.f k a0_0 a0_1).bind fun bt271 => ((root_Sqrt.f k a1).bind fun bt273 => ((outriggerref04_Sqrt.f k a1).bind fun bt275 => ((root_Hyp.f k a1 a2).bind fun bt277 => ((outriggerref04_Hyp.f k a1 a2).bind fun bt279 => (if t268 = true then (if t269 = bt271.1 then (if (t270 == bt271.2) = true then (if bt273.1 = bt275.1 then (if (bt273.2 == bt275.2) = true then (if bt277.1 = bt279.1 then (some (bt277.2 == bt279.2)) else (some false)) else (some false)) else (some false)) else (some false)) else (some false)) else (some false))))))) = some r := H
  have A5 := Aside0.mk A50
  clear A50
  replace H := Option.bind_eq_some_iff.mp H
  obtain ⟨⟨t271, t272⟩, A60, H⟩ := H
  replace H : ((root_Sqrt.f k a1).bind fun bt273 => ((outriggerref04_Sqrt.f k a1).bind fun bt275 => ((root_Hyp.f k a1 a2).bind fun bt277 => ((outriggerref04_Hyp.f k a1 a2).bind fun bt279 => (if t268 = true then (if t269 = t271 then (if (t270 == t272) = true then (if bt273.1 = bt275.1 then (if (bt273.2 == bt275.2) = true then (if bt277.1 = bt279.1 then (some (bt277.2 == bt279.2)) else (some false)) else (some false)) else (some false)) else (some false)) else (some false)) else (some false)))))) = some r := H
  have A6 := Aside0.mk A60
  clear A60
  replace H := Option.bind_eq_some_iff.mp H
  obtain ⟨⟨t273, t274⟩, A70, H⟩ := H
  replace H : ((outriggerref04_Sqrt.f k a1).bind fun bt275 => ((root_Hyp.f k a1 a2).bind fun bt277 => ((outriggerref04_Hyp.f k a1 a2).bind fun bt279 => (if t268 = true then (if t269 = t271 then (if (t270 == t272) = true then (if t273 = bt275.1 then (if (t274 == bt275.2) = true then (if bt277.1 = bt279.1 then (some (bt277.2 == bt279.2)) else (some false)) else (some false)) else (some false)) else (some false)) else (some false)) else (some false))))) = some r := H
  have A7 := Aside0.mk A70
  clear A70
  replace H := Option.bind_eq_some_iff.mp H
  obtain ⟨⟨t275, t276⟩, A80, H⟩ := H
  replace H : ((root_Hyp.f k a1 a2).bind fun bt277 => ((outriggerref04_Hyp.f k a1 a2).bind fun bt279 => (if t268 = true then (if t269 = t271 then (if (t270 == t272) = true then (if t273 = t275 then (if (t274 == t276) = true then (if bt277.1 = bt279.1 then (some (bt277.2 == bt279.2)) else (some false)) else (some false)) else (some false)) else (some false)) else (some false)) else (some false)))) = some r := H
  have A8 := Aside0.mk A80
  clear A80
  replace H := Option.bind_eq_some_iff.mp H
  obtain ⟨⟨t277, t278⟩, A90, H⟩ := H
  replace H : ((outriggerref04_Hyp.f k a1 a2).bind fun bt279 => (if t268 = true then (if t269 = t271 then (if (t270 == t272) = true then (if t273 = t275 then (if (t274 == t276) = true then (if t277 = bt279.1 then (some (t278 == bt279.2)) else (some false)) else (some false)) else (some false)) else (some false)) else (some false)) else (some false))) = some r := H
  have A9 := Aside0.mk A90
  clear A90
  replace H := Option.bind_eq_some_iff.mp H
  obtain ⟨⟨t279, t280⟩, A100, H⟩ := H
  replace H : (if t268 = true then (if t269 = t271 then (if (t270 == t272) = true then (if t273 = t275 then (if (t274 == t276) = true then (if t277 = t279 then (some (t278 == t280)) else (some false)) else (some false)) else (some false)) else (some false)) else (some false)) else (some false)) = some r := H
  have A10 := Aside0.mk A100
  clear A100
  by_cases c11 : t268 = true
  · subst c11
    have H1 : (if t269 = t271 then (if (t270 == t272) = true then (if t273 = t275 then (if (t274 == t276) = true then (if t277 = t279 then (some (t278 == t280)) else (some false)) else (some false)) else (some false)) else (some false)) else (some false)) = some r := by rw [if_pos rfl] at H; exact H
    clear H
    have H := H1
    clear H1
    by_cases c12 : t269 = t271
    · rw [if_pos c12] at H
      have c12b0 : (t269 == t271) = true := beq_iff_eq.mpr c12
      have c12b1 : (t269 != t271) = false := bne_eq_false_iff_eq.mpr c12
      clear c12
      by_cases c13 : (t270 == t272) = true
      · rw [if_pos c13] at H
        have c13b0 : (t270 == t272) = true := c13
        (try (have c13b1 : decide (t270 = t272) = true := by simpa using c13))
        (try (have c13b2 : (t270 == t272) = true := by simpa using c13))
        clear c13
        by_cases c14 : t273 = t275
        · rw [if_pos c14] at H
          have c14b0 : (t273 == t275) = true := beq_iff_eq.mpr c14
          have c14b1 : (t273 != t275) = false := bne_eq_false_iff_eq.mpr c14
          clear c14
          by_cases c15 : (t274 == t276) = true
          · rw [if_pos c15] at H
            have c15b0 : (t274 == t276) = true := c15
            (try (have c15b1 : decide (t274 = t276) = true := by simpa using c15))
            (try (have c15b2 : (t274 == t276) = true := by simpa using c15))
            clear c15
            by_cases c16 : t277 = t279
            · rw [if_pos c16] at H
              have c16b0 : (t277 == t279) = true := beq_iff_eq.mpr c16
              have c16b1 : (t277 != t279) = false := bne_eq_false_iff_eq.mpr c16
              clear c16
              clear hr
              obtain rfl := Option.some.inj H
              go_enter Try.func3, Try.ntmps3
              go_wp2_with (first | ((with_reducible refine gate_dst (N := 3) rfl ?_); refine box_event ?hg (N := 3) ?hd (cs := #[.int .i64 a0_0, .int .i64 a0_1]) (t := 23) ?hr ?_; (case hd => rfl); (case hg => rfl); (case hr => first | (go_simp; done) | (go_simp; rfl)); intro gb267 hg w17 hbox hb; have n0_ := Aside0.mk (below_step (by repeat (first | (with_reducible first | exact HB.out | apply below_alloc | apply pw_below_drewN | apply below_drew1) | exact HB.out)) hb); have n1_ := Aside0.mk (hbox); have n2_ := Aside0.mk ((by rw [hg]; exact (below_size (by repeat (first | (with_reducible first | exact HB.out | apply below_alloc | apply pw_below_drewN | apply below_drew1) | exact HB.out))) : w.heap.size ≤ gb267)); have n3_ := Aside0.mk ((by rw [hg]; exact (below_size (by repeat (first | (with_reducible first | exact HB.out | apply below_alloc | apply pw_below_drewN | apply below_drew1) | exact HB.out))) : w.heap.size ≤ gb267)); clear HB; have HB := n0_; have BK267 := n1_; have GW267 := n2_; have GE267 := n3_; clear n0_ n1_ n2_ n3_; clear hb hbox hg) | ((with_reducible refine gate_callee (f := 9) rfl ?_); refine goesL_ (some 20) rfl rfl Try.func9 (by kernel_rfl) rfl #[] rfl (by (try simp only [List.map_toArray, List.map_cons, List.map_nil]); first | done | rfl | (simp only [List.length_drop, List.length_take]; rfl)) ?_; (with_reducible refine (outriggerlaw04_awake.calls k  true _ A4.out).mono ?_); rintro e w18 ⟨rfl, hb⟩; refine ⟨_, rfl, ?_⟩; have n0_ := Aside0.mk (blk_below (g := gb267) (o := .cells #[.int .i64 a0_0, .int .i64 a0_1] 23 (0, 0)) (by (with_reducible repeat (first | refine blk_drewN ?_ _ | refine blk_drew ?_ | refine blk_alloc ?_ _)); exact BK267.out) hb); have n1_ := Aside0.mk (below_step (by repeat (first | (with_reducible first | exact HB.out | apply below_alloc | apply pw_below_drewN | apply below_drew1 | refine below_set ?_ GE267.out) | exact HB.out)) hb); clear BK267; clear HB; have BK267 := n0_; have HB := n1_; clear n0_ n1_; (try clear hb); (try clear hb2); (try clear hk); (try clear hi); have hcz19_0 : w18.cell? ⟨gb267, 0, none⟩ = some (.int .i64 a0_0) := (blk_cell BK267.out 0).trans rfl; have hcz19_1 : w18.cell? ⟨gb267, 1, none⟩ = some (.int .i64 a0_1) := (blk_cell BK267.out 1).trans rfl; have hfz19_0 := blk_frozen BK267.out 0; have hfz19_1 := blk_frozen BK267.out 1) | ((with_reducible refine gate_callee (f := 10) rfl ?_); refine goesL_ (some 23) rfl rfl Try.func10 (by kernel_rfl) rfl #[.agg #[.int .i64 a0_0, .int .i64 a0_1]] rfl (by (try simp only [List.map_toArray, List.map_cons, List.map_nil]); first | done | rfl | (simp only [List.length_drop, List.length_take]; rfl)) ?_; (with_reducible refine (root_Wide.calls k a0_0 a0_1 t269 t270 _ A5.out).mono ?_); rintro e w20 ⟨rfl, hb⟩; refine ⟨_, rfl, ?_⟩; have n0_ := Aside0.mk (blk_below (g := gb267) (o := .cells #[.int .i64 a0_0, .int .i64 a0_1] 23 (0, 0)) (by (with_reducible repeat (first | refine blk_drewN ?_ _ | refine blk_drew ?_ | refine blk_alloc ?_ _)); exact BK267.out) hb); have n1_ := Aside0.mk (below_step (by repeat (first | (with_reducible first | exact HB.out | apply below_alloc | apply pw_below_drewN | apply below_drew1 | refine below_set ?_ GE267.out) | exact HB.out)) hb); clear BK267; clear HB; have BK267 := n0_; have HB := n1_; clear n0_ n1_; (try clear hb); (try clear hb2); (try clear hk); (try clear hi); have hcz21_0 : w20.cell? ⟨gb267, 0, none⟩ = some (.int .i64 a0_0) := (blk_cell BK267.out 0).trans rfl; have hcz21_1 : w20.cell? ⟨gb267, 1, none⟩ = some (.int .i64 a0_1) := (blk_cell BK267.out 1).trans rfl; have hfz21_0 := blk_frozen BK267.out 0; have hfz21_1 := blk_frozen BK267.out 1) | ((with_reducible refine gate_callee (f := 11) rfl ?_); refine goesL_ (some 28) rfl rfl Try.func11 (by kernel_rfl) rfl #[.agg #[.int .i64 a0_0, .int .i64 a0_1]] rfl (by (try simp only [List.map_toArray, List.map_cons, List.map_nil]); first | done | rfl | (simp only [List.length_drop, List.length_take]; rfl)) ?_; (with_reducible refine (outriggerref04_Wide.calls k a0_0 a0_1 t271 t272 _ A6.out).mono ?_); rintro e w22 ⟨rfl, hb⟩; refine ⟨_, rfl, ?_⟩; have n0_ := Aside0.mk (blk_below (g := gb267) (o := .cells #[.int .i64 a0_0, .int .i64 a0_1] 23 (0, 0)) (by (with_reducible repeat (first | refine blk_drewN ?_ _ | refine blk_drew ?_ | refine blk_alloc ?_ _)); exact BK267.out) hb); have n1_ := Aside0.mk (below_step (by repeat (first | (with_reducible first | exact HB.out | apply below_alloc | apply pw_below_drewN | apply below_drew1 | refine below_set ?_ GE267.out) | exact HB.out)) hb); clear BK267; clear HB; have BK267 := n0_; have HB := n1_; clear n0_ n1_; (try clear hb); (try clear hb2); (try clear hk); (try clear hi)) | ((with_reducible refine gate_callee (f := 12) rfl ?_); refine goesL_ (some 33) rfl rfl Try.func12 (by kernel_rfl) rfl #[.int .i64 a1] rfl (by (try simp only [List.map_toArray, List.map_cons, List.map_nil]); first | done | rfl | (simp only [List.length_drop, List.length_take]; rfl)) ?_; (with_reducible refine (root_Sqrt.calls k a1 t273 t274 _ A7.out).mono ?_); rintro e w23 ⟨rfl, hb⟩; refine ⟨_, rfl, ?_⟩; have n0_ := Aside0.mk (blk_below (g := gb267) (o := .cells #[.int .i64 a0_0, .int .i64 a0_1] 23 (0, 0)) (by (with_reducible repeat (first | refine blk_drewN ?_ _ | refine blk_drew ?_ | refine blk_alloc ?_ _)); exact BK267.out) hb); have n1_ := Aside0.mk (below_step (by repeat (first | (with_reducible first | exact HB.out | apply below_alloc | apply pw_below_drewN | apply below_drew1 | refine below_set ?_ GE267.out) | exact HB.out)) hb); clear BK267; clear HB; have BK267 := n0_; have HB := n1_; clear n0_ n1_; (try clear hb); (try clear hb2); (try clear hk); (try clear hi)) | ((with_reducible refine gate_callee (f := 13) rfl ?_); refine goesL_ (some 38) rfl rfl Try.func13 (by kernel_rfl) rfl #[.int .i64 a1] rfl (by (try simp only [List.map_toArray, List.map_cons, List.map_nil]); first | done | rfl | (simp only [List.length_drop, List.length_take]; rfl)) ?_; (with_reducible refine (outriggerref04_Sqrt.calls k a1 t275 t276 _ A8.out).mono ?_); rintro e w24 ⟨rfl, hb⟩; refine ⟨_, rfl, ?_⟩; have n0_ := Aside0.mk (blk_below (g := gb267) (o := .cells #[.int .i64 a0_0, .int .i64 a0_1] 23 (0, 0)) (by (with_reducible repeat (first | refine blk_drewN ?_ _ | refine blk_drew ?_ | refine blk_alloc ?_ _)); exact BK267.out) hb); have n1_ := Aside0.mk (below_step (by repeat (first | (with_reducible first | exact HB.out | apply below_alloc | apply pw_below_drewN | apply below_drew1 | refine below_set ?_ GE267.out) | exact HB.out)) hb); clear BK267; clear HB; have BK267 := n0_; have HB := n1_; clear n0_ n1_; (try clear hb); (try clear hb2); (try clear hk); (try clear hi)) | ((with_reducible refine gate_callee (f := 14) rfl ?_); refine goesL_ (some 44) rfl rfl Try.func14 (by kernel_rfl) rfl #[.int .i64 a1, .int .i64 a2] rfl (by (try simp only [List.map_toArray, List.map_cons, List.map_nil]); first | done | rfl | (simp only [List.length_drop, List.length_take]; rfl)) ?_; (with_reducible refine (root_Hyp.calls k a1 a2 t277 t278 _ A9.out).mono ?_); rintro e w25 ⟨rfl, hb⟩; refine ⟨_, rfl, ?_⟩; have n0_ := Aside0.mk (blk_below (g := gb267) (o := .cells #[.int .i64 a0_0, .int .i64 a0_1] 23 (0, 0)) (by (with_reducible repeat (first | refine blk_drewN ?_ _ | refine blk_drew ?_ | refine blk_alloc ?_ _)); exact BK267.out) hb); have n1_ := Aside0.mk (below_step (by repeat (first | (with_reducible first | exact HB.out | apply below_alloc | apply pw_below_drewN | apply below_drew1 | refine below_set ?_ GE267.out) | exact HB.out)) hb); clear BK267; clear HB; have BK267 := n0_; have HB := n1_; clear n0_ n1_; (try clear hb); (try clear hb2); (try clear hk); (try clear hi)) | ((with_reducible refine gate_callee (f := 15) rfl ?_); refine goesL_ (some 50) rfl rfl Try.func15 (by kernel_rfl) rfl #[.int .i64 a1, .int .i64 a2] rfl (by (try simp only [List.map_toArray, List.map_cons, List.map_nil]); first | done | rfl | (simp only [List.length_drop, List.length_take]; rfl)) ?_; (with_reducible refine (outriggerref04_Hyp.calls k a1 a2 t279 t280 _ A10.out).mono ?_); rintro e w26 ⟨rfl, hb⟩; refine ⟨_, rfl, ?_⟩; have n0_ := Aside0.mk (blk_below (g := gb267) (o := .cells #[.int .i64 a0_0, .int .i64 a0_1] 23 (0, 0)) (by (with_reducible repeat (first | refine blk_drewN ?_ _ | refine blk_drew ?_ | refine blk_alloc ?_ _)); exact BK267.out) hb); have n1_ := Aside0.mk (below_step (by repeat (first | (with_reducible first | exact HB.out | apply below_alloc | apply pw_below_drewN | apply below_drew1 | refine below_set ?_ GE267.out) | exact HB.out)) hb); clear BK267; clear HB; have BK267 := n0_; have HB := n1_; clear n0_ n1_; (try clear hb); (try clear hb2); (try clear hk); (try clear hi)))
              go_ret
              exact ⟨by first | rfl | (simp [errW_none, errW_some] <;> rfl) | (simp [*, errW_none, errW_some] <;> rfl), by repeat (first | (with_reducible first | exact HB.out | apply below_alloc | apply pw_below_drewN | apply below_drew1 | refine below_set ?_ GE267.out) | exact HB.out)⟩
            · rw [if_neg c16] at H
              have c16b0 : (t277 == t279) = false := beq_eq_false_iff_ne.mpr c16
              have c16b1 : (t277 != t279) = true := bne_iff_ne.mpr c16
              exact absurd ((Option.some.inj H).trans hr.out) (by decide)
          · rw [if_neg c15] at H
            have c15b0 : (t274 == t276) = false := by simpa using c15
            (try (have c15b1 : decide (t274 = t276) = false := by simpa using c15))
            (try (have c15b2 : (t274 == t276) = false := by simpa using c15))
            (try (have c15b3 : ¬ (t274 = t276) := by simpa using c15))
            clear c15
            exact absurd ((Option.some.inj H).trans hr.out) (by decide)
        · rw [if_neg c14] at H
          have c14b0 : (t273 == t275) = false := beq_eq_false_iff_ne.mpr c14
          have c14b1 : (t273 != t275) = true := bne_iff_ne.mpr c14
          exact absurd ((Option.some.inj H).trans hr.out) (by decide)
      · rw [if_neg c13] at H
        have c13b0 : (t270 == t272) = false := by simpa using c13
        (try (have c13b1 : decide (t270 = t272) = false := by simpa using c13))
        (try (have c13b2 : (t270 == t272) = false := by simpa using c13))
        (try (have c13b3 : ¬ (t270 = t272) := by simpa using c13))
        clear c13
        exact absurd ((Option.some.inj H).trans hr.out) (by decide)
    · rw [if_neg c12] at H
      have c12b0 : (t269 == t271) = false := beq_eq_false_iff_ne.mpr c12
      have c12b1 : (t269 != t271) = true := bne_iff_ne.mpr c12
      exact absurd ((Option.some.inj H).trans hr.out) (by decide)
  · replace c11 := Bool.eq_false_iff.mpr c11
    subst c11
    have H1 : (some false) = some r := by rw [if_neg (show ¬ (false = true) by decide)] at H; exact H
    clear H
    have H := H1
    clear H1
    exact absurd ((Option.some.inj H).trans hr.out) (by decide)


end Go.Proofs.Ythfcodicpcengaa.B
