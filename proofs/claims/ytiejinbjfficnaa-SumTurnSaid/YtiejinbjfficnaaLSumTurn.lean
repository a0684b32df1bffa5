/- The walk of the law SumTurn: where its Lean function tells true, the call returns true and leaves memory below as it was. Laid by a program of this project out of the kit's print of the Go functions. -/
import Derived.Test.YtiejinbjfficnaaB0
import Derived.Test.YtiejinbjfficnaaB3
import Derived.Test.YtiejinbjfficnaaB6
import Derived.Test.YtiejinbjfficnaaB7
namespace Go.Proofs.Ytiejinbjfficnaa.B
open Go.RowKit Go.Proofs.YtiejinbjfficnaaW.PrintWords Go.Proofs.YtiejinbjfficnaaW.PrintLast Go.Proofs.YtiejinbjfficnaaW.PrintMore
attribute [local go_sem] max2_int min2_int max_two min_two max_three min_three max_four min_four
set_option linter.unusedVariables false
set_option linter.unusedSimpArgs false

/-! ### outriggerlaw06_SumTurn: function 4 -/
def outriggerlaw06_SumTurn.l0 : Nat → Bool → List Int → List Int → List Int → List Int → Int → Option (Bool)
  | 0, _, _, _, _, _, _ => none
  | k + 1, x5, x7, x8, x9, x10, x11 => if x11 ≥ 0 then (if 0 ≤ x11 then (if x11 < (x7.length : Int) then (if x9.length < 17592186044416 then (if x11 < (x8.length : Int) then (if x10.length < 17592186044416 then (outriggerlaw06_SumTurn.l0 k x5 x7 x8 (x9 ++ [rd x7 x11]) (x10 ++ [rd x8 x11]) (wrap64 (x11 - 1))) else (none)) else (none)) else (none)) else (none)) else (none)) else ((sum_Total.f k x7).bind fun bt274 => ((sum_Total.f k x9).bind fun bt276 => ((sum_Mean.f k x7).bind fun bt278 => ((sum_Mean.f k x9).bind fun bt280 => ((sum_Dot.f k x7 x8).bind fun bt282 => ((sum_Dot.f k x10 x9).bind fun bt284 => ((sum_Norm.f k x7).bind fun bt286 => ((sum_Norm.f k x9).bind fun bt288 => (if x5 = true then (if bt274.1 = bt276.1 then (if (bt274.2 == bt276.2) = true then (if bt278.1 = bt280.1 then (if (bt278.2 == bt280.2) = true then (if bt282.1 = bt284.1 then (if (bt282.2 == bt284.2) = true then (if bt286.1 = bt288.1 then (some (bt286.2 == bt288.2)) else (some false)) else (some false)) else (some false)) else (some false)) else (some false)) else (some false)) else (some false)) else (some false))))))))))
def outriggerlaw06_SumTurn.f (k : Nat) (l0 : List Int) (l1 : List Int) : Option (Bool) := (outriggerlaw06_awake.f k).bind fun t263 => (if 0 ≤ (mn (mn (l0.length : Int) (l1.length : Int)) 64) then (if (mn (mn (l0.length : Int) (l1.length : Int)) 64) ≤ (l0.length : Int) then (if (mn (mn (l0.length : Int) (l1.length : Int)) 64) ≤ (l1.length : Int) then (outriggerlaw06_SumTurn.l0 k t263 (l0.take ((mn (mn (l0.length : Int) (l1.length : Int)) 64) : Int).toNat) (l1.take ((mn (mn (l0.length : Int) (l1.length : Int)) 64) : Int).toNat) ([] : List Int) ([] : List Int) ((mn (mn (l0.length : Int) (l1.length : Int)) 64) - 1)) else (none)) else (none)) else (none))
theorem outriggerlaw06_SumTurn.mono_l : ∀ k, (∀ y0 y1 y2 y3 y4 y5, LeO (outriggerlaw06_SumTurn.l0 k y0 y1 y2 y3 y4 y5) (outriggerlaw06_SumTurn.l0 (k + 1) y0 y1 y2 y3 y4 y5))
  | 0 => fun _ _ _ _ _ _ r h => by simp [outriggerlaw06_SumTurn.l0] at h
  | k + 1 => by
    have ih0 := outriggerlaw06_SumTurn.mono_l k
    · intro y0 y1 y2 y3 y4 y5
      unfold outriggerlaw06_SumTurn.l0
      repeat' first
      | (with_reducible exact ih0 _ _ _ _ _ _)
      | (with_reducible exact outriggerlaw06_awake.mono _)
      | (with_reducible exact sum_Dot.mono _ _ _)
      | (with_reducible exact sum_Mean.mono _ _)
      | (with_reducible exact sum_Norm.mono _ _)
      | (with_reducible exact sum_Total.mono _ _)
      | (with_reducible exact LeO.refl _)
      | (with_reducible exact LeO.none _)
      | (with_reducible refine LeO.ite ?_ ?_)
      | (with_reducible refine LeO.bind ?_ (fun _ => ?_))
      | exact ih0 _ _ _ _ _ _
      | exact outriggerlaw06_awake.mono _
      | exact sum_Dot.mono _ _ _
      | exact sum_Mean.mono _ _
      | exact sum_Norm.mono _ _
      | exact sum_Total.mono _ _
      | exact LeO.none _
      | refine LeO.ite ?_ ?_
      | refine LeO.bind ?_ (fun _ => ?_)
theorem outriggerlaw06_SumTurn.mono : ∀ a0 a1 k, LeO (outriggerlaw06_SumTurn.f k a0 a1) (outriggerlaw06_SumTurn.f (k + 1) a0 a1) := by
  intro a0 a1 k
  have ih0 := outriggerlaw06_SumTurn.mono_l k
  unfold outriggerlaw06_SumTurn.f
  repeat' first
      | (with_reducible exact ih0 _ _ _ _ _ _)
      | (with_reducible exact outriggerlaw06_awake.mono _)
      | (with_reducible exact sum_Dot.mono _ _ _)
      | (with_reducible exact sum_Mean.mono _ _)
      | (with_reducible exact sum_Norm.mono _ _)
      | (with_reducible exact sum_Total.mono _ _)
      | (with_reducible exact LeO.refl _)
      | (with_reducible exact LeO.none _)
      | (with_reducible refine LeO.ite ?_ ?_)
      | (with_reducible refine LeO.bind ?_ (fun _ => ?_))
      | exact ih0 _ _ _ _ _ _
      | exact outriggerlaw06_awake.mono _
      | exact sum_Dot.mono _ _ _
      | exact sum_Mean.mono _ _
      | exact sum_Norm.mono _ _
      | exact sum_Total.mono _ _
      | exact LeO.none _
      | refine LeO.ite ?_ ?_
      | refine LeO.bind ?_ (fun _ => ?_)
set_option maxHeartbeats 8000000 in
set_option maxRecDepth 100000 in
theorem outriggerlaw06_SumTurn.calls (k : Nat) (A0 : Option Addr) (c0 : Nat) (l0 : List Int) (A1 : Option Addr) (c1 : Nat) (l1 : List Int) (r : Bool) (w : World) (hr0 : Kd.C (Kd.int .i64) w A0 l0.length l0) (hc0 : l0.length ≤ c0) (hr1 : Kd.C (Kd.int .i64) w A1 l1.length l1) (hc1 : l1.length ≤ c1) (h : outriggerlaw06_SumTurn.f k l0 l1 = some r) (hr : Aside0 (r = true)) :
    Calls Try.prog 4 #[.slice A0 l0.length c0, .slice A1 l1.length c1] w fun e w' => e = .returned (.bool r) ∧ Below w.heap.size w w' := by
  have HR0 := Aside0.mk hr0
  have HC0 := Aside0.mk hc0
  clear hr0 hc0
  have HR1 := Aside0.mk hr1
  have HC1 := Aside0.mk hc1
  clear hr1 hc1
  have HB := Aside0.mk (Below.refl w.heap.size w)
  have H : ((outriggerlaw06_awake.f k).bind fun t263 => (if 0 ≤ (mn (mn (l0.length : Int) (l1.length : Int)) 64) then (if (mn (mn (l0.length : Int) (l1.length : Int)) 64) ≤ (l0.length : Int) then (if (mn (mn (l0.length : Int) (l1.length : Int)) 64) ≤ (l1.length : Int) then (outriggerlaw06_SumTurn.l0 k t263 (l0.take ((mn (mn (l0.length : Int) (l1.length : Int)) 64) : Int).toNat) (l1.take ((mn (mn (l0.length : Int) (l1.length : Int)) 64) : Int).toNat) ([] : List Int) ([] : List Int) ((mn (mn (l0.length : Int) (l1.length : Int)) 64) - 1)) else (none)) else (none)) else (none))) = some r := h
  clear h
  replace H := Option.bind_eq_some_iff.mp H
  obtain ⟨t263, A30, H⟩ := H
  replace H : (if 0 ≤ (mn (mn (l0.length : Int) (l1.length : Int)) 64) then (if (mn (mn (l0.length : Int) (l1.length : Int)) 64) ≤ (l0.length : Int) then (if (mn (mn (l0.length : Int) (l1.length : Int)) 64) ≤ (l1.length : Int) then (outriggerlaw06_SumTurn.l0 k t263 (l0.take ((mn (mn (l0.length : Int) (l1.length : Int)) 64) : Int).toNat) (l1.take ((mn (mn (l0.length : Int) (l1.length : Int)) 64) : Int).toNat) ([] : List Int) ([] : List Int) ((mn (mn (l0.length : Int) (l1.length : Int)) 64) - 1)) else (none)) else (none)) else (none)) = some r := H
  have A3 := Aside0.mk A30
  clear A30
  obtain ⟨ji4, hji4⟩ : ∃ j_ : Int, (mn (l0.length : Int) (l1.length : Int)) = j_ := ⟨_, rfl⟩
  replace H : (if 0 ≤ (mn (ji4) 64) then (if (mn (ji4) 64) ≤ (l0.length : Int) then (if (mn (ji4) 64) ≤ (l1.length : Int) then (outriggerlaw06_SumTurn.l0 k t263 (l0.take ((mn (ji4) 64) : Int).toNat) (l1.take ((mn (ji4) 64) : Int).toNat) ([] : List Int) ([] : List Int) ((mn (ji4) 64) - 1)) else (none)) else (none)) else (none)) = some r := by first | (rw [hji4] at H; exact H) | (simp only [hji4] at H ⊢; exact H)
  (try rw [hji4] at A3)
  (try (have hji4l : 0 ≤ ji4 := by (rw [← hji4]; unfold mn; (repeat' split) <;> omega)))
  (try (have hji4m : 0 ≤ ji4 := by omega))
  have hji4_ : (if (l1.length : Int) < (l0.length : Int) then (l1.length : Int) else (l0.length : Int)) = ji4 := hji4
  have hji4n : (if l1.length < l0.length then (l1.length : Int) else (l0.length : Int)) = ji4 := by rw [← hji4_]; simp only [Int.ofNat_lt]
  obtain ⟨ji5, hji5⟩ : ∃ j_ : Int, (mn (ji4) 64) = j_ := ⟨_, rfl⟩
  replace H : (if 0 ≤ (ji5) then (if (ji5) ≤ (l0.length : Int) then (if (ji5) ≤ (l1.length : Int) then (outriggerlaw06_SumTurn.l0 k t263 (l0.take ((ji5) : Int).toNat) (l1.take ((ji5) : Int).toNat) ([] : List Int) ([] : List Int) ((ji5) - 1)) else (none)) else (none)) else (none)) = some r := by first | (rw [hji5] at H; exact H) | (simp only [hji5] at H ⊢; exact H)
  (try rw [hji5] at A3)
  have hji5_ : (if 64 < (ji4) then 64 else (ji4)) = ji5 := hji5
  obtain ⟨m1_5, hm1_5⟩ : ∃ m_ : List Int, (l1.take ((ji5) : Int).toNat) = m_ := ⟨_, rfl⟩
  rw [hm1_5] at H
  obtain ⟨m0_5, hm0_5⟩ : ∃ m_ : List Int, (l0.take ((ji5) : Int).toNat) = m_ := ⟨_, rfl⟩
  rw [hm0_5] at H
  by_cases c6 : 0 ≤ (ji5)
  · rw [if_pos c6] at H
    have c6b0 := eq_true c6
    have c6b1 : decide (0 ≤ (ji5)) = true := decide_eq_true c6
    clear c6
    by_cases c7 : (ji5) ≤ (l0.length : Int)
    · rw [if_pos c7] at H
      have c7b0 := eq_true c7
      have c7b1 : decide ((ji5) ≤ (l0.length : Int)) = true := decide_eq_true c7
      clear c7
      have c8b0 := eq_true (of_decide_eq_true (by first | (with_reducible assumption) | assumption) : 0 ≤ (ji5))
      by_cases c9 : (ji5) ≤ (l1.length : Int)
      · rw [if_pos c9] at H
        have c9b0 := eq_true c9
        have c9b1 : decide ((ji5) ≤ (l1.length : Int)) = true := decide_eq_true c9
        clear c9
        have H' := Aside0.mk H
        clear H
        go_enter Try.func4, Try.ntmps4
        go_wp2_with (first | ((with_reducible refine gate_callee (f := 8) rfl ?_); refine goesL_ (some 28) rfl rfl Try.func8 (by kernel_rfl) rfl #[] rfl (by (try simp only [List.map_toArray, List.map_cons, List.map_nil]); first | done | rfl | (simp only [List.length_drop, List.length_take]; rfl)) ?_; (with_reducible refine (outriggerlaw06_awake.calls k  t263 _ A3.out).mono ?_); rintro e w10 ⟨rfl, hb⟩; refine ⟨_, rfl, ?_⟩; have n0_ := Aside0.mk (below_step (by repeat (first | (with_reducible first | exact HB.out | apply below_alloc | apply pw_below_drewN | apply below_drew1) | exact HB.out)) hb); clear HB; have HB := n0_; clear n0_; (try clear hb); (try clear hb2); (try clear hk); (try clear hi); obtain ⟨i011, hi011, _, hsz11, _⟩ := info_parts info3; obtain ⟨hcut11, hA11, hC11⟩ := print_take_of (P := Try.prog) (Value.int .i64) 0 22 3 .i64 Try.underlying22 hi011 hsz11 A0 c0 l0 (ji5) (of_decide_eq_true (by first | (with_reducible assumption) | assumption)) (of_decide_eq_true (by first | (with_reducible assumption) | assumption)) HC0.out; rw [hm0_5] at hA11 hC11; simp only [hm0_5] at hcut11; have HR264 := Aside0.mk (Kd.C_of_reads (h1 := fun _ => rfl) (hA11 _ (Kd.reads_of_C HR0.out))); have HC264 := Aside0.mk hC11; clear hA11 hC11 hi011 hsz11; obtain ⟨i012, hi012, _, hsz12, _⟩ := info_parts info3; obtain ⟨hcut12, hA12, hC12⟩ := print_take_of (P := Try.prog) (Value.int .i64) 0 22 3 .i64 Try.underlying22 hi012 hsz12 A1 c1 l1 (ji5) (of_decide_eq_true (by first | (with_reducible assumption) | assumption)) (of_decide_eq_true (by first | (with_reducible assumption) | assumption)) HC1.out; rw [hm1_5] at hA12 hC12; simp only [hm1_5] at hcut12; have HR265 := Aside0.mk (Kd.C_of_reads (h1 := fun _ => rfl) (hA12 _ (Kd.reads_of_C HR1.out))); have HC265 := Aside0.mk hC12; clear hA12 hC12 hi012 hsz12))
        go_loopg [9, 10, 11] k (fun kq v9 v10 v11 w' => ∃ (x9_1 : List Int) (x10_1 : List Int) (x11_1 : Int), v11 = .int .i64 x11_1 ∧ Aside0 (outriggerlaw06_SumTurn.l0 kq t263 m0_5 m1_5 x9_1 x10_1 x11_1 = some r) ∧ Aside0 (kq ≤ k) ∧ Aside0 (Kd.R (Kd.int .i64) 3 w' w.heap.size (fun k_ => some k_ ≠ (v10 : Value).ownBlock) v9 x9_1) ∧ Aside0 (Kd.R (Kd.int .i64) 3 w' w.heap.size (fun k_ => some k_ ≠ (v9 : Value).ownBlock) v10 x10_1) ∧ Aside0 (Below w.heap.size w w'))
        case atStart => exact ⟨(([] : List Int)), (([] : List Int)), ((ji5) - 1), (by first | rfl | (simp; done) | (simp only [← hji5] <;> (first | rfl | simp)) | (simp [*]; done)), H', ⟨Nat.le_refl _⟩, ⟨by first | exact Kd.R_nil _ _ _ _ _ | exact Kd.N_nil _ _ _ _ _ | exact Kd.V_nil _ _ _ _ _ | exact Kd.Q_nil _ _ _ _ _ | exact Kd.S_nil _ _ _ _ _⟩, ⟨by first | exact Kd.R_nil _ _ _ _ _ | exact Kd.N_nil _ _ _ _ _ | exact Kd.V_nil _ _ _ _ _ | exact Kd.Q_nil _ _ _ _ _ | exact Kd.S_nil _ _ _ _ _⟩, ⟨by repeat (first | (with_reducible first | exact HB.out | apply below_alloc | apply pw_below_drewN | apply below_drew1) | exact HB.out)⟩⟩
        case round =>
          clear H'
          try clear c1
          try clear p2
          try clear c4
          try clear c6
          try clear c6b0
          try clear c6b1
          try clear c7
          try clear c7b0
          try clear c7b1
          try clear c8
          try clear c8b0
          try clear c9
          try clear c9b0
          try clear c9b1
          obtain ⟨x9_1, x10_1, x11_1, rfl, HA, HK1, HO_9, HO_10, HB⟩ := hrel
          cases gk with
          | zero => exact absurd HA.out (by simp [outriggerlaw06_SumTurn.l0])
          | succ k1 =>
            have H := HA.out
            clear HA
            simp only [outriggerlaw06_SumTurn.l0] at H
            by_cases c13 : x11_1 ≥ 0
            · rw [if_pos c13] at H
              have c13b0 : decide (0 ≤ x11_1) = true := decide_eq_true c13
              clear c13
              by_cases c14 : 0 ≤ x11_1
              · rw [if_pos c14] at H
                have c14b0 : decide (0 ≤ x11_1) = true := decide_eq_true c14
                clear c14
                by_cases c15 : x11_1 < (m0_5.length : Int)
                · rw [if_pos c15] at H
                  have c15b0 : decide (x11_1 < (m0_5.length : Int)) = true := decide_eq_true c15
                  clear c15
                  by_cases c16 : x9_1.length < 17592186044416
                  · rw [if_pos c16] at H
                    have LMc16 := Aside0.mk c16
                    clear c16
                    obtain ⟨y267, hy267⟩ : ∃ y_ : List Int, y_ = (x9_1 ++ [rd m0_5 x11_1]) := ⟨_, rfl⟩
                    replace H : (if x11_1 < (m1_5.length : Int) then (if x10_1.length < 17592186044416 then (outriggerlaw06_SumTurn.l0 k1 t263 m0_5 m1_5 y267 (x10_1 ++ [rd m1_5 x11_1]) (wrap64 (x11_1 - 1))) else (none)) else (none)) = some r := by first | (rw [hy267]; with_reducible exact H) | (have H2_ := (Option.bind_some _ _).symm.trans H; rw [hy267]; with_reducible exact H2_) | (have H2_ := (Option.bind_some _ _).symm.trans H; with_reducible exact H2_) | with_reducible exact H | (rw [hy267]; exact H) | exact H
                    have Ny267 := Aside0.mk hy267
                    clear hy267
                    by_cases c17 : x11_1 < (m1_5.length : Int)
                    · rw [if_pos c17] at H
                      have c17b0 : decide (x11_1 < (m1_5.length : Int)) = true := decide_eq_true c17
                      clear c17
                      by_cases c18 : x10_1.length < 17592186044416
                      · rw [if_pos c18] at H
                        have LMc18 := Aside0.mk c18
                        clear c18
                        obtain ⟨y271, hy271⟩ : ∃ y_ : List Int, y_ = (x10_1 ++ [rd m1_5 x11_1]) := ⟨_, rfl⟩
                        replace H : (outriggerlaw06_SumTurn.l0 k1 t263 m0_5 m1_5 y267 y271 (wrap64 (x11_1 - 1))) = some r := by first | (rw [hy271]; with_reducible exact H) | (have H2_ := (Option.bind_some _ _).symm.trans H; rw [hy271]; with_reducible exact H2_) | (have H2_ := (Option.bind_some _ _).symm.trans H; with_reducible exact H2_) | with_reducible exact H | (rw [hy271]; exact H) | exact H
                        have Ny271 := Aside0.mk hy271
                        clear hy271
                        have H' := Aside0.mk H
                        clear H
                        have p266 : 0 ≤ (x11_1 : Int) := of_decide_eq_true (by first | (with_reducible assumption) | assumption)
                        have q266 : x11_1 < (m0_5.length : Int) := of_decide_eq_true (by first | (with_reducible assumption) | assumption)
                        obtain ⟨ad266, e266, hx266_0⟩ := Kd.at_int HR264.out x11_1 p266 q266
                        cases e266
                        replace hx266_0 := (HB.out.cell (World.block_lt_of_cell? w _ hx266_0)).trans hx266_0
                        replace p266 := eq_true p266
                        replace q266 := eq_true q266
                        go_wp2_with (first | ((with_reducible refine gate_builtin (b := .append) (xs := #[.tmp 46, .tmp 51]) rfl ?_); at_builtin; refine Kd.R_append (Kd.int .i64) (w0 := w) w.heap.size rfl (.tmp 46) (.tmp 51) 22 3 (.int .i64 0) 8 rfl Try.underlying22 info3 rfl (by decide) (by omega) u9 x9_1 (rd m0_5 x11_1) [.int .i64 (rd m0_5 x11_1)] (fun k_ => some k_ ≠ (u10 : Value).ownBlock) (fun _ => False) rfl rfl ?aP (fun _ hk => hk.elim) ?aF ?aO ?aB ?aS ?aL ?_; (case aP => exact rfl); (case aB => exact (by repeat (first | (with_reducible first | exact HB.out | apply below_alloc | apply pw_below_drewN | apply below_drew1) | exact HB.out))); (case aF => exact (fun k_ hk => Kd.fresh' (Kd.R_lt (by (with_reducible repeat (first | apply Kd.R_alloc | apply Kd.R_drewN | apply Kd.R_drew)); exact HO_10.out)) k_ hk)); (case aO => exact (by (with_reducible repeat (first | apply Kd.R_alloc | apply Kd.R_drewN | apply Kd.R_drew)); exact HO_9.out)); (case aS => exact (below_size (by repeat (first | (with_reducible first | exact HB.out | apply below_alloc | apply pw_below_drewN | apply below_drew1) | exact HB.out)))); (case aL => have := LMc16.out; omega); intro v268 w19 ho hb hg hat; rw [← Ny267.out] at ho; have n0_ := Aside0.mk (Kd.R_after (ok := (fun _ => True)) (by (with_reducible repeat (first | apply Kd.R_alloc | apply Kd.R_drewN | apply Kd.R_drew)); exact Kd.R_mono HO_10.out (fun _ hk => ⟨trivial, hk⟩)) hg hat); have n1_ := Aside0.mk (hb); have n2_ := Aside0.mk (ho); clear HO_10; clear HB; clear HO_9; have HO_10 := n0_; have HB := n1_; have HO269 := n2_; clear n0_ n1_ n2_; clear ho hb hg hat; have p270 : 0 ≤ (x11_1 : Int) := of_decide_eq_true (by first | (with_reducible assumption) | assumption); have q270 : x11_1 < (m1_5.length : Int) := of_decide_eq_true (by first | (with_reducible assumption) | assumption); obtain ⟨ad270, e270, hx270_0⟩ := Kd.at_int HR265.out x11_1 p270 q270; cases e270; replace hx270_0 := (HB.out.cell (World.block_lt_of_cell? w _ hx270_0)).trans hx270_0; replace p270 := eq_true p270; replace q270 := eq_true q270) | ((with_reducible refine gate_builtin (b := .append) (xs := #[.tmp 53, .tmp 58]) rfl ?_); at_builtin; refine Kd.R_append (Kd.int .i64) (w0 := w) w.heap.size rfl (.tmp 53) (.tmp 58) 22 3 (.int .i64 0) 8 rfl Try.underlying22 info3 rfl (by decide) (by omega) u10 x10_1 (rd m1_5 x11_1) [.int .i64 (rd m1_5 x11_1)] (fun k_ => some k_ ≠ (v268 : Value).ownBlock) (fun _ => False) rfl rfl ?aP (fun _ hk => hk.elim) ?aF ?aO ?aB ?aS ?aL ?_; (case aP => exact rfl); (case aB => exact (by repeat (first | (with_reducible first | exact HB.out | apply below_alloc | apply pw_below_drewN | apply below_drew1) | exact HB.out))); (case aF => exact (fun k_ hk => Kd.fresh' (Kd.R_lt (by (with_reducible repeat (first | apply Kd.R_alloc | apply Kd.R_drewN | apply Kd.R_drew)); exact HO269.out)) k_ hk)); (case aO => exact (by (with_reducible repeat (first | apply Kd.R_alloc | apply Kd.R_drewN | apply Kd.R_drew)); exact Kd.R_mono HO_10.out (fun _ hk => hk.2))); (case aS => exact (below_size (by repeat (first | (with_reducible first | exact HB.out | apply below_alloc | apply pw_below_drewN | apply below_drew1) | exact HB.out)))); (case aL => have := LMc18.out; omega); intro v272 w20 ho hb hg hat; rw [← Ny271.out] at ho; have n0_ := Aside0.mk (Kd.R_after (ok := (fun _ => True)) (by (with_reducible repeat (first | apply Kd.R_alloc | apply Kd.R_drewN | apply Kd.R_drew)); exact Kd.R_mono HO269.out (fun _ hk => ⟨trivial, hk⟩)) hg hat); have n1_ := Aside0.mk (hb); have n2_ := Aside0.mk (ho); clear HO269; clear HB; clear HO_10; have HO269 := n0_; have HB := n1_; have HO273 := n2_; clear n0_ n1_ n2_; clear ho hb hg hat))
                        go_roundg k1
                        case measure => have := HK1.out; omega
                        case rel => exact ⟨(y267), (y271), (wrap64 (x11_1 - 1)), (by first | rfl | (simp; done) | (simp [*]; done)), H', ⟨by have := HK1.out; omega⟩, ⟨by (with_reducible repeat (first | apply Kd.R_alloc | apply Kd.R_drewN | apply Kd.R_drew)); exact Kd.R_mono HO269.out (fun _ hk => hk.2)⟩, ⟨by (with_reducible repeat (first | apply Kd.R_alloc | apply Kd.R_drewN | apply Kd.R_drew)); exact HO273.out⟩, ⟨by repeat (first | (with_reducible first | exact HB.out | apply below_alloc | apply pw_below_drewN | apply below_drew1) | exact HB.out)⟩⟩
                      · rw [if_neg c18] at H
                        exact absurd H (by simp)
                    · rw [if_neg c17] at H
                      exact absurd H (by simp)
                  · rw [if_neg c16] at H
                    exact absurd H (by simp)
                · rw [if_neg c15] at H
                  exact absurd H (by simp)
              · rw [if_neg c14] at H
                exact absurd H (by simp)
            · rw [if_neg c13] at H
              have c13b0 : decide (0 ≤ x11_1) = false := decide_eq_false c13
              clear c13
              replace H := Option.bind_eq_some_iff.mp H
              obtain ⟨⟨t274, t275⟩, A210, H⟩ := H
              replace H : ((sum_Total.f k1 x9_1).bind fun bt276 => ((sum_Mean.f k1 m0_5).bind fun bt278 => ((sum_Mean.f k1 x9_1).bind fun bt280 => ((sum_Dot.f k1 m0_5 m1_5).bind fun bt282 => ((sum_Dot.f k1 x10_1 x9_1).bind fun bt284 => ((sum_Norm.f k1 m0_5).bind fun bt286 => ((sum_Norm.f k1 x9_1).bind fun bt288 => (if t263 = true then (if t274 = bt276.1 then (if (t275 == bt276.2) = true then (if bt278.1 = bt280.1 then (if (bt278.2 == bt280.2) = true then (if bt282.1 = bt284.1 then (if (bt282.2 == bt284.2) = true then (if bt286.1 = bt288.1 then (some (bt286.2 == bt288.2)) else (some false)) else (some false)) else (some false)) else (some false)) else (some false)) else (some false)) else (some false)) else (some false))))))))) = some r := H
              have A21 := Aside0.mk A210
              clear A210
              replace H := Option.bind_eq_some_iff.mp H
              obtain ⟨⟨t276, t277⟩, A220, H⟩ := H
              replace H : ((sum_Mean.f k1 m0_5).bind fun bt278 => ((sum_Mean.f k1 x9_1).bind fun bt280 => ((sum_Dot.f k1 m0_5 m1_5).bind fun bt282 => ((sum_Dot.f k1 x10_1 x9_1).bind fun bt284 => ((sum_Norm.f k1 m0_5).bind fun bt286 => ((sum_Norm.f k1 x9_1).bind fun bt288 => (if t263 = true then (if t274 = t276 then (if (t275 == t277) = true then (if bt278.1 = bt280.1 then (if (bt278.2 == bt280.2) = true then (if bt282.1 = bt284.1 then (if (bt282.2 == bt284.2) = true then (if bt286.1 = bt288.1 then (some (bt286.2 == bt288.2)) else (some false)) else (some false)) else (some false)) else (some false)) else (some false)) else (some false)) else (some false)) else (some false)))))))) = some r := H
              have A22 := Aside0.mk A220
              clear A220
              replace H := Option.bind_eq_some_iff.mp H
              obtain ⟨⟨t278, t279⟩, A230, H⟩ := H
              replace H : ((sum_Mean.f k1 x9_1).bind fun bt280 => ((sum_Dot.f k1 m0_5 m1_5).bind fun bt282 => ((sum_Dot.f k1 x10_1 x9_1).bind fun bt284 => ((sum_Norm.f k1 m0_5).bind fun bt286 => ((sum_Norm.f k1 x9_1).bind fun bt288 => (if t263 = true then (if t274 = t276 then (if (t275 == t277) = true then (if t278 = bt280.1 then (if (t279 == bt280.2) = true then (if bt282.1 = bt284.1 then (if (bt282.2 == bt284.2) = true then (if bt286.1 = bt288.1 then (some (bt286.2 == bt288.2)) else (some false)) else (some false)) else (some false)) else (some false)) else (some false)) else (some false)) else (some false)) else (some false))))))) = some r := H
              have A23 := Aside0.mk A230
              clear A230
              replace H := Option.bind_eq_some_iff.mp H
              obtain ⟨⟨t280, t281⟩, A240, H⟩ := H
              replace H : ((sum_Dot.f k1 m0_5 m1_5).bind fun bt282 => ((sum_Dot.f k1 x10_1 x9_1).bind fun bt284 => ((sum_Norm.f k1 m0_5).bind fun bt286 => ((sum_Norm.f k1 x9_1).bind fun bt288 => (if t263 = true then (if t274 = t276 then (if (t275 == t277) = true then (if t278 = t280 then (if (t279 == t281) = true then (if bt282.1 = bt284.1 then (if (bt282.2 == bt284.2) = true then (if bt286.1 = bt288.1 then (some (bt286.2 == bt288.2)) else (some false)) else (some false)) else (some false)) else (some false)) else (some false)) else (some false)) else (some false)) else (some false)))))) = some r := H
              have A24 := Aside0.mk A240
              clear A240
              replace H := Option.bind_eq_some_iff.mp H
              obtain ⟨⟨t282, t283⟩, A250, H⟩ := H
              replace H : ((sum_Dot.f k1 x10_1 x9_1).bind fun bt284 => ((sum_Norm.f k1 m0_5).bind fun bt286 => ((sum_Norm.f k1 x9_1).bind fun bt288 => (if t263 = true then (if t274 = t276 then (if (t275 == t277) = true then (if t278 = t280 then (if (t279 == t281) = true then (if t282 = bt284.1 then (if (t283 == bt284.2) = true then (if bt286.1 = bt288.1 then (some (bt286.2 == bt288.2)) else (some false)) else (some false)) else (some false)) else (some false)) else (some false)) else (some false)) else (some false)) else (some false))))) = some r := H
              have A25 := Aside0.mk A250
              clear A250
              replace H := Option.bind_eq_some_iff.mp H
              obtain ⟨⟨t284, t285⟩, A260, H⟩ := H
              replace H : ((sum_Norm.f k1 m0_5).bind fun bt286 => ((sum_Norm.f k1 x9_1).bind fun bt288 => (if t263 = true then (if t274 = t276 then (if (t275 == t277) = true then (if t278 = t280 then (if (t279 == t281) = true then (if t282 = t284 then (if (t283 == t285) = true then (if bt286.1 = bt288.1 then (some (bt286.2 == bt288.2)) else (some false)) else (some false)) else (some false)) else (some false)) else (some false)) else (some false)) else (some false)) else (some false)))) = some r := H
              have A26 := Aside0.mk A260
              clear A260
              replace H := Option.bind_eq_some_iff.mp H
              obtain ⟨⟨t286, t287⟩, A270, H⟩ := H
              replace H : ((sum_Norm.f k1 x9_1).bind fun bt288 => (if t263 = true then (if t274 = t276 then (if (t275 == t277) = true then (if t278 = t280 then (if (t279 == t281) = true then (if t282 = t284 then (if (t283 == t285) = true then (if t286 = bt288.1 then (some (t287 == bt288.2)) else (some false)) else (some false)) else (some false)) else (some false)) else (some false)) else (some false)) else (some false)) else (some false))) = some r := H
              have A27 := Aside0.mk A270
              clear A270
              replace H := Option.bind_eq_some_iff.mp H
              obtain ⟨⟨t288, t289⟩, A280, H⟩ := H
              replace H : (if t263 = true then (if t274 = t276 then (if (t275 == t277) = true then (if t278 = t280 then (if (t279 == t281) = true then (if t282 = t284 then (if (t283 == t285) = true then (if t286 = t288 then (some (t287 == t289)) else (some false)) else (some false)) else (some false)) else (some false)) else (some false)) else (some false)) else (some false)) else (some false)) = some r := H
              have A28 := Aside0.mk A280
              clear A280
              by_cases c29 : t263 = true
              · subst c29
                have H1 : (if t274 = t276 then (if (t275 == t277) = true then (if t278 = t280 then (if (t279 == t281) = true then (if t282 = t284 then (if (t283 == t285) = true then (if t286 = t288 then (some (t287 == t289)) else (some false)) else (some false)) else (some false)) else (some false)) else (some false)) else (some false)) else (some false)) = some r := by rw [if_pos rfl] at H; exact H
                clear H
                have H := H1
                clear H1
                by_cases c30 : t274 = t276
                · rw [if_pos c30] at H
                  have c30b0 : (t274 == t276) = true := beq_iff_eq.mpr c30
                  have c30b1 : (t274 != t276) = false := bne_eq_false_iff_eq.mpr c30
                  clear c30
                  by_cases c31 : (t275 == t277) = true
                  · rw [if_pos c31] at H
                    have c31b0 : (t275 == t277) = true := c31
                    (try (have c31b1 : decide (t275 = t277) = true := by simpa using c31))
                    (try (have c31b2 : (t275 == t277) = true := by simpa using c31))
                    clear c31
                    by_cases c32 : t278 = t280
                    · rw [if_pos c32] at H
                      have c32b0 : (t278 == t280) = true := beq_iff_eq.mpr c32
                      have c32b1 : (t278 != t280) = false := bne_eq_false_iff_eq.mpr c32
                      clear c32
                      by_cases c33 : (t279 == t281) = true
                      · rw [if_pos c33] at H
                        have c33b0 : (t279 == t281) = true := c33
                        (try (have c33b1 : decide (t279 = t281) = true := by simpa using c33))
                        (try (have c33b2 : (t279 == t281) = true := by simpa using c33))
                        clear c33
                        by_cases c34 : t282 = t284
                        · rw [if_pos c34] at H
                          have c34b0 : (t282 == t284) = true := beq_iff_eq.mpr c34
                          have c34b1 : (t282 != t284) = false := bne_eq_false_iff_eq.mpr c34
                          clear c34
                          by_cases c35 : (t283 == t285) = true
                          · rw [if_pos c35] at H
                            have c35b0 : (t283 == t285) = true := c35
                            (try (have c35b1 : decide (t283 = t285) = true := by simpa using c35))
                            (try (have c35b2 : (t283 == t285) = true := by simpa using c35))
                            clear c35
                            by_cases c36 : t286 = t288
                            · rw [if_pos c36] at H
                              have c36b0 : (t286 == t288) = true := beq_iff_eq.mpr c36
                              have c36b1 : (t286 != t288) = false := bne_eq_false_iff_eq.mpr c36
                              clear c36
                              clear hr
                              obtain rfl := Option.some.inj H
                              go_wp2_with (first | ((with_reducible refine gate_callee (f := 9) rfl ?_); refine goesL_ (some 62) rfl rfl Try.func9 (by kernel_rfl) rfl #[.slice A0 m0_5.length c0] rfl (by (try simp only [List.map_toArray, List.map_cons, List.map_nil]); first | done | (rw [show m0_5.length = (ji5).toNat from (by rw [List.length_take]; have h_ : ((ji5) : Int) ≤ (l0.length : Int) := of_decide_eq_true (by first | (with_reducible assumption) | assumption); omega)] <;> rfl) | (simp only [hji5]; rfl) | rfl | (simp only [List.length_drop, List.length_take]; rfl)) ?_; (with_reducible refine (sum_Total.calls k1 _ _ m0_5 t274 t275 _ ?side1 ?side2 A21.out).mono ?_); (case side1 => repeat (first | exact (Kd.C_below HR264.out HB.out) | (with_reducible refine Kd.C_alloc ?_ _) | (with_reducible refine Kd.C_drewN ?_ _) | (with_reducible refine Kd.C_drew ?_))); (case side2 => exact HC264.out); rintro e w37 ⟨rfl, hb⟩; refine ⟨_, rfl, ?_⟩; have n0_ := Aside0.mk (Kd.R_below (by (with_reducible repeat (first | apply Kd.R_alloc | apply Kd.R_drewN | apply Kd.R_drew)); exact HO_9.out) hb); have n1_ := Aside0.mk (Kd.R_below (by (with_reducible repeat (first | apply Kd.R_alloc | apply Kd.R_drewN | apply Kd.R_drew)); exact HO_10.out) hb); have n2_ := Aside0.mk (below_step (by repeat (first | (with_reducible first | exact HB.out | apply below_alloc | apply pw_below_drewN | apply below_drew1) | exact HB.out)) hb); clear HO_9; clear HO_10; clear HB; have HO_9 := n0_; have HO_10 := n1_; have HB := n2_; clear n0_ n1_ n2_; (try clear hb); (try clear hb2); (try clear hk); (try clear hi); obtain ⟨Ao38, co38, eo38⟩ := Kd.R_slice HO_9.out; subst eo38) | ((with_reducible refine gate_callee (f := 9) rfl ?_); refine goesL_ (some 67) rfl rfl Try.func9 (by kernel_rfl) rfl #[.slice Ao38 x9_1.length co38] rfl (by (try simp only [List.map_toArray, List.map_cons, List.map_nil]); first | done | rfl | (simp only [List.length_drop, List.length_take]; rfl)) ?_; (with_reducible refine (sum_Total.calls k1 _ _ x9_1 t276 t277 _ ?side1 ?side2 A22.out).mono ?_); (case side1 => repeat (first | exact (Kd.R_reads' HO_9.out).2.2 | (with_reducible refine Kd.C_alloc ?_ _) | (with_reducible refine Kd.C_drewN ?_ _) | (with_reducible refine Kd.C_drew ?_))); (case side2 => exact (Kd.R_reads' HO_9.out).2.1); rintro e w39 ⟨rfl, hb⟩; refine ⟨_, rfl, ?_⟩; have n0_ := Aside0.mk (Kd.R_below (by (with_reducible repeat (first | apply Kd.R_alloc | apply Kd.R_drewN | apply Kd.R_drew)); exact HO_9.out) hb); have n1_ := Aside0.mk (Kd.R_below (by (with_reducible repeat (first | apply Kd.R_alloc | apply Kd.R_drewN | apply Kd.R_drew)); exact HO_10.out) hb); have n2_ := Aside0.mk (below_step (by repeat (first | (with_reducible first | exact HB.out | apply below_alloc | apply pw_below_drewN | apply below_drew1) | exact HB.out)) hb); clear HO_9; clear HO_10; clear HB; have HO_9 := n0_; have HO_10 := n1_; have HB := n2_; clear n0_ n1_ n2_; (try clear hb); (try clear hb2); (try clear hk); (try clear hi)) | ((with_reducible refine gate_callee (f := 11) rfl ?_); refine goesL_ (some 72) rfl rfl Try.func11 (by kernel_rfl) rfl #[.slice A0 m0_5.length c0] rfl (by (try simp only [List.map_toArray, List.map_cons, List.map_nil]); first | done | (rw [show m0_5.length = (ji5).toNat from (by rw [List.length_take]; have h_ : ((ji5) : Int) ≤ (l0.length : Int) := of_decide_eq_true (by first | (with_reducible assumption) | assumption); omega)] <;> rfl) | (simp only [hji5]; rfl) | rfl | (simp only [List.length_drop, List.length_take]; rfl)) ?_; (with_reducible refine (sum_Mean.calls k1 _ _ m0_5 t278 t279 _ ?side1 ?side2 A23.out).mono ?_); (case side1 => repeat (first | exact (Kd.C_below HR264.out HB.out) | (with_reducible refine Kd.C_alloc ?_ _) | (with_reducible refine Kd.C_drewN ?_ _) | (with_reducible refine Kd.C_drew ?_))); (case side2 => exact HC264.out); rintro e w40 ⟨rfl, hb⟩; refine ⟨_, rfl, ?_⟩; have n0_ := Aside0.mk (Kd.R_below (by (with_reducible repeat (first | apply Kd.R_alloc | apply Kd.R_drewN | apply Kd.R_drew)); exact HO_9.out) hb); have n1_ := Aside0.mk (Kd.R_below (by (with_reducible repeat (first | apply Kd.R_alloc | apply Kd.R_drewN | apply Kd.R_drew)); exact HO_10.out) hb); have n2_ := Aside0.mk (below_step (by repeat (first | (with_reducible first | exact HB.out | apply below_alloc | apply pw_below_drewN | apply below_drew1) | exact HB.out)) hb); clear HO_9; clear HO_10; clear HB; have HO_9 := n0_; have HO_10 := n1_; have HB := n2_; clear n0_ n1_ n2_; (try clear hb); (try clear hb2); (try clear hk); (try clear hi)) | ((with_reducible refine gate_callee (f := 11) rfl ?_); refine goesL_ (some 77) rfl rfl Try.func11 (by kernel_rfl) rfl #[.slice Ao38 x9_1.length co38] rfl (by (try simp only [List.map_toArray, List.map_cons, List.map_nil]); first | done | rfl | (simp only [List.length_drop, List.length_take]; rfl)) ?_; (with_reducible refine (sum_Mean.calls k1 _ _ x9_1 t280 t281 _ ?side1 ?side2 A24.out).mono ?_); (case side1 => repeat (first | exact (Kd.R_reads' HO_9.out).2.2 | (with_reducible refine Kd.C_alloc ?_ _) | (with_reducible refine Kd.C_drewN ?_ _) | (with_reducible refine Kd.C_drew ?_))); (case side2 => exact (Kd.R_reads' HO_9.out).2.1); rintro e w41 ⟨rfl, hb⟩; refine ⟨_, rfl, ?_⟩; have n0_ := Aside0.mk (Kd.R_below (by (with_reducible repeat (first | apply Kd.R_alloc | apply Kd.R_drewN | apply Kd.R_drew)); exact HO_9.out) hb); have n1_ := Aside0.mk (Kd.R_below (by (with_reducible repeat (first | apply Kd.R_alloc | apply Kd.R_drewN | apply Kd.R_drew)); exact HO_10.out) hb); have n2_ := Aside0.mk (below_step (by repeat (first | (with_reducible first | exact HB.out | apply below_alloc | apply pw_below_drewN | apply below_drew1) | exact HB.out)) hb); clear HO_9; clear HO_10; clear HB; have HO_9 := n0_; have HO_10 := n1_; have HB := n2_; clear n0_ n1_ n2_; (try clear hb); (try clear hb2); (try clear hk); (try clear hi)) | ((with_reducible refine gate_callee (f := 13) rfl ?_); refine goesL_ (some 83) rfl rfl Try.func13 (by kernel_rfl) rfl #[.slice A0 m0_5.length c0, .slice A1 m1_5.length c1] rfl (by (try simp only [List.map_toArray, List.map_cons, List.map_nil]); first | done | (rw [show m0_5.length = (ji5).toNat from (by rw [List.length_take]; have h_ : ((ji5) : Int) ≤ (l0.length : Int) := of_decide_eq_true (by first | (with_reducible assumption) | assumption); omega)] <;> rfl) | (rw [show m1_5.length = (ji5).toNat from (by rw [List.length_take]; have h_ : ((ji5) : Int) ≤ (l1.length : Int) := of_decide_eq_true (by first | (with_reducible assumption) | assumption); omega)] <;> rfl) | (simp only [hji5]; rfl) | rfl | (simp only [List.length_drop, List.length_take]; rfl)) ?_; (with_reducible refine (sum_Dot.calls k1 _ _ m0_5 _ _ m1_5 t282 t283 _ ?side1 ?side2 ?side3 ?side4 A25.out).mono ?_); (case side1 => repeat (first | exact (Kd.C_below HR264.out HB.out) | (with_reducible refine Kd.C_alloc ?_ _) | (with_reducible refine Kd.C_drewN ?_ _) | (with_reducible refine Kd.C_drew ?_))); (case side2 => exact HC264.out); (case side3 => repeat (first | exact (Kd.C_below HR265.out HB.out) | (with_reducible refine Kd.C_alloc ?_ _) | (with_reducible refine Kd.C_drewN ?_ _) | (with_reducible refine Kd.C_drew ?_))); (case side4 => exact HC265.out); rintro e w42 ⟨rfl, hb⟩; refine ⟨_, rfl, ?_⟩; have n0_ := Aside0.mk (Kd.R_below (by (with_reducible repeat (first | apply Kd.R_alloc | apply Kd.R_drewN | apply Kd.R_drew)); exact HO_9.out) hb); have n1_ := Aside0.mk (Kd.R_below (by (with_reducible repeat (first | apply Kd.R_alloc | apply Kd.R_drewN | apply Kd.R_drew)); exact HO_10.out) hb); have n2_ := Aside0.mk (below_step (by repeat (first | (with_reducible first | exact HB.out | apply below_alloc | apply pw_below_drewN | apply below_drew1) | exact HB.out)) hb); clear HO_9; clear HO_10; clear HB; have HO_9 := n0_; have HO_10 := n1_; have HB := n2_; clear n0_ n1_ n2_; (try clear hb); (try clear hb2); (try clear hk); (try clear hi); obtain ⟨Ao43, co43, eo43⟩ := Kd.R_slice HO_10.out; subst eo43) | ((with_reducible refine gate_callee (f := 13) rfl ?_); refine goesL_ (some 89) rfl rfl Try.func13 (by kernel_rfl) rfl #[.slice Ao43 x10_1.length co43, .slice Ao38 x9_1.length co38] rfl (by (try simp only [List.map_toArray, List.map_cons, List.map_nil]); first | done | rfl | (simp only [List.length_drop, List.length_take]; rfl)) ?_; (with_reducible refine (sum_Dot.calls k1 _ _ x10_1 _ _ x9_1 t284 t285 _ ?side1 ?side2 ?side3 ?side4 A26.out).mono ?_); (case side1 => repeat (first | exact (Kd.R_reads' HO_10.out).2.2 | (with_reducible refine Kd.C_alloc ?_ _) | (with_reducible refine Kd.C_drewN ?_ _) | (with_reducible refine Kd.C_drew ?_))); (case side2 => exact (Kd.R_reads' HO_10.out).2.1); (case side3 => repeat (first | exact (Kd.R_reads' HO_9.out).2.2 | (with_reducible refine Kd.C_alloc ?_ _) | (with_reducible refine Kd.C_drewN ?_ _) | (with_reducible refine Kd.C_drew ?_))); (case side4 => exact (Kd.R_reads' HO_9.out).2.1); rintro e w44 ⟨rfl, hb⟩; refine ⟨_, rfl, ?_⟩; have n0_ := Aside0.mk (Kd.R_below (by (with_reducible repeat (first | apply Kd.R_alloc | apply Kd.R_drewN | apply Kd.R_drew)); exact HO_9.out) hb); have n1_ := Aside0.mk (Kd.R_below (by (with_reducible repeat (first | apply Kd.R_alloc | apply Kd.R_drewN | apply Kd.R_drew)); exact HO_10.out) hb); have n2_ := Aside0.mk (below_step (by repeat (first | (with_reducible first | exact HB.out | apply below_alloc | apply pw_below_drewN | apply below_drew1) | exact HB.out)) hb); clear HO_9; clear HO_10; clear HB; have HO_9 := n0_; have HO_10 := n1_; have HB := n2_; clear n0_ n1_ n2_; (try clear hb); (try clear hb2); (try clear hk); (try clear hi)) | ((with_reducible refine gate_callee (f := 15) rfl ?_); refine goesL_ (some 94) rfl rfl Try.func15 (by kernel_rfl) rfl #[.slice A0 m0_5.length c0] rfl (by (try simp only [List.map_toArray, List.map_cons, List.map_nil]); first | done | (rw [show m0_5.length = (ji5).toNat from (by rw [List.length_take]; have h_ : ((ji5) : Int) ≤ (l0.length : Int) := of_decide_eq_true (by first | (with_reducible assumption) | assumption); omega)] <;> rfl) | (simp only [hji5]; rfl) | rfl | (simp only [List.length_drop, List.length_take]; rfl)) ?_; (with_reducible refine (sum_Norm.calls k1 _ _ m0_5 t286 t287 _ ?side1 ?side2 A27.out).mono ?_); (case side1 => repeat (first | exact (Kd.C_below HR264.out HB.out) | (with_reducible refine Kd.C_alloc ?_ _) | (with_reducible refine Kd.C_drewN ?_ _) | (with_reducible refine Kd.C_drew ?_))); (case side2 => exact HC264.out); rintro e w45 ⟨rfl, hb⟩; refine ⟨_, rfl, ?_⟩; have n0_ := Aside0.mk (Kd.R_below (by (with_reducible repeat (first | apply Kd.R_alloc | apply Kd.R_drewN | apply Kd.R_drew)); exact HO_9.out) hb); have n1_ := Aside0.mk (Kd.R_below (by (with_reducible repeat (first | apply Kd.R_alloc | apply Kd.R_drewN | apply Kd.R_drew)); exact HO_10.out) hb); have n2_ := Aside0.mk (below_step (by repeat (first | (with_reducible first | exact HB.out | apply below_alloc | apply pw_below_drewN | apply below_drew1) | exact HB.out)) hb); clear HO_9; clear HO_10; clear HB; have HO_9 := n0_; have HO_10 := n1_; have HB := n2_; clear n0_ n1_ n2_; (try clear hb); (try clear hb2); (try clear hk); (try clear hi)) | ((with_reducible refine gate_callee (f := 15) rfl ?_); refine goesL_ (some 99) rfl rfl Try.func15 (by kernel_rfl) rfl #[.slice Ao38 x9_1.length co38] rfl (by (try simp only [List.map_toArray, List.map_cons, List.map_nil]); first | done | rfl | (simp only [List.length_drop, List.length_take]; rfl)) ?_; (with_reducible refine (sum_Norm.calls k1 _ _ x9_1 t288 t289 _ ?side1 ?side2 A28.out).mono ?_); (case side1 => repeat (first | exact (Kd.R_reads' HO_9.out).2.2 | (with_reducible refine Kd.C_alloc ?_ _) | (with_reducible refine Kd.C_drewN ?_ _) | (with_reducible refine Kd.C_drew ?_))); (case side2 => exact (Kd.R_reads' HO_9.out).2.1); rintro e w46 ⟨rfl, hb⟩; refine ⟨_, rfl, ?_⟩; have n0_ := Aside0.mk (Kd.R_below (by (with_reducible repeat (first | apply Kd.R_alloc | apply Kd.R_drewN | apply Kd.R_drew)); exact HO_9.out) hb); have n1_ := Aside0.mk (Kd.R_below (by (with_reducible repeat (first | apply Kd.R_alloc | apply Kd.R_drewN | apply Kd.R_drew)); exact HO_10.out) hb); have n2_ := Aside0.mk (below_step (by repeat (first | (with_reducible first | exact HB.out | apply below_alloc | apply pw_below_drewN | apply below_drew1) | exact HB.out)) hb); clear HO_9; clear HO_10; clear HB; have HO_9 := n0_; have HO_10 := n1_; have HB := n2_; clear n0_ n1_ n2_; (try clear hb); (try clear hb2); (try clear hk); (try clear hi)))
                              go_ret
                              exact ⟨by first | rfl | (simp [errW_none, errW_some] <;> rfl) | (simp only [← hji4, ← hji5]; first | rfl | (simp [errW_none, errW_some] <;> rfl)) | (simp [*, errW_none, errW_some] <;> rfl), by repeat (first | (with_reducible first | exact HB.out | apply below_alloc | apply pw_below_drewN | apply below_drew1) | exact HB.out)⟩
                            · rw [if_neg c36] at H
                              have c36b0 : (t286 == t288) = false := beq_eq_false_iff_ne.mpr c36
                              have c36b1 : (t286 != t288) = true := bne_iff_ne.mpr c36
                              exact absurd ((Option.some.inj H).trans hr.out) (by decide)
                          · rw [if_neg c35] at H
                            have c35b0 : (t283 == t285) = false := by simpa using c35
                            (try (have c35b1 : decide (t283 = t285) = false := by simpa using c35))
                            (try (have c35b2 : (t283 == t285) = false := by simpa using c35))
                            (try (have c35b3 : ¬ (t283 = t285) := by simpa using c35))
                            clear c35
                            exact absurd ((Option.some.inj H).trans hr.out) (by decide)
                        · rw [if_neg c34] at H
                          have c34b0 : (t282 == t284) = false := beq_eq_false_iff_ne.mpr c34
                          have c34b1 : (t282 != t284) = true := bne_iff_ne.mpr c34
                          exact absurd ((Option.some.inj H).trans hr.out) (by decide)
                      · rw [if_neg c33] at H
                        have c33b0 : (t279 == t281) = false := by simpa using c33
                        (try (have c33b1 : decide (t279 = t281) = false := by simpa using c33))
                        (try (have c33b2 : (t279 == t281) = false := by simpa using c33))
                        (try (have c33b3 : ¬ (t279 = t281) := by simpa using c33))
                        clear c33
                        exact absurd ((Option.some.inj H).trans hr.out) (by decide)
                    · rw [if_neg c32] at H
                      have c32b0 : (t278 == t280) = false := beq_eq_false_iff_ne.mpr c32
                      have c32b1 : (t278 != t280) = true := bne_iff_ne.mpr c32
                      exact absurd ((Option.some.inj H).trans hr.out) (by decide)
                  · rw [if_neg c31] at H
                    have c31b0 : (t275 == t277) = false := by simpa using c31
                    (try (have c31b1 : decide (t275 = t277) = false := by simpa using c31))
                    (try (have c31b2 : (t275 == t277) = false := by simpa using c31))
                    (try (have c31b3 : ¬ (t275 = t277) := by simpa using c31))
                    clear c31
                    exact absurd ((Option.some.inj H).trans hr.out) (by decide)
                · rw [if_neg c30] at H
                  have c30b0 : (t274 == t276) = false := beq_eq_false_iff_ne.mpr c30
                  have c30b1 : (t274 != t276) = true := bne_iff_ne.mpr c30
                  exact absurd ((Option.some.inj H).trans hr.out) (by decide)
              · replace c29 := Bool.eq_false_iff.mpr c29
                subst c29
                have H1 : (some false) = some r := by rw [if_neg (show ¬ (false = true) by decide)] at H; exact H
                clear H
                have H := H1
                clear H1
                exact absurd ((Option.some.inj H).trans hr.out) (by decide)
      · rw [if_neg c9] at H
        exact absurd H (by simp)
    · rw [if_neg c7] at H
      exact absurd H (by simp)
  · rw [if_neg c6] at H
    exact absurd H (by simp)


end Go.Proofs.Ytiejinbjfficnaa.B
