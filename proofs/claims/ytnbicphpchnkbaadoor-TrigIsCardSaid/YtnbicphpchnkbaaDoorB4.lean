/- Contracts of Go functions: each call returns what the Lean function of its name tells, and memory below is as it was. Laid by a program of this project out of the kit's print of the Go functions. -/
import Derived.Test.YtnbicphpchnkbaaDoorB0
namespace Go.Proofs.YtnbicphpchnkbaaDoor.B
open Go.RowKit Go.Proofs.YtnbicphpchnkbaaDoorW.PrintWords Go.Proofs.YtnbicphpchnkbaaDoorW.PrintLast Go.Proofs.YtnbicphpchnkbaaDoorW.PrintMore
attribute [local go_sem] max2_int min2_int max_two min_two max_three min_three max_four min_four
set_option linter.unusedVariables false
set_option linter.unusedSimpArgs false

/-! ### outriggerref05_Angle: function 14 -/
def outriggerref05_Angle.f (a0 : Int) : Option (Int) := if (Int.tmod a0 4294967296) < 0 then (some (wrap64 ((Int.tmod a0 4294967296) + 4294967296))) else (some (Int.tmod a0 4294967296))
set_option maxHeartbeats 8000000 in
set_option maxRecDepth 100000 in
theorem outriggerref05_Angle.calls (a0 : Int) (r : Int) (w : World) (h : outriggerref05_Angle.f a0 = some r) :
    Calls Tryd.prog 14 #[.int .i64 a0] w fun e w' => e = .returned (.int .i64 r) ∧ Drawn0 w w' := by
  have H : (if (Int.tmod a0 4294967296) < 0 then (some (wrap64 ((Int.tmod a0 4294967296) + 4294967296))) else (some (Int.tmod a0 4294967296))) = some r := h
  clear h
  by_cases c2 : (Int.tmod a0 4294967296) < 0
  · rw [if_pos c2] at H
    have c2b0 : decide ((Int.tmod a0 4294967296) < 0) = true := decide_eq_true c2
    clear c2
    obtain rfl := Option.some.inj H
    go_enter Tryd.func14, Tryd.ntmps14
    go_wp2
    go_ret
    exact ⟨by first | rfl | (simp; done) | (simp [*]; done), by repeat (first | exact Drawn0.refl _ | apply Drawn0.step)⟩
  · rw [if_neg c2] at H
    have c2b0 : decide ((Int.tmod a0 4294967296) < 0) = false := decide_eq_false c2
    clear c2
    obtain rfl := Option.some.inj H
    go_enter Tryd.func14, Tryd.ntmps14
    go_wp2
    go_ret
    exact ⟨by first | rfl | (simp; done) | (simp [*]; done), by repeat (first | exact Drawn0.refl _ | apply Drawn0.step)⟩


/-! ### outriggerref05_halved: function 25 -/
def outriggerref05_halved.l0 : Nat → Int → Int → Int → Option (Int)
  | 0, _, _, _ => none
  | k + 1, x0, x1, x5 => if x5 < x1 then (if x0 < 0 then (if (Int.tmod x0 2) = 0 then (outriggerref05_halved.l0 k (wrap64 (Int.tdiv x0 2)) x1 (wrap64 (x5 + 1))) else (outriggerref05_halved.l0 k (wrap64 (Int.tdiv (wrap64 (x0 - 1)) 2)) x1 (wrap64 (x5 + 1)))) else (outriggerref05_halved.l0 k (wrap64 (Int.tdiv x0 2)) x1 (wrap64 (x5 + 1)))) else (some x0)
def outriggerref05_halved.f (k : Nat) (a0 : Int) (a1 : Int) : Option (Int) := outriggerref05_halved.l0 k a0 a1 0
theorem outriggerref05_halved.mono_l : ∀ k, (∀ y0 y1 y2, LeO (outriggerref05_halved.l0 k y0 y1 y2) (outriggerref05_halved.l0 (k + 1) y0 y1 y2))
  | 0 => fun _ _ _ r h => by simp [outriggerref05_halved.l0] at h
  | k + 1 => by
    have ih0 := outriggerref05_halved.mono_l k
    · intro y0 y1 y2
      unfold outriggerref05_halved.l0
      repeat' first
      | (with_reducible exact ih0 _ _ _)
      | (with_reducible exact LeO.refl _)
      | (with_reducible exact LeO.none _)
      | (with_reducible refine LeO.ite ?_ ?_)
      | (with_reducible refine LeO.bind ?_ (fun _ => ?_))
      | exact ih0 _ _ _
      | exact LeO.none _
      | refine LeO.ite ?_ ?_
      | refine LeO.bind ?_ (fun _ => ?_)
theorem outriggerref05_halved.mono : ∀ a0 a1 k, LeO (outriggerref05_halved.f k a0 a1) (outriggerref05_halved.f (k + 1) a0 a1) := by
  intro a0 a1 k
  have ih0 := outriggerref05_halved.mono_l k
  unfold outriggerref05_halved.f
  repeat' first
      | (with_reducible exact ih0 _ _ _)
      | (with_reducible exact LeO.refl _)
      | (with_reducible exact LeO.none _)
      | (with_reducible refine LeO.ite ?_ ?_)
      | (with_reducible refine LeO.bind ?_ (fun _ => ?_))
      | exact ih0 _ _ _
      | exact LeO.none _
      | refine LeO.ite ?_ ?_
      | refine LeO.bind ?_ (fun _ => ?_)
set_option maxHeartbeats 8000000 in
set_option maxRecDepth 100000 in
theorem outriggerref05_halved.calls (k : Nat) (a0 : Int) (a1 : Int) (r : Int) (w : World) (h : outriggerref05_halved.f k a0 a1 = some r) :
    Calls Tryd.prog 25 #[.int .i64 a0, .int .i64 a1] w fun e w' => e = .returned (.int .i64 r) ∧ Drawn0 w w' := by
  have H : (outriggerref05_halved.l0 k a0 a1 0) = some r := h
  clear h
  have H' := Aside0.mk H
  clear H
  go_enter Tryd.func25, Tryd.ntmps25
  go_wp2
  go_loopg [0, 5] k (fun kq v0 v5 w' => ∃ (x0_1 : Int) (x5_1 : Int), v0 = .int .i64 x0_1 ∧ v5 = .int .i64 x5_1 ∧ Aside0 (outriggerref05_halved.l0 kq x0_1 a1 x5_1 = some r) ∧ Aside0 (kq ≤ k) ∧ Drawn0 w w')
  case atStart => exact ⟨(a0), (0), (by first | rfl | (simp; done) | (simp [*]; done)), (by first | rfl | (simp; done) | (simp [*]; done)), H', ⟨Nat.le_refl _⟩, by repeat (first | exact Drawn0.refl _ | apply Drawn0.step)⟩
  case round =>
    clear H'
    try clear c2
    try clear p2
    obtain ⟨x0_1, x5_1, rfl, rfl, HA, HK1, ⟨m1, rfl⟩⟩ := hrel
    cases gk with
    | zero => exact absurd HA.out (by simp [outriggerref05_halved.l0])
    | succ k1 =>
      have H := HA.out
      clear HA
      simp only [outriggerref05_halved.l0] at H
      by_cases c3 : x5_1 < a1
      · rw [if_pos c3] at H
        have c3b0 : decide (x5_1 < a1) = true := decide_eq_true c3
        clear c3
        by_cases c4 : x0_1 < 0
        · rw [if_pos c4] at H
          have c4b0 : decide (x0_1 < 0) = true := decide_eq_true c4
          clear c4
          by_cases c5 : (Int.tmod x0_1 2) = 0
          · rw [if_pos c5] at H
            have c5b0 : ((Int.tmod x0_1 2) == 0) = true := beq_iff_eq.mpr c5
            have c5b1 : ((Int.tmod x0_1 2) != 0) = false := bne_eq_false_iff_eq.mpr c5
            clear c5
            have H' := Aside0.mk H
            clear H
            go_wp2
            go_roundg k1
            case measure => have := HK1.out; omega
            case rel => exact ⟨(wrap64 (Int.tdiv x0_1 2)), (wrap64 (x5_1 + 1)), (by first | rfl | (simp; done) | (simp [*]; done)), (by first | rfl | (simp; done) | (simp [*]; done)), H', ⟨by have := HK1.out; omega⟩, by repeat (first | exact Drawn0.refl _ | apply Drawn0.step)⟩
          · rw [if_neg c5] at H
            have c5b0 : ((Int.tmod x0_1 2) == 0) = false := beq_eq_false_iff_ne.mpr c5
            have c5b1 : ((Int.tmod x0_1 2) != 0) = true := bne_iff_ne.mpr c5
            have H' := Aside0.mk H
            clear H
            go_wp2
            go_roundg k1
            case measure => have := HK1.out; omega
            case rel => exact ⟨(wrap64 (Int.tdiv (wrap64 (x0_1 - 1)) 2)), (wrap64 (x5_1 + 1)), (by first | rfl | (simp; done) | (simp [*]; done)), (by first | rfl | (simp; done) | (simp [*]; done)), H', ⟨by have := HK1.out; omega⟩, by repeat (first | exact Drawn0.refl _ | apply Drawn0.step)⟩
        · rw [if_neg c4] at H
          have c4b0 : decide (x0_1 < 0) = false := decide_eq_false c4
          clear c4
          have H' := Aside0.mk H
          clear H
          go_wp2
          go_roundg k1
          case measure => have := HK1.out; omega
          case rel => exact ⟨(wrap64 (Int.tdiv x0_1 2)), (wrap64 (x5_1 + 1)), (by first | rfl | (simp; done) | (simp [*]; done)), (by first | rfl | (simp; done) | (simp [*]; done)), H', ⟨by have := HK1.out; omega⟩, by repeat (first | exact Drawn0.refl _ | apply Drawn0.step)⟩
      · rw [if_neg c3] at H
        have c3b0 : decide (x5_1 < a1) = false := decide_eq_false c3
        clear c3
        obtain rfl := Option.some.inj H
        go_wp2
        go_ret
        exact ⟨by first | rfl | (simp; done) | (simp [*]; done), by repeat (first | exact Drawn0.refl _ | apply Drawn0.step)⟩


/-! ### outriggerref05_table: function 33 -/
def outriggerref05_table.f  : Option (List Int) := some (([35184372088832, 20770547670515, 10974586953444, 5570871696862, 2796246208089, 1399486241028, 699913886760, 349978300884, 174991820497, 87496244017, 43748163730, 21874087080, 10937044192, 5468522177, 2734261099, 1367130551, 683565276, 341782638, 170891319, 85445659, 42722830, 21361415, 10680707, 5340354, 2670177, 1335088, 667544, 333772, 166886, 83443, 41722, 20861] : List Int))
set_option maxHeartbeats 8000000 in
set_option maxRecDepth 100000 in
theorem outriggerref05_table.calls  (r : List Int) (w : World) (h : outriggerref05_table.f  = some r) :
    Calls Tryd.prog 33 #[] w fun e w' => ∃ v0_ : Value, e = .returned (v0_) ∧ Kd.R (Kd.int .i64) 3 w' w.heap.size (fun _ => True) v0_ r ∧ Below w.heap.size w w' := by
  have HB := Aside0.mk (Below.refl w.heap.size w)
  have H : (some (([35184372088832, 20770547670515, 10974586953444, 5570871696862, 2796246208089, 1399486241028, 699913886760, 349978300884, 174991820497, 87496244017, 43748163730, 21874087080, 10937044192, 5468522177, 2734261099, 1367130551, 683565276, 341782638, 170891319, 85445659, 42722830, 21361415, 10680707, 5340354, 2670177, 1335088, 667544, 333772, 166886, 83443, 41722, 20861] : List Int))) = some r := h
  clear h
  obtain ⟨y127, hy127⟩ : ∃ y_ : List Int, y_ = (([35184372088832, 20770547670515, 10974586953444, 5570871696862, 2796246208089, 1399486241028, 699913886760, 349978300884, 174991820497, 87496244017, 43748163730, 21874087080, 10937044192, 5468522177, 2734261099, 1367130551, 683565276, 341782638, 170891319, 85445659, 42722830, 21361415, 10680707, 5340354, 2670177, 1335088, 667544, 333772, 166886, 83443, 41722, 20861] : List Int)) := ⟨_, rfl⟩
  replace H : (some y127) = some r := by first | (rw [hy127]; with_reducible exact H) | (have H2_ := (Option.bind_some _ _).symm.trans H; rw [hy127]; with_reducible exact H2_) | (have H2_ := (Option.bind_some _ _).symm.trans H; with_reducible exact H2_) | with_reducible exact H | (rw [hy127]; exact H) | exact H
  have Ny127 := Aside0.mk hy127
  clear hy127
  obtain rfl := Option.some.inj H
  go_enter Tryd.func33, Tryd.ntmps33
  go_wp2_with (first | ((with_reducible refine gate_dst (N := 1) rfl ?_); refine Kd.R_lit (Kd.int .i64) _ 3 ?hg (N := 1) ?hd (xs := ([35184372088832, 20770547670515, 10974586953444, 5570871696862, 2796246208089, 1399486241028, 699913886760, 349978300884, 174991820497, 87496244017, 43748163730, 21874087080, 10937044192, 5468522177, 2734261099, 1367130551, 683565276, 341782638, 170891319, 85445659, 42722830, 21361415, 10680707, 5340354, 2670177, 1335088, 667544, 333772, 166886, 83443, 41722, 20861] : List Int)) (inner := [.int .i64 35184372088832, .int .i64 20770547670515, .int .i64 10974586953444, .int .i64 5570871696862, .int .i64 2796246208089, .int .i64 1399486241028, .int .i64 699913886760, .int .i64 349978300884, .int .i64 174991820497, .int .i64 87496244017, .int .i64 43748163730, .int .i64 21874087080, .int .i64 10937044192, .int .i64 5468522177, .int .i64 2734261099, .int .i64 1367130551, .int .i64 683565276, .int .i64 341782638, .int .i64 170891319, .int .i64 85445659, .int .i64 42722830, .int .i64 21361415, .int .i64 10680707, .int .i64 5340354, .int .i64 2670177, .int .i64 1335088, .int .i64 667544, .int .i64 333772, .int .i64 166886, .int .i64 83443, .int .i64 41722, .int .i64 20861]) (ok := fun _ => True) (okp := fun _ => True) ?hr ?hp (fun _ hk => hk) trivial (Below.refl _ _) (Nat.le_refl _) (by simp) ?_; (case hd => rfl); (case hg => rfl); (case hr => first | (go_simp; done) | (go_simp; rfl)); (case hp => exact (Reps.one (show Kd.M (Kd.int .i64) _ _ _ 35184372088832 [.int .i64 35184372088832] from rfl) (Reps.one (show Kd.M (Kd.int .i64) _ _ _ 20770547670515 [.int .i64 20770547670515] from rfl) (Reps.one (show Kd.M (Kd.int .i64) _ _ _ 10974586953444 [.int .i64 10974586953444] from rfl) (Reps.one (show Kd.M (Kd.int .i64) _ _ _ 5570871696862 [.int .i64 5570871696862] from rfl) (Reps.one (show Kd.M (Kd.int .i64) _ _ _ 2796246208089 [.int .i64 2796246208089] from rfl) (Reps.one (show Kd.M (Kd.int .i64) _ _ _ 1399486241028 [.int .i64 1399486241028] from rfl) (Reps.one (show Kd.M (Kd.int .i64) _ _ _ 699913886760 [.int .i64 699913886760] from rfl) (Reps.one (show Kd.M (Kd.int .i64) _ _ _ 349978300884 [.int .i64 349978300884] from rfl) (Reps.one (show Kd.M (Kd.int .i64) _ _ _ 174991820497 [.int .i64 174991820497] from rfl) (Reps.one (show Kd.M (Kd.int .i64) _ _ _ 87496244017 [.int .i64 87496244017] from rfl) (Reps.one (show Kd.M (Kd.int .i64) _ _ _ 43748163730 [.int .i64 43748163730] from rfl) (Reps.one (show Kd.M (Kd.int .i64) _ _ _ 21874087080 [.int .i64 21874087080] from rfl) (Reps.one (show Kd.M (Kd.int .i64) _ _ _ 10937044192 [.int .i64 10937044192] from rfl) (Reps.one (show Kd.M (Kd.int .i64) _ _ _ 5468522177 [.int .i64 5468522177] from rfl) (Reps.one (show Kd.M (Kd.int .i64) _ _ _ 2734261099 [.int .i64 2734261099] from rfl) (Reps.one (show Kd.M (Kd.int .i64) _ _ _ 1367130551 [.int .i64 1367130551] from rfl) (Reps.one (show Kd.M (Kd.int .i64) _ _ _ 683565276 [.int .i64 683565276] from rfl) (Reps.one (show Kd.M (Kd.int .i64) _ _ _ 341782638 [.int .i64 341782638] from rfl) (Reps.one (show Kd.M (Kd.int .i64) _ _ _ 170891319 [.int .i64 170891319] from rfl) (Reps.one (show Kd.M (Kd.int .i64) _ _ _ 85445659 [.int .i64 85445659] from rfl) (Reps.one (show Kd.M (Kd.int .i64) _ _ _ 42722830 [.int .i64 42722830] from rfl) (Reps.one (show Kd.M (Kd.int .i64) _ _ _ 21361415 [.int .i64 21361415] from rfl) (Reps.one (show Kd.M (Kd.int .i64) _ _ _ 10680707 [.int .i64 10680707] from rfl) (Reps.one (show Kd.M (Kd.int .i64) _ _ _ 5340354 [.int .i64 5340354] from rfl) (Reps.one (show Kd.M (Kd.int .i64) _ _ _ 2670177 [.int .i64 2670177] from rfl) (Reps.one (show Kd.M (Kd.int .i64) _ _ _ 1335088 [.int .i64 1335088] from rfl) (Reps.one (show Kd.M (Kd.int .i64) _ _ _ 667544 [.int .i64 667544] from rfl) (Reps.one (show Kd.M (Kd.int .i64) _ _ _ 333772 [.int .i64 333772] from rfl) (Reps.one (show Kd.M (Kd.int .i64) _ _ _ 166886 [.int .i64 166886] from rfl) (Reps.one (show Kd.M (Kd.int .i64) _ _ _ 83443 [.int .i64 83443] from rfl) (Reps.one (show Kd.M (Kd.int .i64) _ _ _ 41722 [.int .i64 41722] from rfl) (Reps.one (show Kd.M (Kd.int .i64) _ _ _ 20861 [.int .i64 20861] from rfl) (Reps.none _ _)))))))))))))))))))))))))))))))))); intro v128 w1 ho2 hb hg_ hnew_; clear hg_ hnew_; (first | rw [← Ny127.out] at ho2 | (simp only [Int.reduceToNat] at ho2; rw [← Ny127.out] at ho2)); have n0_ := Aside0.mk (Kd.R_lower ho2 (below_size (by repeat (first | (with_reducible first | exact HB.out | apply below_alloc | apply pw_below_drewN | apply below_drew1) | exact HB.out)))); have n1_ := Aside0.mk (below_step (by repeat (first | (with_reducible first | exact HB.out | apply below_alloc | apply pw_below_drewN | apply below_drew1) | exact HB.out)) hb); clear HB; have HO129 := n0_; have HB := n1_; clear n0_ n1_; clear hb ho2))
  go_ret
  exact ⟨_, by first | rfl | (simp [errW_none, errW_some] <;> rfl) | (simp [*, errW_none, errW_some] <;> rfl), by (with_reducible repeat (first | apply Kd.R_alloc | apply Kd.R_drewN | apply Kd.R_drew)); exact HO129.out, by repeat (first | (with_reducible first | exact HB.out | apply below_alloc | apply pw_below_drewN | apply below_drew1) | exact HB.out)⟩


/-! ### outriggerref05_steps: function 24 -/
def outriggerref05_steps.l0 : Nat → Int → Int → Int → List Int → Int → Option (Int × Int)
  | 0, _, _, _, _, _ => none
  | k + 1, x0, x4, x5, x6, x7 => if x7 < (x6.length : Int) then ((outriggerref05_halved.f k x5 x7).bind fun t133 => ((outriggerref05_halved.f k x4 x7).bind fun t134 => (if x0 ≥ 0 then (if 0 ≤ x7 then (outriggerref05_steps.l0 k (wrap64 (x0 - (rd x6 x7))) (wrap64 (x4 - t133)) (wrap64 (x5 + t134)) x6 (wrap64 (x7 + 1))) else (none)) else (if 0 ≤ x7 then (outriggerref05_steps.l0 k (wrap64 (x0 + (rd x6 x7))) (wrap64 (x4 + t133)) (wrap64 (x5 - t134)) x6 (wrap64 (x7 + 1))) else (none))))) else (some (x4, x5))
def outriggerref05_steps.f (k : Nat) (a0 : Int) : Option (Int × Int) := (outriggerref05_table.f).bind fun t130 => (outriggerref05_steps.l0 k a0 170926505739102 0 t130 0)
theorem outriggerref05_steps.mono_l : ∀ k, (∀ y0 y1 y2 y3 y4, LeO (outriggerref05_steps.l0 k y0 y1 y2 y3 y4) (outriggerref05_steps.l0 (k + 1) y0 y1 y2 y3 y4))
  | 0 => fun _ _ _ _ _ r h => by simp [outriggerref05_steps.l0] at h
  | k + 1 => by
    have ih0 := outriggerref05_steps.mono_l k
    · intro y0 y1 y2 y3 y4
      unfold outriggerref05_steps.l0
      repeat' first
      | (with_reducible exact ih0 _ _ _ _ _)
      | (with_reducible exact outriggerref05_halved.mono _ _ _)
      | (with_reducible exact LeO.refl _)
      | (with_reducible exact LeO.none _)
      | (with_reducible refine LeO.ite ?_ ?_)
      | (with_reducible refine LeO.bind ?_ (fun _ => ?_))
      | exact ih0 _ _ _ _ _
      | exact outriggerref05_halved.mono _ _ _
      | exact LeO.none _
      | refine LeO.ite ?_ ?_
      | refine LeO.bind ?_ (fun _ => ?_)
theorem outriggerref05_steps.mono : ∀ a0 k, LeO (outriggerref05_steps.f k a0) (outriggerref05_steps.f (k + 1) a0) := by
  intro a0 k
  have ih0 := outriggerref05_steps.mono_l k
  unfold outriggerref05_steps.f
  repeat' first
      | (with_reducible exact ih0 _ _ _ _ _)
      | (with_reducible exact outriggerref05_halved.mono _ _ _)
      | (with_reducible exact LeO.refl _)
      | (with_reducible exact LeO.none _)
      | (with_reducible refine LeO.ite ?_ ?_)
      | (with_reducible refine LeO.bind ?_ (fun _ => ?_))
      | exact ih0 _ _ _ _ _
      | exact outriggerref05_halved.mono _ _ _
      | exact LeO.none _
      | refine LeO.ite ?_ ?_
      | refine LeO.bind ?_ (fun _ => ?_)
set_option maxHeartbeats 8000000 in
set_option maxRecDepth 100000 in
theorem outriggerref05_steps.calls (k : Nat) (a0 : Int) (r1 : Int) (r2 : Int) (w : World) (h : outriggerref05_steps.f k a0 = some (r1, r2)) :
    Calls Tryd.prog 24 #[.int .i64 a0] w fun e w' => e = .returned (.tuple #[.int .i64 r1, .int .i64 r2]) ∧ Below w.heap.size w w' := by
  have HB := Aside0.mk (Below.refl w.heap.size w)
  have H : ((outriggerref05_table.f).bind fun t130 => (outriggerref05_steps.l0 k a0 170926505739102 0 t130 0)) = some (r1, r2) := h
  clear h
  replace H := Option.bind_eq_some_iff.mp H
  obtain ⟨t130, A20, H⟩ := H
  replace H : (outriggerref05_steps.l0 k a0 170926505739102 0 t130 0) = some (r1, r2) := H
  have A2 := Aside0.mk A20
  clear A20
  have H' := Aside0.mk H
  clear H
  go_enter Tryd.func24, Tryd.ntmps24
  go_wp2_with (first | ((with_reducible refine gate_callee (f := 33) rfl ?_); refine goesL_ (some 10) rfl rfl Tryd.func33 (by kernel_rfl) rfl #[] rfl (by (try simp only [List.map_toArray, List.map_cons, List.map_nil]); first | done | rfl | (simp only [List.length_drop, List.length_take]; rfl)) ?_; (with_reducible refine (outriggerref05_table.calls  t130 _ A2.out).mono ?_); rintro e w3 ⟨v131, rfl, ho0, hb⟩; refine ⟨_, rfl, ?_⟩; have n0_ := Aside0.mk (Kd.R_lower ho0 (below_size (by repeat (first | (with_reducible first | exact HB.out | apply below_alloc | apply pw_below_drewN | apply below_drew1) | exact HB.out)))); have n1_ := Aside0.mk (below_step (by repeat (first | (with_reducible first | exact HB.out | apply below_alloc | apply pw_below_drewN | apply below_drew1) | exact HB.out)) hb); clear HB; have HO132 := n0_; have HB := n1_; clear n0_ n1_; (try clear hb); (try clear hb2); (try clear hk); (try clear hi); (try clear ho0)))
  go_loopg [0, 4, 5, 7] k (fun kq v0 v4 v5 v7 w' => ∃ (x0_1 : Int) (x4_1 : Int) (x5_1 : Int) (x7_1 : Int), v0 = .int .i64 x0_1 ∧ v4 = .int .i64 x4_1 ∧ v5 = .int .i64 x5_1 ∧ v7 = .int .i64 x7_1 ∧ Aside0 (outriggerref05_steps.l0 kq x0_1 x4_1 x5_1 t130 x7_1 = some (r1, r2)) ∧ Aside0 (kq ≤ k) ∧ Aside0 (Kd.R (Kd.int .i64) 3 w' w.heap.size (fun _ => True) v131 t130) ∧ Aside0 (Below w.heap.size w w'))
  case atStart => exact ⟨(a0), (170926505739102), (0), (0), (by first | rfl | (simp; done) | (simp [*]; done)), (by first | rfl | (simp; done) | (simp [*]; done)), (by first | rfl | (simp; done) | (simp [*]; done)), (by first | rfl | (simp; done) | (simp [*]; done)), H', ⟨Nat.le_refl _⟩, ⟨by (with_reducible repeat (first | apply Kd.R_alloc | apply Kd.R_drewN | apply Kd.R_drew)); exact HO132.out⟩, ⟨by repeat (first | (with_reducible first | exact HB.out | apply below_alloc | apply pw_below_drewN | apply below_drew1) | exact HB.out)⟩⟩
  case round =>
    clear H'
    try clear c2
    try clear p2
    try clear c3
    obtain ⟨x0_1, x4_1, x5_1, x7_1, rfl, rfl, rfl, rfl, HA, HK1, HO_6, HB⟩ := hrel
    cases gk with
    | zero => exact absurd HA.out (by simp [outriggerref05_steps.l0])
    | succ k1 =>
      have H := HA.out
      clear HA
      simp only [outriggerref05_steps.l0] at H
      by_cases c4 : x7_1 < (t130.length : Int)
      · rw [if_pos c4] at H
        have c4b0 : decide (x7_1 < (t130.length : Int)) = true := decide_eq_true c4
        clear c4
        replace H := Option.bind_eq_some_iff.mp H
        obtain ⟨t133, A50, H⟩ := H
        replace H : ((outriggerref05_halved.f k1 x4_1 x7_1).bind fun t134 => (if x0_1 ≥ 0 then (if 0 ≤ x7_1 then (outriggerref05_steps.l0 k1 (wrap64 (x0_1 - (rd t130 x7_1))) (wrap64 (x4_1 - t133)) (wrap64 (x5_1 + t134)) t130 (wrap64 (x7_1 + 1))) else (none)) else (if 0 ≤ x7_1 then (outriggerref05_steps.l0 k1 (wrap64 (x0_1 + (rd t130 x7_1))) (wrap64 (x4_1 + t133)) (wrap64 (x5_1 - t134)) t130 (wrap64 (x7_1 + 1))) else (none)))) = some (r1, r2) := H
        have A5 := Aside0.mk A50
        clear A50
        replace H := Option.bind_eq_some_iff.mp H
        obtain ⟨t134, A60, H⟩ := H
        replace H : (if x0_1 ≥ 0 then (if 0 ≤ x7_1 then (outriggerref05_steps.l0 k1 (wrap64 (x0_1 - (rd t130 x7_1))) (wrap64 (x4_1 - t133)) (wrap64 (x5_1 + t134)) t130 (wrap64 (x7_1 + 1))) else (none)) else (if 0 ≤ x7_1 then (outriggerref05_steps.l0 k1 (wrap64 (x0_1 + (rd t130 x7_1))) (wrap64 (x4_1 + t133)) (wrap64 (x5_1 - t134)) t130 (wrap64 (x7_1 + 1))) else (none))) = some (r1, r2) := H
        have A6 := Aside0.mk A60
        clear A60
        by_cases c7 : x0_1 ≥ 0
        · rw [if_pos c7] at H
          have c7b0 : decide (0 ≤ x0_1) = true := decide_eq_true c7
          clear c7
          by_cases c8 : 0 ≤ x7_1
          · rw [if_pos c8] at H
            have c8b0 : decide (0 ≤ x7_1) = true := decide_eq_true c8
            clear c8
            have H' := Aside0.mk H
            clear H
            obtain ⟨Ao9, co9, eo9⟩ := Kd.R_slice HO_6.out
            subst eo9
            go_wp2_with (first | ((with_reducible refine gate_callee (f := 25) rfl ?_); refine goesL_ (some 19) rfl rfl Tryd.func25 (by kernel_rfl) rfl #[.int .i64 x5_1, .int .i64 x7_1] rfl (by (try simp only [List.map_toArray, List.map_cons, List.map_nil]); first | done | rfl | (simp only [List.length_drop, List.length_take]; rfl)) ?_; (with_reducible refine (outriggerref05_halved.calls k1 x5_1 x7_1 t133 _ A5.out).mono ?_); rintro e w' ⟨rfl, ⟨nd, rfl⟩⟩; refine ⟨_, rfl, ?_⟩) | ((with_reducible refine gate_callee (f := 25) rfl ?_); refine goesL_ (some 22) rfl rfl Tryd.func25 (by kernel_rfl) rfl #[.int .i64 x4_1, .int .i64 x7_1] rfl (by (try simp only [List.map_toArray, List.map_cons, List.map_nil]); first | done | rfl | (simp only [List.length_drop, List.length_take]; rfl)) ?_; (with_reducible refine (outriggerref05_halved.calls k1 x4_1 x7_1 t134 _ A6.out).mono ?_); rintro e w' ⟨rfl, ⟨nd, rfl⟩⟩; refine ⟨_, rfl, ?_⟩; have p135 : 0 ≤ (x7_1 : Int) := of_decide_eq_true (by first | (with_reducible assumption) | assumption); have q135 : x7_1 < (t130.length : Int) := of_decide_eq_true (by first | (with_reducible assumption) | assumption); obtain ⟨ad135, e135, hx135_0⟩ := Kd.at_int (Kd.R_reads' HO_6.out).2.2 x7_1 p135 q135; cases e135; replace p135 := eq_true p135; replace q135 := eq_true q135))
            go_roundg k1
            case measure => have := HK1.out; omega
            case rel => exact ⟨(wrap64 (x0_1 - (rd t130 x7_1))), (wrap64 (x4_1 - t133)), (wrap64 (x5_1 + t134)), (wrap64 (x7_1 + 1)), (by first | rfl | (simp; done) | (simp [*]; done)), (by first | rfl | (simp; done) | (simp [*]; done)), (by first | rfl | (simp; done) | (simp [*]; done)), (by first | rfl | (simp; done) | (simp [*]; done)), H', ⟨by have := HK1.out; omega⟩, ⟨by (with_reducible repeat (first | apply Kd.R_alloc | apply Kd.R_drewN | apply Kd.R_drew)); exact HO_6.out⟩, ⟨by repeat (first | (with_reducible first | exact HB.out | apply below_alloc | apply pw_below_drewN | apply below_drew1) | exact HB.out)⟩⟩
          · rw [if_neg c8] at H
            exact absurd H (by simp)
        · rw [if_neg c7] at H
          have c7b0 : decide (0 ≤ x0_1) = false := decide_eq_false c7
          clear c7
          by_cases c10 : 0 ≤ x7_1
          · rw [if_pos c10] at H
            have c10b0 : decide (0 ≤ x7_1) = true := decide_eq_true c10
            clear c10
            have H' := Aside0.mk H
            clear H
            obtain ⟨Ao11, co11, eo11⟩ := Kd.R_slice HO_6.out
            subst eo11
            go_wp2_with (first | ((with_reducible refine gate_callee (f := 25) rfl ?_); refine goesL_ (some 19) rfl rfl Tryd.func25 (by kernel_rfl) rfl #[.int .i64 x5_1, .int .i64 x7_1] rfl (by (try simp only [List.map_toArray, List.map_cons, List.map_nil]); first | done | rfl | (simp only [List.length_drop, List.length_take]; rfl)) ?_; (with_reducible refine (outriggerref05_halved.calls k1 x5_1 x7_1 t133 _ A5.out).mono ?_); rintro e w' ⟨rfl, ⟨nd, rfl⟩⟩; refine ⟨_, rfl, ?_⟩) | ((with_reducible refine gate_callee (f := 25) rfl ?_); refine goesL_ (some 22) rfl rfl Tryd.func25 (by kernel_rfl) rfl #[.int .i64 x4_1, .int .i64 x7_1] rfl (by (try simp only [List.map_toArray, List.map_cons, List.map_nil]); first | done | rfl | (simp only [List.length_drop, List.length_take]; rfl)) ?_; (with_reducible refine (outriggerref05_halved.calls k1 x4_1 x7_1 t134 _ A6.out).mono ?_); rintro e w' ⟨rfl, ⟨nd, rfl⟩⟩; refine ⟨_, rfl, ?_⟩; have p136 : 0 ≤ (x7_1 : Int) := of_decide_eq_true (by first | (with_reducible assumption) | assumption); have q136 : x7_1 < (t130.length : Int) := of_decide_eq_true (by first | (with_reducible assumption) | assumption); obtain ⟨ad136, e136, hx136_0⟩ := Kd.at_int (Kd.R_reads' HO_6.out).2.2 x7_1 p136 q136; cases e136; replace p136 := eq_true p136; replace q136 := eq_true q136))
            go_roundg k1
            case measure => have := HK1.out; omega
            case rel => exact ⟨(wrap64 (x0_1 + (rd t130 x7_1))), (wrap64 (x4_1 + t133)), (wrap64 (x5_1 - t134)), (wrap64 (x7_1 + 1)), (by first | rfl | (simp; done) | (simp [*]; done)), (by first | rfl | (simp; done) | (simp [*]; done)), (by first | rfl | (simp; done) | (simp [*]; done)), (by first | rfl | (simp; done) | (simp [*]; done)), H', ⟨by have := HK1.out; omega⟩, ⟨by (with_reducible repeat (first | apply Kd.R_alloc | apply Kd.R_drewN | apply Kd.R_drew)); exact HO_6.out⟩, ⟨by repeat (first | (with_reducible first | exact HB.out | apply below_alloc | apply pw_below_drewN | apply below_drew1) | exact HB.out)⟩⟩
          · rw [if_neg c10] at H
            exact absurd H (by simp)
      · rw [if_neg c4] at H
        have c4b0 : decide (x7_1 < (t130.length : Int)) = false := decide_eq_false c4
        clear c4
        simp only [Option.some.injEq, Prod.mk.injEq] at H
        obtain ⟨rfl, rfl⟩ := H
        obtain ⟨Ao12, co12, eo12⟩ := Kd.R_slice HO_6.out
        subst eo12
        go_wp2
        go_ret2
        exact ⟨by first | rfl | (simp [errW_none, errW_some] <;> rfl) | (simp [*, errW_none, errW_some] <;> rfl), by repeat (first | (with_reducible first | exact HB.out | apply below_alloc | apply pw_below_drewN | apply below_drew1) | exact HB.out)⟩


/-! ### outriggerref05_Both: function 12 -/
def outriggerref05_Both.f (k : Nat) (a0 : Int) : Option (Int × Int) := (outriggerref05_Angle.f a0).bind fun t137 => ((outriggerref05_steps.f k (wrap64 ((wrap64 (t137 - (wrap64 ((wrap64 (Int.tdiv (wrap64 (t137 + 536870912)) 1073741824)) * 1073741824)))) * 65536))).bind fun bt138 => ((outriggerref05_halved.f k (wrap64 (bt138.1 + 32768)) 16).bind fun t140 => ((outriggerref05_halved.f k (wrap64 (bt138.2 + 32768)) 16).bind fun t141 => (if (wrap64 (Int.tdiv (wrap64 (t137 + 536870912)) 1073741824)) = 1 then (some (t140, wrap64 (-t141))) else (if (wrap64 (Int.tdiv (wrap64 (t137 + 536870912)) 1073741824)) = 2 then (some (wrap64 (-t141), wrap64 (-t140))) else (if (wrap64 (Int.tdiv (wrap64 (t137 + 536870912)) 1073741824)) = 3 then (some (wrap64 (-t140), t141)) else (some (t141, t140))))))))
theorem outriggerref05_Both.mono : ∀ a0 k, LeO (outriggerref05_Both.f k a0) (outriggerref05_Both.f (k + 1) a0) := by
  intro a0 k
  unfold outriggerref05_Both.f
  repeat' first
      | (with_reducible exact outriggerref05_halved.mono _ _ _)
      | (with_reducible exact outriggerref05_steps.mono _ _)
      | (with_reducible exact LeO.refl _)
      | (with_reducible exact LeO.none _)
      | (with_reducible refine LeO.ite ?_ ?_)
      | (with_reducible refine LeO.bind ?_ (fun _ => ?_))
      | exact outriggerref05_halved.mono _ _ _
      | exact outriggerref05_steps.mono _ _
      | exact LeO.none _
      | refine LeO.ite ?_ ?_
      | refine LeO.bind ?_ (fun _ => ?_)
set_option maxHeartbeats 8000000 in
set_option maxRecDepth 100000 in
theorem outriggerref05_Both.calls (k : Nat) (a0 : Int) (r1 : Int) (r2 : Int) (w : World) (h : outriggerref05_Both.f k a0 = some (r1, r2)) :
    Calls Tryd.prog 12 #[.int .i64 a0] w fun e w' => e = .returned (.tuple #[.int .i64 r1, .int .i64 r2]) ∧ Below w.heap.size w w' := by
  have HB := Aside0.mk (Below.refl w.heap.size w)
  have H : ((outriggerref05_Angle.f a0).bind fun t137 => ((outriggerref05_steps.f k (wrap64 ((wrap64 (t137 - (wrap64 ((wrap64 (Int.tdiv (wrap64 (t137 + 536870912)) 1073741824)) * 1073741824)))) * 65536))).bind fun bt138 => ((outriggerref05_halved.f k (wrap64 (bt138.1 + 32768)) 16).bind fun t140 => ((outriggerref05_halved.f k (wrap64 (bt138.2 + 32768)) 16).bind fun t141 => (if (wrap64 (Int.tdiv (wrap64 (t137 + 536870912)) 1073741824)) = 1 then (some (t140, wrap64 (-t141))) else (if (wrap64 (Int.tdiv (wrap64 (t137 + 536870912)) 1073741824)) = 2 then (some (wrap64 (-t141), wrap64 (-t140))) else (if (wrap64 (Int.tdiv (wrap64 (t137 + 536870912)) 1073741824)) = 3 then (some (wrap64 (-t140), t141)) else (some (t141, t140))))))))) = some (r1, r2) := h
  clear h
  replace H := Option.bind_eq_some_iff.mp H
  obtain ⟨t137, A20, H⟩ := H
  replace H : ((outriggerref05_steps.f k (wrap64 ((wrap64 (t137 - (wrap64 ((wrap64 (Int.tdiv (wrap64 (t137 + 536870912)) 1073741824)) * 1073741824)))) * 65536))).bind fun bt138 => ((outriggerref05_halved.f k (wrap64 (bt138.1 + 32768)) 16).bind fun t140 => ((outriggerref05_halved.f k (wrap64 (bt138.2 + 32768)) 16).bind fun t141 => (if (wrap64 (Int.tdiv (wrap64 (t137 + 536870912)) 1073741824)) = 1 then (some (t140, wrap64 (-t141))) else (if (wrap64 (Int.tdiv (wrap64 (t137 + 536870912)) 1073741824)) = 2 then (some (wrap64 (-t141), wrap64 (-t140))) else (if (wrap64 (Int.tdiv (wrap64 (t137 + 536870912)) 1073741824)) = 3 then (some (wrap64 (-t140), t141)) else (some (t141, t140)))))))) = some (r1, r2) := H
  have A2 := Aside0.mk A20
  clear A20
  replace H := Option.bind_eq_some_iff.mp H
  obtain ⟨⟨t138, t139⟩, A30, H⟩ := H
  replace H : ((outriggerref05_halved.f k (wrap64 (t138 + 32768)) 16).bind fun t140 => ((outriggerref05_halved.f k (wrap64 (t139 + 32768)) 16).bind fun t141 => (if (wrap64 (Int.tdiv (wrap64 (t137 + 536870912)) 1073741824)) = 1 then (some (t140, wrap64 (-t141))) else (if (wrap64 (Int.tdiv (wrap64 (t137 + 536870912)) 1073741824)) = 2 then (some (wrap64 (-t141), wrap64 (-t140))) else (if (wrap64 (Int.tdiv (wrap64 (t137 + 536870912)) 1073741824)) = 3 then (some (wrap64 (-t140), t141)) else (some (t141, t140))))))) = some (r1, r2) := H
  have A3 := Aside0.mk A30
  clear A30
  replace H := Option.bind_eq_some_iff.mp H
  obtain ⟨t140, A40, H⟩ := H
  replace H : ((outriggerref05_halved.f k (wrap64 (t139 + 32768)) 16).bind fun t141 => (if (wrap64 (Int.tdiv (wrap64 (t137 + 536870912)) 1073741824)) = 1 then (some (t140, wrap64 (-t141))) else (if (wrap64 (Int.tdiv (wrap64 (t137 + 536870912)) 1073741824)) = 2 then (some (wrap64 (-t141), wrap64 (-t140))) else (if (wrap64 (Int.tdiv (wrap64 (t137 + 536870912)) 1073741824)) = 3 then (some (wrap64 (-t140), t141)) else (some (t141, t140)))))) = some (r1, r2) := H
  have A4 := Aside0.mk A40
  clear A40
  replace H := Option.bind_eq_some_iff.mp H
  obtain ⟨t141, A50, H⟩ := H
  replace H : (if (wrap64 (Int.tdiv (wrap64 (t137 + 536870912)) 1073741824)) = 1 then (some (t140, wrap64 (-t141))) else (if (wrap64 (Int.tdiv (wrap64 (t137 + 536870912)) 1073741824)) = 2 then (some (wrap64 (-t141), wrap64 (-t140))) else (if (wrap64 (Int.tdiv (wrap64 (t137 + 536870912)) 1073741824)) = 3 then (some (wrap64 (-t140), t141)) else (some (t141, t140))))) = some (r1, r2) := H
  have A5 := Aside0.mk A50
  clear A50
  by_cases c6 : (wrap64 (Int.tdiv (wrap64 (t137 + 536870912)) 1073741824)) = 1
  · rw [if_pos c6] at H
    have c6b0 : ((wrap64 (Int.tdiv (wrap64 (t137 + 536870912)) 1073741824)) == 1) = true := beq_iff_eq.mpr c6
    have c6b1 : ((wrap64 (Int.tdiv (wrap64 (t137 + 536870912)) 1073741824)) != 1) = false := bne_eq_false_iff_eq.mpr c6
    clear c6
    simp only [Option.some.injEq, Prod.mk.injEq] at H
    obtain ⟨rfl, rfl⟩ := H
    go_enter Tryd.func12, Tryd.ntmps12
    go_wp2_with (first | ((with_reducible refine gate_callee (f := 14) rfl ?_); refine goesL_ (some 11) rfl rfl Tryd.func14 (by kernel_rfl) rfl #[.int .i64 a0] rfl (by (try simp only [List.map_toArray, List.map_cons, List.map_nil]); first | done | rfl | (simp only [List.length_drop, List.length_take]; rfl)) ?_; (with_reducible refine (outriggerref05_Angle.calls a0 t137 _ A2.out).mono ?_); rintro e w' ⟨rfl, ⟨nd, rfl⟩⟩; refine ⟨_, rfl, ?_⟩) | ((with_reducible refine gate_callee (f := 24) rfl ?_); refine goesL_ (some 21) rfl rfl Tryd.func24 (by kernel_rfl) rfl #[.int .i64 (wrap64 ((wrap64 (t137 - (wrap64 ((wrap64 (Int.tdiv (wrap64 (t137 + 536870912)) 1073741824)) * 1073741824)))) * 65536))] rfl (by (try simp only [List.map_toArray, List.map_cons, List.map_nil]); first | done | rfl | (simp only [List.length_drop, List.length_take]; rfl)) ?_; (with_reducible refine (outriggerref05_steps.calls k (wrap64 ((wrap64 (t137 - (wrap64 ((wrap64 (Int.tdiv (wrap64 (t137 + 536870912)) 1073741824)) * 1073741824)))) * 65536)) t138 t139 _ A3.out).mono ?_); rintro e w7 ⟨rfl, hb⟩; refine ⟨_, rfl, ?_⟩; have n0_ := Aside0.mk (below_step (by repeat (first | (with_reducible first | exact HB.out | apply below_alloc | apply pw_below_drewN | apply below_drew1) | exact HB.out)) hb); clear HB; have HB := n0_; clear n0_; (try clear hb); (try clear hb2); (try clear hk); (try clear hi)) | ((with_reducible refine gate_callee (f := 25) rfl ?_); refine goesL_ (some 26) rfl rfl Tryd.func25 (by kernel_rfl) rfl #[.int .i64 (wrap64 (t138 + 32768)), .int .i64 16] rfl (by (try simp only [List.map_toArray, List.map_cons, List.map_nil]); first | done | rfl | (simp only [List.length_drop, List.length_take]; rfl)) ?_; (with_reducible refine (outriggerref05_halved.calls k (wrap64 (t138 + 32768)) 16 t140 _ A4.out).mono ?_); rintro e w' ⟨rfl, ⟨nd, rfl⟩⟩; refine ⟨_, rfl, ?_⟩) | ((with_reducible refine gate_callee (f := 25) rfl ?_); refine goesL_ (some 29) rfl rfl Tryd.func25 (by kernel_rfl) rfl #[.int .i64 (wrap64 (t139 + 32768)), .int .i64 16] rfl (by (try simp only [List.map_toArray, List.map_cons, List.map_nil]); first | done | rfl | (simp only [List.length_drop, List.length_take]; rfl)) ?_; (with_reducible refine (outriggerref05_halved.calls k (wrap64 (t139 + 32768)) 16 t141 _ A5.out).mono ?_); rintro e w' ⟨rfl, ⟨nd, rfl⟩⟩; refine ⟨_, rfl, ?_⟩))
    go_ret2
    exact ⟨by first | rfl | (simp [errW_none, errW_some] <;> rfl) | (simp [*, errW_none, errW_some] <;> rfl), by repeat (first | (with_reducible first | exact HB.out | apply below_alloc | apply pw_below_drewN | apply below_drew1) | exact HB.out)⟩
  · rw [if_neg c6] at H
    have c6b0 : ((wrap64 (Int.tdiv (wrap64 (t137 + 536870912)) 1073741824)) == 1) = false := beq_eq_false_iff_ne.mpr c6
    have c6b1 : ((wrap64 (Int.tdiv (wrap64 (t137 + 536870912)) 1073741824)) != 1) = true := bne_iff_ne.mpr c6
    by_cases c8 : (wrap64 (Int.tdiv (wrap64 (t137 + 536870912)) 1073741824)) = 2
    · rw [if_pos c8] at H
      have c8b0 : ((wrap64 (Int.tdiv (wrap64 (t137 + 536870912)) 1073741824)) == 2) = true := beq_iff_eq.mpr c8
      have c8b1 : ((wrap64 (Int.tdiv (wrap64 (t137 + 536870912)) 1073741824)) != 2) = false := bne_eq_false_iff_eq.mpr c8
      clear c8
      simp only [Option.some.injEq, Prod.mk.injEq] at H
      obtain ⟨rfl, rfl⟩ := H
      go_enter Tryd.func12, Tryd.ntmps12
      go_wp2_with (first | ((with_reducible refine gate_callee (f := 14) rfl ?_); refine goesL_ (some 11) rfl rfl Tryd.func14 (by kernel_rfl) rfl #[.int .i64 a0] rfl (by (try simp only [List.map_toArray, List.map_cons, List.map_nil]); first | done | rfl | (simp only [List.length_drop, List.length_take]; rfl)) ?_; (with_reducible refine (outriggerref05_Angle.calls a0 t137 _ A2.out).mono ?_); rintro e w' ⟨rfl, ⟨nd, rfl⟩⟩; refine ⟨_, rfl, ?_⟩) | ((with_reducible refine gate_callee (f := 24) rfl ?_); refine goesL_ (some 21) rfl rfl Tryd.func24 (by kernel_rfl) rfl #[.int .i64 (wrap64 ((wrap64 (t137 - (wrap64 ((wrap64 (Int.tdiv (wrap64 (t137 + 536870912)) 1073741824)) * 1073741824)))) * 65536))] rfl (by (try simp only [List.map_toArray, List.map_cons, List.map_nil]); first | done | rfl | (simp only [List.length_drop, List.length_take]; rfl)) ?_; (with_reducible refine (outriggerref05_steps.calls k (wrap64 ((wrap64 (t137 - (wrap64 ((wrap64 (Int.tdiv (wrap64 (t137 + 536870912)) 1073741824)) * 1073741824)))) * 65536)) t138 t139 _ A3.out).mono ?_); rintro e w9 ⟨rfl, hb⟩; refine ⟨_, rfl, ?_⟩; have n0_ := Aside0.mk (below_step (by repeat (first | (with_reducible first | exact HB.out | apply below_alloc | apply pw_below_drewN | apply below_drew1) | exact HB.out)) hb); clear HB; have HB := n0_; clear n0_; (try clear hb); (try clear hb2); (try clear hk); (try clear hi)) | ((with_reducible refine gate_callee (f := 25) rfl ?_); refine goesL_ (some 26) rfl rfl Tryd.func25 (by kernel_rfl) rfl #[.int .i64 (wrap64 (t138 + 32768)), .int .i64 16] rfl (by (try simp only [List.map_toArray, List.map_cons, List.map_nil]); first | done | rfl | (simp only [List.length_drop, List.length_take]; rfl)) ?_; (with_reducible refine (outriggerref05_halved.calls k (wrap64 (t138 + 32768)) 16 t140 _ A4.out).mono ?_); rintro e w' ⟨rfl, ⟨nd, rfl⟩⟩; refine ⟨_, rfl, ?_⟩) | ((with_reducible refine gate_callee (f := 25) rfl ?_); refine goesL_ (some 29) rfl rfl Tryd.func25 (by kernel_rfl) rfl #[.int .i64 (wrap64 (t139 + 32768)), .int .i64 16] rfl (by (try simp only [List.map_toArray, List.map_cons, List.map_nil]); first | done | rfl | (simp only [List.length_drop, List.length_take]; rfl)) ?_; (with_reducible refine (outriggerref05_halved.calls k (wrap64 (t139 + 32768)) 16 t141 _ A5.out).mono ?_); rintro e w' ⟨rfl, ⟨nd, rfl⟩⟩; refine ⟨_, rfl, ?_⟩))
      go_ret2
      exact ⟨by first | rfl | (simp [errW_none, errW_some] <;> rfl) | (simp [*, errW_none, errW_some] <;> rfl), by repeat (first | (with_reducible first | exact HB.out | apply below_alloc | apply pw_below_drewN | apply below_drew1) | exact HB.out)⟩
    · rw [if_neg c8] at H
      have c8b0 : ((wrap64 (Int.tdiv (wrap64 (t137 + 536870912)) 1073741824)) == 2) = false := beq_eq_false_iff_ne.mpr c8
      have c8b1 : ((wrap64 (Int.tdiv (wrap64 (t137 + 536870912)) 1073741824)) != 2) = true := bne_iff_ne.mpr c8
      by_cases c10 : (wrap64 (Int.tdiv (wrap64 (t137 + 536870912)) 1073741824)) = 3
      · rw [if_pos c10] at H
        have c10b0 : ((wrap64 (Int.tdiv (wrap64 (t137 + 536870912)) 1073741824)) == 3) = true := beq_iff_eq.mpr c10
        have c10b1 : ((wrap64 (Int.tdiv (wrap64 (t137 + 536870912)) 1073741824)) != 3) = false := bne_eq_false_iff_eq.mpr c10
        clear c10
        simp only [Option.some.injEq, Prod.mk.injEq] at H
        obtain ⟨rfl, rfl⟩ := H
        go_enter Tryd.func12, Tryd.ntmps12
        go_wp2_with (first | ((with_reducible refine gate_callee (f := 14) rfl ?_); refine goesL_ (some 11) rfl rfl Tryd.func14 (by kernel_rfl) rfl #[.int .i64 a0] rfl (by (try simp only [List.map_toArray, List.map_cons, List.map_nil]); first | done | rfl | (simp only [List.length_drop, List.length_take]; rfl)) ?_; (with_reducible refine (outriggerref05_Angle.calls a0 t137 _ A2.out).mono ?_); rintro e w' ⟨rfl, ⟨nd, rfl⟩⟩; refine ⟨_, rfl, ?_⟩) | ((with_reducible refine gate_callee (f := 24) rfl ?_); refine goesL_ (some 21) rfl rfl Tryd.func24 (by kernel_rfl) rfl #[.int .i64 (wrap64 ((wrap64 (t137 - (wrap64 ((wrap64 (Int.tdiv (wrap64 (t137 + 536870912)) 1073741824)) * 1073741824)))) * 65536))] rfl (by (try simp only [List.map_toArray, List.map_cons, List.map_nil]); first | done | rfl | (simp only [List.length_drop, List.length_take]; rfl)) ?_; (with_reducible refine (outriggerref05_steps.calls k (wrap64 ((wrap64 (t137 - (wrap64 ((wrap64 (Int.tdiv (wrap64 (t137 + 536870912)) 1073741824)) * 1073741824)))) * 65536)) t138 t139 _ A3.out).mono ?_); rintro e w11 ⟨rfl, hb⟩; refine ⟨_, rfl, ?_⟩; have n0_ := Aside0.mk (below_step (by repeat (first | (with_reducible first | exact HB.out | apply below_alloc | apply pw_below_drewN | apply below_drew1) | exact HB.out)) hb); clear HB; have HB := n0_; clear n0_; (try clear hb); (try clear hb2); (try clear hk); (try clear hi)) | ((with_reducible refine gate_callee (f := 25) rfl ?_); refine goesL_ (some 26) rfl rfl Tryd.func25 (by kernel_rfl) rfl #[.int .i64 (wrap64 (t138 + 32768)), .int .i64 16] rfl (by (try simp only [List.map_toArray, List.map_cons, List.map_nil]); first | done | rfl | (simp only [List.length_drop, List.length_take]; rfl)) ?_; (with_reducible refine (outriggerref05_halved.calls k (wrap64 (t138 + 32768)) 16 t140 _ A4.out).mono ?_); rintro e w' ⟨rfl, ⟨nd, rfl⟩⟩; refine ⟨_, rfl, ?_⟩) | ((with_reducible refine gate_callee (f := 25) rfl ?_); refine goesL_ (some 29) rfl rfl Tryd.func25 (by kernel_rfl) rfl #[.int .i64 (wrap64 (t139 + 32768)), .int .i64 16] rfl (by (try simp only [List.map_toArray, List.map_cons, List.map_nil]); first | done | rfl | (simp only [List.length_drop, List.length_take]; rfl)) ?_; (with_reducible refine (outriggerref05_halved.calls k (wrap64 (t139 + 32768)) 16 t141 _ A5.out).mono ?_); rintro e w' ⟨rfl, ⟨nd, rfl⟩⟩; refine ⟨_, rfl, ?_⟩))
        go_ret2
        exact ⟨by first | rfl | (simp [errW_none, errW_some] <;> rfl) | (simp [*, errW_none, errW_some] <;> rfl), by repeat (first | (with_reducible first | exact HB.out | apply below_alloc | apply pw_below_drewN | apply below_drew1) | exact HB.out)⟩
      · rw [if_neg c10] at H
        have c10b0 : ((wrap64 (Int.tdiv (wrap64 (t137 + 536870912)) 1073741824)) == 3) = false := beq_eq_false_iff_ne.mpr c10
        have c10b1 : ((wrap64 (Int.tdiv (wrap64 (t137 + 536870912)) 1073741824)) != 3) = true := bne_iff_ne.mpr c10
        simp only [Option.some.injEq, Prod.mk.injEq] at H
        obtain ⟨rfl, rfl⟩ := H
        go_enter Tryd.func12, Tryd.ntmps12
        go_wp2_with (first | ((with_reducible refine gate_callee (f := 14) rfl ?_); refine goesL_ (some 11) rfl rfl Tryd.func14 (by kernel_rfl) rfl #[.int .i64 a0] rfl (by (try simp only [List.map_toArray, List.map_cons, List.map_nil]); first | done | rfl | (simp only [List.length_drop, List.length_take]; rfl)) ?_; (with_reducible refine (outriggerref05_Angle.calls a0 t137 _ A2.out).mono ?_); rintro e w' ⟨rfl, ⟨nd, rfl⟩⟩; refine ⟨_, rfl, ?_⟩) | ((with_reducible refine gate_callee (f := 24) rfl ?_); refine goesL_ (some 21) rfl rfl Tryd.func24 (by kernel_rfl) rfl #[.int .i64 (wrap64 ((wrap64 (t137 - (wrap64 ((wrap64 (Int.tdiv (wrap64 (t137 + 536870912)) 1073741824)) * 1073741824)))) * 65536))] rfl (by (try simp only [List.map_toArray, List.map_cons, List.map_nil]); first | done | rfl | (simp only [List.length_drop, List.length_take]; rfl)) ?_; (with_reducible refine (outriggerref05_steps.calls k (wrap64 ((wrap64 (t137 - (wrap64 ((wrap64 (Int.tdiv (wrap64 (t137 + 536870912)) 1073741824)) * 1073741824)))) * 65536)) t138 t139 _ A3.out).mono ?_); rintro e w12 ⟨rfl, hb⟩; refine ⟨_, rfl, ?_⟩; have n0_ := Aside0.mk (below_step (by repeat (first | (with_reducible first | exact HB.out | apply below_alloc | apply pw_below_drewN | apply below_drew1) | exact HB.out)) hb); clear HB; have HB := n0_; clear n0_; (try clear hb); (try clear hb2); (try clear hk); (try clear hi)) | ((with_reducible refine gate_callee (f := 25) rfl ?_); refine goesL_ (some 26) rfl rfl Tryd.func25 (by kernel_rfl) rfl #[.int .i64 (wrap64 (t138 + 32768)), .int .i64 16] rfl (by (try simp only [List.map_toArray, List.map_cons, List.map_nil]); first | done | rfl | (simp only [List.length_drop, List.length_take]; rfl)) ?_; (with_reducible refine (outriggerref05_halved.calls k (wrap64 (t138 + 32768)) 16 t140 _ A4.out).mono ?_); rintro e w' ⟨rfl, ⟨nd, rfl⟩⟩; refine ⟨_, rfl, ?_⟩) | ((with_reducible refine gate_callee (f := 25) rfl ?_); refine goesL_ (some 29) rfl rfl Tryd.func25 (by kernel_rfl) rfl #[.int .i64 (wrap64 (t139 + 32768)), .int .i64 16] rfl (by (try simp only [List.map_toArray, List.map_cons, List.map_nil]); first | done | rfl | (simp only [List.length_drop, List.length_take]; rfl)) ?_; (with_reducible refine (outriggerref05_halved.calls k (wrap64 (t139 + 32768)) 16 t141 _ A5.out).mono ?_); rintro e w' ⟨rfl, ⟨nd, rfl⟩⟩; refine ⟨_, rfl, ?_⟩))
        go_ret2
        exact ⟨by first | rfl | (simp [errW_none, errW_some] <;> rfl) | (simp [*, errW_none, errW_some] <;> rfl), by repeat (first | (with_reducible first | exact HB.out | apply below_alloc | apply pw_below_drewN | apply below_drew1) | exact HB.out)⟩


/-! ### outriggerref01_Clamp: function 38 -/
def outriggerref01_Clamp.f (a0 : Int) : Option (Int × Bool) := if a0 > 288230376151711744 then (some (288230376151711744, true)) else (if a0 < (-288230376151711744) then (some ((-288230376151711744), true)) else (some (a0, false)))
set_option maxHeartbeats 8000000 in
set_option maxRecDepth 100000 in
theorem outriggerref01_Clamp.calls (a0 : Int) (r1 : Int) (r2 : Bool) (w : World) (h : outriggerref01_Clamp.f a0 = some (r1, r2)) :
    Calls Tryd.prog 38 #[.int .i64 a0] w fun e w' => e = .returned (.tuple #[.int .i64 r1, .bool r2]) ∧ Drawn0 w w' := by
  have H : (if a0 > 288230376151711744 then (some (288230376151711744, true)) else (if a0 < (-288230376151711744) then (some ((-288230376151711744), true)) else (some (a0, false)))) = some (r1, r2) := h
  clear h
  by_cases c2 : a0 > 288230376151711744
  · rw [if_pos c2] at H
    have c2b0 : decide (288230376151711744 < a0) = true := decide_eq_true c2
    clear c2
    simp only [Option.some.injEq, Prod.mk.injEq] at H
    obtain ⟨rfl, rfl⟩ := H
    go_enter Tryd.func38, Tryd.ntmps38
    go_wp2
    go_ret2
    exact ⟨by first | rfl | (simp; done) | (simp [*]; done), by repeat (first | exact Drawn0.refl _ | apply Drawn0.step)⟩
  · rw [if_neg c2] at H
    have c2b0 : decide (288230376151711744 < a0) = false := decide_eq_false c2
    clear c2
    by_cases c3 : a0 < (-288230376151711744)
    · rw [if_pos c3] at H
      have c3b0 : decide (a0 < (-288230376151711744)) = true := decide_eq_true c3
      clear c3
      simp only [Option.some.injEq, Prod.mk.injEq] at H
      obtain ⟨rfl, rfl⟩ := H
      go_enter Tryd.func38, Tryd.ntmps38
      go_wp2
      go_ret2
      exact ⟨by first | rfl | (simp; done) | (simp [*]; done), by repeat (first | exact Drawn0.refl _ | apply Drawn0.step)⟩
    · rw [if_neg c3] at H
      have c3b0 : decide (a0 < (-288230376151711744)) = false := decide_eq_false c3
      clear c3
      simp only [Option.some.injEq, Prod.mk.injEq] at H
      obtain ⟨rfl, rfl⟩ := H
      go_enter Tryd.func38, Tryd.ntmps38
      go_wp2
      go_ret2
      exact ⟨by first | rfl | (simp; done) | (simp [*]; done), by repeat (first | exact Drawn0.refl _ | apply Drawn0.step)⟩


/-! ### outriggerref01_As: function 35 -/
def outriggerref01_As.f (a0 : Int) : Option (Int) := (outriggerref01_Clamp.f a0).bind fun bt142 => (some bt142.1)
set_option maxHeartbeats 8000000 in
set_option maxRecDepth 100000 in
theorem outriggerref01_As.calls (a0 : Int) (r : Int) (w : World) (h : outriggerref01_As.f a0 = some r) :
    Calls Tryd.prog 35 #[.int .i64 a0] w fun e w' => e = .returned (.int .i64 r) ∧ Drawn0 w w' := by
  have H : ((outriggerref01_Clamp.f a0).bind fun bt142 => (some bt142.1)) = some r := h
  clear h
  replace H := Option.bind_eq_some_iff.mp H
  obtain ⟨⟨t142, t143⟩, A20, H⟩ := H
  replace H : (some t142) = some r := H
  have A2 := Aside0.mk A20
  clear A20
  obtain rfl := Option.some.inj H
  go_enter Tryd.func35, Tryd.ntmps35
  go_wp2_with (first | ((with_reducible refine gate_callee (f := 38) rfl ?_); refine goesL_ (some 7) rfl rfl Tryd.func38 (by kernel_rfl) rfl #[.int .i64 a0] rfl (by (try simp only [List.map_toArray, List.map_cons, List.map_nil]); first | done | rfl | (simp only [List.length_drop, List.length_take]; rfl)) ?_; (with_reducible refine (outriggerref01_Clamp.calls a0 t142 t143 _ A2.out).mono ?_); rintro e w' ⟨rfl, ⟨nd, rfl⟩⟩; refine ⟨_, rfl, ?_⟩))
  go_ret
  exact ⟨by first | rfl | (simp; done) | (simp [*]; done), by repeat (first | exact Drawn0.refl _ | apply Drawn0.step)⟩


/-! ### outriggerref01_Abs: function 27 -/
def outriggerref01_Abs.f (a0 : Int) : Option (Int) := (outriggerref01_As.f a0).bind fun t144 => ((outriggerref01_As.f a0).bind fun t145 => (some (mx t144 (wrap64 (-t145)))))
set_option maxHeartbeats 8000000 in
set_option maxRecDepth 100000 in
theorem outriggerref01_Abs.calls (a0 : Int) (r : Int) (w : World) (h : outriggerref01_Abs.f a0 = some r) :
    Calls Tryd.prog 27 #[.int .i64 a0] w fun e w' => e = .returned (.int .i64 r) ∧ Below w.heap.size w w' := by
  have HB := Aside0.mk (Below.refl w.heap.size w)
  have H : ((outriggerref01_As.f a0).bind fun t144 => ((outriggerref01_As.f a0).bind fun t145 => (some (mx t144 (wrap64 (-t145)))))) = some r := h
  clear h
  replace H := Option.bind_eq_some_iff.mp H
  obtain ⟨t144, A20, H⟩ := H
  replace H : ((outriggerref01_As.f a0).bind fun t145 => (some (mx t144 (wrap64 (-t145))))) = some r := H
  have A2 := Aside0.mk A20
  clear A20
  replace H := Option.bind_eq_some_iff.mp H
  obtain ⟨t145, A30, H⟩ := H
  replace H : (some (mx t144 (wrap64 (-t145)))) = some r := H
  have A3 := Aside0.mk A30
  clear A30
  obtain ⟨ji4, hji4⟩ : ∃ j_ : Int, (mx t144 (wrap64 (-t145))) = j_ := ⟨_, rfl⟩
  replace H : (some ji4) = some r := by first | (rw [hji4] at H; exact H) | (simp only [hji4] at H ⊢; exact H)
  (try rw [hji4] at A2)
  (try rw [hji4] at A3)
  have hji4_ : (if t144 < (wrap64 (-t145)) then (wrap64 (-t145)) else t144) = ji4 := hji4
  obtain rfl := Option.some.inj H
  go_enter Tryd.func27, Tryd.ntmps27
  go_wp2_with (first | ((with_reducible refine gate_callee (f := 35) rfl ?_); refine goesL_ (some 4) rfl rfl Tryd.func35 (by kernel_rfl) rfl #[.int .i64 a0] rfl (by (try simp only [List.map_toArray, List.map_cons, List.map_nil]); first | done | rfl | (simp only [List.length_drop, List.length_take]; rfl)) ?_; (with_reducible refine (outriggerref01_As.calls a0 t144 _ A2.out).mono ?_); rintro e w' ⟨rfl, ⟨nd, rfl⟩⟩; refine ⟨_, rfl, ?_⟩) | ((with_reducible refine gate_callee (f := 35) rfl ?_); refine goesL_ (some 6) rfl rfl Tryd.func35 (by kernel_rfl) rfl #[.int .i64 a0] rfl (by (try simp only [List.map_toArray, List.map_cons, List.map_nil]); first | done | rfl | (simp only [List.length_drop, List.length_take]; rfl)) ?_; (with_reducible refine (outriggerref01_As.calls a0 t145 _ A3.out).mono ?_); rintro e w' ⟨rfl, ⟨nd, rfl⟩⟩; refine ⟨_, rfl, ?_⟩))
  go_ret
  exact ⟨by first | rfl | (simp [errW_none, errW_some] <;> rfl) | (simp only [← hji4]; first | rfl | (simp [errW_none, errW_some] <;> rfl)) | (simp [*, errW_none, errW_some] <;> rfl), by repeat (first | (with_reducible first | exact HB.out | apply below_alloc | apply pw_below_drewN | apply below_drew1) | exact HB.out)⟩


/-! ### outriggerref05_back: function 28 -/
def outriggerref05_back.l0 : Nat → Int → Int → Int → List Int → Int → Option (Int)
  | 0, _, _, _, _, _ => none
  | k + 1, x0, x1, x5, x6, x7 => if x7 < (x6.length : Int) then ((outriggerref05_halved.f k x1 x7).bind fun t149 => ((outriggerref05_halved.f k x0 x7).bind fun t150 => (if x1 > 0 then (if 0 ≤ x7 then (outriggerref05_back.l0 k (wrap64 (x0 + t149)) (wrap64 (x1 - t150)) (wrap64 (x5 + (rd x6 x7))) x6 (wrap64 (x7 + 1))) else (none)) else (if 0 ≤ x7 then (outriggerref05_back.l0 k (wrap64 (x0 - t149)) (wrap64 (x1 + t150)) (wrap64 (x5 - (rd x6 x7))) x6 (wrap64 (x7 + 1))) else (none))))) else (some x5)
def outriggerref05_back.f (k : Nat) (a0 : Int) (a1 : Int) : Option (Int) := (outriggerref05_table.f).bind fun t146 => (outriggerref05_back.l0 k a0 a1 0 t146 0)
theorem outriggerref05_back.mono_l : ∀ k, (∀ y0 y1 y2 y3 y4, LeO (outriggerref05_back.l0 k y0 y1 y2 y3 y4) (outriggerref05_back.l0 (k + 1) y0 y1 y2 y3 y4))
  | 0 => fun _ _ _ _ _ r h => by simp [outriggerref05_back.l0] at h
  | k + 1 => by
    have ih0 := outriggerref05_back.mono_l k
    · intro y0 y1 y2 y3 y4
      unfold outriggerref05_back.l0
      repeat' first
      | (with_reducible exact ih0 _ _ _ _ _)
      | (with_reducible exact outriggerref05_halved.mono _ _ _)
      | (with_reducible exact LeO.refl _)
      | (with_reducible exact LeO.none _)
      | (with_reducible refine LeO.ite ?_ ?_)
      | (with_reducible refine LeO.bind ?_ (fun _ => ?_))
      | exact ih0 _ _ _ _ _
      | exact outriggerref05_halved.mono _ _ _
      | exact LeO.none _
      | refine LeO.ite ?_ ?_
      | refine LeO.bind ?_ (fun _ => ?_)
theorem outriggerref05_back.mono : ∀ a0 a1 k, LeO (outriggerref05_back.f k a0 a1) (outriggerref05_back.f (k + 1) a0 a1) := by
  intro a0 a1 k
  have ih0 := outriggerref05_back.mono_l k
  unfold outriggerref05_back.f
  repeat' first
      | (with_reducible exact ih0 _ _ _ _ _)
      | (with_reducible exact outriggerref05_halved.mono _ _ _)
      | (with_reducible exact LeO.refl _)
      | (with_reducible exact LeO.none _)
      | (with_reducible refine LeO.ite ?_ ?_)
      | (with_reducible refine LeO.bind ?_ (fun _ => ?_))
      | exact ih0 _ _ _ _ _
      | exact outriggerref05_halved.mono _ _ _
      | exact LeO.none _
      | refine LeO.ite ?_ ?_
      | refine LeO.bind ?_ (fun _ => ?_)
set_option maxHeartbeats 8000000 in
set_option maxRecDepth 100000 in
theorem outriggerref05_back.calls (k : Nat) (a0 : Int) (a1 : Int) (r : Int) (w : World) (h : outriggerref05_back.f k a0 a1 = some r) :
    Calls Tryd.prog 28 #[.int .i64 a0, .int .i64 a1] w fun e w' => e = .returned (.int .i64 r) ∧ Below w.heap.size w w' := by
  have HB := Aside0.mk (Below.refl w.heap.size w)
  have H : ((outriggerref05_table.f).bind fun t146 => (outriggerref05_back.l0 k a0 a1 0 t146 0)) = some r := h
  clear h
  replace H := Option.bind_eq_some_iff.mp H
  obtain ⟨t146, A30, H⟩ := H
  replace H : (outriggerref05_back.l0 k a0 a1 0 t146 0) = some r := H
  have A3 := Aside0.mk A30
  clear A30
  have H' := Aside0.mk H
  clear H
  go_enter Tryd.func28, Tryd.ntmps28
  go_wp2_with (first | ((with_reducible refine gate_callee (f := 33) rfl ?_); refine goesL_ (some 10) rfl rfl Tryd.func33 (by kernel_rfl) rfl #[] rfl (by (try simp only [List.map_toArray, List.map_cons, List.map_nil]); first | done | rfl | (simp only [List.length_drop, List.length_take]; rfl)) ?_; (with_reducible refine (outriggerref05_table.calls  t146 _ A3.out).mono ?_); rintro e w4 ⟨v147, rfl, ho0, hb⟩; refine ⟨_, rfl, ?_⟩; have n0_ := Aside0.mk (Kd.R_lower ho0 (below_size (by repeat (first | (with_reducible first | exact HB.out | apply below_alloc | apply pw_below_drewN | apply below_drew1) | exact HB.out)))); have n1_ := Aside0.mk (below_step (by repeat (first | (with_reducible first | exact HB.out | apply below_alloc | apply pw_below_drewN | apply below_drew1) | exact HB.out)) hb); clear HB; have HO148 := n0_; have HB := n1_; clear n0_ n1_; (try clear hb); (try clear hb2); (try clear hk); (try clear hi); (try clear ho0)))
  go_loopg [0, 1, 5, 7] k (fun kq v0 v1 v5 v7 w' => ∃ (x0_1 : Int) (x1_1 : Int) (x5_1 : Int) (x7_1 : Int), v0 = .int .i64 x0_1 ∧ v1 = .int .i64 x1_1 ∧ v5 = .int .i64 x5_1 ∧ v7 = .int .i64 x7_1 ∧ Aside0 (outriggerref05_back.l0 kq x0_1 x1_1 x5_1 t146 x7_1 = some r) ∧ Aside0 (kq ≤ k) ∧ Aside0 (Kd.R (Kd.int .i64) 3 w' w.heap.size (fun _ => True) v147 t146) ∧ Aside0 (Below w.heap.size w w'))
  case atStart => exact ⟨(a0), (a1), (0), (0), (by first | rfl | (simp; done) | (simp [*]; done)), (by first | rfl | (simp; done) | (simp [*]; done)), (by first | rfl | (simp; done) | (simp [*]; done)), (by first | rfl | (simp; done) | (simp [*]; done)), H', ⟨Nat.le_refl _⟩, ⟨by (with_reducible repeat (first | apply Kd.R_alloc | apply Kd.R_drewN | apply Kd.R_drew)); exact HO148.out⟩, ⟨by repeat (first | (with_reducible first | exact HB.out | apply below_alloc | apply pw_below_drewN | apply below_drew1) | exact HB.out)⟩⟩
  case round =>
    clear H'
    try clear c2
    try clear p2
    try clear c3
    obtain ⟨x0_1, x1_1, x5_1, x7_1, rfl, rfl, rfl, rfl, HA, HK1, HO_6, HB⟩ := hrel
    cases gk with
    | zero => exact absurd HA.out (by simp [outriggerref05_back.l0])
    | succ k1 =>
      have H := HA.out
      clear HA
      simp only [outriggerref05_back.l0] at H
      by_cases c5 : x7_1 < (t146.length : Int)
      · rw [if_pos c5] at H
        have c5b0 : decide (x7_1 < (t146.length : Int)) = true := decide_eq_true c5
        clear c5
        replace H := Option.bind_eq_some_iff.mp H
        obtain ⟨t149, A60, H⟩ := H
        replace H : ((outriggerref05_halved.f k1 x0_1 x7_1).bind fun t150 => (if x1_1 > 0 then (if 0 ≤ x7_1 then (outriggerref05_back.l0 k1 (wrap64 (x0_1 + t149)) (wrap64 (x1_1 - t150)) (wrap64 (x5_1 + (rd t146 x7_1))) t146 (wrap64 (x7_1 + 1))) else (none)) else (if 0 ≤ x7_1 then (outriggerref05_back.l0 k1 (wrap64 (x0_1 - t149)) (wrap64 (x1_1 + t150)) (wrap64 (x5_1 - (rd t146 x7_1))) t146 (wrap64 (x7_1 + 1))) else (none)))) = some r := H
        have A6 := Aside0.mk A60
        clear A60
        replace H := Option.bind_eq_some_iff.mp H
        obtain ⟨t150, A70, H⟩ := H
        replace H : (if x1_1 > 0 then (if 0 ≤ x7_1 then (outriggerref05_back.l0 k1 (wrap64 (x0_1 + t149)) (wrap64 (x1_1 - t150)) (wrap64 (x5_1 + (rd t146 x7_1))) t146 (wrap64 (x7_1 + 1))) else (none)) else (if 0 ≤ x7_1 then (outriggerref05_back.l0 k1 (wrap64 (x0_1 - t149)) (wrap64 (x1_1 + t150)) (wrap64 (x5_1 - (rd t146 x7_1))) t146 (wrap64 (x7_1 + 1))) else (none))) = some r := H
        have A7 := Aside0.mk A70
        clear A70
        by_cases c8 : x1_1 > 0
        · rw [if_pos c8] at H
          have c8b0 : decide (0 < x1_1) = true := decide_eq_true c8
          clear c8
          by_cases c9 : 0 ≤ x7_1
          · rw [if_pos c9] at H
            have c9b0 : decide (0 ≤ x7_1) = true := decide_eq_true c9
            clear c9
            have H' := Aside0.mk H
            clear H
            obtain ⟨Ao10, co10, eo10⟩ := Kd.R_slice HO_6.out
            subst eo10
            go_wp2_with (first | ((with_reducible refine gate_callee (f := 25) rfl ?_); refine goesL_ (some 19) rfl rfl Tryd.func25 (by kernel_rfl) rfl #[.int .i64 x1_1, .int .i64 x7_1] rfl (by (try simp only [List.map_toArray, List.map_cons, List.map_nil]); first | done | rfl | (simp only [List.length_drop, List.length_take]; rfl)) ?_; (with_reducible refine (outriggerref05_halved.calls k1 x1_1 x7_1 t149 _ A6.out).mono ?_); rintro e w' ⟨rfl, ⟨nd, rfl⟩⟩; refine ⟨_, rfl, ?_⟩) | ((with_reducible refine gate_callee (f := 25) rfl ?_); refine goesL_ (some 22) rfl rfl Tryd.func25 (by kernel_rfl) rfl #[.int .i64 x0_1, .int .i64 x7_1] rfl (by (try simp only [List.map_toArray, List.map_cons, List.map_nil]); first | done | rfl | (simp only [List.length_drop, List.length_take]; rfl)) ?_; (with_reducible refine (outriggerref05_halved.calls k1 x0_1 x7_1 t150 _ A7.out).mono ?_); rintro e w' ⟨rfl, ⟨nd, rfl⟩⟩; refine ⟨_, rfl, ?_⟩; have p151 : 0 ≤ (x7_1 : Int) := of_decide_eq_true (by first | (with_reducible assumption) | assumption); have q151 : x7_1 < (t146.length : Int) := of_decide_eq_true (by first | (with_reducible assumption) | assumption); obtain ⟨ad151, e151, hx151_0⟩ := Kd.at_int (Kd.R_reads' HO_6.out).2.2 x7_1 p151 q151; cases e151; replace p151 := eq_true p151; replace q151 := eq_true q151))
            go_roundg k1
            case measure => have := HK1.out; omega
            case rel => exact ⟨(wrap64 (x0_1 + t149)), (wrap64 (x1_1 - t150)), (wrap64 (x5_1 + (rd t146 x7_1))), (wrap64 (x7_1 + 1)), (by first | rfl | (simp; done) | (simp [*]; done)), (by first | rfl | (simp; done) | (simp [*]; done)), (by first | rfl | (simp; done) | (simp [*]; done)), (by first | rfl | (simp; done) | (simp [*]; done)), H', ⟨by have := HK1.out; omega⟩, ⟨by (with_reducible repeat (first | apply Kd.R_alloc | apply Kd.R_drewN | apply Kd.R_drew)); exact HO_6.out⟩, ⟨by repeat (first | (with_reducible first | exact HB.out | apply below_alloc | apply pw_below_drewN | apply below_drew1) | exact HB.out)⟩⟩
          · rw [if_neg c9] at H
            exact absurd H (by simp)
        · rw [if_neg c8] at H
          have c8b0 : decide (0 < x1_1) = false := decide_eq_false c8
          clear c8
          by_cases c11 : 0 ≤ x7_1
          · rw [if_pos c11] at H
            have c11b0 : decide (0 ≤ x7_1) = true := decide_eq_true c11
            clear c11
            have H' := Aside0.mk H
            clear H
            obtain ⟨Ao12, co12, eo12⟩ := Kd.R_slice HO_6.out
            subst eo12
            go_wp2_with (first | ((with_reducible refine gate_callee (f := 25) rfl ?_); refine goesL_ (some 19) rfl rfl Tryd.func25 (by kernel_rfl) rfl #[.int .i64 x1_1, .int .i64 x7_1] rfl (by (try simp only [List.map_toArray, List.map_cons, List.map_nil]); first | done | rfl | (simp only [List.length_drop, List.length_take]; rfl)) ?_; (with_reducible refine (outriggerref05_halved.calls k1 x1_1 x7_1 t149 _ A6.out).mono ?_); rintro e w' ⟨rfl, ⟨nd, rfl⟩⟩; refine ⟨_, rfl, ?_⟩) | ((with_reducible refine gate_callee (f := 25) rfl ?_); refine goesL_ (some 22) rfl rfl Tryd.func25 (by kernel_rfl) rfl #[.int .i64 x0_1, .int .i64 x7_1] rfl (by (try simp only [List.map_toArray, List.map_cons, List.map_nil]); first | done | rfl | (simp only [List.length_drop, List.length_take]; rfl)) ?_; (with_reducible refine (outriggerref05_halved.calls k1 x0_1 x7_1 t150 _ A7.out).mono ?_); rintro e w' ⟨rfl, ⟨nd, rfl⟩⟩; refine ⟨_, rfl, ?_⟩; have p152 : 0 ≤ (x7_1 : Int) := of_decide_eq_true (by first | (with_reducible assumption) | assumption); have q152 : x7_1 < (t146.length : Int) := of_decide_eq_true (by first | (with_reducible assumption) | assumption); obtain ⟨ad152, e152, hx152_0⟩ := Kd.at_int (Kd.R_reads' HO_6.out).2.2 x7_1 p152 q152; cases e152; replace p152 := eq_true p152; replace q152 := eq_true q152))
            go_roundg k1
            case measure => have := HK1.out; omega
            case rel => exact ⟨(wrap64 (x0_1 - t149)), (wrap64 (x1_1 + t150)), (wrap64 (x5_1 - (rd t146 x7_1))), (wrap64 (x7_1 + 1)), (by first | rfl | (simp; done) | (simp [*]; done)), (by first | rfl | (simp; done) | (simp [*]; done)), (by first | rfl | (simp; done) | (simp [*]; done)), (by first | rfl | (simp; done) | (simp [*]; done)), H', ⟨by have := HK1.out; omega⟩, ⟨by (with_reducible repeat (first | apply Kd.R_alloc | apply Kd.R_drewN | apply Kd.R_drew)); exact HO_6.out⟩, ⟨by repeat (first | (with_reducible first | exact HB.out | apply below_alloc | apply pw_below_drewN | apply below_drew1) | exact HB.out)⟩⟩
          · rw [if_neg c11] at H
            exact absurd H (by simp)
      · rw [if_neg c5] at H
        have c5b0 : decide (x7_1 < (t146.length : Int)) = false := decide_eq_false c5
        clear c5
        obtain rfl := Option.some.inj H
        obtain ⟨Ao13, co13, eo13⟩ := Kd.R_slice HO_6.out
        subst eo13
        go_wp2
        go_ret
        exact ⟨by first | rfl | (simp [errW_none, errW_some] <;> rfl) | (simp [*, errW_none, errW_some] <;> rfl), by repeat (first | (with_reducible first | exact HB.out | apply below_alloc | apply pw_below_drewN | apply below_drew1) | exact HB.out)⟩


/-! ### outriggerref05_Atan: function 18 -/
mutual
def outriggerref05_Atan.j0 : Nat → Int → Int → Int → Int → Bool → Option (Int)
  | 0, _, _, _, _, _ => none
  | k + 1, x0, x1, x5, x6, x17 => if x17 = true then (some 0) else (outriggerref05_Atan.l0 k x0 x1 x5 x6)
def outriggerref05_Atan.l0 : Nat → Int → Int → Int → Int → Option (Int)
  | 0, _, _, _, _ => none
  | k + 1, x0, x1, x5, x6 => if (mx x5 x6) < 144115188075855872 then (outriggerref05_Atan.l0 k x0 x1 (wrap64 (2 * x5)) (wrap64 (2 * x6))) else ((outriggerref05_back.f k x5 x6).bind fun t155 => ((outriggerref05_halved.f k (wrap64 (t155 + 32768)) 16).bind fun t156 => (if x1 ≥ 0 then (outriggerref05_Atan.j2 k x0 x1 t156 (decide (x0 ≥ 0))) else (outriggerref05_Atan.j2 k x0 x1 t156 false))))
def outriggerref05_Atan.j2 : Nat → Int → Int → Int → Bool → Option (Int)
  | 0, _, _, _, _ => none
  | k + 1, x0, x1, x7, x31 => if x31 = true then ((outriggerref05_Angle.f x7).bind fun t157 => (some t157)) else (if x1 < 0 then (outriggerref05_Atan.j3 k x1 x7 (decide (x0 ≥ 0))) else (outriggerref05_Atan.j3 k x1 x7 false))
def outriggerref05_Atan.j3 : Nat → Int → Int → Bool → Option (Int)
  | 0, _, _, _ => none
  | k + 1, x1, x7, x40 => if x40 = true then ((outriggerref05_Angle.f (wrap64 (2147483648 - x7))).bind fun t158 => (some t158)) else (if x1 < 0 then ((outriggerref05_Angle.f (wrap64 (2147483648 + x7))).bind fun t159 => (some t159)) else ((outriggerref05_Angle.f (wrap64 (-x7))).bind fun t160 => (some t160)))
end
def outriggerref05_Atan.f (k : Nat) (a0 : Int) (a1 : Int) : Option (Int) := (outriggerref01_Abs.f a1).bind fun t153 => ((outriggerref01_Abs.f a0).bind fun t154 => (if t153 = 0 then (outriggerref05_Atan.j0 k a0 a1 t153 t154 (t154 == 0)) else (outriggerref05_Atan.j0 k a0 a1 t153 t154 false)))
theorem outriggerref05_Atan.mono_l : ∀ k, (∀ y0 y1 y2 y3 y4, LeO (outriggerref05_Atan.j0 k y0 y1 y2 y3 y4) (outriggerref05_Atan.j0 (k + 1) y0 y1 y2 y3 y4)) ∧ (∀ y0 y1 y2 y3, LeO (outriggerref05_Atan.l0 k y0 y1 y2 y3) (outriggerref05_Atan.l0 (k + 1) y0 y1 y2 y3)) ∧ (∀ y0 y1 y2 y3, LeO (outriggerref05_Atan.j2 k y0 y1 y2 y3) (outriggerref05_Atan.j2 (k + 1) y0 y1 y2 y3)) ∧ (∀ y0 y1 y2, LeO (outriggerref05_Atan.j3 k y0 y1 y2) (outriggerref05_Atan.j3 (k + 1) y0 y1 y2))
  | 0 => ⟨fun _ _ _ _ _ r h => by simp [outriggerref05_Atan.j0] at h, fun _ _ _ _ r h => by simp [outriggerref05_Atan.l0] at h, fun _ _ _ _ r h => by simp [outriggerref05_Atan.j2] at h, fun _ _ _ r h => by simp [outriggerref05_Atan.j3] at h⟩
  | k + 1 => by
    obtain ⟨ih0, ih1, ih2, ih3⟩ := outriggerref05_Atan.mono_l k
    refine ⟨?_, ?_, ?_, ?_⟩
    · intro y0 y1 y2 y3 y4
      unfold outriggerref05_Atan.j0
      repeat' first
      | (with_reducible exact ih0 _ _ _ _ _)
      | (with_reducible exact ih1 _ _ _ _)
      | (with_reducible exact ih2 _ _ _ _)
      | (with_reducible exact ih3 _ _ _)
      | (with_reducible exact outriggerref05_back.mono _ _ _)
      | (with_reducible exact outriggerref05_halved.mono _ _ _)
      | (with_reducible exact LeO.refl _)
      | (with_reducible exact LeO.none _)
      | (with_reducible refine LeO.ite ?_ ?_)
      | (with_reducible refine LeO.bind ?_ (fun _ => ?_))
      | exact ih0 _ _ _ _ _
      | exact ih1 _ _ _ _
      | exact ih2 _ _ _ _
      | exact ih3 _ _ _
      | exact outriggerref05_back.mono _ _ _
      | exact outriggerref05_halved.mono _ _ _
      | exact LeO.none _
      | refine LeO.ite ?_ ?_
      | refine LeO.bind ?_ (fun _ => ?_)
    · intro y0 y1 y2 y3
      unfold outriggerref05_Atan.l0
      repeat' first
      | (with_reducible exact ih0 _ _ _ _ _)
      | (with_reducible exact ih1 _ _ _ _)
      | (with_reducible exact ih2 _ _ _ _)
      | (with_reducible exact ih3 _ _ _)
      | (with_reducible exact outriggerref05_back.mono _ _ _)
      | (with_reducible exact outriggerref05_halved.mono _ _ _)
      | (with_reducible exact LeO.refl _)
      | (with_reducible exact LeO.none _)
      | (with_reducible refine LeO.ite ?_ ?_)
      | (with_reducible refine LeO.bind ?_ (fun _ => ?_))
      | exact ih0 _ _ _ _ _
      | exact ih1 _ _ _ _
      | exact ih2 _ _ _ _
      | exact ih3 _ _ _
      | exact outriggerref05_back.mono _ _ _
      | exact outriggerref05_halved.mono _ _ _
      | exact LeO.none _
      | refine LeO.ite ?_ ?_
      | refine LeO.bind ?_ (fun _ => ?_)
    · intro y0 y1 y2 y3
      unfold outriggerref05_Atan.j2
      repeat' first
      | (with_reducible exact ih0 _ _ _ _ _)
      | (with_reducible exact ih1 _ _ _ _)
      | (with_reducible exact ih2 _ _ _ _)
      | (with_reducible exact ih3 _ _ _)
      | (with_reducible exact outriggerref05_back.mono _ _ _)
      | (with_reducible exact outriggerref05_halved.mono _ _ _)
      | (with_reducible exact LeO.refl _)
      | (with_reducible exact LeO.none _)
      | (with_reducible refine LeO.ite ?_ ?_)
      | (with_reducible refine LeO.bind ?_ (fun _ => ?_))
      | exact ih0 _ _ _ _ _
      | exact ih1 _ _ _ _
      | exact ih2 _ _ _ _
      | exact ih3 _ _ _
      | exact outriggerref05_back.mono _ _ _
      | exact outriggerref05_halved.mono _ _ _
      | exact LeO.none _
      | refine LeO.ite ?_ ?_
      | refine LeO.bind ?_ (fun _ => ?_)
    · intro y0 y1 y2
      unfold outriggerref05_Atan.j3
      repeat' first
      | (with_reducible exact ih0 _ _ _ _ _)
      | (with_reducible exact ih1 _ _ _ _)
      | (with_reducible exact ih2 _ _ _ _)
      | (with_reducible exact ih3 _ _ _)
      | (with_reducible exact outriggerref05_back.mono _ _ _)
      | (with_reducible exact outriggerref05_halved.mono _ _ _)
      | (with_reducible exact LeO.refl _)
      | (with_reducible exact LeO.none _)
      | (with_reducible refine LeO.ite ?_ ?_)
      | (with_reducible refine LeO.bind ?_ (fun _ => ?_))
      | exact ih0 _ _ _ _ _
      | exact ih1 _ _ _ _
      | exact ih2 _ _ _ _
      | exact ih3 _ _ _
      | exact outriggerref05_back.mono _ _ _
      | exact outriggerref05_halved.mono _ _ _
      | exact LeO.none _
      | refine LeO.ite ?_ ?_
      | refine LeO.bind ?_ (fun _ => ?_)
theorem outriggerref05_Atan.mono : ∀ a0 a1 k, LeO (outriggerref05_Atan.f k a0 a1) (outriggerref05_Atan.f (k + 1) a0 a1) := by
  intro a0 a1 k
  obtain ⟨ih0, ih1, ih2, ih3⟩ := outriggerref05_Atan.mono_l k
  unfold outriggerref05_Atan.f
  repeat' first
      | (with_reducible exact ih0 _ _ _ _ _)
      | (with_reducible exact ih1 _ _ _ _)
      | (with_reducible exact ih2 _ _ _ _)
      | (with_reducible exact ih3 _ _ _)
      | (with_reducible exact outriggerref05_back.mono _ _ _)
      | (with_reducible exact outriggerref05_halved.mono _ _ _)
      | (with_reducible exact LeO.refl _)
      | (with_reducible exact LeO.none _)
      | (with_reducible refine LeO.ite ?_ ?_)
      | (with_reducible refine LeO.bind ?_ (fun _ => ?_))
      | exact ih0 _ _ _ _ _
      | exact ih1 _ _ _ _
      | exact ih2 _ _ _ _
      | exact ih3 _ _ _
      | exact outriggerref05_back.mono _ _ _
      | exact outriggerref05_halved.mono _ _ _
      | exact LeO.none _
      | refine LeO.ite ?_ ?_
      | refine LeO.bind ?_ (fun _ => ?_)
set_option maxHeartbeats 8000000 in
set_option maxRecDepth 100000 in
theorem outriggerref05_Atan.calls (k : Nat) (a0 : Int) (a1 : Int) (r : Int) (w : World) (h : outriggerref05_Atan.f k a0 a1 = some r) :
    Calls Tryd.prog 18 #[.int .i64 a0, .int .i64 a1] w fun e w' => e = .returned (.int .i64 r) ∧ Below w.heap.size w w' := by
  have HB := Aside0.mk (Below.refl w.heap.size w)
  have H : ((outriggerref01_Abs.f a1).bind fun t153 => ((outriggerref01_Abs.f a0).bind fun t154 => (if t153 = 0 then (outriggerref05_Atan.j0 k a0 a1 t153 t154 (t154 == 0)) else (outriggerref05_Atan.j0 k a0 a1 t153 t154 false)))) = some r := h
  clear h
  replace H := Option.bind_eq_some_iff.mp H
  obtain ⟨t153, A30, H⟩ := H
  replace H : ((outriggerref01_Abs.f a0).bind fun t154 => (if t153 = 0 then (outriggerref05_Atan.j0 k a0 a1 t153 t154 (t154 == 0)) else (outriggerref05_Atan.j0 k a0 a1 t153 t154 false))) = some r := H
  have A3 := Aside0.mk A30
  clear A30
  replace H := Option.bind_eq_some_iff.mp H
  obtain ⟨t154, A40, H⟩ := H
  replace H : (if t153 = 0 then (outriggerref05_Atan.j0 k a0 a1 t153 t154 (t154 == 0)) else (outriggerref05_Atan.j0 k a0 a1 t153 t154 false)) = some r := H
  have A4 := Aside0.mk A40
  clear A40
  have HC5 := Aside0.mk H
  clear H
  go_enter Tryd.func18, Tryd.ntmps18
  go_upto_region 3 with (first | ((with_reducible refine gate_callee (f := 27) rfl ?_); refine goesL_ (some 9) rfl rfl Tryd.func27 (by kernel_rfl) rfl #[.int .i64 a1] rfl (by (try simp only [List.map_toArray, List.map_cons, List.map_nil]); first | done | rfl | (simp only [List.length_drop, List.length_take]; rfl)) ?_; (with_reducible refine (outriggerref01_Abs.calls a1 t153 _ A3.out).mono ?_); rintro e w6 ⟨rfl, hb⟩; refine ⟨_, rfl, ?_⟩; have n0_ := Aside0.mk (below_step (by repeat (first | (with_reducible first | exact HB.out | apply below_alloc | apply pw_below_drewN | apply below_drew1) | exact HB.out)) hb); clear HB; have HB := n0_; clear n0_; (try clear hb); (try clear hb2); (try clear hk); (try clear hi)) | ((with_reducible refine gate_callee (f := 27) rfl ?_); refine goesL_ (some 11) rfl rfl Tryd.func27 (by kernel_rfl) rfl #[.int .i64 a0] rfl (by (try simp only [List.map_toArray, List.map_cons, List.map_nil]); first | done | rfl | (simp only [List.length_drop, List.length_take]; rfl)) ?_; (with_reducible refine (outriggerref01_Abs.calls a0 t154 _ A4.out).mono ?_); rintro e w7 ⟨rfl, hb⟩; refine ⟨_, rfl, ?_⟩; have n0_ := Aside0.mk (below_step (by repeat (first | (with_reducible first | exact HB.out | apply below_alloc | apply pw_below_drewN | apply below_drew1) | exact HB.out)) hb); clear HB; have HB := n0_; clear n0_; (try clear hb); (try clear hb2); (try clear hk); (try clear hi)))
  (try simp only [Act.put, List.setIfInBounds_toArray, List.set_cons_zero, List.set_cons_succ])
  go_cut [17] (fun v17 wc => ∃ (kq : Nat) (x17_4 : Bool), v17 = .bool x17_4 ∧ Aside0 (outriggerref05_Atan.j0 kq a0 a1 t153 t154 x17_4 = some r) ∧ Aside0 (kq ≤ k) ∧ Aside0 (Below w.heap.size w wc))
  case first =>
    have H := HC5.out
    clear HC5
    by_cases c8 : t153 = 0
    · rw [if_pos c8] at H
      have c8b0 : (t153 == 0) = true := beq_iff_eq.mpr c8
      have c8b1 : (t153 != 0) = false := bne_eq_false_iff_eq.mpr c8
      clear c8
      (first | rw [c8b0] | (simp only [i64_w, i32_w]; rw [c8b0]) | skip)
      have H' := Aside0.mk H
      clear H
      go_wp2
      go_meet
      case rel => exact ⟨_, ((t154 == 0)), (by first | rfl | (simp; done) | (simp [*]; done)), H', ⟨by first | omega | exact Nat.le_refl _⟩, ⟨by repeat (first | (with_reducible first | exact HB.out | apply below_alloc | apply pw_below_drewN | apply below_drew1) | exact HB.out)⟩⟩
    · rw [if_neg c8] at H
      have c8b0 : (t153 == 0) = false := beq_eq_false_iff_ne.mpr c8
      have c8b1 : (t153 != 0) = true := bne_iff_ne.mpr c8
      (first | rw [c8b0] | (simp only [i64_w, i32_w]; rw [c8b0]) | skip)
      have H' := Aside0.mk H
      clear H
      go_wp2
      go_meet
      case rel => exact ⟨_, (false), (by first | rfl | (simp; done) | (simp [*]; done)), H', ⟨by first | omega | exact Nat.le_refl _⟩, ⟨by repeat (first | (with_reducible first | exact HB.out | apply below_alloc | apply pw_below_drewN | apply below_drew1) | exact HB.out)⟩⟩
  case rest =>
    clear HC5
    try clear c1
    try clear c2
    try clear p2
    try clear c8
    try clear c8b0
    try clear c8b1
    obtain ⟨kq, x17_4, rfl, HA, HJ4, HB⟩ := hcut
    cases kq with
    | zero => exact absurd HA.out (by simp [outriggerref05_Atan.j0])
    | succ kj4 =>
      have H := HA.out
      clear HA
      simp only [outriggerref05_Atan.j0] at H
      by_cases c9 : x17_4 = true
      · subst c9
        have H1 : (some 0) = some r := by rw [if_pos rfl] at H; exact H
        clear H
        have H := H1
        clear H1
        obtain rfl := Option.some.inj H
        go_wp2
        go_ret
        exact ⟨by first | rfl | (simp [errW_none, errW_some] <;> rfl) | (simp [*, errW_none, errW_some] <;> rfl), by repeat (first | (with_reducible first | exact HB.out | apply below_alloc | apply pw_below_drewN | apply below_drew1) | exact HB.out)⟩
      · replace c9 := Bool.eq_false_iff.mpr c9
        subst c9
        have H1 : (outriggerref05_Atan.l0 kj4 a0 a1 t153 t154) = some r := by rw [if_neg (show ¬ (false = true) by decide)] at H; exact H
        clear H
        have H := H1
        clear H1
        have H' := Aside0.mk H
        clear H
        go_wp2
        go_loopg [5, 6] kj4 (fun kq v5 v6 w' => ∃ (x5_2 : Int) (x6_2 : Int), v5 = .int .i64 x5_2 ∧ v6 = .int .i64 x6_2 ∧ Aside0 (outriggerref05_Atan.l0 kq a0 a1 x5_2 x6_2 = some r) ∧ Aside0 (kq ≤ kj4) ∧ Aside0 (Below w.heap.size w w'))
        case atStart => exact ⟨(t153), (t154), (by first | rfl | (simp; done) | (simp [*]; done)), (by first | rfl | (simp; done) | (simp [*]; done)), H', ⟨Nat.le_refl _⟩, ⟨by repeat (first | (with_reducible first | exact HB.out | apply below_alloc | apply pw_below_drewN | apply below_drew1) | exact HB.out)⟩⟩
        case round =>
          clear H'
          try clear c1
          try clear c2
          try clear p2
          try clear c8
          try clear c8b0
          try clear c8b1
          try clear c9
          try clear p2
          obtain ⟨x5_2, x6_2, rfl, rfl, HA, HK2, HB⟩ := hrel
          cases gk with
          | zero => exact absurd HA.out (by simp [outriggerref05_Atan.l0])
          | succ k2 =>
            have H := HA.out
            clear HA
            simp only [outriggerref05_Atan.l0] at H
            obtain ⟨ji10, hji10⟩ : ∃ j_ : Int, (mx x5_2 x6_2) = j_ := ⟨_, rfl⟩
            replace H : (if (ji10) < 144115188075855872 then (outriggerref05_Atan.l0 k2 a0 a1 (wrap64 (2 * x5_2)) (wrap64 (2 * x6_2))) else ((outriggerref05_back.f k2 x5_2 x6_2).bind fun t155 => ((outriggerref05_halved.f k2 (wrap64 (t155 + 32768)) 16).bind fun t156 => (if a1 ≥ 0 then (outriggerref05_Atan.j2 k2 a0 a1 t156 (decide (a0 ≥ 0))) else (outriggerref05_Atan.j2 k2 a0 a1 t156 false))))) = some r := by first | (rw [hji10] at H; exact H) | (simp only [hji10] at H ⊢; exact H)
            have hji10_ : (if x5_2 < x6_2 then x6_2 else x5_2) = ji10 := hji10
            by_cases c11 : (ji10) < 144115188075855872
            · rw [if_pos c11] at H
              have c11b0 : decide ((ji10) < 144115188075855872) = true := decide_eq_true c11
              clear c11
              have H' := Aside0.mk H
              clear H
              go_wp2
              go_roundg k2
              case measure => have := HJ4.out; have := HK2.out; omega
              case rel => exact ⟨(wrap64 (2 * x5_2)), (wrap64 (2 * x6_2)), (by first | rfl | (simp; done) | (simp [*]; done)), (by first | rfl | (simp; done) | (simp [*]; done)), H', ⟨by have := HJ4.out; have := HK2.out; omega⟩, ⟨by repeat (first | (with_reducible first | exact HB.out | apply below_alloc | apply pw_below_drewN | apply below_drew1) | exact HB.out)⟩⟩
            · rw [if_neg c11] at H
              have c11b0 : decide ((ji10) < 144115188075855872) = false := decide_eq_false c11
              clear c11
              replace H := Option.bind_eq_some_iff.mp H
              obtain ⟨t155, A120, H⟩ := H
              replace H : ((outriggerref05_halved.f k2 (wrap64 (t155 + 32768)) 16).bind fun t156 => (if a1 ≥ 0 then (outriggerref05_Atan.j2 k2 a0 a1 t156 (decide (a0 ≥ 0))) else (outriggerref05_Atan.j2 k2 a0 a1 t156 false))) = some r := H
              have A12 := Aside0.mk A120
              clear A120
              replace H := Option.bind_eq_some_iff.mp H
              obtain ⟨t156, A130, H⟩ := H
              replace H : (if a1 ≥ 0 then (outriggerref05_Atan.j2 k2 a0 a1 t156 (decide (a0 ≥ 0))) else (outriggerref05_Atan.j2 k2 a0 a1 t156 false)) = some r := H
              have A13 := Aside0.mk A130
              clear A130
              have HC14 := Aside0.mk H
              clear H
              go_upto_region 9 with (first | ((with_reducible refine gate_callee (f := 28) rfl ?_); refine goesL_ (some 28) rfl rfl Tryd.func28 (by kernel_rfl) rfl #[.int .i64 x5_2, .int .i64 x6_2] rfl (by (try simp only [List.map_toArray, List.map_cons, List.map_nil]); first | done | rfl | (simp only [List.length_drop, List.length_take]; rfl)) ?_; (with_reducible refine (outriggerref05_back.calls k2 x5_2 x6_2 t155 _ A12.out).mono ?_); rintro e w15 ⟨rfl, hb⟩; refine ⟨_, rfl, ?_⟩; have n0_ := Aside0.mk (below_step (by repeat (first | (with_reducible first | exact HB.out | apply below_alloc | apply pw_below_drewN | apply below_drew1) | exact HB.out)) hb); clear HB; have HB := n0_; clear n0_; (try clear hb); (try clear hb2); (try clear hk); (try clear hi)) | ((with_reducible refine gate_callee (f := 25) rfl ?_); refine goesL_ (some 30) rfl rfl Tryd.func25 (by kernel_rfl) rfl #[.int .i64 (wrap64 (t155 + 32768)), .int .i64 16] rfl (by (try simp only [List.map_toArray, List.map_cons, List.map_nil]); first | done | rfl | (simp only [List.length_drop, List.length_take]; rfl)) ?_; (with_reducible refine (outriggerref05_halved.calls k2 (wrap64 (t155 + 32768)) 16 t156 _ A13.out).mono ?_); rintro e w' ⟨rfl, ⟨nd, rfl⟩⟩; refine ⟨_, rfl, ?_⟩))
              (try simp only [Act.put, List.setIfInBounds_toArray, List.set_cons_zero, List.set_cons_succ])
              go_cut [31] (fun v31 wc => ∃ (kq : Nat) (x31_13 : Bool), v31 = .bool x31_13 ∧ Aside0 (outriggerref05_Atan.j2 kq a0 a1 t156 x31_13 = some r) ∧ Aside0 (kq ≤ k2) ∧ Aside0 (Below w.heap.size w wc))
              case first =>
                have H := HC14.out
                clear HC14
                by_cases c16 : a1 ≥ 0
                · rw [if_pos c16] at H
                  have c16b0 : decide (0 ≤ a1) = true := decide_eq_true c16
                  clear c16
                  (first | rw [c16b0] | (simp only [i64_w, i32_w]; rw [c16b0]) | skip)
                  have H' := Aside0.mk H
                  clear H
                  go_wp2
                  go_meet
                  case rel => exact ⟨_, (decide (a0 ≥ 0)), (by first | rfl | (simp; done) | (simp [*]; done)), H', ⟨by have := HJ4.out; have := HK2.out; first | omega | exact Nat.le_refl _⟩, ⟨by repeat (first | (with_reducible first | exact HB.out | apply below_alloc | apply pw_below_drewN | apply below_drew1) | exact HB.out)⟩⟩
                · rw [if_neg c16] at H
                  have c16b0 : decide (0 ≤ a1) = false := decide_eq_false c16
                  clear c16
                  (first | rw [c16b0] | (simp only [i64_w, i32_w]; rw [c16b0]) | skip)
                  have H' := Aside0.mk H
                  clear H
                  go_wp2
                  go_meet
                  case rel => exact ⟨_, (false), (by first | rfl | (simp; done) | (simp [*]; done)), H', ⟨by have := HJ4.out; have := HK2.out; first | omega | exact Nat.le_refl _⟩, ⟨by repeat (first | (with_reducible first | exact HB.out | apply below_alloc | apply pw_below_drewN | apply below_drew1) | exact HB.out)⟩⟩
              case rest =>
                clear HC14
                try clear c1
                try clear c2
                try clear p2
                try clear p6
                try clear c8
                try clear c8b0
                try clear c8b1
                try clear c9
                try clear c11
                try clear c11b0
                try clear c16
                try clear c16b0
                try clear p2
                obtain ⟨kq, x31_13, rfl, HA, HJ13, HB⟩ := hcut
                cases kq with
                | zero => exact absurd HA.out (by simp [outriggerref05_Atan.j2])
                | succ kj13 =>
                  have H := HA.out
                  clear HA
                  simp only [outriggerref05_Atan.j2] at H
                  by_cases c17 : x31_13 = true
                  · subst c17
                    have H1 : ((outriggerref05_Angle.f t156).bind fun t157 => (some t157)) = some r := by rw [if_pos rfl] at H; exact H
                    clear H
                    have H := H1
                    clear H1
                    replace H := Option.bind_eq_some_iff.mp H
                    obtain ⟨t157, A180, H⟩ := H
                    replace H : (some t157) = some r := H
                    have A18 := Aside0.mk A180
                    clear A180
                    obtain rfl := Option.some.inj H
                    go_wp2_with (first | ((with_reducible refine gate_callee (f := 14) rfl ?_); refine goesL_ (some 39) rfl rfl Tryd.func14 (by kernel_rfl) rfl #[.int .i64 t156] rfl (by (try simp only [List.map_toArray, List.map_cons, List.map_nil]); first | done | rfl | (simp only [List.length_drop, List.length_take]; rfl)) ?_; (with_reducible refine (outriggerref05_Angle.calls t156 t157 _ A18.out).mono ?_); rintro e w' ⟨rfl, ⟨nd, rfl⟩⟩; refine ⟨_, rfl, ?_⟩))
                    go_ret
                    exact ⟨by first | rfl | (simp [errW_none, errW_some] <;> rfl) | (simp only [← hji10]; first | rfl | (simp [errW_none, errW_some] <;> rfl)) | (simp [*, errW_none, errW_some] <;> rfl), by repeat (first | (with_reducible first | exact HB.out | apply below_alloc | apply pw_below_drewN | apply below_drew1) | exact HB.out)⟩
                  · replace c17 := Bool.eq_false_iff.mpr c17
                    subst c17
                    have H1 : (if a1 < 0 then (outriggerref05_Atan.j3 kj13 a1 t156 (decide (a0 ≥ 0))) else (outriggerref05_Atan.j3 kj13 a1 t156 false)) = some r := by rw [if_neg (show ¬ (false = true) by decide)] at H; exact H
                    clear H
                    have H := H1
                    clear H1
                    have HC19 := Aside0.mk H
                    clear H
                    go_upto_region 11 with (fail)
                    go_cut [40] (fun v40 wc => ∃ (kq : Nat) (x40_18 : Bool), v40 = .bool x40_18 ∧ Aside0 (outriggerref05_Atan.j3 kq a1 t156 x40_18 = some r) ∧ Aside0 (kq ≤ kj13) ∧ Aside0 (Below w.heap.size w wc))
                    case first =>
                      have H := HC19.out
                      clear HC19
                      by_cases c20 : a1 < 0
                      · rw [if_pos c20] at H
                        have c20b0 : decide (a1 < 0) = true := decide_eq_true c20
                        clear c20
                        (first | rw [c20b0] | (simp only [i64_w, i32_w]; rw [c20b0]) | skip)
                        have H' := Aside0.mk H
                        clear H
                        go_wp2
                        go_meet
                        case rel => exact ⟨_, (decide (a0 ≥ 0)), (by first | rfl | (simp; done) | (simp [*]; done)), H', ⟨by have := HJ4.out; have := HK2.out; have := HJ13.out; first | omega | exact Nat.le_refl _⟩, ⟨by repeat (first | (with_reducible first | exact HB.out | apply below_alloc | apply pw_below_drewN | apply below_drew1) | exact HB.out)⟩⟩
                      · rw [if_neg c20] at H
                        have c20b0 : decide (a1 < 0) = false := decide_eq_false c20
                        clear c20
                        (first | rw [c20b0] | (simp only [i64_w, i32_w]; rw [c20b0]) | skip)
                        have H' := Aside0.mk H
                        clear H
                        go_wp2
                        go_meet
                        case rel => exact ⟨_, (false), (by first | rfl | (simp; done) | (simp [*]; done)), H', ⟨by have := HJ4.out; have := HK2.out; have := HJ13.out; first | omega | exact Nat.le_refl _⟩, ⟨by repeat (first | (with_reducible first | exact HB.out | apply below_alloc | apply pw_below_drewN | apply below_drew1) | exact HB.out)⟩⟩
                    case rest =>
                      clear HC19
                      try clear c1
                      try clear c2
                      try clear p2
                      try clear p6
                      try clear c8
                      try clear c8b0
                      try clear c8b1
                      try clear c9
                      try clear c11
                      try clear c11b0
                      try clear c14
                      try clear c16
                      try clear c16b0
                      try clear c17
                      try clear c18
                      try clear c20
                      try clear c20b0
                      try clear p2
                      try clear p6
                      obtain ⟨kq, x40_18, rfl, HA, HJ18, HB⟩ := hcut
                      cases kq with
                      | zero => exact absurd HA.out (by simp [outriggerref05_Atan.j3])
                      | succ kj18 =>
                        have H := HA.out
                        clear HA
                        simp only [outriggerref05_Atan.j3] at H
                        by_cases c21 : x40_18 = true
                        · subst c21
                          have H1 : ((outriggerref05_Angle.f (wrap64 (2147483648 - t156))).bind fun t158 => (some t158)) = some r := by rw [if_pos rfl] at H; exact H
                          clear H
                          have H := H1
                          clear H1
                          replace H := Option.bind_eq_some_iff.mp H
                          obtain ⟨t158, A220, H⟩ := H
                          replace H : (some t158) = some r := H
                          have A22 := Aside0.mk A220
                          clear A220
                          obtain rfl := Option.some.inj H
                          go_wp2_with (first | ((with_reducible refine gate_callee (f := 14) rfl ?_); refine goesL_ (some 49) rfl rfl Tryd.func14 (by kernel_rfl) rfl #[.int .i64 (wrap64 (2147483648 - t156))] rfl (by (try simp only [List.map_toArray, List.map_cons, List.map_nil]); first | done | rfl | (simp only [List.length_drop, List.length_take]; rfl)) ?_; (with_reducible refine (outriggerref05_Angle.calls (wrap64 (2147483648 - t156)) t158 _ A22.out).mono ?_); rintro e w' ⟨rfl, ⟨nd, rfl⟩⟩; refine ⟨_, rfl, ?_⟩))
                          go_ret
                          exact ⟨by first | rfl | (simp [errW_none, errW_some] <;> rfl) | (simp only [← hji10]; first | rfl | (simp [errW_none, errW_some] <;> rfl)) | (simp [*, errW_none, errW_some] <;> rfl), by repeat (first | (with_reducible first | exact HB.out | apply below_alloc | apply pw_below_drewN | apply below_drew1) | exact HB.out)⟩
                        · replace c21 := Bool.eq_false_iff.mpr c21
                          subst c21
                          have H1 : (if a1 < 0 then ((outriggerref05_Angle.f (wrap64 (2147483648 + t156))).bind fun t159 => (some t159)) else ((outriggerref05_Angle.f (wrap64 (-t156))).bind fun t160 => (some t160))) = some r := by rw [if_neg (show ¬ (false = true) by decide)] at H; exact H
                          clear H
                          have H := H1
                          clear H1
                          by_cases c23 : a1 < 0
                          · rw [if_pos c23] at H
                            have c23b0 : decide (a1 < 0) = true := decide_eq_true c23
                            clear c23
                            replace H := Option.bind_eq_some_iff.mp H
                            obtain ⟨t159, A240, H⟩ := H
                            replace H : (some t159) = some r := H
                            have A24 := Aside0.mk A240
                            clear A240
                            obtain rfl := Option.some.inj H
                            go_wp2_with (first | ((with_reducible refine gate_callee (f := 14) rfl ?_); refine goesL_ (some 55) rfl rfl Tryd.func14 (by kernel_rfl) rfl #[.int .i64 (wrap64 (2147483648 + t156))] rfl (by (try simp only [List.map_toArray, List.map_cons, List.map_nil]); first | done | rfl | (simp only [List.length_drop, List.length_take]; rfl)) ?_; (with_reducible refine (outriggerref05_Angle.calls (wrap64 (2147483648 + t156)) t159 _ A24.out).mono ?_); rintro e w' ⟨rfl, ⟨nd, rfl⟩⟩; refine ⟨_, rfl, ?_⟩))
                            go_ret
                            exact ⟨by first | rfl | (simp [errW_none, errW_some] <;> rfl) | (simp only [← hji10]; first | rfl | (simp [errW_none, errW_some] <;> rfl)) | (simp [*, errW_none, errW_some] <;> rfl), by repeat (first | (with_reducible first | exact HB.out | apply below_alloc | apply pw_below_drewN | apply below_drew1) | exact HB.out)⟩
                          · rw [if_neg c23] at H
                            have c23b0 : decide (a1 < 0) = false := decide_eq_false c23
                            clear c23
                            replace H := Option.bind_eq_some_iff.mp H
                            obtain ⟨t160, A250, H⟩ := H
                            replace H : (some t160) = some r := H
                            have A25 := Aside0.mk A250
                            clear A250
                            obtain rfl := Option.some.inj H
                            go_wp2_with (first | ((with_reducible refine gate_callee (f := 14) rfl ?_); refine goesL_ (some 58) rfl rfl Tryd.func14 (by kernel_rfl) rfl #[.int .i64 (wrap64 (-t156))] rfl (by (try simp only [List.map_toArray, List.map_cons, List.map_nil]); first | done | rfl | (simp only [List.length_drop, List.length_take]; rfl)) ?_; (with_reducible refine (outriggerref05_Angle.calls (wrap64 (-t156)) t160 _ A25.out).mono ?_); rintro e w' ⟨rfl, ⟨nd, rfl⟩⟩; refine ⟨_, rfl, ?_⟩))
                            go_ret
                            exact ⟨by first | rfl | (simp [errW_none, errW_some] <;> rfl) | (simp only [← hji10]; first | rfl | (simp [errW_none, errW_some] <;> rfl)) | (simp [*, errW_none, errW_some] <;> rfl), by repeat (first | (with_reducible first | exact HB.out | apply below_alloc | apply pw_below_drewN | apply below_drew1) | exact HB.out)⟩


end Go.Proofs.YtnbicphpchnkbaaDoor.B
