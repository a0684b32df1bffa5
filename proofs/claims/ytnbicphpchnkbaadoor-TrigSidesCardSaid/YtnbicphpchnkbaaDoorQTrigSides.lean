/- The plain law of TrigSides: its Lean function, laid by the print, tells true for every 64-bit input. -/
import Derived.Test.YtnbicphpchnkbaaDoorNum
import Derived.Test.YtnbicphpchnkbaaDoorTrig
import Derived.Test.YtnbicphpchnkbaaDoorTrigc
import Derived.Test.YtnbicphpchnkbaaDoorLTrigSides
namespace Go.Proofs.YtnbicphpchnkbaaDoor.Pure
open Go Go.RowKit Go.Proofs.YtnbicphpchnkbaaDoor.B Go.Proofs.YtnbicphpchnkbaaDoor.Num Go.Proofs.YtnbicphpchnkbaaDoor.Trig Go.Proofs.YtnbicphpchnkbaaDoor.Trigc Go.Proofs.YtnbicphpchnkbaaDoorW.PrintWords Go.Proofs.YtnbicphpchnkbaaDoorW.PrintLast Go.Proofs.YtnbicphpchnkbaaDoorW.PrintMore
set_option linter.unusedVariables false

theorem dbl_fuel (n : Nat) : ∀ {a b : Int}, 144115188075855872 ≤ (if a < b then b else a) * 2 ^ n → dbl (n + 1) a b = dbl n a b := by
  induction n with
  | zero =>
    intro a b h
    rw [Int.pow_zero, Int.mul_one] at h
    rw [dbl_done _ (by omega), dbl_done _ (by omega)]
  | succ n ih =>
    intro a b h
    by_cases hc : (if a < b then b else a) < 144115188075855872
    · rw [dbl_more _ hc, dbl_more _ hc]
      refine ih ?_
      have e3 : (if a * 2 < b * 2 then b * 2 else a * 2) = (if a < b then b else a) * 2 := by (repeat' split) <;> omega
      rw [e3, Int.mul_assoc]
      rw [Int.pow_succ, Int.mul_comm (2 ^ n) 2] at h
      exact h
    · rw [dbl_done _ hc, dbl_done _ hc]
theorem dbl_more2 {a b : Int} {m n : Nat} (hm : m = n + 1) (h : (if a < b then b else a) < 144115188075855872) : dbl m a b = dbl n (a * 2) (b * 2) := by
  subst hm
  exact dbl_more n h
theorem dbl_fuel2 {m n : Nat} {a b : Int} (hm : m = n + 1) (h : 144115188075855872 ≤ (if a < b then b else a) * 2 ^ n) : dbl m a b = dbl n a b := by
  subst hm
  exact dbl_fuel n h
theorem TrigSides (y x : Int) (w0 : (Lit.int .i64 y).wf = true) (w1 : (Lit.int .i64 x).wf = true) : ∃ n, outriggerlaw05_TrigSides.f n y x = some true := by
  refine ⟨1, ?_⟩
  unfold outriggerlaw05_TrigSides.f
  have done : ∀ c : Bool, c = true → outriggerlaw05_TrigSides.j0 1 y x true c = some true := by
    intro c hc
    rw [outriggerlaw05_TrigSides.j0]
    exact yes_of hc rfl
  refine bind_of outriggerlaw05_awake.known ?_
  by_cases h1 : y ≤ 0
  · exact yes_of h1 (done _ rfl)
  by_cases h2 : x ≤ 0
  · exact no_of h1 (yes_of h2 (done _ rfl))
  by_cases h3 : y > 144115188075855872
  · exact no_of h1 (no_of h2 (yes_of h3 (done _ rfl)))
  by_cases h4 : x > 144115188075855872
  · exact no_of h1 (no_of h2 (no_of h3 (done _ (by simpa using h4))))
  refine no_of h1 (no_of h2 (no_of h3 ?_))
  rw [outriggerlaw05_TrigSides.j0]
  refine no_of (by simpa using h4) ?_
  have ax : (if x < 0 then -x else x) = x := by rw [if_neg (by omega)]
  have ay : (if y < 0 then -y else y) = y := by rw [if_neg (by omega)]
  have bx : (if -x < 0 then - -x else -x) = x := by rw [if_pos (by omega)]; omega
  have by' : (if -y < 0 then - -y else -y) = y := by rw [if_pos (by omega)]; omega
  have t1 := atan_is (y := y) (x := x) (by omega) (by omega) (by omega) (by omega) (by omega)
  have t2 := atan_is (y := -y) (x := x) (by omega) (by omega) (by omega) (by omega) (by omega)
  have t3 := atan_is (y := y) (x := -x) (by omega) (by omega) (by omega) (by omega) (by omega)
  have t4 := atan_is (y := -y) (x := -x) (by omega) (by omega) (by omega) (by omega) (by omega)
  rw [ax, ay] at t1
  rw [ax, by'] at t2
  rw [bx, ay] at t3
  rw [bx, by'] at t4
  have hd : (mx x y) < 72057594037927936 → trig_Atan.f (2 * y) (2 * x) = ares (2 * x) (2 * y) (rnd (arun 32 ((dbl 64 x y).1, (dbl 64 x y).2, 0)).2.2) := by
    intro h
    have t5 := atan_is (y := 2 * y) (x := 2 * x) (by omega) (by omega) (by omega) (by omega) (by omega)
    have cx : (if 2 * x < 0 then -(2 * x) else 2 * x) = x * 2 := by rw [if_neg (by omega)]; omega
    have cy : (if 2 * y < 0 then -(2 * y) else 2 * y) = y * 2 := by rw [if_neg (by omega)]; omega
    rw [cx, cy] at t5
    have hm : (if x < y then y else x) < 144115188075855872 := by unfold mx at h; omega
    have p63 : (2 : Int) ^ 63 = 9223372036854775808 := by decide
    have e1 := dbl_more2 (m := 64) (n := 63) rfl hm
    have e2 : dbl 64 (x * 2) (y * 2) = dbl 63 (x * 2) (y * 2) := by
      refine dbl_fuel2 rfl ?_
      rw [p63]
      split <;> omega
    rw [e2, ← e1] at t5
    exact t5
  have hv := rnd_bd (arun 32 ((dbl 64 x y).1, (dbl 64 x y).2, 0)).2.2
  generalize rnd (arun 32 ((dbl 64 x y).1, (dbl 64 x y).2, 0)).2.2 = v at *
  rw [ares_is _ _ _ hv.1 hv.2, if_neg (by omega), if_neg (by omega)] at t1
  rw [ares_is _ _ _ hv.1 hv.2, if_neg (by omega), if_pos (by omega)] at t2
  rw [ares_is _ _ _ hv.1 hv.2, if_pos (by omega), if_neg (by omega)] at t3
  rw [ares_is _ _ _ hv.1 hv.2, if_pos (by omega), if_pos (by omega)] at t4
  have wy : wrap64 (-y) = -y := w64 (by omega) (by omega)
  have wx : wrap64 (-x) = -x := w64 (by omega) (by omega)
  have wy2 : wrap64 (2 * y) = 2 * y := w64 (by omega) (by omega)
  have wx2 : wrap64 (2 * x) = 2 * x := w64 (by omega) (by omega)
  rw [wy, wx, wy2, wx2]
  refine bind_of t1 (yes_of rfl (bind_of t2 (bind_of (angle_is _) (yes_of ?_ (bind_of t3 (bind_of (angle_is _) (yes_of ?_ (bind_of t4 (bind_of (angle_is _) (yes_of ?_ ?_))))))))))
  · rw [w64 (by omega) (by omega)]; omega
  · rw [w64 (by omega) (by omega)]; omega
  · rw [w64 (by omega) (by omega)]; omega
  · by_cases h : (mx x y) ≥ 72057594037927936
    · exact yes_of h rfl
    · have t5 := hd (by omega)
      rw [ares_is _ _ _ hv.1 hv.2, if_neg (by omega), if_neg (by omega)] at t5
      refine no_of h (bind_of t5 ?_)
      simp

end Go.Proofs.YtnbicphpchnkbaaDoor.Pure
