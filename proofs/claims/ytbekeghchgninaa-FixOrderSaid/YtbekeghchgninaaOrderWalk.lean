/- The walk of FixOrder: for every three 64-bit integers, where the callees come to what is named, the call returns true and leaves memory as it was. -/
import Derived.Test.YtbekeghchgninaaPFixBackx1
namespace Go.Proofs.Ytbekeghchgninaa.OrderWalk
open Go Go.RowKit Go.Proofs.Ytbekeghchgninaa.PFixBack Go.Proofs.YtbekeghchgninaaW.PrintWords Go.Proofs.YtbekeghchgninaaW.PrintLast Go.Proofs.YtbekeghchgninaaW.PrintMore
attribute [local go_sem] max2_int min2_int max_two min_two max_three min_three max_four min_four
set_option linter.unusedVariables false
set_option linter.unusedSimpArgs false

set_option maxHeartbeats 4000000 in
set_option maxRecDepth 100000 in
theorem order_calls (a b c x y s t u v f1 f2 n1 n2 m1 m2 g h i : Int) (p1 p2 p3 p4 : Bool) (w : World)
    (hx : (if b < a then b else a) = x) (hy : (if a < b then b else a) = y)
    (e0 : outriggerlaw01_awake.f = some true) (e1 : fix_Add.f x c = some (s, p1)) (e2 : fix_Add.f y c = some (t, p2)) (e3 : fix_Sub.f x c = some (u, p3)) (e4 : fix_Sub.f y c = some (v, p4))
    (e5 : fix_Floor.f x = some f1) (e6 : fix_Floor.f y = some f2) (e7 : fix_Near.f x = some n1) (e8 : fix_Near.f y = some n2) (e9 : fix_Neg.f y = some m1) (e10 : fix_Neg.f x = some m2)
    (e11 : fix_Abs.f a = some g) (e12 : fix_Neg.f a = some h) (e13 : fix_Abs.f h = some g) (e14 : fix_Neg.f h = some i) (e15 : fix_Neg.f i = some h)
    (k1 : decide (s ≤ t) = true) (k2 : decide (u ≤ v) = true) (k3 : decide (f1 ≤ f2) = true) (k4 : decide (n1 ≤ n2) = true) (k5 : decide (m1 ≤ m2) = true) (k6 : decide (0 ≤ g) = true) :
    Calls Try.prog 7 #[.int .i64 a, .int .i64 b, .int .i64 c] w fun e w' => e = .returned (.bool true) ∧ Below w.heap.size w w' := by
  have HB := Aside0.mk (Below.refl w.heap.size w)
  have A0 := Aside0.mk e0
  clear e0
  have A1 := Aside0.mk e1
  clear e1
  have A2 := Aside0.mk e2
  clear e2
  have A3 := Aside0.mk e3
  clear e3
  have A4 := Aside0.mk e4
  clear e4
  have A5 := Aside0.mk e5
  clear e5
  have A6 := Aside0.mk e6
  clear e6
  have A7 := Aside0.mk e7
  clear e7
  have A8 := Aside0.mk e8
  clear e8
  have A9 := Aside0.mk e9
  clear e9
  have A10 := Aside0.mk e10
  clear e10
  have A11 := Aside0.mk e11
  clear e11
  have A12 := Aside0.mk e12
  clear e12
  have A13 := Aside0.mk e13
  clear e13
  have A14 := Aside0.mk e14
  clear e14
  have A15 := Aside0.mk e15
  clear e15
  go_enter Try.func7, Try.ntmps7
  go_wp2_with (first | ((with_reducible refine gate_callee (f := 8) rfl ?_); refine goesL_ (some 18) rfl rfl Try.func8 (by kernel_rfl) rfl #[] rfl (by (try simp only [List.map_toArray, List.map_cons, List.map_nil]); first | done | rfl) ?_; (with_reducible refine (outriggerlaw01_awake.calls true _ A0.out).mono ?_); rintro e wx ⟨rfl, hb⟩; refine ⟨_, rfl, ?_⟩; have n0_ := Aside0.mk (below_step (by repeat (first | (with_reducible first | exact HB.out | apply below_alloc | apply pw_below_drewN | apply below_drew1) | exact HB.out)) hb); clear HB; have HB := n0_; clear n0_; (try clear hb); (try clear hb2); (try clear hk); (try clear hi)) | ((with_reducible refine gate_callee (f := 14) rfl ?_); refine goesL_ (some 28) rfl rfl Try.func14 (by kernel_rfl) rfl #[.int .i64 x, .int .i64 c] rfl (by (try simp only [List.map_toArray, List.map_cons, List.map_nil]); first | done | (simp only [hx]; rfl) | rfl) ?_; (with_reducible refine (fix_Add.calls x c s p1 _ A1.out).mono ?_); rintro e wx ⟨rfl, hb⟩; refine ⟨_, rfl, ?_⟩; have n0_ := Aside0.mk (below_step (by repeat (first | (with_reducible first | exact HB.out | apply below_alloc | apply pw_below_drewN | apply below_drew1) | exact HB.out)) hb); clear HB; have HB := n0_; clear n0_; (try clear hb); (try clear hb2); (try clear hk); (try clear hi)) | ((with_reducible refine gate_callee (f := 14) rfl ?_); refine goesL_ (some 34) rfl rfl Try.func14 (by kernel_rfl) rfl #[.int .i64 y, .int .i64 c] rfl (by (try simp only [List.map_toArray, List.map_cons, List.map_nil]); first | done | (simp only [hy]; rfl) | rfl) ?_; (with_reducible refine (fix_Add.calls y c t p2 _ A2.out).mono ?_); rintro e wx ⟨rfl, hb⟩; refine ⟨_, rfl, ?_⟩; have n0_ := Aside0.mk (below_step (by repeat (first | (with_reducible first | exact HB.out | apply below_alloc | apply pw_below_drewN | apply below_drew1) | exact HB.out)) hb); clear HB; have HB := n0_; clear n0_; (try clear hb); (try clear hb2); (try clear hk); (try clear hi)) | ((with_reducible refine gate_callee (f := 18) rfl ?_); refine goesL_ (some 40) rfl rfl Try.func18 (by kernel_rfl) rfl #[.int .i64 x, .int .i64 c] rfl (by (try simp only [List.map_toArray, List.map_cons, List.map_nil]); first | done | (simp only [hx]; rfl) | rfl) ?_; (with_reducible refine (fix_Sub.calls x c u p3 _ A3.out).mono ?_); rintro e wx ⟨rfl, hb⟩; refine ⟨_, rfl, ?_⟩; have n0_ := Aside0.mk (below_step (by repeat (first | (with_reducible first | exact HB.out | apply below_alloc | apply pw_below_drewN | apply below_drew1) | exact HB.out)) hb); clear HB; have HB := n0_; clear n0_; (try clear hb); (try clear hb2); (try clear hk); (try clear hi)) | ((with_reducible refine gate_callee (f := 18) rfl ?_); refine goesL_ (some 46) rfl rfl Try.func18 (by kernel_rfl) rfl #[.int .i64 y, .int .i64 c] rfl (by (try simp only [List.map_toArray, List.map_cons, List.map_nil]); first | done | (simp only [hy]; rfl) | rfl) ?_; (with_reducible refine (fix_Sub.calls y c v p4 _ A4.out).mono ?_); rintro e wx ⟨rfl, hb⟩; refine ⟨_, rfl, ?_⟩; have n0_ := Aside0.mk (below_step (by repeat (first | (with_reducible first | exact HB.out | apply below_alloc | apply pw_below_drewN | apply below_drew1) | exact HB.out)) hb); clear HB; have HB := n0_; clear n0_; (try clear hb); (try clear hb2); (try clear hk); (try clear hi)) | (go_at_call 10; (with_reducible refine (fix_Floor.calls x f1 _ A5.out).mono ?_); rintro e wx ⟨rfl, hb⟩; have n0_ := Aside0.mk (below_step (by repeat (first | (with_reducible first | exact HB.out | apply below_alloc | apply pw_below_drewN | apply below_drew1) | exact HB.out)) hb); clear HB; have HB := n0_; clear n0_; (try clear hb); (try clear hb2); (try clear hk); (try clear hi)) | (go_at_call 10; (with_reducible refine (fix_Floor.calls y f2 _ A6.out).mono ?_); rintro e wx ⟨rfl, hb⟩; have n0_ := Aside0.mk (below_step (by repeat (first | (with_reducible first | exact HB.out | apply below_alloc | apply pw_below_drewN | apply below_drew1) | exact HB.out)) hb); clear HB; have HB := n0_; clear n0_; (try clear hb); (try clear hb2); (try clear hk); (try clear hi)) | (go_at_call 13; (with_reducible refine (fix_Near.calls x n1 _ A7.out).mono ?_); rintro e wx ⟨rfl, hb⟩; have n0_ := Aside0.mk (below_step (by repeat (first | (with_reducible first | exact HB.out | apply below_alloc | apply pw_below_drewN | apply below_drew1) | exact HB.out)) hb); clear HB; have HB := n0_; clear n0_; (try clear hb); (try clear hb2); (try clear hk); (try clear hi)) | (go_at_call 13; (with_reducible refine (fix_Near.calls y n2 _ A8.out).mono ?_); rintro e wx ⟨rfl, hb⟩; have n0_ := Aside0.mk (below_step (by repeat (first | (with_reducible first | exact HB.out | apply below_alloc | apply pw_below_drewN | apply below_drew1) | exact HB.out)) hb); clear HB; have HB := n0_; clear n0_; (try clear hb); (try clear hb2); (try clear hk); (try clear hi)) | (go_at_call 15; (with_reducible refine (fix_Neg.calls y m1 _ A9.out).mono ?_); rintro e wx ⟨rfl, hb⟩; have n0_ := Aside0.mk (below_step (by repeat (first | (with_reducible first | exact HB.out | apply below_alloc | apply pw_below_drewN | apply below_drew1) | exact HB.out)) hb); clear HB; have HB := n0_; clear n0_; (try clear hb); (try clear hb2); (try clear hk); (try clear hi)) | (go_at_call 15; (with_reducible refine (fix_Neg.calls x m2 _ A10.out).mono ?_); rintro e wx ⟨rfl, hb⟩; have n0_ := Aside0.mk (below_step (by repeat (first | (with_reducible first | exact HB.out | apply below_alloc | apply pw_below_drewN | apply below_drew1) | exact HB.out)) hb); clear HB; have HB := n0_; clear n0_; (try clear hb); (try clear hb2); (try clear hk); (try clear hi)) | (go_at_call 22; (with_reducible refine (fix_Abs.calls a g _ A11.out).mono ?_); rintro e wx ⟨rfl, hb⟩; have n0_ := Aside0.mk (below_step (by repeat (first | (with_reducible first | exact HB.out | apply below_alloc | apply pw_below_drewN | apply below_drew1) | exact HB.out)) hb); clear HB; have HB := n0_; clear n0_; (try clear hb); (try clear hb2); (try clear hk); (try clear hi)) | (go_at_call 15; (with_reducible refine (fix_Neg.calls a h _ A12.out).mono ?_); rintro e wx ⟨rfl, hb⟩; have n0_ := Aside0.mk (below_step (by repeat (first | (with_reducible first | exact HB.out | apply below_alloc | apply pw_below_drewN | apply below_drew1) | exact HB.out)) hb); clear HB; have HB := n0_; clear n0_; (try clear hb); (try clear hb2); (try clear hk); (try clear hi)) | (go_at_call 22; (with_reducible refine (fix_Abs.calls h g _ A13.out).mono ?_); rintro e wx ⟨rfl, hb⟩; have n0_ := Aside0.mk (below_step (by repeat (first | (with_reducible first | exact HB.out | apply below_alloc | apply pw_below_drewN | apply below_drew1) | exact HB.out)) hb); clear HB; have HB := n0_; clear n0_; (try clear hb); (try clear hb2); (try clear hk); (try clear hi)) | (go_at_call 15; (with_reducible refine (fix_Neg.calls h i _ A14.out).mono ?_); rintro e wx ⟨rfl, hb⟩; have n0_ := Aside0.mk (below_step (by repeat (first | (with_reducible first | exact HB.out | apply below_alloc | apply pw_below_drewN | apply below_drew1) | exact HB.out)) hb); clear HB; have HB := n0_; clear n0_; (try clear hb); (try clear hb2); (try clear hk); (try clear hi)) | (go_at_call 15; (with_reducible refine (fix_Neg.calls i h _ A15.out).mono ?_); rintro e wx ⟨rfl, hb⟩; have n0_ := Aside0.mk (below_step (by repeat (first | (with_reducible first | exact HB.out | apply below_alloc | apply pw_below_drewN | apply below_drew1) | exact HB.out)) hb); clear HB; have HB := n0_; clear n0_; (try clear hb); (try clear hb2); (try clear hk); (try clear hi)))
  go_ret
  exact ⟨by first | rfl | (simp; done), by repeat (first | (with_reducible first | exact HB.out | apply below_alloc | apply pw_below_drewN | apply below_drew1) | exact HB.out)⟩

end Go.Proofs.Ytbekeghchgninaa.OrderWalk
