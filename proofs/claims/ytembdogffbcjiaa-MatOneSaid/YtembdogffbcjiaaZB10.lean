/- Lemmas that the row leans on; laid by a program of this project out of longer texts: what the row does not name is left out. -/
import Derived.Test.YtembdogffbcjiaaZB0
import Derived.Test.YtembdogffbcjiaaZB3
import Derived.Test.YtembdogffbcjiaaZB4
import Derived.Test.YtembdogffbcjiaaZB8
import Derived.Test.YtembdogffbcjiaaZB9
import Derived.Test.YtembdogffbcjiaaZSSeq
namespace Go.Proofs.Ytembdogffbcjiaa.B
open Go.RowKit Go.Proofs.YtembdogffbcjiaaW.PrintWords Go.Proofs.YtembdogffbcjiaaW.PrintLast Go.Proofs.YtembdogffbcjiaaW.PrintMore
attribute [local go_sem] max2_int min2_int max_two min_two max_three min_three max_four min_four
set_option linter.unusedVariables false
set_option linter.unusedSimpArgs false
def sum_values.l0 : Nat → List Int → Int → Int → Int → Int → Option (Int × Int)
  | 0, _, _, _, _, _ => none
  | k + 1, x0, x19, x20, x334000, x334001 => if x20 < x19 then ((sum_values_1.f x20 x0).bind fun bt334 => ((wide_Add.f x334000 x334001 bt334.1 bt334.2).bind fun bt336 => (sum_values.l0 k x0 x19 (wrap64 (x20 + 1)) bt336.1 bt336.2.1))) else (some (x334000, x334001))
def sum_values.f (k : Nat) (l0 : List Int) : Option (Int × Int) := sum_values.l0 k l0 (l0.length : Int) 0 0 0
theorem sum_values.zs (l : List Int) (hl : l.length ≤ 64) : ∀ (k i : Nat) (s r : Int × Int), i ≤ l.length → sum_values.l0 k l (l.length : Int) (i : Int) s.1 s.2 = some r → ∃ zs : List (Int × Int), zs.length + i = l.length ∧ (∀ (j : Nat) x, zs[j]? = some x → sum_values_1.f ((j + i : Nat) : Int) l = some x) ∧ sumZ zs s = some r
 | 0, i, s, r, _, h => by simp [sum_values.l0] at h
 | k + 1, i, s, r, hi, h => by
  simp only [sum_values.l0] at h
  by_cases c : (i : Int) < (l.length : Int)
  ·rw [if_pos c] at h
   obtain ⟨x, hx, h⟩ := Option.bind_eq_some_iff.mp h
   obtain ⟨t, ht, h⟩ := Option.bind_eq_some_iff.mp h
   have hw : wrap64 ((i : Int) + 1) = ((i + 1 : Nat) : Int) := by unfold wrap64; omega
   rw [hw] at h
   obtain ⟨zs, h1, h2, h3⟩ := sum_values.zs l hl k (i + 1) (t.1, t.2.1) r (by omega) h
   refine ⟨x :: zs, by simp; omega, ?_, ?_⟩
   ·intro j y hy
    cases j with
    | zero => simp at hy; subst hy; simpa using hx
    | succ j =>
     have := h2 j y (by simpa using hy)
     rw [show j + 1 + i = j + (i + 1) by omega]
     exact this
   ·simp only [sumZ]
    rw [ht]
    exact h3
  ·rw [if_neg c] at h
   have : s = r := Option.some.inj h
   subst this
   exact ⟨[], by simp; omega, by simp, rfl⟩
theorem sum_values.calls (k : Nat) (A0 : Option Addr) (c0 : Nat) (l0 : List Int) (r1 : Int) (r2 : Int) (w : World) (hr0 : Kd.C (Kd.int .i64) w A0 l0.length l0) (hc0 : l0.length ≤ c0) (hlen_ : l0.length ≤ 64) (h : sum_values.f k l0 = some (r1, r2)) :
  Calls Try.prog 47 #[.slice A0 l0.length c0] w fun e w' => ∃ B1 B2, e = .returned (.func (.func 80) #[] #[.pointer (some ⟨B1, 0, none⟩), .pointer (some ⟨B2, 0, none⟩)]) ∧ SumsTo w' B1 B2 r1 r2 ∧ Below w.heap.size w w' := by
 obtain ⟨zs, h1, h2, h3⟩ := sum_values.zs l0 hlen_ k 0 (0, 0) (r1, r2) (by omega) h
 refine (values_gives A0 l0.length c0 zs (by omega) hlen_ w (fun j x hx B W' hB hb => ?_)).mono ?_
 ·exact sum_values_1.calls j A0 c0 l0 x.1 x.2 W' (Kd.C_below hr0 hb) hc0 B ⟨hB⟩ (by have := h2 j x hx; simpa using this)
 ·rintro e w' ⟨B1, B2, he, hG, hb⟩
  exact ⟨B1, B2, he, ⟨_, zs, hG, h3⟩, hb⟩
def sum_Total.f (k : Nat) (l0 : List Int) : Option (Int × Bool) := if 0 ≤ (mn (l0.length : Int) 64) then (if (mn (l0.length : Int) 64) ≤ (l0.length : Int) then ((sum_values.f k (l0.take ((mn (l0.length : Int) 64) : Int).toNat)).bind fun bt340 => ((wide_Int.f k bt340.1 bt340.2).bind fun bt342 => (if bt342.2 = true then ((sum_changed.f k (l0.take ((mn (l0.length : Int) 64) : Int).toNat)).bind fun t344 => (some (bt342.1, t344))) else (some (bt342.1, true))))) else (none)) else (none)
set_option maxHeartbeats 8000000 in
set_option maxRecDepth 100000 in
theorem sum_Total.calls (k : Nat) (A0 : Option Addr) (c0 : Nat) (l0 : List Int) (r1 : Int) (r2 : Bool) (w : World) (hr0 : Kd.C (Kd.int .i64) w A0 l0.length l0) (hc0 : l0.length ≤ c0) (h : sum_Total.f k l0 = some (r1, r2)) :
  Calls Try.prog 26 #[.slice A0 l0.length c0] w fun e w' => e = .returned (.tuple #[.int .i64 r1, .bool r2]) ∧ Below w.heap.size w w' := by
 have HR0 := Aside0.mk hr0
 have HC0 := Aside0.mk hc0
 clear hr0 hc0
 have HB := Aside0.mk (Below.refl w.heap.size w)
 have H : (if 0 ≤ (mn (l0.length : Int) 64) then (if (mn (l0.length : Int) 64) ≤ (l0.length : Int) then ((sum_values.f k (l0.take ((mn (l0.length : Int) 64) : Int).toNat)).bind fun bt340 => ((wide_Int.f k bt340.1 bt340.2).bind fun bt342 => (if bt342.2 = true then ((sum_changed.f k (l0.take ((mn (l0.length : Int) 64) : Int).toNat)).bind fun t344 => (some (bt342.1, t344))) else (some (bt342.1, true))))) else (none)) else (none)) = some (r1, r2) := h
 clear h
 obtain ⟨ji2, hji2⟩ : ∃ j_ : Int, (mn (l0.length : Int) 64) = j_ := ⟨_, rfl⟩
 replace H : (if 0 ≤ (ji2) then (if (ji2) ≤ (l0.length : Int) then ((sum_values.f k (l0.take ((ji2) : Int).toNat)).bind fun bt340 => ((wide_Int.f k bt340.1 bt340.2).bind fun bt342 => (if bt342.2 = true then ((sum_changed.f k (l0.take ((ji2) : Int).toNat)).bind fun t344 => (some (bt342.1, t344))) else (some (bt342.1, true))))) else (none)) else (none)) = some (r1, r2) := by first | (rw [hji2] at H; exact H) | (simp only [hji2] at H ⊢; exact H)
 (try (have hji2h : ji2 ≤ 64 := by (rw [← hji2]; unfold mn; (repeat' split) <;> omega)))
 (try (have hji2g : ji2 ≤ 64 := by omega))
 (try (have hji2l : 0 ≤ ji2 := by (rw [← hji2]; unfold mn; (repeat' split) <;> omega)))
 (try (have hji2m : 0 ≤ ji2 := by omega))
 have hji2_ : (if 64 < (l0.length : Int) then 64 else (l0.length : Int)) = ji2 := hji2
 obtain ⟨m0, hm0⟩ : ∃ m_ : List Int, (l0.take ((ji2) : Int).toNat) = m_ := ⟨_, rfl⟩
 rw [hm0] at H
 have hm9 := Aside0.mk (show m0.length ≤ 64 by rw [← hm0, List.length_take]; omega)
 by_cases c3 : 0 ≤ (ji2)
 ·rw [if_pos c3] at H
  have c3b0 := eq_true c3
  have c3b1 : decide (0 ≤ (ji2)) = true := decide_eq_true c3
  clear c3
  by_cases c4 : (ji2) ≤ (l0.length : Int)
  ·rw [if_pos c4] at H
   have c4b0 := eq_true c4
   have c4b1 : decide ((ji2) ≤ (l0.length : Int)) = true := decide_eq_true c4
   clear c4
   replace H := Option.bind_eq_some_iff.mp H
   obtain ⟨⟨t340, t341⟩, A50, H⟩ := H
   replace H : ((wide_Int.f k t340 t341).bind fun bt342 => (if bt342.2 = true then ((sum_changed.f k m0).bind fun t344 => (some (bt342.1, t344))) else (some (bt342.1, true)))) = some (r1, r2) := H
   have A5 := Aside0.mk A50
   clear A50
   replace H := Option.bind_eq_some_iff.mp H
   obtain ⟨⟨t342, t343⟩, A60, H⟩ := H
   replace H : (if t343 = true then ((sum_changed.f k m0).bind fun t344 => (some (t342, t344))) else (some (t342, true))) = some (r1, r2) := H
   have A6 := Aside0.mk A60
   clear A60
   by_cases c7 : t343 = true
   ·subst c7
    have H1 : ((sum_changed.f k m0).bind fun t344 => (some (t342, t344))) = some (r1, r2) := by rw [if_pos rfl] at H; exact H
    clear H
    have H := H1
    clear H1
    replace H := Option.bind_eq_some_iff.mp H
    obtain ⟨t344, A80, H⟩ := H
    replace H : (some (t342, t344)) = some (r1, r2) := H
    have A8 := Aside0.mk A80
    clear A80
    simp only [Option.some.injEq, Prod.mk.injEq] at H
    obtain ⟨rfl, rfl⟩ := H
    obtain ⟨i09, hi09, _, hsz9, _⟩ := info_parts info3
    obtain ⟨hcut9, hA9, hC9⟩ := print_take_of (P := Try.prog) (Value.int .i64) 0 23 3 .i64 Try.underlying23 hi09 hsz9 A0 c0 l0 (ji2) (of_decide_eq_true (by first | (with_reducible assumption) | assumption)) (of_decide_eq_true (by first | (with_reducible assumption) | assumption)) HC0.out
    rw [hm0] at hA9 hC9
    clear hcut9
    have HR339 := Aside0.mk (Kd.C_of_reads (h1 := fun _ => rfl) (hA9 _ (Kd.reads_of_C HR0.out)))
    have HC339 := Aside0.mk hC9
    clear hA9 hC9 hi09 hsz9
    go_enter Try.func26, Try.ntmps26
    go_wp2_with (first | ((with_reducible refine gate_callee (f := 44) rfl ?_); refine goesL_ (some 7) rfl rfl Try.func44 (by kernel_rfl) rfl #[.slice A0 l0.length c0] rfl (by (try simp only [List.map_toArray, List.map_cons, List.map_nil]); first | done | rfl) ?_; (refine (sum_cut.own A0 c0 l0 m0 _ hm0 hji2_ HC0.out _).mono ?_); rintro e w21_ ⟨rfl, rfl⟩; refine ⟨_, rfl, ?_⟩) | ((with_reducible refine gate_callee (f := 47) rfl ?_); refine goesL_ (some 10) rfl rfl Try.func47 (by kernel_rfl) rfl #[.slice A0 m0.length c0] rfl (by (try simp only [List.map_toArray, List.map_cons, List.map_nil]); first | done | (rw [show m0.length = (ji2).toNat from (by rw [List.length_take]; have h_ : ((ji2) : Int) ≤ (l0.length : Int) := of_decide_eq_true (by first | (with_reducible assumption) | assumption); omega)] <;> rfl) | (simp only [hji2]; rfl) | rfl | (simp only [List.length_drop, List.length_take]; rfl)) ?_; (with_reducible refine (sum_values.calls k _ _ m0 t340 t341 _ ?side1 ?side2 ?side9 A5.out).mono ?_); (case side1 => repeat (first | exact HR339.out | (with_reducible refine Kd.C_alloc ?_ _) | (with_reducible refine Kd.C_drewN ?_ _) | (with_reducible refine Kd.C_drew ?_))); (case side2 => exact HC339.out); (case side9 => first | exact hm9.out | exact hm8.out | (rw [List.length_take]; omega)); rintro e w10 ⟨B1_, B2_, rfl, hG_, hb⟩; refine ⟨_, rfl, ?_⟩; have n0_ := Aside0.mk (below_step (by repeat (first | (with_reducible first | exact HB.out | apply below_alloc | apply pw_below_drewN | apply below_drew1) | exact HB.out)) hb); clear HB; have HB := n0_; clear n0_; (try clear hb); (try clear hb2); (try clear hk); (try clear hi)) | ((with_reducible refine gate_callee (f := 46) rfl ?_); refine goesL_ (some 11) rfl rfl Try.func46 (by kernel_rfl) rfl #[.func (.func 80) #[] #[.pointer (some ⟨B1_, 0, none⟩), .pointer (some ⟨B2_, 0, none⟩)]] rfl (by (try simp only [List.map_toArray, List.map_cons, List.map_nil]); first | done | rfl) ?_; (with_reducible refine (sum_add.calls _ _ t340 t341 _ ?sideG).mono ?_); (case sideG => first | exact hG_ | exact hG_.later (by repeat (first | exact Below.refl _ _ | apply below_alloc | apply pw_below_drewN | apply below_drew1))); rintro e w10_ ⟨rfl, hb⟩; refine ⟨_, rfl, ?_⟩; have n0_ := Aside0.mk (below_step (by repeat (first | (with_reducible first | exact HB.out | apply below_alloc | apply pw_below_drewN | apply below_drew1) | exact HB.out)) hb); clear HB; have HB := n0_; clear n0_; (try clear hb); (try clear hb2); (try clear hk); (try clear hi)) | ((with_reducible refine gate_callee (f := 45) rfl ?_); refine goesL_ (some 12) rfl rfl Try.func45 (by kernel_rfl) rfl #[.agg #[.int .i64 t340, .int .i64 t341]] rfl (by (try simp only [List.map_toArray, List.map_cons, List.map_nil]); first | done | rfl | (simp only [List.length_drop, List.length_take]; rfl)) ?_; (with_reducible refine (wide_Int.calls k t340 t341 t342 true _ A6.out).mono ?_); rintro e w11 ⟨rfl, hb⟩; refine ⟨_, rfl, ?_⟩; have n0_ := Aside0.mk (below_step (by repeat (first | (with_reducible first | exact HB.out | apply below_alloc | apply pw_below_drewN | apply below_drew1) | exact HB.out)) hb); clear HB; have HB := n0_; clear n0_; (try clear hb); (try clear hb2); (try clear hk); (try clear hi)) | (go_at_call 48; (with_reducible refine (sum_changed.calls k _ _ m0 t344 _ ?side1 ?side2 ?side9 A8.out).mono ?_); (case side1 => repeat (first | exact (Kd.C_below HR339.out HB.out) | (with_reducible refine Kd.C_alloc ?_ _) | (with_reducible refine Kd.C_drewN ?_ _) | (with_reducible refine Kd.C_drew ?_))); (case side2 => exact HC339.out); (case side9 => first | exact hm9.out | exact hm8.out | (rw [List.length_take]; omega)); rintro e w12 ⟨rfl, hb⟩; have n0_ := Aside0.mk (below_step (by repeat (first | (with_reducible first | exact HB.out | apply below_alloc | apply pw_below_drewN | apply below_drew1) | exact HB.out)) hb); clear HB; have HB := n0_; clear n0_; (try clear hb); (try clear hb2); (try clear hk); (try clear hi)))
    go_ret2
    exact ⟨by first | rfl | (simp [errW_none, errW_some] <;> rfl) | (simp only [← hji2]; first | rfl | (simp [errW_none, errW_some] <;> rfl)) | (simp [*, errW_none, errW_some] <;> rfl), by repeat (first | (with_reducible first | exact HB.out | apply below_alloc | apply pw_below_drewN | apply below_drew1) | exact HB.out)⟩
   ·replace c7 := Bool.eq_false_iff.mpr c7
    subst c7
    have H1 : (some (t342, true)) = some (r1, r2) := by rw [if_neg (show ¬ (false = true) by decide)] at H; exact H
    clear H
    have H := H1
    clear H1
    simp only [Option.some.injEq, Prod.mk.injEq] at H
    obtain ⟨rfl, rfl⟩ := H
    obtain ⟨i013, hi013, _, hsz13, _⟩ := info_parts info3
    obtain ⟨hcut13, hA13, hC13⟩ := print_take_of (P := Try.prog) (Value.int .i64) 0 23 3 .i64 Try.underlying23 hi013 hsz13 A0 c0 l0 (ji2) (of_decide_eq_true (by first | (with_reducible assumption) | assumption)) (of_decide_eq_true (by first | (with_reducible assumption) | assumption)) HC0.out
    rw [hm0] at hA13 hC13
    clear hcut13
    have HR339 := Aside0.mk (Kd.C_of_reads (h1 := fun _ => rfl) (hA13 _ (Kd.reads_of_C HR0.out)))
    have HC339 := Aside0.mk hC13
    clear hA13 hC13 hi013 hsz13
    go_enter Try.func26, Try.ntmps26
    go_wp2_with (first | ((with_reducible refine gate_callee (f := 44) rfl ?_); refine goesL_ (some 7) rfl rfl Try.func44 (by kernel_rfl) rfl #[.slice A0 l0.length c0] rfl (by (try simp only [List.map_toArray, List.map_cons, List.map_nil]); first | done | rfl) ?_; (refine (sum_cut.own A0 c0 l0 m0 _ hm0 hji2_ HC0.out _).mono ?_); rintro e w21_ ⟨rfl, rfl⟩; refine ⟨_, rfl, ?_⟩) | ((with_reducible refine gate_callee (f := 47) rfl ?_); refine goesL_ (some 10) rfl rfl Try.func47 (by kernel_rfl) rfl #[.slice A0 m0.length c0] rfl (by (try simp only [List.map_toArray, List.map_cons, List.map_nil]); first | done | (rw [show m0.length = (ji2).toNat from (by rw [List.length_take]; have h_ : ((ji2) : Int) ≤ (l0.length : Int) := of_decide_eq_true (by first | (with_reducible assumption) | assumption); omega)] <;> rfl) | (simp only [hji2]; rfl) | rfl | (simp only [List.length_drop, List.length_take]; rfl)) ?_; (with_reducible refine (sum_values.calls k _ _ m0 t340 t341 _ ?side1 ?side2 ?side9 A5.out).mono ?_); (case side1 => repeat (first | exact HR339.out | (with_reducible refine Kd.C_alloc ?_ _) | (with_reducible refine Kd.C_drewN ?_ _) | (with_reducible refine Kd.C_drew ?_))); (case side2 => exact HC339.out); (case side9 => first | exact hm9.out | exact hm8.out | (rw [List.length_take]; omega)); rintro e w14 ⟨B1_, B2_, rfl, hG_, hb⟩; refine ⟨_, rfl, ?_⟩; have n0_ := Aside0.mk (below_step (by repeat (first | (with_reducible first | exact HB.out | apply below_alloc | apply pw_below_drewN | apply below_drew1) | exact HB.out)) hb); clear HB; have HB := n0_; clear n0_; (try clear hb); (try clear hb2); (try clear hk); (try clear hi)) | ((with_reducible refine gate_callee (f := 46) rfl ?_); refine goesL_ (some 11) rfl rfl Try.func46 (by kernel_rfl) rfl #[.func (.func 80) #[] #[.pointer (some ⟨B1_, 0, none⟩), .pointer (some ⟨B2_, 0, none⟩)]] rfl (by (try simp only [List.map_toArray, List.map_cons, List.map_nil]); first | done | rfl) ?_; (with_reducible refine (sum_add.calls _ _ t340 t341 _ ?sideG).mono ?_); (case sideG => first | exact hG_ | exact hG_.later (by repeat (first | exact Below.refl _ _ | apply below_alloc | apply pw_below_drewN | apply below_drew1))); rintro e w14_ ⟨rfl, hb⟩; refine ⟨_, rfl, ?_⟩; have n0_ := Aside0.mk (below_step (by repeat (first | (with_reducible first | exact HB.out | apply below_alloc | apply pw_below_drewN | apply below_drew1) | exact HB.out)) hb); clear HB; have HB := n0_; clear n0_; (try clear hb); (try clear hb2); (try clear hk); (try clear hi)) | ((with_reducible refine gate_callee (f := 45) rfl ?_); refine goesL_ (some 12) rfl rfl Try.func45 (by kernel_rfl) rfl #[.agg #[.int .i64 t340, .int .i64 t341]] rfl (by (try simp only [List.map_toArray, List.map_cons, List.map_nil]); first | done | rfl | (simp only [List.length_drop, List.length_take]; rfl)) ?_; (with_reducible refine (wide_Int.calls k t340 t341 t342 false _ A6.out).mono ?_); rintro e w15 ⟨rfl, hb⟩; refine ⟨_, rfl, ?_⟩; have n0_ := Aside0.mk (below_step (by repeat (first | (with_reducible first | exact HB.out | apply below_alloc | apply pw_below_drewN | apply below_drew1) | exact HB.out)) hb); clear HB; have HB := n0_; clear n0_; (try clear hb); (try clear hb2); (try clear hk); (try clear hi)))
    go_ret2
    exact ⟨by first | rfl | (simp [errW_none, errW_some] <;> rfl) | (simp only [← hji2]; first | rfl | (simp [errW_none, errW_some] <;> rfl)) | (simp [*, errW_none, errW_some] <;> rfl), by repeat (first | (with_reducible first | exact HB.out | apply below_alloc | apply pw_below_drewN | apply below_drew1) | exact HB.out)⟩
  ·rw [if_neg c4] at H
   exact absurd H (by simp)
 ·rw [if_neg c3] at H
  exact absurd H (by simp)
end Go.Proofs.Ytembdogffbcjiaa.B
