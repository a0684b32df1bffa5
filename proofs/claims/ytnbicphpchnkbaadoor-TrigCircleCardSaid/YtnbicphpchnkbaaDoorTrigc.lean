/- What Go functions come to, in whole numbers: each equation holds for every input that it names. -/
import Derived.Test.YtnbicphpchnkbaaDoorNum
import Derived.Test.YtnbicphpchnkbaaDoorB2
import Derived.Test.YtnbicphpchnkbaaDoorTrig
import Derived.Test.YtnbicphpchnkbaaDoorCirc
namespace Go.Proofs.YtnbicphpchnkbaaDoor.Trigc
open Go Go.RowKit Go.Proofs.YtnbicphpchnkbaaDoor.B Go.Proofs.YtnbicphpchnkbaaDoor.Num Go.Proofs.YtnbicphpchnkbaaDoor.Trig Go.Proofs.YtnbicphpchnkbaaDoor.Circ Go.Proofs.YtnbicphpchnkbaaDoorW.PrintWords Go.Proofs.YtnbicphpchnkbaaDoorW.PrintLast Go.Proofs.YtnbicphpchnkbaaDoorW.PrintMore

theorem tri (s : Int × Int × Int) : ∃ x y z, s = (x, y, z) := ⟨s.1, s.2.1, s.2.2, rfl⟩
theorem ang_aa (k : Nat) : ang.getD k 0 = aa k := rfl
theorem brun_is {z : Int} (h0 : -35184372088832 ≤ z) (h1 : z ≤ 35184372088832) (k : Nat) (hk : k ≤ 32) : brun k (170926505739102, 0, z) = bq k (170926505739102, 0, z) := by
  induction k with
  | zero => rfl
  | succ k ih =>
    have i := ih (by omega)
    have hb := bq_bd h0 h1 (k := k + 1) hk
    show bstep k (brun k (170926505739102, 0, z)) = _
    rw [i]
    rw [bq] at hb ⊢
    unfold bstep
    rw [ang_aa]
    by_cases hz : 0 ≤ (bq k (170926505739102, 0, z)).2.2
    · rw [if_pos hz] at hb ⊢
      rw [if_pos hz]
      simp only [] at hb
      rw [w64 (by omega) (by omega), w64 (by omega) (by omega), w64 (by omega) (by omega)]
    · rw [if_neg hz] at hb ⊢
      rw [if_neg hz]
      simp only [] at hb
      rw [w64 (by omega) (by omega), w64 (by omega) (by omega), w64 (by omega) (by omega)]
theorem arun_is {a b : Int} (hb : ∀ {k : Nat}, k ≤ 32 → (-4611686018427387904 ≤ (aq k (a, b, 0)).1 ∧ (aq k (a, b, 0)).1 ≤ 4611686018427387904) ∧ (-4611686018427387904 ≤ (aq k (a, b, 0)).2.1 ∧ (aq k (a, b, 0)).2.1 ≤ 4611686018427387904) ∧ -105553116266496 ≤ (aq k (a, b, 0)).2.2 ∧ (aq k (a, b, 0)).2.2 ≤ 105553116266496) (k : Nat) (hk : k ≤ 32) : arun k (a, b, 0) = aq k (a, b, 0) := by
  induction k with
  | zero => rfl
  | succ k ih =>
    have i := ih (by omega)
    have hb := hb (k := k + 1) hk
    show astep k (arun k (a, b, 0)) = _
    rw [i]
    rw [aq] at hb ⊢
    unfold astep
    rw [ang_aa]
    by_cases hz : 0 < (aq k (a, b, 0)).2.1
    · rw [if_pos hz] at hb ⊢
      rw [if_pos hz]
      simp only [] at hb
      rw [w64 (by omega) (by omega), w64 (by omega) (by omega), w64 (by omega) (by omega)]
    · rw [if_neg hz] at hb ⊢
      rw [if_neg hz]
      simp only [] at hb
      rw [w64 (by omega) (by omega), w64 (by omega) (by omega), w64 (by omega) (by omega)]
theorem pv_one (q c s : Int) : (pv q c s).1 = (if q = 1 then c else if q = 2 then -s else if q = 3 then -c else s) := by
  unfold pv
  (repeat' split) <;> rfl
theorem pv_two (q c s : Int) : (pv q c s).2 = (if q = 1 then -s else if q = 2 then -c else if q = 3 then s else c) := by
  unfold pv
  (repeat' split) <;> rfl
/-- Both numbers of an angle belong to a point near it. -/
theorem both_pt {u : Int} (h0 : 0 ≤ u) (h1 : u < 4294967296) : Pt u (pv (qv u) (cv u) (sv u)).1 (pv (qv u) (cv u) (sv u)).2 := by
  rw [pv_one, pv_two]
  have hz0 : -35184372088832 ≤ (u - qv u * 1073741824) * 65536 := by unfold qv; omega
  have hz1 : (u - qv u * 1073741824) * 65536 ≤ 35184372088832 := by unfold qv; omega
  have hb := bq_bd hz0 hz1 (k := 32) (by decide)
  have hr := brun_is hz0 hz1 32 (by decide)
  have hs : bstart u = (170926505739102, 0, (u - qv u * 1073741824) * 65536) := rfl
  obtain ⟨x, y, v, he⟩ := tri (bq 32 (170926505739102, 0, (u - qv u * 1073741824) * 65536))
  rw [he] at hb hr
  simp only [] at hb
  refine pt_of (z := (u - qv u * 1073741824) * 65536) rfl h0 h1 rfl he ?_ ?_
  · unfold cv rnd
    rw [hs, hr]
    show wrap64 (x + 32768) / 65536 = _
    rw [w64 (by omega) (by omega)]
  · unfold sv rnd
    rw [hs, hr]
    show wrap64 (y + 32768) / 65536 = _
    rw [w64 (by omega) (by omega)]
theorem abs_is {a : Int} (h0 : -288230376151711744 ≤ a) (h1 : a ≤ 288230376151711744) : fix_Abs.f a = some (if a < 0 then -a else a) := by
  unfold fix_Abs.f fix_known.f fix_within_int.f
  have e1 : mx (-288230376151711744) (mn a 288230376151711744) = a := by
    unfold mx mn
    (repeat' split) <;> omega
  refine bind_of rfl (bind_of rfl (congrArg some ?_))
  rw [e1, w64 (n := -a) (by omega) (by omega)]
  unfold mx
  (repeat' split) <;> omega
/-- Doubled until one is great. -/
theorem dbl_is (n : Nat) : ∀ {a b : Int}, 0 ≤ a → 0 ≤ b → a ≤ 288230376151711744 → b ≤ 288230376151711744 → 144115188075855872 ≤ (if a < b then b else a) * 2 ^ n →
    ∃ P : Int, 1 ≤ P ∧ dbl n a b = (P * a, P * b) ∧ 144115188075855872 ≤ P * (if a < b then b else a) ∧ P * (if a < b then b else a) ≤ 288230376151711744 := by
  induction n with
  | zero =>
    intro a b h0 h1 h2 h3 h4
    rw [Int.pow_zero, Int.mul_one] at h4
    refine ⟨1, by omega, by rw [Int.one_mul, Int.one_mul]; rfl, by omega, ?_⟩
    rw [Int.one_mul]
    split <;> omega
  | succ n ih =>
    intro a b h0 h1 h2 h3 h4
    by_cases hc : (if a < b then b else a) < 144115188075855872
    · rw [dbl_more n hc]
      have e3 : (if a * 2 < b * 2 then b * 2 else a * 2) = (if a < b then b else a) * 2 := by (repeat' split) <;> omega
      have hab : a < 144115188075855872 ∧ b < 144115188075855872 := by split at hc <;> omega
      obtain ⟨P, p0, p1, p2, p3⟩ := ih (a := a * 2) (b := b * 2) (by omega) (by omega) (by omega) (by omega) (by rw [e3, Int.mul_assoc]; rw [Int.pow_succ, Int.mul_comm (2 ^ n) 2] at h4; exact h4)
      rw [e3] at p2 p3
      refine ⟨P * 2, by omega, ?_, ?_, ?_⟩
      · rw [p1]
        congr 1
        · rw [Int.mul_assoc, Int.mul_comm 2 a]
        · rw [Int.mul_assoc, Int.mul_comm 2 b]
      · rw [Int.mul_assoc, Int.mul_comm 2]; exact p2
      · rw [Int.mul_assoc, Int.mul_comm 2]; exact p3
    · rw [dbl_done _ hc]
      refine ⟨1, by omega, by rw [Int.one_mul, Int.one_mul], by omega, ?_⟩
      rw [Int.one_mul]
      split <;> omega
theorem sq_nn (x : Int) : 0 ≤ x * x := by
  rcases Int.le_total 0 x with g | g
  · exact Int.mul_nonneg g g
  · exact Int.mul_nonneg_of_nonpos_of_nonpos g g
theorem sq_up {x B : Int} (h0 : 0 ≤ x) (h1 : x ≤ B) : x * x ≤ B * B := Int.mul_le_mul h1 h1 h0 (by omega)
/-- Of two numbers on the circle the greater one is no small one. -/
theorem great_one {a b : Int} (h0 : 0 ≤ a) (h1 : 0 ≤ b) (h : -34359738368 ≤ b * b + a * a - 18446744073709551616) : 2147483648 ≤ (if a < b then b else a) := by
  by_cases g : a < b
  · rw [if_pos g]
    by_cases k : 2147483648 ≤ b
    · exact k
    · exfalso
      have := sq_up h1 (show b ≤ 2147483647 by omega)
      have := sq_up h0 (show a ≤ 2147483647 by omega)
      omega
  · rw [if_neg g]
    by_cases k : 2147483648 ≤ a
    · exact k
    · exfalso
      have := sq_up h1 (show b ≤ 2147483647 by omega)
      have := sq_up h0 (show a ≤ 2147483647 by omega)
      omega
theorem ares_is (x y v : Int) (h0 : -140737488355328 ≤ v) (h1 : v ≤ 140737488355327) : ares x y v = some ((if x < 0 then (if y < 0 then 2147483648 + v else 2147483648 - v) else if y < 0 then -v else v) % 4294967296) := by
  unfold ares
  rw [w64 (n := 2147483648 + v) (by omega) (by omega), w64 (n := 2147483648 - v) (by omega) (by omega), w64 (n := -v) (by omega) (by omega)]
  (repeat' split) <;> exact angle_is _
/-- What Atan tells of any point but the middle. -/
theorem atan_is {y x : Int} (y0 : -288230376151711744 ≤ y) (y1 : y ≤ 288230376151711744) (x0 : -288230376151711744 ≤ x) (x1 : x ≤ 288230376151711744) (hn : x ≠ 0 ∨ y ≠ 0) :
    trig_Atan.f y x = ares x y (rnd (arun 32 ((dbl 64 (if x < 0 then -x else x) (if y < 0 then -y else y)).1, (dbl 64 (if x < 0 then -x else x) (if y < 0 then -y else y)).2, 0)).2.2) := by
  unfold trig_Atan.f
  refine bind_of (abs_is x0 x1) (bind_of (abs_is y0 y1) (no_of ?_ (bind_of (round_is _) rfl)))
  (repeat' split) <;> omega
theorem atan_back {u s c : Int} (hp : Pt u s c) (u0 : 0 ≤ u) (u1 : u < 4294967296) (hs : s ≤ 4294967304 ∧ -4294967304 ≤ s) (hc : c ≤ 4294967304 ∧ -4294967304 ≤ c) (h : s * s + c * c - 18446744073709551616 ≤ 34359738368 ∧ -34359738368 ≤ s * s + c * c - 18446744073709551616) :
    ∃ r, trig_Atan.f s c = some r ∧ (wrap64 (r - u) % 4294967296 ≤ 8 ∨ 4294967288 ≤ wrap64 (r - u) % 4294967296) := by
  have hn : c ≠ 0 ∨ s ≠ 0 := by
    by_cases g : c = 0
    · right
      intro g2
      subst g g2
      omega
    · exact Or.inl g
  have ha : 0 ≤ (if c < 0 then -c else c) ∧ (if c < 0 then -c else c) ≤ 4294967304 ∧ (if c < 0 then -c else c) * (if c < 0 then -c else c) = c * c := by
    split
    · exact ⟨by omega, by omega, Int.neg_mul_neg c c⟩
    · exact ⟨by omega, by omega, rfl⟩
  have hb : 0 ≤ (if s < 0 then -s else s) ∧ (if s < 0 then -s else s) ≤ 4294967304 ∧ (if s < 0 then -s else s) * (if s < 0 then -s else s) = s * s := by
    split
    · exact ⟨by omega, by omega, Int.neg_mul_neg s s⟩
    · exact ⟨by omega, by omega, rfl⟩
  have hg := great_one ha.1 hb.1 (by rw [ha.2.2, hb.2.2]; exact h.2)
  have ht := atan_is (y := s) (x := c) (by omega) (by omega) (by omega) (by omega) hn
  have hm : (if (if c < 0 then -c else c) < (if s < 0 then -s else s) then (if s < 0 then -s else s) else (if c < 0 then -c else c)) ≤ 4294967304 := by split <;> omega
  obtain ⟨P, p0, p1, p2, p3⟩ := dbl_is 64 ha.1 hb.1 (by omega) (by omega) (by
    have e : (2 : Int) ^ 64 = 18446744073709551616 := by decide
    rw [e]
    omega)
  rw [p1] at ht
  have q1 : P ≤ 134217728 := by
    by_cases g : P ≤ 134217728
    · exact g
    · exfalso
      have := Int.mul_le_mul (show 134217729 ≤ P by omega) hg (by decide) (by omega)
      omega
  have q0 : 16778240 ≤ P := by
    by_cases g : 16778240 ≤ P
    · exact g
    · exfalso
      have := Int.mul_le_mul (show P ≤ 16778239 by omega) hm (by omega) (by decide)
      omega
  obtain ⟨M, m1, m2, m3, m4⟩ := id hp
  have hb2 : ∀ {k : Nat}, k ≤ 32 → (-4611686018427387904 ≤ (aq k (P * (if c < 0 then -c else c), P * (if s < 0 then -s else s), 0)).1 ∧ (aq k (P * (if c < 0 then -c else c), P * (if s < 0 then -s else s), 0)).1 ≤ 4611686018427387904) ∧ (-4611686018427387904 ≤ (aq k (P * (if c < 0 then -c else c), P * (if s < 0 then -s else s), 0)).2.1 ∧ (aq k (P * (if c < 0 then -c else c), P * (if s < 0 then -s else s), 0)).2.1 ≤ 4611686018427387904) ∧ -105553116266496 ≤ (aq k (P * (if c < 0 then -c else c), P * (if s < 0 then -s else s), 0)).2.2 ∧ (aq k (P * (if c < 0 then -c else c), P * (if s < 0 then -s else s), 0)).2.2 ≤ 105553116266496 := by
    obtain ⟨N, n1, n2⟩ := pt_abs hp
    intro k hk
    exact aq_bd2 n1 n2 q0 q1 hk
  have hr := arun_is hb2 32 (by decide)
  have hz := hb2 (k := 32) (by decide)
  simp only [] at ht
  rw [hr] at ht
  obtain ⟨x, y, z, he⟩ : ∃ x y z, aq 32 (P * (if c < 0 then -c else c), P * (if s < 0 then -s else s), 0) = (x, y, z) := tri _
  rw [he] at ht hz
  simp only [] at ht hz
  have hv : rnd z = (z + 32768) / 65536 := by
    unfold rnd
    rw [w64 (by omega) (by omega)]
  have hvb := rnd_bd z
  rw [ares_is c s (rnd z) hvb.1 hvb.2] at ht
  refine ⟨_, ht, ?_⟩
  have hd := pt_back hp u0 u1 q0 q1 he hv rfl
  have hw : wrap64 ((if c < 0 then (if s < 0 then 2147483648 + rnd z else 2147483648 - rnd z) else if s < 0 then -rnd z else rnd z) % 4294967296 - u) = (if c < 0 then (if s < 0 then 2147483648 + rnd z else 2147483648 - rnd z) else if s < 0 then -rnd z else rnd z) % 4294967296 - u := w64 (by omega) (by omega)
  rw [hw]
  exact hd

end Go.Proofs.YtnbicphpchnkbaaDoor.Trigc
