/- What Go functions come to, in whole numbers: each equation holds for every input that it names. -/
import Derived.Test.YtnbicphpchnkbaaDoorNum
import Derived.Test.YtnbicphpchnkbaaDoorB2
import Derived.Test.YtnbicphpchnkbaaDoorB4
import Derived.Test.YtnbicphpchnkbaaDoorTrig
import Derived.Test.YtnbicphpchnkbaaDoorTrigc
namespace Go.Proofs.YtnbicphpchnkbaaDoor.Trigr
open Go Go.RowKit Go.Proofs.YtnbicphpchnkbaaDoor.B Go.Proofs.YtnbicphpchnkbaaDoor.Num Go.Proofs.YtnbicphpchnkbaaDoor.Trig Go.Proofs.YtnbicphpchnkbaaDoor.Trigc Go.Proofs.YtnbicphpchnkbaaDoorW.PrintWords Go.Proofs.YtnbicphpchnkbaaDoorW.PrintLast Go.Proofs.YtnbicphpchnkbaaDoorW.PrintMore

/-- The reference's functions, in the same words. -/
theorem rangle_is {a : Int} (h0 : -9223372036854775808 ≤ a) (h1 : a ≤ 9223372036854775807) : outriggerref05_Angle.f a = some (a % 4294967296) := by
  unfold outriggerref05_Angle.f
  have ht : Int.tmod a 4294967296 = if 0 ≤ a then a % 4294967296 else -((-a) % 4294967296) := by
    by_cases h : 0 ≤ a
    · rw [if_pos h, Int.tmod_eq_emod_of_nonneg h]
    · have e : Int.tmod a 4294967296 = Int.tmod (-(-a)) 4294967296 := by rw [Int.neg_neg]
      rw [if_neg h, e, Int.neg_tmod, Int.tmod_eq_emod_of_nonneg (by omega)]
  rw [ht]
  by_cases h : 0 ≤ a
  · rw [if_pos h, if_neg (by omega)]
  · rw [if_neg h]
    by_cases g : -((-a) % 4294967296) < 0
    · rw [if_pos g, w64 (by omega) (by omega)]
      congr 1
      omega
    · rw [if_neg g]
      congr 1
      omega
theorem half_step {x : Int} (h0 : -9223372036854775808 ≤ x) (h1 : x ≤ 9223372036854775807) (k : Nat) (n i : Int) (h : i < n) (hi : i < 100) (hi0 : 0 ≤ i) : outriggerref05_halved.l0 (k + 1) x n i = outriggerref05_halved.l0 k (x / 2) n (i + 1) := by
  rw [outriggerref05_halved.l0]
  have wi : wrap64 (i + 1) = i + 1 := w64 (by omega) (by omega)
  rw [wi]
  refine yes_of h ?_
  by_cases hx : x < 0
  · have e1 : Int.tmod x 2 = -((-x) % 2) := by
      have e : Int.tmod x 2 = Int.tmod (-(-x)) 2 := by rw [Int.neg_neg]
      rw [e, Int.neg_tmod, Int.tmod_eq_emod_of_nonneg (by omega)]
    have e2 : ∀ y : Int, y < 0 → Int.tdiv y 2 = -((-y) / 2) := by
      intro y hy
      have e : Int.tdiv y 2 = Int.tdiv (-(-y)) 2 := by rw [Int.neg_neg]
      rw [e, Int.neg_tdiv, Int.tdiv_eq_ediv_of_nonneg (by omega)]
    refine yes_of hx ?_
    by_cases g : Int.tmod x 2 = 0
    · refine yes_of g ?_
      rw [e1] at g
      rw [e2 x hx, w64 (by omega) (by omega)]
      congr 1
      omega
    · refine no_of g ?_
      rw [e1] at g
      rw [w64 (n := x - 1) (by omega) (by omega), e2 (x - 1) (by omega), w64 (by omega) (by omega)]
      congr 1
      omega
  · refine no_of hx ?_
    rw [Int.tdiv_eq_ediv_of_nonneg (by omega), w64 (by omega) (by omega)]
theorem half_loop (d : Nat) : ∀ (k : Nat) (x n i : Int), -9223372036854775808 ≤ x → x ≤ 9223372036854775807 → 0 ≤ i → n = i + d → n ≤ 100 → d < k → outriggerref05_halved.l0 k x n i = some (x / 2 ^ d) := by
  induction d with
  | zero =>
    intro k x n i h0 h1 hi hn _ hk
    obtain ⟨k, rfl⟩ : ∃ m, k = m + 1 := ⟨k - 1, by omega⟩
    rw [outriggerref05_halved.l0]
    have : (2 : Int) ^ 0 = 1 := rfl
    rw [this, Int.ediv_one]
    exact no_of (by omega) rfl
  | succ d ih =>
    intro k x n i h0 h1 hi hn hm hk
    obtain ⟨k, rfl⟩ : ∃ m, k = m + 1 := ⟨k - 1, by omega⟩
    rw [half_step h0 h1 k n i (by omega) (by omega) hi, ih k (x / 2) n (i + 1) (by omega) (by omega) (by omega) (by omega) hm (by omega)]
    rw [Int.pow_succ, Int.mul_comm, ← Int.ediv_ediv_of_nonneg (by decide)]
theorem half_is {k : Nat} {x : Int} {n : Nat} (h0 : -9223372036854775808 ≤ x) (h1 : x ≤ 9223372036854775807) (hn : n ≤ 100) (hk : n < k) : outriggerref05_halved.f k x n = some (x / 2 ^ n) := by
  unfold outriggerref05_halved.f
  exact half_loop n k x n 0 h0 h1 (by omega) (by omega) (by omega) hk
def InI (x : Int) : Prop := -9223372036854775808 ≤ x ∧ x ≤ 9223372036854775807
theorem in_wrap (x : Int) : InI (wrap64 x) := ⟨w64_lo x, w64_hi x⟩
theorem brun_in {s : Int × Int × Int} (h : InI s.1 ∧ InI s.2.1) (k : Nat) : InI (brun k s).1 ∧ InI (brun k s).2.1 := by
  cases k with
  | zero => exact h
  | succ k =>
    show InI (bstep k (brun k s)).1 ∧ InI (bstep k (brun k s)).2.1
    unfold bstep
    split <;> exact ⟨in_wrap _, in_wrap _⟩
theorem arun_in {s : Int × Int × Int} (h : InI s.1 ∧ InI s.2.1) (k : Nat) : InI (arun k s).1 ∧ InI (arun k s).2.1 := by
  cases k with
  | zero => exact h
  | succ k =>
    show InI (astep k (arun k s)).1 ∧ InI (astep k (arun k s)).2.1
    unfold astep
    split <;> exact ⟨in_wrap _, in_wrap _⟩
theorem rd_ang (j : Nat) : rd ang (j : Int) = ang.getD j 0 := rfl
theorem ang_length : (ang.length : Int) = 32 := rfl
theorem steps_loop {s : Int × Int × Int} (h : InI s.1 ∧ InI s.2.1) (d : Nat) : ∀ (k j : Nat), j + d = 32 → d + 40 ≤ k → outriggerref05_steps.l0 k (brun j s).2.2 (brun j s).1 (brun j s).2.1 ang (j : Int) = some ((brun 32 s).1, (brun 32 s).2.1) := by
  induction d with
  | zero =>
    intro k j hj hk
    obtain ⟨k, rfl⟩ : ∃ m, k = m + 1 := ⟨k - 1, by omega⟩
    obtain rfl : j = 32 := by omega
    rw [outriggerref05_steps.l0]
    exact no_of (by rw [ang_length]; omega) rfl
  | succ d ih =>
    intro k j hj hk
    obtain ⟨k, rfl⟩ : ∃ m, k = m + 1 := ⟨k - 1, by omega⟩
    have i := ih k (j + 1) (by omega) (by omega)
    have hb := brun_in h j
    have e : brun (j + 1) s = bstep j (brun j s) := rfl
    have wi : wrap64 ((j : Int) + 1) = ((j + 1 : Nat) : Int) := by rw [w64 (by omega) (by omega)]; omega
    rw [outriggerref05_steps.l0]
    refine yes_of (by rw [ang_length]; omega) (bind_of (half_is hb.2.1 hb.2.2 (by omega) (by omega)) (bind_of (half_is hb.1.1 hb.1.2 (by omega) (by omega)) ?_))
    rw [wi, rd_ang]
    rw [e] at i
    unfold bstep at i
    by_cases g : 0 ≤ (brun j s).2.2
    · rw [if_pos g] at i
      exact yes_of g (yes_of (by omega) i)
    · rw [if_neg g] at i
      exact no_of g (yes_of (by omega) i)
theorem steps_is (k : Nat) (z : Int) (hk : 72 ≤ k) : outriggerref05_steps.f k z = some ((brun 32 (170926505739102, 0, z)).1, (brun 32 (170926505739102, 0, z)).2.1) := by
  unfold outriggerref05_steps.f
  exact bind_of (x := ang) rfl (steps_loop (s := (170926505739102, 0, z)) ⟨⟨show (-9223372036854775808 : Int) ≤ 170926505739102 by decide, show (170926505739102 : Int) ≤ 9223372036854775807 by decide⟩, ⟨show (-9223372036854775808 : Int) ≤ 0 by decide, show (0 : Int) ≤ 9223372036854775807 by decide⟩⟩ 32 k 0 rfl (by omega))
theorem rround_is {k : Nat} {x : Int} (hk : 16 < k) : outriggerref05_halved.f k (wrap64 (x + 32768)) 16 = some (rnd x) := by
  have := half_is (k := k) (x := wrap64 (x + 32768)) (n := 16) (w64_lo _) (w64_hi _) (by decide) hk
  exact this
theorem rboth_is {k : Nat} {t : Int} (h0 : -9223372036854775808 ≤ t) (h1 : t ≤ 9223372036854775807) (hk : 72 ≤ k) : outriggerref05_Both.f k t = some (pv (qv (t % 4294967296)) (cv (t % 4294967296)) (sv (t % 4294967296))) := by
  unfold outriggerref05_Both.f
  refine bind_of (rangle_is h0 h1) ?_
  have hu : 0 ≤ t % 4294967296 ∧ t % 4294967296 < 4294967296 := by omega
  generalize t % 4294967296 = u at *
  have hq : wrap64 (Int.tdiv (wrap64 (u + 536870912)) 1073741824) = qv u := by
    unfold qv
    rw [w64 (n := u + 536870912) (by omega) (by omega), Int.tdiv_eq_ediv_of_nonneg (by omega), w64 (by omega) (by omega)]
  rw [hq]
  have hz : wrap64 (wrap64 (u - wrap64 (qv u * 1073741824)) * 65536) = (u - qv u * 1073741824) * 65536 := by
    unfold qv
    rw [w64 (n := (u + 536870912) / 1073741824 * 1073741824) (by omega) (by omega), w64 (n := u - (u + 536870912) / 1073741824 * 1073741824) (by omega) (by omega), w64 (by omega) (by omega)]
  rw [hz]
  refine bind_of (steps_is k _ hk) (bind_of (rround_is (by omega)) (bind_of (rround_is (by omega)) ?_))
  have hc := cv_bd u
  have hs := sv_bd u
  have eb : bstart u = (170926505739102, 0, (u - qv u * 1073741824) * 65536) := rfl
  have ec : rnd (brun 32 (170926505739102, 0, (u - qv u * 1073741824) * 65536)).1 = cv u := by
    rw [← eb]
    rfl
  have es : rnd (brun 32 (170926505739102, 0, (u - qv u * 1073741824) * 65536)).2.1 = sv u := by
    rw [← eb]
    rfl
  simp only [ec, es]
  rw [w64 (n := -sv u) (by omega) (by omega), w64 (n := -cv u) (by omega) (by omega)]
  unfold pv
  (repeat' split) <;> rfl
theorem back_loop {s : Int × Int × Int} (h : InI s.1 ∧ InI s.2.1) (d : Nat) : ∀ (k j : Nat), j + d = 32 → d + 40 ≤ k → outriggerref05_back.l0 k (arun j s).1 (arun j s).2.1 (arun j s).2.2 ang (j : Int) = some (arun 32 s).2.2 := by
  induction d with
  | zero =>
    intro k j hj hk
    obtain ⟨k, rfl⟩ : ∃ m, k = m + 1 := ⟨k - 1, by omega⟩
    obtain rfl : j = 32 := by omega
    rw [outriggerref05_back.l0]
    exact no_of (by rw [ang_length]; omega) rfl
  | succ d ih =>
    intro k j hj hk
    obtain ⟨k, rfl⟩ : ∃ m, k = m + 1 := ⟨k - 1, by omega⟩
    have i := ih k (j + 1) (by omega) (by omega)
    have hb := arun_in h j
    have e : arun (j + 1) s = astep j (arun j s) := rfl
    have wi : wrap64 ((j : Int) + 1) = ((j + 1 : Nat) : Int) := by rw [w64 (by omega) (by omega)]; omega
    rw [outriggerref05_back.l0]
    refine yes_of (by rw [ang_length]; omega) (bind_of (half_is hb.2.1 hb.2.2 (by omega) (by omega)) (bind_of (half_is hb.1.1 hb.1.2 (by omega) (by omega)) ?_))
    rw [wi, rd_ang]
    rw [e] at i
    unfold astep at i
    by_cases g : 0 < (arun j s).2.1
    · rw [if_pos g] at i
      exact yes_of g (yes_of (by omega) i)
    · rw [if_neg g] at i
      exact no_of g (yes_of (by omega) i)
theorem back_is {k : Nat} {a b : Int} (ha : InI a) (hb : InI b) (hk : 72 ≤ k) : outriggerref05_back.f k a b = some (arun 32 (a, b, 0)).2.2 := by
  unfold outriggerref05_back.f
  exact bind_of (x := ang) rfl (back_loop (s := (a, b, 0)) ⟨ha, hb⟩ 32 k 0 rfl (by omega))
theorem abs_both (a : Int) : ∃ v, fix_Abs.f a = some v ∧ outriggerref01_Abs.f a = some v ∧ 0 ≤ v ∧ v ≤ 288230376151711744 ∧ (v = 0 ↔ a = 0) := by
  have e1 : outriggerref01_As.f a = some (mx (-288230376151711744) (mn a 288230376151711744)) := by
    unfold outriggerref01_As.f outriggerref01_Clamp.f
    by_cases h : a > 288230376151711744
    · rw [if_pos h]
      refine bind_of rfl (congrArg some ?_)
      show 288230376151711744 = _
      unfold mx mn
      (repeat' split) <;> omega
    · rw [if_neg h]
      by_cases g : a < -288230376151711744
      · rw [if_pos g]
        refine bind_of rfl (congrArg some ?_)
        show -288230376151711744 = _
        unfold mx mn
        (repeat' split) <;> omega
      · rw [if_neg g]
        refine bind_of rfl (congrArg some ?_)
        show a = _
        unfold mx mn
        (repeat' split) <;> omega
  have e2 : fix_known.f a = some (mx (-288230376151711744) (mn a 288230376151711744)) := rfl
  have hb : -288230376151711744 ≤ mx (-288230376151711744) (mn a 288230376151711744) ∧ mx (-288230376151711744) (mn a 288230376151711744) ≤ 288230376151711744 ∧ (mx (-288230376151711744) (mn a 288230376151711744) = 0 ↔ a = 0) := by
    unfold mx mn
    (repeat' split) <;> omega
  generalize mx (-288230376151711744) (mn a 288230376151711744) = c at *
  refine ⟨mx c (wrap64 (-c)), ?_, ?_, ?_⟩
  · unfold fix_Abs.f
    exact bind_of e2 (bind_of e2 rfl)
  · unfold outriggerref01_Abs.f
    exact bind_of e1 (bind_of e1 rfl)
  · rw [w64 (n := -c) (by omega) (by omega)]
    unfold mx
    (repeat' split) <;> omega
theorem ares_ref {k : Nat} {y x v : Int} (hv : -140737488355328 ≤ v ∧ v ≤ 140737488355327) : (if x ≥ 0 then (outriggerref05_Atan.j2 (k + 2) y x v (decide (y ≥ 0))) else (outriggerref05_Atan.j2 (k + 2) y x v false)) = ares x y v := by
  have r1 := rangle_is (a := v) (by omega) (by omega)
  have r2 := rangle_is (a := 2147483648 - v) (by omega) (by omega)
  have r3 := rangle_is (a := 2147483648 + v) (by omega) (by omega)
  have r4 := rangle_is (a := -v) (by omega) (by omega)
  rw [ares_is x y v hv.1 hv.2]
  by_cases hx : x < 0
  · rw [if_neg (by omega), if_pos hx, outriggerref05_Atan.j2]
    refine no_of (by decide) (yes_of hx ?_)
    rw [outriggerref05_Atan.j3, w64 (n := 2147483648 - v) (by omega) (by omega), w64 (n := 2147483648 + v) (by omega) (by omega)]
    by_cases hy : y < 0
    · rw [if_pos hy]
      exact no_of (by simp; omega) (yes_of hx (bind_of r3 rfl))
    · rw [if_neg hy]
      exact yes_of (by simp; omega) (bind_of r2 rfl)
  · rw [if_pos (by omega), if_neg hx, outriggerref05_Atan.j2]
    by_cases hy : y < 0
    · rw [if_pos hy]
      refine no_of (by simp; omega) (no_of hx ?_)
      rw [outriggerref05_Atan.j3, w64 (n := -v) (by omega) (by omega)]
      exact no_of (by decide) (no_of hx (bind_of r4 rfl))
    · rw [if_neg hy]
      exact yes_of (by simp; omega) (bind_of r1 rfl)
theorem mx_comm_if (a b : Int) : mx a b = (if a < b then b else a) := rfl
theorem atan_loop {y x : Int} (n : Nat) : ∀ (k : Nat) {a b : Int}, 0 ≤ a → 0 ≤ b → a ≤ 288230376151711744 → b ≤ 288230376151711744 → 144115188075855872 ≤ (if a < b then b else a) * 2 ^ n → n + 80 ≤ k →
    outriggerref05_Atan.l0 k y x a b = ares x y (rnd (arun 32 ((dbl n a b).1, (dbl n a b).2, 0)).2.2) := by
  have last : ∀ (n k : Nat) {a b : Int}, 0 ≤ a → 0 ≤ b → a ≤ 288230376151711744 → b ≤ 288230376151711744 → ¬ (if a < b then b else a) < 144115188075855872 → 80 ≤ k →
      outriggerref05_Atan.l0 k y x a b = ares x y (rnd (arun 32 ((dbl n a b).1, (dbl n a b).2, 0)).2.2) := by
    intro n k a b h0 h1 h2 h3 hc hk
    obtain ⟨k, rfl⟩ : ∃ m, k = m + 3 := ⟨k - 3, by omega⟩
    rw [dbl_done _ hc, outriggerref05_Atan.l0]
    have hv := rnd_bd (arun 32 (a, b, 0)).2.2
    have hb := back_is (k := k + 2) (a := a) (b := b) ⟨by omega, by omega⟩ ⟨by omega, by omega⟩ (by omega)
    have hr := rround_is (k := k + 2) (x := (arun 32 (a, b, 0)).2.2) (by omega)
    simp only []
    generalize (arun 32 (a, b, 0)).2.2 = z at *
    refine no_of (by rw [mx_comm_if]; exact hc) (bind_of hb (bind_of hr ?_))
    exact ares_ref hv
  induction n with
  | zero =>
    intro k a b h0 h1 h2 h3 h4 hk
    rw [Int.pow_zero, Int.mul_one] at h4
    exact last 0 k h0 h1 h2 h3 (by omega) (by omega)
  | succ n ih =>
    intro k a b h0 h1 h2 h3 h4 hk
    by_cases hc : (if a < b then b else a) < 144115188075855872
    · obtain ⟨k, rfl⟩ : ∃ m, k = m + 1 := ⟨k - 1, by omega⟩
      have hab : a < 144115188075855872 ∧ b < 144115188075855872 := by split at hc <;> omega
      have e3 : (if a * 2 < b * 2 then b * 2 else a * 2) = (if a < b then b else a) * 2 := by (repeat' split) <;> omega
      rw [dbl_more n hc, outriggerref05_Atan.l0]
      refine yes_of (by rw [mx_comm_if]; exact hc) ?_
      have wa : wrap64 (2 * a) = a * 2 := by rw [w64 (by omega) (by omega)]; omega
      have wb : wrap64 (2 * b) = b * 2 := by rw [w64 (by omega) (by omega)]; omega
      rw [wa, wb]
      exact ih k (by omega) (by omega) (by omega) (by omega) (by rw [e3, Int.mul_assoc]; rw [Int.pow_succ, Int.mul_comm (2 ^ n) 2] at h4; exact h4) (by omega)
    · exact last (n + 1) k h0 h1 h2 h3 hc (by omega)
theorem atan_both {k : Nat} (y x : Int) (hk : 200 ≤ k) : ∃ r, trig_Atan.f y x = some r ∧ outriggerref05_Atan.f k y x = some r := by
  obtain ⟨a, a1, a2, a3, a4, a5⟩ := abs_both x
  obtain ⟨b, b1, b2, b3, b4, b5⟩ := abs_both y
  obtain ⟨k, rfl⟩ : ∃ m, k = m + 1 := ⟨k - 1, by omega⟩
  by_cases hz : a + b = 0
  · refine ⟨0, ?_, ?_⟩
    · unfold trig_Atan.f
      exact bind_of a1 (bind_of b1 (yes_of hz rfl))
    · unfold outriggerref05_Atan.f
      refine bind_of a2 (bind_of b2 (yes_of (by omega) ?_))
      rw [outriggerref05_Atan.j0]
      exact yes_of (by simp; omega) rfl
  · have p64 : (2 : Int) ^ 64 = 18446744073709551616 := by decide
    have hl := atan_loop (y := y) (x := x) 64 k a3 b3 a4 b4 (by rw [p64]; split <;> omega) (by omega)
    have hv := rnd_bd (arun 32 ((dbl 64 a b).1, (dbl 64 a b).2, 0)).2.2
    have hr := ares_is x y _ hv.1 hv.2
    have key : ∃ r, ares x y (rnd (arun 32 ((dbl 64 a b).1, (dbl 64 a b).2, 0)).2.2) = some r := ⟨_, hr⟩
    clear hr hv
    generalize hw : rnd (arun 32 ((dbl 64 a b).1, (dbl 64 a b).2, 0)).2.2 = v at hl key
    obtain ⟨r, hr⟩ := key
    refine ⟨r, ?_, ?_⟩
    · unfold trig_Atan.f
      refine bind_of a1 (bind_of b1 (no_of hz (bind_of (round_is _) ?_)))
      show ares x y (rnd _) = some r
      rw [hw]
      exact hr
    · unfold outriggerref05_Atan.f
      refine bind_of a2 (bind_of b2 ?_)
      by_cases h0 : a = 0
      · refine yes_of h0 ?_
        rw [outriggerref05_Atan.j0]
        exact no_of (by simp; omega) (hl.trans hr)
      · refine no_of h0 ?_
        rw [outriggerref05_Atan.j0]
        exact no_of (by decide) (hl.trans hr)

end Go.Proofs.YtnbicphpchnkbaaDoor.Trigr
