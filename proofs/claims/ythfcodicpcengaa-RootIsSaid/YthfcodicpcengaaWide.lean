/- What Go functions come to, in whole numbers: each equation holds for every input that it names. -/
import Derived.Test.YthfcodicpcengaaNum
import Derived.Test.YthfcodicpcengaaB2
import Derived.Test.YthfcodicpcengaaB3
import Derived.Test.YthfcodicpcengaaB4
namespace Go.Proofs.Ythfcodicpcengaa.Wide
open Go Go.RowKit Go.Proofs.Ythfcodicpcengaa.B Go.Proofs.Ythfcodicpcengaa.Num Go.Proofs.YthfcodicpcengaaW.PrintWords Go.Proofs.YthfcodicpcengaaW.PrintLast Go.Proofs.YthfcodicpcengaaW.PrintMore

/-- What a number counts as. -/
def cl (n : Int) : Int := if n < -288230376151711744 then -288230376151711744 else if 288230376151711744 < n then 288230376151711744 else n

theorem cl_lo (n : Int) : -288230376151711744 ≤ cl n := by unfold cl; split <;> (try split) <;> omega
theorem cl_hi (n : Int) : cl n ≤ 288230376151711744 := by unfold cl; split <;> (try split) <;> omega

theorem within_is (a b c : Int) : fix_within_int.f a b c = some (mx b (mn a c)) := rfl

theorem fknown_is (a : Int) : fix_known.f a = some (cl a) := by
  unfold fix_known.f fix_within_int.f
  simp only [Option.bind_some]
  congr 1
  unfold mx mn cl
  (repeat' split) <;> omega

theorem clamp_is (a : Int) : fix_Clamp.f a = some (cl a, (cl a != a)) := by
  unfold fix_Clamp.f fix_within_int.f
  simp only [Option.bind_some]
  have h : mx (-288230376151711744) (mn a 288230376151711744) = cl a := by
    unfold mx mn cl
    (repeat' split) <;> omega
  rw [h]

theorem abs_is (a : Int) : fix_Abs.f a = some (mx (cl a) (- cl a)) := by
  have a0 := cl_lo a
  have a1 := cl_hi a
  unfold fix_Abs.f
  simp only [fknown_is, Option.bind_some]
  rw [w64 (n := - cl a) (by omega) (by omega)]


/-- Was something clamped, of a sum or a difference? -/
def cbad (a b s : Int) : Bool := (cl s != s) || ((cl a != a) || (cl b != b))

theorem fadd_is (a b : Int) : fix_Add.f a b = some (cl (cl a + cl b), cbad a b (cl a + cl b)) := by
  have a0 := cl_lo a
  have a1 := cl_hi a
  have b0 := cl_lo b
  have b1 := cl_hi b
  have hw : wrap64 (cl a + cl b) = cl a + cl b := w64 (by omega) (by omega)
  unfold fix_Add.f cbad
  simp only [fknown_is, clamp_is, Option.bind_some, hw]
  by_cases h1 : cl (cl a + cl b) = cl a + cl b
  · by_cases h2 : cl a = a
    · have h3 := h1
      rw [h2] at h3
      simp [h2, h3]
    · simp [h1, h2]
  · simp [h1]

theorem fneg_is (a : Int) : fix_Neg.f a = some (- cl a) := by
  have a0 := cl_lo a
  have a1 := cl_hi a
  unfold fix_Neg.f
  simp only [fknown_is, Option.bind_some]
  rw [w64 (by omega) (by omega)]

/-- What a wide number counts. -/
def Sane (a b : Int) : Prop := 0 ≤ b ∧ b ≤ 4611686018427387903 ∧ -2305843009213693952 ≤ a ∧ a < 2305843009213693952
instance (a b : Int) : Decidable (Sane a b) := by unfold Sane; infer_instance
def Fits (n : Int) : Prop := -10633823966279326983230456482242756608 ≤ n ∧ n < 10633823966279326983230456482242756608
instance (n : Int) : Decidable (Fits n) := by unfold Fits; infer_instance
def kn (a b : Int) : Int := if Sane a b then a * 4611686018427387904 + b else 0
def hi (n : Int) : Int := n / 4611686018427387904
def lo (n : Int) : Int := n % 4611686018427387904

theorem lo_bd (n : Int) : 0 ≤ lo n ∧ lo n ≤ 4611686018427387903 := by unfold lo; omega
theorem hi_lo (n : Int) : hi n * 4611686018427387904 + lo n = n := by unfold hi lo; omega
theorem hi_bd {n : Int} (h : Fits n) : -2305843009213693952 ≤ hi n ∧ hi n < 2305843009213693952 := by unfold hi; unfold Fits at h; omega
theorem sane_pair {n : Int} (h : Fits n) : Sane (hi n) (lo n) := ⟨(lo_bd n).1, (lo_bd n).2, (hi_bd h).1, (hi_bd h).2⟩
theorem kn_pair {n : Int} (h : Fits n) : kn (hi n) (lo n) = n := by unfold kn; rw [if_pos (sane_pair h), hi_lo]
theorem kn_fits (a b : Int) : Fits (kn a b) := by
  unfold kn Fits
  split
  · rename_i h
    unfold Sane at h
    omega
  · omega
theorem fits_zero : Fits 0 := by unfold Fits; omega
theorem hi_zero : hi 0 = 0 := rfl
theorem lo_zero : lo 0 = 0 := rfl
theorem pair_of {a b : Int} (h : Sane a b) : hi (kn a b) = a ∧ lo (kn a b) = b := by
  unfold kn
  rw [if_pos h]
  unfold hi lo
  unfold Sane at h
  omega
theorem kn_of {a b : Int} (h : Sane a b) : kn a b = a * 4611686018427387904 + b := by unfold kn; rw [if_pos h]
theorem kn_bad {a b : Int} (h : ¬ Sane a b) : kn a b = 0 := by unfold kn; rw [if_neg h]
theorem pair_inj {m n : Int} (h : hi m = hi n) (g : lo m = lo n) : m = n := by rw [← hi_lo m, ← hi_lo n, h, g]

theorem sane_is (a b : Int) : wide_Sane.f a b = some (decide (Sane a b)) := by
  unfold wide_Sane.f
  by_cases h1 : b ≥ 0
  · by_cases h2 : b ≤ 4611686018427387903
    · by_cases h3 : a ≥ -2305843009213693952
      · rw [if_pos h1, if_pos h2, if_pos h3]
        have : (a < 2305843009213693952) ↔ Sane a b := by unfold Sane; omega
        exact congrArg some (by rw [Bool.eq_iff_iff]; simpa using this)
      · rw [if_pos h1, if_pos h2, if_neg h3]
        have : ¬ Sane a b := by unfold Sane; omega
        simp [this]
    · rw [if_pos h1, if_neg h2]
      have : ¬ Sane a b := by unfold Sane; omega
      simp [this]
  · rw [if_neg h1]
    have : ¬ Sane a b := by unfold Sane; omega
    simp [this]

theorem known_is (a b : Int) : wide_known.f a b = some (hi (kn a b), lo (kn a b)) := by
  unfold wide_known.f
  rw [sane_is]
  simp only [Option.bind_some]
  by_cases h : Sane a b
  · rw [if_pos (decide_eq_true h), (pair_of h).1, (pair_of h).2]
  · rw [if_neg (by simpa using h), kn_bad h, hi_zero, lo_zero]

theorem of_is (n : Int) : wide_Of.f n = some (hi n, lo n) := by
  unfold wide_Of.f hi lo
  rw [band62]

theorem bind_of {α β : Type} {o : Option α} {x : α} {f : α → Option β} {r : Option β} (h : o = some x) (g : f x = r) : o.bind f = r := by rw [h]; exact g

def addv (x y : Int) : Int := if Fits (x + y) then x + y else 0
theorem addv_fits (x y : Int) : Fits (addv x y) := by
  unfold addv
  split
  · assumption
  · exact fits_zero

theorem add_is (a b c d : Int) : wide_Add.f a b c d = some (hi (addv (kn a b) (kn c d)), lo (addv (kn a b) (kn c d)), decide (Fits (kn a b + kn c d))) := by
  have hx := kn_fits a b
  have hy := kn_fits c d
  unfold wide_Add.f
  refine bind_of (known_is a b) ?_
  refine bind_of (known_is c d) ?_
  generalize kn a b = x at *
  generalize kn c d = y at *
  have hx1 := hi_bd hx
  have hy1 := hi_bd hy
  have hx2 := lo_bd x
  have hy2 := lo_bd y
  have hx3 := hi_lo x
  have hy3 := hi_lo y
  have e1 : IntKind.u64.wrap (lo x) = lo x := wu64 (by omega) (by omega)
  have e2 : IntKind.u64.wrap (lo y) = lo y := wu64 (by omega) (by omega)
  have e3 : IntKind.u64.wrap (lo x + lo y) = lo x + lo y := wu64 (by omega) (by omega)
  have e4 : Go.bits .and .u64 (lo x + lo y) 4611686018427387903 = (lo x + lo y) % 4611686018427387904 := bandu62 _
  have e5 : wrap64 ((lo x + lo y) / 4611686018427387904) = (lo x + lo y) / 4611686018427387904 := w64 (by omega) (by omega)
  have e6 : wrap64 (hi x + hi y) = hi x + hi y := w64 (by omega) (by omega)
  have e7 : wrap64 (hi x + hi y + (lo x + lo y) / 4611686018427387904) = hi x + hi y + (lo x + lo y) / 4611686018427387904 := w64 (by omega) (by omega)
  have e8 : wrap64 ((lo x + lo y) % 4611686018427387904) = (lo x + lo y) % 4611686018427387904 := w64 (by omega) (by omega)
  have p1 : hi x + hi y + (lo x + lo y) / 4611686018427387904 = hi (x + y) := by unfold hi lo at *; omega
  have p2 : (lo x + lo y) % 4611686018427387904 = lo (x + y) := by unfold lo; omega
  have q1 : wrap64 (wrap64 (hi x + hi y) + wrap64 (IntKind.u64.wrap (IntKind.u64.wrap (lo x) + IntKind.u64.wrap (lo y)) / 4611686018427387904)) = hi (x + y) := by
    rw [e1, e2, e3, e5, e6, e7, p1]
  have q2 : wrap64 (Go.bits .and .u64 (IntKind.u64.wrap (IntKind.u64.wrap (lo x) + IntKind.u64.wrap (lo y))) 4611686018427387903) = lo (x + y) := by
    rw [e1, e2, e3, e4, e8, p2]
  have hk := known_is (hi (x + y)) (lo (x + y))
  clear e1 e2 e3 e4 e5 e6 e7 e8 p1 p2
  generalize wrap64 (wrap64 (hi x + hi y) + wrap64 (IntKind.u64.wrap (IntKind.u64.wrap (lo x) + IntKind.u64.wrap (lo y)) / 4611686018427387904)) = A at q1 ⊢
  generalize wrap64 (Go.bits .and .u64 (IntKind.u64.wrap (IntKind.u64.wrap (lo x) + IntKind.u64.wrap (lo y))) 4611686018427387903) = B at q2 ⊢
  subst q1 q2
  refine bind_of hk ?_
  by_cases h : Fits (x + y)
  · have ea : addv x y = x + y := by unfold addv; rw [if_pos h]
    rw [kn_pair h, if_neg (by simp), ea, decide_eq_true h]
  · have ea : addv x y = 0 := by unfold addv; rw [if_neg h]
    have hs : ¬ Sane (hi (x + y)) (lo (x + y)) := by
      intro hs
      apply h
      unfold Sane at hs
      unfold Fits
      have := hi_lo (x + y)
      omega
    have hn : ¬ x + y = 0 := by intro e; apply h; rw [e]; exact fits_zero
    rw [kn_bad hs, hi_zero, lo_zero, if_pos, ea, decide_eq_false h, hi_zero, lo_zero]
    have := hi_lo (x + y)
    simp only [Bool.or_eq_true, Bool.not_eq_true', beq_eq_false_iff_ne]
    omega

theorem lowneg {a b : Int} (h0 : 0 ≤ b) (h1 : b ≤ 4611686018427387903) (h2 : -4611686018427387904 ≤ a) (h3 : a ≤ 4611686018427387904) :
    wide_neg.f a b = some (hi (-(a * 4611686018427387904 + b)), lo (-(a * 4611686018427387904 + b))) := by
  unfold wide_neg.f
  by_cases h : b = 0
  · rw [if_pos h, w64 (by omega) (by omega)]
    subst h
    have e1 : hi (-(a * 4611686018427387904 + 0)) = -a := by unfold hi; omega
    have e2 : lo (-(a * 4611686018427387904 + 0)) = 0 := by unfold lo; omega
    rw [e1, e2]
  · rw [if_neg h, bnot64 a (by omega) (by omega), w64 (by omega) (by omega)]
    have e1 : hi (-(a * 4611686018427387904 + b)) = -1 - a := by unfold hi; omega
    have e2 : lo (-(a * 4611686018427387904 + b)) = 4611686018427387904 - b := by unfold lo; omega
    rw [e1, e2]

def negv (x : Int) : Int := if Fits (-x) then -x else 0
theorem negv_fits (x : Int) : Fits (negv x) := by
  unfold negv
  split
  · assumption
  · exact fits_zero

def cmpv (x y : Int) : Int := if x < y then -1 else if y < x then 1 else 0

theorem compare_is (a b : Int) : cmp_Compare_int.f a b = some (cmpv a b) := by
  unfold cmp_Compare_int.f cmp_isNaN_int.f cmpv
  simp only [bne_self_eq_false, Option.bind_some, Bool.false_eq_true, if_false]
  by_cases h1 : a < b
  · rw [if_pos h1, if_pos h1]
  · by_cases h2 : b < a
    · rw [if_neg h1, if_neg h1, if_pos h2, if_pos h2]
    · rw [if_neg h1, if_neg h1, if_neg h2, if_neg h2]

theorem or_is (k : Nat) (x y : Int) : cmp_Or_int.f (k + 3) [x, y] = some (if x = 0 then y else x) := by
  have w1 : wrap64 (0 + 1) = 1 := by unfold wrap64; omega
  have w2 : wrap64 (1 + 1) = 2 := by unfold wrap64; omega
  have r0 : rd [x, y] 0 = x := rfl
  have r1 : rd [x, y] 1 = y := rfl
  unfold cmp_Or_int.f
  simp only [cmp_Or_int.l0, List.length_cons, List.length_nil, r0, r1, w1, w2]
  by_cases hx : x = 0
  · by_cases hy : y = 0
    · simp [hx, hy]
    · simp [hx, hy]
  · simp [hx]

theorem cmp_is (k : Nat) (a b c d : Int) : wide_Compare.f (k + 3) a b c d = some (cmpv (kn a b) (kn c d)) := by
  unfold wide_Compare.f
  simp only [known_is, compare_is, or_is, Option.bind_some]
  generalize kn a b = x at *
  generalize kn c d = y at *
  congr 1
  have := lo_bd x
  have := lo_bd y
  have := hi_lo x
  have := hi_lo y
  unfold cmpv
  (repeat' split) <;> omega

theorem mul64_is {x y : Int} (hx0 : 0 ≤ x) (hx1 : x ≤ 288230376151711744) (hy0 : 0 ≤ y) (hy1 : y ≤ 288230376151711744) :
    bits_Mul64.f x y = some (x * y / 18446744073709551616, x * y % 18446744073709551616) := by
  unfold bits_Mul64.f
  rw [bandu32, bandu32]
  have ex : x = x / 4294967296 * 4294967296 + x % 4294967296 := by omega
  have ey : y = y / 4294967296 * 4294967296 + y % 4294967296 := by omega
  have bx1 : 0 ≤ x / 4294967296 := by omega
  have bx2 : x / 4294967296 ≤ 67108864 := by omega
  have bx3 : 0 ≤ x % 4294967296 := by omega
  have bx4 : x % 4294967296 ≤ 4294967295 := by omega
  have by1 : 0 ≤ y / 4294967296 := by omega
  have by2 : y / 4294967296 ≤ 67108864 := by omega
  have by3 : 0 ≤ y % 4294967296 := by omega
  have by4 : y % 4294967296 ≤ 4294967295 := by omega
  generalize x / 4294967296 = p at *
  generalize x % 4294967296 = q at *
  generalize y / 4294967296 = r at *
  generalize y % 4294967296 = s at *
  subst ex ey
  have b1 : 0 ≤ p * r := Int.mul_nonneg bx1 by1
  have b2 : p * r ≤ 67108864 * 67108864 := Int.mul_le_mul bx2 by2 by1 (by decide)
  have b3 : 0 ≤ p * s := Int.mul_nonneg bx1 by3
  have b4 : p * s ≤ 67108864 * 4294967295 := Int.mul_le_mul bx2 by4 by3 (by decide)
  have b5 : 0 ≤ q * r := Int.mul_nonneg bx3 by1
  have b6 : q * r ≤ 4294967295 * 67108864 := Int.mul_le_mul bx4 by2 by1 (by decide)
  have b7 : 0 ≤ q * s := Int.mul_nonneg bx3 by3
  have b8 : q * s ≤ 4294967295 * 4294967295 := Int.mul_le_mul bx4 by4 by3 (by decide)
  have hp : (p * 4294967296 + q) * (r * 4294967296 + s) = p * r * 18446744073709551616 + (p * s + q * r) * 4294967296 + q * s := by
    grind
  rw [hp, bandu32]
  generalize p * r = a at *
  generalize p * s = b at *
  generalize q * r = c at *
  generalize q * s = d at *
  rw [wu64 (n := d) (by omega) (by omega), wu64 (n := b) (by omega) (by omega), wu64 (n := a) (by omega) (by omega), wu64 (n := c) (by omega) (by omega)]
  rw [wu64 (n := b + d / 4294967296) (by omega) (by omega)]
  rw [wu64 (n := a + (b + d / 4294967296) / 4294967296) (by omega) (by omega)]
  rw [wu64 (n := (b + d / 4294967296) % 4294967296 + c) (by omega) (by omega)]
  rw [wu64 (n := a + (b + d / 4294967296) / 4294967296 + ((b + d / 4294967296) % 4294967296 + c) / 4294967296) (by omega) (by omega), u64_wrap]
  have g1 : a + (b + d / 4294967296) / 4294967296 + ((b + d / 4294967296) % 4294967296 + c) / 4294967296 = (a * 18446744073709551616 + (b + c) * 4294967296 + d) / 18446744073709551616 := by omega
  rw [g1]

def ab (x : Int) : Int := mx (cl x) (- cl x)
theorem ab_bd (x : Int) : 0 ≤ ab x ∧ ab x ≤ 288230376151711744 := by
  have := cl_lo x
  have := cl_hi x
  unfold ab mx
  split <;> omega

theorem mul_fits (a b : Int) : -83076749736557242056487941267521536 ≤ cl a * cl b ∧ cl a * cl b ≤ 83076749736557242056487941267521536 := by
  have a0 := cl_lo a
  have a1 := cl_hi a
  have b0 := cl_lo b
  have b1 := cl_hi b
  generalize cl a = x at *
  generalize cl b = y at *
  have h : (x.natAbs : Int) * (y.natAbs : Int) ≤ 288230376151711744 * 288230376151711744 := Int.mul_le_mul (by omega) (by omega) (by omega) (by decide)
  rw [← Int.natCast_mul, ← Int.natAbs_mul] at h
  omega

theorem fits_mul (a b : Int) : Fits (cl a * cl b) := by
  have := mul_fits a b
  unfold Fits
  omega

theorem ab_mul (a b : Int) : ab a * ab b = if (decide (a < 0) != decide (b < 0)) = true then - (cl a * cl b) else cl a * cl b := by
  have ha : ab a = if a < 0 then - cl a else cl a := by unfold ab mx cl; (repeat' split) <;> omega
  have hb : ab b = if b < 0 then - cl b else cl b := by unfold ab mx cl; (repeat' split) <;> omega
  rw [ha, hb]
  by_cases h1 : a < 0 <;> by_cases h2 : b < 0 <;> simp [h1, h2, Int.neg_mul, Int.mul_neg]

theorem wmul_is (a b : Int) : wide_Mul.f a b = some (hi (cl a * cl b), lo (cl a * cl b)) := by
  have ha := ab_bd a
  have hb := ab_bd b
  have hm := mul_fits a b
  have hab := ab_mul a b
  unfold wide_Mul.f
  refine bind_of (abs_is a) ?_
  refine bind_of (abs_is b) ?_
  have e1 : IntKind.u64.wrap (mx (cl a) (- cl a)) = ab a := wu64 (n := ab a) (by omega) (by omega)
  have e2 : IntKind.u64.wrap (mx (cl b) (- cl b)) = ab b := wu64 (n := ab b) (by omega) (by omega)
  rw [e1, e2]
  refine bind_of (mul64_is ha.1 ha.2 hb.1 hb.2) ?_
  have hp0 : 0 ≤ ab a * ab b := Int.mul_nonneg ha.1 hb.1
  have hp1 : ab a * ab b ≤ 83076749736557242056487941267521536 := by
    rw [hab]
    split <;> omega
  generalize ab a * ab b = p at *
  generalize cl a * cl b = z at *
  have q1 : wrap64 (Go.bits .or .u64 (IntKind.u64.wrap (p / 18446744073709551616 * 4)) (p % 18446744073709551616 / 4611686018427387904)) = hi p := by
    have := boru64 (IntKind.u64.wrap (p / 18446744073709551616 * 4)) (p % 18446744073709551616 / 4611686018427387904) 2 (by decide) (by rw [wu64 (by omega) (by omega)]; omega) (by omega) (by omega)
    rw [this, wu64 (by omega) (by omega), w64 (by omega) (by omega)]
    unfold hi
    omega
  have q2 : wrap64 (Go.bits .and .u64 (p % 18446744073709551616) 4611686018427387903) = lo p := by
    rw [bandu62, w64 (by omega) (by omega)]
    unfold lo
    omega
  by_cases h : (decide (a < 0) != decide (b < 0)) = true
  · rw [if_pos h] at hab
    rw [if_pos h]
    refine bind_of (x := (hi z, lo z)) ?_ rfl
    have e : ∀ {u v u' v' : Int}, u = u' → v = v' → wide_neg.f u v = wide_neg.f u' v' := by intro u v u' v' h1 h2; rw [h1, h2]
    refine (e q1 q2).trans ?_
    have hl := lo_bd p
    have hh : -4611686018427387904 ≤ hi p ∧ hi p ≤ 4611686018427387904 := by unfold hi; omega
    rw [lowneg hl.1 hl.2 hh.1 hh.2, hi_lo]
    have : -p = z := by omega
    rw [this]
  · rw [if_neg h] at hab
    rw [if_neg h]
    subst hab
    exact congrArg some (Prod.ext q1 q2)

def sh (k : Int) : Nat := (mx 0 (mn k 200)).toNat
theorem sh_eq (k : Int) : mx 0 (mn k 200) = (sh k : Int) ∧ sh k ≤ 200 := by
  unfold sh mx mn
  constructor <;> (repeat' split) <;> omega

theorem pow_pos' (j : Nat) : (0 : Int) < 2 ^ j := Int.pow_pos (by decide)

theorem div_pow_add (x : Int) (i j : Nat) : x / 2 ^ i / 2 ^ j = x / 2 ^ (i + j) := by
  rw [Int.ediv_ediv_of_nonneg (Int.le_of_lt (pow_pos' i)), Int.pow_add]

theorem div_small {x : Int} {j : Nat} (h0 : -(2 ^ j) ≤ x) (h1 : x < 2 ^ j) : x / 2 ^ j = if x < 0 then -1 else 0 := by
  have hp := pow_pos' j
  by_cases h : x < 0
  · rw [if_pos h]
    refine (Int.ediv_eq_iff_of_pos hp).mpr ?_
    omega
  · rw [if_neg h]
    exact Int.ediv_eq_zero_of_lt (by omega) h1

theorem wrap_mod (n : Int) : ∃ m : Int, wrap64 n = n + 18446744073709551616 * m := ⟨- ((n + 9223372036854775808) / 18446744073709551616), by unfold wrap64; omega⟩

theorem yes_of {α : Type} {c : Prop} [Decidable c] {a b r : α} (h : c) (g : a = r) : (if c then a else b) = r := by rw [if_pos h]; exact g
theorem no_of {α : Type} {c : Prop} [Decidable c] {a b r : α} (h : ¬ c) (g : b = r) : (if c then a else b) = r := by rw [if_neg h]; exact g

theorem fits_div {x : Int} (h : Fits x) (j : Nat) : Fits (x / 2 ^ j) := by
  unfold Fits at *
  have hp := pow_pos' j
  constructor
  · refine (Int.le_ediv_iff_mul_le hp).mpr ?_
    have : (1 : Int) ≤ 2 ^ j := hp
    have h2 := Int.mul_le_mul_of_nonneg_left this (show (0 : Int) ≤ 10633823966279326983230456482242756608 by decide)
    omega
  · by_cases h0 : x < 0
    · have := Int.ediv_neg_of_neg_of_pos h0 hp
      omega
    · have := Int.ediv_le_self (a := x) (2 ^ j) (by omega)
      omega

theorem add_p {x y : Int} (h : Fits x) (g : Fits y) : wide_Add.f (hi x) (lo x) (hi y) (lo y) = some (hi (addv x y), lo (addv x y), decide (Fits (x + y))) := by
  rw [add_is, kn_pair h, kn_pair g]
theorem cmp_p {x y : Int} (h : Fits x) (g : Fits y) (k : Nat) : wide_Compare.f (k + 3) (hi x) (lo x) (hi y) (lo y) = some (cmpv x y) := by
  rw [cmp_is, kn_pair h, kn_pair g]
theorem sane_p {x : Int} (h : Fits x) : wide_Sane.f (hi x) (lo x) = some true := by
  rw [sane_is, decide_eq_true (sane_pair h)]
theorem addv_ok {x y : Int} (h : Fits (x + y)) : addv x y = x + y := by unfold addv; rw [if_pos h]
theorem sh_of {k : Int} (h0 : 0 ≤ k) (h1 : k ≤ 200) : (sh k : Int) = k := by
  unfold sh mx mn
  (repeat' split) <;> omega
theorem fits_cl {n : Int} (h0 : -9223372036854775808 ≤ n) (h1 : n ≤ 9223372036854775807) : Fits n := by unfold Fits; omega
theorem band1 (x : Int) : Go.bits .and .i64 x 1 = x % 2 := by
  have h := band64 x 1 (by decide)
  exact h
theorem pair_eq {m n : Int} : (hi m == hi n && (lo m == lo n)) = true ↔ m = n := by
  rw [Bool.and_eq_true, beq_iff_eq, beq_iff_eq]
  exact ⟨fun h => pair_inj h.1 h.2, fun h => by rw [h]; exact ⟨rfl, rfl⟩⟩
theorem pair_ne {m n : Int} : ((!(hi m == hi n)) || (!(lo m == lo n))) = true ↔ m ≠ n := by
  rw [← Bool.not_and, Bool.not_eq_true', ← Bool.not_eq_true, pair_eq]

theorem sq_le {a b : Int} (h0 : 0 ≤ a) (h : a ≤ b) : a * a ≤ b * b := Int.mul_le_mul h h h0 (by omega)
theorem sq_lt {a b v : Int} (hb : 0 ≤ b) (h1 : a * a ≤ v) (h2 : v < b * b) : a < b := by
  by_cases h : a < b
  · exact h
  · exfalso
    have := sq_le hb (show b ≤ a by omega)
    omega
theorem sq_succ (r : Int) : (r + 1) * (r + 1) = r * r + 2 * r + 1 := by grind

/-- The root of v among 0 .. 2^58. -/
def Rt (v r : Int) : Prop := 0 ≤ r ∧ r ≤ 288230376151711744 ∧ r * r ≤ v ∧ (r = 288230376151711744 ∨ v < (r + 1) * (r + 1))
theorem rt_one {v r s : Int} (h : Rt v r) (g : Rt v s) : r = s := by
  obtain ⟨h0, h1, h2, h3⟩ := h
  obtain ⟨g0, g1, g2, g3⟩ := g
  have a1 : r ≤ s := by
    rcases g3 with g3 | g3
    · omega
    · have := sq_lt (by omega) h2 g3
      omega
  have a2 : s ≤ r := by
    rcases h3 with h3 | h3
    · omega
    · have := sq_lt (by omega) g2 h3
      omega
  omega

theorem l0_ok {v : Int} (hv : Fits v) (j : Nat) : ∀ (k : Nat) (p q : Int), j + 8 ≤ k → 0 ≤ p → p ≤ q → q ≤ 288230376151711744 → q - p < 2 ^ j → p * p ≤ v → (q = 288230376151711744 ∨ v < (q + 1) * (q + 1)) →
    ∃ r, Rt v r ∧ ∀ bad, root_Wide.l0 k bad p q (hi v) (lo v) = some (r, if r < 288230376151711744 then bad else decide (83076749736557242632948693570945025 ≤ v)) := by
  have last : ∀ (k : Nat) (p : Int), 8 ≤ k → 0 ≤ p → p ≤ 288230376151711744 → p * p ≤ v → (p = 288230376151711744 ∨ v < (p + 1) * (p + 1)) →
      ∃ r, Rt v r ∧ ∀ bad, root_Wide.l0 k bad p p (hi v) (lo v) = some (r, if r < 288230376151711744 then bad else decide (83076749736557242632948693570945025 ≤ v)) := by
    intro k p hk h0 h1 h2 h3
    obtain ⟨k, rfl⟩ : ∃ m, k = m + 4 := ⟨k - 4, by omega⟩
    refine ⟨p, ⟨h0, h1, h2, h3⟩, fun bad => ?_⟩
    simp only [root_Wide.l0]
    refine no_of (by omega) ?_
    by_cases c : p < 288230376151711744
    · exact yes_of c (by rw [if_pos c])
    · obtain rfl : p = 288230376151711744 := by omega
      refine no_of c ?_
      have e1 : cl 288230376151711744 = 288230376151711744 := by decide
      have f1 : Fits (288230376151711744 * 288230376151711744) := by decide
      have f2 : Fits 576460752303423489 := by decide
      have f3 : Fits (288230376151711744 * 288230376151711744 + 576460752303423489) := by decide
      refine bind_of (wmul_is _ _) ?_
      rw [e1]
      refine bind_of (of_is _) (bind_of (add_p f1 f2) ?_)
      rw [addv_ok f3]
      refine bind_of (cmp_p f3 hv k) ?_
      rw [if_neg c]
      congr 2
      rw [Bool.eq_iff_iff]
      simp only [decide_eq_true_eq]
      unfold cmpv
      (repeat' split) <;> omega
  induction j with
  | zero =>
    intro k p q hk h0 h1 h2 h3 h4 h5
    obtain rfl : p = q := by simp at h3; omega
    exact last k p (by omega) h0 h2 h4 h5
  | succ j ih =>
    intro k p q hk h0 h1 h2 h3 h4 h5
    by_cases c : p < q
    · obtain ⟨k, rfl⟩ : ∃ m, k = m + 4 := ⟨k - 4, by omega⟩
      have hp : (2 : Int) ^ (j + 1) = 2 * 2 ^ j := by rw [Int.pow_succ, Int.mul_comm]
      have e1 : wrap64 (q - wrap64 (Int.tdiv (wrap64 (q - p)) 2)) = q - (q - p) / 2 := by
        rw [w64 (n := q - p) (by omega) (by omega), Int.tdiv_eq_ediv_of_nonneg (by omega), w64 (n := (q - p) / 2) (by omega) (by omega), w64 (by omega) (by omega)]
      have e2 : wrap64 (q - (q - p) / 2 - 1) = q - (q - p) / 2 - 1 := w64 (by omega) (by omega)
      generalize hm : q - (q - p) / 2 = m at *
      have em : cl m = m := by unfold cl; (repeat' split) <;> omega
      have fm := fits_mul m m
      rw [em] at fm
      by_cases g : m * m ≤ v
      · obtain ⟨r, hr, hbad⟩ := ih (k + 3) m q (by omega) (by omega) (by omega) h2 (by omega) g h5
        refine ⟨r, hr, fun bad => ?_⟩
        rw [root_Wide.l0]
        simp only [e1, e2]
        refine yes_of c (bind_of (wmul_is m m) ?_)
        rw [em]
        refine bind_of (cmp_p fm hv k) (yes_of ?_ (hbad bad))
        unfold cmpv
        (repeat' split) <;> omega
      · obtain ⟨r, hr, hbad⟩ := ih (k + 3) p (m - 1) (by omega) (by omega) (by omega) (by omega) (by omega) h4 (Or.inr (by rw [show m - 1 + 1 = m by omega]; omega))
        refine ⟨r, hr, fun bad => ?_⟩
        rw [root_Wide.l0]
        simp only [e1, e2]
        refine yes_of c (bind_of (wmul_is m m) ?_)
        rw [em]
        refine bind_of (cmp_p fm hv k) (no_of ?_ (hbad bad))
        unfold cmpv
        (repeat' split) <;> omega
    · obtain rfl : p = q := by omega
      exact last k p (by omega) h0 h2 h4 h5

theorem rt_is {v : Int} (hv : Fits v) (h0 : 0 ≤ v) : ∃ r, Rt v r := by
  obtain ⟨r, hr, _⟩ := l0_ok hv 59 80 0 288230376151711744 (by omega) (by omega) (by omega) (by omega) (by decide) (by omega) (Or.inl rfl)
  exact ⟨r, hr⟩

open Classical in
noncomputable def rt (v : Int) : Int := if h : ∃ r, Rt v r then Classical.choose h else 0
theorem rt_rt {v : Int} (hv : Fits v) (h0 : 0 ≤ v) : Rt v (rt v) := by
  unfold rt
  rw [dif_pos (rt_is hv h0)]
  exact Classical.choose_spec (rt_is hv h0)
theorem rt_eq {v r : Int} (h : Rt v r) : rt v = r := by
  have hx : ∃ s, Rt v s := ⟨r, h⟩
  unfold rt
  rw [dif_pos hx]
  exact rt_one (Classical.choose_spec hx) h

/-- The flag of the root. -/
noncomputable def rbad (v : Int) (bad : Bool) : Bool := if rt v < 288230376151711744 then bad else decide (83076749736557242632948693570945025 ≤ v)

theorem root_is (k : Nat) (a b : Int) : root_Wide.f (k + 80) a b = some (if kn a b < 0 then (0, true) else (rt (kn a b), rbad (kn a b) (!decide (Sane a b)))) := by
  have hv := kn_fits a b
  have go : 0 ≤ kn a b → ∀ bad, root_Wide.l0 (k + 79) bad 0 288230376151711744 (hi (kn a b)) (lo (kn a b)) = some (rt (kn a b), rbad (kn a b) bad) := by
    intro h0 bad
    obtain ⟨r, hr, hbad⟩ := l0_ok hv 59 (k + 79) 0 288230376151711744 (by omega) (by omega) (by omega) (by omega) (by decide) (by omega) (Or.inl rfl)
    rw [hbad, rbad, rt_eq hr]
  have hb := hi_lo (kn a b)
  have hl := lo_bd (kn a b)
  unfold root_Wide.f
  refine bind_of (sane_is a b) ?_
  by_cases s : Sane a b
  · rw [decide_eq_true s]
    refine yes_of rfl ?_
    simp only [root_Wide.j0]
    by_cases c : a < 0
    · refine yes_of c ?_
      rw [if_pos]
      rw [kn_of s]
      unfold Sane at s
      omega
    · refine no_of c ?_
      have c0 : 0 ≤ kn a b := by
        rw [kn_of s]
        unfold Sane at s
        omega
      have := go c0 (!true)
      rw [(pair_of s).1, (pair_of s).2] at this
      rw [if_neg (by omega)]
      exact this
  · rw [decide_eq_false s]
    refine no_of (by simp) ?_
    simp only [root_Wide.j0]
    refine no_of (by omega) ?_
    have e := kn_bad s
    have := go (by omega) (!false)
    rw [e] at this
    rw [e, if_neg (by omega)]
    exact this

theorem root_p (k : Nat) {v : Int} (hv : Fits v) (h0 : 0 ≤ v) : root_Wide.f (k + 80) (hi v) (lo v) = some (rt v, rbad v false) := by
  rw [root_is, kn_pair hv, if_neg (by omega), decide_eq_true (sane_pair hv)]
  rfl

theorem rt_small {v : Int} (hv : Fits v) (h0 : 0 ≤ v) (h : v < 83076749736557242056487941267521536) : rt v < 288230376151711744 := by
  have := rt_rt hv h0
  exact sq_lt (by omega) this.2.2.1 (by omega)

theorem rbad_ok {v : Int} (h : v < 83076749736557242632948693570945025) : rbad v false = false := by
  unfold rbad
  split
  · rfl
  · simpa using h

theorem sqrt_is (k : Nat) (a : Int) : root_Sqrt.f (k + 80) a = some (if cl a < 0 then 0 else rt (cl a * 4294967296), (cl a != a) || decide (cl a < 0)) := by
  have a0 := cl_lo a
  have a1 := cl_hi a
  unfold root_Sqrt.f
  refine bind_of (clamp_is a) (bind_of (wmul_is a 4294967296) ?_)
  have e1 : cl 4294967296 = 4294967296 := by decide
  rw [e1]
  have f1 : Fits (cl a * 4294967296) := by unfold Fits; omega
  by_cases c : cl a < 0
  · refine bind_of (x := (0, true)) (by rw [root_is, kn_pair f1, if_pos (by omega)]) ?_
    rw [if_pos c, decide_eq_true c]
    by_cases d : (cl a != a) = true
    · exact yes_of d (by rw [d]; rfl)
    · exact no_of d (by simp)
  · refine bind_of (root_p k f1 (by omega)) ?_
    rw [if_neg c, decide_eq_false c, rbad_ok (by omega)]
    by_cases d : (cl a != a) = true
    · exact yes_of d (by rw [d]; rfl)
    · refine no_of d ?_
      have : (cl a != a) = false := by simpa using d
      rw [this]
      rfl

theorem sq_bd (a : Int) : 0 ≤ cl a * cl a ∧ cl a * cl a ≤ 83076749736557242056487941267521536 := by
  have h := (mul_fits a a).2
  refine ⟨?_, h⟩
  by_cases c : 0 ≤ cl a
  · exact Int.mul_nonneg c c
  · have := Int.mul_nonneg (show 0 ≤ - cl a by omega) (show 0 ≤ - cl a by omega)
    rw [Int.neg_mul_neg] at this
    exact this

theorem hyp_fits (a b : Int) : Fits (cl a * cl a + cl b * cl b) := by
  have h1 := sq_bd a
  have h2 := sq_bd b
  unfold Fits
  omega

theorem hyp_is (k : Nat) (a b : Int) : root_Hyp.f (k + 80) a b = some (rt (cl a * cl a + cl b * cl b), (cl a != a) || ((cl b != b) || rbad (cl a * cl a + cl b * cl b) false)) := by
  have h1 := sq_bd a
  have h2 := sq_bd b
  have f := hyp_fits a b
  unfold root_Hyp.f
  refine bind_of (clamp_is a) (bind_of (clamp_is b) (bind_of (wmul_is a a) (bind_of (wmul_is b b) ?_)))
  refine bind_of (add_p (fits_mul a a) (fits_mul b b)) ?_
  rw [addv_ok f]
  refine bind_of (root_p k f (by omega)) ?_
  by_cases d : (cl a != a) = true
  · exact yes_of d (by rw [d]; rfl)
  · refine no_of d ?_
    have d1 : (cl a != a) = false := by simpa using d
    rw [d1]
    by_cases e : (cl b != b) = true
    · exact yes_of e (by rw [e]; rfl)
    · refine no_of e ?_
      have e1 : (cl b != b) = false := by simpa using e
      rw [e1]
      rfl

end Go.Proofs.Ythfcodicpcengaa.Wide
