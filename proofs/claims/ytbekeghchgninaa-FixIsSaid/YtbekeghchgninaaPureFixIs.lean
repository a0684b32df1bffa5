/- For every two 64-bit integers the law FixIs answers true (the program's numbers are the document's): the arithmetic of the printed functions, no condition. -/
import Derived.Test.YtbekeghchgninaaPFixIsx2
import Derived.Laws.BitsLemmas
import Derived.OpenShut
namespace Go.Proofs.Ytbekeghchgninaa.Pure
open Go Go.RowKit Go.Proofs.Ytbekeghchgninaa.PFixIs Go.Proofs.YtbekeghchgninaaW.PrintWords Go.Proofs.YtbekeghchgninaaW.PrintLast Go.Proofs.YtbekeghchgninaaW.PrintMore

/-- Plain facts on numbers of 64 bits. -/
theorem w64 {n : Int} (h0 : -9223372036854775808 ≤ n) (h1 : n ≤ 9223372036854775807) : wrap64 n = n := by
  unfold wrap64
  omega

theorem w64_lo (n : Int) : -9223372036854775808 ≤ wrap64 n := by
  unfold wrap64
  omega

theorem w64_hi (n : Int) : wrap64 n ≤ 9223372036854775807 := by
  unfold wrap64
  omega

/-- 'and' with a mask of low places. -/
theorem band64 (x : Int) (i : Nat) (hi : i ≤ 62) : Go.bits .and .i64 x (2 ^ i - 1) = x % 2 ^ i := by
  have hp : (2 : Nat) ^ i ≤ 2 ^ 62 := Nat.pow_le_pow_right (by decide) hi
  have hpos : 0 < (2 : Nat) ^ i := Nat.two_pow_pos i
  have hc : ((2 : Int) ^ i - 1) = ((2 ^ i - 1 : Nat) : Int) := by
    rw [Int.natCast_sub hpos]; simp
  have hm : (2 ^ i - 1 : Nat) < 2 ^ 64 := by omega
  have hxm : x % 2 ^ i = ((x % 18446744073709551616).toNat % 2 ^ i : Nat) := by
    have h0 : 0 ≤ x % 18446744073709551616 := Int.emod_nonneg _ (by decide)
    rw [Int.natCast_emod, Int.toNat_of_nonneg h0, Int.natCast_pow]
    have hd : ((2 : Int) ^ i) ∣ 18446744073709551616 := ⟨2 ^ (64 - i), by rw [← Int.pow_add]; rw [show i + (64 - i) = 64 by omega]; rfl⟩
    exact (Int.emod_emod_of_dvd x hd).symm
  have hb : (BitVec.ofInt 64 x &&& BitVec.ofInt 64 ((2 ^ i - 1 : Nat) : Int)).toNat = (x % 18446744073709551616).toNat % 2 ^ i := by
    rw [BitVec.toNat_and, BitVec.toNat_ofInt, BitVec.ofInt_natCast, BitVec.toNat_ofNat, Nat.mod_eq_of_lt hm, Nat.and_two_pow_sub_one_eq_mod]
    rfl
  have hlt : (x % 18446744073709551616).toNat % 2 ^ i < 2 ^ i := Nat.mod_lt _ hpos
  rw [hc]
  show IntKind.wrap .i64 ((BitVec.ofInt 64 x &&& BitVec.ofInt 64 ((2 ^ i - 1 : Nat) : Int)).toNat : Int) = _
  rw [hb, hxm, IntKind.wrap_i64]
  omega

/-- What a number counts as. -/
def cl (n : Int) : Int := if n < -288230376151711744 then -288230376151711744 else if 288230376151711744 < n then 288230376151711744 else n

theorem cl_lo (n : Int) : -288230376151711744 ≤ cl n := by unfold cl; split <;> (try split) <;> omega
theorem cl_hi (n : Int) : cl n ≤ 288230376151711744 := by unfold cl; split <;> (try split) <;> omega

theorem within_is (a b c : Int) : fix_within_int.f a b c = some (mx b (mn a c)) := rfl

theorem known_is (a : Int) : fix_known.f a = some (cl a) := by
  unfold fix_known.f fix_within_int.f
  simp only [Option.bind_some]
  congr 1
  unfold mx mn cl
  (repeat' split) <;> omega

theorem clamp_is (a : Int) : fix_Clamp.f a = some (cl a, (cl a != a)) := by
  unfold fix_Clamp.f fix_within_int.f
  simp only [Option.bind_some]
  have h : mx (-288230376151711744) (mn a 288230376151711744) = cl a := by
    unfold mx mn cl
    (repeat' split) <;> omega
  rw [h]

/-- Was something clamped, of a sum or a difference? -/
def cbad (a b s : Int) : Bool := (cl s != s) || ((cl a != a) || (cl b != b))

theorem add_is (a b : Int) : fix_Add.f a b = some (cl (cl a + cl b), cbad a b (cl a + cl b)) := by
  have a0 := cl_lo a
  have a1 := cl_hi a
  have b0 := cl_lo b
  have b1 := cl_hi b
  have hw : wrap64 (cl a + cl b) = cl a + cl b := w64 (by omega) (by omega)
  unfold fix_Add.f cbad
  simp only [known_is, clamp_is, Option.bind_some, hw]
  by_cases h1 : cl (cl a + cl b) = cl a + cl b
  · by_cases h2 : cl a = a
    · have h3 := h1
      rw [h2] at h3
      simp [h2, h3]
    · simp [h1, h2]
  · simp [h1]

theorem neg_is (a : Int) : fix_Neg.f a = some (- cl a) := by
  have a0 := cl_lo a
  have a1 := cl_hi a
  unfold fix_Neg.f
  simp only [known_is, Option.bind_some]
  rw [w64 (by omega) (by omega)]

theorem abs_is (a : Int) : fix_Abs.f a = some (mx (cl a) (- cl a)) := by
  have a0 := cl_lo a
  have a1 := cl_hi a
  unfold fix_Abs.f
  simp only [known_is, Option.bind_some]
  rw [w64 (n := - cl a) (by omega) (by omega)]

theorem of_is (n : Int) : fix_Of.f n = some ((if n < -67108864 then -67108864 else if 67108864 < n then 67108864 else n) * 4294967296, ((if n < -67108864 then -67108864 else if 67108864 < n then 67108864 else n) != n)) := by
  unfold fix_Of.f fix_within_int.f
  simp only [Option.bind_some]
  have h : mx (-67108864) (mn n 67108864) = (if n < -67108864 then -67108864 else if 67108864 < n then 67108864 else n) := by
    unfold mx mn
    (repeat' split) <;> omega
  rw [h]
  rw [w64]
  · split <;> (try split) <;> omega
  · split <;> (try split) <;> omega

theorem floor_is (a : Int) : fix_Floor.f a = some (cl a / 4294967296) := by
  unfold fix_Floor.f
  simp only [known_is, Option.bind_some]

theorem near_is (a : Int) : fix_Near.f a = some ((cl a + 2147483648) / 4294967296) := by
  have a0 := cl_lo a
  have a1 := cl_hi a
  unfold fix_Near.f
  simp only [known_is, Option.bind_some]
  rw [w64 (by omega) (by omega)]

theorem rest_is (a : Int) : fix_Rest.f a = some (cl a % 4294967296) := by
  unfold fix_Rest.f
  simp only [known_is, Option.bind_some]
  have h := band64 (cl a) 32 (by decide)
  exact congrArg some h

theorem sub_is (a b : Int) : fix_Sub.f a b = some (cl (cl a - cl b), cbad a b (cl a - cl b)) := by
  have a0 := cl_lo a
  have a1 := cl_hi a
  have b0 := cl_lo b
  have b1 := cl_hi b
  have hw : wrap64 (cl a - cl b) = cl a - cl b := w64 (by omega) (by omega)
  unfold fix_Sub.f cbad
  simp only [known_is, clamp_is, Option.bind_some, hw]
  by_cases h1 : cl (cl a - cl b) = cl a - cl b
  · by_cases h2 : cl a = a
    · have h3 := h1
      rw [h2] at h3
      simp [h2, h3]
    · simp [h1, h2]
  · simp [h1]

theorem awake_is : outriggerlaw01_awake.f = some true := by decide +kernel

theorem rclamp_is (a : Int) : outriggerref01_Clamp.f a = some (cl a, (cl a != a)) := by
  unfold outriggerref01_Clamp.f cl
  by_cases h1 : a > 288230376151711744
  · rw [if_pos h1, if_neg (by omega), if_pos h1]
    simp
    omega
  · by_cases h2 : a < -288230376151711744
    · rw [if_neg h1, if_pos h2, if_pos h2]
      simp
      omega
    · rw [if_neg h1, if_neg h2, if_neg h2, if_neg h1]
      simp

theorem radd_is (a b : Int) : outriggerref01_Add.f a b = some (cl (cl a + cl b), cbad a b (cl a + cl b)) := by
  have a0 := cl_lo a
  have a1 := cl_hi a
  have b0 := cl_lo b
  have b1 := cl_hi b
  have hw : wrap64 (cl a + cl b) = cl a + cl b := w64 (by omega) (by omega)
  unfold outriggerref01_Add.f cbad
  simp only [rclamp_is, Option.bind_some, hw]
  cases (cl a != a) <;> cases (cl b != b) <;> simp

theorem rsub_is (a b : Int) : outriggerref01_Sub.f a b = some (cl (cl a - cl b), cbad a b (cl a - cl b)) := by
  have a0 := cl_lo a
  have a1 := cl_hi a
  have b0 := cl_lo b
  have b1 := cl_hi b
  have hw : wrap64 (cl a - cl b) = cl a - cl b := w64 (by omega) (by omega)
  unfold outriggerref01_Sub.f cbad
  simp only [rclamp_is, Option.bind_some, hw]
  cases (cl a != a) <;> cases (cl b != b) <;> simp

theorem rof_is (n : Int) : outriggerref01_Of.f n = some ((if n < -67108864 then -67108864 else if 67108864 < n then 67108864 else n) * 4294967296, ((if n < -67108864 then -67108864 else if 67108864 < n then 67108864 else n) != n)) := by
  unfold outriggerref01_Of.f
  by_cases h1 : n > 67108864
  · rw [if_pos h1, if_neg (by omega), if_pos h1]
    simp
    omega
  · by_cases h2 : n < -67108864
    · rw [if_neg h1, if_pos h2, if_pos h2]
      simp
      omega
    · rw [if_neg h1, if_neg h2, if_neg h2, if_neg h1, w64 (by omega) (by omega)]
      simp

theorem ras_is (a : Int) : outriggerref01_As.f a = some (cl a) := by
  unfold outriggerref01_As.f
  simp only [rclamp_is, Option.bind_some]

theorem rneg_is (a : Int) : outriggerref01_Neg.f a = some (- cl a) := by
  have a0 := cl_lo a
  have a1 := cl_hi a
  unfold outriggerref01_Neg.f
  simp only [ras_is, Option.bind_some]
  rw [w64 (by omega) (by omega)]

theorem rabs_is (a : Int) : outriggerref01_Abs.f a = some (mx (cl a) (- cl a)) := by
  have a0 := cl_lo a
  have a1 := cl_hi a
  unfold outriggerref01_Abs.f
  simp only [ras_is, Option.bind_some]
  rw [w64 (n := - cl a) (by omega) (by omega)]

theorem halves (x : Int) (h0 : -4611686018427387904 ≤ x) (h1 : x ≤ 4611686018427387904) :
    (if (wrap64 ((wrap64 (Int.tdiv x 4294967296)) * 4294967296)) > x then (some (wrap64 ((wrap64 (Int.tdiv x 4294967296)) - 1))) else (some (wrap64 (Int.tdiv x 4294967296)))) = some (x / 4294967296) := by
  have ht : Int.tdiv x 4294967296 = if 0 ≤ x then x / 4294967296 else - ((-x) / 4294967296) := by
    by_cases h : 0 ≤ x
    · rw [if_pos h, Int.tdiv_eq_ediv_of_nonneg h]
    · rw [if_neg h]
      have e : x = -(-x) := by omega
      rw [e, Int.neg_tdiv, Int.tdiv_eq_ediv_of_nonneg (by omega)]
      simp
  rw [ht]
  by_cases h : 0 ≤ x
  · simp only [if_pos h]
    rw [w64 (n := x / 4294967296) (by omega) (by omega), w64 (n := x / 4294967296 * 4294967296) (by omega) (by omega), if_neg (by omega)]
  · simp only [if_neg h]
    rw [w64 (n := -(-x / 4294967296)) (by omega) (by omega), w64 (n := -(-x / 4294967296) * 4294967296) (by omega) (by omega)]
    by_cases g : -(-x / 4294967296) * 4294967296 > x
    · rw [if_pos g, w64 (by omega) (by omega)]
      congr 1
      omega
    · rw [if_neg g]
      congr 1
      omega

theorem rfloor_is (a : Int) : outriggerref01_Floor.f a = some (cl a / 4294967296) := by
  have a0 := cl_lo a
  have a1 := cl_hi a
  unfold outriggerref01_Floor.f
  simp only [ras_is, Option.bind_some]
  exact halves (cl a) (by omega) (by omega)

theorem rnear_is (a : Int) : outriggerref01_Near.f a = some ((cl a + 2147483648) / 4294967296) := by
  have a0 := cl_lo a
  have a1 := cl_hi a
  unfold outriggerref01_Near.f
  simp only [ras_is, Option.bind_some]
  rw [w64 (n := cl a + 2147483648) (by omega) (by omega)]
  exact halves (cl a + 2147483648) (by omega) (by omega)

theorem rrest_is (a : Int) : outriggerref01_Rest.f a = some (cl a % 4294967296) := by
  have a0 := cl_lo a
  have a1 := cl_hi a
  unfold outriggerref01_Rest.f
  simp only [ras_is, rfloor_is, Option.bind_some]
  rw [w64 (n := cl a / 4294967296 * 4294967296) (by omega) (by omega), w64 (by omega) (by omega)]
  congr 1
  omega

theorem FixIs : outriggerlaw01_FixIs.Pure := by
  intro a b wa wb
  refine ⟨1, ?_⟩
  unfold outriggerlaw01_FixIs.f
  simp only [awake_is, clamp_is, rclamp_is, add_is, radd_is, sub_is, rsub_is, of_is, rof_is, Option.bind_some, if_true, bne_self_eq_false, Bool.false_eq_true, if_false]
  simp only [outriggerlaw01_FixIs.j0, neg_is, rneg_is, abs_is, rabs_is, floor_is, rfloor_is, near_is, rnear_is, rest_is, rrest_is, Option.bind_some, if_true, Bool.false_eq_true, if_false]
  simp


end Go.Proofs.Ytbekeghchgninaa.Pure
