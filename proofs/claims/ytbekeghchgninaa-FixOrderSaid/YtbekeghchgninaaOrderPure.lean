/- For every three 64-bit integers the law FixOrder answers true (more is no less): what the callees come to, and the tests of the law, no condition. -/
import Derived.Test.YtbekeghchgninaaOrderWalk
import Derived.Laws.BitsLemmas
import Derived.OpenShut
namespace Go.Proofs.Ytbekeghchgninaa.OrderPure
open Go Go.RowKit Go.Proofs.Ytbekeghchgninaa.PFixBack Go.Proofs.YtbekeghchgninaaW.PrintWords Go.Proofs.YtbekeghchgninaaW.PrintLast Go.Proofs.YtbekeghchgninaaW.PrintMore

/-- Plain facts on numbers of 64 bits. -/
theorem w64 {n : Int} (h0 : -9223372036854775808 ≤ n) (h1 : n ≤ 9223372036854775807) : wrap64 n = n := by
  unfold wrap64
  omega

theorem w64_lo (n : Int) : -9223372036854775808 ≤ wrap64 n := by
  unfold wrap64
  omega

theorem w64_hi (n : Int) : wrap64 n ≤ 9223372036854775807 := by
  unfold wrap64
  omega

/-- 'and' with a mask of low places. -/
theorem band64 (x : Int) (i : Nat) (hi : i ≤ 62) : Go.bits .and .i64 x (2 ^ i - 1) = x % 2 ^ i := by
  have hp : (2 : Nat) ^ i ≤ 2 ^ 62 := Nat.pow_le_pow_right (by decide) hi
  have hpos : 0 < (2 : Nat) ^ i := Nat.two_pow_pos i
  have hc : ((2 : Int) ^ i - 1) = ((2 ^ i - 1 : Nat) : Int) := by
    rw [Int.natCast_sub hpos]; simp
  have hm : (2 ^ i - 1 : Nat) < 2 ^ 64 := by omega
  have hxm : x % 2 ^ i = ((x % 18446744073709551616).toNat % 2 ^ i : Nat) := by
    have h0 : 0 ≤ x % 18446744073709551616 := Int.emod_nonneg _ (by decide)
    rw [Int.natCast_emod, Int.toNat_of_nonneg h0, Int.natCast_pow]
    have hd : ((2 : Int) ^ i) ∣ 18446744073709551616 := ⟨2 ^ (64 - i), by rw [← Int.pow_add]; rw [show i + (64 - i) = 64 by omega]; rfl⟩
    exact (Int.emod_emod_of_dvd x hd).symm
  have hb : (BitVec.ofInt 64 x &&& BitVec.ofInt 64 ((2 ^ i - 1 : Nat) : Int)).toNat = (x % 18446744073709551616).toNat % 2 ^ i := by
    rw [BitVec.toNat_and, BitVec.toNat_ofInt, BitVec.ofInt_natCast, BitVec.toNat_ofNat, Nat.mod_eq_of_lt hm, Nat.and_two_pow_sub_one_eq_mod]
    rfl
  have hlt : (x % 18446744073709551616).toNat % 2 ^ i < 2 ^ i := Nat.mod_lt _ hpos
  rw [hc]
  show IntKind.wrap .i64 ((BitVec.ofInt 64 x &&& BitVec.ofInt 64 ((2 ^ i - 1 : Nat) : Int)).toNat : Int) = _
  rw [hb, hxm, IntKind.wrap_i64]
  omega

/-- What a number counts as. -/
def cl (n : Int) : Int := if n < -288230376151711744 then -288230376151711744 else if 288230376151711744 < n then 288230376151711744 else n

theorem cl_lo (n : Int) : -288230376151711744 ≤ cl n := by unfold cl; split <;> (try split) <;> omega
theorem cl_hi (n : Int) : cl n ≤ 288230376151711744 := by unfold cl; split <;> (try split) <;> omega

theorem within_is (a b c : Int) : fix_within_int.f a b c = some (mx b (mn a c)) := rfl

theorem known_is (a : Int) : fix_known.f a = some (cl a) := by
  unfold fix_known.f fix_within_int.f
  simp only [Option.bind_some]
  congr 1
  unfold mx mn cl
  (repeat' split) <;> omega

theorem clamp_is (a : Int) : fix_Clamp.f a = some (cl a, (cl a != a)) := by
  unfold fix_Clamp.f fix_within_int.f
  simp only [Option.bind_some]
  have h : mx (-288230376151711744) (mn a 288230376151711744) = cl a := by
    unfold mx mn cl
    (repeat' split) <;> omega
  rw [h]

/-- Was something clamped, of a sum or a difference? -/
def cbad (a b s : Int) : Bool := (cl s != s) || ((cl a != a) || (cl b != b))

theorem add_is (a b : Int) : fix_Add.f a b = some (cl (cl a + cl b), cbad a b (cl a + cl b)) := by
  have a0 := cl_lo a
  have a1 := cl_hi a
  have b0 := cl_lo b
  have b1 := cl_hi b
  have hw : wrap64 (cl a + cl b) = cl a + cl b := w64 (by omega) (by omega)
  unfold fix_Add.f cbad
  simp only [known_is, clamp_is, Option.bind_some, hw]
  by_cases h1 : cl (cl a + cl b) = cl a + cl b
  · by_cases h2 : cl a = a
    · have h3 := h1
      rw [h2] at h3
      simp [h2, h3]
    · simp [h1, h2]
  · simp [h1]

theorem neg_is (a : Int) : fix_Neg.f a = some (- cl a) := by
  have a0 := cl_lo a
  have a1 := cl_hi a
  unfold fix_Neg.f
  simp only [known_is, Option.bind_some]
  rw [w64 (by omega) (by omega)]

theorem abs_is (a : Int) : fix_Abs.f a = some (mx (cl a) (- cl a)) := by
  have a0 := cl_lo a
  have a1 := cl_hi a
  unfold fix_Abs.f
  simp only [known_is, Option.bind_some]
  rw [w64 (n := - cl a) (by omega) (by omega)]

theorem of_is (n : Int) : fix_Of.f n = some ((if n < -67108864 then -67108864 else if 67108864 < n then 67108864 else n) * 4294967296, ((if n < -67108864 then -67108864 else if 67108864 < n then 67108864 else n) != n)) := by
  unfold fix_Of.f fix_within_int.f
  simp only [Option.bind_some]
  have h : mx (-67108864) (mn n 67108864) = (if n < -67108864 then -67108864 else if 67108864 < n then 67108864 else n) := by
    unfold mx mn
    (repeat' split) <;> omega
  rw [h]
  rw [w64]
  · split <;> (try split) <;> omega
  · split <;> (try split) <;> omega

theorem floor_is (a : Int) : fix_Floor.f a = some (cl a / 4294967296) := by
  unfold fix_Floor.f
  simp only [known_is, Option.bind_some]

theorem near_is (a : Int) : fix_Near.f a = some ((cl a + 2147483648) / 4294967296) := by
  have a0 := cl_lo a
  have a1 := cl_hi a
  unfold fix_Near.f
  simp only [known_is, Option.bind_some]
  rw [w64 (by omega) (by omega)]

theorem rest_is (a : Int) : fix_Rest.f a = some (cl a % 4294967296) := by
  unfold fix_Rest.f
  simp only [known_is, Option.bind_some]
  have h := band64 (cl a) 32 (by decide)
  exact congrArg some h

theorem sub_is (a b : Int) : fix_Sub.f a b = some (cl (cl a - cl b), cbad a b (cl a - cl b)) := by
  have a0 := cl_lo a
  have a1 := cl_hi a
  have b0 := cl_lo b
  have b1 := cl_hi b
  have hw : wrap64 (cl a - cl b) = cl a - cl b := w64 (by omega) (by omega)
  unfold fix_Sub.f cbad
  simp only [known_is, clamp_is, Option.bind_some, hw]
  by_cases h1 : cl (cl a - cl b) = cl a - cl b
  · by_cases h2 : cl a = a
    · have h3 := h1
      rw [h2] at h3
      simp [h2, h3]
    · simp [h1, h2]
  · simp [h1]

theorem awake_is : outriggerlaw01_awake.f = some true := by decide +kernel

theorem cl_mono {a b : Int} (h : a ≤ b) : cl a ≤ cl b := by
  unfold cl
  (repeat' split) <;> omega

theorem cl_neg (a : Int) : cl (- cl a) = - cl a := by
  unfold cl
  (repeat' split) <;> omega

theorem order_any (a b c : Int) (w : World) : Calls Try.prog 7 #[.int .i64 a, .int .i64 b, .int .i64 c] w fun e w' => e = .returned (.bool true) ∧ Below w.heap.size w w' := by
  have hxy : (if b < a then b else a) ≤ (if a < b then b else a) := by (repeat' split) <;> omega
  generalize hx : (if b < a then b else a) = x at *
  generalize hy : (if a < b then b else a) = y at *
  have h1 := cl_mono hxy
  have h2 : cl (cl x + cl c) ≤ cl (cl y + cl c) := cl_mono (by omega)
  have h3 : cl (cl x - cl c) ≤ cl (cl y - cl c) := cl_mono (by omega)
  have e12 : fix_Neg.f a = some (- cl a) := neg_is a
  have e13 : fix_Abs.f (- cl a) = some (mx (cl a) (- cl a)) := by
    rw [abs_is, cl_neg]
    congr 1
    unfold mx
    (repeat' split) <;> omega
  have e14 : fix_Neg.f (- cl a) = some (cl a) := by
    rw [neg_is, cl_neg]
    congr 1
    omega
  have e15 : fix_Neg.f (cl a) = some (- cl a) := by
    rw [neg_is]
    congr 2
    unfold cl
    (repeat' split) <;> omega
  have h6 : 0 ≤ mx (cl a) (- cl a) := by
    unfold mx
    split <;> omega
  exact OrderWalk.order_calls a b c x y _ _ _ _ _ _ _ _ _ _ _ _ _ _ _ _ _ w hx hy awake_is (add_is x c) (add_is y c) (sub_is x c) (sub_is y c) (floor_is x) (floor_is y) (near_is x) (near_is y) (neg_is y) (neg_is x)
    (abs_is a) e12 e13 e14 e15 (decide_eq_true h2) (decide_eq_true h3) (decide_eq_true (by omega)) (decide_eq_true (by omega)) (decide_eq_true (by omega)) (decide_eq_true h6)

end Go.Proofs.Ytbekeghchgninaa.OrderPure
