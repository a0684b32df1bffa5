/- The plain law of WideShift: its Lean function, laid by the print, tells true for every 64-bit input. -/
import Derived.Test.YtannmhdoggefnaaWide
import Derived.Test.YtannmhdoggefnaaLWideShift
namespace Go.Proofs.Ytannmhdoggefnaa.Pure
open Go Go.RowKit Go.Proofs.Ytannmhdoggefnaa.B Go.Proofs.Ytannmhdoggefnaa.Num Go.Proofs.Ytannmhdoggefnaa.Wide Go.Proofs.YtannmhdoggefnaaW.PrintWords Go.Proofs.YtannmhdoggefnaaW.PrintLast Go.Proofs.YtannmhdoggefnaaW.PrintMore
set_option linter.unusedVariables false

theorem shl_is {m : Int} (h0 : 0 ≤ m) (h1 : m ≤ 57) : shl .i64 1 (IntKind.u64.wrap m) = 2 ^ m.toNat ∧ (2 : Int) ^ m.toNat ≤ 144115188075855872 := by
  have hp : (2 : Int) ^ m.toNat ≤ 144115188075855872 := by
    have : (2 : Nat) ^ m.toNat ≤ 2 ^ 57 := Nat.pow_le_pow_right (by decide) (by omega)
    have h2 : ((2 ^ m.toNat : Nat) : Int) ≤ 144115188075855872 := by omega
    rw [Int.natCast_pow] at h2
    exact h2
  have h2 := pow_pos' m.toNat
  refine ⟨?_, hp⟩
  rw [wu64 h0 (by omega)]
  unfold shl
  have e : min m.toNat IntKind.i64.bits = m.toNat := by
    show min m.toNat 64 = _
    omega
  rw [e, Int.one_mul, i64_wrap, w64 (by omega) (by omega)]

theorem cl_in {n : Int} (h0 : -288230376151711744 ≤ n) (h1 : n ≤ 288230376151711744) : cl n = n := by
  unfold cl
  (repeat' split) <;> omega

theorem WideShift (a m : Int) (w0 : (Lit.int .i64 a).wf = true) (w1 : (Lit.int .i64 m).wf = true) :
    ∃ n, outriggerlaw02_WideShift.f n a m = some true := by
  refine ⟨64, ?_⟩
  have aw : outriggerlaw02_awake.f 64 = some true := at_rounds outriggerlaw02_awake.mono (by decide) outriggerlaw02_awake.known
  have stop : outriggerlaw02_WideShift.j0 64 a m true true = some true := rfl
  unfold outriggerlaw02_WideShift.f
  refine bind_of aw ?_
  by_cases c1 : m < 0
  · rw [if_pos c1]; exact stop
  by_cases c2 : m > 57
  · rw [if_neg c1, decide_eq_true c2]; exact stop
  rw [if_neg c1, decide_eq_false c2]
  simp only [outriggerlaw02_WideShift.j0, Bool.false_eq_true, if_false]
  refine bind_of (clamp_is a) ?_
  obtain ⟨hs, hs2⟩ := shl_is (m := m) (by omega) (by omega)
  rw [if_pos (by rw [wu64 (by omega) (by omega)]; omega), hs]
  have hp := pow_pos' m.toNat
  refine bind_of (wmul_is _ _) ?_
  have e1 : cl (2 ^ m.toNat) = 2 ^ m.toNat := cl_in (by omega) (by omega)
  rw [e1]
  have hf := fits_mul a (2 ^ m.toNat)
  rw [e1] at hf
  have s1 : sh m = m.toNat := by have := sh_of (k := m) (by omega) (by omega); omega
  have s2 : sh (wrap64 (m + 1)) = m.toNat + 1 := by
    rw [w64 (by omega) (by omega)]
    have := sh_of (k := m + 1) (by omega) (by omega)
    omega
  have d1 : cl a * 2 ^ m.toNat / 2 ^ sh m = cl a := by rw [s1]; exact Int.mul_ediv_cancel _ (Int.ne_of_gt hp)
  have d2 : cl a * 2 ^ m.toNat / 2 ^ sh (wrap64 (m + 1)) = cl a / 2 := by
    rw [s2, ← div_pow_add, Int.mul_ediv_cancel _ (Int.ne_of_gt hp)]
    rfl
  have a0 := cl_lo a
  have a1 := cl_hi a
  have f1 : Fits (cl a) := by unfold Fits; omega
  have f2 : Fits (cl a / 2) := by unfold Fits; omega
  refine bind_of (x := (hi (cl a), lo (cl a))) (by rw [down_p hf, d1]) ?_
  refine bind_of (int_p f1 62) ?_
  refine bind_of (x := (hi (cl a / 2), lo (cl a / 2))) (by rw [down_p hf, d2]) ?_
  refine bind_of (int_p f2 62) ?_
  have e2 : cl (cl a) = cl a := cl_in a0 a1
  have e3 : cl (cl a / 2) = cl a / 2 := cl_in (by omega) (by omega)
  rw [e2, e3]
  refine yes_of (by trivial) (yes_of (by simp) (yes_of rfl (yes_of (by simp) ?_)))
  simp only []
  rw [w64 (by omega) (by omega), w64 (by omega) (by omega)]
  by_cases h : 2 * (cl a / 2) = cl a
  · rw [if_pos h]
  · rw [if_neg h]
    have : 2 * (cl a / 2) = cl a - 1 := by omega
    rw [this]
    simp

end Go.Proofs.Ytannmhdoggefnaa.Pure
