/- The plain law of TrigTurns: its Lean function, laid by the print, tells true for every 64-bit input. -/
import Derived.Test.YtnbicphpchnkbaaDoorNum
import Derived.Test.YtnbicphpchnkbaaDoorTrig
import Derived.Test.YtnbicphpchnkbaaDoorLTrigTurns
namespace Go.Proofs.YtnbicphpchnkbaaDoor.Pure
open Go Go.RowKit Go.Proofs.YtnbicphpchnkbaaDoor.B Go.Proofs.YtnbicphpchnkbaaDoor.Num Go.Proofs.YtnbicphpchnkbaaDoor.Trig Go.Proofs.YtnbicphpchnkbaaDoorW.PrintWords Go.Proofs.YtnbicphpchnkbaaDoorW.PrintLast Go.Proofs.YtnbicphpchnkbaaDoorW.PrintMore
set_option linter.unusedVariables false

theorem pv_half {q x c s : Int} (h0 : 0 ≤ q) (h1 : q ≤ 4) (g0 : 0 ≤ x) (g1 : x ≤ 4) (k : x = q + 2 ∨ x = q - 2) : (pv x c s).1 = -(pv q c s).1 ∧ (pv x c s).2 = -(pv q c s).2 := by
  have hq : q = 0 ∨ q = 1 ∨ q = 2 ∨ q = 3 ∨ q = 4 := by omega
  rcases hq with rfl | rfl | rfl | rfl | rfl <;> rcases k with rfl | rfl <;> first | omega | simp [pv]
theorem pv_less {q x c s : Int} (h0 : 0 ≤ q) (h1 : q ≤ 4) (g0 : 0 ≤ x) (g1 : x ≤ 4) (k : x = q - 1 ∨ x = q + 3) : (pv x c s).2 = (pv q c s).1 := by
  have hq : q = 0 ∨ q = 1 ∨ q = 2 ∨ q = 3 ∨ q = 4 := by omega
  rcases hq with rfl | rfl | rfl | rfl | rfl <;> rcases k with rfl | rfl <;> first | omega | simp [pv]
theorem pv_more {q x c s : Int} (h0 : 0 ≤ q) (h1 : q ≤ 4) (g0 : 0 ≤ x) (g1 : x ≤ 4) (k : x = q + 1 ∨ x = q - 3) : (pv x c s).1 = (pv q c s).2 := by
  have hq : q = 0 ∨ q = 1 ∨ q = 2 ∨ q = 3 ∨ q = 4 := by omega
  rcases hq with rfl | rfl | rfl | rfl | rfl <;> rcases k with rfl | rfl <;> first | omega | simp [pv]
theorem pv_bd {q c s : Int} (hc : -140737488355328 ≤ c ∧ c ≤ 140737488355327) (hs : -140737488355328 ≤ s ∧ s ≤ 140737488355327) :
    (-140737488355328 ≤ (pv q c s).1 ∧ (pv q c s).1 ≤ 140737488355328) ∧ (-140737488355328 ≤ (pv q c s).2 ∧ (pv q c s).2 ≤ 140737488355328) := by
  unfold pv
  (repeat' split) <;> simp only [] <;> omega

theorem TrigTurns (a k : Int) (w0 : (Lit.int .i64 a).wf = true) (w1 : (Lit.int .i64 k).wf = true) : outriggerlaw05_TrigTurns.f a k = some true := by
  unfold outriggerlaw05_TrigTurns.f
  refine bind_of outriggerlaw05_awake.known (bind_of (angle_is a) ?_)
  have hu : 0 ≤ a % 4294967296 ∧ a % 4294967296 < 4294967296 := by omega
  have e0 : a % 4294967296 % 4294967296 = a % 4294967296 := by omega
  have b16 : 0 ≤ Go.bits .and .i64 k 65535 ∧ Go.bits .and .i64 k 65535 < 65536 := by
    have h := band64 k 16 (by decide)
    have p : (2 : Int) ^ 16 = 65536 := by decide
    rw [p] at h
    have h2 : Go.bits .and .i64 k 65535 = k % 65536 := h
    omega
  have e5 : wrap64 (a % 4294967296 + wrap64 (Go.bits .and .i64 k 65535 * 4294967296)) % 4294967296 = a % 4294967296 := by
    rw [w64 (n := Go.bits .and .i64 k 65535 * 4294967296) (by omega) (by omega), w64 (by omega) (by omega)]
    omega
  refine bind_of (both_is _) (bind_of (both_is _) (bind_of (both_is _) (bind_of (both_is a) ?_)))
  rw [e0, e5]
  generalize a % 4294967296 = u at *
  have e1 : wrap64 (u + 2147483648) = u + 2147483648 := w64 (by omega) (by omega)
  have e2 : wrap64 (u - 1073741824) = u - 1073741824 := w64 (by omega) (by omega)
  have e3 : wrap64 (u + 1073741824) = u + 1073741824 := w64 (by omega) (by omega)
  rw [e1, e2, e3]
  refine yes_of (by trivial) (bind_of (cos_is _) ?_)
  obtain ⟨v1, hv1⟩ : ∃ v, (u + 2147483648) % 4294967296 = v := ⟨_, rfl⟩
  obtain ⟨v2, hv2⟩ : ∃ v, (u - 1073741824) % 4294967296 = v := ⟨_, rfl⟩
  obtain ⟨v3, hv3⟩ : ∃ v, (u + 1073741824) % 4294967296 = v := ⟨_, rfl⟩
  have q1 : u - qv u * 1073741824 = v1 - qv v1 * 1073741824 := by unfold qv; omega
  have q2 : u - qv u * 1073741824 = v2 - qv v2 * 1073741824 := by unfold qv; omega
  have q3 : u - qv u * 1073741824 = v3 - qv v3 * 1073741824 := by unfold qv; omega
  obtain ⟨c1, s1⟩ := cs_eq q1
  obtain ⟨c2, s2⟩ := cs_eq q2
  obtain ⟨c3, s3⟩ := cs_eq q3
  have hc := cv_bd u
  have hs := sv_bd u
  have hq : 0 ≤ qv u ∧ qv u ≤ 4 := by unfold qv; omega
  have k1 : qv v1 = qv u + 2 ∨ qv v1 = qv u - 2 := by unfold qv; omega
  have k2 : qv v2 = qv u - 1 ∨ qv v2 = qv u + 3 := by unfold qv; omega
  have k3 : qv v3 = qv u + 1 ∨ qv v3 = qv u - 3 := by unfold qv; omega
  have r1 : 0 ≤ qv v1 ∧ qv v1 ≤ 4 := by unfold qv; omega
  have r2 : 0 ≤ qv v2 ∧ qv v2 ≤ 4 := by unfold qv; omega
  have r3 : 0 ≤ qv v3 ∧ qv v3 ≤ 4 := by unfold qv; omega
  rw [hv1, hv2, ← c1, ← s1, ← c2, ← s2]
  generalize cv u = c at *
  generalize sv u = s at *
  generalize qv u = q at *
  generalize qv v1 = x1 at *
  generalize qv v2 = x2 at *
  have f1 := pv_less (c := c) (s := s) hq.1 hq.2 r2.1 r2.2 k2
  have f34 := pv_half (c := c) (s := s) hq.1 hq.2 r1.1 r1.2 k1
  have f3 := f34.1
  have f4 := f34.2
  have g12 := pv_bd (q := q) hc hs
  have g1 := g12.1
  have g2 := g12.2
  refine yes_of f1 (bind_of (sin_is _) ?_)
  rw [hv3, ← c3, ← s3]
  generalize qv v3 = x3 at *
  have f2 := pv_more (c := c) (s := s) hq.1 hq.2 r3.1 r3.2 k3
  refine yes_of f2 (yes_of ?_ (yes_of ?_ (yes_of rfl (yes_of rfl (yes_of rfl (yes_of rfl (yes_of hu.1 ?_)))))))
  · rw [w64 (by omega) (by omega)]; exact f3
  · rw [w64 (by omega) (by omega)]; exact f4
  · exact congrArg some (decide_eq_true hu.2)

end Go.Proofs.YtnbicphpchnkbaaDoor.Pure
