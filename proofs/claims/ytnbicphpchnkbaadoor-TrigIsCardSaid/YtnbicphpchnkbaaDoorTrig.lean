/- What Go functions come to, in whole numbers: each equation holds for every input that it names. -/
import Derived.Test.YtnbicphpchnkbaaDoorNum
import Derived.Test.YtnbicphpchnkbaaDoorB2
namespace Go.Proofs.YtnbicphpchnkbaaDoor.Trig
open Go Go.RowKit Go.Proofs.YtnbicphpchnkbaaDoor.B Go.Proofs.YtnbicphpchnkbaaDoor.Num Go.Proofs.YtnbicphpchnkbaaDoorW.PrintWords Go.Proofs.YtnbicphpchnkbaaDoorW.PrintLast Go.Proofs.YtnbicphpchnkbaaDoorW.PrintMore

theorem bind_of {α β : Type} {o : Option α} {x : α} {f : α → Option β} {r : Option β} (h : o = some x) (g : f x = r) : o.bind f = r := by rw [h]; exact g
theorem yes_of {α : Type} {c : Prop} [Decidable c] {a b r : α} (h : c) (g : a = r) : (if c then a else b) = r := by rw [if_pos h]; exact g
theorem no_of {α : Type} {c : Prop} [Decidable c] {a b r : α} (h : ¬ c) (g : b = r) : (if c then a else b) = r := by rw [if_neg h]; exact g
theorem p32i : (2 : Int) ^ 32 = 4294967296 := by decide
theorem angle_is (a : Int) : trig_Angle.f a = some (a % 4294967296) := by
  unfold trig_Angle.f
  have h := band64 a 32 (by decide)
  rw [p32i] at h
  exact congrArg some h
def rnd (x : Int) : Int := wrap64 (x + 32768) / 65536
theorem round_is (x : Int) : trig_round.f x = some (rnd x) := rfl
theorem rnd_bd (x : Int) : -140737488355328 ≤ rnd x ∧ rnd x ≤ 140737488355327 := by
  unfold rnd wrap64
  omega
def qv (u : Int) : Int := (u + 536870912) / 1073741824
def cv (u : Int) : Int := rnd (brun 32 (bstart u)).1
def sv (u : Int) : Int := rnd (brun 32 (bstart u)).2.1
theorem cv_bd (u : Int) : -140737488355328 ≤ cv u ∧ cv u ≤ 140737488355327 := rnd_bd _
theorem sv_bd (u : Int) : -140737488355328 ≤ sv u ∧ sv u ≤ 140737488355327 := rnd_bd _
def pv (q c s : Int) : Int × Int := if q = 1 then (c, -s) else if q = 2 then (-s, -c) else if q = 3 then (-c, s) else (s, c)
theorem both_is (t : Int) : trig_Both.f t = some (pv (qv (t % 4294967296)) (cv (t % 4294967296)) (sv (t % 4294967296))) := by
  unfold trig_Both.f
  refine bind_of (angle_is t) (bind_of (round_is _) (bind_of (round_is _) ?_))
  generalize t % 4294967296 = u
  have h1 := cv_bd u
  have h2 := sv_bd u
  show some (bres (qv u) (cv u) (sv u)) = _
  unfold bres pv
  rw [w64 (n := - sv u) (by omega) (by omega), w64 (n := - cv u) (by omega) (by omega)]
theorem sin_is (t : Int) : trig_Sin.f t = some (pv (qv (t % 4294967296)) (cv (t % 4294967296)) (sv (t % 4294967296))).1 := by
  unfold trig_Sin.f
  exact bind_of (both_is t) rfl
theorem cos_is (t : Int) : trig_Cos.f t = some (pv (qv (t % 4294967296)) (cv (t % 4294967296)) (sv (t % 4294967296))).2 := by
  unfold trig_Cos.f
  exact bind_of (both_is t) rfl
theorem start_eq {u v : Int} (h : u - qv u * 1073741824 = v - qv v * 1073741824) : bstart u = bstart v := by
  unfold bstart
  have h2 : u - (u + 536870912) / 1073741824 * 1073741824 = v - (v + 536870912) / 1073741824 * 1073741824 := h
  rw [h2]
theorem cs_eq {u v : Int} (h : u - qv u * 1073741824 = v - qv v * 1073741824) : cv u = cv v ∧ sv u = sv v := by
  unfold cv sv
  rw [start_eq h]
  exact ⟨rfl, rfl⟩

end Go.Proofs.YtnbicphpchnkbaaDoor.Trig
