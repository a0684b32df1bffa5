/- The plain law of SumParts: its Lean function, laid by the print, tells true for every 64-bit input. -/
import Derived.Test.YtiejinbjfficnaaNum
import Derived.Test.YtiejinbjfficnaaWide
import Derived.Test.YtiejinbjfficnaaRoot
import Derived.Test.YtiejinbjfficnaaSum
import Derived.Test.YtiejinbjfficnaaLSumParts
namespace Go.Proofs.Ytiejinbjfficnaa.Pure
open Go Go.RowKit Go.Proofs.Ytiejinbjfficnaa.B Go.Proofs.Ytiejinbjfficnaa.Num Go.Proofs.Ytiejinbjfficnaa.Wide Go.Proofs.Ytiejinbjfficnaa.Root Go.Proofs.Ytiejinbjfficnaa.Sum Go.Proofs.YtiejinbjfficnaaW.PrintWords Go.Proofs.YtiejinbjfficnaaW.PrintLast Go.Proofs.YtiejinbjfficnaaW.PrintMore
set_option linter.unusedVariables false

theorem at_bd (a : Int) (s : Nat) (hs : s ≤ 100) : ∃ q : Nat, Int.tmod (Go.bits .and .i64 a 65535) ((s : Int) + 1) = (q : Int) ∧ q ≤ s := by
  have h : Go.bits .and .i64 a 65535 = a % 65536 := band64 a 16 (by decide)
  rw [h]
  have h0 : 0 ≤ a % 65536 := Int.emod_nonneg _ (by decide)
  have h1 := Int.tmod_nonneg ((s : Int) + 1) h0
  have h2 := Int.tmod_lt_of_pos (a % 65536) (show (0 : Int) < (s : Int) + 1 by omega)
  exact ⟨(Int.tmod (a % 65536) ((s : Int) + 1)).toNat, by omega, by omega⟩
theorem unbad {v : Int} {b : Bool} (h : (!(cl v == v) || b) = false) : cl v = v ∧ b = false := by
  cases hc : (cl v == v)
  · rw [hc] at h; simp at h
  · rw [hc] at h; exact ⟨by simpa using hc, by simpa using h⟩
theorem cl_idem {v : Int} (h0 : -288230376151711744 ≤ v) (h1 : v ≤ 288230376151711744) : cl v = v := by unfold cl; (repeat' split) <;> omega
theorem ones_tot : ∀ x : List Int, tot (prods x (List.replicate x.length 4294967296)) = 4294967296 * tot (cls x)
  | [] => rfl
  | a :: x => by
    have ih := ones_tot x
    rw [List.length_cons, List.replicate_succ]
    show cl a * cl 4294967296 + tot (prods x (List.replicate x.length 4294967296)) = 4294967296 * (cl a + tot (cls x))
    rw [ih, show cl 4294967296 = 4294967296 from by decide, Int.mul_add, Int.mul_comm (cl a)]
theorem ones_chg (n : Nat) : chg (List.replicate n 4294967296) = false := by
  unfold chg
  rw [List.any_eq_false]
  intro y hy
  rw [(List.mem_replicate.1 hy).2]
  decide
theorem rv_ones (S : Int) : rv (4294967296 * S) = S := by unfold rv; omega
theorem tot_within {lo hi : Int} : ∀ l : List Int, (∀ y ∈ l, lo ≤ y ∧ y ≤ hi) → lo * l.length ≤ tot l ∧ tot l ≤ hi * l.length
  | [], _ => by simp [tot]
  | x :: l, h => by
    have ih := tot_within l fun y hy => h y (List.mem_cons_of_mem _ hy)
    have h2 := h x (List.mem_cons_self ..)
    rw [tot_cons, List.length_cons, Int.natCast_add, Int.mul_add, Int.mul_add]
    constructor <;> (simp; omega)
theorem mean_within {lo hi S n : Int} (hn : 0 < n) (h0 : lo * n ≤ S) (h1 : S ≤ hi * n) : lo ≤ mean S n ∧ mean S n ≤ hi := by
  unfold mean
  have e1 : lo * (2 * n) = 2 * (lo * n) := by grind
  have e2 : (hi + 1) * (2 * n) = 2 * (hi * n) + 2 * n := by grind
  have a := (Int.le_ediv_iff_mul_le (show 0 < 2 * n by omega) (a := lo) (b := 2 * S + n)).2 (by omega)
  have b := (Int.ediv_lt_iff_lt_mul (show 0 < 2 * n by omega) (a := 2 * S + n) (b := hi + 1)).2 (by omega)
  omega
theorem parts_tail {x8 : Int} {x9 x11 x13 x15 : Bool} {x14 : Int} (h : x11 = true ∨ x13 = true ∨ x15 = true ∨ (x14 = x8 ∧ x9 = false)) :
    (if x11 = true then (if x8 = x8 then (some (x9 == x9)) else (some false)) else (if x13 = true then (if x8 = x8 then (some (x9 == x9)) else (some false)) else (if x15 = true then (if x8 = x8 then (some (x9 == x9)) else (some false)) else (if x14 = x8 then (if x9 = true then (some false) else (if x8 = x8 then (some (x9 == x9)) else (some false))) else (some false))))) = some true := by
  cases x11
  · refine no_of (by simp) ?_
    cases x13
    · refine no_of (by simp) ?_
      cases x15
      · refine no_of (by simp) ?_
        obtain ⟨h1, h2⟩ : x14 = x8 ∧ x9 = false := by simpa using h
        exact yes_of h1 (no_of (by simp [h2]) (yes_of rfl (by simp)))
      · exact yes_of rfl (yes_of rfl (by simp))
    · exact yes_of rfl (yes_of rfl (by simp))
  · exact yes_of rfl (yes_of rfl (by simp))
theorem parts_loop {x : List Int} (hx : x.length ≤ 64) {x8 : Int} {x9 x11 x13 x15 : Bool} {x14 : Int} (h : x11 = true ∨ x13 = true ∨ x15 = true ∨ (x14 = x8 ∧ x9 = false)) (e8 : x8 = cl (tot (cls x))) (e9 : x9 = (!(cl (tot (cls x)) == tot (cls x)) || chg x)) :
    ∀ (d k i : Nat) (lo hi : Int), i + d = x.length → (∀ y ∈ cls (x.take i), lo ≤ y ∧ y ≤ hi) → outriggerlaw06_SumParts.l0 (k + 151 + d) true x x8 x9 x11 x13 x14 x15 (List.replicate i 4294967296) lo hi (i : Int) = some true
  | 0, k, i, lo, hi, he, hw => by
    have hi' : i = x.length := by omega
    subst hi'
    rw [List.take_length] at hw
    have d1 := dot_same (l := x) (m := List.replicate x.length 4294967296) (by simp) hx (k + 70)
    rw [ones_tot, rv_ones, ones_chg, Bool.or_false, ← e9, ← e8] at d1
    have m1 := mean_is x k
    rw [take64 hx] at m1
    rw [Nat.add_zero, outriggerlaw06_SumParts.l0]
    refine no_of (by omega) (bind_of d1 (bind_of m1 ?_))
    by_cases c : x = []
    · rw [if_pos c]
      subst c
      exact no_of (by simp) (yes_of rfl (yes_of rfl (yes_of rfl (parts_tail h))))
    · have hp : 0 < x.length := List.length_pos_iff.mpr c
      rw [if_neg c]
      have ht := tot_within (cls x) hw
      rw [show (cls x).length = x.length by simp [cls]] at ht
      have hm := mean_within (n := (x.length : Int)) (by omega) ht.1 ht.2
      refine yes_of (by omega) (no_of (by dsimp only; omega) (no_of (by dsimp only; omega) (no_of (by omega) (yes_of rfl (parts_tail h)))))
  | d + 1, k, i, lo, hi, he, hw => by
    have hi' : i < x.length := by omega
    rw [show k + 151 + (d + 1) = (k + 151 + d) + 1 from rfl, outriggerlaw06_SumParts.l0]
    refine yes_of (by omega) (yes_of (by simp; omega) (yes_of (by omega) (bind_of (clamp_is _) ?_)))
    rw [w1 i (by omega), show List.replicate i (4294967296 : Int) ++ [4294967296] = List.replicate (i + 1) 4294967296 from List.replicate_succ'.symm]
    refine parts_loop hx h e8 e9 d k (i + 1) _ _ (by omega) ?_
    intro y hy
    have e : x.take (i + 1) = x.take i ++ [rd x (i : Int)] := by
      rw [List.take_add_one, List.getElem?_eq_getElem hi']
      show x.take i ++ [x[i]] = x.take i ++ [x.getD i 0]
      rw [List.getD_eq_getElem?_getD, List.getElem?_eq_getElem hi']; rfl
    rw [e, cls, List.map_append, List.mem_append] at hy
    dsimp only
    rcases hy with hy | hy
    · have := hw y hy
      unfold mn mx
      constructor <;> split <;> omega
    · obtain rfl : y = cl (rd x (i : Int)) := by simpa using hy
      unfold mn mx
      constructor <;> split <;> omega
theorem SumParts (l : List Int) (a : Int) : ∃ n, outriggerlaw06_SumParts.f n l a = some true := by
  refine ⟨400, ?_⟩
  have aw : outriggerlaw06_awake.f 400 = some true := at_rounds outriggerlaw06_awake.mono (by decide) outriggerlaw06_awake.known
  obtain ⟨h0, h1, h2⟩ := mn_take l
  have hx : (l.take 64).length ≤ 64 := by rw [List.length_take]; omega
  unfold outriggerlaw06_SumParts.f
  rw [h2]
  generalize l.take 64 = x at *
  rw [w64 (n := (x.length : Int) + 1) (by omega) (by omega)]
  obtain ⟨q, hq, hq1⟩ := at_bd a x.length (by omega)
  rw [hq]
  simp only [Int.toNat_natCast]
  have t0 := total_is x 320
  have t1 := total_is (x.take q) 320
  have t2 := total_is (x.drop q) 320
  rw [take64 hx] at t0
  rw [take64 (by rw [List.length_take]; omega)] at t1
  rw [take64 (by rw [List.length_drop]; omega)] at t2
  refine bind_of aw (yes_of h0 (yes_of h1 (no_of (by omega) (bind_of t0 (yes_of (by omega) (yes_of (by omega) (bind_of t1 (bind_of t2 (bind_of (fadd_is _ _) ?_)))))))))
  have hS : tot (cls x) = tot (cls (x.take q)) + tot (cls (x.drop q)) := by
    rw [← tot_append]
    show tot (x.map cl) = tot ((x.take q).map cl ++ (x.drop q).map cl)
    rw [← List.map_append, List.take_append_drop]
  have hC : chg x = (chg (x.take q) || chg (x.drop q)) := by
    unfold chg
    rw [← List.any_append, List.take_append_drop]
  obtain ⟨d, k, hd, hk⟩ : ∃ d k, d = x.length ∧ 400 = k + 151 + d := ⟨x.length, 249 - x.length, rfl, by omega⟩
  rw [hk]
  refine parts_loop hx ?_ rfl rfl d k 0 _ _ (by omega) (by intro y hy; simp [cls] at hy)
  dsimp only
  generalize tot (cls (x.take q)) = S1 at *
  generalize tot (cls (x.drop q)) = S2 at *
  rw [hS, hC]
  generalize chg (x.take q) = z1
  generalize chg (x.drop q) = z2
  cases g1 : (!(cl S1 == S1) || z1)
  · cases g2 : (!(cl S2 == S2) || z2)
    · obtain ⟨u1, v1⟩ := unbad g1
      obtain ⟨u2, v2⟩ := unbad g2
      rw [u1, u2, u1, u2]
      cases g3 : cbad S1 S2 (S1 + S2)
      · right; right; right
        have u4 : cl (S1 + S2) = S1 + S2 := by
          unfold cbad at g3
          cases hc : (cl (S1 + S2) != S1 + S2)
          · simpa using hc
          · rw [hc] at g3; simp at g3
        refine ⟨rfl, ?_⟩
        rw [u4, v1, v2]
        simp
      · right; right; left; rfl
    · right; left; rfl
  · left; rfl
theorem SumPartsR (l : List Int) (a : Int) (h1 : l.length ≤ maxLen) (h2 : l.length * 8 ≤ 140737488351232) (h3 : ∀ x ∈ l, (Lit.int .i64 x).wf = true) (w : (Lit.int .i64 a).wf = true) :
    ∃ n, outriggerlaw06_SumParts.f n l a = some true := SumParts l a

end Go.Proofs.Ytiejinbjfficnaa.Pure
