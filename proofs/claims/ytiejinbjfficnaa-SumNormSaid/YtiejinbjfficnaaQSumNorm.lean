/- The plain law of SumNorm: its Lean function, laid by the print, tells true for every 64-bit input. -/
import Derived.Test.YtiejinbjfficnaaNum
import Derived.Test.YtiejinbjfficnaaWide
import Derived.Test.YtiejinbjfficnaaRoot
import Derived.Test.YtiejinbjfficnaaSum
import Derived.Test.YtiejinbjfficnaaLSumNorm
namespace Go.Proofs.Ytiejinbjfficnaa.Pure
open Go Go.RowKit Go.Proofs.Ytiejinbjfficnaa.B Go.Proofs.Ytiejinbjfficnaa.Num Go.Proofs.Ytiejinbjfficnaa.Wide Go.Proofs.Ytiejinbjfficnaa.Root Go.Proofs.Ytiejinbjfficnaa.Sum Go.Proofs.YtiejinbjfficnaaW.PrintWords Go.Proofs.YtiejinbjfficnaaW.PrintLast Go.Proofs.YtiejinbjfficnaaW.PrintMore
set_option linter.unusedVariables false

theorem le_rt {v y : Int} (hv : Fits v) (h0 : 0 ≤ v) (hy : y ≤ 288230376151711744) (h : y * y ≤ v) : y ≤ rt v := by
  obtain ⟨r0, r1, r2, r3⟩ := rt_rt hv h0
  rcases r3 with r3 | r3
  · omega
  · have := sq_lt (show 0 ≤ rt v + 1 by omega) h r3
    omega
theorem prods_mem : ∀ (l : List Int) (i : Nat), i < l.length → cl (rd l (i : Int)) * cl (rd l (i : Int)) ≤ tot (prods l l)
  | [], i, h => by simp at h
  | x :: l, 0, _ => by
    have := prods_nonneg l
    show cl x * cl x ≤ cl x * cl x + tot (prods l l)
    omega
  | x :: l, i + 1, h => by
    have ih := prods_mem l i (by simpa using h)
    have h2 := (sq_bd x).1
    show cl (rd l (i : Int)) * cl (rd l (i : Int)) ≤ cl x * cl x + tot (prods l l)
    omega
theorem sq_abs (a : Int) : mx a (-a) * mx a (-a) = a * a := by
  unfold mx
  split
  · rw [Int.neg_mul_neg]
  · rfl
theorem abl_take (x : List Int) (i : Nat) (h : i < x.length) : abl (x.take i) ++ [mx (cl (rd x (i : Int))) (- cl (rd x (i : Int)))] = abl (x.take (i + 1)) := by
  rw [List.take_add_one, List.getElem?_eq_getElem h]
  show _ = (x.take i ++ [x[i]]).map _
  rw [List.map_append]
  show _ ++ [mx (cl (x.getD i 0)) (- cl (x.getD i 0))] = _
  rw [List.getD_eq_getElem?_getD, List.getElem?_eq_getElem h]
  rfl
theorem rt_abs (y : Int) : rt (cl y * cl y) = mx (cl y) (- cl y) := by
  have h0 := cl_lo y
  have h1 := cl_hi y
  have e := sq_abs (cl y)
  have e2 := sq_succ (mx (cl y) (- cl y))
  have b : 0 ≤ mx (cl y) (- cl y) ∧ mx (cl y) (- cl y) ≤ 288230376151711744 := by unfold mx; split <;> omega
  exact rt_eq ⟨b.1, b.2, by omega, Or.inr (by omega)⟩
theorem norm_tail {x b : List Int} (hx : x.length ≤ 64) (k : Nat) :
    outriggerlaw06_SumNorm.j1 (k + 81) b true x (rt (tot (prods x x))) (rbad (tot (prods x x)) false || chg x) (!(cl (tot (abl x)) == tot (abl x))) false = some true := by
  rw [outriggerlaw06_SumNorm.j1]
  obtain ⟨m0, m1, m2⟩ := mn_take b
  have hb : (b.take 64).length ≤ 64 := by rw [List.length_take]; omega
  refine no_of (by simp) (yes_of m0 (yes_of m1 ?_))
  rw [m2]
  have hn2 := norm_is (b.take 64) k
  rw [take64 hb] at hn2
  have fx := tot_prods_bd x x hx
  have fb := tot_prods_bd (b.take 64) (b.take 64) hb
  have px := prods_nonneg x
  have pb := prods_nonneg (b.take 64)
  have rx := rt_rt (v := tot (prods x x)) (by unfold Fits; omega) px
  have rb := rt_rt (v := tot (prods (b.take 64) (b.take 64))) (by unfold Fits; omega) pb
  obtain ⟨rx0, rx1, rx2, rx3⟩ := rx
  obtain ⟨rb0, rb1, rb2, rb3⟩ := rb
  refine bind_of hn2 ?_
  dsimp only
  rw [w64 (n := rt (tot (prods x x)) + 1) (by omega) (by omega), w64 (n := rt (tot (prods (b.take 64) (b.take 64))) + 1) (by omega) (by omega)]
  refine bind_of (times_is _ _ (k + 77)) (bind_of (dot_is x b k) (yes_of rfl ?_))
  dsimp only
  cases hc : (rbad (tot (prods x x)) false || chg x)
  · refine no_of (by simp) ?_
    cases hd : (!(cl (tot (abl x)) == tot (abl x)))
    · refine no_of (by simp) ?_
      cases he : (rbad (tot (prods (b.take 64) (b.take 64))) false || chg (b.take 64))
      · refine no_of (by simp) ?_
        have hp : P2 x b ≤ 64 := by unfold P2; omega
        have c1 := cs (x.take (P2 x b)) (b.take (P2 x b))
        have c2 := prods_take x (P2 x b)
        have c3 := prods_take (b.take 64) (P2 x b)
        rw [List.take_take, show min (P2 x b) 64 = P2 x b by omega] at c3
        have c4 := prods_nonneg (x.take (P2 x b))
        have c5 := prods_nonneg (b.take (P2 x b))
        generalize P2 x b = p at *
        generalize tot (prods (x.take p) (b.take p)) = D at *
        generalize tot (prods (x.take p) (x.take p)) = A at *
        generalize tot (prods (b.take p) (b.take p)) = B at *
        generalize chg (x.take p) = z1
        generalize chg (b.take p) = z2
        generalize tot (prods x x) = X at *
        generalize tot (prods (b.take 64) (b.take 64)) = Y at *
        generalize rt X = n at *
        generalize rt Y = m at *
        cases hf : (!(cl (rv (cl (n + 1) * cl (m + 1))) == rv (cl (n + 1) * cl (m + 1))) || ((cl (n + 1) != n + 1) || (cl (m + 1) != m + 1)))
        · refine no_of (by simp) ?_
          cases hg : (!(cl (rv D) == rv D) || (z1 || z2))
          · refine no_of (by simp) (bind_of (abs_is _) (congrArg some (decide_eq_true ?_)))
            simp only [Bool.or_eq_false_iff, Bool.not_eq_false', beq_iff_eq, bne_eq_false_iff_eq] at hf hg
            obtain ⟨f1, f2, f3⟩ := hf
            obtain ⟨g1, _⟩ := hg
            have n1 : n + 1 ≤ 288230376151711744 := by rw [← f2]; exact cl_hi _
            have m1 : m + 1 ≤ 288230376151711744 := by rw [← f3]; exact cl_hi _
            rw [f2, f3] at f1 ⊢
            have hX : A ≤ (n + 1) * (n + 1) := by omega
            have hY : B ≤ (m + 1) * (m + 1) := by omega
            have hAB := Int.mul_le_mul hX hY c5 (by omega)
            have hQ : 0 ≤ (n + 1) * (m + 1) := Int.mul_nonneg (by omega) (by omega)
            have e : (n + 1) * (n + 1) * ((m + 1) * (m + 1)) = ((n + 1) * (m + 1)) * ((n + 1) * (m + 1)) := by grind
            have d1 := le_of_sq hQ (x := D) (by omega)
            have d2 := le_of_sq hQ (x := -D) (by rw [Int.neg_mul_neg]; omega)
            rw [f1, g1, g1]
            have q1 := cl_lo (rv ((n + 1) * (m + 1)))
            have q2 := cl_hi (rv ((n + 1) * (m + 1)))
            rw [f1] at q1 q2
            generalize (n + 1) * (m + 1) = Q at *
            rw [w64 (by omega) (by omega)]
            unfold mx rv at *
            split <;> omega
          · exact yes_of rfl rfl
        · exact yes_of rfl rfl
      · exact yes_of rfl rfl
    · exact yes_of rfl rfl
  · exact yes_of rfl rfl
theorem norm_loop {x b : List Int} (hx : x.length ≤ 64) : ∀ (d k i : Nat), i + d = x.length →
    outriggerlaw06_SumNorm.l0 (k + 82 + d) b true x (rt (tot (prods x x))) (rbad (tot (prods x x)) false || chg x) (abl (x.take i)) (i : Int) = some true
  | 0, k, i, he => by
    have hi' : i = x.length := by omega
    subst hi'
    have fx := tot_prods_bd x x hx
    have px := prods_nonneg x
    have rx := rt_rt (v := tot (prods x x)) (by unfold Fits; omega) px
    obtain ⟨rx0, rx1, rx2, rx3⟩ := rx
    rw [List.take_length, Nat.add_zero, outriggerlaw06_SumNorm.l0]
    have hal : (abl x).length ≤ 64 := by simp [abl]; omega
    have t1 := total_is (abl x) (k + 1)
    rw [take64 hal, cl_abl, chg_abl, Bool.or_false] at t1
    refine no_of (by omega) (bind_of t1 ?_)
    have hnt : rt (tot (prods x x)) ≤ cl (tot (abl x)) := by
      have h1 := sq_abl x
      have h2 := le_of_sq (abl_nonneg x) (x := rt (tot (prods x x))) (by omega)
      unfold cl
      (repeat' split) <;> omega
    obtain ⟨q0, q1⟩ : 0 ≤ mn (b.length : Int) 1 ∧ mn (b.length : Int) 1 ≤ (b.length : Int) := by unfold mn; split <;> omega
    have q2 : b.take (mn (b.length : Int) 1).toNat = b.take 1 := by
      unfold mn
      split
      · rfl
      · rw [Int.toNat_natCast, List.take_length, List.take_of_length_le (by omega)]
    have hb1 : (b.take 1).length ≤ 64 := by rw [List.length_take]; omega
    have n1 := norm_is (b.take 1) (k + 1)
    rw [take64 hb1] at n1
    refine yes_of q0 (yes_of q1 ?_)
    rw [q2]
    refine bind_of n1 ?_
    dsimp only
    have tail := norm_tail (b := b) hx k
    have hd : decide (rt (tot (prods x x)) > cl (tot (abl x))) = false := decide_eq_false (by omega)
    rw [hd]
    cases b with
    | nil => exact no_of (by simp) tail
    | cons y b =>
      refine yes_of (by simp) (yes_of (by simp) (bind_of (abs_is _) (yes_of ?_ tail)))
      show rt (tot (prods [y] [y])) = mx (cl y) (- cl y)
      rw [show tot (prods [y] [y]) = cl y * cl y by simp [prods, tot]]
      exact rt_abs y
  | d + 1, k, i, he => by
    have hi' : i < x.length := by omega
    have fx := tot_prods_bd x x hx
    have px := prods_nonneg x
    rw [show k + 82 + (d + 1) = (k + 82 + d) + 1 from rfl, outriggerlaw06_SumNorm.l0]
    have h0 := cl_lo (rd x (i : Int))
    have h1 := cl_hi (rd x (i : Int))
    have hm := prods_mem x i hi'
    have hs := sq_abs (cl (rd x (i : Int)))
    have hle := le_rt (v := tot (prods x x)) (y := mx (cl (rd x (i : Int))) (- cl (rd x (i : Int)))) (by unfold Fits; omega) px (by unfold mx; split <;> omega) (by omega)
    refine yes_of (by omega) (yes_of (by omega) (bind_of (abs_is _) (yes_of ?_ (bind_of (abs_is _) (no_of (by omega) ?_)))))
    · simp [abl]; omega
    rw [abl_take x i hi', w1 i (by omega)]
    exact norm_loop hx d k (i + 1) (by omega)
theorem SumNorm (l m : List Int) : ∃ n, outriggerlaw06_SumNorm.f n l m = some true := by
  refine ⟨400, ?_⟩
  have aw : outriggerlaw06_awake.f 400 = some true := at_rounds outriggerlaw06_awake.mono (by decide) outriggerlaw06_awake.known
  obtain ⟨h0, h1, h2⟩ := mn_take l
  have hx : (l.take 64).length ≤ 64 := by rw [List.length_take]; omega
  unfold outriggerlaw06_SumNorm.f
  rw [h2]
  generalize l.take 64 = x at *
  have n0 := norm_is x 320
  rw [take64 hx] at n0
  refine bind_of aw (yes_of h0 (yes_of h1 (bind_of n0 ?_)))
  obtain ⟨k, hk⟩ : ∃ k, 400 = k + 82 + x.length := ⟨318 - x.length, by omega⟩
  rw [hk]
  exact norm_loop hx x.length k 0 (by omega)
theorem SumNormR (l m : List Int) (h1 : l.length ≤ maxLen) (h2 : l.length * 8 ≤ 140737488351232) (h3 : ∀ x ∈ l, (Lit.int .i64 x).wf = true) (g1 : m.length ≤ maxLen) (g2 : m.length * 8 ≤ 140737488351232) (g3 : ∀ x ∈ m, (Lit.int .i64 x).wf = true) :
    ∃ n, outriggerlaw06_SumNorm.f n l m = some true := SumNorm l m

end Go.Proofs.Ytiejinbjfficnaa.Pure
