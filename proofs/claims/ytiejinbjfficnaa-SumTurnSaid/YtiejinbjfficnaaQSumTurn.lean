/- The plain law of SumTurn: its Lean function, laid by the print, tells true for every 64-bit input. -/
import Derived.Test.YtiejinbjfficnaaNum
import Derived.Test.YtiejinbjfficnaaWide
import Derived.Test.YtiejinbjfficnaaRoot
import Derived.Test.YtiejinbjfficnaaSum
import Derived.Test.YtiejinbjfficnaaLSumTurn
namespace Go.Proofs.Ytiejinbjfficnaa.Pure
open Go Go.RowKit Go.Proofs.Ytiejinbjfficnaa.B Go.Proofs.Ytiejinbjfficnaa.Num Go.Proofs.Ytiejinbjfficnaa.Wide Go.Proofs.Ytiejinbjfficnaa.Root Go.Proofs.Ytiejinbjfficnaa.Sum Go.Proofs.YtiejinbjfficnaaW.PrintWords Go.Proofs.YtiejinbjfficnaaW.PrintLast Go.Proofs.YtiejinbjfficnaaW.PrintMore
set_option linter.unusedVariables false

theorem turn_total {x : List Int} (hx : x.length ≤ 64) (k : Nat) : ∃ T, sum_Total.f (k + 150) x = some T ∧ sum_Total.f (k + 150) x.reverse = some T := by
  refine ⟨_, total_is x (k + 70), (total_is x.reverse (k + 70)).trans ?_⟩
  rw [take64 hx, take64 (by simpa using hx), cls_reverse, tot_reverse, chg_reverse]
theorem turn_mean {x : List Int} (hx : x.length ≤ 64) (k : Nat) : ∃ T, sum_Mean.f (k + 150) x = some T ∧ sum_Mean.f (k + 150) x.reverse = some T := by
  refine ⟨_, mean_is x k, (mean_is x.reverse k).trans ?_⟩
  rw [take64 hx, take64 (by simpa using hx), cls_reverse, tot_reverse, chg_reverse, List.length_reverse]
  by_cases h : x = []
  · subst h; rfl
  · rw [if_neg h, if_neg (by simpa using h)]
theorem turn_norm {x : List Int} (hx : x.length ≤ 64) (k : Nat) : ∃ T, sum_Norm.f (k + 150) x = some T ∧ sum_Norm.f (k + 150) x.reverse = some T := by
  refine ⟨_, norm_is x (k + 70), (norm_is x.reverse (k + 70)).trans ?_⟩
  rw [take64 hx, take64 (by simpa using hx), tot_prods_reverse x x rfl, chg_reverse]
theorem turn_dot {x y : List Int} (hx : x.length ≤ 64) (hy : y.length = x.length) (k : Nat) : ∃ T, sum_Dot.f (k + 150) x y = some T ∧ sum_Dot.f (k + 150) y.reverse x.reverse = some T := by
  refine ⟨_, dot_same hy.symm hx (k + 70), (dot_same (by simpa using hy) (by simpa [hy] using hx) (k + 70)).trans ?_⟩
  rw [tot_prods_reverse y x hy, prods_swap y x, chg_reverse, chg_reverse, Bool.or_comm (chg y)]
theorem turn_end {x y : List Int} (hx : x.length ≤ 64) (hy : y.length = x.length) (k : Nat) : outriggerlaw06_SumTurn.l0 (k + 151) true x y x.reverse y.reverse (-1) = some true := by
  obtain ⟨t1, a1, b1⟩ := turn_total hx k
  obtain ⟨t2, a2, b2⟩ := turn_mean hx k
  obtain ⟨t3, a3, b3⟩ := turn_norm hx k
  obtain ⟨t4, a4, b4⟩ := turn_dot hx hy k
  rw [outriggerlaw06_SumTurn.l0]
  refine no_of (by omega) (bind_of a1 (bind_of b1 (bind_of a2 (bind_of b2 (bind_of a4 (bind_of b4 (bind_of a3 (bind_of b3 ?_))))))))
  refine yes_of rfl (yes_of rfl (yes_of (by simp) (yes_of rfl (yes_of (by simp) (yes_of rfl (yes_of (by simp) (yes_of rfl (congrArg some (by simp)))))))))
theorem turn_loop {x y : List Int} (hx : x.length ≤ 64) (hy : y.length = x.length) : ∀ (j k : Nat), j ≤ x.length → outriggerlaw06_SumTurn.l0 (k + j) true x y (x.drop j).reverse (y.drop j).reverse ((j : Int) - 1) = outriggerlaw06_SumTurn.l0 k true x y x.reverse y.reverse (-1)
  | 0, k, _ => rfl
  | j + 1, k, h => by
    rw [show k + (j + 1) = (k + j) + 1 from rfl, outriggerlaw06_SumTurn.l0]
    rw [show (((j + 1 : Nat) : Int) - 1) = (j : Int) by omega]
    refine yes_of (by omega) (yes_of (by omega) (yes_of (by omega) (yes_of ?_ (yes_of (by omega) (yes_of ?_ ?_)))))
    · rw [List.length_reverse, List.length_drop]; omega
    · rw [List.length_reverse, List.length_drop]; omega
    · rw [show (x.drop (j + 1)).reverse ++ [rd x (j : Int)] = (x.drop j).reverse by rw [rd_drop x j (by omega), List.reverse_cons],
        show (y.drop (j + 1)).reverse ++ [rd y (j : Int)] = (y.drop j).reverse by rw [rd_drop y j (by omega), List.reverse_cons], w64 (by omega) (by omega)]
      exact turn_loop hx hy j k (by omega)
theorem SumTurn (l m : List Int) : ∃ n, outriggerlaw06_SumTurn.f n l m = some true := by
  refine ⟨400, ?_⟩
  have aw : outriggerlaw06_awake.f 400 = some true := at_rounds outriggerlaw06_awake.mono (by decide) outriggerlaw06_awake.known
  obtain ⟨h0, h1, h2, h3⟩ := mn_P2 l m
  unfold outriggerlaw06_SumTurn.f
  refine bind_of aw (yes_of h0 (yes_of h1 (yes_of h2 ?_)))
  have hl : (l.take (P2 l m)).length = P2 l m := by rw [List.length_take]; unfold P2; omega
  have hm : (m.take (P2 l m)).length = P2 l m := by rw [List.length_take]; unfold P2; omega
  have hp : P2 l m ≤ 64 := by unfold P2; omega
  rw [show mn (mn (l.length : Int) (m.length : Int)) 64 - 1 = ((P2 l m : Nat) : Int) - 1 by omega, h3]
  generalize P2 l m = p at *
  generalize l.take p = x at *
  generalize m.take p = y at *
  obtain ⟨q, hq⟩ : ∃ q, 400 = (q + 151) + p := ⟨249 - p, by omega⟩
  have := turn_loop (x := x) (y := y) (by omega) (by omega) p (q + 151) (by omega)
  rw [hq]
  refine Eq.trans ?_ (this.trans (turn_end (by omega) (by omega) q))
  rw [List.drop_of_length_le (by omega), List.drop_of_length_le (by omega)]
  rfl
theorem SumTurnR (l m : List Int) (h1 : l.length ≤ maxLen) (h2 : l.length * 8 ≤ 140737488351232) (h3 : ∀ x ∈ l, (Lit.int .i64 x).wf = true) (g1 : m.length ≤ maxLen) (g2 : m.length * 8 ≤ 140737488351232) (g3 : ∀ x ∈ m, (Lit.int .i64 x).wf = true) :
    ∃ n, outriggerlaw06_SumTurn.f n l m = some true := SumTurn l m

end Go.Proofs.Ytiejinbjfficnaa.Pure
