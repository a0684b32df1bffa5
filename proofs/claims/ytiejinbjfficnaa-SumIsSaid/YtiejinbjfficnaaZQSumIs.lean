/- Lemmas that the row leans on; laid by a program of this project out of longer texts: what the row does not name is left out. -/
import Derived.Test.YtiejinbjfficnaaZNum
import Derived.Test.YtiejinbjfficnaaZWide
import Derived.Test.YtiejinbjfficnaaZRoot
import Derived.Test.YtiejinbjfficnaaZRwide
import Derived.Test.YtiejinbjfficnaaZSum
import Derived.Test.YtiejinbjfficnaaZRsum
import Derived.Test.YtiejinbjfficnaaZLSumIs
namespace Go.Proofs.Ytiejinbjfficnaa.Pure
open Go Go.RowKit Go.Proofs.Ytiejinbjfficnaa.B Go.Proofs.Ytiejinbjfficnaa.Num Go.Proofs.Ytiejinbjfficnaa.Wide Go.Proofs.Ytiejinbjfficnaa.Root Go.Proofs.Ytiejinbjfficnaa.Rwide Go.Proofs.Ytiejinbjfficnaa.Sum Go.Proofs.Ytiejinbjfficnaa.Rsum Go.Proofs.YtiejinbjfficnaaW.PrintWords Go.Proofs.YtiejinbjfficnaaW.PrintLast Go.Proofs.YtiejinbjfficnaaW.PrintMore
set_option linter.unusedVariables false
theorem SumIs (l m : List Int) : ∃ n, outriggerlaw06_SumIs.f n l m = some true := by
 refine ⟨400, ?_⟩
 have aw : outriggerlaw06_awake.f 400 = some true := at_rounds outriggerlaw06_awake.mono (by decide) outriggerlaw06_awake.known
 unfold outriggerlaw06_SumIs.f
 refine bind_of aw ?_
 have key : ∀ b : Bool, outriggerlaw06_SumIs.j0 400 l m true b = some true := by
  intro b
  rw [show (400 : Nat) = 399 + 1 from rfl, outriggerlaw06_SumIs.j0]
  cases b
  ·refine no_of (by simp) (bind_of (total_is l 319) (bind_of (rtotal_is l 309) (bind_of (mean_is l 249) (bind_of (rmean_is l 199) (bind_of (dot_is l m 319) (bind_of (rdot_is l m 179) (bind_of (norm_is l 319) (bind_of (rnorm_is l 179) ?_))))))))
   refine yes_of rfl (yes_of rfl (yes_of ?_ (yes_of rfl (yes_of ?_ (yes_of rfl (yes_of ?_ (yes_of rfl (congrArg some ?_))))))))
   ·rw [Bool.or_comm]; simp
   ·simp
   ·dsimp only
    generalize (!(cl (rv (tot (prods (l.take (P2 l m)) (m.take (P2 l m))))) == rv (tot (prods (l.take (P2 l m)) (m.take (P2 l m)))))) = z
    cases z <;> cases chg (l.take (P2 l m)) <;> cases chg (m.take (P2 l m)) <;> rfl
   ·rw [Bool.or_comm]; simp
  ·exact yes_of rfl rfl
 by_cases h : (l.length : Int) > 100
 ·exact yes_of h (key _)
 ·exact no_of h (key _)
theorem SumIsR (l m : List Int) (h1 : l.length ≤ maxLen) (h2 : l.length * 8 ≤ 140737488351232) (h3 : ∀ x ∈ l, (Lit.int .i64 x).wf = true) (g1 : m.length ≤ maxLen) (g2 : m.length * 8 ≤ 140737488351232) (g3 : ∀ x ∈ m, (Lit.int .i64 x).wf = true) :
  ∃ n, outriggerlaw06_SumIs.f n l m = some true := SumIs l m
end Go.Proofs.Ytiejinbjfficnaa.Pure
