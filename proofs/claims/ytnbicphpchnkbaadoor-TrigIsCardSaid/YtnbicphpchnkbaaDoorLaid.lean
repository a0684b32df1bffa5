/- The table 'angles' as the row lays it: what its reading says of memory, and a start that fits. -/
import Derived.Test.YtnbicphpchnkbaaDoorRows
import Derived.Test.YtnbicphpchnkbaaDoorB2
import Derived.WalkKit
import Derived.ProofKit
import Derived.OpenShut
import Derived.ChangeVars
namespace Go.Proofs.YtnbicphpchnkbaaDoor.Laid
open Go Go.ChangeShapes Go.WideShapes Go.ChangeAt Go.RowKit Go.Proofs.YtnbicphpchnkbaaDoor.B
set_option linter.unusedVariables false

theorem int_of_trod {H : Type} {enc : TypeId × Value → H} {P : Program} {w : World} {base : Nat} {sp : Nat → Bool} {held : Bool} {fuel : Nat} {t : TypeId} {k : IntKind} {c : Value} {y : DataW H × List MemPlace}
    (ht : P.underlying t = some (.int k)) (h : DataW.trod enc P w base sp held fuel t [c] = some y) : ∃ n, c = .int k n ∧ y = (.lit (.int k n), []) := by
  cases fuel with
  | zero => simp [DataW.trod] at h
  | succ fuel =>
    cases c <;> simp [DataW.trod, ht] at h
    rename_i k' n
    obtain ⟨⟨rfl, _⟩, rfl⟩ := h
    exact ⟨n, rfl, rfl⟩

theorem ints_of_trod {H : Type} {enc : TypeId × Value → H} {P : Program} {w : World} {base : Nat} {sp : Nat → Bool} {held : Bool} {fuel : Nat} {t e : TypeId} {n : Nat} {cs : List Value} {L : List Int} {ps : List MemPlace}
    (ht : P.underlying t = some (.array n e)) (he : P.underlying e = some (.int .i64)) (hc : P.cellsOf e = 1) (hn : P.cellsOf t = n)
    (h : DataW.trod enc P w base sp held fuel t cs = some (.agg (L.map fun z => .lit (.int .i64 z)), ps)) : cs = L.map fun z => Value.int .i64 z := by
  obtain ⟨xs, m, _, hx, hl, hxl, hf⟩ := DataW.trod_array ht h
  have hx1 : L.map (fun z => (DataW.lit (.int .i64 z) : DataW H)) = xs.map (·.1) := by
    have := congrArg Prod.fst hx
    simpa using this
  have hL : L.length = n := by
    have := congrArg List.length hx1
    simpa [hxl] using this
  rw [hn] at hl
  apply List.ext_getElem
  · simp [hl, hL]
  · intro i h1 h2
    have hi : i < n := by omega
    have hxi : i < xs.length := by omega
    have hg := hf i hi
    rw [hc, Nat.mul_one, List.getElem?_eq_getElem hxi] at hg
    have hd : (cs.drop i).take 1 = [cs[i]] := by
      rw [List.drop_eq_getElem_cons h1]
      rfl
    rw [hd] at hg
    obtain ⟨z, hz, hy⟩ := int_of_trod he hg
    have hLi : i < L.length := by omega
    have h3 : (L.map (fun z => (DataW.lit (.int .i64 z) : DataW H)))[i]? = (xs.map (·.1))[i]? := by rw [hx1]
    rw [List.getElem?_map, List.getElem?_map, List.getElem?_eq_getElem hLi, List.getElem?_eq_getElem hxi, hy] at h3
    simp at h3
    rw [hz, List.getElem_map, h3]

theorem global : Tryd.prog.globalNamed "outrigger/trig.angles" = some 0 := by kernel_rfl
theorem globalType : (Tryd.prog.globals[0]?).map (·.type) = some 38 := by kernel_rfl
theorem cells3 : Tryd.prog.cellsOf 3 = 1 := by kernel_rfl
theorem cells38 : Tryd.prog.cellsOf 38 = 32 := by kernel_rfl
abbrev table {H : Type} : DataW H := .agg (ang.map fun z => .lit (.int .i64 z))
theorem table_eq {H : Type} : (Rows.laid_outrigger_trig_angles : DataW H) = table := rfl

theorem glob_of_laid {W : World} (h : laidMet Tryd.prog [("outrigger/trig.angles", Rows.laid_outrigger_trig_angles)] W) : Glob W := by
  obtain ⟨ps, ⟨g, t, cs, fuel, p, q, hg, ht, hvar, hd, _, _⟩, _⟩ := h
  obtain rfl := Option.some.inj (global.symm.trans hg)
  obtain rfl := Option.some.inj (globalType.symm.trans ht)
  have hcs := ints_of_trod (L := ang) Tryd.underlying38 Tryd.underlying3 cells3 cells38 hd
  have hc : cs = angV := by
    obtain ⟨l⟩ := cs
    exact congrArg Array.mk hcs
  subst hc
  unfold World.var? at hvar
  rw [global] at hvar
  simp only [Option.bind_some] at hvar
  split at hvar
  · rename_i c2 t2 f2 heq
    obtain rfl := Option.some.inj hvar
    exact ⟨t2, f2, heq⟩
  · cases hvar

/-- A world in which the table is laid. -/
noncomputable def laidWorld (os : Os) : World :=
  { World.holding Tryd.prog os ⟨#[], #[], []⟩ with heap := (World.holding Tryd.prog os ⟨#[], #[], []⟩).heap.modify 0 fun
      | .cells _ t frozen => .cells angV t frozen
      | o => o }
theorem below_any {W W' : World} (h : Below W.heap.size W W') : Below W.heap.size W W' := h
theorem all_three1 {j : Nat} {t : TypeId} (h : (#[3] : Array TypeId)[j]? = some t) : t = 3 := by
  rcases j with _ | j <;> simp_all
theorem all_three2 {j : Nat} {t : TypeId} (h : (#[3, 3] : Array TypeId)[j]? = some t) : t = 3 := by
  rcases j with _ | _ | j <;> simp_all
theorem all_three3 {j : Nat} {t : TypeId} (h : (#[3, 3, 3] : Array TypeId)[j]? = some t) : t = 3 := by
  rcases j with _ | _ | _ | j <;> simp_all
theorem laid_at {w : World} (hr : w.heap[0]? = some (.cells angV 38 (0, 0))) {b off : Nat} (h : MemPlace.cell b off ∈ MemPlace.row ⟨0, 0, none⟩ angV.size ++ [] ++ []) :
    (∃ c t, w.heap[b]? = some (.cells c t (0, 0))) ∧ ∀ u v, w.cell? ⟨b, off, none⟩ = some (.iface u v) → Value.okWide Tryd.prog w .any 0 u v := by
  have h' : MemPlace.cell b off ∈ MemPlace.row ⟨0, 0, none⟩ angV.size := by simpa using h
  unfold MemPlace.row at h'
  obtain ⟨i, hi, he⟩ := List.mem_map.mp h'
  injection he with hb ho
  subst hb
  refine ⟨⟨_, _, hr⟩, fun u v hc => ?_⟩
  exfalso
  have hi2 : i < 32 := by
    have : angV.size = 32 := rfl
    have h3 := List.mem_range.mp hi
    omega
  have h4 : w.cell? ⟨0, off, none⟩ = angV[off]? := cell_of_row w 0 off angV 38 (0, 0) hr
  have h5 : off = i := by
    rw [← ho]
    exact Nat.zero_add i
  rw [h5] at h4 hc
  have h6 := ang_at i hi2
  rw [h6] at h4
  have h7 := h4.symm.trans hc
  cases h7
end Go.Proofs.YtnbicphpchnkbaaDoor.Laid
