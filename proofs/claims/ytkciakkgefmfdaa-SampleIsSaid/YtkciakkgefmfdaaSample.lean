/- What Go functions come to, in whole numbers: each equation holds for every input that it names. -/
import Derived.Test.YtkciakkgefmfdaaNum
import Derived.Test.YtkciakkgefmfdaaB2
import Derived.Test.YtkciakkgefmfdaaB3
import Derived.Test.YtkciakkgefmfdaaB4
import Derived.Test.YtkciakkgefmfdaaB5
import Derived.Test.YtkciakkgefmfdaaB6
import Derived.Test.YtkciakkgefmfdaaB7
namespace Go.Proofs.Ytkciakkgefmfdaa.Sample
open Go Go.RowKit Go.Proofs.Ytkciakkgefmfdaa.B Go.Proofs.Ytkciakkgefmfdaa.Num Go.Proofs.YtkciakkgefmfdaaW.PrintWords Go.Proofs.YtkciakkgefmfdaaW.PrintLast Go.Proofs.YtkciakkgefmfdaaW.PrintMore

theorem bind_of {α β : Type} {o : Option α} {x : α} {f : α → Option β} {r : Option β} (h : o = some x) (g : f x = r) : o.bind f = r := by rw [h]; exact g
theorem yes_of {α : Type} {c : Prop} [Decidable c] {a b r : α} (h : c) (g : a = r) : (if c then a else b) = r := by rw [if_pos h]; exact g
theorem no_of {α : Type} {c : Prop} [Decidable c] {a b r : α} (h : ¬ c) (g : b = r) : (if c then a else b) = r := by rw [if_neg h]; exact g
/-- A word. -/
def InW (x : Int) : Prop := 0 ≤ x ∧ x < 18446744073709551616
def InI (x : Int) : Prop := -9223372036854775808 ≤ x ∧ x ≤ 9223372036854775807
def uw (x : Int) : Int := IntKind.u64.wrap x
theorem uw_mod (x : Int) : uw x = x % 18446744073709551616 := u64_wrap x
theorem uw_in (x : Int) : InW (uw x) := by rw [uw_mod]; unfold InW; omega
theorem uw_inj {x y : Int} (hx : InI x) (hy : InI y) (h : uw x = uw y) : x = y := by
  rw [uw_mod, uw_mod] at h
  unfold InI at hx hy
  omega
theorem wrap_uw {x : Int} (hx : InI x) : wrap64 (uw x) = x := by
  rw [uw_mod]
  unfold InI at hx
  unfold wrap64
  omega
theorem uw_wrap {x : Int} (hx : InW x) : uw (wrap64 x) = x := by
  rw [uw_mod]
  unfold InW at hx
  unfold wrap64
  omega
theorem wrap_in (x : Int) : InI (wrap64 x) := ⟨w64_lo x, w64_hi x⟩
/-- Words, one against the other. -/
def xo (x y : Int) : Int := Go.bits .xor .u64 x y
theorem xo_bv (x y : Int) : xo x y = ((BitVec.ofInt 64 x ^^^ BitVec.ofInt 64 y).toNat : Int) := by
  have hb : ∀ b : BitVec 64, IntKind.u64.wrap (b.toNat : Int) = (b.toNat : Int) := fun b => by
    have := b.isLt
    rw [u64_wrap]
    omega
  exact hb _
theorem xo_in (x y : Int) : InW (xo x y) := by
  rw [xo_bv]
  have := (BitVec.ofInt 64 x ^^^ BitVec.ofInt 64 y).isLt
  unfold InW
  omega
theorem bv_in {x : Int} (h : InW x) : ((BitVec.ofInt 64 x).toNat : Int) = x := by
  unfold InW at h
  rw [BitVec.toNat_ofInt]
  omega
theorem ofInt_toNat (b : BitVec 64) : BitVec.ofInt 64 (b.toNat : Int) = b := by
  rw [BitVec.ofInt_natCast, BitVec.ofNat_toNat, BitVec.setWidth_eq]
theorem xo_back {x y : Int} (hx : InW x) : xo (xo x y) y = x := by
  rw [xo_bv, xo_bv, ofInt_toNat, BitVec.xor_assoc, BitVec.xor_self, BitVec.xor_zero]
  exact bv_in hx
theorem xo_comm (x y : Int) : xo x y = xo y x := by
  rw [xo_bv, xo_bv, BitVec.xor_comm]
theorem xo_inj {x y z : Int} (hx : InW x) (hy : InW y) (h : xo x z = xo y z) : x = y := by
  rw [← xo_back (x := x) (y := z) hx, h, xo_back hy]
theorem xo_inj2 {x y z : Int} (hx : InW x) (hy : InW y) (h : xo z x = xo z y) : x = y := by
  rw [xo_comm z x, xo_comm z y] at h
  exact xo_inj hx hy h
theorem xo_same {x y : Int} (hx : InW x) (hy : InW y) (h : xo x y = x) : y = 0 := by
  have h1 : xo x y = xo x 0 := by
    rw [h, xo_bv]
    have : BitVec.ofInt 64 0 = 0#64 := rfl
    rw [this, BitVec.xor_zero]
    exact (bv_in hx).symm
  exact xo_inj2 hy ⟨by decide, by decide⟩ h1
/-- One step of a sum. -/
def stp (h w : Int) : Int := IntKind.u64.wrap (xo h w * 1099511628211)
theorem stp_in (h w : Int) : InW (stp h w) := uw_in _
theorem mul_inj {x y : Int} (hx : InW x) (hy : InW y) (h : IntKind.u64.wrap (x * 1099511628211) = IntKind.u64.wrap (y * 1099511628211)) : x = y := by
  rw [u64_wrap, u64_wrap] at h
  unfold InW at hx hy
  have e1 : (x * 1099511628211 * 14886173955864302971) % 18446744073709551616 = (y * 1099511628211 * 14886173955864302971) % 18446744073709551616 := by
    rw [Int.mul_emod, h, ← Int.mul_emod]
  have e2 : ∀ z : Int, z * 1099511628211 * 14886173955864302971 = z + 18446744073709551616 * (z * 887285111055) := by
    intro z
    have e3 : (1099511628211 * 14886173955864302971 : Int) = 1 + 18446744073709551616 * 887285111055 := by decide
    rw [Int.mul_assoc, e3, Int.mul_add, Int.mul_one, Int.mul_left_comm]
  rw [e2, e2] at e1
  generalize x * 887285111055 = u at e1
  generalize y * 887285111055 = v at e1
  clear h
  omega
theorem stp_inj {x y w : Int} (hx : InW x) (hy : InW y) (h : stp x w = stp y w) : x = y :=
  xo_inj hx hy (mul_inj (xo_in _ _) (xo_in _ _) h)
theorem stp_inj2 {x y w : Int} (hx : InW x) (hy : InW y) (h : stp w x = stp w y) : x = y :=
  xo_inj2 hx hy (mul_inj (xo_in _ _) (xo_in _ _) h)
def sumv (l : List Int) : Int := l.foldl stp 14695981039346656037
theorem fold_in (l : List Int) : ∀ h, InW h → InW (l.foldl stp h) := by
  induction l with
  | nil => exact fun h hh => hh
  | cons w l ih => exact fun h _ => ih _ (stp_in h w)
theorem fold_inj (l : List Int) : ∀ x y, InW x → InW y → l.foldl stp x = l.foldl stp y → x = y := by
  induction l with
  | nil => exact fun x y _ _ h => h
  | cons w l ih => exact fun x y hx hy h => stp_inj hx hy (ih _ _ (stp_in _ _) (stp_in _ _) h)
theorem first_in : InW 14695981039346656037 := ⟨by decide, by decide⟩
/-- One word that is another one is seen by the sum. -/
theorem sum_one (l : List Int) : ∀ (h : Int) (j : Nat) (x : Int), InW h → j < l.length → InW x → InW (l.getD j 0) → x ≠ l.getD j 0 → (l.set j x).foldl stp h ≠ l.foldl stp h := by
  induction l with
  | nil => intro h j x _ hj; simp at hj
  | cons w l ih =>
    intro h j x hh hj hx hw hne
    cases j with
    | zero =>
      intro e
      simp only [List.set_cons_zero, List.foldl_cons] at e
      have e2 := fold_inj l _ _ (stp_in _ _) (stp_in _ _) e
      exact hne (stp_inj2 hx hw e2)
    | succ j =>
      simp only [List.set_cons_succ, List.foldl_cons]
      exact ih _ j x (stp_in _ _) (by simpa using hj) hx (by simpa using hw) (by simpa using hne)
theorem sum_last (l : List Int) (x : Int) : sumv (l ++ [x]) = stp (sumv l) x := by
  unfold sumv
  rw [List.foldl_append]
  rfl
theorem rd_nat (l : List Int) (j : Nat) : rd l (j : Int) = l.getD j 0 := rfl
theorem take_step (l : List Int) {j : Nat} (hj : j < l.length) (h : Int) : (l.take (j + 1)).foldl stp h = stp ((l.take j).foldl stp h) (l.getD j 0) := by
  rw [List.take_succ_eq_append_getElem hj, List.foldl_append]
  simp [List.getD_eq_getElem?_getD, List.getElem?_eq_getElem hj]
theorem sum_loop (l : List Int) (hl : l.length < 1000000) (d : Nat) : ∀ (k j : Nat), j + d = l.length → d < k → sample_Sum.l0 k ((l.take j).foldl stp 14695981039346656037) l (l.length : Int) (j : Int) = some (sumv l) := by
  induction d with
  | zero =>
    intro k j hj hk
    obtain ⟨k, rfl⟩ : ∃ m, k = m + 1 := ⟨k - 1, by omega⟩
    rw [sample_Sum.l0]
    refine no_of (by omega) ?_
    rw [List.take_of_length_le (by omega)]
    rfl
  | succ d ih =>
    intro k j hj hk
    obtain ⟨k, rfl⟩ : ∃ m, k = m + 1 := ⟨k - 1, by omega⟩
    have i := ih k (j + 1) (by omega) (by omega)
    have wi : wrap64 ((j : Int) + 1) = ((j + 1 : Nat) : Int) := by rw [w64 (by omega) (by omega)]; omega
    rw [sample_Sum.l0]
    refine yes_of (by omega) (yes_of (by omega) (yes_of (by omega) ?_))
    rw [wi, rd_nat]
    rw [take_step l (by omega)] at i
    exact i
theorem sum_is {k : Nat} {l : List Int} (hl : l.length < 1000000) (hk : l.length < k) : sample_Sum.f k l = some (sumv l) := by
  unfold sample_Sum.f
  have := sum_loop l hl l.length k 0 (by omega) hk
  exact this
theorem rsum_loop (l : List Int) (hl : l.length < 1000000) (d : Nat) : ∀ (k j : Nat), j + d = l.length → d < k → outriggerref13_Sum.l0 k l ((l.take j).foldl stp 14695981039346656037) (j : Int) = some (sumv l) := by
  induction d with
  | zero =>
    intro k j hj hk
    obtain ⟨k, rfl⟩ : ∃ m, k = m + 1 := ⟨k - 1, by omega⟩
    rw [outriggerref13_Sum.l0]
    refine no_of (by omega) ?_
    rw [List.take_of_length_le (by omega)]
    rfl
  | succ d ih =>
    intro k j hj hk
    obtain ⟨k, rfl⟩ : ∃ m, k = m + 1 := ⟨k - 1, by omega⟩
    have i := ih k (j + 1) (by omega) (by omega)
    have wi : wrap64 ((j : Int) + 1) = ((j + 1 : Nat) : Int) := by rw [w64 (by omega) (by omega)]; omega
    rw [outriggerref13_Sum.l0]
    refine yes_of (by omega) (yes_of (by omega) ?_)
    rw [wi, rd_nat]
    rw [take_step l (by omega)] at i
    exact i
theorem rsum_is {k : Nat} {l : List Int} (hl : l.length < 1000000) (hk : l.length < k) : outriggerref13_Sum.f k l = some (sumv l) := by
  unfold outriggerref13_Sum.f
  have := rsum_loop l hl l.length k 0 (by omega) hk
  exact this
theorem same_loop (l m : List Int) (hl : l.length < 1000000) (he : l.length = m.length) (d : Nat) : ∀ (k j : Nat), j + d = l.length → d < k → l.take j = m.take j → outriggerref11_Same.l0 k l m (j : Int) = some (decide (l = m)) := by
  induction d with
  | zero =>
    intro k j hj hk ht
    obtain ⟨k, rfl⟩ : ∃ m, k = m + 1 := ⟨k - 1, by omega⟩
    rw [outriggerref11_Same.l0]
    refine no_of (by omega) ?_
    rw [List.take_of_length_le (by omega), List.take_of_length_le (by omega)] at ht
    rw [decide_eq_true ht]
  | succ d ih =>
    intro k j hj hk ht
    obtain ⟨k, rfl⟩ : ∃ m, k = m + 1 := ⟨k - 1, by omega⟩
    have hjl : j < l.length := by omega
    have hjm : j < m.length := by omega
    have wi : wrap64 ((j : Int) + 1) = ((j + 1 : Nat) : Int) := by rw [w64 (by omega) (by omega)]; omega
    rw [outriggerref11_Same.l0]
    refine yes_of (by omega) (yes_of (by omega) (yes_of (by omega) ?_))
    rw [rd_nat, rd_nat]
    by_cases g : l.getD j 0 = m.getD j 0
    · refine yes_of g ?_
      rw [wi]
      refine ih k (j + 1) (by omega) (by omega) ?_
      rw [List.take_succ_eq_append_getElem hjl, List.take_succ_eq_append_getElem hjm, ht]
      rw [List.getD_eq_getElem?_getD, List.getD_eq_getElem?_getD, List.getElem?_eq_getElem hjl, List.getElem?_eq_getElem hjm] at g
      simp only [Option.getD_some] at g
      rw [g]
    · refine no_of g ?_
      have : ¬ l = m := fun e => g (by rw [e])
      rw [decide_eq_false this]
theorem same_is {k : Nat} {l m : List Int} (hl : l.length < 1000000) (hk : l.length < k) : outriggerref11_Same.f k l m = some (decide (l = m)) := by
  unfold outriggerref11_Same.f
  by_cases he : l.length = m.length
  · refine yes_of (by omega) ?_
    exact same_loop l m hl he l.length k 0 (by omega) hk rfl
  · refine no_of (by omega) ?_
    have : ¬ l = m := fun e => he (by rw [e])
    rw [decide_eq_false this]
/-- May a sample be? -/
def SaneP (a b c d e : Int) : Prop := (-288230376151711744 ≤ c ∧ c ≤ 288230376151711744) ∧ (-288230376151711744 ≤ d ∧ d ≤ 288230376151711744) ∧ (-288230376151711744 ≤ e ∧ e ≤ 288230376151711744) ∧ (0 ≤ a ∧ a ≤ 1099511627776) ∧ 0 ≤ b ∧ b ≤ 3
instance (a b c d e : Int) : Decidable (SaneP a b c d e) := by unfold SaneP; exact inferInstance
theorem sane_is (a b c d e : Int) : sample_Sane.f a b c d e = some (decide (SaneP a b c d e)) := by
  unfold sample_Sane.f
  have key : ∀ x : Option Bool, (SaneP a b c d e → x = some true) → (¬ SaneP a b c d e → x = some false) → x = some (decide (SaneP a b c d e)) := by
    intro x h1 h2
    by_cases g : SaneP a b c d e
    · rw [h1 g, decide_eq_true g]
    · rw [h2 g, decide_eq_false g]
  refine key _ (fun h => ?_) (fun h => ?_)
  · unfold SaneP at h
    refine no_of (by omega) (no_of (by omega) (no_of (by omega) (no_of (by omega) (no_of (by omega) (no_of (by omega) (yes_of (by omega) (yes_of (by omega) (yes_of (by omega) (congrArg some (decide_eq_true (by omega)))))))))))
  · unfold SaneP at h
    (repeat' split) <;> first | rfl | (exfalso; omega) | exact congrArg some (decide_eq_false (by omega))
theorem rsane_is (a b c d e : Int) : outriggerref13_Sane.f a b c d e = some (decide (SaneP a b c d e)) := by
  unfold outriggerref13_Sane.f
  have key : ∀ x : Option Bool, (SaneP a b c d e → x = some true) → (¬ SaneP a b c d e → x = some false) → x = some (decide (SaneP a b c d e)) := by
    intro x h1 h2
    by_cases g : SaneP a b c d e
    · rw [h1 g, decide_eq_true g]
    · rw [h2 g, decide_eq_false g]
  refine key _ (fun h => ?_) (fun h => ?_)
  · unfold SaneP at h
    refine no_of (by omega) (no_of (by omega) (no_of (by omega) (no_of (by omega) (no_of (by omega) (no_of (by omega) (yes_of (by omega) (yes_of (by omega) (yes_of (by omega) (congrArg some (decide_eq_true (by omega)))))))))))
  · unfold SaneP at h
    (repeat' split) <;> first | rfl | (exfalso; omega) | exact congrArg some (decide_eq_false (by omega))
def wl (a b c d e : Int) : List Int := [uw a, uw b, uw c, uw d, uw e]
def wordsv (a b c d e : Int) : List Int := if SaneP a b c d e then wl a b c d e ++ [sumv (wl a b c d e)] else []
theorem words_is {k : Nat} (hk : 6 ≤ k) (a b c d e : Int) : sample_Words.f k a b c d e = some (wordsv a b c d e) := by
  unfold sample_Words.f wordsv
  refine bind_of (sane_is a b c d e) ?_
  by_cases g : SaneP a b c d e
  · rw [if_pos g]
    refine yes_of (decide_eq_true g) (bind_of rfl (yes_of (by simp) (bind_of rfl (yes_of (by simp) (bind_of rfl (yes_of (by simp) (bind_of rfl (yes_of (by simp) (bind_of rfl (yes_of (by simp) (bind_of rfl ?_)))))))))))
    exact bind_of (sum_is (l := wl a b c d e) (by simp [wl]) (by simp [wl]; omega)) (yes_of (by simp) rfl)
  · rw [if_neg g]
    exact no_of (by simpa using g) rfl
theorem rwords_is {k : Nat} (hk : 6 ≤ k) (a b c d e : Int) : outriggerref13_Words.f k a b c d e = some (wordsv a b c d e) := by
  unfold outriggerref13_Words.f wordsv
  refine bind_of (rsane_is a b c d e) ?_
  by_cases g : SaneP a b c d e
  · rw [if_pos g]
    refine yes_of (decide_eq_true g) (bind_of rfl ?_)
    exact bind_of (rsum_is (l := wl a b c d e) (by simp [wl]) (by simp [wl]; omega)) (yes_of (by simp) rfl)
  · rw [if_neg g]
    exact no_of (by simpa using g) rfl
def six (l : List Int) : Int × Int × Int × Int × Int × Int := (wrap64 (rd l 0), wrap64 (rd l 1), wrap64 (rd l 2), wrap64 (rd l 3), wrap64 (rd l 4), 0)
def readv (l : List Int) : Int × Int × Int × Int × Int × Int :=
  if l.length = 6 then (if sumv (l.take 5) = rd l 5 then (if SaneP (wrap64 (rd l 0)) (wrap64 (rd l 1)) (wrap64 (rd l 2)) (wrap64 (rd l 3)) (wrap64 (rd l 4)) then six l else (0, 0, 0, 0, 0, 1)) else (0, 0, 0, 0, 0, 2)) else (0, 0, 0, 0, 0, 5)
theorem read_is {k : Nat} (hk : 6 ≤ k) (l : List Int) : sample_Read.f k l = some (readv l) := by
  unfold sample_Read.f readv
  by_cases h6 : l.length = 6
  · rw [if_pos h6]
    refine yes_of (by omega) (yes_of (by omega) (bind_of (sum_is (l := l.take 5) (by rw [List.length_take]; omega) (by rw [List.length_take]; omega)) (yes_of (by omega) ?_)))
    by_cases hs : sumv (l.take 5) = rd l 5
    · rw [if_pos hs, if_pos hs]
      refine yes_of (by omega) (yes_of (by omega) (yes_of (by omega) (yes_of (by omega) (yes_of (by omega) (bind_of (sane_is _ _ _ _ _) ?_)))))
      by_cases g : SaneP (wrap64 (rd l 0)) (wrap64 (rd l 1)) (wrap64 (rd l 2)) (wrap64 (rd l 3)) (wrap64 (rd l 4))
      · rw [if_pos g]
        exact yes_of (decide_eq_true g) rfl
      · rw [if_neg g]
        exact no_of (by simpa using g) rfl
    · rw [if_neg hs, if_neg hs]
  · rw [if_neg h6]
    exact no_of (by omega) rfl
theorem rread_is {k : Nat} (hk : 6 ≤ k) (l : List Int) : outriggerref13_Read.f k l = some (readv l) := by
  unfold outriggerref13_Read.f readv
  by_cases h6 : l.length = 6
  · rw [if_pos h6]
    refine yes_of (by omega) (yes_of (by omega) (yes_of (by omega) (bind_of (rsum_is (l := l.take 5) (by rw [List.length_take]; omega) (by rw [List.length_take]; omega)) ?_)))
    by_cases hs : sumv (l.take 5) = rd l 5
    · rw [if_pos hs]
      refine yes_of hs.symm (yes_of (by omega) (yes_of (by omega) (yes_of (by omega) (yes_of (by omega) (yes_of (by omega) (bind_of (rsane_is _ _ _ _ _) ?_))))))
      by_cases g : SaneP (wrap64 (rd l 0)) (wrap64 (rd l 1)) (wrap64 (rd l 2)) (wrap64 (rd l 3)) (wrap64 (rd l 4))
      · rw [if_pos g]
        exact yes_of (decide_eq_true g) rfl
      · rw [if_neg g]
        exact no_of (by simpa using g) rfl
    · rw [if_neg hs]
      exact no_of (fun e => hs e.symm) rfl
  · rw [if_neg h6]
    exact no_of (by omega) rfl
theorem cmp_is (a b : Int) : cmp_Compare_int.f a b = some (if a < b then -1 else if b < a then 1 else 0) := by
  unfold cmp_Compare_int.f cmp_isNaN_int.f
  refine bind_of rfl (bind_of rfl ?_)
  refine no_of (by simp) (no_of (by simp) ?_)
  (repeat' split) <;> first | rfl | (exfalso; omega)
theorem or_is (k : Nat) (x y : Int) : cmp_Or_int.f (k + 3) [x, y] = some (if x = 0 then y else x) := by
  have w1 : wrap64 (0 + 1) = 1 := by unfold wrap64; omega
  have w2 : wrap64 (1 + 1) = 2 := by unfold wrap64; omega
  have r0 : rd [x, y] 0 = x := rfl
  have r1 : rd [x, y] 1 = y := rfl
  unfold cmp_Or_int.f
  simp only [cmp_Or_int.l0, List.length_cons, List.length_nil, r0, r1, w1, w2]
  by_cases hx : x = 0
  · by_cases hy : y = 0
    · simp [hx, hy]
    · simp [hx, hy]
  · simp [hx]
def Bef (a b x y : Int) : Prop := a < x ∨ a = x ∧ b < y
instance (a b x y : Int) : Decidable (Bef a b x y) := by unfold Bef; exact inferInstance
theorem before_is {k : Nat} (hk : 3 ≤ k) (a b c d e x y z u v : Int) : sample_Before.f k a b c d e x y z u v = some (decide (Bef a b x y)) := by
  obtain ⟨k, rfl⟩ : ∃ m, k = m + 3 := ⟨k - 3, by omega⟩
  unfold sample_Before.f
  refine bind_of (cmp_is _ _) (bind_of (cmp_is _ _) (bind_of (or_is k _ _) (congrArg some ?_)))
  rw [Bool.eq_iff_iff]
  simp only [decide_eq_true_eq]
  unfold Bef
  (repeat' split) <;> omega
theorem rbefore_is (a b c d e x y z u v : Int) : outriggerref13_Before.f a b c d e x y z u v = some (decide (Bef a b x y)) := by
  unfold outriggerref13_Before.f
  by_cases h : a < x
  · refine yes_of h (congrArg some (decide_eq_true (Or.inl h)).symm)
  · refine no_of h ?_
    by_cases g : a = x
    · refine yes_of g (congrArg some ?_)
      rw [Bool.eq_iff_iff]
      simp only [decide_eq_true_eq]
      unfold Bef
      omega
    · refine no_of g (congrArg some (decide_eq_false ?_).symm)
      unfold Bef
      omega
theorem in_wfu {a : Int} (h : (Lit.int .u64 a).wf = true) : InW a := by
  have e0 : IntKind.u64.min = 0 := by decide
  have e1 : IntKind.u64.max = 18446744073709551615 := by decide
  simp [Lit.wf, e0, e1] at h
  unfold InW
  omega

end Go.Proofs.Ytkciakkgefmfdaa.Sample
