/- Exact rational points of the unit circle, and what thirty-two steps of turns do near them; each statement names its conditions. -/
import Derived.Laws.BitsLemmas
set_option linter.unusedVariables false
set_option linter.unusedSimpArgs false
namespace Go.Proofs.YtnbicphpchnkbaaDoor.Circ

/-- A number of the plane. -/
structure G where
  re : Rat
  im : Rat
namespace G
theorem ext' {a b : G} (h : a.re = b.re) (k : a.im = b.im) : a = b := by
  cases a; cases b; simp_all
def mul (a b : G) : G := ⟨a.re * b.re - a.im * b.im, a.re * b.im + a.im * b.re⟩
def conj (a : G) : G := ⟨a.re, - a.im⟩
def one : G := ⟨1, 0⟩
def nrm (a : G) : Rat := a.re * a.re + a.im * a.im
theorem mul_assoc (a b c : G) : mul (mul a b) c = mul a (mul b c) := by
  apply ext' <;> simp only [mul] <;> grind
theorem mul_comm (a b : G) : mul a b = mul b a := by
  apply ext' <;> simp only [mul] <;> grind
theorem mul_one (a : G) : mul a one = a := by
  apply ext' <;> simp only [mul, one] <;> grind
theorem one_mul (a : G) : mul one a = a := by
  apply ext' <;> simp only [mul, one] <;> grind
theorem nrm_mul (a b : G) : nrm (mul a b) = nrm a * nrm b := by
  simp only [mul, nrm]; grind
theorem conj_mul (a b : G) : conj (mul a b) = mul (conj a) (conj b) := by
  apply ext' <;> simp only [mul, conj] <;> grind
theorem nrm_conj (a : G) : nrm (conj a) = nrm a := by
  simp only [conj, nrm]; grind
theorem mul_conj {a : G} (h : nrm a = 1) : mul a (conj a) = one := by
  apply ext' <;> simp only [mul, conj, nrm, one] at * <;> grind
end G
theorem sq_le {x l : Rat} (h : x * x ≤ l * l) (hl : 0 ≤ l) : x ≤ l := by
  by_cases g : x ≤ l
  · exact g
  · exfalso
    have g1 : 0 < x - l := by grind
    have g2 : 0 < x + l := by grind
    have := Rat.mul_pos g1 g2
    grind
theorem sq_nn (x : Rat) : 0 ≤ x * x := by
  by_cases g : 0 ≤ x
  · exact Rat.mul_nonneg g g
  · have : 0 ≤ (-x) * (-x) := Rat.mul_nonneg (by grind) (by grind)
    grind
theorem neg_le_of_sq {x l : Rat} (h : x * x ≤ l * l) (hl : 0 ≤ l) : -l ≤ x := by
  have : -x ≤ l := sq_le (by grind) hl
  grind
theorem re_le {a : G} {l : Rat} (h : a.nrm ≤ l * l) (hl : 0 ≤ l) : -l ≤ a.re ∧ a.re ≤ l ∧ -l ≤ a.im ∧ a.im ≤ l := by
  have h1 := sq_nn a.re
  have h2 := sq_nn a.im
  unfold G.nrm at h
  refine ⟨neg_le_of_sq (by grind) hl, sq_le (by grind) hl, neg_le_of_sq (by grind) hl, sq_le (by grind) hl⟩

/-- The point of the circle near a 2^48th of a turn: the half tangent is tt / 2^140. -/
def tt : Int := 15556413332014442826907621540
def ora : Int := 2 ^ 280 - tt * tt
def orb : Int := 2 * tt * 2 ^ 140
def orr : Int := 2 ^ 280 + tt * tt
def om : G := ⟨(ora : Rat) / (orr : Rat), (orb : Rat) / (orr : Rat)⟩
theorem orr_pos : (0 : Rat) < (orr : Rat) := by
  have h : (0 : Int) < orr := by decide +kernel
  exact_mod_cast h
theorem om_one : om.nrm = 1 := by
  have h : ora * ora + orb * orb = orr * orr := by decide +kernel
  have h2 : (ora : Rat) * ora + (orb : Rat) * orb = (orr : Rat) * orr := by exact_mod_cast h
  have h3 := orr_pos
  simp only [G.nrm, om]
  generalize (ora : Rat) = a at *
  generalize (orb : Rat) = b at *
  generalize (orr : Rat) = r at *
  have h4 : r ≠ 0 := by grind
  grind
/-- Its powers. -/
def pw : Nat → G
  | 0 => G.one
  | n + 1 => (pw n).mul om
theorem pw_one (n : Nat) : (pw n).nrm = 1 := by
  induction n with
  | zero => simp only [pw, G.one, G.nrm]; grind
  | succ n ih => rw [pw, G.nrm_mul, ih, om_one]; grind
theorem pw_add (m n : Nat) : pw (m + n) = (pw m).mul (pw n) := by
  induction n with
  | zero => rw [Nat.add_zero, pw, G.mul_one]
  | succ n ih => rw [Nat.add_succ, pw, ih, pw, G.mul_assoc]
/-- The point of any whole angle. -/
def e (n : Int) : G := if 0 ≤ n then pw n.toNat else (pw (-n).toNat).conj
theorem e_nat (n : Nat) : e (n : Int) = pw n := by
  unfold e
  rw [if_pos (by omega)]
  rfl
theorem e_negnat (n : Nat) : e (-(n : Int)) = (pw n).conj := by
  unfold e
  by_cases h : n = 0
  · subst h
    rw [if_pos (by omega)]
    apply G.ext' <;> simp [pw, G.conj, G.one]
  · rw [if_neg (by omega)]
    have : (-(-(n : Int))).toNat = n := by omega
    rw [this]
theorem e_one (n : Int) : (e n).nrm = 1 := by
  unfold e
  split
  · exact pw_one _
  · rw [G.nrm_conj]; exact pw_one _
theorem e_zero : e 0 = G.one := rfl
theorem e_neg (n : Int) : e (-n) = (e n).conj := by
  rcases Int.eq_nat_or_neg n with ⟨k, rfl | rfl⟩
  · rw [e_negnat, e_nat]
  · rw [Int.neg_neg, e_nat, e_negnat]
    apply G.ext' <;> simp [G.conj]
theorem e_succ (n : Int) : e (n + 1) = (e n).mul om := by
  rcases Int.eq_nat_or_neg n with ⟨k, rfl | rfl⟩
  · have : ((k : Int) + 1) = ((k + 1 : Nat) : Int) := by omega
    rw [this, e_nat, e_nat]
    rfl
  · cases k with
    | zero => rfl
    | succ k =>
      have : (-((k + 1 : Nat) : Int) + 1) = -(k : Int) := by omega
      rw [this, e_negnat, e_negnat, pw, G.conj_mul, G.mul_assoc, G.mul_comm om.conj, G.mul_conj om_one, G.mul_one]
theorem e_addnat (m : Int) (n : Nat) : e (m + n) = (e m).mul (e n) := by
  induction n with
  | zero =>
    have : e ((0 : Nat) : Int) = G.one := rfl
    rw [this, G.mul_one]
    congr 1
    omega
  | succ n ih =>
    have : m + ((n + 1 : Nat) : Int) = (m + n) + 1 := by omega
    rw [this, e_succ, ih, G.mul_assoc]
    have h2 : (((n + 1 : Nat) : Int)) = (n : Int) + 1 := by omega
    rw [h2, e_succ]
theorem e_add (m n : Int) : e (m + n) = (e m).mul (e n) := by
  rcases Int.eq_nat_or_neg n with ⟨k, rfl | rfl⟩
  · exact e_addnat m k
  · have h := e_addnat (m + -(k : Int)) k
    have h2 : m + -(k : Int) + k = m := by omega
    rw [h2] at h
    rw [h, G.mul_assoc, e_neg, G.mul_conj (e_one _), G.mul_one]
theorem e_bd (n : Int) : -1 ≤ (e n).re ∧ (e n).re ≤ 1 ∧ -1 ≤ (e n).im ∧ (e n).im ≤ 1 :=
  re_le (by rw [e_one]; grind) (by grind)
/-- How far a step goes at most: k25 / k60. -/
def k25 : Int := 25736
def k60 : Int := 1152921504606846976
def lam : Rat := (k25 : Rat) / (k60 : Rat)
theorem k60_pos : (0 : Rat) < (k60 : Rat) := by
  have h : (0 : Int) < k60 := by decide +kernel
  exact_mod_cast h
theorem lam_mul : lam * (k60 : Rat) = (k25 : Rat) := by
  have := k60_pos
  unfold lam
  generalize (k60 : Rat) = u at *
  generalize (k25 : Rat) = v at *
  have : u ≠ 0 := by grind
  grind
theorem lam_nn : 0 ≤ lam := by
  have h : (0 : Int) ≤ k25 := by decide +kernel
  have h2 : (0 : Rat) ≤ (k25 : Rat) := by exact_mod_cast h
  have h3 := lam_mul
  have h4 := k60_pos
  by_cases g : 0 ≤ lam
  · exact g
  · exfalso
    have := Rat.mul_pos (show 0 < -lam by grind) h4
    grind
theorem sq_down {x y r l k m : Rat} (hr : 0 < r) (hk : 0 < k) (hx : l * k = m) (h : k * k * (x * x + y * y) ≤ m * m * (r * r)) : x / r * (x / r) + y / r * (y / r) ≤ l * l := by
  have hu : 0 < r⁻¹ := Rat.inv_pos.mpr hr
  have hv : 0 < k⁻¹ := Rat.inv_pos.mpr hk
  have e1 : r * r⁻¹ = 1 := by grind
  have e2 : k * k⁻¹ = 1 := by grind
  simp only [Rat.div_def]
  generalize r⁻¹ = u at *
  generalize k⁻¹ = v at *
  have h6 := Rat.mul_pos (Rat.mul_pos hu hu) (Rat.mul_pos hv hv)
  have h7 := Rat.mul_le_mul_of_nonneg_right h (Rat.le_of_lt h6)
  have e3 : k * k * (x * x + y * y) * (u * u * (v * v)) = (k * v) * (k * v) * (x * u * (x * u) + y * u * (y * u)) := by grind
  have e4 : m * m * (r * r) * (u * u * (v * v)) = (l * (k * v)) * (l * (k * v)) * ((r * u) * (r * u)) := by grind
  rw [e3, e4, e2, e1] at h7
  grind
theorem om_near : (om.re - 1) * (om.re - 1) + om.im * om.im ≤ lam * lam := by
  have h : k60 * k60 * ((ora - orr) * (ora - orr) + orb * orb) ≤ k25 * k25 * (orr * orr) := by decide +kernel
  have h2 : ((k60 : Rat) * k60) * (((ora : Rat) - orr) * ((ora : Rat) - orr) + (orb : Rat) * orb) ≤ (k25 : Rat) * k25 * ((orr : Rat) * orr) := by exact_mod_cast h
  have h3 := orr_pos
  have h4 := sq_down h3 k60_pos lam_mul h2
  have e1 : ((ora : Rat) - orr) / (orr : Rat) = om.re - 1 := by
    simp only [om]
    generalize (ora : Rat) = a at *
    generalize (orr : Rat) = r at *
    have : r ≠ 0 := by grind
    grind
  rw [e1] at h4
  exact h4
/-- A step changes little. -/
theorem e_step (n : Int) : -lam ≤ (e (n + 1)).re - (e n).re ∧ (e (n + 1)).re - (e n).re ≤ lam ∧ -lam ≤ (e (n + 1)).im - (e n).im ∧ (e (n + 1)).im - (e n).im ≤ lam := by
  have h := e_succ n
  have h1 := om_near
  have h2 := e_one n
  have hn : G.nrm ⟨(e (n + 1)).re - (e n).re, (e (n + 1)).im - (e n).im⟩ ≤ lam * lam := by
    rw [h]
    simp only [G.mul, G.nrm] at *
    generalize (e n).re = c at *
    generalize (e n).im = s at *
    generalize om.re = p at *
    generalize om.im = q at *
    have : (c * p - s * q - c) * (c * p - s * q - c) + (c * q + s * p - s) * (c * q + s * p - s) = (c * c + s * s) * ((p - 1) * (p - 1) + q * q) := by grind
    rw [this, h2]
    grind
  exact re_le hn lam_nn
theorem e_lip (m : Int) (d : Nat) : -((d : Rat) * lam) ≤ (e (m + d)).re - (e m).re ∧ (e (m + d)).re - (e m).re ≤ (d : Rat) * lam ∧ -((d : Rat) * lam) ≤ (e (m + d)).im - (e m).im ∧ (e (m + d)).im - (e m).im ≤ (d : Rat) * lam := by
  induction d with
  | zero => 
    have h0 : m + ((0 : Nat) : Int) = m := by omega
    rw [h0]
    grind
  | succ d ih =>
    have h := e_step (m + d)
    have h1 : m + ((d + 1 : Nat) : Int) = m + d + 1 := by omega
    have h2 : ((d + 1 : Nat) : Rat) = (d : Rat) + 1 := by exact_mod_cast rfl
    rw [h1, h2]
    grind
/-- Points of near angles are near. -/
theorem e_near {m n D : Int} (h0 : m - n ≤ D) (h1 : n - m ≤ D) : -((D : Rat) * lam) ≤ (e m).re - (e n).re ∧ (e m).re - (e n).re ≤ (D : Rat) * lam ∧ -((D : Rat) * lam) ≤ (e m).im - (e n).im ∧ (e m).im - (e n).im ≤ (D : Rat) * lam := by
  have hl := lam_nn
  have main : ∀ (m n : Int), 0 ≤ m - n → m - n ≤ D → -((D : Rat) * lam) ≤ (e m).re - (e n).re ∧ (e m).re - (e n).re ≤ (D : Rat) * lam ∧ -((D : Rat) * lam) ≤ (e m).im - (e n).im ∧ (e m).im - (e n).im ≤ (D : Rat) * lam := by
    intro m n g0 g1
    obtain ⟨d, hd⟩ := Int.eq_ofNat_of_zero_le g0
    have h := e_lip n d
    have h2 : n + d = m := by omega
    rw [h2] at h
    have h3 : ((d : Int) : Rat) ≤ (D : Rat) := by
      have : (d : Int) ≤ D := by omega
      exact_mod_cast this
    have h4 : ((d : Int) : Rat) = (d : Rat) := rfl
    rw [h4] at h3
    have h5 := Rat.mul_le_mul_of_nonneg_right h3 hl
    grind
  rcases Int.le_total n m with g | g
  · exact main m n (by omega) h0
  · have := main n m (by omega) h1
    grind

def RR : Int := 2 ^ 260
theorem RR_pos : (0 : Rat) < (RR : Rat) := by
  have h : (0 : Int) < RR := by decide +kernel
  exact_mod_cast h
/-- A point, told by two whole numbers of 260 places, within some. -/
def Ap (g : G) (x y E : Int) : Prop :=
  (x : Rat) - (E : Rat) ≤ (RR : Rat) * g.re ∧ (RR : Rat) * g.re ≤ (x : Rat) + (E : Rat) ∧ (y : Rat) - (E : Rat) ≤ (RR : Rat) * g.im ∧ (RR : Rat) * g.im ≤ (y : Rat) + (E : Rat)
theorem prod_bd {R g h a c E F : Rat} (hR : 0 < R) (g0 : -1 ≤ g) (g1 : g ≤ 1) (h0 : -1 ≤ h) (h1 : h ≤ 1) (hE : 0 ≤ E) (hER : E ≤ R) (hF : 0 ≤ F)
    (ga : a - E ≤ R * g) (gb : R * g ≤ a + E) (ha : c - F ≤ R * h) (hb : R * h ≤ c + F) : -((E + F + F) * R) ≤ R * (R * (g * h)) - a * c ∧ R * (R * (g * h)) - a * c ≤ (E + F + F) * R := by
  have e0 : R * (R * (g * h)) - a * c = (R * g) * (R * h - c) + c * (R * g - a) := by grind
  rw [e0]
  have a1 : ∀ {u v U V : Rat}, -U ≤ u → u ≤ U → -V ≤ v → v ≤ V → 0 ≤ U → 0 ≤ V → -(U * V) ≤ u * v ∧ u * v ≤ U * V := by
    intro u v U V p1 p2 p3 p4 p5 p6
    have q1 := Rat.mul_nonneg (show 0 ≤ U - u by grind) (show 0 ≤ V - v by grind)
    have q2 := Rat.mul_nonneg (show 0 ≤ U - u by grind) (show 0 ≤ V + v by grind)
    have q3 := Rat.mul_nonneg (show 0 ≤ U + u by grind) (show 0 ≤ V - v by grind)
    have q4 := Rat.mul_nonneg (show 0 ≤ U + u by grind) (show 0 ≤ V + v by grind)
    grind
  have r1 := Rat.mul_le_mul_of_nonneg_left g1 (Rat.le_of_lt hR)
  have r2 := Rat.mul_le_mul_of_nonneg_left g0 (Rat.le_of_lt hR)
  have r3 := Rat.mul_le_mul_of_nonneg_left h1 (Rat.le_of_lt hR)
  have r4 := Rat.mul_le_mul_of_nonneg_left h0 (Rat.le_of_lt hR)
  have b1 := a1 (u := R * g) (v := R * h - c) (U := R) (V := F) (by grind) (by grind) (by grind) (by grind) (by grind) hF
  have b2 := a1 (u := c) (v := R * g - a) (U := R + F) (V := E) (by grind) (by grind) (by grind) (by grind) (by grind) hE
  have b3 := Rat.mul_le_mul_of_nonneg_left hER hF
  grind

theorem div_bd (n d : Int) (hd : 0 < d) : (d : Rat) * ((n / d : Int) : Rat) ≤ (n : Rat) ∧ (n : Rat) ≤ (d : Rat) * ((n / d : Int) : Rat) + (d : Rat) := by
  have h1 : d * (n / d) ≤ n := Int.mul_ediv_self_le (by omega)
  have h2 : n < d * (n / d) + d := Int.lt_mul_ediv_self_add hd
  have h2 : n ≤ d * (n / d) + d := by omega
  exact ⟨by exact_mod_cast h1, by exact_mod_cast h2⟩
theorem of_mul {R a b : Rat} (hR : 0 < R) (h : R * a ≤ R * b) : a ≤ b := by
  by_cases g : a ≤ b
  · exact g
  · exfalso
    have := Rat.mul_pos hR (show 0 < a - b by grind)
    grind
theorem ap_mul {g h : G} {a b c d E F : Int} (hg : Ap g a b E) (hh : Ap h c d F) (g1 : g.nrm = 1) (h1 : h.nrm = 1) (hE : 0 ≤ E) (hER : E ≤ RR) (hF : 0 ≤ F) :
    Ap (g.mul h) ((a * c - b * d) / RR) ((a * d + b * c) / RR) (2 * (E + F + F) + 1) := by
  have hR := RR_pos
  have hRi : 0 < RR := by decide +kernel
  have dx := div_bd (a * c - b * d) RR hRi
  have dy := div_bd (a * d + b * c) RR hRi
  have bg := re_le (a := g) (l := 1) (by rw [g1]; grind) (by grind)
  have bh := re_le (a := h) (l := 1) (by rw [h1]; grind) (by grind)
  have hE' : (0 : Rat) ≤ (E : Rat) := by exact_mod_cast hE
  have hF' : (0 : Rat) ≤ (F : Rat) := by exact_mod_cast hF
  have hER' : (E : Rat) ≤ (RR : Rat) := by exact_mod_cast hER
  have c1 : ((a * c - b * d : Int) : Rat) = (a : Rat) * c - (b : Rat) * d := by exact_mod_cast rfl
  have c2 : ((a * d + b * c : Int) : Rat) = (a : Rat) * d + (b : Rat) * c := by exact_mod_cast rfl
  have c3 : ((2 * (E + F + F) + 1 : Int) : Rat) = 2 * ((E : Rat) + F + F) + 1 := by exact_mod_cast rfl
  rw [c1] at dx
  rw [c2] at dy
  unfold Ap at *
  simp only [G.mul, c3]
  generalize (((a * c - b * d) / RR : Int) : Rat) = X at *
  generalize (((a * d + b * c) / RR : Int) : Rat) = Y at *
  generalize (RR : Rat) = R at *
  generalize (E : Rat) = E' at *
  generalize (F : Rat) = F' at *
  generalize (a : Rat) = a' at *
  generalize (b : Rat) = b' at *
  generalize (c : Rat) = c' at *
  generalize (d : Rat) = d' at *
  obtain ⟨g2, g3, g4, g5⟩ := bg
  obtain ⟨h2, h3, h4, h5⟩ := bh
  obtain ⟨p2, p3, p4, p5⟩ := hg
  obtain ⟨q2, q3, q4, q5⟩ := hh
  have m1 := prod_bd hR g2 g3 h2 h3 hE' hER' hF' p2 p3 q2 q3
  have m2 := prod_bd hR g4 g5 h4 h5 hE' hER' hF' p4 p5 q4 q5
  have m3 := prod_bd hR g2 g3 h4 h5 hE' hER' hF' p2 p3 q4 q5
  have m4 := prod_bd hR g4 g5 h2 h3 hE' hER' hF' p4 p5 q2 q3
  generalize hS : E' + F' + F' = S at *
  have e1 : R * (R * (g.re * h.re - g.im * h.im)) = R * (R * (g.re * h.re)) - R * (R * (g.im * h.im)) := by grind
  have e2 : R * (R * (g.re * h.im + g.im * h.re)) = R * (R * (g.re * h.im)) + R * (R * (g.im * h.re)) := by grind
  clear g2 g3 g4 g5 h2 h3 h4 h5 p2 p3 p4 p5 q2 q3 q4 q5 hE' hER' hF'
  refine ⟨of_mul hR ?_, of_mul hR ?_, of_mul hR ?_, of_mul hR ?_⟩ <;> (first | rw [e1] | rw [e2]) <;> grind
/-- The powers' points, by doubling. -/
def pn : Nat → Nat → Int × Int × Int
  | 0, _ => (RR, 0, 0)
  | f + 1, n =>
    let s := pn f (n / 2)
    let d := ((s.1 * s.1 - s.2.1 * s.2.1) / RR, (s.1 * s.2.1 + s.2.1 * s.1) / RR, 2 * (s.2.2 + s.2.2 + s.2.2) + 1)
    if n % 2 = 0 then d else ((d.1 * (ora * RR / orr) - d.2.1 * (orb * RR / orr)) / RR, (d.1 * (orb * RR / orr) + d.2.1 * (ora * RR / orr)) / RR, 2 * (d.2.2 + 1 + 1) + 1)
theorem ap_one : Ap G.one RR 0 0 := by
  unfold Ap
  have : ((0 : Int) : Rat) = 0 := rfl
  simp only [G.one, this]
  grind
theorem ap_om : Ap om (ora * RR / orr) (orb * RR / orr) 1 := by
  have h := orr_pos
  have hi : 0 < orr := by decide +kernel
  have d1 := div_bd (ora * RR) orr hi
  have d2 := div_bd (orb * RR) orr hi
  have c1 : ((ora * RR : Int) : Rat) = (ora : Rat) * (RR : Rat) := by exact_mod_cast rfl
  have c2 : ((orb * RR : Int) : Rat) = (orb : Rat) * (RR : Rat) := by exact_mod_cast rfl
  rw [c1] at d1
  rw [c2] at d2
  have c3 : ((1 : Int) : Rat) = 1 := rfl
  unfold Ap
  simp only [om, c3]
  generalize ((ora * RR / orr : Int) : Rat) = X at *
  generalize ((orb * RR / orr : Int) : Rat) = Y at *
  generalize (RR : Rat) = R at *
  generalize (orr : Rat) = r at *
  generalize (ora : Rat) = a at *
  generalize (orb : Rat) = b at *
  have h4 : r ≠ 0 := by grind
  have e1 : r * (R * (a / r)) = a * R := by grind
  have e2 : r * (R * (b / r)) = b * R := by grind
  refine ⟨of_mul h ?_, of_mul h ?_, of_mul h ?_, of_mul h ?_⟩ <;> (first | rw [e1] | rw [e2]) <;> grind
/-- The bounds of the errors alone. -/
def en : Nat → Int
  | 0 => 0
  | f + 1 => 2 * (2 * (en f + en f + en f) + 1 + 1 + 1) + 1
theorem en_le {f : Nat} (h : f ≤ 50) : 0 ≤ en f ∧ 2 * (en f + en f + en f) + 1 ≤ RR := by
  have : ∀ f, f ≤ 50 → 0 ≤ en f ∧ 2 * (en f + en f + en f) + 1 ≤ RR := by decide +kernel
  exact this f h
theorem pn_ap (f n : Nat) (hf : f ≤ 50) (hn : n < 2 ^ f) : Ap (pw n) (pn f n).1 (pn f n).2.1 (pn f n).2.2 ∧ 0 ≤ (pn f n).2.2 ∧ (pn f n).2.2 ≤ en f := by
  induction f generalizing n with
  | zero =>
    obtain rfl : n = 0 := by omega
    exact ⟨ap_one, by decide, by decide⟩
  | succ f ih =>
    obtain ⟨h1, h2, h3⟩ := ih (n / 2) (by omega) (by omega)
    have hb := en_le (f := f) (by omega)
    have hd := ap_mul h1 h1 (pw_one _) (pw_one _) h2 (by omega) h2
    rw [← pw_add] at hd
    have hs := ap_mul hd ap_om (pw_one _) om_one (by omega) (by omega) (by decide)
    by_cases hp : n % 2 = 0
    · have e1 : n / 2 + n / 2 = n := by omega
      rw [e1] at hd
      have e2 : pn (f + 1) n = (((pn f (n / 2)).1 * (pn f (n / 2)).1 - (pn f (n / 2)).2.1 * (pn f (n / 2)).2.1) / RR, ((pn f (n / 2)).1 * (pn f (n / 2)).2.1 + (pn f (n / 2)).2.1 * (pn f (n / 2)).1) / RR, 2 * ((pn f (n / 2)).2.2 + (pn f (n / 2)).2.2 + (pn f (n / 2)).2.2) + 1) := by
        rw [pn]
        simp only [hp, if_true]
      rw [e2]
      refine ⟨hd, by simp only []; omega, ?_⟩
      simp only [en]
      omega
    · have e1 : n / 2 + n / 2 + 1 = n := by omega
      have e3 : (pw (n / 2 + n / 2)).mul om = pw n := by
        conv => rhs; rw [← e1]
        rfl
      rw [e3] at hs
      have e2 := pn.eq_2 n f
      rw [if_neg hp] at e2
      rw [e2]
      refine ⟨hs, by simp only []; omega, ?_⟩
      simp only [en]
      omega
/-- The steps' angles. -/
def al : List Int := [35184372088832, 20770547670515, 10974586953444, 5570871696862, 2796246208089, 1399486241028, 699913886760, 349978300884, 174991820497, 87496244017, 43748163730, 21874087080, 10937044192, 5468522177, 2734261099, 1367130551, 683565276, 341782638, 170891319, 85445659, 42722830, 21361415, 10680707, 5340354, 2670177, 1335088, 667544, 333772, 166886, 83443, 41722, 20861]
def aa (k : Nat) : Int := al.getD k 0
/-- A step of 1 and a 2^k-th, seen from its angle: its length and what it is beside. -/
def kap (k : Nat) : Rat := (e (aa k)).re + (e (aa k)).im / ((2 ^ k : Int) : Rat)
def del (k : Nat) : Rat := (e (aa k)).re / ((2 ^ k : Int) : Rat) - (e (aa k)).im
def t46 : Int := 70368744177664
/-- Bounds of a step's length, times 2^60. -/
def kl (k : Nat) : Int := (((pn 48 (aa k).toNat).1 * 2 ^ k + (pn 48 (aa k).toNat).2.1 - (2 ^ k + 1) * (pn 48 (aa k).toNat).2.2) * k60) / (2 ^ k * RR)
def kh (k : Nat) : Int := (((pn 48 (aa k).toNat).1 * 2 ^ k + (pn 48 (aa k).toNat).2.1 + (2 ^ k + 1) * (pn 48 (aa k).toNat).2.2) * k60) / (2 ^ k * RR) + 1
theorem aa_bd {k : Nat} (hk : k < 32) : 0 ≤ aa k ∧ aa k < 2 ^ 48 ∧ t46 * ((pn 48 (aa k).toNat).1 - 2 ^ k * (pn 48 (aa k).toNat).2.1 + (2 ^ k + 1) * (pn 48 (aa k).toNat).2.2) ≤ 2 ^ k * RR ∧ t46 * (2 ^ k * (pn 48 (aa k).toNat).2.1 - (pn 48 (aa k).toNat).1 + (2 ^ k + 1) * (pn 48 (aa k).toNat).2.2) ≤ 2 ^ k * RR ∧ k60 ≤ 2 * kl k := by
  have : ∀ k, k < 32 → 0 ≤ aa k ∧ aa k < 2 ^ 48 ∧ t46 * ((pn 48 (aa k).toNat).1 - 2 ^ k * (pn 48 (aa k).toNat).2.1 + (2 ^ k + 1) * (pn 48 (aa k).toNat).2.2) ≤ 2 ^ k * RR ∧ t46 * (2 ^ k * (pn 48 (aa k).toNat).2.1 - (pn 48 (aa k).toNat).1 + (2 ^ k + 1) * (pn 48 (aa k).toNat).2.2) ≤ 2 ^ k * RR ∧ k60 ≤ 2 * kl k := by decide +kernel
  exact this k hk
theorem two_pos (k : Nat) : (0 : Rat) < ((2 ^ k : Int) : Rat) := by
  have : (0 : Int) < 2 ^ k := Int.pow_pos (by decide)
  exact_mod_cast this
/-- The point of a step's angle in whole numbers. -/
theorem aa_ap {k : Nat} (hk : k < 32) : Ap (e (aa k)) (pn 48 (aa k).toNat).1 (pn 48 (aa k).toNat).2.1 (pn 48 (aa k).toNat).2.2 := by
  obtain ⟨h1, h2, _⟩ := aa_bd hk
  have h := (pn_ap 48 (aa k).toNat (by decide) (by omega)).1
  rw [← e_nat] at h
  have : ((aa k).toNat : Int) = aa k := by omega
  rw [this] at h
  exact h
/-- eps is a 2^46th. -/
def eps : Rat := 1 / (t46 : Rat)
theorem t46_pos : (0 : Rat) < (t46 : Rat) := by
  have h : (0 : Int) < t46 := by decide +kernel
  exact_mod_cast h
theorem del_alg {T R t x y c s E : Rat} (hT : 0 < T) (hR : 0 < R) (h1 : t * (x - T * y + (T + 1) * E) ≤ T * R) (a1 : x - E ≤ R * c) (a2 : R * c ≤ x + E) (b1 : y - E ≤ R * s) (b2 : R * s ≤ y + E) (ht : 0 < t) :
    c / T - s ≤ 1 / t := by
  have e1 : t * (T * (R * (c / T - s))) = t * (R * c - T * (R * s)) := by
    have : T ≠ 0 := by grind
    grind
  have e2 : t * (T * (R * (1 / t))) = T * R := by
    have : t ≠ 0 := by grind
    grind
  have g1 := Rat.mul_le_mul_of_nonneg_left b1 (Rat.le_of_lt hT)
  have g2 : R * c - T * (R * s) ≤ x - T * y + (T + 1) * E := by grind
  have g3 := Rat.mul_le_mul_of_nonneg_left g2 (Rat.le_of_lt ht)
  refine of_mul ht (of_mul (R := T) hT (of_mul hR ?_))
  have e3 : R * (T * (t * (c / T - s))) = t * (T * (R * (c / T - s))) := by grind
  have e4 : R * (T * (t * (1 / t))) = t * (T * (R * (1 / t))) := by grind
  rw [e3, e4, e1, e2]
  grind
theorem del_alg2 {T R t x y c s E : Rat} (hT : 0 < T) (hR : 0 < R) (h1 : t * (T * y - x + (T + 1) * E) ≤ T * R) (a1 : x - E ≤ R * c) (a2 : R * c ≤ x + E) (b1 : y - E ≤ R * s) (b2 : R * s ≤ y + E) (ht : 0 < t) :
    - (1 / t) ≤ c / T - s := by
  have := del_alg (E := E) (x := -x) (y := -y) (c := -c) (s := -s) hT hR (by grind) (by grind) (by grind) (by grind) (by grind) ht
  have e1 : -c / T - -s = -(c / T - s) := by
    have : T ≠ 0 := by grind
    grind
  rw [e1] at this
  grind
theorem del_bd {k : Nat} (hk : k < 32) : -eps ≤ del k ∧ del k ≤ eps := by
  obtain ⟨_, _, h3, h4, _⟩ := aa_bd hk
  have h := aa_ap hk
  have hT := two_pos k
  have hR := RR_pos
  unfold Ap at h
  unfold del eps
  generalize (pn 48 (aa k).toNat).1 = x at *
  generalize (pn 48 (aa k).toNat).2.1 = y at *
  generalize (pn 48 (aa k).toNat).2.2 = E at *
  have h3' : (t46 : Rat) * ((x : Rat) - ((2 ^ k : Int) : Rat) * (y : Rat) + (((2 ^ k : Int) : Rat) + 1) * (E : Rat)) ≤ ((2 ^ k : Int) : Rat) * (RR : Rat) := by exact_mod_cast h3
  have h4' : (t46 : Rat) * (((2 ^ k : Int) : Rat) * (y : Rat) - (x : Rat) + (((2 ^ k : Int) : Rat) + 1) * (E : Rat)) ≤ ((2 ^ k : Int) : Rat) * (RR : Rat) := by exact_mod_cast h4
  obtain ⟨p1, p2, p3, p4⟩ := h
  exact ⟨del_alg2 hT hR h4' p1 p2 p3 p4 t46_pos, del_alg hT hR h3' p1 p2 p3 p4 t46_pos⟩
theorem kap_alg {T R q x y c s E L H : Rat} (hT : 0 < T) (hR : 0 < R) (hq : 0 < q) (h1 : (T * R) * L ≤ (x * T + y - (T + 1) * E) * q) (h2 : (x * T + y + (T + 1) * E) * q ≤ (T * R) * H) (a1 : x - E ≤ R * c) (a2 : R * c ≤ x + E) (b1 : y - E ≤ R * s) (b2 : R * s ≤ y + E) :
    L ≤ q * (c + s / T) ∧ q * (c + s / T) ≤ H := by
  have e1 : (T * R) * (q * (c + s / T)) = (T * (R * c) + R * s) * q := by
    have : T ≠ 0 := by grind
    grind
  have hTR := Rat.mul_pos hT hR
  have g1 := Rat.mul_le_mul_of_nonneg_left a1 (Rat.le_of_lt hT)
  have g2 := Rat.mul_le_mul_of_nonneg_left a2 (Rat.le_of_lt hT)
  have g3 := Rat.mul_le_mul_of_nonneg_right (show x * T + y - (T + 1) * E ≤ T * (R * c) + R * s by grind) (Rat.le_of_lt hq)
  have g4 := Rat.mul_le_mul_of_nonneg_right (show T * (R * c) + R * s ≤ x * T + y + (T + 1) * E by grind) (Rat.le_of_lt hq)
  refine ⟨of_mul hTR ?_, of_mul hTR ?_⟩
  · rw [e1]; grind
  · rw [e1]; grind
theorem kap_bd {k : Nat} (hk : k < 32) : (kl k : Rat) ≤ (k60 : Rat) * kap k ∧ (k60 : Rat) * kap k ≤ (kh k : Rat) := by
  have h := aa_ap hk
  have hT := two_pos k
  have hR := RR_pos
  have hq := k60_pos
  have hd : (0 : Int) < 2 ^ k * RR := Int.mul_pos (Int.pow_pos (by decide)) (by decide +kernel)
  unfold Ap at h
  unfold kap kl kh
  generalize (pn 48 (aa k).toNat).1 = x at *
  generalize (pn 48 (aa k).toNat).2.1 = y at *
  generalize (pn 48 (aa k).toNat).2.2 = E at *
  have d1 := (div_bd ((x * 2 ^ k + y - (2 ^ k + 1) * E) * k60) (2 ^ k * RR) hd).1
  have d2 := (div_bd ((x * 2 ^ k + y + (2 ^ k + 1) * E) * k60) (2 ^ k * RR) hd).2
  have c0 : ((2 ^ k * RR : Int) : Rat) = ((2 ^ k : Int) : Rat) * (RR : Rat) := by exact_mod_cast rfl
  have c1 : (((x * 2 ^ k + y - (2 ^ k + 1) * E) * k60 : Int) : Rat) = ((x : Rat) * ((2 ^ k : Int) : Rat) + (y : Rat) - (((2 ^ k : Int) : Rat) + 1) * (E : Rat)) * (k60 : Rat) := by exact_mod_cast rfl
  have c2 : (((x * 2 ^ k + y + (2 ^ k + 1) * E) * k60 : Int) : Rat) = ((x : Rat) * ((2 ^ k : Int) : Rat) + (y : Rat) + (((2 ^ k : Int) : Rat) + 1) * (E : Rat)) * (k60 : Rat) := by exact_mod_cast rfl
  rw [c0, c1] at d1
  rw [c0, c2] at d2
  have c3 : (((x * 2 ^ k + y + (2 ^ k + 1) * E) * k60 / (2 ^ k * RR) + 1 : Int) : Rat) = (((x * 2 ^ k + y + (2 ^ k + 1) * E) * k60 / (2 ^ k * RR) : Int) : Rat) + 1 := by exact_mod_cast rfl
  rw [c3]
  obtain ⟨p1, p2, p3, p4⟩ := h
  exact kap_alg hT hR hq d1 (by grind) p1 p2 p3 p4
/-- A point, turned back by an angle. -/
def rot (x y n : Int) : G := G.mul ⟨(x : Rat), (y : Rat)⟩ (e (-n))
theorem mul_bd {u v U V : Rat} (p1 : -U ≤ u) (p2 : u ≤ U) (p3 : -V ≤ v) (p4 : v ≤ V) (p5 : 0 ≤ U) (p6 : 0 ≤ V) : -(U * V) ≤ u * v ∧ u * v ≤ U * V := by
  have q1 := Rat.mul_nonneg (show 0 ≤ U - u by grind) (show 0 ≤ V - v by grind)
  have q2 := Rat.mul_nonneg (show 0 ≤ U - u by grind) (show 0 ≤ V + v by grind)
  have q3 := Rat.mul_nonneg (show 0 ≤ U + u by grind) (show 0 ≤ V - v by grind)
  have q4 := Rat.mul_nonneg (show 0 ≤ U + u by grind) (show 0 ≤ V + v by grind)
  clear p1 p2 p3 p4 p5 p6
  grind
/-- A step forward (s is 1) or back (s is -1). -/
theorem rot_alg {x y x' y' s t f g u v C S : Rat} (hs : s * s = 1) (hx : x' = x - s * (y * t) + f) (hy : y' = y + s * (x * t) + g) :
    x' * (u * C + s * (v * S)) - y' * (v * C - s * (u * S)) = (C + S * t) * (x * u - y * v) - s * (C * t - S) * (x * v + y * u) + (f * (u * C + s * (v * S)) - g * (v * C - s * (u * S))) ∧
    x' * (v * C - s * (u * S)) + y' * (u * C + s * (v * S)) = (C + S * t) * (x * v + y * u) + s * (C * t - S) * (x * u - y * v) + (f * (v * C - s * (u * S)) + g * (u * C + s * (v * S))) := by
  subst hx hy
  constructor <;> grind
theorem rot_step {x y x' y' n a s : Int} {k : Nat} (hk : aa k = a) (hs : s = 1 ∨ s = -1) (hx : x' = x - s * (y / 2 ^ k)) (hy : y' = y + s * (x / 2 ^ k)) :
    ∃ d : Rat, (d = del k ∨ d = -del k) ∧
      -2 ≤ (rot x' y' (n + s * a)).re - (kap k * (rot x y n).re - d * (rot x y n).im) ∧ (rot x' y' (n + s * a)).re - (kap k * (rot x y n).re - d * (rot x y n).im) ≤ 2 ∧
      -2 ≤ (rot x' y' (n + s * a)).im - (kap k * (rot x y n).im + d * (rot x y n).re) ∧ (rot x' y' (n + s * a)).im - (kap k * (rot x y n).im + d * (rot x y n).re) ≤ 2 := by
  have hT := two_pos k
  have hTi : (0 : Int) < 2 ^ k := Int.pow_pos (by decide)
  have dy := div_bd y (2 ^ k) hTi
  have dx := div_bd x (2 ^ k) hTi
  have hx' : (x' : Rat) = (x : Rat) - (s : Rat) * ((y / 2 ^ k : Int) : Rat) := by rw [hx]; exact_mod_cast rfl
  have hy' : (y' : Rat) = (y : Rat) + (s : Rat) * ((x / 2 ^ k : Int) : Rat) := by rw [hy]; exact_mod_cast rfl
  have hw : e (-(n + s * a)) = ⟨(e (-n)).re * (e a).re + (s : Rat) * ((e (-n)).im * (e a).im), (e (-n)).im * (e a).re - (s : Rat) * ((e (-n)).re * (e a).im)⟩ := by
    have : -(n + s * a) = -n + -(s * a) := by omega
    rw [this, e_add]
    rcases hs with rfl | rfl
    · rw [Int.one_mul, e_neg a]
      have : ((1 : Int) : Rat) = 1 := rfl
      apply G.ext' <;> simp only [G.mul, G.conj, this] <;> grind
    · have h1 : -(-1 * a) = a := by omega
      rw [h1]
      have : ((-1 : Int) : Rat) = -1 := rfl
      apply G.ext' <;> simp only [G.mul, this] <;> grind
  have hwb := e_bd (-(n + s * a))
  have hs1 : (s : Rat) = 1 ∨ (s : Rat) = -1 := by
    rcases hs with rfl | rfl
    · exact Or.inl rfl
    · exact Or.inr rfl
  have hss : (s : Rat) * (s : Rat) = 1 := by
    rcases hs1 with h | h <;> rw [h] <;> grind
  rw [hw] at hwb
  simp only [rot, hw, G.mul]
  rw [hk.symm] at *
  unfold kap del
  generalize (e (aa k)).re = C at *
  generalize (e (aa k)).im = S at *
  generalize (e (-n)).re = u at *
  generalize (e (-n)).im = v at *
  generalize ((y / 2 ^ k : Int) : Rat) = p at *
  generalize ((x / 2 ^ k : Int) : Rat) = q at *
  generalize ((2 ^ k : Int) : Rat) = T at *
  generalize (x : Rat) = x at *
  generalize (y : Rat) = y at *
  generalize (x' : Rat) = x' at *
  generalize (y' : Rat) = y' at *
  generalize (s : Rat) = s at *
  have ht : 0 < T⁻¹ := Rat.inv_pos.mpr hT
  have hTT : T * T⁻¹ = 1 := by grind
  simp only [Rat.div_def]
  generalize T⁻¹ = t at *
  obtain ⟨f, hf⟩ : ∃ f, f = s * (y * t - p) := ⟨_, rfl⟩
  obtain ⟨g, hg⟩ : ∃ g, g = -(s * (x * t - q)) := ⟨_, rfl⟩
  have ey : y * t = y * t - p + p := by grind
  have hf1 : 0 ≤ y * t - p ∧ y * t - p ≤ 1 := by
    have h1 := Rat.mul_le_mul_of_nonneg_right dy.1 (Rat.le_of_lt ht)
    have h2 := Rat.mul_le_mul_of_nonneg_right dy.2 (Rat.le_of_lt ht)
    have e1 : T * p * t = p * (T * t) := by grind
    have e2 : (T * p + T) * t = p * (T * t) + T * t := by grind
    rw [e1, hTT] at h1
    rw [e2, hTT] at h2
    constructor <;> grind
  have hg1 : 0 ≤ x * t - q ∧ x * t - q ≤ 1 := by
    have h1 := Rat.mul_le_mul_of_nonneg_right dx.1 (Rat.le_of_lt ht)
    have h2 := Rat.mul_le_mul_of_nonneg_right dx.2 (Rat.le_of_lt ht)
    have e1 : T * q * t = q * (T * t) := by grind
    have e2 : (T * q + T) * t = q * (T * t) + T * t := by grind
    rw [e1, hTT] at h1
    rw [e2, hTT] at h2
    constructor <;> grind
  have hf2 : -1 ≤ f ∧ f ≤ 1 := by rcases hs1 with h | h <;> rw [hf, h] <;> constructor <;> grind
  have hg2 : -1 ≤ g ∧ g ≤ 1 := by rcases hs1 with h | h <;> rw [hg, h] <;> constructor <;> grind
  have A := rot_alg (x := x) (y := y) (x' := x') (y' := y') (t := t) (f := f) (g := g) (u := u) (v := v) (C := C) (S := S) hss (by rw [hx', hf]; grind) (by rw [hy', hg]; grind)
  clear hx' hy' hf hg dx dy hTT ht hT hf1 hg1 ey
  generalize hw1 : u * C + s * (v * S) = w1 at *
  generalize hw2 : v * C - s * (u * S) = w2 at *
  have b1 := mul_bd hf2.1 hf2.2 hwb.1 hwb.2.1 (by grind) (by grind)
  have b2 := mul_bd hg2.1 hg2.2 hwb.2.2.1 hwb.2.2.2 (by grind) (by grind)
  have b3 := mul_bd hf2.1 hf2.2 hwb.2.2.1 hwb.2.2.2 (by grind) (by grind)
  have b4 := mul_bd hg2.1 hg2.2 hwb.1 hwb.2.1 (by grind) (by grind)
  refine ⟨s * (C * t - S), ?_, ?_⟩
  · rcases hs1 with h | h <;> rw [h]
    · left; grind
    · right; grind
  · obtain ⟨A1, A2⟩ := A
    rw [A1, A2]
    generalize (C + S * t) * (x * u - y * v) - s * (C * t - S) * (x * v + y * u) = Z1
    generalize (C + S * t) * (x * v + y * u) + s * (C * t - S) * (x * u - y * v) = Z2
    refine ⟨?_, ?_, ?_, ?_⟩ <;> grind
/-- What lies near the line stays near it. -/
theorem step_alg {E K d X Y X' Y' r : Rat} (hE : 0 < E) (hK : 1 / 2 ≤ K) (d1 : -E ≤ d) (d2 : d ≤ E) (hX : 2 ≤ E * X) (hX0 : 0 ≤ X) (y1 : -(r * X) ≤ Y) (y2 : Y ≤ r * X) (r0 : 0 ≤ r) (r1 : r + 8 * E ≤ 1)
    (x3 : -2 ≤ X' - (K * X - d * Y)) (x4 : X' - (K * X - d * Y) ≤ 2) (y3 : -2 ≤ Y' - (K * Y + d * X)) (y4 : Y' - (K * Y + d * X) ≤ 2) :
    -((r + 8 * E) * X') ≤ Y' ∧ Y' ≤ (r + 8 * E) * X' ∧ K * X - E * X - 2 ≤ X' ∧ X' ≤ K * X + E * X + 2 := by
  have rX := Rat.mul_nonneg r0 hX0
  have a1 := mul_bd d1 d2 y1 y2 (Rat.le_of_lt hE) rX
  have a2 := mul_bd d1 d2 (show -X ≤ X by grind) (show X ≤ X by grind) (Rat.le_of_lt hE) hX0
  have a3 := Rat.mul_le_mul_of_nonneg_left y1 (show 0 ≤ K by grind)
  have a4 := Rat.mul_le_mul_of_nonneg_left y2 (show 0 ≤ K by grind)
  have a5 := Rat.mul_le_mul_of_nonneg_right (show r ≤ 1 by grind) (show 0 ≤ E * X by grind)
  have a6 : X' ≥ K * X - E * (r * X) - 2 := by grind
  have a7 := Rat.mul_le_mul_of_nonneg_left a6 (show 0 ≤ r + 8 * E by grind)
  have a8 := Rat.mul_le_mul_of_nonneg_right r1 (show 0 ≤ E * (r * X) + 2 by grind)
  have a9 := Rat.mul_le_mul_of_nonneg_right hK (show 0 ≤ 8 * (E * X) by grind)
  refine ⟨?_, ?_, ?_, ?_⟩ <;> grind
/-- Bounds of how far along the line a point is, step by step. -/
def bd : Nat → Int × Int → Int × Int
  | 0, p => p
  | k + 1, p => ((bd k p).1 * kl k / k60 - (bd k p).2 / t46 - 4, (bd k p).2 * kh k / k60 + (bd k p).2 / t46 + 5)
theorem eps_t : eps * (t46 : Rat) = 1 := by
  have := t46_pos
  unfold eps
  have : (t46 : Rat) ≠ 0 := by grind
  grind
theorem eps_pos : 0 < eps := by
  have h := eps_t
  have h2 := t46_pos
  by_cases g : 0 < eps
  · exact g
  · exfalso
    have := Rat.mul_nonneg (show 0 ≤ -eps by grind) (Rat.le_of_lt h2)
    grind
theorem eps_small : 1024 * eps ≤ 1 := by
  have h := eps_t
  have h2 := eps_pos
  have h3 : (1024 : Int) ≤ t46 := by decide +kernel
  have h4 : ((1024 : Int) : Rat) ≤ (t46 : Rat) := Rat.intCast_le_intCast.mpr h3
  have h5 : ((1024 : Int) : Rat) = 1024 := rfl
  rw [h5] at h4
  have := Rat.mul_le_mul_of_nonneg_left h4 (Rat.le_of_lt h2)
  grind
theorem lo_alg {E t q K X X' L H kl a b : Rat} (ht : E * t = 1) (hE : 0 < E) (ht0 : 0 < t) (hq : 0 < q) (hL : 0 ≤ L) (hkl : kl ≤ q * K) (hkl0 : 0 ≤ kl) (h1 : L ≤ X) (h2 : X ≤ H) (ha : q * a ≤ L * kl) (hb : H ≤ t * b + t) (h3 : K * X - E * X - 2 ≤ X') : a - b - 4 ≤ X' := by
  have e1 := Rat.mul_le_mul_of_nonneg_left hb (Rat.le_of_lt hE)
  have e2 : E * (t * b + t) = (E * t) * b + E * t := by grind
  rw [e2, ht] at e1
  have e3 := Rat.mul_le_mul_of_nonneg_left h2 (Rat.le_of_lt hE)
  have e4 : q * a ≤ q * (K * X) := by
    have p1 := Rat.mul_le_mul_of_nonneg_left hkl (show 0 ≤ X by grind)
    have p2 := Rat.mul_le_mul_of_nonneg_right h1 hkl0
    grind
  have e5 := of_mul hq e4
  grind
theorem hi_alg {E t q K X X' H kh a b : Rat} (ht : E * t = 1) (hE : 0 < E) (ht0 : 0 < t) (hq : 0 < q) (hX : 0 ≤ X) (hkh : q * K ≤ kh) (hkh0 : 0 ≤ kh) (h2 : X ≤ H) (ha : H * kh ≤ q * a + q) (hb : H ≤ t * b + t) (h3 : X' ≤ K * X + E * X + 2) : X' ≤ a + b + 5 := by
  have e1 := Rat.mul_le_mul_of_nonneg_left hb (Rat.le_of_lt hE)
  have e2 : E * (t * b + t) = (E * t) * b + E * t := by grind
  rw [e2, ht] at e1
  have e3 := Rat.mul_le_mul_of_nonneg_left h2 (Rat.le_of_lt hE)
  have e4 : q * (K * X) ≤ q * (a + 1) := by
    have p1 := Rat.mul_le_mul_of_nonneg_left hkh hX
    have p2 := Rat.mul_le_mul_of_nonneg_right h2 hkh0
    grind
  have e5 := of_mul hq e4
  grind
/-- Thirty-two steps: what lies near the line stays near it, and how far along it is. -/
theorem chain {X Y N sg : Nat → Int} {p : Int × Int} {r : Rat} (hs : ∀ k, k < 32 → sg k = 1 ∨ sg k = -1) (hX : ∀ k, k < 32 → X (k + 1) = X k - sg k * (Y k / 2 ^ k)) (hY : ∀ k, k < 32 → Y (k + 1) = Y k + sg k * (X k / 2 ^ k)) (hN : ∀ k, k < 32 → N (k + 1) = N k + sg k * aa k)
    (hp : ∀ k, k < 32 → 2 * t46 ≤ (bd k p).1) (r0 : 0 ≤ r) (r1 : r ≤ 1 / 2) (h0 : ((bd 0 p).1 : Rat) ≤ (rot (X 0) (Y 0) (N 0)).re ∧ (rot (X 0) (Y 0) (N 0)).re ≤ ((bd 0 p).2 : Rat)) (g0 : -(r * (rot (X 0) (Y 0) (N 0)).re) ≤ (rot (X 0) (Y 0) (N 0)).im ∧ (rot (X 0) (Y 0) (N 0)).im ≤ r * (rot (X 0) (Y 0) (N 0)).re) :
    ∀ k, k ≤ 32 → (((bd k p).1 : Rat) ≤ (rot (X k) (Y k) (N k)).re ∧ (rot (X k) (Y k) (N k)).re ≤ ((bd k p).2 : Rat)) ∧ (-((r + (k : Rat) * (8 * eps)) * (rot (X k) (Y k) (N k)).re) ≤ (rot (X k) (Y k) (N k)).im ∧ (rot (X k) (Y k) (N k)).im ≤ (r + (k : Rat) * (8 * eps)) * (rot (X k) (Y k) (N k)).re) := by
  intro k
  induction k with
  | zero =>
    intro _
    have : ((0 : Nat) : Rat) = 0 := rfl
    rw [this]
    refine ⟨h0, ?_⟩
    grind
  | succ k ih =>
    intro hk
    obtain ⟨⟨i1, i2⟩, i3, i4⟩ := ih (by omega)
    have hk2 : k < 32 := by omega
    obtain ⟨d, hd, q1, q2, q3, q4⟩ := rot_step (n := N k) (k := k) rfl (hs k hk2) (hX k hk2) (hY k hk2)
    rw [← hN k hk2] at q1 q2 q3 q4
    have hdb := del_bd hk2
    have hkb := kap_bd hk2
    have hkl : k60 ≤ 2 * kl k := (aa_bd hk2).2.2.2.2
    have hpk := hp k hk2
    have hq := k60_pos
    have hqi : (0 : Int) < k60 := by decide +kernel
    have ht := eps_t
    have hE := eps_pos
    have hE2 := eps_small
    have htp := t46_pos
    have hti : (0 : Int) < t46 := by decide +kernel
    have D1 := (div_bd ((bd k p).1 * kl k) k60 hqi).1
    have D2 := (div_bd ((bd k p).2 * kh k) k60 hqi).2
    have D3 := (div_bd (bd k p).2 t46 hti).2
    have c1 : (((bd k p).1 * kl k : Int) : Rat) = ((bd k p).1 : Rat) * (kl k : Rat) := by exact_mod_cast rfl
    have c2 : (((bd k p).2 * kh k : Int) : Rat) = ((bd k p).2 : Rat) * (kh k : Rat) := by exact_mod_cast rfl
    rw [c1] at D1
    rw [c2] at D2
    have c3 : ((bd (k + 1) p).1 : Rat) = (((bd k p).1 * kl k / k60 : Int) : Rat) - (((bd k p).2 / t46 : Int) : Rat) - 4 := by
      rw [bd]
      exact_mod_cast rfl
    have c4 : ((bd (k + 1) p).2 : Rat) = (((bd k p).2 * kh k / k60 : Int) : Rat) + (((bd k p).2 / t46 : Int) : Rat) + 5 := by
      rw [bd]
      exact_mod_cast rfl
    have c5 : (2 : Rat) * (t46 : Rat) ≤ ((bd k p).1 : Rat) := by exact_mod_cast hpk
    have c6 : (k60 : Rat) ≤ 2 * (kl k : Rat) := by exact_mod_cast hkl
    have c7 : ((k + 1 : Nat) : Rat) = (k : Rat) + 1 := by exact_mod_cast rfl
    have c8 : (k : Rat) ≤ 31 := by
      have : k ≤ 31 := by omega
      exact_mod_cast this
    have c9 : (0 : Rat) ≤ (k : Rat) := by
      have : 0 ≤ k := by omega
      exact_mod_cast this
    rw [c3, c4, c7]
    clear c1 c2 c3 c4 c7 hs hX hY hN hp h0 g0 ih hpk hkl hqi hti
    generalize (((bd k p).1 * kl k / k60 : Int) : Rat) = A1 at *
    generalize (((bd k p).2 * kh k / k60 : Int) : Rat) = A2 at *
    generalize (((bd k p).2 / t46 : Int) : Rat) = A3 at *
    generalize ((bd k p).1 : Rat) = L at *
    generalize ((bd k p).2 : Rat) = H at *
    generalize (kl k : Rat) = l at *
    generalize (kh k : Rat) = h at *
    generalize kap k = K at *
    generalize (rot (X (k + 1)) (Y (k + 1)) (N (k + 1))).re = x' at *
    generalize (rot (X (k + 1)) (Y (k + 1)) (N (k + 1))).im = y' at *
    generalize (rot (X k) (Y k) (N k)).re = x at *
    generalize (rot (X k) (Y k) (N k)).im = y at *
    generalize (k : Rat) = n at *
    have hdd : -eps ≤ d ∧ d ≤ eps := by rcases hd with rfl | rfl <;> constructor <;> grind
    clear hd hdb
    generalize eps = E at *
    generalize (k60 : Rat) = q at *
    generalize (t46 : Rat) = t at *
    have hK : 1 / 2 ≤ K := by
      refine of_mul hq ?_
      grind
    have hx : 2 ≤ E * x := by
      have := Rat.mul_le_mul_of_nonneg_left (show 2 * t ≤ x by grind) (Rat.le_of_lt hE)
      grind
    have hx0 : 0 ≤ x := by grind
    have hn1 := Rat.mul_nonneg c9 (Rat.le_of_lt hE)
    have hn2 := Rat.mul_le_mul_of_nonneg_right c8 (Rat.le_of_lt hE)
    have S := step_alg hE hK hdd.1 hdd.2 hx hx0 i3 i4 (by grind) (by grind) q1 q2 q3 q4
    obtain ⟨s1, s2, s3, s4⟩ := S
    refine ⟨⟨lo_alg ht hE htp hq (by grind) hkb.1 (by grind) i1 i2 D1 D3 s3, hi_alg ht hE htp hq hx0 hkb.2 (by grind) i2 D2 D3 s4⟩, ?_, ?_⟩
    · have : r + (n + 1) * (8 * E) = r + n * (8 * E) + 8 * E := by grind
      rw [this]; exact s1
    · have : r + (n + 1) * (8 * E) = r + n * (8 * E) + 8 * E := by grind
      rw [this]; exact s2
theorem cast_le {a b : Int} (h : a ≤ b) : (a : Rat) ≤ (b : Rat) := Rat.intCast_le_intCast.mpr h
theorem le_cast {a b : Int} (h : (a : Rat) ≤ (b : Rat)) : a ≤ b := Rat.intCast_le_intCast.mp h
/-- A point out of what it is when turned back. -/
theorem unrot (x y n : Int) : (x : Rat) = (rot x y n).re * (e n).re - (rot x y n).im * (e n).im ∧ (y : Rat) = (rot x y n).re * (e n).im + (rot x y n).im * (e n).re := by
  have h := e_one n
  unfold rot
  rw [e_neg]
  simp only [G.mul, G.conj, G.nrm] at *
  generalize (e n).re = c at *
  generalize (e n).im = s at *
  constructor <;> grind
theorem rot_zero (x y : Int) : (rot x y 0).re = (x : Rat) ∧ (rot x y 0).im = (y : Rat) := by
  have : e (-0) = G.one := rfl
  unfold rot
  rw [this, G.mul_one]
  exact ⟨rfl, rfl⟩
theorem unrot_bd {x y n : Int} {H : Int} (h0 : 0 ≤ (rot x y n).re) (h1 : (rot x y n).re ≤ (H : Rat)) (h2 : -(rot x y n).re ≤ (rot x y n).im) (h3 : (rot x y n).im ≤ (rot x y n).re) : -(2 * H) ≤ x ∧ x ≤ 2 * H ∧ -(2 * H) ≤ y ∧ y ≤ 2 * H := by
  obtain ⟨hx, hy⟩ := unrot x y n
  have hb := e_bd n
  have hH : ((2 * H : Int) : Rat) = 2 * (H : Rat) := by exact_mod_cast rfl
  have hH2 : ((-(2 * H) : Int) : Rat) = -(2 * (H : Rat)) := by exact_mod_cast rfl
  have e0 : ((2 * H : Int) : Rat) = 2 * (H : Rat) := hH
  generalize (rot x y n).re = X at *
  generalize (rot x y n).im = Y at *
  have a1 := mul_bd (show -X ≤ X by grind) (show X ≤ X by grind) hb.1 hb.2.1 h0 (by grind)
  have a2 := mul_bd (show -X ≤ Y by grind) (show Y ≤ X by grind) hb.2.2.1 hb.2.2.2 h0 (by grind)
  have a3 := mul_bd (show -X ≤ X by grind) (show X ≤ X by grind) hb.2.2.1 hb.2.2.2 h0 (by grind)
  have a4 := mul_bd (show -X ≤ Y by grind) (show Y ≤ X by grind) hb.1 hb.2.1 h0 (by grind)
  refine ⟨le_cast ?_, le_cast ?_, le_cast ?_, le_cast ?_⟩ <;> (first | rw [hH2] | rw [hH]) <;> (first | rw [hx] | rw [hy]) <;> grind
/-- The steps by which z comes to 0. -/
def bq : Nat → Int × Int × Int → Int × Int × Int
  | 0, s => s
  | k + 1, s => if 0 ≤ (bq k s).2.2 then ((bq k s).1 - (bq k s).2.1 / 2 ^ k, (bq k s).2.1 + (bq k s).1 / 2 ^ k, (bq k s).2.2 - aa k)
    else ((bq k s).1 + (bq k s).2.1 / 2 ^ k, (bq k s).2.1 - (bq k s).1 / 2 ^ k, (bq k s).2.2 + aa k)
def zb : Nat → Int
  | 0 => 35184372088832
  | k + 1 => if zb k - aa k ≤ aa k then aa k else zb k - aa k
theorem bq_z {s : Int × Int × Int} (h0 : -35184372088832 ≤ s.2.2) (h1 : s.2.2 ≤ 35184372088832) (k : Nat) (hk : k ≤ 32) : -(zb k) ≤ (bq k s).2.2 ∧ (bq k s).2.2 ≤ zb k := by
  induction k with
  | zero => exact ⟨h0, h1⟩
  | succ k ih =>
    obtain ⟨i1, i2⟩ := ih (by omega)
    have ha := (aa_bd (k := k) (by omega)).1
    simp only [bq, zb]
    (repeat' split) <;> simp only [] <;> omega
def pb : Int × Int := (170926505739102, 170926505739102)
theorem pb_is : ∀ k, k < 33 → 2 * t46 ≤ (bd k pb).1 ∧ (bd k pb).2 ≤ 562949953421312 ∧ zb k ≤ 35184372088832 := by decide +kernel
theorem pb_end : 281474976710656 - 1024 ≤ (bd 32 pb).1 ∧ (bd 32 pb).2 ≤ 281474976710656 + 1024 ∧ zb 32 ≤ 20862 := by decide +kernel
/-- The run of Both's steps: bounds all along, and at the end a point of the circle near the angle that is left. -/
theorem both_run {z : Int} (h0 : -35184372088832 ≤ z) (h1 : z ≤ 35184372088832) : ∀ k, k ≤ 32 →
    (((bd k pb).1 : Rat) ≤ (rot (bq k (170926505739102, 0, z)).1 (bq k (170926505739102, 0, z)).2.1 (z - (bq k (170926505739102, 0, z)).2.2)).re ∧ (rot (bq k (170926505739102, 0, z)).1 (bq k (170926505739102, 0, z)).2.1 (z - (bq k (170926505739102, 0, z)).2.2)).re ≤ ((bd k pb).2 : Rat)) ∧
    (-((0 + (k : Rat) * (8 * eps)) * (rot (bq k (170926505739102, 0, z)).1 (bq k (170926505739102, 0, z)).2.1 (z - (bq k (170926505739102, 0, z)).2.2)).re) ≤ (rot (bq k (170926505739102, 0, z)).1 (bq k (170926505739102, 0, z)).2.1 (z - (bq k (170926505739102, 0, z)).2.2)).im ∧ (rot (bq k (170926505739102, 0, z)).1 (bq k (170926505739102, 0, z)).2.1 (z - (bq k (170926505739102, 0, z)).2.2)).im ≤ (0 + (k : Rat) * (8 * eps)) * (rot (bq k (170926505739102, 0, z)).1 (bq k (170926505739102, 0, z)).2.1 (z - (bq k (170926505739102, 0, z)).2.2)).re) := by
  have hz : z - (bq 0 (170926505739102, 0, z)).2.2 = 0 := by
    show z - z = 0
    omega
  have hr := rot_zero 170926505739102 0
  refine chain (X := fun k => (bq k (170926505739102, 0, z)).1) (Y := fun k => (bq k (170926505739102, 0, z)).2.1) (N := fun k => z - (bq k (170926505739102, 0, z)).2.2) (sg := fun k => if 0 ≤ (bq k (170926505739102, 0, z)).2.2 then 1 else -1) (p := pb) ?_ ?_ ?_ ?_ ?_ (by grind) (by grind) ?_ ?_
  · intro k _; split <;> simp
  · intro k _; simp only [bq]; split <;> simp only [] <;> grind
  · intro k _; simp only [bq]; split <;> simp only [] <;> grind
  · intro k _; simp only [bq]; split <;> simp only [] <;> grind
  · intro k hk; exact (pb_is k (by omega)).1
  · simp only [hz]
    show ((bd 0 pb).1 : Rat) ≤ (rot 170926505739102 0 0).re ∧ (rot 170926505739102 0 0).re ≤ ((bd 0 pb).2 : Rat)
    rw [hr.1]
    exact ⟨cast_le (by decide), cast_le (by decide)⟩
  · simp only [hz]
    show -(0 * (rot 170926505739102 0 0).re) ≤ (rot 170926505739102 0 0).im ∧ (rot 170926505739102 0 0).im ≤ 0 * (rot 170926505739102 0 0).re
    rw [hr.2]
    have : ((0 : Int) : Rat) = 0 := rfl
    rw [this]
    grind
/-- A quarter of a turn is nearly the quarter. -/
theorem quarter_ap : Ap (e (2 ^ 46)) (pn 48 (2 ^ 46)).1 (pn 48 (2 ^ 46)).2.1 (pn 48 (2 ^ 46)).2.2 := by
  have h := (pn_ap 48 (2 ^ 46) (by decide) (by decide)).1
  rw [← e_nat] at h
  exact h
def t58 : Int := 288230376151711744
theorem t58_pos : (0 : Rat) < (t58 : Rat) := by
  have h : (0 : Int) < t58 := by decide +kernel
  exact_mod_cast h
def tiny : Rat := 1 / (t58 : Rat)
theorem tiny_t : tiny * (t58 : Rat) = 1 := by
  have := t58_pos
  unfold tiny
  have : (t58 : Rat) ≠ 0 := by grind
  grind
theorem tiny_nn : 0 ≤ tiny := by
  have h := tiny_t
  have h2 := t58_pos
  by_cases g : 0 ≤ tiny
  · exact g
  · exfalso
    have := Rat.mul_pos (show 0 < -tiny by grind) h2
    grind
theorem le_tiny {R t x : Rat} (hR : 0 < R) (ht : 0 < t) (h : t * (R * x) ≤ R) : x ≤ 1 / t := by
  refine of_mul ht (of_mul hR ?_)
  have e1 : R * (t * (1 / t)) = R := by
    have : t ≠ 0 := by grind
    grind
  rw [e1]
  grind
theorem quarter_is : -(tiny / 2) ≤ (e (2 ^ 46)).re ∧ (e (2 ^ 46)).re ≤ tiny / 2 ∧ -(tiny / 2) ≤ (e (2 ^ 46)).im - 1 ∧ (e (2 ^ 46)).im - 1 ≤ tiny / 2 := by
  obtain ⟨h1, h2, h3, h4⟩ := quarter_ap
  have hR := RR_pos
  have f : 2 * t58 * ((pn 48 (2 ^ 46)).1 + (pn 48 (2 ^ 46)).2.2) ≤ RR ∧ 2 * t58 * (-(pn 48 (2 ^ 46)).1 + (pn 48 (2 ^ 46)).2.2) ≤ RR ∧ 2 * t58 * ((pn 48 (2 ^ 46)).2.1 - RR + (pn 48 (2 ^ 46)).2.2) ≤ RR ∧ 2 * t58 * (RR - (pn 48 (2 ^ 46)).2.1 + (pn 48 (2 ^ 46)).2.2) ≤ RR := by decide +kernel
  generalize (pn 48 (2 ^ 46)).1 = x at *
  generalize (pn 48 (2 ^ 46)).2.1 = y at *
  generalize (pn 48 (2 ^ 46)).2.2 = E at *
  obtain ⟨f1, f2, f3, f4⟩ := f
  have g1 : (2 : Rat) * (t58 : Rat) * ((x : Rat) + (E : Rat)) ≤ (RR : Rat) := by exact_mod_cast f1
  have g2 : (2 : Rat) * (t58 : Rat) * (-(x : Rat) + (E : Rat)) ≤ (RR : Rat) := by exact_mod_cast f2
  have g3 : (2 : Rat) * (t58 : Rat) * ((y : Rat) - (RR : Rat) + (E : Rat)) ≤ (RR : Rat) := by exact_mod_cast f3
  have g4 : (2 : Rat) * (t58 : Rat) * ((RR : Rat) - (y : Rat) + (E : Rat)) ≤ (RR : Rat) := by exact_mod_cast f4
  have ht := t58_pos
  unfold tiny
  generalize (e (2 ^ 46)).re = c at *
  generalize (e (2 ^ 46)).im = s at *
  generalize (RR : Rat) = R at *
  generalize (t58 : Rat) = t at *
  generalize (x : Rat) = x at *
  generalize (y : Rat) = y at *
  generalize (E : Rat) = E at *
  have e0 : 1 / t / 2 = 1 / (2 * t) := by
    have : t ≠ 0 := by grind
    grind
  rw [e0]
  have ht2 : 0 < 2 * t := by grind
  have key : ∀ {a b : Rat}, a ≤ b → 2 * t * b ≤ R → 2 * t * a ≤ R := by
    intro a b h k
    have := Rat.mul_le_mul_of_nonneg_left h (Rat.le_of_lt ht2)
    grind
  have k1 : c ≤ 1 / (2 * t) := le_tiny hR ht2 (key h2 g1)
  have k2 : -c ≤ 1 / (2 * t) := le_tiny hR ht2 (key (show R * -c ≤ -x + E by grind) g2)
  have k3 : s - 1 ≤ 1 / (2 * t) := le_tiny hR ht2 (key (show R * (s - 1) ≤ y - R + E by grind) g3)
  have k4 : 1 - s ≤ 1 / (2 * t) := le_tiny hR ht2 (key (show R * (1 - s) ≤ R - y + E by grind) g4)
  refine ⟨?_, ?_, ?_, ?_⟩ <;> grind
/-- A quarter further. -/
theorem quarter (n : Int) : -tiny ≤ (e (n + 2 ^ 46)).re + (e n).im ∧ (e (n + 2 ^ 46)).re + (e n).im ≤ tiny ∧ -tiny ≤ (e (n + 2 ^ 46)).im - (e n).re ∧ (e (n + 2 ^ 46)).im - (e n).re ≤ tiny := by
  have h := e_add n (2 ^ 46)
  have hq := quarter_is
  have hb := e_bd n
  have ht := tiny_nn
  rw [h]
  simp only [G.mul]
  generalize (e (2 ^ 46)).re = c at *
  generalize (e (2 ^ 46)).im = s at *
  generalize (e n).re = x at *
  generalize (e n).im = y at *
  generalize tiny = t at *
  have a1 := mul_bd hb.1 hb.2.1 hq.1 hq.2.1 (by grind) (by grind)
  have a2 := mul_bd hb.1 hb.2.1 hq.2.2.1 hq.2.2.2 (by grind) (by grind)
  have a3 := mul_bd hb.2.2.1 hb.2.2.2 hq.1 hq.2.1 (by grind) (by grind)
  have a4 := mul_bd hb.2.2.1 hb.2.2.2 hq.2.2.1 hq.2.2.2 (by grind) (by grind)
  refine ⟨?_, ?_, ?_, ?_⟩ <;> grind
/-- A whole turn further. -/
theorem turn (n : Int) : -(4 * tiny) ≤ (e (n + 2 ^ 48)).re - (e n).re ∧ (e (n + 2 ^ 48)).re - (e n).re ≤ 4 * tiny ∧ -(4 * tiny) ≤ (e (n + 2 ^ 48)).im - (e n).im ∧ (e (n + 2 ^ 48)).im - (e n).im ≤ 4 * tiny := by
  have h1 := quarter n
  have h2 := quarter (n + 2 ^ 46)
  have h3 := quarter (n + 2 ^ 46 + 2 ^ 46)
  have h4 := quarter (n + 2 ^ 46 + 2 ^ 46 + 2 ^ 46)
  have e4 : n + 2 ^ 46 + 2 ^ 46 + 2 ^ 46 + 2 ^ 46 = n + 2 ^ 48 := by omega
  rw [e4] at h4
  refine ⟨?_, ?_, ?_, ?_⟩ <;> grind
/-- Half a turn further. -/
theorem halfturn (n : Int) : -(2 * tiny) ≤ (e (n + 2 ^ 47)).re + (e n).re ∧ (e (n + 2 ^ 47)).re + (e n).re ≤ 2 * tiny ∧ -(2 * tiny) ≤ (e (n + 2 ^ 47)).im + (e n).im ∧ (e (n + 2 ^ 47)).im + (e n).im ≤ 2 * tiny := by
  have h1 := quarter n
  have h2 := quarter (n + 2 ^ 46)
  have e4 : n + 2 ^ 46 + 2 ^ 46 = n + 2 ^ 47 := by omega
  rw [e4] at h2
  refine ⟨?_, ?_, ?_, ?_⟩ <;> grind
def t48 : Int := 281474976710656
/-- A number that is near 2^48 times another one (both whole, the first within D). -/
def Near (x : Int) (c : Rat) (D : Int) : Prop := -(D : Rat) ≤ (x : Rat) - (t48 : Rat) * c ∧ (x : Rat) - (t48 : Rat) * c ≤ (D : Rat)
theorem near_neg {x : Int} {c : Rat} {D : Int} (h : Near x c D) : Near (-x) (-c) D := by
  have : ((-x : Int) : Rat) = -(x : Rat) := by exact_mod_cast rfl
  unfold Near at *
  rw [this]
  constructor <;> grind
theorem near_to {x : Int} {c d t : Rat} {D F : Int} (h : Near x c D) (h1 : -t ≤ c - d) (h2 : c - d ≤ t) (h3 : (t48 : Rat) * t ≤ (F : Rat)) : Near x d (D + F) := by
  have : ((D + F : Int) : Rat) = (D : Rat) + (F : Rat) := by exact_mod_cast rfl
  have ht : (0 : Rat) ≤ (t48 : Rat) := cast_le (a := 0) (by decide)
  have a1 := Rat.mul_le_mul_of_nonneg_left h1 ht
  have a2 := Rat.mul_le_mul_of_nonneg_left h2 ht
  unfold Near at *
  rw [this]
  constructor <;> grind
theorem near_wide {x : Int} {c : Rat} {D F : Int} (h : Near x c D) (hF : D ≤ F) : Near x c F := by
  have := cast_le hF
  unfold Near at *
  constructor <;> grind
/-- Behind thirty-two steps. -/
theorem both_end {z x y v : Int} (h0 : -35184372088832 ≤ z) (h1 : z ≤ 35184372088832) (he : bq 32 (170926505739102, 0, z) = (x, y, v)) :
    -20862 ≤ v ∧ v ≤ 20862 ∧ Near x (e (z - v)).re 4096 ∧ Near y (e (z - v)).im 4096 := by
  have hv := bq_z (s := (170926505739102, 0, z)) h0 h1 32 (by decide)
  have hr := both_run h0 h1 32 (by decide)
  have hp := pb_end
  rw [he] at hv hr
  simp only [] at hv hr
  obtain ⟨⟨r1, r2⟩, r3, r4⟩ := hr
  have p1 := cast_le hp.1
  have p2 := cast_le hp.2.1
  obtain ⟨ux, uy⟩ := unrot x y (z - v)
  have hb := e_bd (z - v)
  have c1 : ((281474976710656 - 1024 : Int) : Rat) = (t48 : Rat) - 1024 := Rat.intCast_sub t48 1024
  have c2 : ((281474976710656 + 1024 : Int) : Rat) = (t48 : Rat) + 1024 := Rat.intCast_add t48 1024
  have c3 : ((32 : Nat) : Rat) = 32 := rfl
  have c4 : ((4096 : Int) : Rat) = 4096 := rfl
  have c5 : (t48 : Rat) = 4 * (t46 : Rat) := Rat.intCast_mul 4 t46
  have ht := eps_t
  have hE := eps_pos
  rw [c1] at p1
  rw [c2] at p2
  rw [c3] at r3 r4
  unfold Near
  rw [ux, uy, c4]
  refine ⟨by omega, by omega, ?_⟩
  clear ux uy c1 c2 c3 c4 hv he h0 h1
  generalize (rot x y (z - v)).re = X at *
  generalize (rot x y (z - v)).im = Y at *
  generalize (e (z - v)).re = c at *
  generalize (e (z - v)).im = s at *
  generalize ((bd 32 pb).1 : Rat) = L at *
  generalize ((bd 32 pb).2 : Rat) = H at *
  have hy : eps * X ≤ 5 := by
    have := Rat.mul_le_mul_of_nonneg_left (show X ≤ 4 * (t46 : Rat) + 1024 by grind) (Rat.le_of_lt hE)
    have := eps_small
    grind
  have y1 : Y ≤ 1280 := by grind
  have y2 : -1280 ≤ Y := by grind
  have a1 := mul_bd (show -1024 ≤ X - (t48 : Rat) by grind) (show X - (t48 : Rat) ≤ 1024 by grind) hb.1 hb.2.1 (by grind) (by grind)
  have a2 := mul_bd (show -1024 ≤ X - (t48 : Rat) by grind) (show X - (t48 : Rat) ≤ 1024 by grind) hb.2.2.1 hb.2.2.2 (by grind) (by grind)
  have a3 := mul_bd y2 y1 hb.1 hb.2.1 (by grind) (by grind)
  have a4 := mul_bd y2 y1 hb.2.2.1 hb.2.2.2 (by grind) (by grind)
  refine ⟨⟨?_, ?_⟩, ?_, ?_⟩ <;> grind
/-- A sine and a cosine (in 2^-32) that belong to a point near an angle (in 2^-32 of a turn). -/
def Pt (u s c : Int) : Prop := ∃ M : Int, M - 65536 * u ≤ 20862 ∧ 65536 * u - M ≤ 20862 ∧ Near (65536 * c) (e M).re 36870 ∧ Near (65536 * s) (e M).im 36870
theorem tiny_48 : (t48 : Rat) * (4 * tiny) ≤ ((1 : Int) : Rat) := by
  have h := tiny_t
  have h2 : (4 * t48 : Int) ≤ t58 := by decide +kernel
  have h3 : (4 : Rat) * (t48 : Rat) ≤ (t58 : Rat) := by exact_mod_cast h2
  have := Rat.mul_le_mul_of_nonneg_left h3 tiny_nn
  have : ((1 : Int) : Rat) = 1 := rfl
  rw [this]
  grind
theorem tiny_481 : (t48 : Rat) * tiny ≤ ((1 : Int) : Rat) := by
  have h := tiny_48
  have h2 : (0 : Rat) ≤ (t48 : Rat) := cast_le (a := 0) (by decide)
  have := Rat.mul_nonneg h2 tiny_nn
  grind
theorem near_rnd {x c D : Int} {r : Rat} (h : Near x r D) (hc : c = (x + 32768) / 65536) : Near (65536 * c) r (D + 32768) := by
  have h1 : 65536 * c - x ≤ 32768 := by omega
  have h2 : x - 65536 * c ≤ 32768 := by omega
  have g1 := cast_le h1
  have g2 := cast_le h2
  have e1 : ((65536 * c - x : Int) : Rat) = ((65536 * c : Int) : Rat) - (x : Rat) := Rat.intCast_sub _ _
  have e2 : ((x - 65536 * c : Int) : Rat) = (x : Rat) - ((65536 * c : Int) : Rat) := Rat.intCast_sub _ _
  have e3 : ((D + 32768 : Int) : Rat) = (D : Rat) + ((32768 : Int) : Rat) := Rat.intCast_add _ _
  rw [e1] at g1
  rw [e2] at g2
  unfold Near at *
  rw [e3]
  constructor <;> grind
theorem near_quarter {s c M D : Int} (h1 : Near c (e M).re D) (h2 : Near s (e M).im D) : Near (-s) (e (M + 2 ^ 46)).re (D + 1) ∧ Near c (e (M + 2 ^ 46)).im (D + 1) := by
  have hq := quarter M
  have ht := tiny_481
  exact ⟨near_to (near_neg h2) (t := tiny) (by grind) (by grind) ht, near_to h1 (t := tiny) (by grind) (by grind) ht⟩
theorem pt_of {u q z x y v c s : Int} (hq : q = (u + 536870912) / 1073741824) (h0 : 0 ≤ u) (h1 : u < 4294967296) (hz : z = (u - q * 1073741824) * 65536) (he : bq 32 (170926505739102, 0, z) = (x, y, v))
    (hc : c = (x + 32768) / 65536) (hs : s = (y + 32768) / 65536) :
    Pt u (if q = 1 then c else if q = 2 then -s else if q = 3 then -c else s) (if q = 1 then -s else if q = 2 then -c else if q = 3 then s else c) := by
  obtain ⟨v0, v1, n1, n2⟩ := both_end (z := z) (by omega) (by omega) he
  have a1 := near_rnd n1 hc
  have a2 := near_rnd n2 hs
  have b := near_quarter a1 a2
  have ec : ∀ x : Int, -(65536 * x) = 65536 * -x := by intro x; omega
  rw [ec] at b
  have d := near_quarter b.1 b.2
  rw [ec] at d
  have f := near_quarter d.1 d.2
  rw [ec, Int.neg_neg] at f
  have g := near_quarter f.1 f.2
  rw [ec, Int.neg_neg] at g
  have hq5 : q = 0 ∨ q = 1 ∨ q = 2 ∨ q = 3 ∨ q = 4 := by omega
  rcases hq5 with r | r | r | r | r
  · refine ⟨z - v, by omega, by omega, ?_, ?_⟩ <;> rw [if_neg (by omega), if_neg (by omega), if_neg (by omega)]
    · exact near_wide a1 (by decide)
    · exact near_wide a2 (by decide)
  · refine ⟨z - v + 2 ^ 46, by omega, by omega, ?_, ?_⟩ <;> rw [if_pos r]
    · exact near_wide b.1 (by decide)
    · exact near_wide b.2 (by decide)
  · refine ⟨z - v + 2 ^ 46 + 2 ^ 46, by omega, by omega, ?_, ?_⟩ <;> rw [if_neg (by omega), if_pos r]
    · exact near_wide d.1 (by decide)
    · exact near_wide d.2 (by decide)
  · refine ⟨z - v + 2 ^ 46 + 2 ^ 46 + 2 ^ 46, by omega, by omega, ?_, ?_⟩ <;> rw [if_neg (by omega), if_neg (by omega), if_pos r]
    · exact near_wide f.1 (by decide)
    · exact near_wide f.2 (by decide)
  · refine ⟨z - v + 2 ^ 46 + 2 ^ 46 + 2 ^ 46 + 2 ^ 46, by omega, by omega, ?_, ?_⟩ <;> rw [if_neg (by omega), if_neg (by omega), if_neg (by omega)]
    · exact near_wide g.1 (by decide)
    · exact near_wide g.2 (by decide)
/-- Sine and cosine lie on the circle. -/
theorem pt_circle {u s c : Int} (h : Pt u s c) : s * s + c * c - 18446744073709551616 ≤ 34359738368 ∧ -34359738368 ≤ s * s + c * c - 18446744073709551616 := by
  obtain ⟨M, _, _, h1, h2⟩ := h
  have hn := e_one M
  have hb := e_bd M
  have c1 : ((65536 * c : Int) : Rat) = 65536 * (c : Rat) := Rat.intCast_mul 65536 c
  have c2 : ((65536 * s : Int) : Rat) = 65536 * (s : Rat) := Rat.intCast_mul 65536 s
  have c3 : ((36870 : Int) : Rat) = 36870 := rfl
  have c4 : (t48 : Rat) = 281474976710656 := rfl
  unfold Near at h1 h2
  rw [c1, c3] at h1
  rw [c2, c3] at h2
  have e1 : ((s * s + c * c - 18446744073709551616 : Int) : Rat) = (s : Rat) * s + (c : Rat) * c - 18446744073709551616 := by
    rw [Rat.intCast_sub, Rat.intCast_add, Rat.intCast_mul, Rat.intCast_mul]; rfl
  unfold G.nrm at hn
  generalize (e M).re = C at *
  generalize (e M).im = S at *
  obtain ⟨f, hf⟩ : ∃ f, f = 65536 * (c : Rat) - (t48 : Rat) * C := ⟨_, rfl⟩
  obtain ⟨g, hg⟩ : ∃ g, g = 65536 * (s : Rat) - (t48 : Rat) * S := ⟨_, rfl⟩
  rw [← hf] at h1
  rw [← hg] at h2
  have a1 := mul_bd h1.1 h1.2 hb.1 hb.2.1 (by grind) (by grind)
  have a2 := mul_bd h2.1 h2.2 hb.2.2.1 hb.2.2.2 (by grind) (by grind)
  have a3 := mul_bd h1.1 h1.2 h1.1 h1.2 (by grind) (by grind)
  have a4 := mul_bd h2.1 h2.2 h2.1 h2.2 (by grind) (by grind)
  have e2 : 4294967296 * ((s : Rat) * s + (c : Rat) * c) = (t48 : Rat) * t48 * (C * C + S * S) + 2 * (t48 : Rat) * (f * C + g * S) + (f * f + g * g) := by grind
  rw [hn, c4] at e2
  constructor <;> refine le_cast ?_ <;> rw [e1]
  · have : ((34359738368 : Int) : Rat) = 34359738368 := rfl
    rw [this]
    grind
  · have : ((-34359738368 : Int) : Rat) = -34359738368 := rfl
    rw [this]
    grind
theorem sq_gt {s : Int} (h : s * s ≤ 18446744073709551616 + 34359738368) : s ≤ 4294967304 ∧ -4294967304 ≤ s := by
  constructor
  · by_cases g : s ≤ 4294967304
    · exact g
    · exfalso
      have := Int.mul_le_mul (show (4294967305 : Int) ≤ s by omega) (show (4294967305 : Int) ≤ s by omega) (by decide) (by omega)
      omega
  · by_cases g : -4294967304 ≤ s
    · exact g
    · exfalso
      have := Int.mul_le_mul (show (4294967305 : Int) ≤ -s by omega) (show (4294967305 : Int) ≤ -s by omega) (by decide) (by omega)
      rw [Int.neg_mul_neg] at this
      omega
theorem pt_le {u s c : Int} (h : Pt u s c) : (s ≤ 4294967304 ∧ -4294967304 ≤ s) ∧ c ≤ 4294967304 ∧ -4294967304 ≤ c := by
  have h1 := pt_circle h
  have h2 : 0 ≤ s * s := by rcases Int.le_total 0 s with g | g; exact Int.mul_nonneg g g; exact Int.mul_nonneg_of_nonpos_of_nonpos g g
  have h3 : 0 ≤ c * c := by rcases Int.le_total 0 c with g | g; exact Int.mul_nonneg g g; exact Int.mul_nonneg_of_nonpos_of_nonpos g g
  exact ⟨sq_gt (by omega), sq_gt (by omega)⟩
theorem lam_48 : (t48 : Rat) * lam = 25736 / 4096 := by
  have h := lam_mul
  have h2 : (k60 : Rat) = 4096 * (t48 : Rat) := Rat.intCast_mul 4096 t48
  have h3 : (k25 : Rat) = 25736 := rfl
  rw [h2, h3] at h
  grind
/-- Angles that are near have numbers that are near. -/
theorem near_step {a b m n D E F : Int} (f : G → Rat) (hf : ∀ {m n D : Int}, m - n ≤ D → n - m ≤ D → -((D : Rat) * lam) ≤ f (e m) - f (e n) ∧ f (e m) - f (e n) ≤ (D : Rat) * lam) (h1 : Near a (f (e m)) D) (h2 : Near b (f (e n)) E) (g1 : m - n ≤ F) (g2 : n - m ≤ F) : 4096 * (a - b) ≤ 25736 * F + 4096 * (D + E) ∧ 4096 * (b - a) ≤ 25736 * F + 4096 * (D + E) := by
  have h := hf g1 g2
  have hl := lam_48
  have ht : (0 : Rat) ≤ (t48 : Rat) := cast_le (a := 0) (by decide)
  unfold Near at h1 h2
  have k1 := Rat.mul_le_mul_of_nonneg_left h.1 ht
  have k2 := Rat.mul_le_mul_of_nonneg_left h.2 ht
  have e0 : (t48 : Rat) * ((F : Rat) * lam) = (F : Rat) * (25736 / 4096) := by rw [← hl]; grind
  have e0' : (t48 : Rat) * (-((F : Rat) * lam)) = -((F : Rat) * (25736 / 4096)) := by rw [← hl]; grind
  rw [e0] at k2
  rw [e0'] at k1
  have e1 : ((4096 * (a - b) : Int) : Rat) = 4096 * ((a : Rat) - (b : Rat)) := by rw [Rat.intCast_mul, Rat.intCast_sub]; rfl
  have e2 : ((4096 * (b - a) : Int) : Rat) = 4096 * ((b : Rat) - (a : Rat)) := by rw [Rat.intCast_mul, Rat.intCast_sub]; rfl
  have e3 : ((25736 * F + 4096 * (D + E) : Int) : Rat) = 25736 * (F : Rat) + 4096 * ((D : Rat) + (E : Rat)) := by rw [Rat.intCast_add, Rat.intCast_mul, Rat.intCast_mul, Rat.intCast_add]; rfl
  constructor <;> refine le_cast ?_ <;> (first | rw [e1, e3] | rw [e2, e3]) <;> grind
theorem pt_step1 {u v s c t d k : Int} (h1 : Pt u s c) (h2 : Pt v t d) (hk : 0 ≤ k) (hv : v = u + k ∨ v = u + k - 4294967296) : (s - t ≤ 7 * k + 16 ∧ t - s ≤ 7 * k + 16) ∧ (c - d ≤ 7 * k + 16 ∧ d - c ≤ 7 * k + 16) := by
  obtain ⟨M, m1, m2, m3, m4⟩ := h1
  obtain ⟨N, n1, n2, n3, n4⟩ := h2
  rcases hv with hv | hv
  · have r1 := near_step (F := 65536 * k + 41724) (fun g => g.re) (fun p q => ⟨(e_near p q).1, (e_near p q).2.1⟩) m3 n3 (by omega) (by omega)
    have r2 := near_step (F := 65536 * k + 41724) (fun g => g.im) (fun p q => ⟨(e_near p q).2.2.1, (e_near p q).2.2.2⟩) m4 n4 (by omega) (by omega)
    omega
  · have ht := turn N
    have h4 := tiny_48
    have n5 := near_to n3 (d := (e (N + 2 ^ 48)).re) (t := 4 * tiny) (by grind) (by grind) h4
    have n6 := near_to n4 (d := (e (N + 2 ^ 48)).im) (t := 4 * tiny) (by grind) (by grind) h4
    have r1 := near_step (F := 65536 * k + 41724) (fun g => g.re) (fun p q => ⟨(e_near p q).1, (e_near p q).2.1⟩) m3 n5 (by omega) (by omega)
    have r2 := near_step (F := 65536 * k + 41724) (fun g => g.im) (fun p q => ⟨(e_near p q).2.2.1, (e_near p q).2.2.2⟩) m4 n6 (by omega) (by omega)
    omega
/-- Near 1 cosines are great. -/
theorem cos_pos {n : Int} (h0 : -35184373137408 ≤ n) (h1 : n ≤ 35184373137408) : 1 / 5 ≤ (e n).re := by
  have h := (e_near (m := n) (n := 0) (D := 35184373137408) (by omega) (by omega)).1
  have h2 : (e 0).re = 1 := rfl
  have hl := lam_mul
  have e1 : ((35184373137408 : Int) : Rat) = 35184373137408 := rfl
  have e2 : (k60 : Rat) = 1152921504606846976 := rfl
  have e3 : (k25 : Rat) = 25736 := rfl
  rw [h2, e1] at h
  rw [e2, e3] at hl
  grind
theorem om_nn : 0 ≤ om.im ∧ 0 ≤ om.re ∧ om.re ≤ 1 := by
  have h1 : (0 : Int) ≤ orb := by decide +kernel
  have h2 : (0 : Int) ≤ ora := by decide +kernel
  have h3 : ora ≤ orr := by decide +kernel
  have g1 : (0 : Rat) ≤ (orb : Rat) := cast_le (a := 0) h1
  have g2 : (0 : Rat) ≤ (ora : Rat) := cast_le (a := 0) h2
  have g3 := cast_le h3
  have hr := orr_pos
  simp only [om]
  generalize (ora : Rat) = a at *
  generalize (orb : Rat) = b at *
  generalize (orr : Rat) = r at *
  have hn : r ≠ 0 := by grind
  have e1 : r * (a / r) = a := by grind
  have e2 : r * (b / r) = b := by grind
  refine ⟨of_mul hr ?_, of_mul hr ?_, of_mul hr ?_⟩
  · rw [e2]; grind
  · rw [e1]; grind
  · rw [e1]; grind
theorem sin_nn1 (n : Nat) (h : (n : Int) ≤ 35184373137408) : 0 ≤ (e n).im := by
  induction n with
  | zero => exact (by decide : (0 : Rat) ≤ (e 0).im)
  | succ n ih =>
    have h1 := ih (by omega)
    have h2 := cos_pos (n := n) (by omega) (by omega)
    have h3 : ((n + 1 : Nat) : Int) = (n : Int) + 1 := by omega
    have ho := om_nn
    rw [h3, e_succ]
    simp only [G.mul]
    have a1 := Rat.mul_nonneg (show 0 ≤ (e n).re by grind) ho.1
    have a2 := Rat.mul_nonneg h1 ho.2.1
    grind
theorem sin_nn2 {n : Int} (h0 : 0 ≤ n) (h1 : n ≤ 35184373137408) : 0 ≤ (e n).im := by
  have h := sin_nn1 n.toNat (by omega)
  have : (n.toNat : Int) = n := by omega
  rw [this] at h
  exact h
theorem sin_nn {n : Int} (h0 : 0 ≤ n) (h1 : n ≤ 140737488355328) : -(4 * tiny) ≤ (e n).im := by
  have ht := tiny_nn
  by_cases g1 : n ≤ 35184372088832
  · have := sin_nn2 h0 (by omega)
    grind
  · by_cases g2 : n ≤ 105553116266496
    · have h := quarter (n - 2 ^ 46)
      have e1 : n - 2 ^ 46 + 2 ^ 46 = n := by omega
      rw [e1] at h
      have := cos_pos (n := n - 2 ^ 46) (by omega) (by omega)
      grind
    · have h := halfturn (n - 2 ^ 47)
      have e1 : n - 2 ^ 47 + 2 ^ 47 = n := by omega
      rw [e1] at h
      have h2 := sin_nn2 (n := 2 ^ 47 - n) (by omega) (by omega)
      have h3 := e_neg (2 ^ 47 - n)
      have e2 : -(2 ^ 47 - n) = n - 2 ^ 47 := by omega
      rw [e2] at h3
      have h4 : (e (n - 2 ^ 47)).im = -(e (2 ^ 47 - n)).im := by rw [h3]; rfl
      grind
/-- In the first half of a turn sines are no less than 0, nearly. -/
theorem pt_first {u s c : Int} (h : Pt u s c) (h0 : 0 ≤ u) (h1 : u ≤ 2147483648) : -8 ≤ s := by
  obtain ⟨M, m1, m2, _, m4⟩ := h
  have hm : ∃ N : Int, 0 ≤ N ∧ N ≤ 140737488355328 ∧ N - M ≤ 20862 ∧ M - N ≤ 20862 := by
    by_cases g : M < 0
    · exact ⟨0, by omega⟩
    · by_cases g2 : 140737488355328 < M
      · exact ⟨140737488355328, by omega⟩
      · exact ⟨M, by omega⟩
  obtain ⟨N, n0, n1, n2, n3⟩ := hm
  have hs := sin_nn n0 n1
  have hd := e_near n3 n2
  have hl := lam_48
  have ht : (0 : Rat) ≤ (t48 : Rat) := cast_le (a := 0) (by decide)
  have h4 := tiny_48
  have k1 := Rat.mul_le_mul_of_nonneg_left hd.2.2.1 ht
  have k2 := Rat.mul_le_mul_of_nonneg_left hs ht
  have e1 : ((1 : Int) : Rat) = 1 := rfl
  have e2 : ((20862 : Int) : Rat) = 20862 := rfl
  have e3 : ((36870 : Int) : Rat) = 36870 := rfl
  have e4 : ((-167963 : Int) : Rat) = -167963 := rfl
  unfold Near at m4
  rw [e1] at h4
  rw [e2] at k1
  rw [e3] at m4
  have : -167963 ≤ 65536 * s := by
    refine le_cast ?_
    rw [e4]
    grind
  omega
/-- In the second half they are no greater. -/
theorem pt_second {u s c : Int} (h : Pt u s c) (h0 : 2147483648 ≤ u) (h1 : u ≤ 4294967296) : s ≤ 8 := by
  obtain ⟨M, m1, m2, _, m4⟩ := h
  have hm : ∃ N : Int, 0 ≤ N ∧ N ≤ 140737488355328 ∧ N + 140737488355328 - M ≤ 20862 ∧ M - (N + 140737488355328) ≤ 20862 := by
    by_cases g : M < 140737488355328
    · exact ⟨0, by omega⟩
    · by_cases g2 : 281474976710656 < M
      · exact ⟨140737488355328, by omega⟩
      · exact ⟨M - 140737488355328, by omega⟩
  obtain ⟨N, n0, n1, n2, n3⟩ := hm
  have hs := sin_nn n0 n1
  have hd := e_near n3 n2
  have hh := halfturn N
  have e0 : N + 2 ^ 47 = N + 140737488355328 := by omega
  rw [e0] at hh
  have hl := lam_48
  have ht : (0 : Rat) ≤ (t48 : Rat) := cast_le (a := 0) (by decide)
  have h4 := tiny_48
  have hn := tiny_nn
  have k1 := Rat.mul_le_mul_of_nonneg_left hd.2.2.2 ht
  have k2 := Rat.mul_le_mul_of_nonneg_left (show (e (N + 140737488355328)).im ≤ 2 * (4 * tiny) by grind) ht
  have e1 : ((1 : Int) : Rat) = 1 := rfl
  have e2 : ((20862 : Int) : Rat) = 20862 := rfl
  have e3 : ((36870 : Int) : Rat) = 36870 := rfl
  have e4 : ((167964 : Int) : Rat) = 167964 := rfl
  unfold Near at m4
  rw [e1] at h4
  rw [e2] at k1
  rw [e3] at m4
  have : 65536 * s ≤ 167964 := by
    refine le_cast ?_
    rw [e4]
    grind
  omega
/-- The steps by which y comes to 0. -/
def aq : Nat → Int × Int × Int → Int × Int × Int
  | 0, s => s
  | k + 1, s => if 0 < (aq k s).2.1 then ((aq k s).1 + (aq k s).2.1 / 2 ^ k, (aq k s).2.1 - (aq k s).1 / 2 ^ k, (aq k s).2.2 + aa k)
    else ((aq k s).1 - (aq k s).2.1 / 2 ^ k, (aq k s).2.1 + (aq k s).1 / 2 ^ k, (aq k s).2.2 - aa k)
def ab : Nat → Int
  | 0 => 0
  | k + 1 => ab k + aa k
theorem ab_bd : ∀ k, k < 33 → 0 ≤ ab k ∧ ab k ≤ 105553116266496 := by decide +kernel
theorem aq_z (a b : Int) (k : Nat) (hk : k ≤ 32) : -(ab k) ≤ (aq k (a, b, 0)).2.2 ∧ (aq k (a, b, 0)).2.2 ≤ ab k := by
  induction k with
  | zero => simp [aq, ab]
  | succ k ih =>
    obtain ⟨i1, i2⟩ := ih (by omega)
    have ha := (aa_bd (k := k) (by omega)).1
    simp only [aq, ab]
    (repeat' split) <;> simp only [] <;> omega
/-- How far from the line a point may still be behind some steps. -/
theorem aq_y {a b : Int} (ha : 0 ≤ a) (hb : 0 ≤ b) (k : Nat) : (aq (k + 1) (a, b, 0)).2.1 * 2 ^ (k + 1) ≤ 2 * ((aq (k + 1) (a, b, 0)).1 + k * 2 ^ (k + 1)) ∧ -((aq (k + 1) (a, b, 0)).2.1 * 2 ^ (k + 1)) ≤ 2 * ((aq (k + 1) (a, b, 0)).1 + k * 2 ^ (k + 1)) := by
  induction k with
  | zero =>
    have e0 : aq (0 + 1) (a, b, 0) = if 0 < b then (a + b / 2 ^ 0, b - a / 2 ^ 0, 0 + aa 0) else (a - b / 2 ^ 0, b + a / 2 ^ 0, 0 - aa 0) := rfl
    have e1 : (2 : Int) ^ 0 = 1 := rfl
    have e2 : (2 : Int) ^ (0 + 1) = 2 := rfl
    rw [e0, e1, e2]
    by_cases h : 0 < b
    · rw [if_pos h]; simp only [Int.ediv_one]; omega
    · rw [if_neg h]; simp only [Int.ediv_one]; omega
  | succ k ih =>
    obtain ⟨i1, i2⟩ := ih
    rw [aq]
    generalize (aq (k + 1) (a, b, 0)).1 = x at *
    generalize (aq (k + 1) (a, b, 0)).2.1 = y at *
    have hT : (0 : Int) < 2 ^ (k + 1) := Int.pow_pos (by decide)
    have e1 : (2 : Int) ^ (k + 1 + 1) = 2 * 2 ^ (k + 1) := by rw [Int.pow_succ (2 : Int) (k + 1)]; omega
    have e2 : ((k + 1 : Nat) : Int) = (k : Int) + 1 := by omega
    rw [e1, e2]
    generalize (2 : Int) ^ (k + 1) = T at *
    have q1 : T * (x / T) ≤ x := Int.mul_ediv_self_le (by omega)
    have q2 : x < T * (x / T) + T := Int.lt_mul_ediv_self_add hT
    have q3 : T * (y / T) ≤ y := Int.mul_ediv_self_le (by omega)
    have q4 : y < T * (y / T) + T := Int.lt_mul_ediv_self_add hT
    have p0 : 0 ≤ (k : Int) * T := Int.mul_nonneg (by omega) (by omega)
    have e3 : ((k : Int) + 1) * (2 * T) = 2 * (k * T) + 2 * T := by grind
    have e4 : ∀ u : Int, u * (2 * T) = 2 * (u * T) := by intro u; grind
    rw [e3]
    split
    · rename_i h
      have p1 : 0 ≤ y / T := Int.ediv_nonneg (by omega) (by omega)
      simp only []
      rw [e4, Int.sub_mul, Int.mul_comm (x / T) T]
      have p2 : 0 ≤ y * T := Int.mul_nonneg (by omega) (by omega)
      omega
    · rename_i h
      have p1 : y / T ≤ 0 := by
        by_cases g : y / T ≤ 0
        · exact g
        · exfalso
          have := Int.mul_le_mul_of_nonneg_left (show 1 ≤ y / T by omega) (show 0 ≤ T by omega)
          omega
      simp only []
      rw [e4, Int.add_mul, Int.mul_comm (x / T) T]
      have p2 : y * T ≤ 0 := Int.mul_nonpos_of_nonpos_of_nonneg (by omega) (by omega)
      omega
def pa : Int × Int := (72057594037927936, 1152921504606846976)
theorem pa_is : ∀ k, k < 33 → 2 * t46 ≤ (bd k pa).1 ∧ 2 * (bd k pa).2 ≤ 4611686018427387904 := by decide +kernel
theorem pa_end : 36028797018963968 ≤ (bd 32 pa).1 ∧ (bd 32 pa).2 ≤ 2305843009213693952 := by decide +kernel
theorem back_run {a b M : Int} {r : Rat} (r0 : 0 ≤ r) (r1 : r ≤ 1 / 2) (h0 : ((72057594037927936 : Int) : Rat) ≤ (rot a b M).re) (h1 : (rot a b M).re ≤ ((1152921504606846976 : Int) : Rat))
    (h2 : -(r * (rot a b M).re) ≤ (rot a b M).im) (h3 : (rot a b M).im ≤ r * (rot a b M).re) : ∀ k, k ≤ 32 →
    (((bd k pa).1 : Rat) ≤ (rot (aq k (a, b, 0)).1 (aq k (a, b, 0)).2.1 (M - (aq k (a, b, 0)).2.2)).re ∧ (rot (aq k (a, b, 0)).1 (aq k (a, b, 0)).2.1 (M - (aq k (a, b, 0)).2.2)).re ≤ ((bd k pa).2 : Rat)) ∧
    (-((r + (k : Rat) * (8 * eps)) * (rot (aq k (a, b, 0)).1 (aq k (a, b, 0)).2.1 (M - (aq k (a, b, 0)).2.2)).re) ≤ (rot (aq k (a, b, 0)).1 (aq k (a, b, 0)).2.1 (M - (aq k (a, b, 0)).2.2)).im ∧ (rot (aq k (a, b, 0)).1 (aq k (a, b, 0)).2.1 (M - (aq k (a, b, 0)).2.2)).im ≤ (r + (k : Rat) * (8 * eps)) * (rot (aq k (a, b, 0)).1 (aq k (a, b, 0)).2.1 (M - (aq k (a, b, 0)).2.2)).re) := by
  have hz : M - (aq 0 (a, b, 0)).2.2 = M := by
    show M - 0 = M
    omega
  refine chain (X := fun k => (aq k (a, b, 0)).1) (Y := fun k => (aq k (a, b, 0)).2.1) (N := fun k => M - (aq k (a, b, 0)).2.2) (sg := fun k => if 0 < (aq k (a, b, 0)).2.1 then -1 else 1) (p := pa) ?_ ?_ ?_ ?_ ?_ r0 r1 ?_ ?_
  · intro k _; split <;> simp
  · intro k _; simp only [aq]; split <;> simp only [] <;> grind
  · intro k _; simp only [aq]; split <;> simp only [] <;> grind
  · intro k _; simp only [aq]; split <;> simp only [] <;> grind
  · intro k hk; exact (pa_is k (by omega)).1
  · simp only [hz]
    exact ⟨h0, h1⟩
  · simp only [hz]
    exact ⟨h2, h3⟩
/-- Sines of small angles are no less than a part of them. -/
theorem om_more : (1 : Rat) / (t48 : Rat) ≤ 1 / 5 * om.im - (1 - om.re) := by
  have h : 5 * orr ≤ t48 * (orb - 5 * (orr - ora)) := by decide +kernel
  have h2 : (5 : Rat) * (orr : Rat) ≤ (t48 : Rat) * ((orb : Rat) - 5 * ((orr : Rat) - (ora : Rat))) := by exact_mod_cast h
  have hr := orr_pos
  have ht : (0 : Rat) < (t48 : Rat) := Rat.intCast_lt_intCast.mpr (show (0 : Int) < t48 by decide)
  simp only [om]
  generalize (ora : Rat) = a at *
  generalize (orb : Rat) = b at *
  generalize (orr : Rat) = r at *
  generalize (t48 : Rat) = t at *
  have hn : r ≠ 0 := by grind
  have hm : t ≠ 0 := by grind
  refine of_mul hr (of_mul ht ?_)
  have e1 : t * (r * (1 / t)) = r := by grind
  have e2 : t * (r * (1 / 5 * (b / r) - (1 - a / r))) = t * (1 / 5 * b - (r - a)) := by grind
  rw [e1, e2]
  grind
theorem sin_more1 (n : Nat) (h : (n : Int) ≤ 35184373137408) : (n : Rat) * (1 / (t48 : Rat)) ≤ (e n).im := by
  induction n with
  | zero =>
    have : ((0 : Nat) : Rat) = 0 := rfl
    rw [this]
    have : (e ((0 : Nat) : Int)).im = 0 := rfl
    rw [this]
    grind
  | succ n ih =>
    have h1 := ih (by omega)
    have h2 := cos_pos (n := n) (by omega) (by omega)
    have h3 : ((n + 1 : Nat) : Int) = (n : Int) + 1 := by omega
    have h4 : ((n + 1 : Nat) : Rat) = (n : Rat) + 1 := by exact_mod_cast rfl
    have ho := om_nn
    have hm := om_more
    have hb := e_bd n
    rw [h3, e_succ, h4]
    simp only [G.mul]
    have a1 := Rat.mul_le_mul_of_nonneg_right h2 ho.1
    have a2 := Rat.mul_le_mul_of_nonneg_right hb.2.2.2 (show 0 ≤ 1 - om.re by grind)
    grind
theorem sin_more {n : Int} (h0 : 0 ≤ n) (h1 : n ≤ 35184373137408) : (n : Rat) ≤ (t48 : Rat) * (e n).im := by
  have h := sin_more1 n.toNat (by omega)
  have e1 : (n.toNat : Int) = n := by omega
  have e2 : ((n.toNat : Int) : Rat) = (n.toNat : Rat) := rfl
  rw [← e2, e1] at h
  have ht : (0 : Rat) < (t48 : Rat) := Rat.intCast_lt_intCast.mpr (show (0 : Int) < t48 by decide)
  have := Rat.mul_le_mul_of_nonneg_left h (Rat.le_of_lt ht)
  have e3 : (t48 : Rat) * ((n : Rat) * (1 / (t48 : Rat))) = (n : Rat) := by
    generalize (t48 : Rat) = t at *
    have : t ≠ 0 := by grind
    grind
  rw [e3] at this
  exact this
theorem cos_le {n : Int} (h0 : 35184372088832 ≤ n) (h1 : n ≤ 140737488355328) : (e n).re ≤ 4 / 5 := by
  have ht := tiny_nn
  have ht2 := tiny_t
  have ht3 : (t58 : Rat) = 288230376151711744 := rfl
  rw [ht3] at ht2
  by_cases g2 : n ≤ 105553116266496
  · have h := quarter (n - 2 ^ 46)
    have e1 : n - 2 ^ 46 + 2 ^ 46 = n := by omega
    rw [e1] at h
    have h3 := (e_near (m := n - 2 ^ 46) (n := 0) (D := 35184372088832) (by omega) (by omega)).2.2.1
    have h2 : (e 0).im = 0 := rfl
    have hl := lam_mul
    have e1 : ((35184372088832 : Int) : Rat) = 35184372088832 := rfl
    have e2 : (k60 : Rat) = 1152921504606846976 := rfl
    have e3 : (k25 : Rat) = 25736 := rfl
    rw [h2, e1] at h3
    rw [e2, e3] at hl
    grind
  · have h := halfturn (n - 2 ^ 47)
    have e1 : n - 2 ^ 47 + 2 ^ 47 = n := by omega
    rw [e1] at h
    have := cos_pos (n := n - 2 ^ 47) (by omega) (by omega)
    grind
theorem e_conj (n : Int) : (e (-n)).re = (e n).re ∧ (e (-n)).im = -(e n).im := by
  rw [e_neg]
  exact ⟨rfl, rfl⟩
theorem small1 {n : Int} (h0 : 0 ≤ n) (h1 : n ≤ 140737488355328) (hc : 4 / 5 < (e n).re) (hs : (t48 : Rat) * (e n).im ≤ ((262146 : Int) : Rat)) : n ≤ 262146 := by
  by_cases g : n ≤ 35184372088832
  · have := sin_more h0 (by omega)
    refine le_cast ?_
    grind
  · exfalso
    have := cos_le (n := n) (by omega) h1
    grind
theorem small2 {n : Int} (h0 : -140737488355328 ≤ n) (h1 : n ≤ 140737488355328) (hc : 4 / 5 < (e n).re) (hs : (t48 : Rat) * (e n).im ≤ ((262146 : Int) : Rat)) (hs2 : -((262146 : Int) : Rat) ≤ (t48 : Rat) * (e n).im) : n ≤ 262146 ∧ -262146 ≤ n := by
  rcases Int.le_total 0 n with g | g
  · have := small1 g h1 hc hs
    omega
  · obtain ⟨c1, c2⟩ := e_conj n
    have := small1 (n := -n) (by omega) (by omega) (by rw [c1]; exact hc) (by rw [c2]; grind)
    omega
/-- A number of the circle near 1 belongs to an angle near whole turns. -/
theorem small {n : Int} (h0 : -422212465065984 ≤ n) (h1 : n ≤ 422212465065984) (hc : 9 / 10 ≤ (e n).re) (hs : (t48 : Rat) * (e n).im ≤ ((262144 : Int) : Rat)) (hs2 : -((262144 : Int) : Rat) ≤ (t48 : Rat) * (e n).im) :
    ∃ j : Int, n - j * 281474976710656 ≤ 262146 ∧ -262146 ≤ n - j * 281474976710656 := by
  have h4 := tiny_48
  have ht := tiny_nn
  have ht2 := tiny_t
  have ht3 : (t58 : Rat) = 288230376151711744 := rfl
  have ht4 : (0 : Rat) ≤ (t48 : Rat) := cast_le (a := 0) (by decide)
  rw [ht3] at ht2
  have e1 : ((1 : Int) : Rat) = 1 := rfl
  have e2 : ((262144 : Int) : Rat) = 262144 := rfl
  have e3 : ((262146 : Int) : Rat) = 262146 := rfl
  rw [e1] at h4
  rw [e2] at hs hs2
  by_cases g1 : n < -140737488355328
  · have h := turn n
    have k1 := Rat.mul_le_mul_of_nonneg_left h.2.2.1 ht4
    have k2 := Rat.mul_le_mul_of_nonneg_left h.2.2.2 ht4
    have := small2 (n := n + 2 ^ 48) (by omega) (by omega) (by grind) (by rw [e3]; grind) (by rw [e3]; grind)
    exact ⟨-1, by omega, by omega⟩
  · by_cases g2 : 140737488355328 < n
    · have h := turn (n - 2 ^ 48)
      have e4 : n - 2 ^ 48 + 2 ^ 48 = n := by omega
      rw [e4] at h
      have k1 := Rat.mul_le_mul_of_nonneg_left h.2.2.1 ht4
      have k2 := Rat.mul_le_mul_of_nonneg_left h.2.2.2 ht4
      have := small2 (n := n - 2 ^ 48) (by omega) (by omega) (by grind) (by rw [e3]; grind) (by rw [e3]; grind)
      exact ⟨1, by omega, by omega⟩
    · have := small2 (n := n) (by omega) (by omega) (by grind) (by rw [e3]; grind) (by rw [e3]; grind)
      exact ⟨0, by omega, by omega⟩
theorem aq_y' {a b T K : Int} {m k : Nat} (ha : 0 ≤ a) (hb : 0 ≤ b) (hm : m = k + 1) (hK : K = k) (hT : T = 2 ^ m) : (aq m (a, b, 0)).2.1 * T ≤ 2 * ((aq m (a, b, 0)).1 + K * T) ∧ -((aq m (a, b, 0)).2.1 * T) ≤ 2 * ((aq m (a, b, 0)).1 + K * T) := by
  subst hT hm hK
  exact aq_y ha hb k
theorem back_end {a b M x y z : Int} {r : Rat} (ha : 0 ≤ a) (hb : 0 ≤ b) (r0 : 0 ≤ r) (r1 : (t48 : Rat) * r ≤ 75000) (h0 : ((72057594037927936 : Int) : Rat) ≤ (rot a b M).re) (h1 : (rot a b M).re ≤ ((1152921504606846976 : Int) : Rat))
    (h2 : -(r * (rot a b M).re) ≤ (rot a b M).im) (h3 : (rot a b M).im ≤ r * (rot a b M).re) (he : aq 32 (a, b, 0) = (x, y, z)) :
    9 / 10 ≤ (e (M - z)).re ∧ (t48 : Rat) * (e (M - z)).im ≤ ((262144 : Int) : Rat) ∧ -((262144 : Int) : Rat) ≤ (t48 : Rat) * (e (M - z)).im := by
  have c4 : (t48 : Rat) = 281474976710656 := rfl
  have rh : r ≤ 1 / 2 := by rw [c4] at r1; grind
  have hr := back_run r0 rh h0 h1 h2 h3 32 (by decide)
  have hy : (aq 32 (a, b, 0)).2.1 * 4294967296 ≤ 2 * ((aq 32 (a, b, 0)).1 + 31 * 4294967296) ∧ -((aq 32 (a, b, 0)).2.1 * 4294967296) ≤ 2 * ((aq 32 (a, b, 0)).1 + 31 * 4294967296) := aq_y' (k := 31) (K := 31) (T := 4294967296) ha hb rfl rfl rfl
  have hp := pa_end
  rw [he] at hr
  rw [he] at hy
  simp only [] at hr hy
  obtain ⟨⟨q1, q2⟩, q3, q4⟩ := hr
  have p1 := cast_le hp.1
  obtain ⟨ux, uy⟩ := unrot x y (M - z)
  have hbd := e_bd (M - z)
  have hn := e_one (M - z)
  have y1 := cast_le (show y * 4294967296 ≤ 2 * (x + 133143986176) by omega)
  have y2 := cast_le (show -(y * 4294967296) ≤ 2 * (x + 133143986176) by omega)
  have x1 := cast_le (show 0 ≤ x + 133143986176 by omega)
  have d1 : ((y * 4294967296 : Int) : Rat) = (y : Rat) * 4294967296 := Rat.intCast_mul _ _
  have d2 : ((2 * (x + 133143986176) : Int) : Rat) = 2 * ((x : Rat) + 133143986176) := by rw [Rat.intCast_mul, Rat.intCast_add]; rfl
  have d3 : ((-(y * 4294967296) : Int) : Rat) = -((y : Rat) * 4294967296) := by rw [Rat.intCast_neg, Rat.intCast_mul]; rfl
  have d4 : ((x + 133143986176 : Int) : Rat) = (x : Rat) + 133143986176 := Rat.intCast_add _ _
  have d5 : ((0 : Int) : Rat) = 0 := rfl
  have d6 : ((36028797018963968 : Int) : Rat) = 36028797018963968 := rfl
  have d7 : ((262144 : Int) : Rat) = 262144 := rfl
  have d8 : ((32 : Nat) : Rat) = 32 := rfl
  rw [d1, d2] at y1
  rw [d3, d2] at y2
  rw [d4, d5] at x1
  rw [d6] at p1
  rw [d8] at q3 q4
  rw [d7]
  have ht := eps_t
  have hE := eps_pos
  have c5 : (t48 : Rat) = 4 * (t46 : Rat) := Rat.intCast_mul 4 t46
  have hrr : (t48 : Rat) * (r + 32 * (8 * eps)) ≤ 76024 := by
    have : (t48 : Rat) * (r + 32 * (8 * eps)) = (t48 : Rat) * r + 1024 * (eps * (t46 : Rat)) := by rw [c5]; grind
    rw [this, ht]
    grind
  have hr0 : 0 ≤ r + 32 * (8 * eps) := by grind
  clear d1 d2 d3 d4 d5 d6 d7 d8 hp he c5 ht r1 rh h0 h1 h2 h3 hy q2
  generalize r + 32 * (8 * eps) = R at *
  unfold G.nrm at hn
  generalize ((bd 32 pa).1 : Rat) = L at *
  generalize (rot x y (M - z)).re = X at *
  generalize (rot x y (M - z)).im = Y at *
  generalize (e (M - z)).re = C at *
  generalize (e (M - z)).im = S at *
  have hX : 36028797018963968 ≤ X := by grind
  have hX0 : 0 < X := by grind
  have hRX := Rat.mul_nonneg hr0 (Rat.le_of_lt hX0)
  have hRX2 := Rat.mul_le_mul_of_nonneg_right hrr (Rat.le_of_lt hX0)
  rw [c4] at hRX2
  rw [c4]
  have hRX3 : R * X ≤ X / 1048576 := by grind
  have b1 := mul_bd q3 q4 hbd.1 hbd.2.1 hRX (by grind)
  have b2 := mul_bd q3 q4 hbd.2.2.1 hbd.2.2.2 hRX (by grind)
  have b3 := mul_bd (show -X ≤ X by grind) (show X ≤ X by grind) hbd.1 hbd.2.1 (Rat.le_of_lt hX0) (by grind)
  have s1 : X * (281474976710656 * S) ≤ X * 262144 := by grind
  have s2 : X * -262144 ≤ X * (281474976710656 * S) := by grind
  have s3 := of_mul hX0 s1
  have s4 := of_mul hX0 s2
  refine ⟨?_, s3, s4⟩
  have s5 := mul_bd (show -(1 / 1048576) ≤ S by grind) (show S ≤ 1 / 1048576 by grind) (show -(1 / 1048576) ≤ S by grind) (show S ≤ 1 / 1048576 by grind) (by grind) (by grind)
  by_cases g : 9 / 10 ≤ C
  · exact g
  · exfalso
    by_cases g2 : -(9 / 10) ≤ C
    · have := mul_bd g2 (show C ≤ 9 / 10 by grind) g2 (show C ≤ 9 / 10 by grind) (by grind) (by grind)
      grind
    · have := Rat.mul_le_mul_of_nonneg_left (show C ≤ -(9 / 10) by grind) (Rat.le_of_lt hX0)
      grind
theorem start_near {c s M P a b : Int} (ha : a = P * c) (hb : b = P * s) (h1 : Near (65536 * c) (e M).re 36880) (h2 : Near (65536 * s) (e M).im 36880) (p0 : 16778240 ≤ P) (p1 : P ≤ 134217728) :
    (((72057594037927936 : Int) : Rat) ≤ (rot a b M).re ∧ (rot a b M).re ≤ ((1152921504606846976 : Int) : Rat)) ∧ -((75000 / (t48 : Rat)) * (rot a b M).re) ≤ (rot a b M).im ∧ (rot a b M).im ≤ (75000 / (t48 : Rat)) * (rot a b M).re := by
  have c4 : (t48 : Rat) = 281474976710656 := rfl
  have c1 : ((65536 * c : Int) : Rat) = 65536 * (c : Rat) := Rat.intCast_mul 65536 c
  have c2 : ((65536 * s : Int) : Rat) = 65536 * (s : Rat) := Rat.intCast_mul 65536 s
  have c3 : ((36880 : Int) : Rat) = 36880 := rfl
  have c5 : ((72057594037927936 : Int) : Rat) = 72057594037927936 := rfl
  have c6 : ((1152921504606846976 : Int) : Rat) = 1152921504606846976 := rfl
  have ca : (a : Rat) = (P : Rat) * (c : Rat) := by rw [ha]; exact Rat.intCast_mul _ _
  have cb : (b : Rat) = (P : Rat) * (s : Rat) := by rw [hb]; exact Rat.intCast_mul _ _
  have g0 := cast_le p0
  have g1 := cast_le p1
  have c7 : ((16778240 : Int) : Rat) = 16778240 := rfl
  have c8 : ((134217728 : Int) : Rat) = 134217728 := rfl
  rw [c7] at g0
  rw [c8] at g1
  have hbd := e_bd M
  have hn := e_one M
  unfold Near at h1 h2
  rw [c1, c3] at h1
  rw [c2, c3] at h2
  have er : e (-M) = (e M).conj := e_neg M
  unfold rot
  rw [er, c5, c6, ca, cb]
  simp only [G.mul, G.conj, G.nrm] at *
  rw [c4] at h1 h2
  rw [c4]
  clear c1 c2 c3 c4 c5 c6 c7 c8 ca cb ha hb er p0 p1
  generalize (e M).re = C at *
  generalize (e M).im = S at *
  generalize (P : Rat) = P at *
  generalize (c : Rat) = c at *
  generalize (s : Rat) = s at *
  obtain ⟨f, hf⟩ : ∃ f, f = 65536 * c - 281474976710656 * C := ⟨_, rfl⟩
  obtain ⟨g, hg⟩ : ∃ g, g = 65536 * s - 281474976710656 * S := ⟨_, rfl⟩
  rw [← hf] at h1
  rw [← hg] at h2
  have a1 := mul_bd h1.1 h1.2 hbd.1 hbd.2.1 (by grind) (by grind)
  have a2 := mul_bd h2.1 h2.2 hbd.2.2.1 hbd.2.2.2 (by grind) (by grind)
  have a3 := mul_bd h1.1 h1.2 hbd.2.2.1 hbd.2.2.2 (by grind) (by grind)
  have a4 := mul_bd h2.1 h2.2 hbd.1 hbd.2.1 (by grind) (by grind)
  have e1 : 65536 * (P * c * C - P * s * -S) = P * (281474976710656 + (f * C + g * S)) := by grind
  have e2 : 65536 * (P * c * -S + P * s * C) = P * (g * C - f * S) := by grind
  obtain ⟨u, hu⟩ : ∃ u, u = f * C + g * S := ⟨_, rfl⟩
  obtain ⟨v, hv⟩ : ∃ v, v = g * C - f * S := ⟨_, rfl⟩
  rw [← hu] at e1
  rw [← hv] at e2
  have u1 : -73760 ≤ u ∧ u ≤ 73760 := by constructor <;> grind
  have v1 : -73760 ≤ v ∧ v ≤ 73760 := by constructor <;> grind
  clear a1 a2 a3 a4 hu hv hf hg h1 h2 hbd hn
  generalize P * c * C - P * s * -S = X at *
  generalize P * c * -S + P * s * C = Y at *
  have k1 := Rat.mul_le_mul_of_nonneg_left (show 281474976710656 - 73760 ≤ 281474976710656 + u by grind) (show 0 ≤ P by grind)
  have k2 := Rat.mul_le_mul_of_nonneg_left (show 281474976710656 + u ≤ 281474976710656 + 73760 by grind) (show 0 ≤ P by grind)
  have k3 := Rat.mul_le_mul_of_nonneg_left v1.1 (show 0 ≤ P by grind)
  have k4 := Rat.mul_le_mul_of_nonneg_left v1.2 (show 0 ≤ P by grind)
  refine ⟨⟨?_, ?_⟩, ?_, ?_⟩ <;> grind
/-- The angle that the steps find is near the one of the point. -/
theorem back_is {c s M P x y z : Int} (hc : 0 ≤ c) (hs : 0 ≤ s) (h1 : Near (65536 * c) (e M).re 36880) (h2 : Near (65536 * s) (e M).im 36880) (p0 : 16778240 ≤ P) (p1 : P ≤ 134217728) (m0 : -281474976810656 ≤ M) (m1 : M ≤ 281474976810656)
    (he : aq 32 (P * c, P * s, 0) = (x, y, z)) : ∃ j : Int, M - z - j * 281474976710656 ≤ 262146 ∧ -262146 ≤ M - z - j * 281474976710656 := by
  obtain ⟨⟨g1, g2⟩, g3, g4⟩ := start_near rfl rfl h1 h2 p0 p1
  have c4 : (t48 : Rat) = 281474976710656 := rfl
  have hz := aq_z (P * c) (P * s) 32 (by decide)
  rw [he] at hz
  simp only [] at hz
  have hb := ab_bd 32 (by decide)
  obtain ⟨r1, r2, r3⟩ := back_end (Int.mul_nonneg (by omega) hc) (Int.mul_nonneg (by omega) hs) (show (0 : Rat) ≤ 75000 / (t48 : Rat) by rw [c4]; grind) (by rw [c4]; grind) g1 g2 g3 g4 he
  exact small (by omega) (by omega) r1 r2 r3
theorem run_bd {x y n L H : Int} {r : Rat} (hL : 0 ≤ L) (r1 : r ≤ 1) (h : ((L : Rat) ≤ (rot x y n).re ∧ (rot x y n).re ≤ (H : Rat)) ∧ -(r * (rot x y n).re) ≤ (rot x y n).im ∧ (rot x y n).im ≤ r * (rot x y n).re) : -(2 * H) ≤ x ∧ x ≤ 2 * H ∧ -(2 * H) ≤ y ∧ y ≤ 2 * H := by
  obtain ⟨⟨h1, h2⟩, h3, h4⟩ := h
  have h0 : (0 : Rat) ≤ (L : Rat) := cast_le (a := 0) hL
  have hX : 0 ≤ (rot x y n).re := by grind
  have := Rat.mul_le_mul_of_nonneg_right r1 hX
  exact unrot_bd hX h2 (by grind) (by grind)
theorem eps_k {k : Nat} (hk : k ≤ 32) : 0 ≤ (k : Rat) * (8 * eps) ∧ (k : Rat) * (8 * eps) ≤ 1 / 4 := by
  have h1 : (k : Rat) ≤ 32 := by exact_mod_cast hk
  have h0 : (0 : Rat) ≤ (k : Rat) := by exact_mod_cast (Nat.zero_le k)
  have hE := eps_pos
  have hE2 := eps_small
  have a1 := Rat.mul_nonneg h0 (Rat.le_of_lt hE)
  have a2 := Rat.mul_le_mul_of_nonneg_right h1 (Rat.le_of_lt hE)
  constructor <;> grind
theorem bq_bd {z : Int} (h0 : -35184372088832 ≤ z) (h1 : z ≤ 35184372088832) {k : Nat} (hk : k ≤ 32) : (-1125899906842624 ≤ (bq k (170926505739102, 0, z)).1 ∧ (bq k (170926505739102, 0, z)).1 ≤ 1125899906842624) ∧ (-1125899906842624 ≤ (bq k (170926505739102, 0, z)).2.1 ∧ (bq k (170926505739102, 0, z)).2.1 ≤ 1125899906842624) ∧ -35184372088832 ≤ (bq k (170926505739102, 0, z)).2.2 ∧ (bq k (170926505739102, 0, z)).2.2 ≤ 35184372088832 := by
  have he := eps_k hk
  have hp := pb_is k (by omega)
  have ht : (0 : Int) ≤ 2 * t46 := by decide
  have h := run_bd (by omega) (by grind) (both_run h0 h1 k hk)
  have hz := bq_z (s := (170926505739102, 0, z)) h0 h1 k hk
  omega
theorem aq_bd {a b M : Int} {r : Rat} (r0 : 0 ≤ r) (r1 : r ≤ 1 / 2) (h0 : ((72057594037927936 : Int) : Rat) ≤ (rot a b M).re) (h1 : (rot a b M).re ≤ ((1152921504606846976 : Int) : Rat))
    (h2 : -(r * (rot a b M).re) ≤ (rot a b M).im) (h3 : (rot a b M).im ≤ r * (rot a b M).re) {k : Nat} (hk : k ≤ 32) :
    (-4611686018427387904 ≤ (aq k (a, b, 0)).1 ∧ (aq k (a, b, 0)).1 ≤ 4611686018427387904) ∧ (-4611686018427387904 ≤ (aq k (a, b, 0)).2.1 ∧ (aq k (a, b, 0)).2.1 ≤ 4611686018427387904) ∧ -105553116266496 ≤ (aq k (a, b, 0)).2.2 ∧ (aq k (a, b, 0)).2.2 ≤ 105553116266496 := by
  have he := eps_k hk
  have hp := pa_is k (by omega)
  have ht : (0 : Int) ≤ 2 * t46 := by decide
  have h := run_bd (by omega) (by grind) (back_run r0 r1 h0 h1 h2 h3 k hk)
  have hz := aq_z a b k hk
  have hb := ab_bd k (by omega)
  omega
/-- The same, of a point that belongs to an angle. -/
theorem aq_bd2 {c s M P : Int} (h1 : Near (65536 * c) (e M).re 36880) (h2 : Near (65536 * s) (e M).im 36880) (p0 : 16778240 ≤ P) (p1 : P ≤ 134217728) {k : Nat} (hk : k ≤ 32) :
    (-4611686018427387904 ≤ (aq k (P * c, P * s, 0)).1 ∧ (aq k (P * c, P * s, 0)).1 ≤ 4611686018427387904) ∧ (-4611686018427387904 ≤ (aq k (P * c, P * s, 0)).2.1 ∧ (aq k (P * c, P * s, 0)).2.1 ≤ 4611686018427387904) ∧ -105553116266496 ≤ (aq k (P * c, P * s, 0)).2.2 ∧ (aq k (P * c, P * s, 0)).2.2 ≤ 105553116266496 := by
  obtain ⟨⟨g1, g2⟩, g3, g4⟩ := start_near rfl rfl h1 h2 p0 p1
  have c4 : (t48 : Rat) = 281474976710656 := rfl
  exact aq_bd (show (0 : Rat) ≤ 75000 / (t48 : Rat) by rw [c4]; grind) (by rw [c4]; grind) g1 g2 g3 g4 hk
/-- The angle of both is the angle. u: the angle; c, s: its cosine and sine; v: what Atan's steps tell of both without their signs. -/
theorem pt_back {u s c P x y z v d : Int} (h : Pt u s c) (u0 : 0 ≤ u) (u1 : u < 4294967296) (p0 : 16778240 ≤ P) (p1 : P ≤ 134217728)
    (he : aq 32 (P * (if c < 0 then -c else c), P * (if s < 0 then -s else s), 0) = (x, y, z)) (hv : v = (z + 32768) / 65536)
    (hd : d = ((if c < 0 then (if s < 0 then 2147483648 + v else 2147483648 - v) else if s < 0 then -v else v) % 4294967296 - u) % 4294967296) : d ≤ 8 ∨ 4294967288 ≤ d := by
  obtain ⟨M, m1, m2, m3, m4⟩ := h
  have ec : ∀ x : Int, -(65536 * x) = 65536 * -x := by intro x; omega
  have hh := halfturn (M - 2 ^ 47)
  have e1 : M - 2 ^ 47 + 2 ^ 47 = M := by omega
  rw [e1] at hh
  have h4 := tiny_48
  have ht := tiny_nn
  have h48 : (t48 : Rat) * (2 * tiny) ≤ ((1 : Int) : Rat) := by
    have h2 : (0 : Rat) ≤ (t48 : Rat) := cast_le (a := 0) (by decide)
    have := Rat.mul_nonneg h2 ht
    grind
  have hcj := e_conj (M - 2 ^ 47)
  have hcm := e_conj M
  have e2 : -(M - 2 ^ 47) = 2 ^ 47 - M := by omega
  rw [e2] at hcj
  by_cases hc : c < 0
  · by_cases hs : s < 0
    · simp only [hc, hs, if_true] at he hd
      have k1 := near_to (near_neg m3) (d := (e (M - 2 ^ 47)).re) (t := 2 * tiny) (by grind) (by grind) h48
      have k2 := near_to (near_neg m4) (d := (e (M - 2 ^ 47)).im) (t := 2 * tiny) (by grind) (by grind) h48
      rw [ec] at k1 k2
      obtain ⟨j, j1, j2⟩ := back_is (by omega) (by omega) (near_wide k1 (by decide)) (near_wide k2 (by decide)) p0 p1 (by omega) (by omega) he
      omega
    · simp only [hc, hs, if_true, if_false] at he hd
      have k1 := near_to (near_neg m3) (d := (e (2 ^ 47 - M)).re) (t := 2 * tiny) (by grind) (by grind) h48
      have k2 := near_to m4 (d := (e (2 ^ 47 - M)).im) (t := 2 * tiny) (by grind) (by grind) h48
      rw [ec] at k1
      obtain ⟨j, j1, j2⟩ := back_is (by omega) (by omega) (near_wide k1 (by decide)) (near_wide k2 (by decide)) p0 p1 (by omega) (by omega) he
      omega
  · by_cases hs : s < 0
    · simp only [hc, hs, if_true, if_false] at he hd
      have k1 : Near (65536 * c) (e (-M)).re 36870 := by rw [hcm.1]; exact m3
      have k2 := near_neg m4
      rw [← hcm.2, ec] at k2
      obtain ⟨j, j1, j2⟩ := back_is (by omega) (by omega) (near_wide k1 (by decide)) (near_wide k2 (by decide)) p0 p1 (by omega) (by omega) he
      omega
    · simp only [hc, hs, if_false] at he hd
      obtain ⟨j, j1, j2⟩ := back_is (by omega) (by omega) (near_wide m3 (by decide)) (near_wide m4 (by decide)) p0 p1 (by omega) (by omega) he
      omega
/-- The point without signs belongs to an angle, too. -/
theorem pt_abs {u s c : Int} (h : Pt u s c) : ∃ M : Int, Near (65536 * (if c < 0 then -c else c)) (e M).re 36880 ∧ Near (65536 * (if s < 0 then -s else s)) (e M).im 36880 := by
  obtain ⟨M, m1, m2, m3, m4⟩ := h
  have ec : ∀ x : Int, -(65536 * x) = 65536 * -x := by intro x; omega
  have hh := halfturn (M - 2 ^ 47)
  have e1 : M - 2 ^ 47 + 2 ^ 47 = M := by omega
  rw [e1] at hh
  have h4 := tiny_48
  have ht := tiny_nn
  have h48 : (t48 : Rat) * (2 * tiny) ≤ ((1 : Int) : Rat) := by
    have h2 : (0 : Rat) ≤ (t48 : Rat) := cast_le (a := 0) (by decide)
    have := Rat.mul_nonneg h2 ht
    grind
  have hcj := e_conj (M - 2 ^ 47)
  have hcm := e_conj M
  have e2 : -(M - 2 ^ 47) = 2 ^ 47 - M := by omega
  rw [e2] at hcj
  by_cases hc : c < 0
  · by_cases hs : s < 0
    · rw [if_pos hc, if_pos hs]
      have k1 := near_to (near_neg m3) (d := (e (M - 2 ^ 47)).re) (t := 2 * tiny) (by grind) (by grind) h48
      have k2 := near_to (near_neg m4) (d := (e (M - 2 ^ 47)).im) (t := 2 * tiny) (by grind) (by grind) h48
      rw [ec] at k1 k2
      exact ⟨_, near_wide k1 (by decide), near_wide k2 (by decide)⟩
    · rw [if_pos hc, if_neg hs]
      have k1 := near_to (near_neg m3) (d := (e (2 ^ 47 - M)).re) (t := 2 * tiny) (by grind) (by grind) h48
      have k2 := near_to m4 (d := (e (2 ^ 47 - M)).im) (t := 2 * tiny) (by grind) (by grind) h48
      rw [ec] at k1
      exact ⟨_, near_wide k1 (by decide), near_wide k2 (by decide)⟩
  · by_cases hs : s < 0
    · rw [if_neg hc, if_pos hs]
      have k1 : Near (65536 * c) (e (-M)).re 36870 := by rw [hcm.1]; exact m3
      have k2 := near_neg m4
      rw [← hcm.2, ec] at k2
      exact ⟨_, near_wide k1 (by decide), near_wide k2 (by decide)⟩
    · rw [if_neg hc, if_neg hs]
      exact ⟨_, near_wide m3 (by decide), near_wide m4 (by decide)⟩

end Go.Proofs.YtnbicphpchnkbaaDoor.Circ
