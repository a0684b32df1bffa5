/- Contracts of Go functions: each call returns what the Lean function of its name tells, and memory below is as it was. Laid by a program of this project out of the kit's print of the Go functions. -/
import Derived.Test.YtnbicphpchnkbaaDoorB0
import Derived.Test.YtnbicphpchnkbaaDoorNum
import Derived.Laws.Rows
import Derived.Laws.PanicsMore
import Derived.LoopTactic
namespace Go.Proofs.YtnbicphpchnkbaaDoor.B
open Go.RowKit Go.Proofs.YtnbicphpchnkbaaDoorW.PrintWords Go.Proofs.YtnbicphpchnkbaaDoorW.PrintLast Go.Proofs.YtnbicphpchnkbaaDoorW.PrintMore
attribute [local go_sem] max2_int min2_int max_two min_two max_three min_three max_four min_four
set_option linter.unusedVariables false
set_option linter.unusedSimpArgs false

/-! ### trig_Angle: function 13 -/
def trig_Angle.f (a0 : Int) : Option (Int) := some (Go.bits .and .i64 a0 4294967295)
set_option maxHeartbeats 8000000 in
set_option maxRecDepth 100000 in
theorem trig_Angle.calls (a0 : Int) (r : Int) (w : World) (h : trig_Angle.f a0 = some r) :
    Calls Tryd.prog 13 #[.int .i64 a0] w fun e w' => e = .returned (.int .i64 r) ∧ Drawn0 w w' := by
  have H : (some (Go.bits .and .i64 a0 4294967295)) = some r := h
  clear h
  obtain rfl := Option.some.inj H
  go_enter Tryd.func13, Tryd.ntmps13
  go_wp2
  go_ret
  exact ⟨by first | rfl | (simp; done) | (simp [*]; done), by repeat (first | exact Drawn0.refl _ | apply Drawn0.step)⟩


/-! ### trig_round: function 23 -/
def trig_round.f (a0 : Int) : Option (Int) := some ((wrap64 (a0 + 32768)) / 65536)
set_option maxHeartbeats 8000000 in
set_option maxRecDepth 100000 in
theorem trig_round.calls (a0 : Int) (r : Int) (w : World) (h : trig_round.f a0 = some r) :
    Calls Tryd.prog 23 #[.int .i64 a0] w fun e w' => e = .returned (.int .i64 r) ∧ Drawn0 w w' := by
  have H : (some ((wrap64 (a0 + 32768)) / 65536)) = some r := h
  clear h
  obtain rfl := Option.some.inj H
  go_enter Tryd.func23, Tryd.ntmps23
  go_wp2
  go_ret
  exact ⟨by first | rfl | (simp; done) | (simp [*]; done), by repeat (first | exact Drawn0.refl _ | apply Drawn0.step)⟩


/-! ### trig_Both: function 11 -/
/-- The steps' angles. -/
def ang : List Int := [35184372088832, 20770547670515, 10974586953444, 5570871696862, 2796246208089, 1399486241028, 699913886760, 349978300884, 174991820497, 87496244017, 43748163730, 21874087080, 10937044192, 5468522177, 2734261099, 1367130551, 683565276, 341782638, 170891319, 85445659, 42722830, 21361415, 10680707, 5340354, 2670177, 1335088, 667544, 333772, 166886, 83443, 41722, 20861]
def angV : Array Value := (ang.map fun n => Value.int .i64 n).toArray
/-- The table lies in memory as the text lays it. -/
def Glob (w : World) : Prop := ∃ t fr, w.heap[0]? = some (.cells angV t fr)
theorem glob_below {w w' : World} (h : Aside0 (Glob w)) (hb : Below w.heap.size w w') : Glob w' := by
  obtain ⟨t, fr, hg⟩ := h.out
  exact ⟨t, fr, (hb.block 0 (blk_lt hg)).trans hg⟩

/-- One round of the turn by z. -/
def bstep (k : Nat) (s : Int × Int × Int) : Int × Int × Int :=
  if 0 ≤ s.2.2 then (wrap64 (s.1 - s.2.1 / 2 ^ k), wrap64 (s.2.1 + s.1 / 2 ^ k), wrap64 (s.2.2 - ang.getD k 0))
  else (wrap64 (s.1 + s.2.1 / 2 ^ k), wrap64 (s.2.1 - s.1 / 2 ^ k), wrap64 (s.2.2 + ang.getD k 0))
def brun : Nat → Int × Int × Int → Int × Int × Int
  | 0, s => s
  | k + 1, s => bstep k (brun k s)
/-- One round that brings b to 0. -/
def astep (k : Nat) (s : Int × Int × Int) : Int × Int × Int :=
  if 0 < s.2.1 then (wrap64 (s.1 + s.2.1 / 2 ^ k), wrap64 (s.2.1 - s.1 / 2 ^ k), wrap64 (s.2.2 + ang.getD k 0))
  else (wrap64 (s.1 - s.2.1 / 2 ^ k), wrap64 (s.2.1 + s.1 / 2 ^ k), wrap64 (s.2.2 - ang.getD k 0))
def arun : Nat → Int × Int × Int → Int × Int × Int
  | 0, s => s
  | k + 1, s => astep k (arun k s)
theorem ang_len : ang.length = 32 := rfl
theorem ang_at (k : Nat) (hk : k < 32) : angV[k]? = some (.int .i64 (ang.getD k 0)) := by
  have h : k < ang.length := hk
  unfold angV
  rw [List.getElem?_toArray, List.getElem?_map, List.getElem?_eq_getElem h, List.getD_eq_getElem?_getD, List.getElem?_eq_getElem h]
  rfl
theorem angle_bd {a u : Int} (h : trig_Angle.f a = some u) : 0 ≤ u ∧ u ≤ 4294967295 := by
  unfold trig_Angle.f at h
  have e := Num.band64 a 32 (by decide)
  have p : (2 : Int) ^ 32 = 4294967296 := by decide
  rw [p] at e
  have h2 := Option.some.inj h
  have h3 : a % 4294967296 = u := by rw [← h2]; exact e.symm
  omega
/-- What the quarter makes of cosine and sine. -/
def bres (q c s : Int) : Int × Int := if q = 1 then (c, wrap64 (-s)) else if q = 2 then (wrap64 (-s), wrap64 (-c)) else if q = 3 then (wrap64 (-c), s) else (s, c)
def bstart (u : Int) : Int × Int × Int := (170926505739102, 0, (u - (u + 536870912) / 1073741824 * 1073741824) * 65536)

theorem glob_drewN {w : World} (n : Nat) (h : Glob w) : Glob (w.drewN n) := h
theorem glob_drew {w : World} (h : Glob w) : Glob w.drew := h
theorem index_ang (k : Nat) (hk : k < 32) (W : World) : (Instr.index 38 (.agg angV) (.int .i64 (k : Int))).run Tryd.prog W = .ok (.int .i64 (ang.getD k 0)) W := by
  have hn : 0 ≤ (k : Int) ∧ (k : Int) < 32 := by omega
  have ha := ang_at k hk
  simp [Instr.index, run_underlying Tryd.underlying38, asIntOf, hn, hk, go_sem]
  rw [ha]
  simp [go_sem]

def trig_Both.f (a0 : Int) : Option (Int × Int) := (trig_Angle.f a0).bind fun u => (trig_round.f (brun 32 (bstart u)).1).bind fun c => (trig_round.f (brun 32 (bstart u)).2.1).bind fun s => some (bres ((u + 536870912) / 1073741824) c s)
set_option maxHeartbeats 4000000 in
set_option maxRecDepth 100000 in
theorem trig_Both.calls (a0 : Int) (r1 : Int) (r2 : Int) (w : World) (h : trig_Both.f a0 = some (r1, r2)) (HG : Aside0 (Glob w)) :
    Calls Tryd.prog 11 #[.int .i64 a0] w fun e w' => e = .returned (.tuple #[.int .i64 r1, .int .i64 r2]) ∧ Drawn0 w w' := by
  unfold trig_Both.f at h
  obtain ⟨u, A20, h⟩ := Option.bind_eq_some_iff.mp h
  obtain ⟨c, A30, h⟩ := Option.bind_eq_some_iff.mp h
  obtain ⟨s, A40, h⟩ := Option.bind_eq_some_iff.mp h
  obtain ⟨u0, u1⟩ := angle_bd A20
  have A2 := Aside0.mk A20
  have A3 := Aside0.mk A30
  have A4 := Aside0.mk A40
  have HR := Aside0.mk (Option.some.inj h)
  clear A20 A30 A40 h
  obtain ⟨t, fr, hg0⟩ := HG.out
  have hg := Aside0.mk hg0
  clear hg0 HG
  go_enter Tryd.func11, Tryd.ntmps11
  go_wp2_with (first | ((with_reducible refine gate_callee (f := 13) rfl ?_); refine goesL_ (some 14) rfl rfl Tryd.func13 (by kernel_rfl) rfl #[.int .i64 a0] rfl (by (try simp only [List.map_toArray, List.map_cons, List.map_nil]); first | done | rfl | (simp only [List.length_drop, List.length_take]; rfl)) ?_; (with_reducible refine (trig_Angle.calls a0 u _ A2.out).mono ?_); rintro e w' ⟨rfl, ⟨nd, rfl⟩⟩; refine ⟨_, rfl, ?_⟩) | ((with_reducible refine gate_dst (N := 23) rfl ?_); refine wpList_load_row rfl 38 _ rfl 0 rfl t angV fr _ (by exact hg.out) Tryd.underlying38 rfl (by kernel_rfl) ?_))
  have hidx : ∀ (k : Nat) (hk : k < 32) (W : World), (Instr.index 38 (.agg angV) (.int .i64 (k : Int))).run Tryd.prog W = .ok (.int .i64 (ang.getD k 0)) W := index_ang
  go_loopw [24, 6, 7, 8] (fun i z x y wr => ∃ k : Nat, k ≤ 32 ∧ i = .int .i64 k ∧ x = .int .i64 (brun k (bstart u)).1 ∧ y = .int .i64 (brun k (bstart u)).2.1 ∧ z = .int .i64 (brun k (bstart u)).2.2 ∧ Aside0 (Drawn0 w wr)) (fun i _ _ _ _ => 32 - (intOf i).toNat)
  case atStart => exact ⟨0, by omega, rfl, rfl, rfl, rfl, ⟨by repeat (first | exact Drawn0.refl _ | apply Drawn0.step)⟩⟩
  case round =>
    obtain ⟨k, hk, rfl, rfl, rfl, rfl, HD⟩ := hrel
    by_cases hlt : k < 32
    · have hi := hidx k hlt
      clear hidx
      obtain ⟨x, y, z, hb⟩ : ∃ x y z, brun k (bstart u) = (x, y, z) := ⟨_, _, _, rfl⟩
      have Hb := Aside0.mk hb
      simp only [hb]
      clear hb
      obtain ⟨g, hga⟩ : ∃ g, ang.getD k 0 = g := ⟨_, rfl⟩
      rw [hga] at hi
      have Hg := Aside0.mk hga
      clear hga
      have hq : brun (k + 1) (bstart u) = bstep k (brun k (bstart u)) := rfl
      rw [Hb.out] at hq
      by_cases hz : 0 ≤ z
      · have hs : bstep k (x, y, z) = (wrap64 (x - y / 2 ^ k), wrap64 (y + x / 2 ^ k), wrap64 (z - g)) := by
          unfold bstep
          rw [if_pos hz, Hg.out]
        have Hs := Aside0.mk (hq.trans hs)
        clear hq hs
        go_wp2
        go_quiet (fail)
        go_wp2
        refine ⟨⟨k + 1, by omega, by go_num, ?_, ?_, ?_, ⟨?_⟩⟩, by simp [intOf]; omega⟩
        · rw [Hs.out]
        · rw [Hs.out]
        · rw [Hs.out]
        · repeat (first | exact HD.out | apply Drawn0.step)
      · have hs : bstep k (x, y, z) = (wrap64 (x + y / 2 ^ k), wrap64 (y - x / 2 ^ k), wrap64 (z + g)) := by
          unfold bstep
          rw [if_neg hz, Hg.out]
        have Hs := Aside0.mk (hq.trans hs)
        clear hq hs
        go_wp2
        go_quiet (fail)
        go_wp2
        refine ⟨⟨k + 1, by omega, by go_num, ?_, ?_, ?_, ⟨?_⟩⟩, by simp [intOf]; omega⟩
        · rw [Hs.out]
        · rw [Hs.out]
        · rw [Hs.out]
        · repeat (first | exact HD.out | apply Drawn0.step)
    · obtain rfl : k = 32 := by omega
      clear hidx hlt hk
      obtain ⟨x, hx⟩ : ∃ x, (brun 32 (bstart u)).1 = x := ⟨_, rfl⟩
      obtain ⟨y, hy⟩ : ∃ y, (brun 32 (bstart u)).2.1 = y := ⟨_, rfl⟩
      obtain ⟨z, hz⟩ : ∃ z, (brun 32 (bstart u)).2.2 = z := ⟨_, rfl⟩
      rw [hx] at A3
      rw [hy] at A4
      simp only [hx, hy, hz]
      clear hx hy hz
      obtain ⟨q, hq⟩ : ∃ q, (u + 536870912) / 1073741824 = q := ⟨_, rfl⟩
      rw [hq] at HR
      simp only [hq]
      clear hq
      by_cases q1 : q = 1
      · subst q1
        have hr : (c, wrap64 (-s)) = (r1, r2) := HR.out
        obtain ⟨rfl, rfl⟩ := Prod.mk.inj hr
        clear hr HR
        go_wp2_with (first | ((with_reducible refine gate_callee (f := 23) rfl ?_); refine goesL_ (some 58) rfl rfl Tryd.func23 (by kernel_rfl) rfl #[.int .i64 x] rfl (by (try simp only [List.map_toArray, List.map_cons, List.map_nil]); first | done | rfl | (simp only [List.length_drop, List.length_take]; rfl)) ?_; (with_reducible refine (trig_round.calls x c _ A3.out).mono ?_); rintro e w' ⟨rfl, ⟨nd, rfl⟩⟩; refine ⟨_, rfl, ?_⟩) | ((with_reducible refine gate_callee (f := 23) rfl ?_); refine goesL_ (some 60) rfl rfl Tryd.func23 (by kernel_rfl) rfl #[.int .i64 y] rfl (by (try simp only [List.map_toArray, List.map_cons, List.map_nil]); first | done | rfl | (simp only [List.length_drop, List.length_take]; rfl)) ?_; (with_reducible refine (trig_round.calls y s _ A4.out).mono ?_); rintro e w' ⟨rfl, ⟨nd, rfl⟩⟩; refine ⟨_, rfl, ?_⟩))
        go_ret2
        exact ⟨rfl, by repeat (first | exact HD.out | apply Drawn0.step)⟩
      · by_cases q2 : q = 2
        · subst q2
          have hr : (wrap64 (-s), wrap64 (-c)) = (r1, r2) := HR.out
          obtain ⟨rfl, rfl⟩ := Prod.mk.inj hr
          clear hr HR
          go_wp2_with (first | ((with_reducible refine gate_callee (f := 23) rfl ?_); refine goesL_ (some 58) rfl rfl Tryd.func23 (by kernel_rfl) rfl #[.int .i64 x] rfl (by (try simp only [List.map_toArray, List.map_cons, List.map_nil]); first | done | rfl | (simp only [List.length_drop, List.length_take]; rfl)) ?_; (with_reducible refine (trig_round.calls x c _ A3.out).mono ?_); rintro e w' ⟨rfl, ⟨nd, rfl⟩⟩; refine ⟨_, rfl, ?_⟩) | ((with_reducible refine gate_callee (f := 23) rfl ?_); refine goesL_ (some 60) rfl rfl Tryd.func23 (by kernel_rfl) rfl #[.int .i64 y] rfl (by (try simp only [List.map_toArray, List.map_cons, List.map_nil]); first | done | rfl | (simp only [List.length_drop, List.length_take]; rfl)) ?_; (with_reducible refine (trig_round.calls y s _ A4.out).mono ?_); rintro e w' ⟨rfl, ⟨nd, rfl⟩⟩; refine ⟨_, rfl, ?_⟩))
          go_ret2
          exact ⟨rfl, by repeat (first | exact HD.out | apply Drawn0.step)⟩
        · by_cases q3 : q = 3
          · subst q3
            have hr : (wrap64 (-c), s) = (r1, r2) := HR.out
            obtain ⟨rfl, rfl⟩ := Prod.mk.inj hr
            clear hr HR
            go_wp2_with (first | ((with_reducible refine gate_callee (f := 23) rfl ?_); refine goesL_ (some 58) rfl rfl Tryd.func23 (by kernel_rfl) rfl #[.int .i64 x] rfl (by (try simp only [List.map_toArray, List.map_cons, List.map_nil]); first | done | rfl | (simp only [List.length_drop, List.length_take]; rfl)) ?_; (with_reducible refine (trig_round.calls x c _ A3.out).mono ?_); rintro e w' ⟨rfl, ⟨nd, rfl⟩⟩; refine ⟨_, rfl, ?_⟩) | ((with_reducible refine gate_callee (f := 23) rfl ?_); refine goesL_ (some 60) rfl rfl Tryd.func23 (by kernel_rfl) rfl #[.int .i64 y] rfl (by (try simp only [List.map_toArray, List.map_cons, List.map_nil]); first | done | rfl | (simp only [List.length_drop, List.length_take]; rfl)) ?_; (with_reducible refine (trig_round.calls y s _ A4.out).mono ?_); rintro e w' ⟨rfl, ⟨nd, rfl⟩⟩; refine ⟨_, rfl, ?_⟩))
            go_ret2
            exact ⟨rfl, by repeat (first | exact HD.out | apply Drawn0.step)⟩
          · have hr : (s, c) = (r1, r2) := by
              have := HR.out
              unfold bres at this
              rw [if_neg q1, if_neg q2, if_neg q3] at this
              exact this
            obtain ⟨rfl, rfl⟩ := Prod.mk.inj hr
            have k1 : (q == 1) = false := by simpa using q1
            have k2 : (q == 2) = false := by simpa using q2
            have k3 : (q == 3) = false := by simpa using q3
            clear hr HR q1 q2 q3
            go_wp2_with (first | ((with_reducible refine gate_callee (f := 23) rfl ?_); refine goesL_ (some 58) rfl rfl Tryd.func23 (by kernel_rfl) rfl #[.int .i64 x] rfl (by (try simp only [List.map_toArray, List.map_cons, List.map_nil]); first | done | rfl | (simp only [List.length_drop, List.length_take]; rfl)) ?_; (with_reducible refine (trig_round.calls x c _ A3.out).mono ?_); rintro e w' ⟨rfl, ⟨nd, rfl⟩⟩; refine ⟨_, rfl, ?_⟩) | ((with_reducible refine gate_callee (f := 23) rfl ?_); refine goesL_ (some 60) rfl rfl Tryd.func23 (by kernel_rfl) rfl #[.int .i64 y] rfl (by (try simp only [List.map_toArray, List.map_cons, List.map_nil]); first | done | rfl | (simp only [List.length_drop, List.length_take]; rfl)) ?_; (with_reducible refine (trig_round.calls y s _ A4.out).mono ?_); rintro e w' ⟨rfl, ⟨nd, rfl⟩⟩; refine ⟨_, rfl, ?_⟩))
            go_ret2
            exact ⟨rfl, by repeat (first | exact HD.out | apply Drawn0.step)⟩



/-! ### trig_Sin: function 15 -/
def trig_Sin.f (a0 : Int) : Option (Int) := (trig_Both.f a0).bind fun bt104 => (some bt104.1)
set_option maxHeartbeats 8000000 in
set_option maxRecDepth 100000 in
theorem trig_Sin.calls (a0 : Int) (r : Int) (w : World) (h : trig_Sin.f a0 = some r) (HG : Aside0 (Glob w)) :
    Calls Tryd.prog 15 #[.int .i64 a0] w fun e w' => e = .returned (.int .i64 r) ∧ Drawn0 w w' := by
  have H : ((trig_Both.f a0).bind fun bt104 => (some bt104.1)) = some r := h
  clear h
  replace H := Option.bind_eq_some_iff.mp H
  obtain ⟨⟨t104, t105⟩, A20, H⟩ := H
  replace H : (some t104) = some r := H
  have A2 := Aside0.mk A20
  clear A20
  obtain rfl := Option.some.inj H
  go_enter Tryd.func15, Tryd.ntmps15
  go_wp2_with (first | ((with_reducible refine gate_callee (f := 11) rfl ?_); refine goesL_ (some 7) rfl rfl Tryd.func11 (by kernel_rfl) rfl #[.int .i64 a0] rfl (by (try simp only [List.map_toArray, List.map_cons, List.map_nil]); first | done | rfl | (simp only [List.length_drop, List.length_take]; rfl)) ?_; (with_reducible refine (trig_Both.calls a0 t104 t105 _ A2.out ⟨(by repeat (first | exact HG.out | apply glob_drewN | apply glob_drew | (refine glob_below HG ?_; repeat (first | (with_reducible first | exact HB.out | apply below_alloc | apply pw_below_drewN | apply below_drew1) | exact HB.out))))⟩).mono ?_); rintro e w' ⟨rfl, ⟨nd, rfl⟩⟩; refine ⟨_, rfl, ?_⟩))
  go_ret
  exact ⟨by first | rfl | (simp; done) | (simp [*]; done), by repeat (first | exact Drawn0.refl _ | apply Drawn0.step)⟩


/-! ### trig_Cos: function 16 -/
def trig_Cos.f (a0 : Int) : Option (Int) := (trig_Both.f a0).bind fun bt106 => (some bt106.2)
set_option maxHeartbeats 8000000 in
set_option maxRecDepth 100000 in
theorem trig_Cos.calls (a0 : Int) (r : Int) (w : World) (h : trig_Cos.f a0 = some r) (HG : Aside0 (Glob w)) :
    Calls Tryd.prog 16 #[.int .i64 a0] w fun e w' => e = .returned (.int .i64 r) ∧ Drawn0 w w' := by
  have H : ((trig_Both.f a0).bind fun bt106 => (some bt106.2)) = some r := h
  clear h
  replace H := Option.bind_eq_some_iff.mp H
  obtain ⟨⟨t106, t107⟩, A20, H⟩ := H
  replace H : (some t107) = some r := H
  have A2 := Aside0.mk A20
  clear A20
  obtain rfl := Option.some.inj H
  go_enter Tryd.func16, Tryd.ntmps16
  go_wp2_with (first | ((with_reducible refine gate_callee (f := 11) rfl ?_); refine goesL_ (some 7) rfl rfl Tryd.func11 (by kernel_rfl) rfl #[.int .i64 a0] rfl (by (try simp only [List.map_toArray, List.map_cons, List.map_nil]); first | done | rfl | (simp only [List.length_drop, List.length_take]; rfl)) ?_; (with_reducible refine (trig_Both.calls a0 t106 t107 _ A2.out ⟨(by repeat (first | exact HG.out | apply glob_drewN | apply glob_drew | (refine glob_below HG ?_; repeat (first | (with_reducible first | exact HB.out | apply below_alloc | apply pw_below_drewN | apply below_drew1) | exact HB.out))))⟩).mono ?_); rintro e w' ⟨rfl, ⟨nd, rfl⟩⟩; refine ⟨_, rfl, ?_⟩))
  go_ret
  exact ⟨by first | rfl | (simp; done) | (simp [*]; done), by repeat (first | exact Drawn0.refl _ | apply Drawn0.step)⟩


/-! ### fix_within_int: function 37 -/
def fix_within_int.f (a0 : Int) (a1 : Int) (a2 : Int) : Option (Int) := some (mx a1 (mn a0 a2))
set_option maxHeartbeats 8000000 in
set_option maxRecDepth 100000 in
theorem fix_within_int.calls (a0 : Int) (a1 : Int) (a2 : Int) (r : Int) (w : World) (h : fix_within_int.f a0 a1 a2 = some r) :
    Calls Tryd.prog 37 #[.int .i64 a0, .int .i64 a1, .int .i64 a2] w fun e w' => e = .returned (.int .i64 r) ∧ Below w.heap.size w w' := by
  have HB := Aside0.mk (Below.refl w.heap.size w)
  have H : (some (mx a1 (mn a0 a2))) = some r := h
  clear h
  obtain ⟨ji4, hji4⟩ : ∃ j_ : Int, (mn a0 a2) = j_ := ⟨_, rfl⟩
  replace H : (some (mx a1 (ji4))) = some r := by first | (rw [hji4] at H; exact H) | (simp only [hji4] at H ⊢; exact H)
  have hji4_ : (if a2 < a0 then a2 else a0) = ji4 := hji4
  obtain ⟨ji5, hji5⟩ : ∃ j_ : Int, (mx a1 (ji4)) = j_ := ⟨_, rfl⟩
  replace H : (some ji5) = some r := by first | (rw [hji5] at H; exact H) | (simp only [hji5] at H ⊢; exact H)
  have hji5_ : (if a1 < (ji4) then (ji4) else a1) = ji5 := hji5
  obtain rfl := Option.some.inj H
  go_enter Tryd.func37, Tryd.ntmps37
  go_wp2
  go_ret
  exact ⟨by first | rfl | (simp [errW_none, errW_some] <;> rfl) | (simp only [← hji4, ← hji5]; first | rfl | (simp [errW_none, errW_some] <;> rfl)) | (simp [*, errW_none, errW_some] <;> rfl), by repeat (first | (with_reducible first | exact HB.out | apply below_alloc | apply pw_below_drewN | apply below_drew1) | exact HB.out)⟩


/-! ### fix_known: function 34 -/
def fix_known.f (a0 : Int) : Option (Int) := (fix_within_int.f a0 (-288230376151711744) 288230376151711744).bind fun t108 => (some t108)
set_option maxHeartbeats 8000000 in
set_option maxRecDepth 100000 in
theorem fix_known.calls (a0 : Int) (r : Int) (w : World) (h : fix_known.f a0 = some r) :
    Calls Tryd.prog 34 #[.int .i64 a0] w fun e w' => e = .returned (.int .i64 r) ∧ Below w.heap.size w w' := by
  have HB := Aside0.mk (Below.refl w.heap.size w)
  have H : ((fix_within_int.f a0 (-288230376151711744) 288230376151711744).bind fun t108 => (some t108)) = some r := h
  clear h
  replace H := Option.bind_eq_some_iff.mp H
  obtain ⟨t108, A20, H⟩ := H
  replace H : (some t108) = some r := H
  have A2 := Aside0.mk A20
  clear A20
  obtain rfl := Option.some.inj H
  go_enter Tryd.func34, Tryd.ntmps34
  go_wp2_with (first | ((with_reducible refine gate_callee (f := 37) rfl ?_); refine goesL_ (some 4) rfl rfl Tryd.func37 (by kernel_rfl) rfl #[.int .i64 a0, .int .i64 (-288230376151711744), .int .i64 288230376151711744] rfl (by (try simp only [List.map_toArray, List.map_cons, List.map_nil]); first | done | rfl | (simp only [List.length_drop, List.length_take]; rfl)) ?_; (with_reducible refine (fix_within_int.calls a0 (-288230376151711744) 288230376151711744 t108 _ A2.out).mono ?_); rintro e w3 ⟨rfl, hb⟩; refine ⟨_, rfl, ?_⟩; have n0_ := Aside0.mk (below_step (by repeat (first | (with_reducible first | exact HB.out | apply below_alloc | apply pw_below_drewN | apply below_drew1) | exact HB.out)) hb); clear HB; have HB := n0_; clear n0_; (try clear hb); (try clear hb2); (try clear hk); (try clear hi)))
  go_ret
  exact ⟨by first | rfl | (simp [errW_none, errW_some] <;> rfl) | (simp [*, errW_none, errW_some] <;> rfl), by repeat (first | (with_reducible first | exact HB.out | apply below_alloc | apply pw_below_drewN | apply below_drew1) | exact HB.out)⟩


/-! ### fix_Abs: function 26 -/
def fix_Abs.f (a0 : Int) : Option (Int) := (fix_known.f a0).bind fun t109 => ((fix_known.f a0).bind fun t110 => (some (mx t109 (wrap64 (-t110)))))
set_option maxHeartbeats 8000000 in
set_option maxRecDepth 100000 in
theorem fix_Abs.calls (a0 : Int) (r : Int) (w : World) (h : fix_Abs.f a0 = some r) :
    Calls Tryd.prog 26 #[.int .i64 a0] w fun e w' => e = .returned (.int .i64 r) ∧ Below w.heap.size w w' := by
  have HB := Aside0.mk (Below.refl w.heap.size w)
  have H : ((fix_known.f a0).bind fun t109 => ((fix_known.f a0).bind fun t110 => (some (mx t109 (wrap64 (-t110)))))) = some r := h
  clear h
  replace H := Option.bind_eq_some_iff.mp H
  obtain ⟨t109, A20, H⟩ := H
  replace H : ((fix_known.f a0).bind fun t110 => (some (mx t109 (wrap64 (-t110))))) = some r := H
  have A2 := Aside0.mk A20
  clear A20
  replace H := Option.bind_eq_some_iff.mp H
  obtain ⟨t110, A30, H⟩ := H
  replace H : (some (mx t109 (wrap64 (-t110)))) = some r := H
  have A3 := Aside0.mk A30
  clear A30
  obtain ⟨ji4, hji4⟩ : ∃ j_ : Int, (mx t109 (wrap64 (-t110))) = j_ := ⟨_, rfl⟩
  replace H : (some ji4) = some r := by first | (rw [hji4] at H; exact H) | (simp only [hji4] at H ⊢; exact H)
  (try rw [hji4] at A2)
  (try rw [hji4] at A3)
  have hji4_ : (if t109 < (wrap64 (-t110)) then (wrap64 (-t110)) else t109) = ji4 := hji4
  obtain rfl := Option.some.inj H
  go_enter Tryd.func26, Tryd.ntmps26
  go_wp2_with (first | ((with_reducible refine gate_callee (f := 34) rfl ?_); refine goesL_ (some 4) rfl rfl Tryd.func34 (by kernel_rfl) rfl #[.int .i64 a0] rfl (by (try simp only [List.map_toArray, List.map_cons, List.map_nil]); first | done | rfl | (simp only [List.length_drop, List.length_take]; rfl)) ?_; (with_reducible refine (fix_known.calls a0 t109 _ A2.out).mono ?_); rintro e w5 ⟨rfl, hb⟩; refine ⟨_, rfl, ?_⟩; have n0_ := Aside0.mk (below_step (by repeat (first | (with_reducible first | exact HB.out | apply below_alloc | apply pw_below_drewN | apply below_drew1) | exact HB.out)) hb); clear HB; have HB := n0_; clear n0_; (try clear hb); (try clear hb2); (try clear hk); (try clear hi)) | ((with_reducible refine gate_callee (f := 34) rfl ?_); refine goesL_ (some 6) rfl rfl Tryd.func34 (by kernel_rfl) rfl #[.int .i64 a0] rfl (by (try simp only [List.map_toArray, List.map_cons, List.map_nil]); first | done | rfl | (simp only [List.length_drop, List.length_take]; rfl)) ?_; (with_reducible refine (fix_known.calls a0 t110 _ A3.out).mono ?_); rintro e w6 ⟨rfl, hb⟩; refine ⟨_, rfl, ?_⟩; have n0_ := Aside0.mk (below_step (by repeat (first | (with_reducible first | exact HB.out | apply below_alloc | apply pw_below_drewN | apply below_drew1) | exact HB.out)) hb); clear HB; have HB := n0_; clear n0_; (try clear hb); (try clear hb2); (try clear hk); (try clear hi)))
  go_ret
  exact ⟨by first | rfl | (simp [errW_none, errW_some] <;> rfl) | (simp only [← hji4]; first | rfl | (simp [errW_none, errW_some] <;> rfl)) | (simp [*, errW_none, errW_some] <;> rfl), by repeat (first | (with_reducible first | exact HB.out | apply below_alloc | apply pw_below_drewN | apply below_drew1) | exact HB.out)⟩


/-! ### trig_Atan: function 17 -/
theorem abs_bd {a u : Int} (h : fix_Abs.f a = some u) : 0 ≤ u ∧ u ≤ 288230376151711744 := by
  unfold fix_Abs.f fix_known.f fix_within_int.f at h
  simp only [Option.bind_some] at h
  have h2 := Option.some.inj h
  have b : -288230376151711744 ≤ mx (-288230376151711744) (mn a 288230376151711744) ∧ mx (-288230376151711744) (mn a 288230376151711744) ≤ 288230376151711744 := by
    unfold mx mn
    (repeat' split) <;> omega
  generalize mx (-288230376151711744) (mn a 288230376151711744) = c at h2 b
  have w : wrap64 (-c) = -c := by
    unfold wrap64
    omega
  rw [w] at h2
  unfold mx at h2
  split at h2 <;> omega
/-- Both numbers twice as great, until one is great. -/
def dbl : Nat → Int → Int → Int × Int
  | 0, a, b => (a, b)
  | n + 1, a, b => if (if a < b then b else a) < 144115188075855872 then dbl n (a * 2) (b * 2) else (a, b)
theorem dbl_more {a b : Int} (n : Nat) (h : (if a < b then b else a) < 144115188075855872) : dbl (n + 1) a b = dbl n (a * 2) (b * 2) := by
  rw [dbl, if_pos h]
theorem dbl_done {a b : Int} (n : Nat) (h : ¬ (if a < b then b else a) < 144115188075855872) : dbl n a b = (a, b) := by
  cases n with
  | zero => rfl
  | succ n => rw [dbl, if_neg h]
def ares (x y v : Int) : Option Int := if x < 0 then (if y < 0 then trig_Angle.f (wrap64 (2147483648 + v)) else trig_Angle.f (wrap64 (2147483648 - v))) else if y < 0 then trig_Angle.f (wrap64 (-v)) else trig_Angle.f v
def trig_Atan.f (a0 : Int) (a1 : Int) : Option Int := (fix_Abs.f a1).bind fun a => (fix_Abs.f a0).bind fun b => if a + b = 0 then some 0 else (trig_round.f (arun 32 ((dbl 64 a b).1, (dbl 64 a b).2, 0)).2.2).bind fun v => ares a1 a0 v

set_option maxHeartbeats 4000000 in
set_option maxRecDepth 100000 in
theorem atan_zero (a0 a1 : Int) (w : World) (a b : Int) (A2 : Aside0 (fix_Abs.f a1 = some a)) (A3 : Aside0 (fix_Abs.f a0 = some b)) (ha0 : 0 ≤ a) (ha1 : a ≤ 288230376151711744) (hb0 : 0 ≤ b) (hb1 : b ≤ 288230376151711744) (hz : a + b ≤ 0) :
    Calls Tryd.prog 17 #[.int .i64 a0, .int .i64 a1] w fun e w' => e = .returned (.int .i64 0) ∧ Below w.heap.size w w' := by
  have HB := Aside0.mk (Below.refl w.heap.size w)
  go_enter Tryd.func17, Tryd.ntmps17
  go_wp2_with (first | ((with_reducible refine gate_callee (f := 26) rfl ?_); refine goesL_ (some 12) rfl rfl Tryd.func26 (by kernel_rfl) rfl #[.int .i64 a1] rfl (by (try simp only [List.map_toArray, List.map_cons, List.map_nil]); first | done | rfl | (simp only [List.length_drop, List.length_take]; rfl)) ?_; (with_reducible refine (fix_Abs.calls a1 a _ A2.out).mono ?_); rintro e wx ⟨rfl, hb⟩; refine ⟨_, rfl, ?_⟩; have n0_ := Aside0.mk (below_step (by repeat (first | (with_reducible first | exact HB.out | apply below_alloc | apply pw_below_drewN | apply below_drew1) | exact HB.out)) hb); clear HB; have HB := n0_; clear n0_ hb) | ((with_reducible refine gate_callee (f := 26) rfl ?_); refine goesL_ (some 14) rfl rfl Tryd.func26 (by kernel_rfl) rfl #[.int .i64 a0] rfl (by (try simp only [List.map_toArray, List.map_cons, List.map_nil]); first | done | rfl | (simp only [List.length_drop, List.length_take]; rfl)) ?_; (with_reducible refine (fix_Abs.calls a0 b _ A3.out).mono ?_); rintro e wx ⟨rfl, hb⟩; refine ⟨_, rfl, ?_⟩; have n0_ := Aside0.mk (below_step (by repeat (first | (with_reducible first | exact HB.out | apply below_alloc | apply pw_below_drewN | apply below_drew1) | exact HB.out)) hb); clear HB; have HB := n0_; clear n0_ hb))
  go_ret
  exact ⟨rfl, (by repeat (first | (with_reducible first | exact HB.out | apply below_alloc | apply pw_below_drewN | apply below_drew1) | exact HB.out))⟩
set_option maxHeartbeats 8000000 in
set_option maxRecDepth 100000 in
theorem atan_more (a0 a1 r : Int) (w : World) (a b v : Int) (HG : Aside0 (Glob w)) (A2 : Aside0 (fix_Abs.f a1 = some a)) (A3 : Aside0 (fix_Abs.f a0 = some b)) (ha0 : 0 ≤ a) (ha1 : a ≤ 288230376151711744) (hb0 : 0 ≤ b) (hb1 : b ≤ 288230376151711744) (hz : 1 ≤ a + b)
    (A4 : Aside0 (trig_round.f (arun 32 ((dbl 64 a b).1, (dbl 64 a b).2, 0)).2.2 = some v)) (HR : Aside0 (ares a1 a0 v = some r)) :
    Calls Tryd.prog 17 #[.int .i64 a0, .int .i64 a1] w fun e w' => e = .returned (.int .i64 r) ∧ Below w.heap.size w w' := by
  have HB := Aside0.mk (Below.refl w.heap.size w)
  obtain ⟨t, fr, hg0⟩ := HG.out
  have hg := Aside0.mk hg0
  clear hg0 HG
  have hsum : (a + b == 0) = false := by
    simp
    omega
  have Hidx := Aside0.mk (fun k hk W => index_ang k hk W)
  go_enter Tryd.func17, Tryd.ntmps17
  go_wp2_with (first | ((with_reducible refine gate_callee (f := 26) rfl ?_); refine goesL_ (some 12) rfl rfl Tryd.func26 (by kernel_rfl) rfl #[.int .i64 a1] rfl (by (try simp only [List.map_toArray, List.map_cons, List.map_nil]); first | done | rfl | (simp only [List.length_drop, List.length_take]; rfl)) ?_; (with_reducible refine (fix_Abs.calls a1 a _ A2.out).mono ?_); rintro e wx ⟨rfl, hb⟩; refine ⟨_, rfl, ?_⟩; have n0_ := Aside0.mk (below_step (by repeat (first | (with_reducible first | exact HB.out | apply below_alloc | apply pw_below_drewN | apply below_drew1) | exact HB.out)) hb); clear HB; have HB := n0_; clear n0_ hb) | ((with_reducible refine gate_callee (f := 26) rfl ?_); refine goesL_ (some 14) rfl rfl Tryd.func26 (by kernel_rfl) rfl #[.int .i64 a0] rfl (by (try simp only [List.map_toArray, List.map_cons, List.map_nil]); first | done | rfl | (simp only [List.length_drop, List.length_take]; rfl)) ?_; (with_reducible refine (fix_Abs.calls a0 b _ A3.out).mono ?_); rintro e wx ⟨rfl, hb⟩; refine ⟨_, rfl, ?_⟩; have n0_ := Aside0.mk (below_step (by repeat (first | (with_reducible first | exact HB.out | apply below_alloc | apply pw_below_drewN | apply below_drew1) | exact HB.out)) hb); clear HB; have HB := n0_; clear n0_ hb))
  go_loopw [5, 6] (fun x y wr => ∃ (n : Nat) (p q : Int), x = .int .i64 p ∧ y = .int .i64 q ∧ 0 ≤ p ∧ p ≤ 288230376151711744 ∧ 0 ≤ q ∧ q ≤ 288230376151711744 ∧ 1 ≤ p + q ∧ Aside0 (dbl n p q = dbl 64 a b) ∧ Aside0 (144115188075855872 ≤ (if p < q then q else p) * 2 ^ n) ∧ Aside0 (Below w.heap.size w wr)) (fun x y _ => (144115188075855872 - (if intOf x < intOf y then intOf y else intOf x)).toNat)
  case atStart =>
    refine ⟨64, a, b, rfl, rfl, ha0, ha1, hb0, hb1, hz, ⟨rfl⟩, ⟨?_⟩, ⟨(by repeat (first | (with_reducible first | exact HB.out | apply below_alloc | apply pw_below_drewN | apply below_drew1) | exact HB.out))⟩⟩
    have : (2 : Int) ^ 64 = 18446744073709551616 := by decide
    rw [this]
    split <;> omega
  case round =>
    obtain ⟨n, p, q, rfl, rfl, p0, p1, q0, q1, hpq, HN, HM, HB⟩ := hrel
    have hmx : 1 ≤ (if p < q then q else p) ∧ p ≤ (if p < q then q else p) ∧ q ≤ (if p < q then q else p) := by split <;> omega
    by_cases hc : (if p < q then q else p) < 144115188075855872
    · have hn : ∃ m, n = m + 1 := by
        cases n with
        | zero =>
          exfalso
          have := HM.out
          simp only [Int.pow_zero, Int.mul_one] at this
          omega
        | succ m => exact ⟨m, rfl⟩
      obtain ⟨m, rfl⟩ := hn
      have hN := HN.out
      rw [dbl_more m hc] at hN
      have hM := HM.out
      have HN2 := Aside0.mk hN
      have HM2 := Aside0.mk hM
      clear hN hM HN HM
      by_cases hlt : p < q
      all_goals
        simp only [hlt, if_true, if_false] at hc hmx
        have e1 : p * 2 ≤ 288230376151711744 := by omega
        have e2 : q * 2 ≤ 288230376151711744 := by omega
        go_wp2
        refine ⟨⟨m, p * 2, q * 2, by first | rfl | (congr 1; omega), by first | rfl | (congr 1; omega), by omega, by omega, by omega, by omega, by omega, HN2, ⟨?_⟩, ⟨(by repeat (first | (with_reducible first | exact HB.out | apply below_alloc | apply pw_below_drewN | apply below_drew1) | exact HB.out))⟩⟩, ?_⟩
        · have := HM2.out
          have e3 : (if p * 2 < q * 2 then q * 2 else p * 2) = (if p < q then q else p) * 2 := by (repeat' split) <;> omega
          rw [e3, Int.mul_assoc]
          rw [Int.pow_succ, Int.mul_comm (2 ^ m) 2] at this
          exact this
        · simp only [intOf]
          (repeat' split) <;> omega
    · have hN := HN.out
      rw [dbl_done n hc] at hN
      rw [← hN] at A4
      clear hN HN HM
      have hend : (if p < q then q else p) ≥ 144115188075855872 := by omega
      by_cases hlt : p < q
      all_goals
        simp only [hlt, if_true, if_false] at hend
        clear hc hmx
        have Hlt := Aside0.mk hlt
        go_wp2_with ((with_reducible refine gate_dst (N := 27) rfl ?_); refine wpList_load_row rfl 38 _ rfl 0 rfl t angV fr _ (by exact (HB.out.block 0 (blk_lt hg.out)).trans hg.out) Tryd.underlying38 rfl (by kernel_rfl) ?_)
        clear Hlt hlt hend
        go_loopw [28, 7, 5, 6] (fun i z x y wr => ∃ k : Nat, k ≤ 32 ∧ i = .int .i64 k ∧ x = .int .i64 (arun k (p, q, 0)).1 ∧ y = .int .i64 (arun k (p, q, 0)).2.1 ∧ z = .int .i64 (arun k (p, q, 0)).2.2 ∧ Aside0 (Below w.heap.size w wr)) (fun i _ _ _ _ => 32 - (intOf i).toNat)
        case atStart => exact ⟨0, by omega, rfl, rfl, rfl, rfl, ⟨(by repeat (first | (with_reducible first | exact HB.out | apply below_alloc | apply pw_below_drewN | apply below_drew1) | exact HB.out))⟩⟩
        case round =>
          clear HB
          obtain ⟨k, hk, rfl, rfl, rfl, rfl, HB⟩ := hrel
          by_cases hlt : k < 32
          · have hi := Hidx.out k hlt
            obtain ⟨x, y, z, hb⟩ : ∃ x y z, arun k (p, q, 0) = (x, y, z) := ⟨_, _, _, rfl⟩
            have Hb := Aside0.mk hb
            simp only [hb]
            clear hb
            obtain ⟨g, hga⟩ : ∃ g, ang.getD k 0 = g := ⟨_, rfl⟩
            rw [hga] at hi
            have Hg := Aside0.mk hga
            clear hga
            have hq : arun (k + 1) (p, q, 0) = astep k (arun k (p, q, 0)) := rfl
            rw [Hb.out] at hq
            by_cases hz : 0 < y
            · have hs : astep k (x, y, z) = (wrap64 (x + y / 2 ^ k), wrap64 (y - x / 2 ^ k), wrap64 (z + g)) := by
                unfold astep
                rw [if_pos hz, Hg.out]
              have Hs := Aside0.mk (hq.trans hs)
              clear hq hs
              go_wp2
              go_quiet (fail)
              go_wp2
              refine ⟨⟨k + 1, by omega, by go_num, ?_, ?_, ?_, ⟨?_⟩⟩, by simp [intOf]; omega⟩
              · rw [Hs.out]
              · rw [Hs.out]
              · rw [Hs.out]
              · exact (by repeat (first | (with_reducible first | exact HB.out | apply below_alloc | apply pw_below_drewN | apply below_drew1) | exact HB.out))
            · have hs : astep k (x, y, z) = (wrap64 (x - y / 2 ^ k), wrap64 (y + x / 2 ^ k), wrap64 (z - g)) := by
                unfold astep
                rw [if_neg hz, Hg.out]
              have Hs := Aside0.mk (hq.trans hs)
              clear hq hs
              go_wp2
              go_quiet (fail)
              go_wp2
              refine ⟨⟨k + 1, by omega, by go_num, ?_, ?_, ?_, ⟨?_⟩⟩, by simp [intOf]; omega⟩
              · rw [Hs.out]
              · rw [Hs.out]
              · rw [Hs.out]
              · exact (by repeat (first | (with_reducible first | exact HB.out | apply below_alloc | apply pw_below_drewN | apply below_drew1) | exact HB.out))
          · obtain rfl : k = 32 := by omega
            clear hlt hk Hidx
            obtain ⟨x, hx⟩ : ∃ x, (arun 32 (p, q, 0)).1 = x := ⟨_, rfl⟩
            obtain ⟨y, hy⟩ : ∃ y, (arun 32 (p, q, 0)).2.1 = y := ⟨_, rfl⟩
            obtain ⟨z, hz⟩ : ∃ z, (arun 32 (p, q, 0)).2.2 = z := ⟨_, rfl⟩
            have A6 : Aside0 (trig_round.f z = some v) := by
              rw [← hz]
              exact A4
            simp only [hx, hy, hz]
            clear hx hy hz A4
            have hr := HR.out
            clear HR
            unfold ares at hr
            by_cases hx0 : a1 < 0
            · rw [if_pos hx0] at hr
              by_cases hy0 : a0 < 0
              · rw [if_pos hy0] at hr
                have A5 := Aside0.mk hr
                clear hr
                go_wp2_with (first | ((with_reducible refine gate_callee (f := 23) rfl ?_); refine goesL_ (some 62) rfl rfl Tryd.func23 (by kernel_rfl) rfl #[.int .i64 z] rfl (by (try simp only [List.map_toArray, List.map_cons, List.map_nil]); first | done | rfl | (simp only [List.length_drop, List.length_take]; rfl)) ?_; (with_reducible refine (trig_round.calls z v _ A6.out).mono ?_); rintro e w' ⟨rfl, ⟨nd, rfl⟩⟩; refine ⟨_, rfl, ?_⟩) | ((with_reducible refine gate_callee (f := 13) rfl ?_); refine goesL_ (some 72) rfl rfl Tryd.func13 (by kernel_rfl) rfl #[.int .i64 (wrap64 (2147483648 + v))] rfl (by (try simp only [List.map_toArray, List.map_cons, List.map_nil]); first | done | rfl | (simp only [List.length_drop, List.length_take]; rfl)) ?_; (with_reducible refine (trig_Angle.calls (wrap64 (2147483648 + v)) r _ A5.out).mono ?_); rintro e w' ⟨rfl, ⟨nd, rfl⟩⟩; refine ⟨_, rfl, ?_⟩))
                go_ret
                exact ⟨rfl, (by repeat (first | (with_reducible first | exact HB.out | apply below_alloc | apply pw_below_drewN | apply below_drew1) | exact HB.out))⟩
              · rw [if_neg hy0] at hr
                have A5 := Aside0.mk hr
                clear hr
                go_wp2_with (first | ((with_reducible refine gate_callee (f := 23) rfl ?_); refine goesL_ (some 62) rfl rfl Tryd.func23 (by kernel_rfl) rfl #[.int .i64 z] rfl (by (try simp only [List.map_toArray, List.map_cons, List.map_nil]); first | done | rfl | (simp only [List.length_drop, List.length_take]; rfl)) ?_; (with_reducible refine (trig_round.calls z v _ A6.out).mono ?_); rintro e w' ⟨rfl, ⟨nd, rfl⟩⟩; refine ⟨_, rfl, ?_⟩) | ((with_reducible refine gate_callee (f := 13) rfl ?_); refine goesL_ (some 78) rfl rfl Tryd.func13 (by kernel_rfl) rfl #[.int .i64 (wrap64 (2147483648 - v))] rfl (by (try simp only [List.map_toArray, List.map_cons, List.map_nil]); first | done | rfl | (simp only [List.length_drop, List.length_take]; rfl)) ?_; (with_reducible refine (trig_Angle.calls (wrap64 (2147483648 - v)) r _ A5.out).mono ?_); rintro e w' ⟨rfl, ⟨nd, rfl⟩⟩; refine ⟨_, rfl, ?_⟩))
                go_ret
                exact ⟨rfl, (by repeat (first | (with_reducible first | exact HB.out | apply below_alloc | apply pw_below_drewN | apply below_drew1) | exact HB.out))⟩
            · rw [if_neg hx0] at hr
              by_cases hy0 : a0 < 0
              · rw [if_pos hy0] at hr
                have A5 := Aside0.mk hr
                clear hr
                go_wp2_with (first | ((with_reducible refine gate_callee (f := 23) rfl ?_); refine goesL_ (some 62) rfl rfl Tryd.func23 (by kernel_rfl) rfl #[.int .i64 z] rfl (by (try simp only [List.map_toArray, List.map_cons, List.map_nil]); first | done | rfl | (simp only [List.length_drop, List.length_take]; rfl)) ?_; (with_reducible refine (trig_round.calls z v _ A6.out).mono ?_); rintro e w' ⟨rfl, ⟨nd, rfl⟩⟩; refine ⟨_, rfl, ?_⟩) | ((with_reducible refine gate_callee (f := 13) rfl ?_); refine goesL_ (some 84) rfl rfl Tryd.func13 (by kernel_rfl) rfl #[.int .i64 (wrap64 (-v))] rfl (by (try simp only [List.map_toArray, List.map_cons, List.map_nil]); first | done | rfl | (simp only [List.length_drop, List.length_take]; rfl)) ?_; (with_reducible refine (trig_Angle.calls (wrap64 (-v)) r _ A5.out).mono ?_); rintro e w' ⟨rfl, ⟨nd, rfl⟩⟩; refine ⟨_, rfl, ?_⟩))
                go_ret
                exact ⟨rfl, (by repeat (first | (with_reducible first | exact HB.out | apply below_alloc | apply pw_below_drewN | apply below_drew1) | exact HB.out))⟩
              · rw [if_neg hy0] at hr
                have A5 := Aside0.mk hr
                clear hr
                go_wp2_with (first | ((with_reducible refine gate_callee (f := 23) rfl ?_); refine goesL_ (some 62) rfl rfl Tryd.func23 (by kernel_rfl) rfl #[.int .i64 z] rfl (by (try simp only [List.map_toArray, List.map_cons, List.map_nil]); first | done | rfl | (simp only [List.length_drop, List.length_take]; rfl)) ?_; (with_reducible refine (trig_round.calls z v _ A6.out).mono ?_); rintro e w' ⟨rfl, ⟨nd, rfl⟩⟩; refine ⟨_, rfl, ?_⟩) | ((with_reducible refine gate_callee (f := 13) rfl ?_); refine goesL_ (some 86) rfl rfl Tryd.func13 (by kernel_rfl) rfl #[.int .i64 v] rfl (by (try simp only [List.map_toArray, List.map_cons, List.map_nil]); first | done | rfl | (simp only [List.length_drop, List.length_take]; rfl)) ?_; (with_reducible refine (trig_Angle.calls v r _ A5.out).mono ?_); rintro e w' ⟨rfl, ⟨nd, rfl⟩⟩; refine ⟨_, rfl, ?_⟩))
                go_ret
                exact ⟨rfl, (by repeat (first | (with_reducible first | exact HB.out | apply below_alloc | apply pw_below_drewN | apply below_drew1) | exact HB.out))⟩


theorem trig_Atan.calls (a0 : Int) (a1 : Int) (r : Int) (w : World) (h : trig_Atan.f a0 a1 = some r) (HG : Aside0 (Glob w)) :
    Calls Tryd.prog 17 #[.int .i64 a0, .int .i64 a1] w fun e w' => e = .returned (.int .i64 r) ∧ Below w.heap.size w w' := by
  unfold trig_Atan.f at h
  obtain ⟨a, A2, h⟩ := Option.bind_eq_some_iff.mp h
  obtain ⟨b, A3, h⟩ := Option.bind_eq_some_iff.mp h
  have ha := abs_bd A2
  have hb := abs_bd A3
  by_cases c : a + b = 0
  · rw [if_pos c] at h
    obtain rfl := Option.some.inj h
    exact atan_zero a0 a1 w a b ⟨A2⟩ ⟨A3⟩ ha.1 ha.2 hb.1 hb.2 (by omega)
  · rw [if_neg c] at h
    obtain ⟨v, A4, h⟩ := Option.bind_eq_some_iff.mp h
    exact atan_more a0 a1 r w a b v HG ⟨A2⟩ ⟨A3⟩ ha.1 ha.2 hb.1 hb.2 (by omega) ⟨A4⟩ ⟨h⟩


/-! ### outriggerlaw05_near: function 19 -/
def outriggerlaw05_near.f (a0 : Int) (a1 : Int) (a2 : Int) : Option (Bool) := if (wrap64 (a0 - a1)) ≤ a2 then (some (decide ((wrap64 (a1 - a0)) ≤ a2))) else (some false)
set_option maxHeartbeats 8000000 in
set_option maxRecDepth 100000 in
theorem outriggerlaw05_near.calls (a0 : Int) (a1 : Int) (a2 : Int) (r : Bool) (w : World) (h : outriggerlaw05_near.f a0 a1 a2 = some r) :
    Calls Tryd.prog 19 #[.int .i64 a0, .int .i64 a1, .int .i64 a2] w fun e w' => e = .returned (.bool r) ∧ Drawn0 w w' := by
  have H : (if (wrap64 (a0 - a1)) ≤ a2 then (some (decide ((wrap64 (a1 - a0)) ≤ a2))) else (some false)) = some r := h
  clear h
  by_cases c4 : (wrap64 (a0 - a1)) ≤ a2
  · rw [if_pos c4] at H
    have c4b0 : decide ((wrap64 (a0 - a1)) ≤ a2) = true := decide_eq_true c4
    clear c4
    obtain rfl := Option.some.inj H
    go_enter Tryd.func19, Tryd.ntmps19
    go_wp2
    go_ret
    exact ⟨by first | rfl | (simp; done) | (simp [*]; done), by repeat (first | exact Drawn0.refl _ | apply Drawn0.step)⟩
  · rw [if_neg c4] at H
    have c4b0 : decide ((wrap64 (a0 - a1)) ≤ a2) = false := decide_eq_false c4
    clear c4
    obtain rfl := Option.some.inj H
    go_enter Tryd.func19, Tryd.ntmps19
    go_wp2
    go_ret
    exact ⟨by first | rfl | (simp; done) | (simp [*]; done), by repeat (first | exact Drawn0.refl _ | apply Drawn0.step)⟩


/-! ### outriggerlaw05_awake: function 10 -/
def outriggerlaw05_awake.f  : Option (Bool) := (trig_Both.f 1073741824).bind fun bt115 => ((outriggerlaw05_near.f bt115.1 4294967296 8).bind fun t117 => (if t117 = true then ((outriggerlaw05_near.f bt115.2 0 8).bind fun t118 => (if t118 = true then ((trig_Atan.f 4294967296 4294967296).bind fun t119 => ((outriggerlaw05_near.f t119 536870912 8).bind fun t120 => (if t120 = true then ((trig_Angle.f (-1)).bind fun t121 => (if t121 = 4294967295 then ((trig_Atan.f 0 0).bind fun t122 => (if t122 = 0 then ((trig_Sin.f 0).bind fun t123 => ((outriggerlaw05_near.f t123 0 8).bind fun t124 => (if t124 = true then ((trig_Cos.f 0).bind fun t125 => ((outriggerlaw05_near.f t125 4294967296 8).bind fun t126 => (some t126))) else (some false)))) else (some false))) else (some false))) else (some false)))) else (some false))) else (some false)))
set_option maxHeartbeats 8000000 in
set_option maxRecDepth 100000 in
theorem outriggerlaw05_awake.calls1  (r : Bool) (w : World) (h : outriggerlaw05_awake.f  = some r) (hr : Aside0 (r = true)) (HG : Aside0 (Glob w)) :
    Calls Tryd.prog 10 #[] w fun e w' => e = .returned (.bool r) ∧ Below w.heap.size w w' := by
  have HB := Aside0.mk (Below.refl w.heap.size w)
  have H : ((trig_Both.f 1073741824).bind fun bt115 => ((outriggerlaw05_near.f bt115.1 4294967296 8).bind fun t117 => (if t117 = true then ((outriggerlaw05_near.f bt115.2 0 8).bind fun t118 => (if t118 = true then ((trig_Atan.f 4294967296 4294967296).bind fun t119 => ((outriggerlaw05_near.f t119 536870912 8).bind fun t120 => (if t120 = true then ((trig_Angle.f (-1)).bind fun t121 => (if t121 = 4294967295 then ((trig_Atan.f 0 0).bind fun t122 => (if t122 = 0 then ((trig_Sin.f 0).bind fun t123 => ((outriggerlaw05_near.f t123 0 8).bind fun t124 => (if t124 = true then ((trig_Cos.f 0).bind fun t125 => ((outriggerlaw05_near.f t125 4294967296 8).bind fun t126 => (some t126))) else (some false)))) else (some false))) else (some false))) else (some false)))) else (some false))) else (some false)))) = some r := h
  clear h
  replace H := Option.bind_eq_some_iff.mp H
  obtain ⟨⟨t115, t116⟩, A10, H⟩ := H
  replace H : ((outriggerlaw05_near.f t115 4294967296 8).bind fun t117 => (if t117 = true then ((outriggerlaw05_near.f t116 0 8).bind fun t118 => (if t118 = true then ((trig_Atan.f 4294967296 4294967296).bind fun t119 => ((outriggerlaw05_near.f t119 536870912 8).bind fun t120 => (if t120 = true then ((trig_Angle.f (-1)).bind fun t121 => (if t121 = 4294967295 then ((trig_Atan.f 0 0).bind fun t122 => (if t122 = 0 then ((trig_Sin.f 0).bind fun t123 => ((outriggerlaw05_near.f t123 0 8).bind fun t124 => (if t124 = true then ((trig_Cos.f 0).bind fun t125 => ((outriggerlaw05_near.f t125 4294967296 8).bind fun t126 => (some t126))) else (some false)))) else (some false))) else (some false))) else (some false)))) else (some false))) else (some false))) = some r := H
  have A1 := Aside0.mk A10
  clear A10
  replace H := Option.bind_eq_some_iff.mp H
  obtain ⟨t117, A20, H⟩ := H
  replace H : (if t117 = true then ((outriggerlaw05_near.f t116 0 8).bind fun t118 => (if t118 = true then ((trig_Atan.f 4294967296 4294967296).bind fun t119 => ((outriggerlaw05_near.f t119 536870912 8).bind fun t120 => (if t120 = true then ((trig_Angle.f (-1)).bind fun t121 => (if t121 = 4294967295 then ((trig_Atan.f 0 0).bind fun t122 => (if t122 = 0 then ((trig_Sin.f 0).bind fun t123 => ((outriggerlaw05_near.f t123 0 8).bind fun t124 => (if t124 = true then ((trig_Cos.f 0).bind fun t125 => ((outriggerlaw05_near.f t125 4294967296 8).bind fun t126 => (some t126))) else (some false)))) else (some false))) else (some false))) else (some false)))) else (some false))) else (some false)) = some r := H
  have A2 := Aside0.mk A20
  clear A20
  by_cases c3 : t117 = true
  · subst c3
    have H1 : ((outriggerlaw05_near.f t116 0 8).bind fun t118 => (if t118 = true then ((trig_Atan.f 4294967296 4294967296).bind fun t119 => ((outriggerlaw05_near.f t119 536870912 8).bind fun t120 => (if t120 = true then ((trig_Angle.f (-1)).bind fun t121 => (if t121 = 4294967295 then ((trig_Atan.f 0 0).bind fun t122 => (if t122 = 0 then ((trig_Sin.f 0).bind fun t123 => ((outriggerlaw05_near.f t123 0 8).bind fun t124 => (if t124 = true then ((trig_Cos.f 0).bind fun t125 => ((outriggerlaw05_near.f t125 4294967296 8).bind fun t126 => (some t126))) else (some false)))) else (some false))) else (some false))) else (some false)))) else (some false))) = some r := by rw [if_pos rfl] at H; exact H
    clear H
    have H := H1
    clear H1
    replace H := Option.bind_eq_some_iff.mp H
    obtain ⟨t118, A40, H⟩ := H
    replace H : (if t118 = true then ((trig_Atan.f 4294967296 4294967296).bind fun t119 => ((outriggerlaw05_near.f t119 536870912 8).bind fun t120 => (if t120 = true then ((trig_Angle.f (-1)).bind fun t121 => (if t121 = 4294967295 then ((trig_Atan.f 0 0).bind fun t122 => (if t122 = 0 then ((trig_Sin.f 0).bind fun t123 => ((outriggerlaw05_near.f t123 0 8).bind fun t124 => (if t124 = true then ((trig_Cos.f 0).bind fun t125 => ((outriggerlaw05_near.f t125 4294967296 8).bind fun t126 => (some t126))) else (some false)))) else (some false))) else (some false))) else (some false)))) else (some false)) = some r := H
    have A4 := Aside0.mk A40
    clear A40
    by_cases c5 : t118 = true
    · subst c5
      have H1 : ((trig_Atan.f 4294967296 4294967296).bind fun t119 => ((outriggerlaw05_near.f t119 536870912 8).bind fun t120 => (if t120 = true then ((trig_Angle.f (-1)).bind fun t121 => (if t121 = 4294967295 then ((trig_Atan.f 0 0).bind fun t122 => (if t122 = 0 then ((trig_Sin.f 0).bind fun t123 => ((outriggerlaw05_near.f t123 0 8).bind fun t124 => (if t124 = true then ((trig_Cos.f 0).bind fun t125 => ((outriggerlaw05_near.f t125 4294967296 8).bind fun t126 => (some t126))) else (some false)))) else (some false))) else (some false))) else (some false)))) = some r := by rw [if_pos rfl] at H; exact H
      clear H
      have H := H1
      clear H1
      replace H := Option.bind_eq_some_iff.mp H
      obtain ⟨t119, A60, H⟩ := H
      replace H : ((outriggerlaw05_near.f t119 536870912 8).bind fun t120 => (if t120 = true then ((trig_Angle.f (-1)).bind fun t121 => (if t121 = 4294967295 then ((trig_Atan.f 0 0).bind fun t122 => (if t122 = 0 then ((trig_Sin.f 0).bind fun t123 => ((outriggerlaw05_near.f t123 0 8).bind fun t124 => (if t124 = true then ((trig_Cos.f 0).bind fun t125 => ((outriggerlaw05_near.f t125 4294967296 8).bind fun t126 => (some t126))) else (some false)))) else (some false))) else (some false))) else (some false))) = some r := H
      have A6 := Aside0.mk A60
      clear A60
      replace H := Option.bind_eq_some_iff.mp H
      obtain ⟨t120, A70, H⟩ := H
      replace H : (if t120 = true then ((trig_Angle.f (-1)).bind fun t121 => (if t121 = 4294967295 then ((trig_Atan.f 0 0).bind fun t122 => (if t122 = 0 then ((trig_Sin.f 0).bind fun t123 => ((outriggerlaw05_near.f t123 0 8).bind fun t124 => (if t124 = true then ((trig_Cos.f 0).bind fun t125 => ((outriggerlaw05_near.f t125 4294967296 8).bind fun t126 => (some t126))) else (some false)))) else (some false))) else (some false))) else (some false)) = some r := H
      have A7 := Aside0.mk A70
      clear A70
      by_cases c8 : t120 = true
      · subst c8
        have H1 : ((trig_Angle.f (-1)).bind fun t121 => (if t121 = 4294967295 then ((trig_Atan.f 0 0).bind fun t122 => (if t122 = 0 then ((trig_Sin.f 0).bind fun t123 => ((outriggerlaw05_near.f t123 0 8).bind fun t124 => (if t124 = true then ((trig_Cos.f 0).bind fun t125 => ((outriggerlaw05_near.f t125 4294967296 8).bind fun t126 => (some t126))) else (some false)))) else (some false))) else (some false))) = some r := by rw [if_pos rfl] at H; exact H
        clear H
        have H := H1
        clear H1
        replace H := Option.bind_eq_some_iff.mp H
        obtain ⟨t121, A90, H⟩ := H
        replace H : (if t121 = 4294967295 then ((trig_Atan.f 0 0).bind fun t122 => (if t122 = 0 then ((trig_Sin.f 0).bind fun t123 => ((outriggerlaw05_near.f t123 0 8).bind fun t124 => (if t124 = true then ((trig_Cos.f 0).bind fun t125 => ((outriggerlaw05_near.f t125 4294967296 8).bind fun t126 => (some t126))) else (some false)))) else (some false))) else (some false)) = some r := H
        have A9 := Aside0.mk A90
        clear A90
        by_cases c10 : t121 = 4294967295
        · rw [if_pos c10] at H
          have c10b0 : (t121 == 4294967295) = true := beq_iff_eq.mpr c10
          have c10b1 : (t121 != 4294967295) = false := bne_eq_false_iff_eq.mpr c10
          clear c10
          replace H := Option.bind_eq_some_iff.mp H
          obtain ⟨t122, A110, H⟩ := H
          replace H : (if t122 = 0 then ((trig_Sin.f 0).bind fun t123 => ((outriggerlaw05_near.f t123 0 8).bind fun t124 => (if t124 = true then ((trig_Cos.f 0).bind fun t125 => ((outriggerlaw05_near.f t125 4294967296 8).bind fun t126 => (some t126))) else (some false)))) else (some false)) = some r := H
          have A11 := Aside0.mk A110
          clear A110
          by_cases c12 : t122 = 0
          · rw [if_pos c12] at H
            have c12b0 : (t122 == 0) = true := beq_iff_eq.mpr c12
            have c12b1 : (t122 != 0) = false := bne_eq_false_iff_eq.mpr c12
            clear c12
            replace H := Option.bind_eq_some_iff.mp H
            obtain ⟨t123, A130, H⟩ := H
            replace H : ((outriggerlaw05_near.f t123 0 8).bind fun t124 => (if t124 = true then ((trig_Cos.f 0).bind fun t125 => ((outriggerlaw05_near.f t125 4294967296 8).bind fun t126 => (some t126))) else (some false))) = some r := H
            have A13 := Aside0.mk A130
            clear A130
            replace H := Option.bind_eq_some_iff.mp H
            obtain ⟨t124, A140, H⟩ := H
            replace H : (if t124 = true then ((trig_Cos.f 0).bind fun t125 => ((outriggerlaw05_near.f t125 4294967296 8).bind fun t126 => (some t126))) else (some false)) = some r := H
            have A14 := Aside0.mk A140
            clear A140
            by_cases c15 : t124 = true
            · subst c15
              have H1 : ((trig_Cos.f 0).bind fun t125 => ((outriggerlaw05_near.f t125 4294967296 8).bind fun t126 => (some t126))) = some r := by rw [if_pos rfl] at H; exact H
              clear H
              have H := H1
              clear H1
              replace H := Option.bind_eq_some_iff.mp H
              obtain ⟨t125, A160, H⟩ := H
              replace H : ((outriggerlaw05_near.f t125 4294967296 8).bind fun t126 => (some t126)) = some r := H
              have A16 := Aside0.mk A160
              clear A160
              replace H := Option.bind_eq_some_iff.mp H
              obtain ⟨t126, A170, H⟩ := H
              replace H : (some t126) = some r := H
              have A17 := Aside0.mk A170
              clear A170
              clear hr
              obtain rfl := Option.some.inj H
              go_enter Tryd.func10, Tryd.ntmps10
              go_wp2_with (first | ((with_reducible refine gate_callee (f := 11) rfl ?_); refine goesL_ (some 4) rfl rfl Tryd.func11 (by kernel_rfl) rfl #[.int .i64 1073741824] rfl (by (try simp only [List.map_toArray, List.map_cons, List.map_nil]); first | done | rfl | (simp only [List.length_drop, List.length_take]; rfl)) ?_; (with_reducible refine (trig_Both.calls 1073741824 t115 t116 _ A1.out ⟨(by repeat (first | exact HG.out | apply glob_drewN | apply glob_drew | (refine glob_below HG ?_; repeat (first | (with_reducible first | exact HB.out | apply below_alloc | apply pw_below_drewN | apply below_drew1) | exact HB.out))))⟩).mono ?_); rintro e w' ⟨rfl, ⟨nd, rfl⟩⟩; refine ⟨_, rfl, ?_⟩) | ((with_reducible refine gate_callee (f := 19) rfl ?_); refine goesL_ (some 8) rfl rfl Tryd.func19 (by kernel_rfl) rfl #[.int .i64 t115, .int .i64 4294967296, .int .i64 8] rfl (by (try simp only [List.map_toArray, List.map_cons, List.map_nil]); first | done | rfl | (simp only [List.length_drop, List.length_take]; rfl)) ?_; (with_reducible refine (outriggerlaw05_near.calls t115 4294967296 8 true _ A2.out).mono ?_); rintro e w' ⟨rfl, ⟨nd, rfl⟩⟩; refine ⟨_, rfl, ?_⟩) | (go_at_call 19; (with_reducible refine (outriggerlaw05_near.calls t116 0 8 true _ A4.out).mono ?_); rintro e w' ⟨rfl, ⟨nd, rfl⟩⟩) | (go_at_call 17; (with_reducible refine (trig_Atan.calls 4294967296 4294967296 t119 _ A6.out ⟨(by repeat (first | exact HG.out | apply glob_drewN | apply glob_drew | (refine glob_below HG ?_; repeat (first | (with_reducible first | exact HB.out | apply below_alloc | apply pw_below_drewN | apply below_drew1) | exact HB.out))))⟩).mono ?_); rintro e w18 ⟨rfl, hb⟩; have n0_ := Aside0.mk (below_step (by repeat (first | (with_reducible first | exact HB.out | apply below_alloc | apply pw_below_drewN | apply below_drew1) | exact HB.out)) hb); clear HB; have HB := n0_; clear n0_; (try clear hb); (try clear hb2); (try clear hk); (try clear hi)) | (go_at_call 19; (with_reducible refine (outriggerlaw05_near.calls t119 536870912 8 true _ A7.out).mono ?_); rintro e w' ⟨rfl, ⟨nd, rfl⟩⟩) | (go_at_call 13; (with_reducible refine (trig_Angle.calls (-1) t121 _ A9.out).mono ?_); rintro e w' ⟨rfl, ⟨nd, rfl⟩⟩) | (go_at_call 17; (with_reducible refine (trig_Atan.calls 0 0 t122 _ A11.out ⟨(by repeat (first | exact HG.out | apply glob_drewN | apply glob_drew | (refine glob_below HG ?_; repeat (first | (with_reducible first | exact HB.out | apply below_alloc | apply pw_below_drewN | apply below_drew1) | exact HB.out))))⟩).mono ?_); rintro e w19 ⟨rfl, hb⟩; have n0_ := Aside0.mk (below_step (by repeat (first | (with_reducible first | exact HB.out | apply below_alloc | apply pw_below_drewN | apply below_drew1) | exact HB.out)) hb); clear HB; have HB := n0_; clear n0_; (try clear hb); (try clear hb2); (try clear hk); (try clear hi)) | (go_at_call 15; (with_reducible refine (trig_Sin.calls 0 t123 _ A13.out ⟨(by repeat (first | exact HG.out | apply glob_drewN | apply glob_drew | (refine glob_below HG ?_; repeat (first | (with_reducible first | exact HB.out | apply below_alloc | apply pw_below_drewN | apply below_drew1) | exact HB.out))))⟩).mono ?_); rintro e w' ⟨rfl, ⟨nd, rfl⟩⟩) | (go_at_call 19; (with_reducible refine (outriggerlaw05_near.calls t123 0 8 true _ A14.out).mono ?_); rintro e w' ⟨rfl, ⟨nd, rfl⟩⟩) | (go_at_call 16; (with_reducible refine (trig_Cos.calls 0 t125 _ A16.out ⟨(by repeat (first | exact HG.out | apply glob_drewN | apply glob_drew | (refine glob_below HG ?_; repeat (first | (with_reducible first | exact HB.out | apply below_alloc | apply pw_below_drewN | apply below_drew1) | exact HB.out))))⟩).mono ?_); rintro e w' ⟨rfl, ⟨nd, rfl⟩⟩) | (go_at_call 19; (with_reducible refine (outriggerlaw05_near.calls t125 4294967296 8 t126 _ A17.out).mono ?_); rintro e w' ⟨rfl, ⟨nd, rfl⟩⟩))
              go_ret
              exact ⟨by first | rfl | (simp [errW_none, errW_some] <;> rfl) | (simp [*, errW_none, errW_some] <;> rfl), by repeat (first | (with_reducible first | exact HB.out | apply below_alloc | apply pw_below_drewN | apply below_drew1) | exact HB.out)⟩
            · replace c15 := Bool.eq_false_iff.mpr c15
              subst c15
              have H1 : (some false) = some r := by rw [if_neg (show ¬ (false = true) by decide)] at H; exact H
              clear H
              have H := H1
              clear H1
              exact absurd ((Option.some.inj H).trans hr.out) (by decide)
          · rw [if_neg c12] at H
            have c12b0 : (t122 == 0) = false := beq_eq_false_iff_ne.mpr c12
            have c12b1 : (t122 != 0) = true := bne_iff_ne.mpr c12
            exact absurd ((Option.some.inj H).trans hr.out) (by decide)
        · rw [if_neg c10] at H
          have c10b0 : (t121 == 4294967295) = false := beq_eq_false_iff_ne.mpr c10
          have c10b1 : (t121 != 4294967295) = true := bne_iff_ne.mpr c10
          exact absurd ((Option.some.inj H).trans hr.out) (by decide)
      · replace c8 := Bool.eq_false_iff.mpr c8
        subst c8
        have H1 : (some false) = some r := by rw [if_neg (show ¬ (false = true) by decide)] at H; exact H
        clear H
        have H := H1
        clear H1
        exact absurd ((Option.some.inj H).trans hr.out) (by decide)
    · replace c5 := Bool.eq_false_iff.mpr c5
      subst c5
      have H1 : (some false) = some r := by rw [if_neg (show ¬ (false = true) by decide)] at H; exact H
      clear H
      have H := H1
      clear H1
      exact absurd ((Option.some.inj H).trans hr.out) (by decide)
  · replace c3 := Bool.eq_false_iff.mpr c3
    subst c3
    have H1 : (some false) = some r := by rw [if_neg (show ¬ (false = true) by decide)] at H; exact H
    clear H
    have H := H1
    clear H1
    exact absurd ((Option.some.inj H).trans hr.out) (by decide)


theorem outriggerlaw05_awake.known : outriggerlaw05_awake.f = some true := by decide +kernel
theorem outriggerlaw05_awake.tells {r : Bool} (h : outriggerlaw05_awake.f = some r) : r = true := Option.some.inj (h.symm.trans outriggerlaw05_awake.known)
theorem outriggerlaw05_awake.calls (r : Bool) (w : World) (h : outriggerlaw05_awake.f = some r) (HG : Aside0 (Glob w)) :
    Calls Tryd.prog 10 #[] w fun e w' => e = .returned (.bool r) ∧ Below w.heap.size w w' := outriggerlaw05_awake.calls1 r w h ⟨outriggerlaw05_awake.tells h⟩ HG

/-! ### wide_Sane: function 36 -/
def wide_Sane.f (a0_0 : Int) (a0_1 : Int) : Option (Bool) := if a0_1 ≥ 0 then (if a0_1 ≤ 4611686018427387903 then (if a0_0 ≥ (-2305843009213693952) then (some (decide (a0_0 < 2305843009213693952))) else (some false)) else (some false)) else (some false)
set_option maxHeartbeats 8000000 in
set_option maxRecDepth 100000 in
theorem wide_Sane.calls (a0_0 : Int) (a0_1 : Int) (r : Bool) (w : World) (h : wide_Sane.f a0_0 a0_1 = some r) :
    Calls Tryd.prog 36 #[.agg #[.int .i64 a0_0, .int .i64 a0_1]] w fun e w' => e = .returned (.bool r) ∧ Below w.heap.size w w' := by
  have hu31 := Tryd.underlying31
  have HB := Aside0.mk (Below.refl w.heap.size w)
  have H : (if a0_1 ≥ 0 then (if a0_1 ≤ 4611686018427387903 then (if a0_0 ≥ (-2305843009213693952) then (some (decide (a0_0 < 2305843009213693952))) else (some false)) else (some false)) else (some false)) = some r := h
  clear h
  by_cases c2 : a0_1 ≥ 0
  · rw [if_pos c2] at H
    have c2b0 : decide (0 ≤ a0_1) = true := decide_eq_true c2
    clear c2
    by_cases c3 : a0_1 ≤ 4611686018427387903
    · rw [if_pos c3] at H
      have c3b0 : decide (a0_1 ≤ 4611686018427387903) = true := decide_eq_true c3
      clear c3
      by_cases c4 : a0_0 ≥ (-2305843009213693952)
      · rw [if_pos c4] at H
        have c4b0 : decide ((-2305843009213693952) ≤ a0_0) = true := decide_eq_true c4
        clear c4
        obtain rfl := Option.some.inj H
        go_enter Tryd.func36, Tryd.ntmps36
        go_wp2_with (first | ((with_reducible refine gate_dst (N := 1) rfl ?_); refine box_event ?hg (N := 1) ?hd (cs := #[.int .i64 a0_0, .int .i64 a0_1]) (t := 31) ?hr ?_; (case hd => rfl); (case hg => rfl); (case hr => first | (go_simp; done) | (go_simp; rfl)); intro gb127 hg w5 hbox hb; have n0_ := Aside0.mk (below_step (by repeat (first | (with_reducible first | exact HB.out | apply below_alloc | apply pw_below_drewN | apply below_drew1) | exact HB.out)) hb); have n1_ := Aside0.mk (hbox); have n2_ := Aside0.mk ((by rw [hg]; exact (below_size (by repeat (first | (with_reducible first | exact HB.out | apply below_alloc | apply pw_below_drewN | apply below_drew1) | exact HB.out))) : w.heap.size ≤ gb127)); have n3_ := Aside0.mk ((by rw [hg]; exact (below_size (by repeat (first | (with_reducible first | exact HB.out | apply below_alloc | apply pw_below_drewN | apply below_drew1) | exact HB.out))) : w.heap.size ≤ gb127)); clear HB; have HB := n0_; have BK127 := n1_; have GW127 := n2_; have GE127 := n3_; clear n0_ n1_ n2_ n3_; clear hb hbox hg; have hcz6_0 : w5.cell? ⟨gb127, 0, none⟩ = some (.int .i64 a0_0) := (blk_cell BK127.out 0).trans rfl; have hcz6_1 : w5.cell? ⟨gb127, 1, none⟩ = some (.int .i64 a0_1) := (blk_cell BK127.out 1).trans rfl; have hfz6_0 := blk_frozen BK127.out 0; have hfz6_1 := blk_frozen BK127.out 1))
        go_ret
        exact ⟨by first | rfl | (simp [errW_none, errW_some] <;> rfl) | (simp [*, errW_none, errW_some] <;> rfl), by repeat (first | (with_reducible first | exact HB.out | apply below_alloc | apply pw_below_drewN | apply below_drew1 | refine below_set ?_ GE127.out) | exact HB.out)⟩
      · rw [if_neg c4] at H
        have c4b0 : decide ((-2305843009213693952) ≤ a0_0) = false := decide_eq_false c4
        clear c4
        obtain rfl := Option.some.inj H
        go_enter Tryd.func36, Tryd.ntmps36
        go_wp2_with (first | ((with_reducible refine gate_dst (N := 1) rfl ?_); refine box_event ?hg (N := 1) ?hd (cs := #[.int .i64 a0_0, .int .i64 a0_1]) (t := 31) ?hr ?_; (case hd => rfl); (case hg => rfl); (case hr => first | (go_simp; done) | (go_simp; rfl)); intro gb127 hg w7 hbox hb; have n0_ := Aside0.mk (below_step (by repeat (first | (with_reducible first | exact HB.out | apply below_alloc | apply pw_below_drewN | apply below_drew1) | exact HB.out)) hb); have n1_ := Aside0.mk (hbox); have n2_ := Aside0.mk ((by rw [hg]; exact (below_size (by repeat (first | (with_reducible first | exact HB.out | apply below_alloc | apply pw_below_drewN | apply below_drew1) | exact HB.out))) : w.heap.size ≤ gb127)); have n3_ := Aside0.mk ((by rw [hg]; exact (below_size (by repeat (first | (with_reducible first | exact HB.out | apply below_alloc | apply pw_below_drewN | apply below_drew1) | exact HB.out))) : w.heap.size ≤ gb127)); clear HB; have HB := n0_; have BK127 := n1_; have GW127 := n2_; have GE127 := n3_; clear n0_ n1_ n2_ n3_; clear hb hbox hg; have hcz8_0 : w7.cell? ⟨gb127, 0, none⟩ = some (.int .i64 a0_0) := (blk_cell BK127.out 0).trans rfl; have hcz8_1 : w7.cell? ⟨gb127, 1, none⟩ = some (.int .i64 a0_1) := (blk_cell BK127.out 1).trans rfl; have hfz8_0 := blk_frozen BK127.out 0; have hfz8_1 := blk_frozen BK127.out 1))
        go_ret
        exact ⟨by first | rfl | (simp [errW_none, errW_some] <;> rfl) | (simp [*, errW_none, errW_some] <;> rfl), by repeat (first | (with_reducible first | exact HB.out | apply below_alloc | apply pw_below_drewN | apply below_drew1 | refine below_set ?_ GE127.out) | exact HB.out)⟩
    · rw [if_neg c3] at H
      have c3b0 : decide (a0_1 ≤ 4611686018427387903) = false := decide_eq_false c3
      clear c3
      obtain rfl := Option.some.inj H
      go_enter Tryd.func36, Tryd.ntmps36
      go_wp2_with (first | ((with_reducible refine gate_dst (N := 1) rfl ?_); refine box_event ?hg (N := 1) ?hd (cs := #[.int .i64 a0_0, .int .i64 a0_1]) (t := 31) ?hr ?_; (case hd => rfl); (case hg => rfl); (case hr => first | (go_simp; done) | (go_simp; rfl)); intro gb127 hg w9 hbox hb; have n0_ := Aside0.mk (below_step (by repeat (first | (with_reducible first | exact HB.out | apply below_alloc | apply pw_below_drewN | apply below_drew1) | exact HB.out)) hb); have n1_ := Aside0.mk (hbox); have n2_ := Aside0.mk ((by rw [hg]; exact (below_size (by repeat (first | (with_reducible first | exact HB.out | apply below_alloc | apply pw_below_drewN | apply below_drew1) | exact HB.out))) : w.heap.size ≤ gb127)); have n3_ := Aside0.mk ((by rw [hg]; exact (below_size (by repeat (first | (with_reducible first | exact HB.out | apply below_alloc | apply pw_below_drewN | apply below_drew1) | exact HB.out))) : w.heap.size ≤ gb127)); clear HB; have HB := n0_; have BK127 := n1_; have GW127 := n2_; have GE127 := n3_; clear n0_ n1_ n2_ n3_; clear hb hbox hg; have hcz10_0 : w9.cell? ⟨gb127, 0, none⟩ = some (.int .i64 a0_0) := (blk_cell BK127.out 0).trans rfl; have hcz10_1 : w9.cell? ⟨gb127, 1, none⟩ = some (.int .i64 a0_1) := (blk_cell BK127.out 1).trans rfl; have hfz10_0 := blk_frozen BK127.out 0; have hfz10_1 := blk_frozen BK127.out 1))
      go_ret
      exact ⟨by first | rfl | (simp [errW_none, errW_some] <;> rfl) | (simp [*, errW_none, errW_some] <;> rfl), by repeat (first | (with_reducible first | exact HB.out | apply below_alloc | apply pw_below_drewN | apply below_drew1 | refine below_set ?_ GE127.out) | exact HB.out)⟩
  · rw [if_neg c2] at H
    have c2b0 : decide (0 ≤ a0_1) = false := decide_eq_false c2
    clear c2
    obtain rfl := Option.some.inj H
    go_enter Tryd.func36, Tryd.ntmps36
    go_wp2_with (first | ((with_reducible refine gate_dst (N := 1) rfl ?_); refine box_event ?hg (N := 1) ?hd (cs := #[.int .i64 a0_0, .int .i64 a0_1]) (t := 31) ?hr ?_; (case hd => rfl); (case hg => rfl); (case hr => first | (go_simp; done) | (go_simp; rfl)); intro gb127 hg w11 hbox hb; have n0_ := Aside0.mk (below_step (by repeat (first | (with_reducible first | exact HB.out | apply below_alloc | apply pw_below_drewN | apply below_drew1) | exact HB.out)) hb); have n1_ := Aside0.mk (hbox); have n2_ := Aside0.mk ((by rw [hg]; exact (below_size (by repeat (first | (with_reducible first | exact HB.out | apply below_alloc | apply pw_below_drewN | apply below_drew1) | exact HB.out))) : w.heap.size ≤ gb127)); have n3_ := Aside0.mk ((by rw [hg]; exact (below_size (by repeat (first | (with_reducible first | exact HB.out | apply below_alloc | apply pw_below_drewN | apply below_drew1) | exact HB.out))) : w.heap.size ≤ gb127)); clear HB; have HB := n0_; have BK127 := n1_; have GW127 := n2_; have GE127 := n3_; clear n0_ n1_ n2_ n3_; clear hb hbox hg; have hcz12_0 : w11.cell? ⟨gb127, 0, none⟩ = some (.int .i64 a0_0) := (blk_cell BK127.out 0).trans rfl; have hcz12_1 : w11.cell? ⟨gb127, 1, none⟩ = some (.int .i64 a0_1) := (blk_cell BK127.out 1).trans rfl; have hfz12_0 := blk_frozen BK127.out 0; have hfz12_1 := blk_frozen BK127.out 1))
    go_ret
    exact ⟨by first | rfl | (simp [errW_none, errW_some] <;> rfl) | (simp [*, errW_none, errW_some] <;> rfl), by repeat (first | (with_reducible first | exact HB.out | apply below_alloc | apply pw_below_drewN | apply below_drew1 | refine below_set ?_ GE127.out) | exact HB.out)⟩


/-! ### wide_known: function 29 -/
def wide_known.f (a0_0 : Int) (a0_1 : Int) : Option (Int × Int) := (wide_Sane.f a0_0 a0_1).bind fun t130 => (if t130 = true then (some (a0_0, a0_1)) else (some (0, 0)))
set_option maxHeartbeats 8000000 in
set_option maxRecDepth 100000 in
theorem wide_known.calls (a0_0 : Int) (a0_1 : Int) (r1 : Int) (r2 : Int) (w : World) (h : wide_known.f a0_0 a0_1 = some (r1, r2)) :
    Calls Tryd.prog 29 #[.agg #[.int .i64 a0_0, .int .i64 a0_1]] w fun e w' => e = .returned (.agg #[.int .i64 r1, .int .i64 r2]) ∧ Below w.heap.size w w' := by
  have hu31 := Tryd.underlying31
  have HB := Aside0.mk (Below.refl w.heap.size w)
  have H : ((wide_Sane.f a0_0 a0_1).bind fun t130 => (if t130 = true then (some (a0_0, a0_1)) else (some (0, 0)))) = some (r1, r2) := h
  clear h
  replace H := Option.bind_eq_some_iff.mp H
  obtain ⟨t130, A20, H⟩ := H
  replace H : (if t130 = true then (some (a0_0, a0_1)) else (some (0, 0))) = some (r1, r2) := H
  have A2 := Aside0.mk A20
  clear A20
  by_cases c3 : t130 = true
  · subst c3
    have H1 : (some (a0_0, a0_1)) = some (r1, r2) := by rw [if_pos rfl] at H; exact H
    clear H
    have H := H1
    clear H1
    simp only [Option.some.injEq, Prod.mk.injEq] at H
    obtain ⟨rfl, rfl⟩ := H
    go_enter Tryd.func29, Tryd.ntmps29
    go_wp2_with (first | ((with_reducible refine gate_dst (N := 1) rfl ?_); refine box_event ?hg (N := 1) ?hd (cs := #[.int .i64 a0_0, .int .i64 a0_1]) (t := 31) ?hr ?_; (case hd => rfl); (case hg => rfl); (case hr => first | (go_simp; done) | (go_simp; rfl)); intro gb128 hg w4 hbox hb; have n0_ := Aside0.mk (below_step (by repeat (first | (with_reducible first | exact HB.out | apply below_alloc | apply pw_below_drewN | apply below_drew1) | exact HB.out)) hb); have n1_ := Aside0.mk (hbox); have n2_ := Aside0.mk ((by rw [hg]; exact (below_size (by repeat (first | (with_reducible first | exact HB.out | apply below_alloc | apply pw_below_drewN | apply below_drew1) | exact HB.out))) : w.heap.size ≤ gb128)); have n3_ := Aside0.mk ((by rw [hg]; exact (below_size (by repeat (first | (with_reducible first | exact HB.out | apply below_alloc | apply pw_below_drewN | apply below_drew1) | exact HB.out))) : w.heap.size ≤ gb128)); clear HB; have HB := n0_; have BK128 := n1_; have GW128 := n2_; have GE128 := n3_; clear n0_ n1_ n2_ n3_; clear hb hbox hg) | ((with_reducible refine gate_dst (N := 2) rfl ?_); refine box_event ?hg (N := 2) ?hd (cs := #[.int .i64 0, .int .i64 0]) (t := 31) ?hr ?_; (case hd => rfl); (case hg => rfl); (case hr => first | (go_simp; done) | (go_simp; rfl)); intro gb129 hg w5 hbox hb; have n0_ := Aside0.mk (blk_below (g := gb128) (o := .cells #[.int .i64 a0_0, .int .i64 a0_1] 31 (0, 0)) (by (with_reducible repeat (first | refine blk_drewN ?_ _ | refine blk_drew ?_ | refine blk_alloc ?_ _)); exact BK128.out) hb); have n1_ := Aside0.mk (below_step (by repeat (first | (with_reducible first | exact HB.out | apply below_alloc | apply pw_below_drewN | apply below_drew1 | refine below_set ?_ GE128.out) | exact HB.out)) hb); have n2_ := Aside0.mk (hbox); have n3_ := Aside0.mk ((by rw [hg]; exact (below_size (by repeat (first | (with_reducible first | exact HB.out | apply below_alloc | apply pw_below_drewN | apply below_drew1 | refine below_set ?_ GE128.out) | exact HB.out))) : w.heap.size ≤ gb129)); have n4_ := Aside0.mk ((by rw [hg]; exact (below_size (by repeat (first | (with_reducible first | exact HB.out | apply below_alloc | apply pw_below_drewN | apply below_drew1 | refine below_set ?_ GE128.out) | exact HB.out))) : w.heap.size ≤ gb129)); have n5_ := Aside0.mk ((by rw [hg]; exact Nat.ne_of_lt (blk_lt (g := gb128) (o := .cells #[.int .i64 a0_0, .int .i64 a0_1] 31 (0, 0)) (by (with_reducible repeat (first | refine blk_drewN ?_ _ | refine blk_drew ?_ | refine blk_alloc ?_ _)); exact BK128.out)) : gb128 ≠ gb129)); have n6_ := Aside0.mk ((by rw [hg]; exact Nat.ne_of_gt (blk_lt (g := gb128) (o := .cells #[.int .i64 a0_0, .int .i64 a0_1] 31 (0, 0)) (by (with_reducible repeat (first | refine blk_drewN ?_ _ | refine blk_drew ?_ | refine blk_alloc ?_ _)); exact BK128.out)) : gb129 ≠ gb128)); clear BK128; clear HB; have BK128 := n0_; have HB := n1_; have BK129 := n2_; have GW129 := n3_; have GE129 := n4_; have NB128_129 := n5_; have NB129_128 := n6_; clear n0_ n1_ n2_ n3_ n4_ n5_ n6_; clear hb hbox hg; have hnb6 := NB128_129.out; have hnc6 := NB129_128.out; have hcz7_0 : w5.cell? ⟨gb128, 0, none⟩ = some (.int .i64 a0_0) := (blk_cell BK128.out 0).trans rfl; have hcz7_1 : w5.cell? ⟨gb128, 1, none⟩ = some (.int .i64 a0_1) := (blk_cell BK128.out 1).trans rfl; have hfz7_0 := blk_frozen BK128.out 0; have hfz7_1 := blk_frozen BK128.out 1) | ((with_reducible refine gate_callee (f := 36) rfl ?_); refine goesL_ (some 4) rfl rfl Tryd.func36 (by kernel_rfl) rfl #[.agg #[.int .i64 a0_0, .int .i64 a0_1]] rfl (by (try simp only [List.map_toArray, List.map_cons, List.map_nil]); first | done | rfl | (simp only [List.length_drop, List.length_take]; rfl)) ?_; (with_reducible refine (wide_Sane.calls a0_0 a0_1 true _ A2.out).mono ?_); rintro e w8 ⟨rfl, hb⟩; refine ⟨_, rfl, ?_⟩; have n0_ := Aside0.mk (blk_below (g := gb128) (o := .cells #[.int .i64 a0_0, .int .i64 a0_1] 31 (0, 0)) (by (with_reducible repeat (first | refine blk_drewN ?_ _ | refine blk_drew ?_ | refine blk_alloc ?_ _)); exact BK128.out) hb); have n1_ := Aside0.mk (blk_below (g := gb129) (o := .cells #[.int .i64 0, .int .i64 0] 31 (0, 0)) (by (with_reducible repeat (first | refine blk_drewN ?_ _ | refine blk_drew ?_ | refine blk_alloc ?_ _)); exact BK129.out) hb); have n2_ := Aside0.mk (below_step (by repeat (first | (with_reducible first | exact HB.out | apply below_alloc | apply pw_below_drewN | apply below_drew1 | refine below_set ?_ GE128.out | refine below_set ?_ GE129.out) | exact HB.out)) hb); clear BK128; clear BK129; clear HB; have BK128 := n0_; have BK129 := n1_; have HB := n2_; clear n0_ n1_ n2_; (try clear hb); (try clear hb2); (try clear hk); (try clear hi); have hcz9_0 : w8.cell? ⟨gb128, 0, none⟩ = some (.int .i64 a0_0) := (blk_cell BK128.out 0).trans rfl; have hcz9_1 : w8.cell? ⟨gb128, 1, none⟩ = some (.int .i64 a0_1) := (blk_cell BK128.out 1).trans rfl; have hfz9_0 := blk_frozen BK128.out 0; have hfz9_1 := blk_frozen BK128.out 1; have hcz10_0 : w8.cell? ⟨gb129, 0, none⟩ = some (.int .i64 0) := (blk_cell BK129.out 0).trans rfl; have hcz10_1 : w8.cell? ⟨gb129, 1, none⟩ = some (.int .i64 0) := (blk_cell BK129.out 1).trans rfl; have hfz10_0 := blk_frozen BK129.out 0; have hfz10_1 := blk_frozen BK129.out 1))
    refine bodyPost_ret (results_cell_row rfl _ _ gb129 31 #[.int .i64 a0_0, .int .i64 a0_1] (0, 0) _ rfl (by (with_reducible repeat (first | refine blk_drewN ?_ _ | refine blk_drew ?_ | refine blk_alloc ?_ _)); refine blk_put (cs := #[.int .i64 a0_0, .int .i64 0]) ?_ 1 _ rfl; (with_reducible repeat (first | refine blk_drewN ?_ _ | refine blk_drew ?_ | refine blk_alloc ?_ _)); refine blk_put (cs := #[.int .i64 0, .int .i64 0]) ?_ 0 _ rfl; (with_reducible repeat (first | refine blk_drewN ?_ _ | refine blk_drew ?_ | refine blk_alloc ?_ _)); exact BK129.out) Tryd.underlying31 rfl (by kernel_rfl)) rfl ?_
    exact ⟨by first | rfl | (simp [errW_none, errW_some] <;> rfl) | (simp [*, errW_none, errW_some] <;> rfl), by repeat (first | (with_reducible first | exact HB.out | apply below_alloc | apply pw_below_drewN | apply below_drew1 | refine below_set ?_ GE128.out | refine below_set ?_ GE129.out) | exact HB.out)⟩
  · replace c3 := Bool.eq_false_iff.mpr c3
    subst c3
    have H1 : (some (0, 0)) = some (r1, r2) := by rw [if_neg (show ¬ (false = true) by decide)] at H; exact H
    clear H
    have H := H1
    clear H1
    simp only [Option.some.injEq, Prod.mk.injEq] at H
    obtain ⟨rfl, rfl⟩ := H
    go_enter Tryd.func29, Tryd.ntmps29
    go_wp2_with (first | ((with_reducible refine gate_dst (N := 1) rfl ?_); refine box_event ?hg (N := 1) ?hd (cs := #[.int .i64 a0_0, .int .i64 a0_1]) (t := 31) ?hr ?_; (case hd => rfl); (case hg => rfl); (case hr => first | (go_simp; done) | (go_simp; rfl)); intro gb128 hg w11 hbox hb; have n0_ := Aside0.mk (below_step (by repeat (first | (with_reducible first | exact HB.out | apply below_alloc | apply pw_below_drewN | apply below_drew1) | exact HB.out)) hb); have n1_ := Aside0.mk (hbox); have n2_ := Aside0.mk ((by rw [hg]; exact (below_size (by repeat (first | (with_reducible first | exact HB.out | apply below_alloc | apply pw_below_drewN | apply below_drew1) | exact HB.out))) : w.heap.size ≤ gb128)); have n3_ := Aside0.mk ((by rw [hg]; exact (below_size (by repeat (first | (with_reducible first | exact HB.out | apply below_alloc | apply pw_below_drewN | apply below_drew1) | exact HB.out))) : w.heap.size ≤ gb128)); clear HB; have HB := n0_; have BK128 := n1_; have GW128 := n2_; have GE128 := n3_; clear n0_ n1_ n2_ n3_; clear hb hbox hg) | ((with_reducible refine gate_dst (N := 2) rfl ?_); refine box_event ?hg (N := 2) ?hd (cs := #[.int .i64 0, .int .i64 0]) (t := 31) ?hr ?_; (case hd => rfl); (case hg => rfl); (case hr => first | (go_simp; done) | (go_simp; rfl)); intro gb129 hg w12 hbox hb; have n0_ := Aside0.mk (blk_below (g := gb128) (o := .cells #[.int .i64 a0_0, .int .i64 a0_1] 31 (0, 0)) (by (with_reducible repeat (first | refine blk_drewN ?_ _ | refine blk_drew ?_ | refine blk_alloc ?_ _)); exact BK128.out) hb); have n1_ := Aside0.mk (below_step (by repeat (first | (with_reducible first | exact HB.out | apply below_alloc | apply pw_below_drewN | apply below_drew1 | refine below_set ?_ GE128.out) | exact HB.out)) hb); have n2_ := Aside0.mk (hbox); have n3_ := Aside0.mk ((by rw [hg]; exact (below_size (by repeat (first | (with_reducible first | exact HB.out | apply below_alloc | apply pw_below_drewN | apply below_drew1 | refine below_set ?_ GE128.out) | exact HB.out))) : w.heap.size ≤ gb129)); have n4_ := Aside0.mk ((by rw [hg]; exact (below_size (by repeat (first | (with_reducible first | exact HB.out | apply below_alloc | apply pw_below_drewN | apply below_drew1 | refine below_set ?_ GE128.out) | exact HB.out))) : w.heap.size ≤ gb129)); have n5_ := Aside0.mk ((by rw [hg]; exact Nat.ne_of_lt (blk_lt (g := gb128) (o := .cells #[.int .i64 a0_0, .int .i64 a0_1] 31 (0, 0)) (by (with_reducible repeat (first | refine blk_drewN ?_ _ | refine blk_drew ?_ | refine blk_alloc ?_ _)); exact BK128.out)) : gb128 ≠ gb129)); have n6_ := Aside0.mk ((by rw [hg]; exact Nat.ne_of_gt (blk_lt (g := gb128) (o := .cells #[.int .i64 a0_0, .int .i64 a0_1] 31 (0, 0)) (by (with_reducible repeat (first | refine blk_drewN ?_ _ | refine blk_drew ?_ | refine blk_alloc ?_ _)); exact BK128.out)) : gb129 ≠ gb128)); clear BK128; clear HB; have BK128 := n0_; have HB := n1_; have BK129 := n2_; have GW129 := n3_; have GE129 := n4_; have NB128_129 := n5_; have NB129_128 := n6_; clear n0_ n1_ n2_ n3_ n4_ n5_ n6_; clear hb hbox hg; have hnb13 := NB128_129.out; have hnc13 := NB129_128.out; have hcz14_0 : w12.cell? ⟨gb128, 0, none⟩ = some (.int .i64 a0_0) := (blk_cell BK128.out 0).trans rfl; have hcz14_1 : w12.cell? ⟨gb128, 1, none⟩ = some (.int .i64 a0_1) := (blk_cell BK128.out 1).trans rfl; have hfz14_0 := blk_frozen BK128.out 0; have hfz14_1 := blk_frozen BK128.out 1) | ((with_reducible refine gate_callee (f := 36) rfl ?_); refine goesL_ (some 4) rfl rfl Tryd.func36 (by kernel_rfl) rfl #[.agg #[.int .i64 a0_0, .int .i64 a0_1]] rfl (by (try simp only [List.map_toArray, List.map_cons, List.map_nil]); first | done | rfl | (simp only [List.length_drop, List.length_take]; rfl)) ?_; (with_reducible refine (wide_Sane.calls a0_0 a0_1 false _ A2.out).mono ?_); rintro e w15 ⟨rfl, hb⟩; refine ⟨_, rfl, ?_⟩; have n0_ := Aside0.mk (blk_below (g := gb128) (o := .cells #[.int .i64 a0_0, .int .i64 a0_1] 31 (0, 0)) (by (with_reducible repeat (first | refine blk_drewN ?_ _ | refine blk_drew ?_ | refine blk_alloc ?_ _)); exact BK128.out) hb); have n1_ := Aside0.mk (blk_below (g := gb129) (o := .cells #[.int .i64 0, .int .i64 0] 31 (0, 0)) (by (with_reducible repeat (first | refine blk_drewN ?_ _ | refine blk_drew ?_ | refine blk_alloc ?_ _)); exact BK129.out) hb); have n2_ := Aside0.mk (below_step (by repeat (first | (with_reducible first | exact HB.out | apply below_alloc | apply pw_below_drewN | apply below_drew1 | refine below_set ?_ GE128.out | refine below_set ?_ GE129.out) | exact HB.out)) hb); clear BK128; clear BK129; clear HB; have BK128 := n0_; have BK129 := n1_; have HB := n2_; clear n0_ n1_ n2_; (try clear hb); (try clear hb2); (try clear hk); (try clear hi); have hcz16_0 : w15.cell? ⟨gb129, 0, none⟩ = some (.int .i64 0) := (blk_cell BK129.out 0).trans rfl; have hcz16_1 : w15.cell? ⟨gb129, 1, none⟩ = some (.int .i64 0) := (blk_cell BK129.out 1).trans rfl; have hfz16_0 := blk_frozen BK129.out 0; have hfz16_1 := blk_frozen BK129.out 1))
    refine bodyPost_ret (results_cell_row rfl _ _ gb129 31 #[.int .i64 0, .int .i64 0] (0, 0) _ rfl (by (with_reducible repeat (first | refine blk_drewN ?_ _ | refine blk_drew ?_ | refine blk_alloc ?_ _)); refine blk_put (cs := #[.int .i64 0, .int .i64 0]) ?_ 1 _ rfl; (with_reducible repeat (first | refine blk_drewN ?_ _ | refine blk_drew ?_ | refine blk_alloc ?_ _)); refine blk_put (cs := #[.int .i64 0, .int .i64 0]) ?_ 0 _ rfl; (with_reducible repeat (first | refine blk_drewN ?_ _ | refine blk_drew ?_ | refine blk_alloc ?_ _)); exact BK129.out) Tryd.underlying31 rfl (by kernel_rfl)) rfl ?_
    exact ⟨by first | rfl | (simp [errW_none, errW_some] <;> rfl) | (simp [*, errW_none, errW_some] <;> rfl), by repeat (first | (with_reducible first | exact HB.out | apply below_alloc | apply pw_below_drewN | apply below_drew1 | refine below_set ?_ GE128.out | refine below_set ?_ GE129.out) | exact HB.out)⟩


end Go.Proofs.YtnbicphpchnkbaaDoor.B
