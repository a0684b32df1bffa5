/- Lemmas of the row, laid by a program. -/
import Derived.Test.YtembdogffbcjiaaYB0
import Derived.Test.YtembdogffbcjiaaYB2
import Derived.Test.YtembdogffbcjiaaYB3
import Derived.Test.YtembdogffbcjiaaYB4
import Derived.Test.YtembdogffbcjiaaYB6
import Derived.Test.YtembdogffbcjiaaYSClo
import Derived.Test.YtembdogffbcjiaaYSSeq
import Derived.RangeFuncBox
import Derived.Shelf.Abstract
namespace Go.Proofs.Ytembdogffbcjiaa.B
open Go.RowKit Go.Proofs.YtembdogffbcjiaaW.PrintWords Go.Proofs.YtembdogffbcjiaaW.PrintLast Go.Proofs.YtembdogffbcjiaaW.PrintMore
attribute [local go_sem] max2_int min2_int max_two min_two max_three min_three max_four min_four
set_option linter.unusedVariables false
set_option linter.unusedSimpArgs false
def sum_products_1.f (a0:Int) (l1:List Int) (l2:List Int):Option (Int × Int):=if 0≤a0 then (if a0<(l1.length:Int) then (if a0<(l2.length:Int) then ((wide_Mul.f (rd l1 a0) (rd l2 a0)).bind fun bt188=>(some (bt188.1,bt188.2))) else (none)) else (none)) else (none)
def sum_products_1.T1:Bool × List (List Nat × List Nat):=(true,[([],[]),([],[]),([0,1],[0,1]),([2],[2]),([],[]),([],[]),([4,5],[4,5]),([6],[6]),([3,7],[3,7]),([8,8,0,1,2,3,4,5,6,7,8],[8])])
def sum_products_1.B1:List Nat:=[0,0,3,7,0,0,48,112,255,511]
theorem sum_products_1.tab1:rtab .any (opsOf Try.f72 1)=sum_products_1.T1:=by kernel_rfl
theorem sum_products_1.bits1:waitsOk sum_products_1.T1.2 sum_products_1.B1=true:=by kernel_rfl
set_option maxHeartbeats 8000000 in
set_option maxRecDepth 100000 in
theorem sum_products_1.calls (a0:Int) (A1:Option Addr) (c1:Nat) (l1:List Int) (A2:Option Addr) (c2:Nat) (l2:List Int) (r1:Int) (r2:Int) (w:World) (hr1:Kd.C (Kd.int .i64) w A1 l1.length l1) (hc1:l1.length≤c1) (hr2:Kd.C (Kd.int .i64) w A2 l2.length l2) (hc2:l2.length≤c2) (g1_:Nat) (HX1:Aside0 (w.cell? ⟨g1_,0,none⟩=some (.slice A1 l1.length c1))) (g2_:Nat) (HX2:Aside0 (w.cell? ⟨g2_,0,none⟩=some (.slice A2 l2.length c2))) (h:sum_products_1.f a0 l1 l2=some (r1,r2)) :
  Calls Try.prog 72 #[.int .i64 a0,.pointer (some ⟨g1_,0,none⟩),.pointer (some ⟨g2_,0,none⟩)] w fun e w'=>e=.returned (.agg #[.int .i64 r1,.int .i64 r2])∧Below w.heap.size w w':=by
 have hu50:=Try.underlying50
 have HR1:=Aside0.mk hr1
 have HC1:=Aside0.mk hc1
 clear hr1 hc1
 have HR2:=Aside0.mk hr2
 have HC2:=Aside0.mk hc2
 clear hr2 hc2
 have HB:=Aside0.mk (Below.refl w.heap.size w)
 have H:(if 0≤a0 then (if a0<(l1.length:Int) then (if a0<(l2.length:Int) then ((wide_Mul.f (rd l1 a0) (rd l2 a0)).bind fun bt188=>(some (bt188.1,bt188.2))) else (none)) else (none)) else (none))=some (r1,r2):=h
 clear h
 by_cases c4:0≤a0
 ·rw [if_pos c4] at H
  have c4b0:decide (0≤a0)=true:=decide_eq_true c4
  clear c4
  by_cases c5:a0<(l1.length:Int)
  ·rw [if_pos c5] at H
   have c5b0:decide (a0<(l1.length:Int))=true:=decide_eq_true c5
   clear c5
   by_cases c6:a0<(l2.length:Int)
   ·rw [if_pos c6] at H
    have c6b0:decide (a0<(l2.length:Int))=true:=decide_eq_true c6
    clear c6
    replace H:=Option.bind_eq_some_iff.mp H
    obtain⟨⟨t188,t189⟩,A70,H⟩:=H
    replace H:(some (t188,t189))=some (r1,r2):=H
    have A7:=Aside0.mk A70
    clear A70
    simp only [Option.some.injEq,Prod.mk.injEq] at H
    obtain⟨rfl,rfl⟩:=H
    go_enter Try.func72,Try.ntmps72
    try go_wp2_with (first|((with_reducible refine gate_dst (N:=4) rfl ?_);refine box_event ?hg (N:=4) ?hd (cs:=#[.int .i64 0,.int .i64 0]) (t:=50) ?hr ?_;(case hd=>rfl);(case hg=>rfl);(case hr=>first|(go_simp;done)|(go_simp;rfl));intro gb185 hg w8 hbox hb;have n0_:=Aside0.mk (below_step (by first|with_reducible exact HB.out|exact bl HB) hb);have n1_:=Aside0.mk (hbox);have n2_:=Aside0.mk ((by rw [hg];exact(below_size (by first|with_reducible exact HB.out|exact bl HB)):w.heap.size≤gb185));have n3_:=Aside0.mk ((by rw [hg];exact(below_size (by first|with_reducible exact HB.out|exact bl HB)):w.heap.size≤gb185));clear HB;have HB:=n0_;have BK185:=n1_;have GW185:=n2_;have GE185:=n3_;clear n0_ n1_ n2_ n3_;clear hb hbox hg))
    have n0_:=Aside0.mk (blk_drew BK185.out)
    have n1_:=Aside0.mk (below_drew1 HB.out)
    clear BK185
    clear HB
    have BK185:=n0_
    have HB:=n1_
    clear n0_ n1_
    have p186:0≤(a0:Int):=of_decide_eq_true (by first|(with_reducible assumption)|assumption)
    have q186:a0<(l1.length:Int):=of_decide_eq_true (by first|(with_reducible assumption)|assumption)
    obtain⟨ad186,e186,hx186_0⟩:=Kd.at_int HR1.out a0 p186 q186
    have hw186_0:=hx186_0
    cases e186
    replace hx186_0:=(HB.out.cell (World.block_lt_of_cell? w _ hx186_0)).trans hx186_0
    replace p186:=eq_true p186
    replace q186:=eq_true q186
    have p187:0≤(a0:Int):=of_decide_eq_true (by first|(with_reducible assumption)|assumption)
    have q187:a0<(l2.length:Int):=of_decide_eq_true (by first|(with_reducible assumption)|assumption)
    obtain⟨ad187,e187,hx187_0⟩:=Kd.at_int HR2.out a0 p187 q187
    have hw187_0:=hx187_0
    cases e187
    replace hx187_0:=(HB.out.cell (World.block_lt_of_cell? w _ hx187_0)).trans hx187_0
    replace p187:=eq_true p187
    replace q187:=eq_true q187
    refine start_ (n:=10) (S:=fun w'=>w'.cell? (ad186.add (a0).toNat)=some (.int .i64 (rd l1 a0))∧w'.cell? (ad187.add (a0).toNat)=some (.int .i64 (rd l2 a0))∧w'.cell? ⟨g1_,0,none⟩=some (.slice (some ad186) l1.length c1)∧w'.cell? ⟨g2_,0,none⟩=some (.slice (some ad187) l2.length c2)) (ds:=[]) #[ff,ff,ff,ff,ff,ff,ff,ff,ff,ff] (by kernel_rfl) rfl rfl ⟨((HB.out.cell (World.block_lt_of_cell? w _ hw186_0)).trans hw186_0),((HB.out.cell (World.block_lt_of_cell? w _ hw187_0)).trans hw187_0),(((show Below w.heap.size w _ from (by repeat (first|with_reducible exact HB.out|exact bl HB|refine bs ?_ GE185))).cell (World.block_lt_of_cell? w _ HX1.out)).trans HX1.out),(((show Below w.heap.size w _ from (by repeat (first|with_reducible exact HB.out|exact bl HB|refine bs ?_ GE185))).cell (World.block_lt_of_cell? w _ HX2.out)).trans HX2.out)⟩ (fun hHeld=>?_);refine with_tabW sum_products_1.tab1 sum_products_1.bits1 (fun HT_ HW_=>?_)
    generalize w8.drew=w9 at BK185 HB hx186_0 hx187_0 hHeld ⊢
    refine take_ (i:=0) (N:=some 5) (v:=?_) (a':=?_) #[tt,ff,ff,ff,ff,ff,ff,ff,ff,ff] rfl rfl (take_ofW HT_.out HW_.out (by kernel_rfl)) (fun _ _ _ h=>h) (Or.inl ⟨by rfl,?_⟩) hHeld ?_ ?_
    rotate_left
    ·rintro w' ⟨s0,s1,s2,s3⟩
     go_simp
     with_reducible rfl
    rotate_left
    ·simp only [Act.put,List.setIfInBounds_toArray,List.set_cons_zero,List.set_cons_succ,i64_w,i32_w]
     rfl
    refine pure_ (i:=1) (N:=some 6) (v:=?_) (a':=?_) #[tt,tt,ff,ff,ff,ff,ff,ff,ff,ff] rfl rfl (any_of HT_.out (by kernel_rfl)) (fun _ _ _ h=>h) (Or.inl ⟨by rfl,?_⟩) ?_ ?_
    rotate_left
    ·intro w'
     go_simp
     with_reducible rfl
    rotate_left
    ·simp only [Act.put,List.setIfInBounds_toArray,List.set_cons_zero,List.set_cons_succ,i64_w,i32_w]
     rfl
    refine pure_ (i:=2) (N:=some 7) (v:=?_) (a':=?_) #[tt,tt,tt,ff,ff,ff,ff,ff,ff,ff] rfl rfl (any_of HT_.out (by kernel_rfl)) (fun _ _ _ h=>h) (Or.inl ⟨by rfl,?_⟩) ?_ ?_
    rotate_left
    ·intro w'
     go_simp
     with_reducible rfl
    rotate_left
    ·simp only [Act.put,List.setIfInBounds_toArray,List.set_cons_zero,List.set_cons_succ,i64_w,i32_w]
     rfl
    refine take_ (i:=4) (N:=some 9) (v:=?_) (a':=?_) #[tt,tt,tt,ff,tt,ff,ff,ff,ff,ff] rfl rfl (take_ofW HT_.out HW_.out (by kernel_rfl)) (fun _ _ _ h=>h) (Or.inl ⟨by rfl,?_⟩) hHeld ?_ ?_
    rotate_left
    ·rintro w' ⟨s0,s1,s2,s3⟩
     go_simp
     with_reducible rfl
    rotate_left
    ·simp only [Act.put,List.setIfInBounds_toArray,List.set_cons_zero,List.set_cons_succ,i64_w,i32_w]
     rfl
    refine pure_ (i:=5) (N:=some 10) (v:=?_) (a':=?_) #[tt,tt,tt,ff,tt,tt,ff,ff,ff,ff] rfl rfl (any_of HT_.out (by kernel_rfl)) (fun _ _ _ h=>h) (Or.inl ⟨by rfl,?_⟩) ?_ ?_
    rotate_left
    ·intro w'
     go_simp
     with_reducible rfl
    rotate_left
    ·simp only [Act.put,List.setIfInBounds_toArray,List.set_cons_zero,List.set_cons_succ,i64_w,i32_w]
     rfl
    refine pure_ (i:=6) (N:=some 11) (v:=?_) (a':=?_) #[tt,tt,tt,ff,tt,tt,tt,ff,ff,ff] rfl rfl (any_of HT_.out (by kernel_rfl)) (fun _ _ _ h=>h) (Or.inl ⟨by rfl,?_⟩) ?_ ?_
    rotate_left
    ·intro w'
     go_simp
     with_reducible rfl
    rotate_left
    ·simp only [Act.put,List.setIfInBounds_toArray,List.set_cons_zero,List.set_cons_succ,i64_w,i32_w]
     rfl
    refine take_ (i:=3) (N:=some 8) (v:=?_) (a':=?_) #[tt,tt,tt,tt,tt,tt,tt,ff,ff,ff] rfl rfl (take_ofW HT_.out HW_.out (by kernel_rfl)) (fun _ _ _ h=>h) (Or.inl ⟨by rfl,?_⟩) hHeld ?_ ?_
    rotate_left
    ·rintro w' ⟨s0,s1,s2,s3⟩
     go_simp
     with_reducible rfl
    rotate_left
    ·simp only [Act.put,List.setIfInBounds_toArray,List.set_cons_zero,List.set_cons_succ,i64_w,i32_w]
     rfl
    refine take_ (i:=7) (N:=some 12) (v:=?_) (a':=?_) #[tt,tt,tt,tt,tt,tt,tt,tt,ff,ff] rfl rfl (take_ofW HT_.out HW_.out (by kernel_rfl)) (fun _ _ _ h=>h) (Or.inl ⟨by rfl,?_⟩) hHeld ?_ ?_
    rotate_left
    ·rintro w' ⟨s0,s1,s2,s3⟩
     go_simp
     with_reducible rfl
    rotate_left
    ·simp only [Act.put,List.setIfInBounds_toArray,List.set_cons_zero,List.set_cons_succ,i64_w,i32_w]
     rfl
    refine one_ (i:=8) (N:=some 13) #[tt,tt,tt,tt,tt,tt,tt,tt,tt,ff] rfl rfl (one_of HT_.out (by kernel_rfl)) (by decide) (fun K hK=>?_)
    refine goes_ Try.func73 (by kernel_rfl) rfl #[.int .i64 (rd l1 a0),.int .i64 (rd l2 a0)] (by rfl) rfl rfl (by exact mA _ _) ?_
    with_reducible refine(wide_Mul.calls (rd l1 a0) (rd l2 a0) t188 t189 _ A7.out).mono ?_
    rintro e w10 ⟨rfl,hb⟩
    refine⟨_,rfl,?_⟩
    have n0_:=Aside0.mk (blk_below (bk BK185.out) hb)
    have n1_:=Aside0.mk (below_step (by repeat (first|with_reducible exact HB.out|exact bl HB|refine bs ?_ GE185)) hb)
    clear BK185
    clear HB
    have BK185:=n0_
    have HB:=n1_
    clear n0_ n1_
    (try clear hb)
    (try clear hb2)
    (try clear hk)
    (try clear hi)
    refine hK.out _ _ ⟨((HB.out.cell (World.block_lt_of_cell? w _ hw186_0)).trans hw186_0),((HB.out.cell (World.block_lt_of_cell? w _ hw187_0)).trans hw187_0),(((show Below w.heap.size w _ from (by repeat (first|with_reducible exact HB.out|exact bl HB|refine bs ?_ GE185))).cell (World.block_lt_of_cell? w _ HX1.out)).trans HX1.out),(((show Below w.heap.size w _ from (by repeat (first|with_reducible exact HB.out|exact bl HB|refine bs ?_ GE185))).cell (World.block_lt_of_cell? w _ HX2.out)).trans HX2.out)⟩ (fun hHeld=>?_)
    clear hK K
    refine norm_ (a':=?_) ?_ ?_
    rotate_left
    ·show Act.put _ (some 13) _=_
     simp only [Act.put,List.setIfInBounds_toArray,List.set_cons_zero,List.set_cons_succ,i64_w,i32_w]
     rfl
    refine one_ (i:=9) (N:=none) #[tt,tt,tt,tt,tt,tt,tt,tt,tt,tt] rfl rfl (one_of HT_.out (by kernel_rfl)) (by decide) (fun K hK=>?_)
    have hs11:w10.cell? ⟨gb185,0,none⟩=some (.int .i64 0):=(blk_cell BK185.out 0).trans rfl
    have hfs11:=blk_frozen BK185.out 0
    have hs12:w10.cell? ⟨gb185,1,none⟩=some (.int .i64 0):=(blk_cell BK185.out 1).trans rfl
    have hfs12:=blk_frozen BK185.out 1
    refine skip_ (w1:=?_) (by rfl) rfl ?_ ?_
    rotate_left
    ·go_simp
     rfl
    refine hK.out _ _ ⟨((cell_far (p:=⟨gb185,_,none⟩) (by first|exact Nat.ne_of_lt (Nat.lt_of_lt_of_le (by have:=World.block_lt_of_cell? _ _ hw186_0;first|rwa [add_block] at this|exact this) GW185.out)|(rw [add_block];exact Nat.ne_of_lt (Nat.lt_of_lt_of_le (by have:=World.block_lt_of_cell? _ _ hw186_0;first|rwa [add_block] at this|exact this) GW185.out))|(show(Addr.add _ _).block≠_;rw [add_block];exact Nat.ne_of_lt (Nat.lt_of_lt_of_le (by have:=World.block_lt_of_cell? _ _ hw186_0;first|rwa [add_block] at this|exact this) GW185.out))|(dsimp only;exact Nat.ne_of_lt (Nat.lt_of_lt_of_le (by have:=World.block_lt_of_cell? _ _ hw186_0;first|rwa [add_block] at this|exact this) GW185.out))) _).trans (((cell_far (p:=⟨gb185,_,none⟩) (by first|exact Nat.ne_of_lt (Nat.lt_of_lt_of_le (by have:=World.block_lt_of_cell? _ _ hw186_0;first|rwa [add_block] at this|exact this) GW185.out)|(rw [add_block];exact Nat.ne_of_lt (Nat.lt_of_lt_of_le (by have:=World.block_lt_of_cell? _ _ hw186_0;first|rwa [add_block] at this|exact this) GW185.out))|(show(Addr.add _ _).block≠_;rw [add_block];exact Nat.ne_of_lt (Nat.lt_of_lt_of_le (by have:=World.block_lt_of_cell? _ _ hw186_0;first|rwa [add_block] at this|exact this) GW185.out))|(dsimp only;exact Nat.ne_of_lt (Nat.lt_of_lt_of_le (by have:=World.block_lt_of_cell? _ _ hw186_0;first|rwa [add_block] at this|exact this) GW185.out))) _).trans (hHeld.1)))),((cell_far (p:=⟨gb185,_,none⟩) (by first|exact Nat.ne_of_lt (Nat.lt_of_lt_of_le (by have:=World.block_lt_of_cell? _ _ hw187_0;first|rwa [add_block] at this|exact this) GW185.out)|(rw [add_block];exact Nat.ne_of_lt (Nat.lt_of_lt_of_le (by have:=World.block_lt_of_cell? _ _ hw187_0;first|rwa [add_block] at this|exact this) GW185.out))|(show(Addr.add _ _).block≠_;rw [add_block];exact Nat.ne_of_lt (Nat.lt_of_lt_of_le (by have:=World.block_lt_of_cell? _ _ hw187_0;first|rwa [add_block] at this|exact this) GW185.out))|(dsimp only;exact Nat.ne_of_lt (Nat.lt_of_lt_of_le (by have:=World.block_lt_of_cell? _ _ hw187_0;first|rwa [add_block] at this|exact this) GW185.out))) _).trans (((cell_far (p:=⟨gb185,_,none⟩) (by first|exact Nat.ne_of_lt (Nat.lt_of_lt_of_le (by have:=World.block_lt_of_cell? _ _ hw187_0;first|rwa [add_block] at this|exact this) GW185.out)|(rw [add_block];exact Nat.ne_of_lt (Nat.lt_of_lt_of_le (by have:=World.block_lt_of_cell? _ _ hw187_0;first|rwa [add_block] at this|exact this) GW185.out))|(show(Addr.add _ _).block≠_;rw [add_block];exact Nat.ne_of_lt (Nat.lt_of_lt_of_le (by have:=World.block_lt_of_cell? _ _ hw187_0;first|rwa [add_block] at this|exact this) GW185.out))|(dsimp only;exact Nat.ne_of_lt (Nat.lt_of_lt_of_le (by have:=World.block_lt_of_cell? _ _ hw187_0;first|rwa [add_block] at this|exact this) GW185.out))) _).trans (hHeld.2.1)))),(((show Below w.heap.size w _ from (by repeat (first|with_reducible exact HB.out|exact bl HB|refine bs ?_ GE185))).cell (World.block_lt_of_cell? w _ HX1.out)).trans HX1.out),(((show Below w.heap.size w _ from (by repeat (first|with_reducible exact HB.out|exact bl HB|refine bs ?_ GE185))).cell (World.block_lt_of_cell? w _ HX2.out)).trans HX2.out)⟩ (fun hHeld=>?_)
    clear hK K
    refine done_ (done_of HT_.out (by kernel_rfl)) ?_
    try go_wp2
    refine bodyPost_ret (results_cell_row rfl _ _ gb185 50 #[.int .i64 t188,.int .i64 t189] (0,0) _ rfl (by try refine bk ?_;refine blk_put (cs:=#[.int .i64 t188,.int .i64 0]) ?_ 1 _ rfl;try refine bk ?_;refine blk_put (cs:=#[.int .i64 0,.int .i64 0]) ?_ 0 _ rfl;try refine bk ?_;exact BK185.out) Try.underlying50 rfl (by kernel_rfl)) rfl ?_
    exact⟨by first|rfl|(simp [errW_none,errW_some]<;>rfl)|(simp [*,errW_none,errW_some]<;>rfl),by repeat (first|with_reducible exact HB.out|exact bl HB|refine bs ?_ GE185)⟩
   ·rw [if_neg c6] at H
    exact absurd H (by simp)
  ·rw [if_neg c5] at H
   exact absurd H (by simp)
 ·rw [if_neg c4] at H
  exact absurd H (by simp)
def sum_products.l0:Nat→List Int→List Int→Int→Int→Int→Int→Option (Int × Int)
  | 0,_,_,_,_,_,_=>none
  | k+1,x0,x1,x19,x20,x192000,x192001=>if x20<x19 then ((sum_products_1.f x20 x0 x1).bind fun bt192=>((wide_Add.f x192000 x192001 bt192.1 bt192.2).bind fun bt194=>(sum_products.l0 k x0 x1 x19 (wrap64 (x20+1)) bt194.1 bt194.2.1))) else (some (x192000,x192001))
def sum_products.f (k:Nat) (l0:List Int) (l1:List Int):Option (Int × Int):=sum_products.l0 k l0 l1 (l0.length:Int) 0 0 0
theorem sum_products.mono_l:∀ k,(∀ y0 y1 y2 y3 y4 y5,LeO (sum_products.l0 k y0 y1 y2 y3 y4 y5) (sum_products.l0 (k+1) y0 y1 y2 y3 y4 y5))
 | 0=>fun _ _ _ _ _ _ r h=>by simp [sum_products.l0] at h
 | k+1=>by
  have ih0:=sum_products.mono_l k
  ·intro y0 y1 y2 y3 y4 y5
   unfold sum_products.l0
   repeat' first
   | (with_reducible exact ih0 _ _ _ _ _ _)
   | (with_reducible exact LeO.refl _)
   | (with_reducible exact LeO.none _)
   | (with_reducible refine LeO.ite ?_ ?_)
   | (with_reducible refine LeO.bind ?_ (fun _=>?_))
   | exact ih0 _ _ _ _ _ _
   | exact LeO.none _
   | refine LeO.ite ?_ ?_
   | refine LeO.bind ?_ (fun _=>?_)
theorem sum_products.mono:∀ a0 a1 k,LeO (sum_products.f k a0 a1) (sum_products.f (k+1) a0 a1):=by
 intro a0 a1 k
 have ih0:=sum_products.mono_l k
 unfold sum_products.f
 repeat' first
   | (with_reducible exact ih0 _ _ _ _ _ _)
   | (with_reducible exact LeO.refl _)
   | (with_reducible exact LeO.none _)
   | (with_reducible refine LeO.ite ?_ ?_)
   | (with_reducible refine LeO.bind ?_ (fun _=>?_))
   | exact ih0 _ _ _ _ _ _
   | exact LeO.none _
   | refine LeO.ite ?_ ?_
   | refine LeO.bind ?_ (fun _=>?_)
theorem sum_products.zs (l m:List Int) (hl:l.length≤64):∀ (k i:Nat) (s r:Int × Int),i≤l.length→sum_products.l0 k l m (l.length:Int) (i:Int) s.1 s.2=some r→∃ zs:List (Int × Int),zs.length+i=l.length∧(∀ (j:Nat) x,zs[j]? = some x→sum_products_1.f ((j+i:Nat):Int) l m=some x)∧sumZ zs s=some r
 | 0,i,s,r,_,h=>by simp [sum_products.l0] at h
 | k+1,i,s,r,hi,h=>by
  simp only [sum_products.l0] at h
  by_cases c:(i:Int)<(l.length:Int)
  ·rw [if_pos c] at h
   obtain⟨x,hx,h⟩:=Option.bind_eq_some_iff.mp h
   obtain⟨t,ht,h⟩:=Option.bind_eq_some_iff.mp h
   have hw:wrap64 ((i:Int)+1)=((i+1:Nat):Int):=by unfold wrap64;omega
   rw [hw] at h
   obtain⟨zs,h1,h2,h3⟩:=sum_products.zs l m hl k (i+1) (t.1,t.2.1) r (by omega) h
   refine⟨x :: zs,by simp;omega,?_,?_⟩
   ·intro j y hy
    cases j with
    | zero=>simp at hy;subst hy;simpa using hx
    | succ j =>
     have:=h2 j y (by simpa using hy)
     rw [show j+1+i=j+(i+1) by omega]
     exact this
   ·simp only [sumZ]
    rw [ht]
    exact h3
  ·rw [if_neg c] at h
   have:s=r:=Option.some.inj h
   subst this
   exact⟨[],by simp;omega,by simp,rfl⟩
theorem sum_products.calls (k:Nat) (A0:Option Addr) (c0:Nat) (l0:List Int) (A1:Option Addr) (c1:Nat) (l1:List Int) (r1:Int) (r2:Int) (w:World) (hr0:Kd.C (Kd.int .i64) w A0 l0.length l0) (hc0:l0.length≤c0) (hr1:Kd.C (Kd.int .i64) w A1 l1.length l1) (hc1:l1.length≤c1) (hlen_:l0.length≤64) (h:sum_products.f k l0 l1=some (r1,r2)) :
  Calls Try.prog 53 #[.slice A0 l0.length c0,.slice A1 l1.length c1] w fun e w'=>∃ B1 B2,e=.returned (.func (.func 80) #[] #[.pointer (some ⟨B1,0,none⟩),.pointer (some ⟨B2,0,none⟩)])∧SumsTo w' B1 B2 r1 r2∧Below w.heap.size w w':=by
 obtain⟨zs,h1,h2,h3⟩:=sum_products.zs l0 l1 hlen_ k 0 (0,0) (r1,r2) (by omega) h
 refine(products_gives A0 A1 l0.length c0 l1.length c1 zs (by omega) hlen_ w (fun j x hx B B' W' hB hB' hb=>?_)).mono ?_
 ·exact sum_products_1.calls j A0 c0 l0 A1 c1 l1 x.1 x.2 W' (Kd.C_below hr0 hb) hc0 (Kd.C_below hr1 hb) hc1 B ⟨hB⟩ B' ⟨hB'⟩ (by have:=h2 j x hx;simpa using this)
 ·rintro e w' ⟨B1,B2,he,hG,hb⟩
  exact⟨B1,B2,he,⟨_,zs,hG,h3⟩,hb⟩
def sum_Dot.f (k:Nat) (l0:List Int) (l1:List Int):Option (Int × Bool):=if 0≤(mn (mn (l0.length:Int) (l1.length:Int)) 64) then (if (mn (mn (l0.length:Int) (l1.length:Int)) 64)≤(l0.length:Int) then (if (mn (mn (l0.length:Int) (l1.length:Int)) 64)≤(l1.length:Int) then ((sum_products.f k (l0.take ((mn (mn (l0.length:Int) (l1.length:Int)) 64):Int).toNat) (l1.take ((mn (mn (l0.length:Int) (l1.length:Int)) 64):Int).toNat)).bind fun bt199=>((scale_Round.f k bt199.1 bt199.2).bind fun bt201=>(if bt201.2=true then (some (bt201.1,true)) else ((sum_changed.f k (l0.take ((mn (mn (l0.length:Int) (l1.length:Int)) 64):Int).toNat)).bind fun t203=>(if t203=true then (some (bt201.1,true)) else ((sum_changed.f k (l1.take ((mn (mn (l0.length:Int) (l1.length:Int)) 64):Int).toNat)).bind fun t204=>(some (bt201.1,t204)))))))) else (none)) else (none)) else (none)
theorem sum_Dot.mono:∀ a0 a1 k,LeO (sum_Dot.f k a0 a1) (sum_Dot.f (k+1) a0 a1):=by
 intro a0 a1 k
 unfold sum_Dot.f
 repeat' first
   | (with_reducible exact scale_Round.mono _ _ _)
   | (with_reducible exact sum_changed.mono _ _)
   | (with_reducible exact sum_products.mono _ _ _)
   | (with_reducible exact LeO.refl _)
   | (with_reducible exact LeO.none _)
   | (with_reducible refine LeO.ite ?_ ?_)
   | (with_reducible refine LeO.bind ?_ (fun _=>?_))
   | exact scale_Round.mono _ _ _
   | exact sum_changed.mono _ _
   | exact sum_products.mono _ _ _
   | exact LeO.none _
   | refine LeO.ite ?_ ?_
   | refine LeO.bind ?_ (fun _=>?_)
set_option maxHeartbeats 8000000 in
set_option maxRecDepth 100000 in
theorem sum_Dot.calls (k:Nat) (A0:Option Addr) (c0:Nat) (l0:List Int) (A1:Option Addr) (c1:Nat) (l1:List Int) (r1:Int) (r2:Bool) (w:World) (hr0:Kd.C (Kd.int .i64) w A0 l0.length l0) (hc0:l0.length≤c0) (hr1:Kd.C (Kd.int .i64) w A1 l1.length l1) (hc1:l1.length≤c1) (h:sum_Dot.f k l0 l1=some (r1,r2)) :
  Calls Try.prog 33 #[.slice A0 l0.length c0,.slice A1 l1.length c1] w fun e w'=>e=.returned (.tuple #[.int .i64 r1,.bool r2])∧Below w.heap.size w w':=by
 have HR0:=Aside0.mk hr0
 have HC0:=Aside0.mk hc0
 clear hr0 hc0
 have HR1:=Aside0.mk hr1
 have HC1:=Aside0.mk hc1
 clear hr1 hc1
 have HB:=Aside0.mk (Below.refl w.heap.size w)
 have H:(if 0≤(mn (mn (l0.length:Int) (l1.length:Int)) 64) then (if (mn (mn (l0.length:Int) (l1.length:Int)) 64)≤(l0.length:Int) then (if (mn (mn (l0.length:Int) (l1.length:Int)) 64)≤(l1.length:Int) then ((sum_products.f k (l0.take ((mn (mn (l0.length:Int) (l1.length:Int)) 64):Int).toNat) (l1.take ((mn (mn (l0.length:Int) (l1.length:Int)) 64):Int).toNat)).bind fun bt199=>((scale_Round.f k bt199.1 bt199.2).bind fun bt201=>(if bt201.2=true then (some (bt201.1,true)) else ((sum_changed.f k (l0.take ((mn (mn (l0.length:Int) (l1.length:Int)) 64):Int).toNat)).bind fun t203=>(if t203=true then (some (bt201.1,true)) else ((sum_changed.f k (l1.take ((mn (mn (l0.length:Int) (l1.length:Int)) 64):Int).toNat)).bind fun t204=>(some (bt201.1,t204)))))))) else (none)) else (none)) else (none))=some (r1,r2):=h
 clear h
 obtain⟨ji3,hji3⟩:∃ j_:Int,(mn (l0.length:Int) (l1.length:Int))=j_:=⟨_,rfl⟩
 replace H:(if 0≤(mn (ji3) 64) then (if (mn (ji3) 64)≤(l0.length:Int) then (if (mn (ji3) 64)≤(l1.length:Int) then ((sum_products.f k (l0.take ((mn (ji3) 64):Int).toNat) (l1.take ((mn (ji3) 64):Int).toNat)).bind fun bt199=>((scale_Round.f k bt199.1 bt199.2).bind fun bt201=>(if bt201.2=true then (some (bt201.1,true)) else ((sum_changed.f k (l0.take ((mn (ji3) 64):Int).toNat)).bind fun t203=>(if t203=true then (some (bt201.1,true)) else ((sum_changed.f k (l1.take ((mn (ji3) 64):Int).toNat)).bind fun t204=>(some (bt201.1,t204)))))))) else (none)) else (none)) else (none))=some (r1,r2):=by first|(rw [hji3] at H;exact H)|(simp only [hji3] at H ⊢;exact H)
 (try (have hji3l:0≤ji3:=by (rw [←hji3];unfold mn;(repeat' split)<;>omega)))
 (try (have hji3m:0≤ji3:=by omega))
 have hji3_:(if (l1.length:Int)<(l0.length:Int) then (l1.length:Int) else (l0.length:Int))=ji3:=hji3
 have hji3n:(if l1.length<l0.length then (l1.length:Int) else (l0.length:Int))=ji3:=by rw [←hji3_];simp only [Int.ofNat_lt]
 obtain⟨ji4,hji4⟩:∃ j_:Int,(mn (ji3) 64)=j_:=⟨_,rfl⟩
 replace H:(if 0≤(ji4) then (if (ji4)≤(l0.length:Int) then (if (ji4)≤(l1.length:Int) then ((sum_products.f k (l0.take ((ji4):Int).toNat) (l1.take ((ji4):Int).toNat)).bind fun bt199=>((scale_Round.f k bt199.1 bt199.2).bind fun bt201=>(if bt201.2=true then (some (bt201.1,true)) else ((sum_changed.f k (l0.take ((ji4):Int).toNat)).bind fun t203=>(if t203=true then (some (bt201.1,true)) else ((sum_changed.f k (l1.take ((ji4):Int).toNat)).bind fun t204=>(some (bt201.1,t204)))))))) else (none)) else (none)) else (none))=some (r1,r2):=by first|(rw [hji4] at H;exact H)|(simp only [hji4] at H ⊢;exact H)
 have hji4_:(if 64<(ji3) then 64 else (ji3))=ji4:=hji4
 have hji4h:ji4≤64:=by rw [←hji4];unfold mn;split<;>omega
 obtain⟨m0,hm0⟩:∃ m_:List Int,(l0.take ((ji4):Int).toNat)=m_:=⟨_,rfl⟩
 obtain⟨m1,hm1⟩:∃ m_:List Int,(l1.take ((ji4):Int).toNat)=m_:=⟨_,rfl⟩
 rw [hm0,hm1] at H
 have hm9:=Aside0.mk (show m0.length≤64 by rw [←hm0,List.length_take];omega)
 have hm8:=Aside0.mk (show m1.length≤64 by rw [←hm1,List.length_take];omega)
 by_cases c5:0≤(ji4)
 ·rw [if_pos c5] at H
  have c5b0:=eq_true c5
  have c5b1:decide (0≤(ji4))=true:=decide_eq_true c5
  clear c5
  by_cases c6:(ji4)≤(l0.length:Int)
  ·rw [if_pos c6] at H
   have c6b0:=eq_true c6
   have c6b1:decide ((ji4)≤(l0.length:Int))=true:=decide_eq_true c6
   clear c6
   have c7b0:=eq_true (of_decide_eq_true (by first|(with_reducible assumption)|assumption):0≤(ji4))
   by_cases c8:(ji4)≤(l1.length:Int)
   ·rw [if_pos c8] at H
    have c8b0:=eq_true c8
    have c8b1:decide ((ji4)≤(l1.length:Int))=true:=decide_eq_true c8
    clear c8
    replace H:=Option.bind_eq_some_iff.mp H
    obtain⟨⟨t199,t200⟩,A90,H⟩:=H
    replace H:((scale_Round.f k t199 t200).bind fun bt201=>(if bt201.2=true then (some (bt201.1,true)) else ((sum_changed.f k m0).bind fun t203=>(if t203=true then (some (bt201.1,true)) else ((sum_changed.f k m1).bind fun t204=>(some (bt201.1,t204)))))))=some (r1,r2):=H
    have A9:=Aside0.mk A90
    clear A90
    replace H:=Option.bind_eq_some_iff.mp H
    obtain⟨⟨t201,t202⟩,A100,H⟩:=H
    replace H:(if t202=true then (some (t201,true)) else ((sum_changed.f k m0).bind fun t203=>(if t203=true then (some (t201,true)) else ((sum_changed.f k m1).bind fun t204=>(some (t201,t204))))))=some (r1,r2):=H
    have A10:=Aside0.mk A100
    clear A100
    by_cases c11:t202=true
    ·subst c11
     have H1:(some (t201,true))=some (r1,r2):=by rw [if_pos rfl] at H;exact H
     clear H
     have H:=H1
     clear H1
     simp only [Option.some.injEq,Prod.mk.injEq] at H
     obtain⟨rfl,rfl⟩:=H
     obtain⟨i012,hi012,_,hsz12,_⟩:=info_parts info3
     obtain⟨hcut12,hA12,hC12⟩:=print_take_of (P:=Try.prog) (Value.int .i64) 0 23 3 .i64 Try.underlying23 hi012 hsz12 A0 c0 l0 (ji4) (of_decide_eq_true (by first|(with_reducible assumption)|assumption)) (of_decide_eq_true (by first|(with_reducible assumption)|assumption)) HC0.out
     rw [hm0] at hA12 hC12
     simp only [hm0] at hcut12
     have HR197:=Aside0.mk (Kd.C_of_reads (h1:=fun _=>rfl) (hA12 _ (Kd.reads_of_C HR0.out)))
     have HC197:=Aside0.mk hC12
     clear hA12 hC12 hi012 hsz12
     obtain⟨i013,hi013,_,hsz13,_⟩:=info_parts info3
     obtain⟨hcut13,hA13,hC13⟩:=print_take_of (P:=Try.prog) (Value.int .i64) 0 23 3 .i64 Try.underlying23 hi013 hsz13 A1 c1 l1 (ji4) (of_decide_eq_true (by first|(with_reducible assumption)|assumption)) (of_decide_eq_true (by first|(with_reducible assumption)|assumption)) HC1.out
     rw [hm1] at hA13 hC13
     simp only [hm1] at hcut13
     have HR198:=Aside0.mk (Kd.C_of_reads (h1:=fun _=>rfl) (hA13 _ (Kd.reads_of_C HR1.out)))
     have HC198:=Aside0.mk hC13
     clear hA13 hC13 hi013 hsz13
     go_enter Try.func33,Try.ntmps33
     go_wp2_with (first|(go_at_call 53;(with_reducible refine(sum_products.calls k _ _ m0 _ _ m1 t199 t200 _ ?side1 ?side2 ?side3 ?side4 ?side9 A9.out).mono ?_);(case side1=>first|exact HR197.out|exact kC HR197.out);(case side2=>exact HC197.out);(case side3=>first|exact HR198.out|exact kC HR198.out);(case side4=>exact HC198.out);(case side9=>first|exact hm9.out|exact hm8.out|(rw [List.length_take];omega));rintro e w14 ⟨B1_,B2_,rfl,hG_,hb⟩;have n0_:=Aside0.mk (below_step (by first|with_reducible exact HB.out|exact bl HB) hb);clear HB;have HB:=n0_;clear n0_;(try clear hb);(try clear hb2);(try clear hk);(try clear hi))|(go_at_call 46;(with_reducible refine(sum_add.calls _ _ t199 t200 _ ?sideG).mono ?_);(case sideG=>first|exact hG_|exact hG_.later (by repeat (first|exact Below.refl _ _|apply below_alloc|apply pw_below_drewN|apply below_drew1)));rintro e w14_ ⟨rfl,hb⟩;have n0_:=Aside0.mk (below_step (by first|with_reducible exact HB.out|exact bl HB) hb);clear HB;have HB:=n0_;clear n0_;(try clear hb);(try clear hb2);(try clear hk);(try clear hi))|(go_at_call 52;(with_reducible refine(scale_Round.calls k t199 t200 t201 true _ A10.out).mono ?_);rintro e w15 ⟨rfl,hb⟩;have n0_:=Aside0.mk (below_step (by first|with_reducible exact HB.out|exact bl HB) hb);clear HB;have HB:=n0_;clear n0_;(try clear hb);(try clear hb2);(try clear hk);(try clear hi)))
     repeat (go_quiet (first|(go_at_call 53;(with_reducible refine(sum_products.calls k _ _ m0 _ _ m1 t199 t200 _ ?side1 ?side2 ?side3 ?side4 A9.out).mono ?_);(case side1=>first|exact HR197.out|exact kC HR197.out);(case side2=>exact HC197.out);(case side3=>first|exact HR198.out|exact kC HR198.out);(case side4=>exact HC198.out);rintro e w14 ⟨rfl,hb⟩;have n0_:=Aside0.mk (below_step (by first|with_reducible exact HB.out|exact bl HB) hb);clear HB;have HB:=n0_;clear n0_;(try clear hb);(try clear hb2);(try clear hk);(try clear hi))|(go_at_call 52;(with_reducible refine(scale_Round.calls k t199 t200 t201 true _ A10.out).mono ?_);rintro e w15 ⟨rfl,hb⟩;have n0_:=Aside0.mk (below_step (by first|with_reducible exact HB.out|exact bl HB) hb);clear HB;have HB:=n0_;clear n0_;(try clear hb);(try clear hb2);(try clear hk);(try clear hi)));try go_wp2_with (first|(go_at_call 53;(with_reducible refine(sum_products.calls k _ _ m0 _ _ m1 t199 t200 _ ?side1 ?side2 ?side3 ?side4 ?side9 A9.out).mono ?_);(case side1=>first|exact HR197.out|exact kC HR197.out);(case side2=>exact HC197.out);(case side3=>first|exact HR198.out|exact kC HR198.out);(case side4=>exact HC198.out);(case side9=>first|exact hm9.out|exact hm8.out|(rw [List.length_take];omega));rintro e w14 ⟨B1_,B2_,rfl,hG_,hb⟩;have n0_:=Aside0.mk (below_step (by first|with_reducible exact HB.out|exact bl HB) hb);clear HB;have HB:=n0_;clear n0_;(try clear hb);(try clear hb2);(try clear hk);(try clear hi))|(go_at_call 46;(with_reducible refine(sum_add.calls _ _ t199 t200 _ ?sideG).mono ?_);(case sideG=>first|exact hG_|exact hG_.later (by repeat (first|exact Below.refl _ _|apply below_alloc|apply pw_below_drewN|apply below_drew1)));rintro e w14_ ⟨rfl,hb⟩;have n0_:=Aside0.mk (below_step (by first|with_reducible exact HB.out|exact bl HB) hb);clear HB;have HB:=n0_;clear n0_;(try clear hb);(try clear hb2);(try clear hk);(try clear hi))|(go_at_call 52;(with_reducible refine(scale_Round.calls k t199 t200 t201 true _ A10.out).mono ?_);rintro e w15 ⟨rfl,hb⟩;have n0_:=Aside0.mk (below_step (by first|with_reducible exact HB.out|exact bl HB) hb);clear HB;have HB:=n0_;clear n0_;(try clear hb);(try clear hb2);(try clear hk);(try clear hi))))
     go_ret2
     exact⟨by first|rfl|(simp [errW_none,errW_some]<;>rfl)|(simp only [←hji3,←hji4];first|rfl|(simp [errW_none,errW_some]<;>rfl))|(simp [*,errW_none,errW_some]<;>rfl),by first|with_reducible exact HB.out|exact bl HB⟩
    ·replace c11:=Bool.eq_false_iff.mpr c11
     subst c11
     have H1:((sum_changed.f k m0).bind fun t203=>(if t203=true then (some (t201,true)) else ((sum_changed.f k m1).bind fun t204=>(some (t201,t204)))))=some (r1,r2):=by rw [if_neg (show ¬(false=true) by decide)] at H;exact H
     clear H
     have H:=H1
     clear H1
     replace H:=Option.bind_eq_some_iff.mp H
     obtain⟨t203,A160,H⟩:=H
     replace H:(if t203=true then (some (t201,true)) else ((sum_changed.f k m1).bind fun t204=>(some (t201,t204))))=some (r1,r2):=H
     have A16:=Aside0.mk A160
     clear A160
     by_cases c17:t203=true
     ·subst c17
      have H1:(some (t201,true))=some (r1,r2):=by rw [if_pos rfl] at H;exact H
      clear H
      have H:=H1
      clear H1
      simp only [Option.some.injEq,Prod.mk.injEq] at H
      obtain⟨rfl,rfl⟩:=H
      obtain⟨i018,hi018,_,hsz18,_⟩:=info_parts info3
      obtain⟨hcut18,hA18,hC18⟩:=print_take_of (P:=Try.prog) (Value.int .i64) 0 23 3 .i64 Try.underlying23 hi018 hsz18 A0 c0 l0 (ji4) (of_decide_eq_true (by first|(with_reducible assumption)|assumption)) (of_decide_eq_true (by first|(with_reducible assumption)|assumption)) HC0.out
      rw [hm0] at hA18 hC18
      simp only [hm0] at hcut18
      have HR197:=Aside0.mk (Kd.C_of_reads (h1:=fun _=>rfl) (hA18 _ (Kd.reads_of_C HR0.out)))
      have HC197:=Aside0.mk hC18
      clear hA18 hC18 hi018 hsz18
      obtain⟨i019,hi019,_,hsz19,_⟩:=info_parts info3
      obtain⟨hcut19,hA19,hC19⟩:=print_take_of (P:=Try.prog) (Value.int .i64) 0 23 3 .i64 Try.underlying23 hi019 hsz19 A1 c1 l1 (ji4) (of_decide_eq_true (by first|(with_reducible assumption)|assumption)) (of_decide_eq_true (by first|(with_reducible assumption)|assumption)) HC1.out
      rw [hm1] at hA19 hC19
      simp only [hm1] at hcut19
      have HR198:=Aside0.mk (Kd.C_of_reads (h1:=fun _=>rfl) (hA19 _ (Kd.reads_of_C HR1.out)))
      have HC198:=Aside0.mk hC19
      clear hA19 hC19 hi019 hsz19
      go_enter Try.func33,Try.ntmps33
      go_wp2_with (first|(go_at_call 53;(with_reducible refine(sum_products.calls k _ _ m0 _ _ m1 t199 t200 _ ?side1 ?side2 ?side3 ?side4 ?side9 A9.out).mono ?_);(case side1=>first|exact HR197.out|exact kC HR197.out);(case side2=>exact HC197.out);(case side3=>first|exact HR198.out|exact kC HR198.out);(case side4=>exact HC198.out);(case side9=>first|exact hm9.out|exact hm8.out|(rw [List.length_take];omega));rintro e w20 ⟨B1_,B2_,rfl,hG_,hb⟩;have n0_:=Aside0.mk (below_step (by first|with_reducible exact HB.out|exact bl HB) hb);clear HB;have HB:=n0_;clear n0_;(try clear hb);(try clear hb2);(try clear hk);(try clear hi))|(go_at_call 46;(with_reducible refine(sum_add.calls _ _ t199 t200 _ ?sideG).mono ?_);(case sideG=>first|exact hG_|exact hG_.later (by repeat (first|exact Below.refl _ _|apply below_alloc|apply pw_below_drewN|apply below_drew1)));rintro e w20_ ⟨rfl,hb⟩;have n0_:=Aside0.mk (below_step (by first|with_reducible exact HB.out|exact bl HB) hb);clear HB;have HB:=n0_;clear n0_;(try clear hb);(try clear hb2);(try clear hk);(try clear hi))|(go_at_call 52;(with_reducible refine(scale_Round.calls k t199 t200 t201 false _ A10.out).mono ?_);rintro e w21 ⟨rfl,hb⟩;have n0_:=Aside0.mk (below_step (by first|with_reducible exact HB.out|exact bl HB) hb);clear HB;have HB:=n0_;clear n0_;(try clear hb);(try clear hb2);(try clear hk);(try clear hi))|(go_at_call 48;(with_reducible refine(sum_changed.calls k _ _ m0 true _ ?side1 ?side2 ?side9 A16.out).mono ?_);(case side1=>first|exact(Kd.C_below HR197.out HB.out)|exact kC (Kd.C_below HR197.out HB.out));(case side2=>exact HC197.out);(case side9=>first|exact hm9.out|exact hm8.out|(rw [List.length_take];omega));rintro e w22 ⟨rfl,hb⟩;have n0_:=Aside0.mk (below_step (by first|with_reducible exact HB.out|exact bl HB) hb);clear HB;have HB:=n0_;clear n0_;(try clear hb);(try clear hb2);(try clear hk);(try clear hi)))
      repeat (go_quiet (first|(go_at_call 53;(with_reducible refine(sum_products.calls k _ _ m0 _ _ m1 t199 t200 _ ?side1 ?side2 ?side3 ?side4 A9.out).mono ?_);(case side1=>first|exact HR197.out|exact kC HR197.out);(case side2=>exact HC197.out);(case side3=>first|exact HR198.out|exact kC HR198.out);(case side4=>exact HC198.out);rintro e w20 ⟨rfl,hb⟩;have n0_:=Aside0.mk (below_step (by first|with_reducible exact HB.out|exact bl HB) hb);clear HB;have HB:=n0_;clear n0_;(try clear hb);(try clear hb2);(try clear hk);(try clear hi))|(go_at_call 52;(with_reducible refine(scale_Round.calls k t199 t200 t201 false _ A10.out).mono ?_);rintro e w21 ⟨rfl,hb⟩;have n0_:=Aside0.mk (below_step (by first|with_reducible exact HB.out|exact bl HB) hb);clear HB;have HB:=n0_;clear n0_;(try clear hb);(try clear hb2);(try clear hk);(try clear hi))|(go_at_call 48;(with_reducible refine(sum_changed.calls k _ _ m0 true _ ?side1 ?side2 A16.out).mono ?_);(case side1=>first|exact(Kd.C_below HR197.out HB.out)|exact kC (Kd.C_below HR197.out HB.out));(case side2=>exact HC197.out);rintro e w22 ⟨rfl,hb⟩;have n0_:=Aside0.mk (below_step (by first|with_reducible exact HB.out|exact bl HB) hb);clear HB;have HB:=n0_;clear n0_;(try clear hb);(try clear hb2);(try clear hk);(try clear hi)));try go_wp2_with (first|(go_at_call 53;(with_reducible refine(sum_products.calls k _ _ m0 _ _ m1 t199 t200 _ ?side1 ?side2 ?side3 ?side4 ?side9 A9.out).mono ?_);(case side1=>first|exact HR197.out|exact kC HR197.out);(case side2=>exact HC197.out);(case side3=>first|exact HR198.out|exact kC HR198.out);(case side4=>exact HC198.out);(case side9=>first|exact hm9.out|exact hm8.out|(rw [List.length_take];omega));rintro e w20 ⟨B1_,B2_,rfl,hG_,hb⟩;have n0_:=Aside0.mk (below_step (by first|with_reducible exact HB.out|exact bl HB) hb);clear HB;have HB:=n0_;clear n0_;(try clear hb);(try clear hb2);(try clear hk);(try clear hi))|(go_at_call 46;(with_reducible refine(sum_add.calls _ _ t199 t200 _ ?sideG).mono ?_);(case sideG=>first|exact hG_|exact hG_.later (by repeat (first|exact Below.refl _ _|apply below_alloc|apply pw_below_drewN|apply below_drew1)));rintro e w20_ ⟨rfl,hb⟩;have n0_:=Aside0.mk (below_step (by first|with_reducible exact HB.out|exact bl HB) hb);clear HB;have HB:=n0_;clear n0_;(try clear hb);(try clear hb2);(try clear hk);(try clear hi))|(go_at_call 52;(with_reducible refine(scale_Round.calls k t199 t200 t201 false _ A10.out).mono ?_);rintro e w21 ⟨rfl,hb⟩;have n0_:=Aside0.mk (below_step (by first|with_reducible exact HB.out|exact bl HB) hb);clear HB;have HB:=n0_;clear n0_;(try clear hb);(try clear hb2);(try clear hk);(try clear hi))|(go_at_call 48;(with_reducible refine(sum_changed.calls k _ _ m0 true _ ?side1 ?side2 ?side9 A16.out).mono ?_);(case side1=>first|exact(Kd.C_below HR197.out HB.out)|exact kC (Kd.C_below HR197.out HB.out));(case side2=>exact HC197.out);(case side9=>first|exact hm9.out|exact hm8.out|(rw [List.length_take];omega));rintro e w22 ⟨rfl,hb⟩;have n0_:=Aside0.mk (below_step (by first|with_reducible exact HB.out|exact bl HB) hb);clear HB;have HB:=n0_;clear n0_;(try clear hb);(try clear hb2);(try clear hk);(try clear hi))))
      go_ret2
      exact⟨by first|rfl|(simp [errW_none,errW_some]<;>rfl)|(simp only [←hji3,←hji4];first|rfl|(simp [errW_none,errW_some]<;>rfl))|(simp [*,errW_none,errW_some]<;>rfl),by first|with_reducible exact HB.out|exact bl HB⟩
     ·replace c17:=Bool.eq_false_iff.mpr c17
      subst c17
      have H1:((sum_changed.f k m1).bind fun t204=>(some (t201,t204)))=some (r1,r2):=by rw [if_neg (show ¬(false=true) by decide)] at H;exact H
      clear H
      have H:=H1
      clear H1
      replace H:=Option.bind_eq_some_iff.mp H
      obtain⟨t204,A230,H⟩:=H
      replace H:(some (t201,t204))=some (r1,r2):=H
      have A23:=Aside0.mk A230
      clear A230
      simp only [Option.some.injEq,Prod.mk.injEq] at H
      obtain⟨rfl,rfl⟩:=H
      obtain⟨i024,hi024,_,hsz24,_⟩:=info_parts info3
      obtain⟨hcut24,hA24,hC24⟩:=print_take_of (P:=Try.prog) (Value.int .i64) 0 23 3 .i64 Try.underlying23 hi024 hsz24 A0 c0 l0 (ji4) (of_decide_eq_true (by first|(with_reducible assumption)|assumption)) (of_decide_eq_true (by first|(with_reducible assumption)|assumption)) HC0.out
      rw [hm0] at hA24 hC24
      simp only [hm0] at hcut24
      have HR197:=Aside0.mk (Kd.C_of_reads (h1:=fun _=>rfl) (hA24 _ (Kd.reads_of_C HR0.out)))
      have HC197:=Aside0.mk hC24
      clear hA24 hC24 hi024 hsz24
      obtain⟨i025,hi025,_,hsz25,_⟩:=info_parts info3
      obtain⟨hcut25,hA25,hC25⟩:=print_take_of (P:=Try.prog) (Value.int .i64) 0 23 3 .i64 Try.underlying23 hi025 hsz25 A1 c1 l1 (ji4) (of_decide_eq_true (by first|(with_reducible assumption)|assumption)) (of_decide_eq_true (by first|(with_reducible assumption)|assumption)) HC1.out
      rw [hm1] at hA25 hC25
      simp only [hm1] at hcut25
      have HR198:=Aside0.mk (Kd.C_of_reads (h1:=fun _=>rfl) (hA25 _ (Kd.reads_of_C HR1.out)))
      have HC198:=Aside0.mk hC25
      clear hA25 hC25 hi025 hsz25
      go_enter Try.func33,Try.ntmps33
      go_wp2_with (first|(go_at_call 53;(with_reducible refine(sum_products.calls k _ _ m0 _ _ m1 t199 t200 _ ?side1 ?side2 ?side3 ?side4 ?side9 A9.out).mono ?_);(case side1=>first|exact HR197.out|exact kC HR197.out);(case side2=>exact HC197.out);(case side3=>first|exact HR198.out|exact kC HR198.out);(case side4=>exact HC198.out);(case side9=>first|exact hm9.out|exact hm8.out|(rw [List.length_take];omega));rintro e w26 ⟨B1_,B2_,rfl,hG_,hb⟩;have n0_:=Aside0.mk (below_step (by first|with_reducible exact HB.out|exact bl HB) hb);clear HB;have HB:=n0_;clear n0_;(try clear hb);(try clear hb2);(try clear hk);(try clear hi))|(go_at_call 46;(with_reducible refine(sum_add.calls _ _ t199 t200 _ ?sideG).mono ?_);(case sideG=>first|exact hG_|exact hG_.later (by repeat (first|exact Below.refl _ _|apply below_alloc|apply pw_below_drewN|apply below_drew1)));rintro e w26_ ⟨rfl,hb⟩;have n0_:=Aside0.mk (below_step (by first|with_reducible exact HB.out|exact bl HB) hb);clear HB;have HB:=n0_;clear n0_;(try clear hb);(try clear hb2);(try clear hk);(try clear hi))|(go_at_call 52;(with_reducible refine(scale_Round.calls k t199 t200 t201 false _ A10.out).mono ?_);rintro e w27 ⟨rfl,hb⟩;have n0_:=Aside0.mk (below_step (by first|with_reducible exact HB.out|exact bl HB) hb);clear HB;have HB:=n0_;clear n0_;(try clear hb);(try clear hb2);(try clear hk);(try clear hi))|(go_at_call 48;(with_reducible refine(sum_changed.calls k _ _ m0 false _ ?side1 ?side2 ?side9 A16.out).mono ?_);(case side1=>first|exact(Kd.C_below HR197.out HB.out)|exact kC (Kd.C_below HR197.out HB.out));(case side2=>exact HC197.out);(case side9=>first|exact hm9.out|exact hm8.out|(rw [List.length_take];omega));rintro e w28 ⟨rfl,hb⟩;have n0_:=Aside0.mk (below_step (by first|with_reducible exact HB.out|exact bl HB) hb);clear HB;have HB:=n0_;clear n0_;(try clear hb);(try clear hb2);(try clear hk);(try clear hi))|(go_at_call 48;(with_reducible refine(sum_changed.calls k _ _ m1 t204 _ ?side1 ?side2 ?side9 A23.out).mono ?_);(case side1=>first|exact(Kd.C_below HR198.out HB.out)|exact kC (Kd.C_below HR198.out HB.out));(case side2=>exact HC198.out);(case side9=>first|exact hm9.out|exact hm8.out|(rw [List.length_take];omega));rintro e w29 ⟨rfl,hb⟩;have n0_:=Aside0.mk (below_step (by first|with_reducible exact HB.out|exact bl HB) hb);clear HB;have HB:=n0_;clear n0_;(try clear hb);(try clear hb2);(try clear hk);(try clear hi)))
      repeat (go_quiet (first|(go_at_call 53;(with_reducible refine(sum_products.calls k _ _ m0 _ _ m1 t199 t200 _ ?side1 ?side2 ?side3 ?side4 A9.out).mono ?_);(case side1=>first|exact HR197.out|exact kC HR197.out);(case side2=>exact HC197.out);(case side3=>first|exact HR198.out|exact kC HR198.out);(case side4=>exact HC198.out);rintro e w26 ⟨rfl,hb⟩;have n0_:=Aside0.mk (below_step (by first|with_reducible exact HB.out|exact bl HB) hb);clear HB;have HB:=n0_;clear n0_;(try clear hb);(try clear hb2);(try clear hk);(try clear hi))|(go_at_call 52;(with_reducible refine(scale_Round.calls k t199 t200 t201 false _ A10.out).mono ?_);rintro e w27 ⟨rfl,hb⟩;have n0_:=Aside0.mk (below_step (by first|with_reducible exact HB.out|exact bl HB) hb);clear HB;have HB:=n0_;clear n0_;(try clear hb);(try clear hb2);(try clear hk);(try clear hi))|(go_at_call 48;(with_reducible refine(sum_changed.calls k _ _ m0 false _ ?side1 ?side2 A16.out).mono ?_);(case side1=>first|exact(Kd.C_below HR197.out HB.out)|exact kC (Kd.C_below HR197.out HB.out));(case side2=>exact HC197.out);rintro e w28 ⟨rfl,hb⟩;have n0_:=Aside0.mk (below_step (by first|with_reducible exact HB.out|exact bl HB) hb);clear HB;have HB:=n0_;clear n0_;(try clear hb);(try clear hb2);(try clear hk);(try clear hi))|(go_at_call 48;(with_reducible refine(sum_changed.calls k _ _ m1 t204 _ ?side1 ?side2 A23.out).mono ?_);(case side1=>first|exact(Kd.C_below HR198.out HB.out)|exact kC (Kd.C_below HR198.out HB.out));(case side2=>exact HC198.out);rintro e w29 ⟨rfl,hb⟩;have n0_:=Aside0.mk (below_step (by first|with_reducible exact HB.out|exact bl HB) hb);clear HB;have HB:=n0_;clear n0_;(try clear hb);(try clear hb2);(try clear hk);(try clear hi)));try go_wp2_with (first|(go_at_call 53;(with_reducible refine(sum_products.calls k _ _ m0 _ _ m1 t199 t200 _ ?side1 ?side2 ?side3 ?side4 ?side9 A9.out).mono ?_);(case side1=>first|exact HR197.out|exact kC HR197.out);(case side2=>exact HC197.out);(case side3=>first|exact HR198.out|exact kC HR198.out);(case side4=>exact HC198.out);(case side9=>first|exact hm9.out|exact hm8.out|(rw [List.length_take];omega));rintro e w26 ⟨B1_,B2_,rfl,hG_,hb⟩;have n0_:=Aside0.mk (below_step (by first|with_reducible exact HB.out|exact bl HB) hb);clear HB;have HB:=n0_;clear n0_;(try clear hb);(try clear hb2);(try clear hk);(try clear hi))|(go_at_call 46;(with_reducible refine(sum_add.calls _ _ t199 t200 _ ?sideG).mono ?_);(case sideG=>first|exact hG_|exact hG_.later (by repeat (first|exact Below.refl _ _|apply below_alloc|apply pw_below_drewN|apply below_drew1)));rintro e w26_ ⟨rfl,hb⟩;have n0_:=Aside0.mk (below_step (by first|with_reducible exact HB.out|exact bl HB) hb);clear HB;have HB:=n0_;clear n0_;(try clear hb);(try clear hb2);(try clear hk);(try clear hi))|(go_at_call 52;(with_reducible refine(scale_Round.calls k t199 t200 t201 false _ A10.out).mono ?_);rintro e w27 ⟨rfl,hb⟩;have n0_:=Aside0.mk (below_step (by first|with_reducible exact HB.out|exact bl HB) hb);clear HB;have HB:=n0_;clear n0_;(try clear hb);(try clear hb2);(try clear hk);(try clear hi))|(go_at_call 48;(with_reducible refine(sum_changed.calls k _ _ m0 false _ ?side1 ?side2 ?side9 A16.out).mono ?_);(case side1=>first|exact(Kd.C_below HR197.out HB.out)|exact kC (Kd.C_below HR197.out HB.out));(case side2=>exact HC197.out);(case side9=>first|exact hm9.out|exact hm8.out|(rw [List.length_take];omega));rintro e w28 ⟨rfl,hb⟩;have n0_:=Aside0.mk (below_step (by first|with_reducible exact HB.out|exact bl HB) hb);clear HB;have HB:=n0_;clear n0_;(try clear hb);(try clear hb2);(try clear hk);(try clear hi))|(go_at_call 48;(with_reducible refine(sum_changed.calls k _ _ m1 t204 _ ?side1 ?side2 ?side9 A23.out).mono ?_);(case side1=>first|exact(Kd.C_below HR198.out HB.out)|exact kC (Kd.C_below HR198.out HB.out));(case side2=>exact HC198.out);(case side9=>first|exact hm9.out|exact hm8.out|(rw [List.length_take];omega));rintro e w29 ⟨rfl,hb⟩;have n0_:=Aside0.mk (below_step (by first|with_reducible exact HB.out|exact bl HB) hb);clear HB;have HB:=n0_;clear n0_;(try clear hb);(try clear hb2);(try clear hk);(try clear hi))))
      go_ret2
      exact⟨by first|rfl|(simp [errW_none,errW_some]<;>rfl)|(simp only [←hji3,←hji4];first|rfl|(simp [errW_none,errW_some]<;>rfl))|(simp [*,errW_none,errW_some]<;>rfl),by first|with_reducible exact HB.out|exact bl HB⟩
   ·rw [if_neg c8] at H
    exact absurd H (by simp)
  ·rw [if_neg c6] at H
   exact absurd H (by simp)
 ·rw [if_neg c5] at H
  exact absurd H (by simp)
def mat_matrix_column.l0:Nat→List (List Int)→Int→List Int→Int→Int→Option (List Int)
  | 0,_,_,_,_,_=>none
  | k+1,x0,x1,x5,x11,x12=>if x12<x11 then (if 0≤x12 then (if x12<(x0.length:Int) then (if 0≤x1 then (if x1<((rd_L1 x0 x12).length:Int) then (if x12<(x5.length:Int) then (mat_matrix_column.l0 k x0 x1 (x5.set (x12:Int).toNat (rd (rd_L1 x0 x12) x1)) x11 (wrap64 (x12+1))) else (none)) else (none)) else (none)) else (none)) else (none)) else (some x5)
def mat_matrix_column.f (k:Nat) (l0:List (List Int)) (a1:Int):Option (List Int):=if a1≤1000 then (if 0≤(l0.length:Int) then (if ((l0.length:Int):Int).toNat≤35184372088832 then (mat_matrix_column.l0 k l0 a1 (List.replicate ((l0.length:Int):Int).toNat 0) (l0.length:Int) 0) else (none)) else (none)) else (none)
theorem mat_matrix_column.mono_l:∀ k,(∀ y0 y1 y2 y3 y4,LeO (mat_matrix_column.l0 k y0 y1 y2 y3 y4) (mat_matrix_column.l0 (k+1) y0 y1 y2 y3 y4))
 | 0=>fun _ _ _ _ _ r h=>by simp [mat_matrix_column.l0] at h
 | k+1=>by
  have ih0:=mat_matrix_column.mono_l k
  ·intro y0 y1 y2 y3 y4
   unfold mat_matrix_column.l0
   repeat' first
   | (with_reducible exact ih0 _ _ _ _ _)
   | (with_reducible exact LeO.refl _)
   | (with_reducible exact LeO.none _)
   | (with_reducible refine LeO.ite ?_ ?_)
   | (with_reducible refine LeO.bind ?_ (fun _=>?_))
   | exact ih0 _ _ _ _ _
   | exact LeO.none _
   | refine LeO.ite ?_ ?_
   | refine LeO.bind ?_ (fun _=>?_)
theorem mat_matrix_column.mono:∀ a0 a1 k,LeO (mat_matrix_column.f k a0 a1) (mat_matrix_column.f (k+1) a0 a1):=by
 intro a0 a1 k
 have ih0:=mat_matrix_column.mono_l k
 unfold mat_matrix_column.f
 repeat' first
   | (with_reducible exact ih0 _ _ _ _ _)
   | (with_reducible exact LeO.refl _)
   | (with_reducible exact LeO.none _)
   | (with_reducible refine LeO.ite ?_ ?_)
   | (with_reducible refine LeO.bind ?_ (fun _=>?_))
   | exact ih0 _ _ _ _ _
   | exact LeO.none _
   | refine LeO.ite ?_ ?_
   | refine LeO.bind ?_ (fun _=>?_)
def mat_matrix_column.T5:Bool × List (List Nat × List Nat):=(true,[([],[]),([],[]),([0,1],[0,1]),([],[]),([],[]),([3,4],[3,4]),([5],[5]),([],[]),([],[]),([8],[8]),([6,7,9],[6,7,9]),([2,10],[2,10])])
def mat_matrix_column.B5:List Nat:=[0,0,3,0,0,24,56,0,0,256,1016,2047]
theorem mat_matrix_column.tab5:rtab .any (opsOf Try.f34 5)=mat_matrix_column.T5:=by kernel_rfl
theorem mat_matrix_column.bits5:waitsOk mat_matrix_column.T5.2 mat_matrix_column.B5=true:=by kernel_rfl
set_option maxHeartbeats 8000000 in
set_option maxRecDepth 100000 in
theorem mat_matrix_column.calls (k:Nat) (A0:Option Addr) (c0:Nat) (l0:List (List Int)) (a1:Int) (r:List Int) (w:World) (hr0:Kd.C (Kd.slice 3 (Kd.int .i64)) w A0 l0.length l0) (hc0:l0.length≤c0) (h:mat_matrix_column.f k l0 a1=some r) :
  Calls Try.prog 34 #[.slice A0 l0.length c0,.int .i64 a1] w fun e w'=>∃ v0_:Value,e=.returned (v0_)∧Kd.R (Kd.int .i64) 3 w' w.heap.size (fun _=>True) v0_ r∧Below w.heap.size w w':=by
 have HR0:=Aside0.mk hr0
 have HC0:=Aside0.mk hc0
 clear hr0 hc0
 have HB:=Aside0.mk (Below.refl w.heap.size w)
 have ha_:a1≤1000:=by
  unfold mat_matrix_column.f at h
  by_cases ca_:a1≤1000
  ·exact ca_
  ·rw [if_neg ca_] at h;cases h
 have H:(if 0≤(l0.length:Int) then (if ((l0.length:Int):Int).toNat≤35184372088832 then (mat_matrix_column.l0 k l0 a1 (List.replicate ((l0.length:Int):Int).toNat 0) (l0.length:Int) 0) else (none)) else (none))=some r:=by
  unfold mat_matrix_column.f at h
  rw [if_pos ha_] at h
  exact h
 clear h
 have HA_:=Aside0.mk ha_
 clear ha_
 by_cases c3:0≤(l0.length:Int)
 ·rw [if_pos c3] at H
  have c3b0:=eq_true c3
  have c3b1:decide (0≤(l0.length:Int))=true:=decide_eq_true c3
  clear c3
  by_cases c4:((l0.length:Int):Int).toNat≤35184372088832
  ·rw [if_pos c4] at H
   have c4b0:=eq_true c4
   have c4b1:decide (((l0.length:Int):Int).toNat≤35184372088832)=true:=decide_eq_true c4
   clear c4
   obtain⟨y205,hy205⟩:∃ y_:List Int,y_=(List.replicate ((l0.length:Int):Int).toNat 0):=⟨_,rfl⟩
   replace H:(mat_matrix_column.l0 k l0 a1 y205 (l0.length:Int) 0)=some r:=by first|(rw [hy205];with_reducible exact H)|(have H2_:=(Option.bind_some _ _).symm.trans H;rw [hy205];with_reducible exact H2_)|(have H2_:=(Option.bind_some _ _).symm.trans H;with_reducible exact H2_)|with_reducible exact H|(rw [hy205];exact H)|exact H
   have Ny205:=Aside0.mk hy205
   clear hy205
   have H':=Aside0.mk H
   clear H
   go_enter Try.func34,Try.ntmps34
   go_wp2_with (first|((with_reducible refine gate_dst (N:=9) rfl ?_);refine Kd.R_make (Kd.int .i64) _ 3 rfl (N:=9) rfl 23 _ _ rfl (l0.length:Int) rfl rfl Try.underlying23 (.int .i64 0) 8 info3 rfl (by decide) (by omega) 0 (ok:=fun _=>True) (okp:=fun _=>True) rfl (fun _ hk=>hk) trivial (of_decide_eq_true (by first|(with_reducible assumption)|assumption)) (Nat.le_trans (Nat.mul_le_mul_right _ (of_decide_eq_true (by first|(with_reducible assumption)|assumption):(l0.length:Int).toNat≤35184372088832)) (by omega)) (Below.refl _ _) (Nat.le_refl _) ?_;intro v206 w5 ho6 hb hg_ hnew_;clear hg_ hnew_;(first|rw [←Ny205.out] at ho6|(simp only [Int.reduceToNat] at ho6;rw [←Ny205.out] at ho6));have n0_:=Aside0.mk (Kd.R_lower ho6 (below_size (by first|with_reducible exact HB.out|exact bl HB)));have n1_:=Aside0.mk (below_step (by first|with_reducible exact HB.out|exact bl HB) hb);clear HB;have HO207:=n0_;have HB:=n1_;clear n0_ n1_;clear hb ho6))
   go_loopg [12] k (fun kq v12 w'=>∃ (x5_1:List Int) (x12_1:Int),v12=.int .i64 x12_1∧Aside0 (mat_matrix_column.l0 kq l0 a1 x5_1 (l0.length:Int) x12_1=some r)∧Aside0 (kq≤k)∧Aside0 (Kd.R (Kd.int .i64) 3 w' w.heap.size (fun _=>True) v206 x5_1)∧Aside0 (Below w.heap.size w w'))
   case atStart=>exact⟨(y205),(0),(by first|rfl|(simp;done)|(simp [*];done)),H',⟨Nat.le_refl _⟩,⟨by first|exact HO207.out|exact kR HO207.out⟩,⟨by first|with_reducible exact HB.out|exact bl HB⟩⟩
   case round =>
    clear H'
    try clear p2
    try clear c3
    try clear c3b0
    try clear c3b1
    try clear c4
    try clear c4b0
    try clear c4b1
    obtain⟨x5_1,x12_1,rfl,HA,HK1,HO_5,HB⟩:=hrel
    cases gk with
    | zero=>exact absurd HA.out (by simp [mat_matrix_column.l0])
    | succ k1 =>
     have H:=HA.out
     clear HA
     simp only [mat_matrix_column.l0] at H
     by_cases c7:x12_1<(l0.length:Int)
     ·rw [if_pos c7] at H
      have c7b0:decide (x12_1<(l0.length:Int))=true:=decide_eq_true c7
      clear c7
      by_cases c8:0≤x12_1
      ·rw [if_pos c8] at H
       have c8b0:decide (0≤x12_1)=true:=decide_eq_true c8
       clear c8
       by_cases c9:x12_1<(l0.length:Int)
       ·rw [if_pos c9] at H
        have c9b0:decide (x12_1<(l0.length:Int))=true:=decide_eq_true c9
        clear c9
        by_cases c10:0≤a1
        ·rw [if_pos c10] at H
         have c10b0:decide (0≤a1)=true:=decide_eq_true c10
         clear c10
         by_cases c11:a1<((rd_L1 l0 x12_1).length:Int)
         ·rw [if_pos c11] at H
          have c11b0:decide (a1<((rd_L1 l0 x12_1).length:Int))=true:=decide_eq_true c11
          clear c11
          by_cases c12:x12_1<(x5_1.length:Int)
          ·rw [if_pos c12] at H
           have c12b0:decide (x12_1<(x5_1.length:Int))=true:=decide_eq_true c12
           clear c12
           obtain⟨y210,hy210⟩:∃ y_:List Int,y_=(x5_1.set (x12_1:Int).toNat (rd (rd_L1 l0 x12_1) a1)):=⟨_,rfl⟩
           replace H:(mat_matrix_column.l0 k1 l0 a1 y210 (l0.length:Int) (wrap64 (x12_1+1)))=some r:=by first|(rw [hy210];with_reducible exact H)|(have H2_:=(Option.bind_some _ _).symm.trans H;rw [hy210];with_reducible exact H2_)|(have H2_:=(Option.bind_some _ _).symm.trans H;with_reducible exact H2_)|with_reducible exact H|(rw [hy210];exact H)|exact H
           have Ny210:=Aside0.mk hy210
           clear hy210
           have H':=Aside0.mk H
           clear H
           try go_wp2
           have n0_:=Aside0.mk (below_drew1 HB.out)
           clear HB
           have HB:=n0_
           clear n0_
           have n0_:=Aside0.mk (Kd.R_drew HO_5.out)
           clear HO_5
           have HO_5:=n0_
           clear n0_
           have p208:0≤(x12_1:Int):=of_decide_eq_true (by first|(with_reducible assumption)|assumption)
           have q208:x12_1<(l0.length:Int):=of_decide_eq_true (by first|(with_reducible assumption)|assumption)
           obtain⟨ad208,A208_0,c208_0,e208,hx208_0,hl208_0,hi208_0⟩:=at_L1 HR0.out x12_1 p208 q208
           cases e208
           have hw0_:=hx208_0
           replace hx208_0:=(HB.out.cell (World.block_lt_of_cell? w _ hx208_0)).trans hx208_0
           have HR208_0:=Aside0.mk hi208_0
           have HC208_0:=Aside0.mk hl208_0
           clear hi208_0 hl208_0
           replace p208:=eq_true p208
           replace q208:=eq_true q208
           have p209:0≤(a1:Int):=of_decide_eq_true (by first|(with_reducible assumption)|assumption)
           have q209:a1<((rd_L1 l0 x12_1).length:Int):=of_decide_eq_true (by first|(with_reducible assumption)|assumption)
           obtain⟨ad209,e209,hx209_0⟩:=Kd.at_int HR208_0.out a1 p209 q209
           cases e209
           replace hx209_0:=(HB.out.cell (World.block_lt_of_cell? w _ hx209_0)).trans hx209_0
           replace p209:=eq_true p209
           replace q209:=eq_true q209
           have p13:0≤(x12_1:Int):=of_decide_eq_true (by first|(with_reducible assumption)|assumption)
           have q13:(x12_1:Int)<((x5_1.length:Int):Int):=of_decide_eq_true (by first|(with_reducible assumption)|assumption)
           obtain⟨go13,co13,eo13,gb13,gl13,cl13,HG13⟩:=Kd.R_form HO_5.out (by omega)
           (first|cases eo13|(injection eo13 with ea_ en_ ec_;(first|subst ea_|(injection ea_ with ea_;subst ea_));subst ec_;clear en_))
           have GB13:=Aside0.mk gb13
           have GG13:=Aside0.mk HG13
           clear gb13 gl13 HG13
           obtain⟨hx13_0,hf13_0⟩:=Kd.R_celln 0 HO_5.out (x12_1:Int) p13 q13
           replace p13:=eq_true p13
           replace q13:=eq_true q13
           obtain⟨i06,hi06,_,hsz6,_⟩:=info_parts info3
           have i0_:0≤x12_1:=of_decide_eq_true (by first|(with_reducible assumption)|assumption)
           have i1_:x12_1<(x5_1.length:Int):=of_decide_eq_true (by first|(with_reducible assumption)|assumption)
           have j0_:0≤a1:=of_decide_eq_true (by first|(with_reducible assumption)|assumption)
           have j1_:a1<((rd_L1 l0 x12_1).length:Int):=of_decide_eq_true (by first|(with_reducible assumption)|assumption)
           have j2_:=HA_.out
           have lc_:=(Kd.R_reads' HO_5.out).2.1
           have lr_:=HC208_0.out
           have wr_:wrap64 (a1+1)=a1+1:=by (unfold wrap64;omega)
           have wi_:IntKind.i64.wrap (a1+1)=a1+1:=(i64_w _).trans wr_
           have cu1:∀ W,(Instr.slice 23 (.slice (some ⟨go13,0,none⟩) x5_1.length co13) (some (.int .i64 x12_1)) none none).run Try.prog W=.ok (.slice (some ⟨go13,(x12_1).toNat,none⟩) (x5_1.length-(x12_1).toNat) (co13-(x12_1).toNat)) W:=fun W=>by
            have h:=cut_from (P:=Try.prog) 23 3 .i64 Try.underlying23 hi06 1 hsz6 (some ⟨go13,0,none⟩) x5_1.length co13 x12_1 i0_ (by omega) W
            rw [if_neg (show ¬co13=(x12_1).toNat by omega)] at h
            rw [Option.map_some,add_plain] at h
            simpa using h
           have cu2:∀ W,(Instr.slice 23 (.slice (some ad209) (rd_L1 l0 x12_1).length c208_0) (some (.int .i64 a1)) (some (.int .i64 (a1+1))) none).run Try.prog W=.ok (.slice (some (ad209.add (a1).toNat)) 1 (c208_0-(a1).toNat)) W:=fun W=>by
            have h:=cut_mid (P:=Try.prog) 23 3 .i64 .i64 Try.underlying23 hi06 1 hsz6 (some ad209) (rd_L1 l0 x12_1).length c208_0 a1 (a1+1) j0_ (by omega) (by omega) lr_ W
            rw [if_neg (show ¬c208_0=(a1).toNat by omega),show(a1+1).toNat-(a1).toNat=1 by omega] at h
            simpa using h
           have lz_:1≤x5_1.length-(x12_1).toNat:=by omega
           clear i0_ i1_ j0_ j1_ j2_ lc_ lr_
           refine start_ (n:=12) (S:=fun w'=>w'.cell? (ad208.add (x12_1).toNat)=some (.slice (some ad209) (rd_L1 l0 x12_1).length c208_0)) (ds:=[]) #[ff,ff,ff,ff,ff,ff,ff,ff,ff,ff,ff,ff] (by kernel_rfl) rfl rfl hx208_0 (fun hHeld=>?_);refine with_tabW mat_matrix_column.tab5 mat_matrix_column.bits5 (fun HT_ HW_=>?_)
           generalize wr.drew=w12_ at HB HO_5 HR208_0 hx208_0 hx209_0 hx13_0 hf13_0 hHeld ⊢
           refine pure_ (i:=0) (N:=some 15) (v:=?_) (a':=?_) #[tt,ff,ff,ff,ff,ff,ff,ff,ff,ff,ff,ff] rfl rfl (any_of HT_.out (by kernel_rfl)) (fun _ _ _ h=>h) (Or.inl ⟨by rfl,?_⟩) ?_ ?_
           rotate_left
           ·intro w'
            go_simp
            with_reducible rfl
           rotate_left
           ·simp only [Act.put,List.setIfInBounds_toArray,List.set_cons_zero,List.set_cons_succ,i64_w,i32_w]
            rfl
           refine pure_ (i:=1) (N:=some 16) (v:=?_) (a':=?_) #[tt,tt,ff,ff,ff,ff,ff,ff,ff,ff,ff,ff] rfl rfl (any_of HT_.out (by kernel_rfl)) (fun _ _ _ h=>h) (Or.inl ⟨by rfl,?_⟩) ?_ ?_
           rotate_left
           ·intro w'
            go_simp
            with_reducible rfl
           rotate_left
           ·simp only [Act.put,List.setIfInBounds_toArray,List.set_cons_zero,List.set_cons_succ,i64_w,i32_w]
            rfl
           refine pure_ (i:=2) (N:=some 17) (v:=?_) (a':=?_) #[tt,tt,tt,ff,ff,ff,ff,ff,ff,ff,ff,ff] rfl rfl (any_of HT_.out (by kernel_rfl)) (fun _ _ _ h=>h) (Or.inl ⟨by rfl,?_⟩) ?_ ?_
           rotate_left
           ·intro w'
            go_simp
            with_reducible rfl
           rotate_left
           ·simp only [Act.put,List.setIfInBounds_toArray,List.set_cons_zero,List.set_cons_succ,i64_w,i32_w]
            rfl
           refine pure_ (i:=3) (N:=some 18) (v:=?_) (a':=?_) #[tt,tt,tt,tt,ff,ff,ff,ff,ff,ff,ff,ff] rfl rfl (any_of HT_.out (by kernel_rfl)) (fun _ _ _ h=>h) (Or.inl ⟨by rfl,?_⟩) ?_ ?_
           rotate_left
           ·intro w'
            go_simp
            with_reducible rfl
           rotate_left
           ·simp only [Act.put,List.setIfInBounds_toArray,List.set_cons_zero,List.set_cons_succ,i64_w,i32_w]
            rfl
           refine pure_ (i:=4) (N:=some 19) (v:=?_) (a':=?_) #[tt,tt,tt,tt,tt,ff,ff,ff,ff,ff,ff,ff] rfl rfl (any_of HT_.out (by kernel_rfl)) (fun _ _ _ h=>h) (Or.inl ⟨by rfl,?_⟩) ?_ ?_
           rotate_left
           ·intro w'
            go_simp
            with_reducible rfl
           rotate_left
           ·simp only [Act.put,List.setIfInBounds_toArray,List.set_cons_zero,List.set_cons_succ,i64_w,i32_w]
            rfl
           refine pure_ (i:=5) (N:=some 20) (v:=?_) (a':=?_) #[tt,tt,tt,tt,tt,tt,ff,ff,ff,ff,ff,ff] rfl rfl (any_of HT_.out (by kernel_rfl)) (fun _ _ _ h=>h) (Or.inl ⟨by rfl,?_⟩) ?_ ?_
           rotate_left
           ·intro w'
            go_simp
            with_reducible rfl
           rotate_left
           ·simp only [Act.put,List.setIfInBounds_toArray,List.set_cons_zero,List.set_cons_succ,i64_w,i32_w]
            rfl
           refine take_ (i:=6) (N:=some 21) (v:=?_) (a':=?_) #[tt,tt,tt,tt,tt,tt,tt,ff,ff,ff,ff,ff] rfl rfl (take_ofW HT_.out HW_.out (by kernel_rfl)) (fun _ _ _ h=>h) (Or.inl ⟨by rfl,?_⟩) hHeld ?_ ?_
           rotate_left
           ·rintro w' s0
            go_simp
            with_reducible rfl
           rotate_left
           ·simp only [Act.put,List.setIfInBounds_toArray,List.set_cons_zero,List.set_cons_succ,i64_w,i32_w]
            rfl
           refine pure_ (i:=7) (N:=some 22) (v:=?_) (a':=?_) #[tt,tt,tt,tt,tt,tt,tt,tt,ff,ff,ff,ff] rfl rfl (any_of HT_.out (by kernel_rfl)) (fun _ _ _ h=>h) (Or.inl ⟨by rfl,?_⟩) ?_ ?_
           rotate_left
           ·intro w'
            go_simp
            with_reducible rfl
           rotate_left
           ·simp only [Act.put,List.setIfInBounds_toArray,List.set_cons_zero,List.set_cons_succ,i64_w,i32_w]
            rfl
           refine pure_ (i:=8) (N:=some 23) (v:=?_) (a':=?_) #[tt,tt,tt,tt,tt,tt,tt,tt,tt,ff,ff,ff] rfl rfl (any_of HT_.out (by kernel_rfl)) (fun _ _ _ h=>h) (Or.inl ⟨by rfl,?_⟩) ?_ ?_
           rotate_left
           ·intro w'
            go_simp
            with_reducible rfl
           rotate_left
           ·simp only [Act.put,List.setIfInBounds_toArray,List.set_cons_zero,List.set_cons_succ,i64_w,i32_w]
            rfl
           refine pure_ (i:=9) (N:=some 24) (v:=?_) (a':=?_) #[tt,tt,tt,tt,tt,tt,tt,tt,tt,tt,ff,ff] rfl rfl (any_of HT_.out (by kernel_rfl)) (fun _ _ _ h=>h) (Or.inl ⟨by rfl,?_⟩) ?_ ?_
           rotate_left
           ·intro w'
            go_simp
            with_reducible rfl
           rotate_left
           ·simp only [Act.put,List.setIfInBounds_toArray,List.set_cons_zero,List.set_cons_succ,i64_w,i32_w]
            rfl
           refine pure_ (i:=10) (N:=some 25) (v:=?_) (a':=?_) #[tt,tt,tt,tt,tt,tt,tt,tt,tt,tt,tt,ff] rfl rfl (any_of HT_.out (by kernel_rfl)) (fun _ _ _ h=>h) (Or.inl ⟨by rfl,?_⟩) ?_ ?_
           rotate_left
           ·intro w'
            go_simp
            with_reducible rfl
           rotate_left
           ·simp only [Act.put,List.setIfInBounds_toArray,List.set_cons_zero,List.set_cons_succ,i64_w,i32_w]
            rfl
           refine one_ (i:=11) (N:=some 26) #[tt,tt,tt,tt,tt,tt,tt,tt,tt,tt,tt,tt] rfl rfl (one_of HT_.out (by kernel_rfl)) (by decide) (fun K hK=>?_)
           have hrun_:=fun (t_:TypeId)=>run_copy1 (P:=Try.prog) w12_ 23 23 t_ 3 ⟨go13,(x12_1).toNat,none⟩ (ad209.add (a1).toNat) (x5_1.length-(x12_1).toNat) (co13-(x12_1).toNat) (c208_0-(a1).toNat) _ _ Try.underlying23 (by rw [hi06];simp [hsz6]) lz_ (add_none _) (add_none _) hx209_0 hx13_0 hf13_0 rfl
           refine value_ (v:=goInt 1) (w1:=w12_.setCell ⟨go13,(x12_1).toNat,none⟩ (.int .i64 (rd (rd_L1 l0 x12_1) a1))) rfl rfl ?hr_ ?_
           case hr_=>simp [execOp,resolve,invoke,builtin,Act.eval,hrun_,Result.andThen]
           have HP14:=Kd.R_putg HO_5.out (x12_1:Int) (rd (rd_L1 l0 x12_1) a1)
           obtain⟨w15_,hw_⟩:∃ W_,(w12_.setCell ⟨go13,(x12_1).toNat,none⟩ (.int .i64 (rd (rd_L1 l0 x12_1) a1)))=W_:=⟨_,rfl⟩
           have n0_:Aside0 (Kd.R (Kd.int .i64) 3 w15_ w.heap.size (fun _=>True) (.slice (some ⟨go13,0,none⟩) x5_1.length co13) y210):=⟨by rw [Ny210.out,←hw_];exact HP14.1⟩
           have n1_:Aside0 (Below w.heap.size w w15_):=⟨by rw [←hw_];exact below_set HB.out GB13.out⟩
           have hs_:w15_.cell? (ad208.add (x12_1).toNat)=some (.slice (some ad209) (rd_L1 l0 x12_1).length c208_0):=(n1_.out.cell (World.block_lt_of_cell? w _ hw0_)).trans hw0_
           rw [hw_]
           clear HP14 hrun_ HO_5 HB
           have HO_5:=n0_
           have HB:=n1_
           clear n0_ n1_
           refine hK.out _ _ hs_ (fun hHeld=>?_)
           clear hK K
           refine norm_ (a':=?_) ?_ ?_
           rotate_left
           ·show Act.put _ (some 26) _=_
            simp only [Act.put,List.setIfInBounds_toArray,List.set_cons_zero,List.set_cons_succ,i64_w,i32_w]
            rfl
           refine done_ (done_of HT_.out (by kernel_rfl)) ?_
           try go_wp2
           go_roundg k1
           case measure=>have:=HK1.out;omega
           case rel=>exact⟨(y210),(wrap64 (x12_1+1)),(by first|rfl|(simp;done)|(simp [*];done)),H',⟨by have:=HK1.out;omega⟩,⟨by first|exact HO_5.out|exact kR HO_5.out⟩,⟨by first|with_reducible exact HB.out|exact bl HB⟩⟩
          ·rw [if_neg c12] at H
           exact absurd H (by simp)
         ·rw [if_neg c11] at H
          exact absurd H (by simp)
        ·rw [if_neg c10] at H
         exact absurd H (by simp)
       ·rw [if_neg c9] at H
        exact absurd H (by simp)
      ·rw [if_neg c8] at H
       exact absurd H (by simp)
     ·rw [if_neg c7] at H
      have c7b0:decide (x12_1<(l0.length:Int))=false:=decide_eq_false c7
      clear c7
      obtain rfl:=Option.some.inj H
      go_wp2
      go_ret
      exact⟨_,by first|rfl|(simp [errW_none,errW_some]<;>rfl)|(simp [*,errW_none,errW_some]<;>rfl),by first|exact HO_5.out|exact kR HO_5.out,by first|with_reducible exact HB.out|exact bl HB⟩
  ·rw [if_neg c4] at H
   exact absurd H (by simp)
 ·rw [if_neg c3] at H
  exact absurd H (by simp)
def mat_Mul_1.f (k:Nat) (a0:Int) (a1:Int) (l2:List (List Int)) (l3:List (List Int)):Option (Int × Bool):=if 0≤a0 then (if a0<(l2.length:Int) then ((mat_matrix_column.f k l3 a1).bind fun t212=>((sum_Dot.f k (rd_L1 l2 a0) t212).bind fun bt215=>(some (bt215.1,bt215.2)))) else (none)) else (none)
theorem mat_Mul_1.mono:∀ a0 a1 a2 a3 k,LeO (mat_Mul_1.f k a0 a1 a2 a3) (mat_Mul_1.f (k+1) a0 a1 a2 a3):=by
 intro a0 a1 a2 a3 k
 unfold mat_Mul_1.f
 repeat' first
   | (with_reducible exact mat_matrix_column.mono _ _ _)
   | (with_reducible exact sum_Dot.mono _ _ _)
   | (with_reducible exact LeO.refl _)
   | (with_reducible exact LeO.none _)
   | (with_reducible refine LeO.ite ?_ ?_)
   | (with_reducible refine LeO.bind ?_ (fun _=>?_))
   | exact mat_matrix_column.mono _ _ _
   | exact sum_Dot.mono _ _ _
   | exact LeO.none _
   | refine LeO.ite ?_ ?_
   | refine LeO.bind ?_ (fun _=>?_)
def mat_Mul_1.T1:Bool × List (List Nat × List Nat):=(true,[([],[]),([],[]),([0,1],[0,1]),([2],[2]),([],[]),([],[]),([4,5],[4,5]),([3,6,6],[3,6]),([7],[7]),([7],[7]),([8,7,0,1,2,3,4,5,6,7,8,9],[8]),([9,10,0,1,2,3,4,5,6,7,8,9,10],[9])])
def mat_Mul_1.B1:List Nat:=[0,0,3,7,0,0,48,127,255,255,1023,2047]
theorem mat_Mul_1.tab1:rtab .any (opsOf Try.f32 1)=mat_Mul_1.T1:=by kernel_rfl
theorem mat_Mul_1.bits1:waitsOk mat_Mul_1.T1.2 mat_Mul_1.B1=true:=by kernel_rfl
set_option maxHeartbeats 8000000 in
set_option maxRecDepth 100000 in
theorem mat_Mul_1.calls (k:Nat) (a0:Int) (a1:Int) (A2:Option Addr) (c2:Nat) (l2:List (List Int)) (A3:Option Addr) (c3:Nat) (l3:List (List Int)) (r1:Int) (r2:Bool) (w:World) (hr2:Kd.C (Kd.slice 3 (Kd.int .i64)) w A2 l2.length l2) (hc2:l2.length≤c2) (hr3:Kd.C (Kd.slice 3 (Kd.int .i64)) w A3 l3.length l3) (hc3:l3.length≤c3) (g2_:Nat) (HX2:Aside0 (w.cell? ⟨g2_,0,none⟩=some (.slice A2 l2.length c2))) (g3_:Nat) (HX3:Aside0 (w.cell? ⟨g3_,0,none⟩=some (.slice A3 l3.length c3))) (h:mat_Mul_1.f k a0 a1 l2 l3=some (r1,r2)) :
  Calls Try.prog 32 #[.int .i64 a0,.int .i64 a1,.pointer (some ⟨g2_,0,none⟩),.pointer (some ⟨g3_,0,none⟩)] w fun e w'=>e=.returned (.tuple #[.int .i64 r1,.bool r2])∧Below w.heap.size w w':=by
 have HR2:=Aside0.mk hr2
 have HC2:=Aside0.mk hc2
 clear hr2 hc2
 have HR3:=Aside0.mk hr3
 have HC3:=Aside0.mk hc3
 clear hr3 hc3
 have HB:=Aside0.mk (Below.refl w.heap.size w)
 have H:(if 0≤a0 then (if a0<(l2.length:Int) then ((mat_matrix_column.f k l3 a1).bind fun t212=>((sum_Dot.f k (rd_L1 l2 a0) t212).bind fun bt215=>(some (bt215.1,bt215.2)))) else (none)) else (none))=some (r1,r2):=h
 clear h
 by_cases c5:0≤a0
 ·rw [if_pos c5] at H
  have c5b0:decide (0≤a0)=true:=decide_eq_true c5
  clear c5
  by_cases c6:a0<(l2.length:Int)
  ·rw [if_pos c6] at H
   have c6b0:decide (a0<(l2.length:Int))=true:=decide_eq_true c6
   clear c6
   replace H:=Option.bind_eq_some_iff.mp H
   obtain⟨t212,A70,H⟩:=H
   replace H:((sum_Dot.f k (rd_L1 l2 a0) t212).bind fun bt215=>(some (bt215.1,bt215.2)))=some (r1,r2):=H
   have A7:=Aside0.mk A70
   clear A70
   replace H:=Option.bind_eq_some_iff.mp H
   obtain⟨⟨t215,t216⟩,A80,H⟩:=H
   replace H:(some (t215,t216))=some (r1,r2):=H
   have A8:=Aside0.mk A80
   clear A80
   simp only [Option.some.injEq,Prod.mk.injEq] at H
   obtain⟨rfl,rfl⟩:=H
   go_enter Try.func32,Try.ntmps32
   try go_wp2
   have n0_:=Aside0.mk (below_drew1 HB.out)
   clear HB
   have HB:=n0_
   clear n0_
   have p211:0≤(a0:Int):=of_decide_eq_true (by first|(with_reducible assumption)|assumption)
   have q211:a0<(l2.length:Int):=of_decide_eq_true (by first|(with_reducible assumption)|assumption)
   obtain⟨ad211,A211_0,c211_0,e211,hx211_0,hl211_0,hi211_0⟩:=at_L1 HR2.out a0 p211 q211
   have hw211_0:=hx211_0
   cases e211
   replace hx211_0:=(HB.out.cell (World.block_lt_of_cell? w _ hx211_0)).trans hx211_0
   have HR211_0:=Aside0.mk hi211_0
   have HC211_0:=Aside0.mk hl211_0
   clear hi211_0 hl211_0
   replace p211:=eq_true p211
   replace q211:=eq_true q211
   refine start_ (n:=12) (S:=fun w'=>w'.cell? (ad211.add (a0).toNat)=some (.slice A211_0 (rd_L1 l2 a0).length c211_0)∧w'.cell? ⟨g2_,0,none⟩=some (.slice (some ad211) l2.length c2)∧w'.cell? ⟨g3_,0,none⟩=some (.slice (A3) l3.length c3)) (ds:=[]) #[ff,ff,ff,ff,ff,ff,ff,ff,ff,ff,ff,ff] (by kernel_rfl) rfl rfl ⟨(((HB.out.cell (World.block_lt_of_cell? w _ hw211_0)).trans hw211_0)),((HB.out.cell (World.block_lt_of_cell? w _ HX2.out)).trans HX2.out),((HB.out.cell (World.block_lt_of_cell? w _ HX3.out)).trans HX3.out)⟩ (fun hHeld=>?_);refine with_tabW mat_Mul_1.tab1 mat_Mul_1.bits1 (fun HT_ HW_=>?_)
   generalize w.drew=w9 at HB HR211_0 hx211_0 hHeld ⊢
   refine take_ (i:=0) (N:=some 8) (v:=?_) (a':=?_) #[tt,ff,ff,ff,ff,ff,ff,ff,ff,ff,ff,ff] rfl rfl (take_ofW HT_.out HW_.out (by kernel_rfl)) (fun _ _ _ h=>h) (Or.inl ⟨by rfl,?_⟩) hHeld ?_ ?_
   rotate_left
   ·rintro w' ⟨s0,s1,s2⟩
    go_simp
    with_reducible rfl
   rotate_left
   ·simp only [Act.put,List.setIfInBounds_toArray,List.set_cons_zero,List.set_cons_succ,i64_w,i32_w]
    rfl
   refine pure_ (i:=1) (N:=some 9) (v:=?_) (a':=?_) #[tt,tt,ff,ff,ff,ff,ff,ff,ff,ff,ff,ff] rfl rfl (any_of HT_.out (by kernel_rfl)) (fun _ _ _ h=>h) (Or.inl ⟨by rfl,?_⟩) ?_ ?_
   rotate_left
   ·intro w'
    go_simp
    with_reducible rfl
   rotate_left
   ·simp only [Act.put,List.setIfInBounds_toArray,List.set_cons_zero,List.set_cons_succ,i64_w,i32_w]
    rfl
   refine pure_ (i:=2) (N:=some 10) (v:=?_) (a':=?_) #[tt,tt,tt,ff,ff,ff,ff,ff,ff,ff,ff,ff] rfl rfl (any_of HT_.out (by kernel_rfl)) (fun _ _ _ h=>h) (Or.inl ⟨by rfl,?_⟩) ?_ ?_
   rotate_left
   ·intro w'
    go_simp
    with_reducible rfl
   rotate_left
   ·simp only [Act.put,List.setIfInBounds_toArray,List.set_cons_zero,List.set_cons_succ,i64_w,i32_w]
    rfl
   refine take_ (i:=4) (N:=some 12) (v:=?_) (a':=?_) #[tt,tt,tt,ff,tt,ff,ff,ff,ff,ff,ff,ff] rfl rfl (take_ofW HT_.out HW_.out (by kernel_rfl)) (fun _ _ _ h=>h) (Or.inl ⟨by rfl,?_⟩) hHeld ?_ ?_
   rotate_left
   ·rintro w' ⟨s0,s1,s2⟩
    go_simp
    with_reducible rfl
   rotate_left
   ·simp only [Act.put,List.setIfInBounds_toArray,List.set_cons_zero,List.set_cons_succ,i64_w,i32_w]
    rfl
   refine pure_ (i:=5) (N:=some 13) (v:=?_) (a':=?_) #[tt,tt,tt,ff,tt,tt,ff,ff,ff,ff,ff,ff] rfl rfl (any_of HT_.out (by kernel_rfl)) (fun _ _ _ h=>h) (Or.inl ⟨by rfl,?_⟩) ?_ ?_
   rotate_left
   ·intro w'
    go_simp
    with_reducible rfl
   rotate_left
   ·simp only [Act.put,List.setIfInBounds_toArray,List.set_cons_zero,List.set_cons_succ,i64_w,i32_w]
    rfl
   refine take_ (i:=3) (N:=some 11) (v:=?_) (a':=?_) #[tt,tt,tt,tt,tt,tt,ff,ff,ff,ff,ff,ff] rfl rfl (take_ofW HT_.out HW_.out (by kernel_rfl)) (fun _ _ _ h=>h) (Or.inl ⟨by rfl,?_⟩) hHeld ?_ ?_
   rotate_left
   ·rintro w' ⟨s0,s1,s2⟩
    go_simp
    with_reducible rfl
   rotate_left
   ·simp only [Act.put,List.setIfInBounds_toArray,List.set_cons_zero,List.set_cons_succ,i64_w,i32_w]
    rfl
   refine one_ (i:=6) (N:=some 14) #[tt,tt,tt,tt,tt,tt,tt,ff,ff,ff,ff,ff] rfl rfl (one_of HT_.out (by kernel_rfl)) (by decide) (fun K hK=>?_)
   refine goes_ Try.func34 (by kernel_rfl) rfl #[.slice A3 l3.length c3,.int .i64 a1] (by rfl) rfl rfl (by exact mA _ _) ?_
   with_reducible refine(mat_matrix_column.calls k _ _ l3 a1 t212 _ ?side1 ?side2 A7.out).mono ?_
   (case side1=>first|exact(Kd.C_below HR3.out HB.out)|exact kC (Kd.C_below HR3.out HB.out))
   (case side2=>exact HC3.out)
   rintro e w10 ⟨v213,rfl,ho0,hb⟩
   refine⟨_,rfl,?_⟩
   have n0_:=Aside0.mk (Kd.R_lower ho0 (below_size (by first|with_reducible exact HB.out|exact bl HB)))
   have n1_:=Aside0.mk (below_step (by first|with_reducible exact HB.out|exact bl HB) hb)
   clear HB
   have HO214:=n0_
   have HB:=n1_
   clear n0_ n1_
   (try clear hb)
   (try clear hb2)
   (try clear hk)
   (try clear hi)
   (try clear ho0)
   obtain⟨Ao11,co11,eo11⟩:=Kd.R_slice HO214.out
   (first|subst eo11|(injection eo11 with f1_ f2_ f3_;have f4_:=f1_.symm;have f5_:=f3_.symm;clear f1_ f2_ f3_;subst f4_;subst f5_))
   refine hK.out _ _ ⟨(((HB.out.cell (World.block_lt_of_cell? w _ hw211_0)).trans hw211_0)),((HB.out.cell (World.block_lt_of_cell? w _ HX2.out)).trans HX2.out),((HB.out.cell (World.block_lt_of_cell? w _ HX3.out)).trans HX3.out)⟩ (fun hHeld=>?_)
   clear hK K
   refine norm_ (a':=?_) ?_ ?_
   rotate_left
   ·show Act.put _ (some 14) _=_
    simp only [Act.put,List.setIfInBounds_toArray,List.set_cons_zero,List.set_cons_succ,i64_w,i32_w]
    rfl
   refine one_ (i:=7) (N:=some 15) #[tt,tt,tt,tt,tt,tt,tt,tt,ff,ff,ff,ff] rfl rfl (one_of HT_.out (by kernel_rfl)) (by decide) (fun K hK=>?_)
   refine goes_ Try.func33 (by kernel_rfl) rfl #[.slice A211_0 (rd_L1 l2 a0).length c211_0,.slice Ao11 t212.length co11] (by rfl) rfl rfl (by exact mA _ _) ?_
   with_reducible refine(sum_Dot.calls k _ _ (rd_L1 l2 a0) _ _ t212 t215 t216 _ ?side1 ?side2 ?side3 ?side4 A8.out).mono ?_
   (case side1=>first|exact(Kd.C_below HR211_0.out HB.out)|exact kC (Kd.C_below HR211_0.out HB.out))
   (case side2=>exact HC211_0.out)
   (case side3=>first|exact(Kd.R_reads' HO214.out).2.2|exact kC (Kd.R_reads' HO214.out).2.2)
   (case side4=>exact(Kd.R_reads' HO214.out).2.1)
   rintro e w12 ⟨rfl,hb⟩
   refine⟨_,rfl,?_⟩
   have n0_:=Aside0.mk (Kd.R_below (by first|exact HO214.out|exact kR HO214.out) hb)
   have n1_:=Aside0.mk (below_step (by first|with_reducible exact HB.out|exact bl HB) hb)
   clear HO214
   clear HB
   have HO214:=n0_
   have HB:=n1_
   clear n0_ n1_
   (try clear hb)
   (try clear hb2)
   (try clear hk)
   (try clear hi)
   refine hK.out _ _ ⟨(((HB.out.cell (World.block_lt_of_cell? w _ hw211_0)).trans hw211_0)),((HB.out.cell (World.block_lt_of_cell? w _ HX2.out)).trans HX2.out),((HB.out.cell (World.block_lt_of_cell? w _ HX3.out)).trans HX3.out)⟩ (fun hHeld=>?_)
   clear hK K
   refine norm_ (a':=?_) ?_ ?_
   rotate_left
   ·show Act.put _ (some 15) _=_
    simp only [Act.put,List.setIfInBounds_toArray,List.set_cons_zero,List.set_cons_succ,i64_w,i32_w]
    rfl
   refine pure_ (i:=8) (N:=some 16) (v:=?_) (a':=?_) #[tt,tt,tt,tt,tt,tt,tt,tt,tt,ff,ff,ff] rfl rfl (any_of HT_.out (by kernel_rfl)) (fun _ _ _ h=>h) (Or.inl ⟨by rfl,?_⟩) ?_ ?_
   rotate_left
   ·intro w'
    go_simp
    with_reducible rfl
   rotate_left
   ·simp only [Act.put,List.setIfInBounds_toArray,List.set_cons_zero,List.set_cons_succ,i64_w,i32_w]
    rfl
   refine pure_ (i:=9) (N:=some 17) (v:=?_) (a':=?_) #[tt,tt,tt,tt,tt,tt,tt,tt,tt,tt,ff,ff] rfl rfl (any_of HT_.out (by kernel_rfl)) (fun _ _ _ h=>h) (Or.inl ⟨by rfl,?_⟩) ?_ ?_
   rotate_left
   ·intro w'
    go_simp
    with_reducible rfl
   rotate_left
   ·simp only [Act.put,List.setIfInBounds_toArray,List.set_cons_zero,List.set_cons_succ,i64_w,i32_w]
    rfl
   refine pure_ (i:=10) (N:=some 6) (v:=?_) (a':=?_) #[tt,tt,tt,tt,tt,tt,tt,tt,tt,tt,tt,ff] rfl rfl (any_of HT_.out (by kernel_rfl)) (fun _ _ _ h=>h) (Or.inl ⟨by rfl,?_⟩) ?_ ?_
   rotate_left
   ·intro w'
    go_simp
    with_reducible rfl
   rotate_left
   ·simp only [Act.put,List.setIfInBounds_toArray,List.set_cons_zero,List.set_cons_succ,i64_w,i32_w]
    rfl
   refine pure_ (i:=11) (N:=some 7) (v:=?_) (a':=?_) #[tt,tt,tt,tt,tt,tt,tt,tt,tt,tt,tt,tt] rfl rfl (any_of HT_.out (by kernel_rfl)) (fun _ _ _ h=>h) (Or.inl ⟨by rfl,?_⟩) ?_ ?_
   rotate_left
   ·intro w'
    go_simp
    with_reducible rfl
   rotate_left
   ·simp only [Act.put,List.setIfInBounds_toArray,List.set_cons_zero,List.set_cons_succ,i64_w,i32_w]
    rfl
   refine done_ (done_of HT_.out (by kernel_rfl)) ?_
   try go_wp2
   go_ret2
   exact⟨by first|rfl|(simp [errW_none,errW_some]<;>rfl)|(simp [*,errW_none,errW_some]<;>rfl),by first|with_reducible exact HB.out|exact bl HB⟩
  ·rw [if_neg c6] at H
   exact absurd H (by simp)
 ·rw [if_neg c5] at H
  exact absurd H (by simp)
def mat_Mul.f (k:Nat) (l0:List (List Int)) (l1:List (List Int)):Option ((List (List Int)) × Bool):=(mat_Sane.f k l0).bind fun t217=>(if t217=true then ((mat_Sane.f k l1).bind fun t218=>(if t218=true then (if (l0.length:Int)=(l1.length:Int) then ((mat_made.f (fun i_ j_=>mat_Mul_1.f k i_ j_ l0 l1) k (l0.length:Int)).bind fun bt219=>(some (bt219.1,bt219.2))) else (some (([]:List (List Int)),true))) else (some (([]:List (List Int)),true)))) else (some (([]:List (List Int)),true)))
theorem mat_Mul.mono:∀ a0 a1 k,LeO (mat_Mul.f k a0 a1) (mat_Mul.f (k+1) a0 a1):=by
 intro a0 a1 k
 unfold mat_Mul.f
 repeat' first
   | (with_reducible exact mat_Sane.mono _ _)
   | exact mat_made.mono (fun _ _=>mat_Mul_1.mono _ _ _ _ _) _ _
   | (with_reducible exact LeO.refl _)
   | (with_reducible exact LeO.none _)
   | (with_reducible refine LeO.ite ?_ ?_)
   | (with_reducible refine LeO.bind ?_ (fun _=>?_))
   | exact mat_Sane.mono _ _
   | exact mat_made.mono (fun _ _=>mat_Mul_1.mono _ _ _ _ _) _ _
   | exact LeO.none _
   | refine LeO.ite ?_ ?_
   | refine LeO.bind ?_ (fun _=>?_)
set_option maxHeartbeats 8000000 in
set_option maxRecDepth 100000 in
theorem mat_Mul.calls (k:Nat) (A0:Option Addr) (c0:Nat) (l0:List (List Int)) (A1:Option Addr) (c1:Nat) (l1:List (List Int)) (r1:List (List Int)) (r2:Bool) (w:World) (hr0:Kd.C (Kd.slice 3 (Kd.int .i64)) w A0 l0.length l0) (hc0:l0.length≤c0) (hr1:Kd.C (Kd.slice 3 (Kd.int .i64)) w A1 l1.length l1) (hc1:l1.length≤c1) (h:mat_Mul.f k l0 l1=some (r1,r2)) :
  Calls Try.prog 12 #[.slice A0 l0.length c0,.slice A1 l1.length c1] w fun e w'=>∃ v0_:Value,e=.returned (.tuple #[v0_,.bool r2])∧Kd.S (Kd.slice 3 (Kd.int .i64)) 23 w' w.heap.size (fun _=>True) v0_ r1∧Below w.heap.size w w':=by
 have HR0:=Aside0.mk hr0
 have HC0:=Aside0.mk hc0
 clear hr0 hc0
 have HR1:=Aside0.mk hr1
 have HC1:=Aside0.mk hc1
 clear hr1 hc1
 have HB:=Aside0.mk (Below.refl w.heap.size w)
 have H:((mat_Sane.f k l0).bind fun t217=>(if t217=true then ((mat_Sane.f k l1).bind fun t218=>(if t218=true then (if (l0.length:Int)=(l1.length:Int) then ((mat_made.f (fun i_ j_=>mat_Mul_1.f k i_ j_ l0 l1) k (l0.length:Int)).bind fun bt219=>(some (bt219.1,bt219.2))) else (some (([]:List (List Int)),true))) else (some (([]:List (List Int)),true)))) else (some (([]:List (List Int)),true))))=some (r1,r2):=h
 clear h
 replace H:=Option.bind_eq_some_iff.mp H
 obtain⟨t217,A30,H⟩:=H
 replace H:(if t217=true then ((mat_Sane.f k l1).bind fun t218=>(if t218=true then (if (l0.length:Int)=(l1.length:Int) then ((mat_made.f (fun i_ j_=>mat_Mul_1.f k i_ j_ l0 l1) k (l0.length:Int)).bind fun bt219=>(some (bt219.1,bt219.2))) else (some (([]:List (List Int)),true))) else (some (([]:List (List Int)),true)))) else (some (([]:List (List Int)),true)))=some (r1,r2):=H
 have A3:=Aside0.mk A30
 clear A30
 by_cases c4:t217=true
 ·subst c4
  have H1:((mat_Sane.f k l1).bind fun t218=>(if t218=true then (if (l0.length:Int)=(l1.length:Int) then ((mat_made.f (fun i_ j_=>mat_Mul_1.f k i_ j_ l0 l1) k (l0.length:Int)).bind fun bt219=>(some (bt219.1,bt219.2))) else (some (([]:List (List Int)),true))) else (some (([]:List (List Int)),true))))=some (r1,r2):=by rw [if_pos rfl] at H;exact H
  clear H
  have H:=H1
  clear H1
  replace H:=Option.bind_eq_some_iff.mp H
  obtain⟨t218,A50,H⟩:=H
  replace H:(if t218=true then (if (l0.length:Int)=(l1.length:Int) then ((mat_made.f (fun i_ j_=>mat_Mul_1.f k i_ j_ l0 l1) k (l0.length:Int)).bind fun bt219=>(some (bt219.1,bt219.2))) else (some (([]:List (List Int)),true))) else (some (([]:List (List Int)),true)))=some (r1,r2):=H
  have A5:=Aside0.mk A50
  clear A50
  by_cases c6:t218=true
  ·subst c6
   have H1:(if (l0.length:Int)=(l1.length:Int) then ((mat_made.f (fun i_ j_=>mat_Mul_1.f k i_ j_ l0 l1) k (l0.length:Int)).bind fun bt219=>(some (bt219.1,bt219.2))) else (some (([]:List (List Int)),true)))=some (r1,r2):=by rw [if_pos rfl] at H;exact H
   clear H
   have H:=H1
   clear H1
   by_cases c7:(l0.length:Int)=(l1.length:Int)
   ·rw [if_pos c7] at H
    have c7b0:((l0.length:Int) == (l1.length:Int))=true:=beq_iff_eq.mpr c7
    have c7b1:((l0.length:Int) != (l1.length:Int))=false:=bne_eq_false_iff_eq.mpr c7
    have c7b2:(l0.length == l1.length)=true:=by first|simpa using c7|(simp at c7 ⊢;omega)
    clear c7
    replace H:=Option.bind_eq_some_iff.mp H
    obtain⟨⟨t219,t220⟩,A80,H⟩:=H
    replace H:(some (t219,t220))=some (r1,r2):=H
    have A8:=Aside0.mk A80
    clear A80
    simp only [Option.some.injEq,Prod.mk.injEq] at H
    obtain⟨rfl,rfl⟩:=H
    have tok0:True:=trivial
    go_enter Try.func12,Try.ntmps12
    go_wp2_with (first|((with_reducible refine gate_dst (N:=6) rfl ?_);have _t:=tok0;clear tok0 _t;refine gen_w (fun W=>Below w.heap.size w W∧W.cell? ⟨w.heap.size,0,none⟩=some (.slice A0 l0.length c0)∧W.cell? ⟨w.heap.size+1,0,none⟩=some (.slice A1 l1.length c1)) ⟨below_alloc (below_alloc (Below.refl _ _) _) _,((Boxed.new w 22 (.slice A0 l0.length c0)).alloc (.cells #[.slice A1 l1.length c1] 22)).cell,(by have h:=(Boxed.new (w.alloc (.cells #[.slice A0 l0.length c0] 22)) 22 (.slice A1 l1.length c1)).cell;(try simp only [World.size_alloc] at h);exact h)⟩ ?_;rintro w1_ ⟨hb1_,hx0_,hx1_⟩;have q0_:=Aside0.mk (Kd.C_below HR0.out hb1_);have q1_:=Aside0.mk (Kd.C_below HR1.out hb1_);clear HR0 HR1 HB;have HR0:=q0_;have HR1:=q1_;have HB:=Aside0.mk hb1_;clear q0_ q1_ hb1_)|((with_reducible refine gate_callee (f:=18) rfl ?_);refine goesL_ (some 7) rfl rfl Try.func18 (by kernel_rfl) rfl #[.slice A0 l0.length c0] rfl (by exact mA _ _) ?_;(with_reducible refine(mat_Sane.calls k _ _ l0 true _ ?side1 ?side2 A3.out).mono ?_);(case side1=>first|exact HR0.out|exact kC HR0.out);(case side2=>exact HC0.out);rintro e w' ⟨rfl,⟨nd,rfl⟩⟩;refine⟨_,rfl,?_⟩)|(go_at_call 18;(with_reducible refine(mat_Sane.calls k _ _ l1 true _ ?side1 ?side2 A5.out).mono ?_);(case side1=>first|exact HR1.out|exact kC HR1.out);(case side2=>exact HC1.out);rintro e w' ⟨rfl,⟨nd,rfl⟩⟩)|((with_reducible refine gate_callee (f:=27) rfl ?_);refine goesL_ (some 24) rfl rfl Try.func27 (by kernel_rfl) rfl #[.int .i64 (l0.length:Int),.func (.func 32) #[] #[.pointer (some ⟨w.heap.size,0,none⟩),.pointer (some ⟨w.heap.size+1,0,none⟩)]] rfl (by exact mA _ _) ?_;refine(mat_made.calls (fun i_ j_=>mat_Mul_1.f k i_ j_ l0 l1) 32 #[] #[.pointer (some ⟨w.heap.size,0,none⟩),.pointer (some ⟨w.heap.size+1,0,none⟩)] k (l0.length:Int) t219 t220 _ (enters_of Try.func32 (by kernel_rfl) rfl) ⟨fun i_ j_ r1_ r2_ W_ hb_ hf_=>calls_of_args (by simp) (mat_Mul_1.calls k i_ j_ _ _ l0 _ _ l1 r1_ r2_ W_ (Kd.C_below (by first|exact HR0.out|exact kC HR0.out) hb_) HC0.out (Kd.C_below (by first|exact HR1.out|exact kC HR1.out) hb_) HC1.out w.heap.size ⟨by exact(hb_.cell (World.block_lt_of_cell? _ _ hx0_)).trans hx0_⟩ (w.heap.size+1) ⟨by exact(hb_.cell (World.block_lt_of_cell? _ _ hx1_)).trans hx1_⟩ hf_)⟩ A8.out).mono ?_;rintro e w9 ⟨v221,rfl,ho0,hb⟩;refine⟨_,rfl,?_⟩;have n0_:=Aside0.mk (Kd.S_lower ho0 (below_size (by first|with_reducible exact HB.out|exact bl HB)));have n1_:=Aside0.mk (below_step (by first|with_reducible exact HB.out|exact bl HB) hb);clear HB;have HO222:=n0_;have HB:=n1_;clear n0_ n1_;(try clear hb);(try clear hb2);(try clear hk);(try clear hi);(try clear ho0)))
    go_ret2
    exact⟨_,by first|rfl|(simp [errW_none,errW_some]<;>rfl)|(simp [*,errW_none,errW_some]<;>rfl),by first|exact HO222.out|exact kS HO222.out,by first|with_reducible exact HB.out|exact bl HB⟩
   ·rw [if_neg c7] at H
    have c7b0:((l0.length:Int) == (l1.length:Int))=false:=beq_eq_false_iff_ne.mpr c7
    have c7b1:((l0.length:Int) != (l1.length:Int))=true:=bne_iff_ne.mpr c7
    have c7b2:(l0.length == l1.length)=false:=by first|simpa using c7|(simp at c7 ⊢;omega)
    simp only [Option.some.injEq,Prod.mk.injEq] at H
    obtain⟨rfl,rfl⟩:=H
    have tok0:True:=trivial
    go_enter Try.func12,Try.ntmps12
    go_wp2_with (first|((with_reducible refine gate_dst (N:=6) rfl ?_);have _t:=tok0;clear tok0 _t;refine gen_w (fun W=>Below w.heap.size w W∧W.cell? ⟨w.heap.size,0,none⟩=some (.slice A0 l0.length c0)∧W.cell? ⟨w.heap.size+1,0,none⟩=some (.slice A1 l1.length c1)) ⟨below_alloc (below_alloc (Below.refl _ _) _) _,((Boxed.new w 22 (.slice A0 l0.length c0)).alloc (.cells #[.slice A1 l1.length c1] 22)).cell,(by have h:=(Boxed.new (w.alloc (.cells #[.slice A0 l0.length c0] 22)) 22 (.slice A1 l1.length c1)).cell;(try simp only [World.size_alloc] at h);exact h)⟩ ?_;rintro w1_ ⟨hb1_,hx0_,hx1_⟩;have q0_:=Aside0.mk (Kd.C_below HR0.out hb1_);have q1_:=Aside0.mk (Kd.C_below HR1.out hb1_);clear HR0 HR1 HB;have HR0:=q0_;have HR1:=q1_;have HB:=Aside0.mk hb1_;clear q0_ q1_ hb1_)|((with_reducible refine gate_callee (f:=18) rfl ?_);refine goesL_ (some 7) rfl rfl Try.func18 (by kernel_rfl) rfl #[.slice A0 l0.length c0] rfl (by exact mA _ _) ?_;(with_reducible refine(mat_Sane.calls k _ _ l0 true _ ?side1 ?side2 A3.out).mono ?_);(case side1=>first|exact HR0.out|exact kC HR0.out);(case side2=>exact HC0.out);rintro e w' ⟨rfl,⟨nd,rfl⟩⟩;refine⟨_,rfl,?_⟩)|(go_at_call 18;(with_reducible refine(mat_Sane.calls k _ _ l1 true _ ?side1 ?side2 A5.out).mono ?_);(case side1=>first|exact HR1.out|exact kC HR1.out);(case side2=>exact HC1.out);rintro e w' ⟨rfl,⟨nd,rfl⟩⟩))
    go_ret2
    exact⟨_,by first|rfl|(simp [errW_none,errW_some]<;>rfl)|(simp [*,errW_none,errW_some]<;>rfl),by first|exact Kd.S_nil _ _ _ _ _|exact Kd.N_nil _ _ _ _ _|exact Kd.V_nil _ _ _ _ _|exact Kd.Q_nil _ _ _ _ _|exact Kd.R_nil _ _ _ _ _,by first|with_reducible exact HB.out|exact bl HB⟩
  ·replace c6:=Bool.eq_false_iff.mpr c6
   subst c6
   have H1:(some (([]:List (List Int)),true))=some (r1,r2):=by rw [if_neg (show ¬(false=true) by decide)] at H;exact H
   clear H
   have H:=H1
   clear H1
   simp only [Option.some.injEq,Prod.mk.injEq] at H
   obtain⟨rfl,rfl⟩:=H
   have tok0:True:=trivial
   go_enter Try.func12,Try.ntmps12
   go_wp2_with (first|((with_reducible refine gate_dst (N:=6) rfl ?_);have _t:=tok0;clear tok0 _t;refine gen_w (fun W=>Below w.heap.size w W∧W.cell? ⟨w.heap.size,0,none⟩=some (.slice A0 l0.length c0)∧W.cell? ⟨w.heap.size+1,0,none⟩=some (.slice A1 l1.length c1)) ⟨below_alloc (below_alloc (Below.refl _ _) _) _,((Boxed.new w 22 (.slice A0 l0.length c0)).alloc (.cells #[.slice A1 l1.length c1] 22)).cell,(by have h:=(Boxed.new (w.alloc (.cells #[.slice A0 l0.length c0] 22)) 22 (.slice A1 l1.length c1)).cell;(try simp only [World.size_alloc] at h);exact h)⟩ ?_;rintro w1_ ⟨hb1_,hx0_,hx1_⟩;have q0_:=Aside0.mk (Kd.C_below HR0.out hb1_);have q1_:=Aside0.mk (Kd.C_below HR1.out hb1_);clear HR0 HR1 HB;have HR0:=q0_;have HR1:=q1_;have HB:=Aside0.mk hb1_;clear q0_ q1_ hb1_)|((with_reducible refine gate_callee (f:=18) rfl ?_);refine goesL_ (some 7) rfl rfl Try.func18 (by kernel_rfl) rfl #[.slice A0 l0.length c0] rfl (by exact mA _ _) ?_;(with_reducible refine(mat_Sane.calls k _ _ l0 true _ ?side1 ?side2 A3.out).mono ?_);(case side1=>first|exact HR0.out|exact kC HR0.out);(case side2=>exact HC0.out);rintro e w' ⟨rfl,⟨nd,rfl⟩⟩;refine⟨_,rfl,?_⟩)|(go_at_call 18;(with_reducible refine(mat_Sane.calls k _ _ l1 false _ ?side1 ?side2 A5.out).mono ?_);(case side1=>first|exact HR1.out|exact kC HR1.out);(case side2=>exact HC1.out);rintro e w' ⟨rfl,⟨nd,rfl⟩⟩))
   go_ret2
   exact⟨_,by first|rfl|(simp [errW_none,errW_some]<;>rfl)|(simp [*,errW_none,errW_some]<;>rfl),by first|exact Kd.S_nil _ _ _ _ _|exact Kd.N_nil _ _ _ _ _|exact Kd.V_nil _ _ _ _ _|exact Kd.Q_nil _ _ _ _ _|exact Kd.R_nil _ _ _ _ _,by first|with_reducible exact HB.out|exact bl HB⟩
 ·replace c4:=Bool.eq_false_iff.mpr c4
  subst c4
  have H1:(some (([]:List (List Int)),true))=some (r1,r2):=by rw [if_neg (show ¬(false=true) by decide)] at H;exact H
  clear H
  have H:=H1
  clear H1
  simp only [Option.some.injEq,Prod.mk.injEq] at H
  obtain⟨rfl,rfl⟩:=H
  have tok0:True:=trivial
  go_enter Try.func12,Try.ntmps12
  go_wp2_with (first|((with_reducible refine gate_dst (N:=6) rfl ?_);have _t:=tok0;clear tok0 _t;refine gen_w (fun W=>Below w.heap.size w W∧W.cell? ⟨w.heap.size,0,none⟩=some (.slice A0 l0.length c0)∧W.cell? ⟨w.heap.size+1,0,none⟩=some (.slice A1 l1.length c1)) ⟨below_alloc (below_alloc (Below.refl _ _) _) _,((Boxed.new w 22 (.slice A0 l0.length c0)).alloc (.cells #[.slice A1 l1.length c1] 22)).cell,(by have h:=(Boxed.new (w.alloc (.cells #[.slice A0 l0.length c0] 22)) 22 (.slice A1 l1.length c1)).cell;(try simp only [World.size_alloc] at h);exact h)⟩ ?_;rintro w1_ ⟨hb1_,hx0_,hx1_⟩;have q0_:=Aside0.mk (Kd.C_below HR0.out hb1_);have q1_:=Aside0.mk (Kd.C_below HR1.out hb1_);clear HR0 HR1 HB;have HR0:=q0_;have HR1:=q1_;have HB:=Aside0.mk hb1_;clear q0_ q1_ hb1_)|((with_reducible refine gate_callee (f:=18) rfl ?_);refine goesL_ (some 7) rfl rfl Try.func18 (by kernel_rfl) rfl #[.slice A0 l0.length c0] rfl (by exact mA _ _) ?_;(with_reducible refine(mat_Sane.calls k _ _ l0 false _ ?side1 ?side2 A3.out).mono ?_);(case side1=>first|exact HR0.out|exact kC HR0.out);(case side2=>exact HC0.out);rintro e w' ⟨rfl,⟨nd,rfl⟩⟩;refine⟨_,rfl,?_⟩))
  go_ret2
  exact⟨_,by first|rfl|(simp [errW_none,errW_some]<;>rfl)|(simp [*,errW_none,errW_some]<;>rfl),by first|exact Kd.S_nil _ _ _ _ _|exact Kd.N_nil _ _ _ _ _|exact Kd.V_nil _ _ _ _ _|exact Kd.Q_nil _ _ _ _ _|exact Kd.R_nil _ _ _ _ _,by first|with_reducible exact HB.out|exact bl HB⟩
mutual
def mat_Apply.j0:Nat→List (List Int)→List Int→Bool→Option (List Int × Bool)
  | 0,_,_,_=>none
  | k+1,x0,x1,x21=>if x21=true then (some (([]:List Int),true)) else (if 0≤(x1.length:Int) then (if ((x1.length:Int):Int).toNat≤35184372088832 then (mat_Apply.l0 k x1 (List.replicate ((x1.length:Int):Int).toNat 0) false x0 (x0.length:Int) 0) else (none)) else (none))
def mat_Apply.l0:Nat→List Int→List Int→Bool→List (List Int)→Int→Int→Option (List Int × Bool)
  | 0,_,_,_,_,_,_=>none
  | k+1,x1,x6,x7,x25,x26,x27=>if x27<x26 then (if 0≤x27 then (if x27<(x25.length:Int) then ((sum_Dot.f k (rd_L1 x25 x27) x1).bind fun bt228=>(if x27<(x6.length:Int) then ((some (x6.set (x27:Int).toNat bt228.1:List Int)).bind fun y230=>(if x7=true then (mat_Apply.l0 k x1 y230 true x25 x26 (wrap64 (x27+1))) else (mat_Apply.l0 k x1 y230 bt228.2 x25 x26 (wrap64 (x27+1))))) else (none))) else (none)) else (none)) else (some (x6,x7))
end
def mat_Apply.f (k:Nat) (l0:List (List Int)) (l1:List Int):Option (List Int × Bool):=(mat_Sane.f k l0).bind fun t223=>(if t223=true then (mat_Apply.j0 k l0 l1 ((l1.length:Int) != (l0.length:Int))) else (mat_Apply.j0 k l0 l1 true))
theorem mat_Apply.mono_l:∀ k,(∀ y0 y1 y2,LeO (mat_Apply.j0 k y0 y1 y2) (mat_Apply.j0 (k+1) y0 y1 y2))∧(∀ y0 y1 y2 y3 y4 y5,LeO (mat_Apply.l0 k y0 y1 y2 y3 y4 y5) (mat_Apply.l0 (k+1) y0 y1 y2 y3 y4 y5))
 | 0=>⟨fun _ _ _ r h=>by simp [mat_Apply.j0] at h,fun _ _ _ _ _ _ r h=>by simp [mat_Apply.l0] at h⟩
 | k+1=>by
  obtain⟨ih0,ih1⟩:=mat_Apply.mono_l k
  refine⟨?_,?_⟩
  ·intro y0 y1 y2
   unfold mat_Apply.j0
   repeat' first
   | (with_reducible exact ih0 _ _ _)
   | (with_reducible exact ih1 _ _ _ _ _ _)
   | (with_reducible exact mat_Sane.mono _ _)
   | (with_reducible exact sum_Dot.mono _ _ _)
   | (with_reducible exact LeO.refl _)
   | (with_reducible exact LeO.none _)
   | (with_reducible refine LeO.ite ?_ ?_)
   | (with_reducible refine LeO.bind ?_ (fun _=>?_))
   | exact ih0 _ _ _
   | exact ih1 _ _ _ _ _ _
   | exact mat_Sane.mono _ _
   | exact sum_Dot.mono _ _ _
   | exact LeO.none _
   | refine LeO.ite ?_ ?_
   | refine LeO.bind ?_ (fun _=>?_)
  ·intro y0 y1 y2 y3 y4 y5
   unfold mat_Apply.l0
   repeat' first
   | (with_reducible exact ih0 _ _ _)
   | (with_reducible exact ih1 _ _ _ _ _ _)
   | (with_reducible exact mat_Sane.mono _ _)
   | (with_reducible exact sum_Dot.mono _ _ _)
   | (with_reducible exact LeO.refl _)
   | (with_reducible exact LeO.none _)
   | (with_reducible refine LeO.ite ?_ ?_)
   | (with_reducible refine LeO.bind ?_ (fun _=>?_))
   | exact ih0 _ _ _
   | exact ih1 _ _ _ _ _ _
   | exact mat_Sane.mono _ _
   | exact sum_Dot.mono _ _ _
   | exact LeO.none _
   | refine LeO.ite ?_ ?_
   | refine LeO.bind ?_ (fun _=>?_)
theorem mat_Apply.mono:∀ a0 a1 k,LeO (mat_Apply.f k a0 a1) (mat_Apply.f (k+1) a0 a1):=by
 intro a0 a1 k
 obtain⟨ih0,ih1⟩:=mat_Apply.mono_l k
 unfold mat_Apply.f
 repeat' first
   | (with_reducible exact ih0 _ _ _)
   | (with_reducible exact ih1 _ _ _ _ _ _)
   | (with_reducible exact mat_Sane.mono _ _)
   | (with_reducible exact sum_Dot.mono _ _ _)
   | (with_reducible exact LeO.refl _)
   | (with_reducible exact LeO.none _)
   | (with_reducible refine LeO.ite ?_ ?_)
   | (with_reducible refine LeO.bind ?_ (fun _=>?_))
   | exact ih0 _ _ _
   | exact ih1 _ _ _ _ _ _
   | exact mat_Sane.mono _ _
   | exact sum_Dot.mono _ _ _
   | exact LeO.none _
   | refine LeO.ite ?_ ?_
   | refine LeO.bind ?_ (fun _=>?_)
set_option maxHeartbeats 8000000 in
set_option maxRecDepth 100000 in
theorem mat_Apply.calls (k:Nat) (A0:Option Addr) (c0:Nat) (l0:List (List Int)) (A1:Option Addr) (c1:Nat) (l1:List Int) (r1:List Int) (r2:Bool) (w:World) (hr0:Kd.C (Kd.slice 3 (Kd.int .i64)) w A0 l0.length l0) (hc0:l0.length≤c0) (hr1:Kd.C (Kd.int .i64) w A1 l1.length l1) (hc1:l1.length≤c1) (h:mat_Apply.f k l0 l1=some (r1,r2)) :
  Calls Try.prog 14 #[.slice A0 l0.length c0,.slice A1 l1.length c1] w fun e w'=>∃ v0_:Value,e=.returned (.tuple #[v0_,.bool r2])∧Kd.R (Kd.int .i64) 3 w' w.heap.size (fun _=>True) v0_ r1∧Below w.heap.size w w':=by
 have HR0:=Aside0.mk hr0
 have HC0:=Aside0.mk hc0
 clear hr0 hc0
 have HR1:=Aside0.mk hr1
 have HC1:=Aside0.mk hc1
 clear hr1 hc1
 have HB:=Aside0.mk (Below.refl w.heap.size w)
 have H:((mat_Sane.f k l0).bind fun t223=>(if t223=true then (mat_Apply.j0 k l0 l1 ((l1.length:Int) != (l0.length:Int))) else (mat_Apply.j0 k l0 l1 true)))=some (r1,r2):=h
 clear h
 have HC3:=Aside0.mk H
 clear H
 go_enter Try.func14,Try.ntmps14
 go_upto_region 1 with (fail)
 go_cut [21] (fun v21 wc=>∃ (kq:Nat) (x21_2:Bool),v21=.bool x21_2∧Aside0 (mat_Apply.j0 kq l0 l1 x21_2=some (r1,r2))∧Aside0 (kq≤k)∧Aside0 (Below w.heap.size w wc))
 case first =>
  have H:=HC3.out
  clear HC3
  replace H:=Option.bind_eq_some_iff.mp H
  obtain⟨t223,A40,H⟩:=H
  replace H:(if t223=true then (mat_Apply.j0 k l0 l1 ((l1.length:Int) != (l0.length:Int))) else (mat_Apply.j0 k l0 l1 true))=some (r1,r2):=H
  have A4:=Aside0.mk A40
  clear A40
  by_cases c5:t223=true
  ·subst c5
   have H1:(mat_Apply.j0 k l0 l1 ((l1.length:Int) != (l0.length:Int)))=some (r1,r2):=by rw [if_pos rfl] at H;exact H
   clear H
   have H:=H1
   clear H1
   have H':=Aside0.mk H
   clear H
   go_wp2_with (first|((with_reducible refine gate_callee (f:=18) rfl ?_);refine goesL_ (some 13) rfl rfl Try.func18 (by kernel_rfl) rfl #[.slice A0 l0.length c0] rfl (by exact mA _ _) ?_;(with_reducible refine(mat_Sane.calls k _ _ l0 true _ ?side1 ?side2 A4.out).mono ?_);(case side1=>first|exact(Kd.C_below HR0.out HB.out)|exact kC (Kd.C_below HR0.out HB.out));(case side2=>exact HC0.out);rintro e w' ⟨rfl,⟨nd,rfl⟩⟩;refine⟨_,rfl,?_⟩))
   go_meet
   case rel=>exact⟨_,(((l1.length:Int) != (l0.length:Int))),(by first|rfl|(simp;done)|(simp [*];done)),H',⟨by first|omega|exact Nat.le_refl _⟩,⟨by first|with_reducible exact HB.out|exact bl HB⟩⟩
  ·replace c5:=Bool.eq_false_iff.mpr c5
   subst c5
   have H1:(mat_Apply.j0 k l0 l1 true)=some (r1,r2):=by rw [if_neg (show ¬(false=true) by decide)] at H;exact H
   clear H
   have H:=H1
   clear H1
   have H':=Aside0.mk H
   clear H
   go_wp2_with (first|((with_reducible refine gate_callee (f:=18) rfl ?_);refine goesL_ (some 13) rfl rfl Try.func18 (by kernel_rfl) rfl #[.slice A0 l0.length c0] rfl (by exact mA _ _) ?_;(with_reducible refine(mat_Sane.calls k _ _ l0 false _ ?side1 ?side2 A4.out).mono ?_);(case side1=>first|exact(Kd.C_below HR0.out HB.out)|exact kC (Kd.C_below HR0.out HB.out));(case side2=>exact HC0.out);rintro e w' ⟨rfl,⟨nd,rfl⟩⟩;refine⟨_,rfl,?_⟩))
   go_meet
   case rel=>exact⟨_,(true),(by first|rfl|(simp;done)|(simp [*];done)),H',⟨by first|omega|exact Nat.le_refl _⟩,⟨by first|with_reducible exact HB.out|exact bl HB⟩⟩
 case rest =>
  clear HC3
  try clear c1
  try clear p2
  try clear c5
  obtain⟨kq,x21_2,rfl,HA,HJ2,HB⟩:=hcut
  cases kq with
  | zero=>exact absurd HA.out (by simp [mat_Apply.j0])
  | succ kj2 =>
   have H:=HA.out
   clear HA
   simp only [mat_Apply.j0] at H
   by_cases c6:x21_2=true
   ·subst c6
    have H1:(some (([]:List Int),true))=some (r1,r2):=by rw [if_pos rfl] at H;exact H
    clear H
    have H:=H1
    clear H1
    simp only [Option.some.injEq,Prod.mk.injEq] at H
    obtain⟨rfl,rfl⟩:=H
    go_wp2
    go_ret2
    exact⟨_,by first|rfl|(simp [errW_none,errW_some]<;>rfl)|(simp [*,errW_none,errW_some]<;>rfl),by first|exact Kd.R_nil _ _ _ _ _|exact Kd.N_nil _ _ _ _ _|exact Kd.V_nil _ _ _ _ _|exact Kd.Q_nil _ _ _ _ _|exact Kd.S_nil _ _ _ _ _,by first|with_reducible exact HB.out|exact bl HB⟩
   ·replace c6:=Bool.eq_false_iff.mpr c6
    subst c6
    have H1:(if 0≤(l1.length:Int) then (if ((l1.length:Int):Int).toNat≤35184372088832 then (mat_Apply.l0 kj2 l1 (List.replicate ((l1.length:Int):Int).toNat 0) false l0 (l0.length:Int) 0) else (none)) else (none))=some (r1,r2):=by rw [if_neg (show ¬(false=true) by decide)] at H;exact H
    clear H
    have H:=H1
    clear H1
    by_cases c7:0≤(l1.length:Int)
    ·rw [if_pos c7] at H
     have c7b0:=eq_true c7
     have c7b1:decide (0≤(l1.length:Int))=true:=decide_eq_true c7
     clear c7
     by_cases c8:((l1.length:Int):Int).toNat≤35184372088832
     ·rw [if_pos c8] at H
      have c8b0:=eq_true c8
      have c8b1:decide (((l1.length:Int):Int).toNat≤35184372088832)=true:=decide_eq_true c8
      clear c8
      obtain⟨y224,hy224⟩:∃ y_:List Int,y_=(List.replicate ((l1.length:Int):Int).toNat 0):=⟨_,rfl⟩
      replace H:(mat_Apply.l0 kj2 l1 y224 false l0 (l0.length:Int) 0)=some (r1,r2):=by first|(rw [hy224];with_reducible exact H)|(have H2_:=(Option.bind_some _ _).symm.trans H;rw [hy224];with_reducible exact H2_)|(have H2_:=(Option.bind_some _ _).symm.trans H;with_reducible exact H2_)|with_reducible exact H|(rw [hy224];exact H)|exact H
      have Ny224:=Aside0.mk hy224
      clear hy224
      have H':=Aside0.mk H
      clear H
      go_wp2_with (first|((with_reducible refine gate_dst (N:=24) rfl ?_);(try (refine gate_guard (by rfl) ?_;dsimp only));refine Kd.R_make (Kd.int .i64) _ 3 rfl (N:=24) rfl 23 _ _ rfl (l1.length:Int) rfl rfl Try.underlying23 (.int .i64 0) 8 info3 rfl (by decide) (by omega) 0 (ok:=fun _=>True) (okp:=fun _=>True) rfl (fun _ hk=>hk) trivial (of_decide_eq_true (by first|(with_reducible assumption)|assumption)) (Nat.le_trans (Nat.mul_le_mul_right _ (of_decide_eq_true (by first|(with_reducible assumption)|assumption):(l1.length:Int).toNat≤35184372088832)) (by omega)) (Below.refl _ _) (Nat.le_refl _) ?_;intro v225 w9 ho10 hb hg_ hnew_;clear hg_ hnew_;(first|rw [←Ny224.out] at ho10|(simp only [Int.reduceToNat] at ho10;rw [←Ny224.out] at ho10));have n0_:=Aside0.mk (Kd.R_lower ho10 (below_size (by first|with_reducible exact HB.out|exact bl HB)));have n1_:=Aside0.mk (below_step (by first|with_reducible exact HB.out|exact bl HB) hb);clear HB;have HO226:=n0_;have HB:=n1_;clear n0_ n1_;clear hb ho10))
      go_loopg [7,27] kj2 (fun kq v7 v27 w'=>∃ (x6_2:List Int) (x7_2:Bool) (x27_2:Int),v7=.bool x7_2∧v27=.int .i64 x27_2∧Aside0 (mat_Apply.l0 kq l1 x6_2 x7_2 l0 (l0.length:Int) x27_2=some (r1,r2))∧Aside0 (kq≤kj2)∧Aside0 (Kd.R (Kd.int .i64) 3 w' w.heap.size (fun _=>True) v225 x6_2)∧Aside0 (Below w.heap.size w w'))
      case atStart=>exact⟨(y224),(false),(0),(by first|rfl|(simp;done)|(simp [*];done)),(by first|rfl|(simp;done)|(simp [*];done)),H',⟨Nat.le_refl _⟩,⟨by first|exact HO226.out|exact kR HO226.out⟩,⟨by first|with_reducible exact HB.out|exact bl HB⟩⟩
      case round =>
       clear H'
       try clear c1
       try clear p2
       try clear c5
       try clear c6
       try clear c7
       try clear c7b0
       try clear c7b1
       try clear c8
       try clear c8b0
       try clear c8b1
       try clear p2
       obtain⟨x6_2,x7_2,x27_2,rfl,rfl,HA,HK2,HO_6,HB⟩:=hrel
       cases gk with
       | zero=>exact absurd HA.out (by simp [mat_Apply.l0])
       | succ k2 =>
        have H:=HA.out
        clear HA
        simp only [mat_Apply.l0] at H
        by_cases c11:x27_2<(l0.length:Int)
        ·rw [if_pos c11] at H
         have c11b0:decide (x27_2<(l0.length:Int))=true:=decide_eq_true c11
         clear c11
         by_cases c12:0≤x27_2
         ·rw [if_pos c12] at H
          have c12b0:decide (0≤x27_2)=true:=decide_eq_true c12
          clear c12
          by_cases c13:x27_2<(l0.length:Int)
          ·rw [if_pos c13] at H
           have c13b0:decide (x27_2<(l0.length:Int))=true:=decide_eq_true c13
           clear c13
           replace H:=Option.bind_eq_some_iff.mp H
           obtain⟨⟨t228,t229⟩,A140,H⟩:=H
           replace H:(if x27_2<(x6_2.length:Int) then ((some (x6_2.set (x27_2:Int).toNat t228:List Int)).bind fun y230=>(if x7_2=true then (mat_Apply.l0 k2 l1 y230 true l0 (l0.length:Int) (wrap64 (x27_2+1))) else (mat_Apply.l0 k2 l1 y230 t229 l0 (l0.length:Int) (wrap64 (x27_2+1))))) else (none))=some (r1,r2):=H
           have A14:=Aside0.mk A140
           clear A140
           by_cases c15:x27_2<(x6_2.length:Int)
           ·rw [if_pos c15] at H
            have c15b0:decide (x27_2<(x6_2.length:Int))=true:=decide_eq_true c15
            clear c15
            obtain⟨y230,hy230⟩:∃ y_:List Int,y_=(x6_2.set (x27_2:Int).toNat t228):=⟨_,rfl⟩
            replace H:(if x7_2=true then (mat_Apply.l0 k2 l1 y230 true l0 (l0.length:Int) (wrap64 (x27_2+1))) else (mat_Apply.l0 k2 l1 y230 t229 l0 (l0.length:Int) (wrap64 (x27_2+1))))=some (r1,r2):=by first|(rw [hy230];with_reducible exact H)|(have H2_:=(Option.bind_some _ _).symm.trans H;rw [hy230];with_reducible exact H2_)|(have H2_:=(Option.bind_some _ _).symm.trans H;with_reducible exact H2_)|with_reducible exact H|(rw [hy230];exact H)|exact H
            have Ny230:=Aside0.mk hy230
            clear hy230
            by_cases c17:x7_2=true
            ·subst c17
             have H1:(mat_Apply.l0 k2 l1 y230 true l0 (l0.length:Int) (wrap64 (x27_2+1)))=some (r1,r2):=by rw [if_pos rfl] at H;exact H
             clear H
             have H:=H1
             clear H1
             have H':=Aside0.mk H
             clear H
             have p227:0≤(x27_2:Int):=of_decide_eq_true (by first|(with_reducible assumption)|assumption)
             have q227:x27_2<(l0.length:Int):=of_decide_eq_true (by first|(with_reducible assumption)|assumption)
             obtain⟨ad227,A227_0,c227_0,e227,hx227_0,hl227_0,hi227_0⟩:=at_L1 HR0.out x27_2 p227 q227
             cases e227
             replace hx227_0:=(HB.out.cell (World.block_lt_of_cell? w _ hx227_0)).trans hx227_0
             have HR227_0:=Aside0.mk hi227_0
             have HC227_0:=Aside0.mk hl227_0
             clear hi227_0 hl227_0
             replace p227:=eq_true p227
             replace q227:=eq_true q227
             go_wp2_with (first|((with_reducible refine gate_callee (f:=33) rfl ?_);refine goesL_ (some 35) rfl rfl Try.func33 (by kernel_rfl) rfl #[.slice A227_0 (rd_L1 l0 x27_2).length c227_0,.slice A1 l1.length c1] rfl (by exact mA _ _) ?_;(with_reducible refine(sum_Dot.calls k2 _ _ (rd_L1 l0 x27_2) _ _ l1 t228 t229 _ ?side1 ?side2 ?side3 ?side4 A14.out).mono ?_);(case side1=>first|exact(Kd.C_below HR227_0.out HB.out)|exact kC (Kd.C_below HR227_0.out HB.out));(case side2=>exact HC227_0.out);(case side3=>first|exact(Kd.C_below HR1.out HB.out)|exact kC (Kd.C_below HR1.out HB.out));(case side4=>exact HC1.out);rintro e w18 ⟨rfl,hb⟩;refine⟨_,rfl,?_⟩;have n0_:=Aside0.mk (Kd.R_below (by first|exact HO_6.out|exact kR HO_6.out) hb);have n1_:=Aside0.mk (below_step (by first|with_reducible exact HB.out|exact bl HB) hb);clear HO_6;clear HB;have HO_6:=n0_;have HB:=n1_;clear n0_ n1_;(try clear hb);(try clear hb2);(try clear hk);(try clear hi);have p16:0≤(x27_2:Int):=of_decide_eq_true (by first|(with_reducible assumption)|assumption);have q16:(x27_2:Int)<((x6_2.length:Int):Int):=of_decide_eq_true (by first|(with_reducible assumption)|assumption);obtain⟨go16,co16,eo16,gb16,gl16,cl16,HG16⟩:=Kd.R_form HO_6.out (by omega);(first|cases eo16|(injection eo16 with ea_ en_ ec_;(first|subst ea_|(injection ea_ with ea_;subst ea_));subst ec_;clear en_));have GB16:=Aside0.mk gb16;have GG16:=Aside0.mk HG16;clear gb16 gl16 HG16;obtain⟨hx16_0,hf16_0⟩:=Kd.R_celln 0 HO_6.out (x27_2:Int) p16 q16;replace p16:=eq_true p16;replace q16:=eq_true q16;obtain⟨hy19_,hz19_⟩:=Kd.R_celln 0 HO_6.out (x27_2:Int) (of_decide_eq_true (by first|(with_reducible assumption)|assumption)) (of_decide_eq_true (by first|(with_reducible assumption)|assumption));have HP19:=Kd.R_putg HO_6.out (x27_2:Int) t228)|((with_reducible refine gate_store (t:=3) (p:=41) rfl ?_);refine store_event (t:=3) (p:=41) (v:=?vo_w20) (w1:=(w18.setCell ⟨go16,(x27_2:Int).toNat,none⟩ (.int .i64 t228))) ?hg ?ho ?hn ?hr ?_;(case ho=>rfl);(case hg=>rfl);(case hn=>rfl);(case hr=>first|(go_simp;done)|(go_simp;rfl));intro w20 hw;have hg:w18.grownBy w20 (some go16):=(by rw [hw];exact HP19.2);have hp_:Kd.R (Kd.int .i64) 3 w20 w.heap.size (fun _=>True) (.slice (some ⟨go16,0,none⟩) x6_2.length co16) y230:=(by rw [hw,Ny230.out];exact HP19.1);clear HP19;have n0_:=Aside0.mk (hp_);have n1_:=Aside0.mk ((by rw [hw];exact below_set (HB.out) GB16.out:Below w.heap.size w w20));clear HO_6;clear HB;have HO_6:=n0_;have HB:=n1_;clear n0_ n1_;clear hg hw hp_))
             go_roundg k2
             case measure=>have:=HJ2.out;have:=HK2.out;omega
             case rel=>exact⟨(y230),(true),(wrap64 (x27_2+1)),(by first|rfl|(simp;done)|(simp [*];done)),(by first|rfl|(simp;done)|(simp [*];done)),H',⟨by have:=HJ2.out;have:=HK2.out;omega⟩,⟨by first|exact HO_6.out|exact kR HO_6.out⟩,⟨by first|with_reducible exact HB.out|exact bl HB⟩⟩
            ·replace c17:=Bool.eq_false_iff.mpr c17
             subst c17
             have H1:(mat_Apply.l0 k2 l1 y230 t229 l0 (l0.length:Int) (wrap64 (x27_2+1)))=some (r1,r2):=by rw [if_neg (show ¬(false=true) by decide)] at H;exact H
             clear H
             have H:=H1
             clear H1
             have H':=Aside0.mk H
             clear H
             have p227:0≤(x27_2:Int):=of_decide_eq_true (by first|(with_reducible assumption)|assumption)
             have q227:x27_2<(l0.length:Int):=of_decide_eq_true (by first|(with_reducible assumption)|assumption)
             obtain⟨ad227,A227_0,c227_0,e227,hx227_0,hl227_0,hi227_0⟩:=at_L1 HR0.out x27_2 p227 q227
             cases e227
             replace hx227_0:=(HB.out.cell (World.block_lt_of_cell? w _ hx227_0)).trans hx227_0
             have HR227_0:=Aside0.mk hi227_0
             have HC227_0:=Aside0.mk hl227_0
             clear hi227_0 hl227_0
             replace p227:=eq_true p227
             replace q227:=eq_true q227
             go_wp2_with (first|((with_reducible refine gate_callee (f:=33) rfl ?_);refine goesL_ (some 35) rfl rfl Try.func33 (by kernel_rfl) rfl #[.slice A227_0 (rd_L1 l0 x27_2).length c227_0,.slice A1 l1.length c1] rfl (by exact mA _ _) ?_;(with_reducible refine(sum_Dot.calls k2 _ _ (rd_L1 l0 x27_2) _ _ l1 t228 t229 _ ?side1 ?side2 ?side3 ?side4 A14.out).mono ?_);(case side1=>first|exact(Kd.C_below HR227_0.out HB.out)|exact kC (Kd.C_below HR227_0.out HB.out));(case side2=>exact HC227_0.out);(case side3=>first|exact(Kd.C_below HR1.out HB.out)|exact kC (Kd.C_below HR1.out HB.out));(case side4=>exact HC1.out);rintro e w21 ⟨rfl,hb⟩;refine⟨_,rfl,?_⟩;have n0_:=Aside0.mk (Kd.R_below (by first|exact HO_6.out|exact kR HO_6.out) hb);have n1_:=Aside0.mk (below_step (by first|with_reducible exact HB.out|exact bl HB) hb);clear HO_6;clear HB;have HO_6:=n0_;have HB:=n1_;clear n0_ n1_;(try clear hb);(try clear hb2);(try clear hk);(try clear hi);have p16:0≤(x27_2:Int):=of_decide_eq_true (by first|(with_reducible assumption)|assumption);have q16:(x27_2:Int)<((x6_2.length:Int):Int):=of_decide_eq_true (by first|(with_reducible assumption)|assumption);obtain⟨go16,co16,eo16,gb16,gl16,cl16,HG16⟩:=Kd.R_form HO_6.out (by omega);(first|cases eo16|(injection eo16 with ea_ en_ ec_;(first|subst ea_|(injection ea_ with ea_;subst ea_));subst ec_;clear en_));have GB16:=Aside0.mk gb16;have GG16:=Aside0.mk HG16;clear gb16 gl16 HG16;obtain⟨hx16_0,hf16_0⟩:=Kd.R_celln 0 HO_6.out (x27_2:Int) p16 q16;replace p16:=eq_true p16;replace q16:=eq_true q16;obtain⟨hy22_,hz22_⟩:=Kd.R_celln 0 HO_6.out (x27_2:Int) (of_decide_eq_true (by first|(with_reducible assumption)|assumption)) (of_decide_eq_true (by first|(with_reducible assumption)|assumption));have HP22:=Kd.R_putg HO_6.out (x27_2:Int) t228)|((with_reducible refine gate_store (t:=3) (p:=41) rfl ?_);refine store_event (t:=3) (p:=41) (v:=?vo_w23) (w1:=(w21.setCell ⟨go16,(x27_2:Int).toNat,none⟩ (.int .i64 t228))) ?hg ?ho ?hn ?hr ?_;(case ho=>rfl);(case hg=>rfl);(case hn=>rfl);(case hr=>first|(go_simp;done)|(go_simp;rfl));intro w23 hw;have hg:w21.grownBy w23 (some go16):=(by rw [hw];exact HP22.2);have hp_:Kd.R (Kd.int .i64) 3 w23 w.heap.size (fun _=>True) (.slice (some ⟨go16,0,none⟩) x6_2.length co16) y230:=(by rw [hw,Ny230.out];exact HP22.1);clear HP22;have n0_:=Aside0.mk (hp_);have n1_:=Aside0.mk ((by rw [hw];exact below_set (HB.out) GB16.out:Below w.heap.size w w23));clear HO_6;clear HB;have HO_6:=n0_;have HB:=n1_;clear n0_ n1_;clear hg hw hp_))
             go_roundg k2
             case measure=>have:=HJ2.out;have:=HK2.out;omega
             case rel=>exact⟨(y230),(t229),(wrap64 (x27_2+1)),(by first|rfl|(simp;done)|(simp [*];done)),(by first|rfl|(simp;done)|(simp [*];done)),H',⟨by have:=HJ2.out;have:=HK2.out;omega⟩,⟨by first|exact HO_6.out|exact kR HO_6.out⟩,⟨by first|with_reducible exact HB.out|exact bl HB⟩⟩
           ·rw [if_neg c15] at H
            exact absurd H (by simp)
          ·rw [if_neg c13] at H
           exact absurd H (by simp)
         ·rw [if_neg c12] at H
          exact absurd H (by simp)
        ·rw [if_neg c11] at H
         have c11b0:decide (x27_2<(l0.length:Int))=false:=decide_eq_false c11
         clear c11
         simp only [Option.some.injEq,Prod.mk.injEq] at H
         obtain⟨rfl,rfl⟩:=H
         go_wp2
         go_ret2
         exact⟨_,by first|rfl|(simp [errW_none,errW_some]<;>rfl)|(simp [*,errW_none,errW_some]<;>rfl),by first|exact HO_6.out|exact kR HO_6.out,by first|with_reducible exact HB.out|exact bl HB⟩
     ·rw [if_neg c8] at H
      exact absurd H (by simp)
    ·rw [if_neg c7] at H
     exact absurd H (by simp)
def mat_One_1.f (a0:Int) (a1:Int):Option (Int × Bool):=if a0=a1 then (some (4294967296,false)) else (some (0,false))
set_option maxHeartbeats 8000000 in
set_option maxRecDepth 100000 in
theorem mat_One_1.calls (a0:Int) (a1:Int) (r1:Int) (r2:Bool) (w:World) (h:mat_One_1.f a0 a1=some (r1,r2)) :
  Calls Try.prog 37 #[.int .i64 a0,.int .i64 a1] w fun e w'=>e=.returned (.tuple #[.int .i64 r1,.bool r2])∧Drawn0 w w':=by
 have H:(if a0=a1 then (some (4294967296,false)) else (some (0,false)))=some (r1,r2):=h
 clear h
 by_cases c3:a0=a1
 ·rw [if_pos c3] at H
  have c3b0:(a0 == a1)=true:=beq_iff_eq.mpr c3
  have c3b1:(a0 != a1)=false:=bne_eq_false_iff_eq.mpr c3
  clear c3
  simp only [Option.some.injEq,Prod.mk.injEq] at H
  obtain⟨rfl,rfl⟩:=H
  go_enter Try.func37,Try.ntmps37
  go_wp2
  go_ret2
  exact⟨by first|rfl|(simp;done)|(simp [*];done),by repeat (first|exact Drawn0.refl _|apply Drawn0.step)⟩
 ·rw [if_neg c3] at H
  have c3b0:(a0 == a1)=false:=beq_eq_false_iff_ne.mpr c3
  have c3b1:(a0 != a1)=true:=bne_iff_ne.mpr c3
  simp only [Option.some.injEq,Prod.mk.injEq] at H
  obtain⟨rfl,rfl⟩:=H
  go_enter Try.func37,Try.ntmps37
  go_wp2
  go_ret2
  exact⟨by first|rfl|(simp;done)|(simp [*];done),by repeat (first|exact Drawn0.refl _|apply Drawn0.step)⟩
def mat_One.f (k:Nat) (a0:Int):Option ((List (List Int))):=if a0<1 then (some ([]:List (List Int))) else (if a0 > 6 then (some ([]:List (List Int))) else ((mat_made.f mat_One_1.f k a0).bind fun bt236=>(some bt236.1)))
theorem mat_One.mono:∀ a0 k,LeO (mat_One.f k a0) (mat_One.f (k+1) a0):=by
 intro a0 k
 unfold mat_One.f
 repeat' first
   | exact mat_made.mono (fun _ _=>LeO.refl _) _ _
   | (with_reducible exact LeO.refl _)
   | (with_reducible exact LeO.none _)
   | (with_reducible refine LeO.ite ?_ ?_)
   | (with_reducible refine LeO.bind ?_ (fun _=>?_))
   | exact mat_made.mono (fun _ _=>LeO.refl _) _ _
   | exact LeO.none _
   | refine LeO.ite ?_ ?_
   | refine LeO.bind ?_ (fun _=>?_)
set_option maxHeartbeats 8000000 in
set_option maxRecDepth 100000 in
theorem mat_One.calls (k:Nat) (a0:Int) (r:List (List Int)) (w:World) (h:mat_One.f k a0=some r) :
  Calls Try.prog 20 #[.int .i64 a0] w fun e w'=>∃ v0_:Value,e=.returned (v0_)∧Kd.S (Kd.slice 3 (Kd.int .i64)) 23 w' w.heap.size (fun _=>True) v0_ r∧Below w.heap.size w w':=by
 have HB:=Aside0.mk (Below.refl w.heap.size w)
 have H:(if a0<1 then (some ([]:List (List Int))) else (if a0 > 6 then (some ([]:List (List Int))) else ((mat_made.f mat_One_1.f k a0).bind fun bt236=>(some bt236.1))))=some r:=h
 clear h
 by_cases c2:a0<1
 ·rw [if_pos c2] at H
  have c2b0:decide (a0<1)=true:=decide_eq_true c2
  clear c2
  obtain rfl:=Option.some.inj H
  go_enter Try.func20,Try.ntmps20
  go_wp2
  go_ret
  exact⟨_,by first|rfl|(simp [errW_none,errW_some]<;>rfl)|(simp [*,errW_none,errW_some]<;>rfl),by first|exact Kd.S_nil _ _ _ _ _|exact Kd.N_nil _ _ _ _ _|exact Kd.V_nil _ _ _ _ _|exact Kd.Q_nil _ _ _ _ _|exact Kd.R_nil _ _ _ _ _,by first|with_reducible exact HB.out|exact bl HB⟩
 ·rw [if_neg c2] at H
  have c2b0:decide (a0<1)=false:=decide_eq_false c2
  clear c2
  by_cases c3:a0 > 6
  ·rw [if_pos c3] at H
   have c3b0:decide (6<a0)=true:=decide_eq_true c3
   clear c3
   obtain rfl:=Option.some.inj H
   go_enter Try.func20,Try.ntmps20
   go_wp2
   go_ret
   exact⟨_,by first|rfl|(simp [errW_none,errW_some]<;>rfl)|(simp [*,errW_none,errW_some]<;>rfl),by first|exact Kd.S_nil _ _ _ _ _|exact Kd.N_nil _ _ _ _ _|exact Kd.V_nil _ _ _ _ _|exact Kd.Q_nil _ _ _ _ _|exact Kd.R_nil _ _ _ _ _,by first|with_reducible exact HB.out|exact bl HB⟩
  ·rw [if_neg c3] at H
   have c3b0:decide (6<a0)=false:=decide_eq_false c3
   clear c3
   replace H:=Option.bind_eq_some_iff.mp H
   obtain⟨⟨t236,t237⟩,A40,H⟩:=H
   replace H:(some t236)=some r:=H
   have A4:=Aside0.mk A40
   clear A40
   obtain rfl:=Option.some.inj H
   go_enter Try.func20,Try.ntmps20
   go_wp2_with (first|((with_reducible refine gate_callee (f:=27) rfl ?_);refine goesL_ (some 13) rfl rfl Try.func27 (by kernel_rfl) rfl #[.int .i64 a0,.func (.func 37) #[] #[]] rfl (by exact mA _ _) ?_;refine(mat_made.calls mat_One_1.f 37 #[] #[] k a0 t236 t237 _ (enters_of Try.func37 (by kernel_rfl) rfl) ⟨fun i_ j_ r1_ r2_ W_ hb_ hf_=>calls_of_args (by simp) ((mat_One_1.calls i_ j_ r1_ r2_ W_ hf_).mono (fun e_ W2_ h_=>by obtain⟨he_,nd_,hW_⟩:=h_;subst hW_;exact⟨he_,pw_below_drewN (Below.refl _ _) nd_⟩))⟩ A4.out).mono ?_;rintro e w5 ⟨v238,rfl,ho0,hb⟩;refine⟨_,rfl,?_⟩;have n0_:=Aside0.mk (Kd.S_lower ho0 (below_size (by first|with_reducible exact HB.out|exact bl HB)));have n1_:=Aside0.mk (below_step (by first|with_reducible exact HB.out|exact bl HB) hb);clear HB;have HO239:=n0_;have HB:=n1_;clear n0_ n1_;(try clear hb);(try clear hb2);(try clear hk);(try clear hi);(try clear ho0)))
   go_ret
   exact⟨_,by first|rfl|(simp [errW_none,errW_some]<;>rfl)|(simp [*,errW_none,errW_some]<;>rfl),by first|exact HO239.out|exact kS HO239.out,by first|with_reducible exact HB.out|exact bl HB⟩
end Go.Proofs.Ytembdogffbcjiaa.B
