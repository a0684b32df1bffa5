/- Lemmas that the row leans on; laid by a program of this project out of longer texts: what the row does not name is left out. -/
import Derived.Test.YtiejinbjfficnaaXB0
import Derived.Test.YtiejinbjfficnaaXB2
import Derived.Test.YtiejinbjfficnaaXB3
import Derived.Test.YtiejinbjfficnaaXB5
import Derived.Test.YtiejinbjfficnaaXSeqA
namespace Go.Proofs.Ytiejinbjfficnaa.B
open Go.RowKit Go.Proofs.YtiejinbjfficnaaW.PrintWords Go.Proofs.YtiejinbjfficnaaW.PrintLast Go.Proofs.YtiejinbjfficnaaW.PrintMore
attribute [local go_sem] max2_int min2_int max_two min_two max_three min_three max_four min_four
set_option linter.unusedVariables false
set_option linter.unusedSimpArgs false
def sum_products_1.f (a0:Int) (l1:List Int) (l2:List Int):Option (Int × Int):=if 0≤a0 then (if a0<(l1.length:Int) then (if a0<(l2.length:Int) then ((wide_Mul.f (rd l1 a0) (rd l2 a0)).bind fun bt188=>(some (bt188.1,bt188.2))) else (none)) else (none)) else (none)
def sum_products_1.T1:Bool × List (List Nat × List Nat):=(true,[([],[]),([],[]),([0,1],[0,1]),([2],[2]),([],[]),([],[]),([4,5],[4,5]),([6],[6]),([3,7],[3,7]),([8,8,0,1,2,3,4,5,6,7,8],[8])])
def sum_products_1.B1:List Nat:=[0,0,3,7,0,0,48,112,255,511]
theorem sum_products_1.tab1:rtab .any (opsOf Try.f56 1)=sum_products_1.T1:=by kernel_rfl
theorem sum_products_1.bits1:waitsOk sum_products_1.T1.2 sum_products_1.B1=true:=by kernel_rfl
set_option maxHeartbeats 8000000 in
set_option maxRecDepth 100000 in
theorem sum_products_1.calls (a0:Int) (A1:Option Addr) (c1:Nat) (l1:List Int) (A2:Option Addr) (c2:Nat) (l2:List Int) (r1:Int) (r2:Int) (w:World) (hr1:Kd.C (Kd.int .i64) w A1 l1.length l1) (hc1:l1.length≤c1) (hr2:Kd.C (Kd.int .i64) w A2 l2.length l2) (hc2:l2.length≤c2) (g1_:Nat) (HX1:Aside0 (w.cell? ⟨g1_,0,none⟩=some (.slice A1 l1.length c1))) (g2_:Nat) (HX2:Aside0 (w.cell? ⟨g2_,0,none⟩=some (.slice A2 l2.length c2))) (h:sum_products_1.f a0 l1 l2=some (r1,r2)) :
  Calls Try.prog 56 #[.int .i64 a0,.pointer (some ⟨g1_,0,none⟩),.pointer (some ⟨g2_,0,none⟩)] w fun e w'=>e=.returned (.agg #[.int .i64 r1,.int .i64 r2])∧Below w.heap.size w w':=by
 have hu36:=Try.underlying36
 have HR1:=Aside0.mk hr1
 have HC1:=Aside0.mk hc1
 clear hr1 hc1
 have HR2:=Aside0.mk hr2
 have HC2:=Aside0.mk hc2
 clear hr2 hc2
 have HB:=Aside0.mk (Below.refl w.heap.size w)
 have H:(if 0≤a0 then (if a0<(l1.length:Int) then (if a0<(l2.length:Int) then ((wide_Mul.f (rd l1 a0) (rd l2 a0)).bind fun bt188=>(some (bt188.1,bt188.2))) else (none)) else (none)) else (none))=some (r1,r2):=h
 clear h
 by_cases c4:0≤a0
 ·rw [if_pos c4] at H
  have c4b0:decide (0≤a0)=true:=decide_eq_true c4
  clear c4
  by_cases c5:a0<(l1.length:Int)
  ·rw [if_pos c5] at H
   have c5b0:decide (a0<(l1.length:Int))=true:=decide_eq_true c5
   clear c5
   by_cases c6:a0<(l2.length:Int)
   ·rw [if_pos c6] at H
    have c6b0:decide (a0<(l2.length:Int))=true:=decide_eq_true c6
    clear c6
    replace H:=Option.bind_eq_some_iff.mp H
    obtain⟨⟨t188,t189⟩,A70,H⟩:=H
    replace H:(some (t188,t189))=some (r1,r2):=H
    have A7:=Aside0.mk A70
    clear A70
    simp only [Option.some.injEq,Prod.mk.injEq] at H
    obtain⟨rfl,rfl⟩:=H
    go_enter Try.func56,Try.ntmps56
    try go_wp2_with (first|((with_reducible refine gate_dst (N:=4) rfl ?_);refine box_event ?hg (N:=4) ?hd (cs:=#[.int .i64 0,.int .i64 0]) (t:=36) ?hr ?_;(case hd=>rfl);(case hg=>rfl);(case hr=>first|(go_simp;done)|(go_simp;rfl));intro gb185 hg w8 hbox hb;have n0_:=Aside0.mk (below_step (by repeat (first|(with_reducible first|exact HB.out|apply below_alloc|apply pw_below_drewN|apply below_drew1)|exact HB.out)) hb);have n1_:=Aside0.mk (hbox);have n2_:=Aside0.mk ((by rw [hg];exact(below_size (by repeat (first|(with_reducible first|exact HB.out|apply below_alloc|apply pw_below_drewN|apply below_drew1)|exact HB.out))):w.heap.size≤gb185));have n3_:=Aside0.mk ((by rw [hg];exact(below_size (by repeat (first|(with_reducible first|exact HB.out|apply below_alloc|apply pw_below_drewN|apply below_drew1)|exact HB.out))):w.heap.size≤gb185));clear HB;have HB:=n0_;have BK185:=n1_;have GW185:=n2_;have GE185:=n3_;clear n0_ n1_ n2_ n3_;clear hb hbox hg))
    have n0_:=Aside0.mk (blk_drew BK185.out)
    have n1_:=Aside0.mk (below_drew1 HB.out)
    clear BK185
    clear HB
    have BK185:=n0_
    have HB:=n1_
    clear n0_ n1_
    have p186:0≤(a0:Int):=of_decide_eq_true (by first|(with_reducible assumption)|assumption)
    have q186:a0<(l1.length:Int):=of_decide_eq_true (by first|(with_reducible assumption)|assumption)
    obtain⟨ad186,e186,hx186_0⟩:=Kd.at_int HR1.out a0 p186 q186
    have hw186_0:=hx186_0
    cases e186
    replace hx186_0:=(HB.out.cell (World.block_lt_of_cell? w _ hx186_0)).trans hx186_0
    replace p186:=eq_true p186
    replace q186:=eq_true q186
    have p187:0≤(a0:Int):=of_decide_eq_true (by first|(with_reducible assumption)|assumption)
    have q187:a0<(l2.length:Int):=of_decide_eq_true (by first|(with_reducible assumption)|assumption)
    obtain⟨ad187,e187,hx187_0⟩:=Kd.at_int HR2.out a0 p187 q187
    have hw187_0:=hx187_0
    cases e187
    replace hx187_0:=(HB.out.cell (World.block_lt_of_cell? w _ hx187_0)).trans hx187_0
    replace p187:=eq_true p187
    replace q187:=eq_true q187
    refine start_ (n:=10) (S:=fun w'=>w'.cell? (ad186.add (a0).toNat)=some (.int .i64 (rd l1 a0))∧w'.cell? (ad187.add (a0).toNat)=some (.int .i64 (rd l2 a0))∧w'.cell? ⟨g1_,0,none⟩=some (.slice (some ad186) l1.length c1)∧w'.cell? ⟨g2_,0,none⟩=some (.slice (some ad187) l2.length c2)) (ds:=[]) #[false,false,false,false,false,false,false,false,false,false] (by kernel_rfl) rfl rfl ⟨((HB.out.cell (World.block_lt_of_cell? w _ hw186_0)).trans hw186_0),((HB.out.cell (World.block_lt_of_cell? w _ hw187_0)).trans hw187_0),(((show Below w.heap.size w _ from (by repeat (first|(with_reducible first|exact HB.out|apply below_alloc|apply pw_below_drewN|apply below_drew1|refine below_set ?_ GE185.out)|exact HB.out))).cell (World.block_lt_of_cell? w _ HX1.out)).trans HX1.out),(((show Below w.heap.size w _ from (by repeat (first|(with_reducible first|exact HB.out|apply below_alloc|apply pw_below_drewN|apply below_drew1|refine below_set ?_ GE185.out)|exact HB.out))).cell (World.block_lt_of_cell? w _ HX2.out)).trans HX2.out)⟩ (fun hHeld=>?_);refine with_tabW sum_products_1.tab1 sum_products_1.bits1 (fun HT_ HW_=>?_)
    generalize w8.drew=w9 at BK185 HB hx186_0 hx187_0 hHeld ⊢
    refine take_ (i:=0) (N:=some 5) (v:=?_) (a':=?_) #[true,false,false,false,false,false,false,false,false,false] rfl rfl (take_ofW HT_.out HW_.out (by kernel_rfl)) (fun _ _ _ h=>h) (Or.inl ⟨by rfl,?_⟩) hHeld ?_ ?_
    rotate_left
    ·rintro w' ⟨s0,s1,s2,s3⟩
     go_simp
     with_reducible rfl
    rotate_left
    ·simp only [Act.put,List.setIfInBounds_toArray,List.set_cons_zero,List.set_cons_succ,i64_w,i32_w]
     rfl
    refine pure_ (i:=1) (N:=some 6) (v:=?_) (a':=?_) #[true,true,false,false,false,false,false,false,false,false] rfl rfl (any_of HT_.out (by kernel_rfl)) (fun _ _ _ h=>h) (Or.inl ⟨by rfl,?_⟩) ?_ ?_
    rotate_left
    ·intro w'
     go_simp
     with_reducible rfl
    rotate_left
    ·simp only [Act.put,List.setIfInBounds_toArray,List.set_cons_zero,List.set_cons_succ,i64_w,i32_w]
     rfl
    refine pure_ (i:=2) (N:=some 7) (v:=?_) (a':=?_) #[true,true,true,false,false,false,false,false,false,false] rfl rfl (any_of HT_.out (by kernel_rfl)) (fun _ _ _ h=>h) (Or.inl ⟨by rfl,?_⟩) ?_ ?_
    rotate_left
    ·intro w'
     go_simp
     with_reducible rfl
    rotate_left
    ·simp only [Act.put,List.setIfInBounds_toArray,List.set_cons_zero,List.set_cons_succ,i64_w,i32_w]
     rfl
    refine take_ (i:=4) (N:=some 9) (v:=?_) (a':=?_) #[true,true,true,false,true,false,false,false,false,false] rfl rfl (take_ofW HT_.out HW_.out (by kernel_rfl)) (fun _ _ _ h=>h) (Or.inl ⟨by rfl,?_⟩) hHeld ?_ ?_
    rotate_left
    ·rintro w' ⟨s0,s1,s2,s3⟩
     go_simp
     with_reducible rfl
    rotate_left
    ·simp only [Act.put,List.setIfInBounds_toArray,List.set_cons_zero,List.set_cons_succ,i64_w,i32_w]
     rfl
    refine pure_ (i:=5) (N:=some 10) (v:=?_) (a':=?_) #[true,true,true,false,true,true,false,false,false,false] rfl rfl (any_of HT_.out (by kernel_rfl)) (fun _ _ _ h=>h) (Or.inl ⟨by rfl,?_⟩) ?_ ?_
    rotate_left
    ·intro w'
     go_simp
     with_reducible rfl
    rotate_left
    ·simp only [Act.put,List.setIfInBounds_toArray,List.set_cons_zero,List.set_cons_succ,i64_w,i32_w]
     rfl
    refine pure_ (i:=6) (N:=some 11) (v:=?_) (a':=?_) #[true,true,true,false,true,true,true,false,false,false] rfl rfl (any_of HT_.out (by kernel_rfl)) (fun _ _ _ h=>h) (Or.inl ⟨by rfl,?_⟩) ?_ ?_
    rotate_left
    ·intro w'
     go_simp
     with_reducible rfl
    rotate_left
    ·simp only [Act.put,List.setIfInBounds_toArray,List.set_cons_zero,List.set_cons_succ,i64_w,i32_w]
     rfl
    refine take_ (i:=3) (N:=some 8) (v:=?_) (a':=?_) #[true,true,true,true,true,true,true,false,false,false] rfl rfl (take_ofW HT_.out HW_.out (by kernel_rfl)) (fun _ _ _ h=>h) (Or.inl ⟨by rfl,?_⟩) hHeld ?_ ?_
    rotate_left
    ·rintro w' ⟨s0,s1,s2,s3⟩
     go_simp
     with_reducible rfl
    rotate_left
    ·simp only [Act.put,List.setIfInBounds_toArray,List.set_cons_zero,List.set_cons_succ,i64_w,i32_w]
     rfl
    refine take_ (i:=7) (N:=some 12) (v:=?_) (a':=?_) #[true,true,true,true,true,true,true,true,false,false] rfl rfl (take_ofW HT_.out HW_.out (by kernel_rfl)) (fun _ _ _ h=>h) (Or.inl ⟨by rfl,?_⟩) hHeld ?_ ?_
    rotate_left
    ·rintro w' ⟨s0,s1,s2,s3⟩
     go_simp
     with_reducible rfl
    rotate_left
    ·simp only [Act.put,List.setIfInBounds_toArray,List.set_cons_zero,List.set_cons_succ,i64_w,i32_w]
     rfl
    refine one_ (i:=8) (N:=some 13) #[true,true,true,true,true,true,true,true,true,false] rfl rfl (one_of HT_.out (by kernel_rfl)) (by decide) (fun K hK=>?_)
    refine goes_ Try.func40 (by kernel_rfl) rfl #[.int .i64 (rd l1 a0),.int .i64 (rd l2 a0)] (by rfl) rfl rfl (by (try simp only [List.map_toArray,List.map_cons,List.map_nil]);first|done|rfl|(simp only [List.length_drop,List.length_take];rfl)) ?_
    with_reducible refine(wide_Mul.calls (rd l1 a0) (rd l2 a0) t188 t189 _ A7.out).mono ?_
    rintro e w10 ⟨rfl,hb⟩
    refine⟨_,rfl,?_⟩
    have n0_:=Aside0.mk (blk_below (g:=gb185) (o:=.cells #[.int .i64 0,.int .i64 0] 36 (0,0)) (by (with_reducible repeat (first|refine blk_drewN ?_ _|refine blk_drew ?_|refine blk_alloc ?_ _));exact BK185.out) hb)
    have n1_:=Aside0.mk (below_step (by repeat (first|(with_reducible first|exact HB.out|apply below_alloc|apply pw_below_drewN|apply below_drew1|refine below_set ?_ GE185.out)|exact HB.out)) hb)
    clear BK185
    clear HB
    have BK185:=n0_
    have HB:=n1_
    clear n0_ n1_
    (try clear hb)
    (try clear hb2)
    (try clear hk)
    (try clear hi)
    refine hK.out _ _ ⟨((HB.out.cell (World.block_lt_of_cell? w _ hw186_0)).trans hw186_0),((HB.out.cell (World.block_lt_of_cell? w _ hw187_0)).trans hw187_0),(((show Below w.heap.size w _ from (by repeat (first|(with_reducible first|exact HB.out|apply below_alloc|apply pw_below_drewN|apply below_drew1|refine below_set ?_ GE185.out)|exact HB.out))).cell (World.block_lt_of_cell? w _ HX1.out)).trans HX1.out),(((show Below w.heap.size w _ from (by repeat (first|(with_reducible first|exact HB.out|apply below_alloc|apply pw_below_drewN|apply below_drew1|refine below_set ?_ GE185.out)|exact HB.out))).cell (World.block_lt_of_cell? w _ HX2.out)).trans HX2.out)⟩ (fun hHeld=>?_)
    clear hK K
    refine norm_ (a':=?_) ?_ ?_
    rotate_left
    ·show Act.put _ (some 13) _=_
     simp only [Act.put,List.setIfInBounds_toArray,List.set_cons_zero,List.set_cons_succ,i64_w,i32_w]
     rfl
    refine one_ (i:=9) (N:=none) #[true,true,true,true,true,true,true,true,true,true] rfl rfl (one_of HT_.out (by kernel_rfl)) (by decide) (fun K hK=>?_)
    have hs11:w10.cell? ⟨gb185,0,none⟩=some (.int .i64 0):=(blk_cell BK185.out 0).trans rfl
    have hfs11:=blk_frozen BK185.out 0
    have hs12:w10.cell? ⟨gb185,1,none⟩=some (.int .i64 0):=(blk_cell BK185.out 1).trans rfl
    have hfs12:=blk_frozen BK185.out 1
    refine skip_ (w1:=?_) (by rfl) rfl ?_ ?_
    rotate_left
    ·go_simp
     rfl
    refine hK.out _ _ ⟨((cell_far (p:=⟨gb185,_,none⟩) (by first|exact Nat.ne_of_lt (Nat.lt_of_lt_of_le (by have:=World.block_lt_of_cell? _ _ hw186_0;first|rwa [add_block] at this|exact this) GW185.out)|(rw [add_block];exact Nat.ne_of_lt (Nat.lt_of_lt_of_le (by have:=World.block_lt_of_cell? _ _ hw186_0;first|rwa [add_block] at this|exact this) GW185.out))|(show(Addr.add _ _).block≠_;rw [add_block];exact Nat.ne_of_lt (Nat.lt_of_lt_of_le (by have:=World.block_lt_of_cell? _ _ hw186_0;first|rwa [add_block] at this|exact this) GW185.out))|(dsimp only;exact Nat.ne_of_lt (Nat.lt_of_lt_of_le (by have:=World.block_lt_of_cell? _ _ hw186_0;first|rwa [add_block] at this|exact this) GW185.out))) _).trans (((cell_far (p:=⟨gb185,_,none⟩) (by first|exact Nat.ne_of_lt (Nat.lt_of_lt_of_le (by have:=World.block_lt_of_cell? _ _ hw186_0;first|rwa [add_block] at this|exact this) GW185.out)|(rw [add_block];exact Nat.ne_of_lt (Nat.lt_of_lt_of_le (by have:=World.block_lt_of_cell? _ _ hw186_0;first|rwa [add_block] at this|exact this) GW185.out))|(show(Addr.add _ _).block≠_;rw [add_block];exact Nat.ne_of_lt (Nat.lt_of_lt_of_le (by have:=World.block_lt_of_cell? _ _ hw186_0;first|rwa [add_block] at this|exact this) GW185.out))|(dsimp only;exact Nat.ne_of_lt (Nat.lt_of_lt_of_le (by have:=World.block_lt_of_cell? _ _ hw186_0;first|rwa [add_block] at this|exact this) GW185.out))) _).trans (hHeld.1)))),((cell_far (p:=⟨gb185,_,none⟩) (by first|exact Nat.ne_of_lt (Nat.lt_of_lt_of_le (by have:=World.block_lt_of_cell? _ _ hw187_0;first|rwa [add_block] at this|exact this) GW185.out)|(rw [add_block];exact Nat.ne_of_lt (Nat.lt_of_lt_of_le (by have:=World.block_lt_of_cell? _ _ hw187_0;first|rwa [add_block] at this|exact this) GW185.out))|(show(Addr.add _ _).block≠_;rw [add_block];exact Nat.ne_of_lt (Nat.lt_of_lt_of_le (by have:=World.block_lt_of_cell? _ _ hw187_0;first|rwa [add_block] at this|exact this) GW185.out))|(dsimp only;exact Nat.ne_of_lt (Nat.lt_of_lt_of_le (by have:=World.block_lt_of_cell? _ _ hw187_0;first|rwa [add_block] at this|exact this) GW185.out))) _).trans (((cell_far (p:=⟨gb185,_,none⟩) (by first|exact Nat.ne_of_lt (Nat.lt_of_lt_of_le (by have:=World.block_lt_of_cell? _ _ hw187_0;first|rwa [add_block] at this|exact this) GW185.out)|(rw [add_block];exact Nat.ne_of_lt (Nat.lt_of_lt_of_le (by have:=World.block_lt_of_cell? _ _ hw187_0;first|rwa [add_block] at this|exact this) GW185.out))|(show(Addr.add _ _).block≠_;rw [add_block];exact Nat.ne_of_lt (Nat.lt_of_lt_of_le (by have:=World.block_lt_of_cell? _ _ hw187_0;first|rwa [add_block] at this|exact this) GW185.out))|(dsimp only;exact Nat.ne_of_lt (Nat.lt_of_lt_of_le (by have:=World.block_lt_of_cell? _ _ hw187_0;first|rwa [add_block] at this|exact this) GW185.out))) _).trans (hHeld.2.1)))),(((show Below w.heap.size w _ from (by repeat (first|(with_reducible first|exact HB.out|apply below_alloc|apply pw_below_drewN|apply below_drew1|refine below_set ?_ GE185.out)|exact HB.out))).cell (World.block_lt_of_cell? w _ HX1.out)).trans HX1.out),(((show Below w.heap.size w _ from (by repeat (first|(with_reducible first|exact HB.out|apply below_alloc|apply pw_below_drewN|apply below_drew1|refine below_set ?_ GE185.out)|exact HB.out))).cell (World.block_lt_of_cell? w _ HX2.out)).trans HX2.out)⟩ (fun hHeld=>?_)
    clear hK K
    refine done_ (done_of HT_.out (by kernel_rfl)) ?_
    try go_wp2
    refine bodyPost_ret (results_cell_row rfl _ _ gb185 36 #[.int .i64 t188,.int .i64 t189] (0,0) _ rfl (by (with_reducible repeat (first|refine blk_drewN ?_ _|refine blk_drew ?_|refine blk_alloc ?_ _));refine blk_put (cs:=#[.int .i64 t188,.int .i64 0]) ?_ 1 _ rfl;(with_reducible repeat (first|refine blk_drewN ?_ _|refine blk_drew ?_|refine blk_alloc ?_ _));refine blk_put (cs:=#[.int .i64 0,.int .i64 0]) ?_ 0 _ rfl;(with_reducible repeat (first|refine blk_drewN ?_ _|refine blk_drew ?_|refine blk_alloc ?_ _));exact BK185.out) Try.underlying36 rfl (by kernel_rfl)) rfl ?_
    exact⟨by first|rfl|(simp [errW_none,errW_some]<;>rfl)|(simp [*,errW_none,errW_some]<;>rfl),by repeat (first|(with_reducible first|exact HB.out|apply below_alloc|apply pw_below_drewN|apply below_drew1|refine below_set ?_ GE185.out)|exact HB.out)⟩
   ·rw [if_neg c6] at H
    exact absurd H (by simp)
  ·rw [if_neg c5] at H
   exact absurd H (by simp)
 ·rw [if_neg c4] at H
  exact absurd H (by simp)
def sum_products.l0:Nat→List Int→List Int→Int→Int→Int→Int→Option (Int × Int)
  | 0,_,_,_,_,_,_=>none
  | k+1,x0,x1,x19,x20,x192000,x192001=>if x20<x19 then ((sum_products_1.f x20 x0 x1).bind fun bt192=>((wide_Add.f x192000 x192001 bt192.1 bt192.2).bind fun bt194=>(sum_products.l0 k x0 x1 x19 (wrap64 (x20+1)) bt194.1 bt194.2.1))) else (some (x192000,x192001))
def sum_products.f (k:Nat) (l0:List Int) (l1:List Int):Option (Int × Int):=sum_products.l0 k l0 l1 (l0.length:Int) 0 0 0
theorem sum_products.mono_l:∀ k,(∀ y0 y1 y2 y3 y4 y5,LeO (sum_products.l0 k y0 y1 y2 y3 y4 y5) (sum_products.l0 (k+1) y0 y1 y2 y3 y4 y5))
 | 0=>fun _ _ _ _ _ _ r h=>by simp [sum_products.l0] at h
 | k+1=>by
  have ih0:=sum_products.mono_l k
  ·intro y0 y1 y2 y3 y4 y5
   unfold sum_products.l0
   repeat' first
   | (with_reducible exact ih0 _ _ _ _ _ _)
   | (with_reducible exact LeO.refl _)
   | (with_reducible exact LeO.none _)
   | (with_reducible refine LeO.ite ?_ ?_)
   | (with_reducible refine LeO.bind ?_ (fun _=>?_))
   | exact ih0 _ _ _ _ _ _
   | exact LeO.none _
   | refine LeO.ite ?_ ?_
   | refine LeO.bind ?_ (fun _=>?_)
theorem sum_products.mono:∀ a0 a1 k,LeO (sum_products.f k a0 a1) (sum_products.f (k+1) a0 a1):=by
 intro a0 a1 k
 have ih0:=sum_products.mono_l k
 unfold sum_products.f
 repeat' first
   | (with_reducible exact ih0 _ _ _ _ _ _)
   | (with_reducible exact LeO.refl _)
   | (with_reducible exact LeO.none _)
   | (with_reducible refine LeO.ite ?_ ?_)
   | (with_reducible refine LeO.bind ?_ (fun _=>?_))
   | exact ih0 _ _ _ _ _ _
   | exact LeO.none _
   | refine LeO.ite ?_ ?_
   | refine LeO.bind ?_ (fun _=>?_)
theorem sum_products.zs (l m:List Int) (hl:l.length≤64):∀ (k i:Nat) (s r:Int × Int),i≤l.length→sum_products.l0 k l m (l.length:Int) (i:Int) s.1 s.2=some r→∃ zs:List (Int × Int),zs.length+i=l.length∧(∀ (j:Nat) x,zs[j]? = some x→sum_products_1.f ((j+i:Nat):Int) l m=some x)∧sumZ zs s=some r
 | 0,i,s,r,_,h=>by simp [sum_products.l0] at h
 | k+1,i,s,r,hi,h=>by
  simp only [sum_products.l0] at h
  by_cases c:(i:Int)<(l.length:Int)
  ·rw [if_pos c] at h
   obtain⟨x,hx,h⟩:=Option.bind_eq_some_iff.mp h
   obtain⟨t,ht,h⟩:=Option.bind_eq_some_iff.mp h
   have hw:wrap64 ((i:Int)+1)=((i+1:Nat):Int):=by unfold wrap64;omega
   rw [hw] at h
   obtain⟨zs,h1,h2,h3⟩:=sum_products.zs l m hl k (i+1) (t.1,t.2.1) r (by omega) h
   refine⟨x :: zs,by simp;omega,?_,?_⟩
   ·intro j y hy
    cases j with
    | zero=>simp at hy;subst hy;simpa using hx
    | succ j =>
     have:=h2 j y (by simpa using hy)
     rw [show j+1+i=j+(i+1) by omega]
     exact this
   ·simp only [sumZ]
    rw [ht]
    exact h3
  ·rw [if_neg c] at h
   have:s=r:=Option.some.inj h
   subst this
   exact⟨[],by simp;omega,by simp,rfl⟩
theorem sum_products.calls (k:Nat) (A0:Option Addr) (c0:Nat) (l0:List Int) (A1:Option Addr) (c1:Nat) (l1:List Int) (r1:Int) (r2:Int) (w:World) (hr0:Kd.C (Kd.int .i64) w A0 l0.length l0) (hc0:l0.length≤c0) (hr1:Kd.C (Kd.int .i64) w A1 l1.length l1) (hc1:l1.length≤c1) (hlen_:l0.length≤64) (h:sum_products.f k l0 l1=some (r1,r2)) :
  Calls Try.prog 33 #[.slice A0 l0.length c0,.slice A1 l1.length c1] w fun e w'=>∃ B1 B2,e=.returned (.func (.func 62) #[] #[.pointer (some ⟨B1,0,none⟩),.pointer (some ⟨B2,0,none⟩)])∧SumsTo w' B1 B2 r1 r2∧Below w.heap.size w w':=by
 obtain⟨zs,h1,h2,h3⟩:=sum_products.zs l0 l1 hlen_ k 0 (0,0) (r1,r2) (by omega) h
 refine(products_gives A0 A1 l0.length c0 l1.length c1 zs (by omega) hlen_ w (fun j x hx B B' W' hB hB' hb=>?_)).mono ?_
 ·exact sum_products_1.calls j A0 c0 l0 A1 c1 l1 x.1 x.2 W' (Kd.C_below hr0 hb) hc0 (Kd.C_below hr1 hb) hc1 B ⟨hB⟩ B' ⟨hB'⟩ (by have:=h2 j x hx;simpa using this)
 ·rintro e w' ⟨B1,B2,he,hG,hb⟩
  exact⟨B1,B2,he,⟨_,zs,hG,h3⟩,hb⟩
def sum_Dot.f (k:Nat) (l0:List Int) (l1:List Int):Option (Int × Bool):=if 0≤(mn (mn (l0.length:Int) (l1.length:Int)) 64) then (if (mn (mn (l0.length:Int) (l1.length:Int)) 64)≤(l0.length:Int) then (if (mn (mn (l0.length:Int) (l1.length:Int)) 64)≤(l1.length:Int) then ((sum_products.f k (l0.take ((mn (mn (l0.length:Int) (l1.length:Int)) 64):Int).toNat) (l1.take ((mn (mn (l0.length:Int) (l1.length:Int)) 64):Int).toNat)).bind fun bt199=>((scale_Round.f k bt199.1 bt199.2).bind fun bt201=>(if bt201.2=true then (some (bt201.1,true)) else ((sum_changed.f k (l0.take ((mn (mn (l0.length:Int) (l1.length:Int)) 64):Int).toNat)).bind fun t203=>(if t203=true then (some (bt201.1,true)) else ((sum_changed.f k (l1.take ((mn (mn (l0.length:Int) (l1.length:Int)) 64):Int).toNat)).bind fun t204=>(some (bt201.1,t204)))))))) else (none)) else (none)) else (none)
theorem sum_Dot.mono:∀ a0 a1 k,LeO (sum_Dot.f k a0 a1) (sum_Dot.f (k+1) a0 a1):=by
 intro a0 a1 k
 unfold sum_Dot.f
 repeat' first
   | (with_reducible exact scale_Round.mono _ _ _)
   | (with_reducible exact sum_changed.mono _ _)
   | (with_reducible exact sum_products.mono _ _ _)
   | (with_reducible exact LeO.refl _)
   | (with_reducible exact LeO.none _)
   | (with_reducible refine LeO.ite ?_ ?_)
   | (with_reducible refine LeO.bind ?_ (fun _=>?_))
   | exact scale_Round.mono _ _ _
   | exact sum_changed.mono _ _
   | exact sum_products.mono _ _ _
   | exact LeO.none _
   | refine LeO.ite ?_ ?_
   | refine LeO.bind ?_ (fun _=>?_)
set_option maxHeartbeats 8000000 in
set_option maxRecDepth 100000 in
theorem sum_Dot.calls (k:Nat) (A0:Option Addr) (c0:Nat) (l0:List Int) (A1:Option Addr) (c1:Nat) (l1:List Int) (r1:Int) (r2:Bool) (w:World) (hr0:Kd.C (Kd.int .i64) w A0 l0.length l0) (hc0:l0.length≤c0) (hr1:Kd.C (Kd.int .i64) w A1 l1.length l1) (hc1:l1.length≤c1) (h:sum_Dot.f k l0 l1=some (r1,r2)) :
  Calls Try.prog 13 #[.slice A0 l0.length c0,.slice A1 l1.length c1] w fun e w'=>e=.returned (.tuple #[.int .i64 r1,.bool r2])∧Below w.heap.size w w':=by
 have HR0:=Aside0.mk hr0
 have HC0:=Aside0.mk hc0
 clear hr0 hc0
 have HR1:=Aside0.mk hr1
 have HC1:=Aside0.mk hc1
 clear hr1 hc1
 have HB:=Aside0.mk (Below.refl w.heap.size w)
 have H:(if 0≤(mn (mn (l0.length:Int) (l1.length:Int)) 64) then (if (mn (mn (l0.length:Int) (l1.length:Int)) 64)≤(l0.length:Int) then (if (mn (mn (l0.length:Int) (l1.length:Int)) 64)≤(l1.length:Int) then ((sum_products.f k (l0.take ((mn (mn (l0.length:Int) (l1.length:Int)) 64):Int).toNat) (l1.take ((mn (mn (l0.length:Int) (l1.length:Int)) 64):Int).toNat)).bind fun bt199=>((scale_Round.f k bt199.1 bt199.2).bind fun bt201=>(if bt201.2=true then (some (bt201.1,true)) else ((sum_changed.f k (l0.take ((mn (mn (l0.length:Int) (l1.length:Int)) 64):Int).toNat)).bind fun t203=>(if t203=true then (some (bt201.1,true)) else ((sum_changed.f k (l1.take ((mn (mn (l0.length:Int) (l1.length:Int)) 64):Int).toNat)).bind fun t204=>(some (bt201.1,t204)))))))) else (none)) else (none)) else (none))=some (r1,r2):=h
 clear h
 obtain⟨ji3,hji3⟩:∃ j_:Int,(mn (l0.length:Int) (l1.length:Int))=j_:=⟨_,rfl⟩
 replace H:(if 0≤(mn (ji3) 64) then (if (mn (ji3) 64)≤(l0.length:Int) then (if (mn (ji3) 64)≤(l1.length:Int) then ((sum_products.f k (l0.take ((mn (ji3) 64):Int).toNat) (l1.take ((mn (ji3) 64):Int).toNat)).bind fun bt199=>((scale_Round.f k bt199.1 bt199.2).bind fun bt201=>(if bt201.2=true then (some (bt201.1,true)) else ((sum_changed.f k (l0.take ((mn (ji3) 64):Int).toNat)).bind fun t203=>(if t203=true then (some (bt201.1,true)) else ((sum_changed.f k (l1.take ((mn (ji3) 64):Int).toNat)).bind fun t204=>(some (bt201.1,t204)))))))) else (none)) else (none)) else (none))=some (r1,r2):=by first|(rw [hji3] at H;exact H)|(simp only [hji3] at H ⊢;exact H)
 (try (have hji3l:0≤ji3:=by (rw [←hji3];unfold mn;(repeat' split)<;>omega)))
 (try (have hji3m:0≤ji3:=by omega))
 have hji3_:(if (l1.length:Int)<(l0.length:Int) then (l1.length:Int) else (l0.length:Int))=ji3:=hji3
 have hji3n:(if l1.length<l0.length then (l1.length:Int) else (l0.length:Int))=ji3:=by rw [←hji3_];simp only [Int.ofNat_lt]
 obtain⟨ji4,hji4⟩:∃ j_:Int,(mn (ji3) 64)=j_:=⟨_,rfl⟩
 replace H:(if 0≤(ji4) then (if (ji4)≤(l0.length:Int) then (if (ji4)≤(l1.length:Int) then ((sum_products.f k (l0.take ((ji4):Int).toNat) (l1.take ((ji4):Int).toNat)).bind fun bt199=>((scale_Round.f k bt199.1 bt199.2).bind fun bt201=>(if bt201.2=true then (some (bt201.1,true)) else ((sum_changed.f k (l0.take ((ji4):Int).toNat)).bind fun t203=>(if t203=true then (some (bt201.1,true)) else ((sum_changed.f k (l1.take ((ji4):Int).toNat)).bind fun t204=>(some (bt201.1,t204)))))))) else (none)) else (none)) else (none))=some (r1,r2):=by first|(rw [hji4] at H;exact H)|(simp only [hji4] at H ⊢;exact H)
 have hji4_:(if 64<(ji3) then 64 else (ji3))=ji4:=hji4
 have hji4h:ji4≤64:=by rw [←hji4];unfold mn;split<;>omega
 obtain⟨m0,hm0⟩:∃ m_:List Int,(l0.take ((ji4):Int).toNat)=m_:=⟨_,rfl⟩
 obtain⟨m1,hm1⟩:∃ m_:List Int,(l1.take ((ji4):Int).toNat)=m_:=⟨_,rfl⟩
 rw [hm0,hm1] at H
 have hm9:=Aside0.mk (show m0.length≤64 by rw [←hm0,List.length_take];omega)
 have hm8:=Aside0.mk (show m1.length≤64 by rw [←hm1,List.length_take];omega)
 by_cases c5:0≤(ji4)
 ·rw [if_pos c5] at H
  have c5b0:=eq_true c5
  have c5b1:decide (0≤(ji4))=true:=decide_eq_true c5
  clear c5
  by_cases c6:(ji4)≤(l0.length:Int)
  ·rw [if_pos c6] at H
   have c6b0:=eq_true c6
   have c6b1:decide ((ji4)≤(l0.length:Int))=true:=decide_eq_true c6
   clear c6
   have c7b0:=eq_true (of_decide_eq_true (by first|(with_reducible assumption)|assumption):0≤(ji4))
   by_cases c8:(ji4)≤(l1.length:Int)
   ·rw [if_pos c8] at H
    have c8b0:=eq_true c8
    have c8b1:decide ((ji4)≤(l1.length:Int))=true:=decide_eq_true c8
    clear c8
    replace H:=Option.bind_eq_some_iff.mp H
    obtain⟨⟨t199,t200⟩,A90,H⟩:=H
    replace H:((scale_Round.f k t199 t200).bind fun bt201=>(if bt201.2=true then (some (bt201.1,true)) else ((sum_changed.f k m0).bind fun t203=>(if t203=true then (some (bt201.1,true)) else ((sum_changed.f k m1).bind fun t204=>(some (bt201.1,t204)))))))=some (r1,r2):=H
    have A9:=Aside0.mk A90
    clear A90
    replace H:=Option.bind_eq_some_iff.mp H
    obtain⟨⟨t201,t202⟩,A100,H⟩:=H
    replace H:(if t202=true then (some (t201,true)) else ((sum_changed.f k m0).bind fun t203=>(if t203=true then (some (t201,true)) else ((sum_changed.f k m1).bind fun t204=>(some (t201,t204))))))=some (r1,r2):=H
    have A10:=Aside0.mk A100
    clear A100
    by_cases c11:t202=true
    ·subst c11
     have H1:(some (t201,true))=some (r1,r2):=by rw [if_pos rfl] at H;exact H
     clear H
     have H:=H1
     clear H1
     simp only [Option.some.injEq,Prod.mk.injEq] at H
     obtain⟨rfl,rfl⟩:=H
     obtain⟨i012,hi012,_,hsz12,_⟩:=info_parts info3
     obtain⟨hcut12,hA12,hC12⟩:=print_take_of (P:=Try.prog) (Value.int .i64) 0 22 3 .i64 Try.underlying22 hi012 hsz12 A0 c0 l0 (ji4) (of_decide_eq_true (by first|(with_reducible assumption)|assumption)) (of_decide_eq_true (by first|(with_reducible assumption)|assumption)) HC0.out
     rw [hm0] at hA12 hC12
     simp only [hm0] at hcut12
     have HR197:=Aside0.mk (Kd.C_of_reads (h1:=fun _=>rfl) (hA12 _ (Kd.reads_of_C HR0.out)))
     have HC197:=Aside0.mk hC12
     clear hA12 hC12 hi012 hsz12
     obtain⟨i013,hi013,_,hsz13,_⟩:=info_parts info3
     obtain⟨hcut13,hA13,hC13⟩:=print_take_of (P:=Try.prog) (Value.int .i64) 0 22 3 .i64 Try.underlying22 hi013 hsz13 A1 c1 l1 (ji4) (of_decide_eq_true (by first|(with_reducible assumption)|assumption)) (of_decide_eq_true (by first|(with_reducible assumption)|assumption)) HC1.out
     rw [hm1] at hA13 hC13
     simp only [hm1] at hcut13
     have HR198:=Aside0.mk (Kd.C_of_reads (h1:=fun _=>rfl) (hA13 _ (Kd.reads_of_C HR1.out)))
     have HC198:=Aside0.mk hC13
     clear hA13 hC13 hi013 hsz13
     go_enter Try.func13,Try.ntmps13
     go_wp2_with (first|(go_at_call 33;(with_reducible refine(sum_products.calls k _ _ m0 _ _ m1 t199 t200 _ ?side1 ?side2 ?side3 ?side4 ?side9 A9.out).mono ?_);(case side1=>repeat (first|exact HR197.out|(with_reducible refine Kd.C_alloc ?_ _)|(with_reducible refine Kd.C_drewN ?_ _)|(with_reducible refine Kd.C_drew ?_)));(case side2=>exact HC197.out);(case side3=>repeat (first|exact HR198.out|(with_reducible refine Kd.C_alloc ?_ _)|(with_reducible refine Kd.C_drewN ?_ _)|(with_reducible refine Kd.C_drew ?_)));(case side4=>exact HC198.out);(case side9=>first|exact hm9.out|exact hm8.out|(rw [List.length_take];omega));rintro e w14 ⟨B1_,B2_,rfl,hG_,hb⟩;have n0_:=Aside0.mk (below_step (by repeat (first|(with_reducible first|exact HB.out|apply below_alloc|apply pw_below_drewN|apply below_drew1)|exact HB.out)) hb);clear HB;have HB:=n0_;clear n0_;(try clear hb);(try clear hb2);(try clear hk);(try clear hi))|(go_at_call 23;(with_reducible refine(sum_add.calls _ _ t199 t200 _ ?sideG).mono ?_);(case sideG=>first|exact hG_|exact hG_.later (by repeat (first|exact Below.refl _ _|apply below_alloc|apply pw_below_drewN|apply below_drew1)));rintro e w14_ ⟨rfl,hb⟩;have n0_:=Aside0.mk (below_step (by repeat (first|(with_reducible first|exact HB.out|apply below_alloc|apply pw_below_drewN|apply below_drew1)|exact HB.out)) hb);clear HB;have HB:=n0_;clear n0_;(try clear hb);(try clear hb2);(try clear hk);(try clear hi))|(go_at_call 32;(with_reducible refine(scale_Round.calls k t199 t200 t201 true _ A10.out).mono ?_);rintro e w15 ⟨rfl,hb⟩;have n0_:=Aside0.mk (below_step (by repeat (first|(with_reducible first|exact HB.out|apply below_alloc|apply pw_below_drewN|apply below_drew1)|exact HB.out)) hb);clear HB;have HB:=n0_;clear n0_;(try clear hb);(try clear hb2);(try clear hk);(try clear hi)))
     repeat (go_quiet (first|(go_at_call 33;(with_reducible refine(sum_products.calls k _ _ m0 _ _ m1 t199 t200 _ ?side1 ?side2 ?side3 ?side4 A9.out).mono ?_);(case side1=>repeat (first|exact HR197.out|(with_reducible refine Kd.C_alloc ?_ _)|(with_reducible refine Kd.C_drewN ?_ _)|(with_reducible refine Kd.C_drew ?_)));(case side2=>exact HC197.out);(case side3=>repeat (first|exact HR198.out|(with_reducible refine Kd.C_alloc ?_ _)|(with_reducible refine Kd.C_drewN ?_ _)|(with_reducible refine Kd.C_drew ?_)));(case side4=>exact HC198.out);rintro e w14 ⟨rfl,hb⟩;have n0_:=Aside0.mk (below_step (by repeat (first|(with_reducible first|exact HB.out|apply below_alloc|apply pw_below_drewN|apply below_drew1)|exact HB.out)) hb);clear HB;have HB:=n0_;clear n0_;(try clear hb);(try clear hb2);(try clear hk);(try clear hi))|(go_at_call 32;(with_reducible refine(scale_Round.calls k t199 t200 t201 true _ A10.out).mono ?_);rintro e w15 ⟨rfl,hb⟩;have n0_:=Aside0.mk (below_step (by repeat (first|(with_reducible first|exact HB.out|apply below_alloc|apply pw_below_drewN|apply below_drew1)|exact HB.out)) hb);clear HB;have HB:=n0_;clear n0_;(try clear hb);(try clear hb2);(try clear hk);(try clear hi)));try go_wp2_with (first|(go_at_call 33;(with_reducible refine(sum_products.calls k _ _ m0 _ _ m1 t199 t200 _ ?side1 ?side2 ?side3 ?side4 ?side9 A9.out).mono ?_);(case side1=>repeat (first|exact HR197.out|(with_reducible refine Kd.C_alloc ?_ _)|(with_reducible refine Kd.C_drewN ?_ _)|(with_reducible refine Kd.C_drew ?_)));(case side2=>exact HC197.out);(case side3=>repeat (first|exact HR198.out|(with_reducible refine Kd.C_alloc ?_ _)|(with_reducible refine Kd.C_drewN ?_ _)|(with_reducible refine Kd.C_drew ?_)));(case side4=>exact HC198.out);(case side9=>first|exact hm9.out|exact hm8.out|(rw [List.length_take];omega));rintro e w14 ⟨B1_,B2_,rfl,hG_,hb⟩;have n0_:=Aside0.mk (below_step (by repeat (first|(with_reducible first|exact HB.out|apply below_alloc|apply pw_below_drewN|apply below_drew1)|exact HB.out)) hb);clear HB;have HB:=n0_;clear n0_;(try clear hb);(try clear hb2);(try clear hk);(try clear hi))|(go_at_call 23;(with_reducible refine(sum_add.calls _ _ t199 t200 _ ?sideG).mono ?_);(case sideG=>first|exact hG_|exact hG_.later (by repeat (first|exact Below.refl _ _|apply below_alloc|apply pw_below_drewN|apply below_drew1)));rintro e w14_ ⟨rfl,hb⟩;have n0_:=Aside0.mk (below_step (by repeat (first|(with_reducible first|exact HB.out|apply below_alloc|apply pw_below_drewN|apply below_drew1)|exact HB.out)) hb);clear HB;have HB:=n0_;clear n0_;(try clear hb);(try clear hb2);(try clear hk);(try clear hi))|(go_at_call 32;(with_reducible refine(scale_Round.calls k t199 t200 t201 true _ A10.out).mono ?_);rintro e w15 ⟨rfl,hb⟩;have n0_:=Aside0.mk (below_step (by repeat (first|(with_reducible first|exact HB.out|apply below_alloc|apply pw_below_drewN|apply below_drew1)|exact HB.out)) hb);clear HB;have HB:=n0_;clear n0_;(try clear hb);(try clear hb2);(try clear hk);(try clear hi))))
     go_ret2
     exact⟨by first|rfl|(simp [errW_none,errW_some]<;>rfl)|(simp only [←hji3,←hji4];first|rfl|(simp [errW_none,errW_some]<;>rfl))|(simp [*,errW_none,errW_some]<;>rfl),by repeat (first|(with_reducible first|exact HB.out|apply below_alloc|apply pw_below_drewN|apply below_drew1)|exact HB.out)⟩
    ·replace c11:=Bool.eq_false_iff.mpr c11
     subst c11
     have H1:((sum_changed.f k m0).bind fun t203=>(if t203=true then (some (t201,true)) else ((sum_changed.f k m1).bind fun t204=>(some (t201,t204)))))=some (r1,r2):=by rw [if_neg (show ¬(false=true) by decide)] at H;exact H
     clear H
     have H:=H1
     clear H1
     replace H:=Option.bind_eq_some_iff.mp H
     obtain⟨t203,A160,H⟩:=H
     replace H:(if t203=true then (some (t201,true)) else ((sum_changed.f k m1).bind fun t204=>(some (t201,t204))))=some (r1,r2):=H
     have A16:=Aside0.mk A160
     clear A160
     by_cases c17:t203=true
     ·subst c17
      have H1:(some (t201,true))=some (r1,r2):=by rw [if_pos rfl] at H;exact H
      clear H
      have H:=H1
      clear H1
      simp only [Option.some.injEq,Prod.mk.injEq] at H
      obtain⟨rfl,rfl⟩:=H
      obtain⟨i018,hi018,_,hsz18,_⟩:=info_parts info3
      obtain⟨hcut18,hA18,hC18⟩:=print_take_of (P:=Try.prog) (Value.int .i64) 0 22 3 .i64 Try.underlying22 hi018 hsz18 A0 c0 l0 (ji4) (of_decide_eq_true (by first|(with_reducible assumption)|assumption)) (of_decide_eq_true (by first|(with_reducible assumption)|assumption)) HC0.out
      rw [hm0] at hA18 hC18
      simp only [hm0] at hcut18
      have HR197:=Aside0.mk (Kd.C_of_reads (h1:=fun _=>rfl) (hA18 _ (Kd.reads_of_C HR0.out)))
      have HC197:=Aside0.mk hC18
      clear hA18 hC18 hi018 hsz18
      obtain⟨i019,hi019,_,hsz19,_⟩:=info_parts info3
      obtain⟨hcut19,hA19,hC19⟩:=print_take_of (P:=Try.prog) (Value.int .i64) 0 22 3 .i64 Try.underlying22 hi019 hsz19 A1 c1 l1 (ji4) (of_decide_eq_true (by first|(with_reducible assumption)|assumption)) (of_decide_eq_true (by first|(with_reducible assumption)|assumption)) HC1.out
      rw [hm1] at hA19 hC19
      simp only [hm1] at hcut19
      have HR198:=Aside0.mk (Kd.C_of_reads (h1:=fun _=>rfl) (hA19 _ (Kd.reads_of_C HR1.out)))
      have HC198:=Aside0.mk hC19
      clear hA19 hC19 hi019 hsz19
      go_enter Try.func13,Try.ntmps13
      go_wp2_with (first|(go_at_call 33;(with_reducible refine(sum_products.calls k _ _ m0 _ _ m1 t199 t200 _ ?side1 ?side2 ?side3 ?side4 ?side9 A9.out).mono ?_);(case side1=>repeat (first|exact HR197.out|(with_reducible refine Kd.C_alloc ?_ _)|(with_reducible refine Kd.C_drewN ?_ _)|(with_reducible refine Kd.C_drew ?_)));(case side2=>exact HC197.out);(case side3=>repeat (first|exact HR198.out|(with_reducible refine Kd.C_alloc ?_ _)|(with_reducible refine Kd.C_drewN ?_ _)|(with_reducible refine Kd.C_drew ?_)));(case side4=>exact HC198.out);(case side9=>first|exact hm9.out|exact hm8.out|(rw [List.length_take];omega));rintro e w20 ⟨B1_,B2_,rfl,hG_,hb⟩;have n0_:=Aside0.mk (below_step (by repeat (first|(with_reducible first|exact HB.out|apply below_alloc|apply pw_below_drewN|apply below_drew1)|exact HB.out)) hb);clear HB;have HB:=n0_;clear n0_;(try clear hb);(try clear hb2);(try clear hk);(try clear hi))|(go_at_call 23;(with_reducible refine(sum_add.calls _ _ t199 t200 _ ?sideG).mono ?_);(case sideG=>first|exact hG_|exact hG_.later (by repeat (first|exact Below.refl _ _|apply below_alloc|apply pw_below_drewN|apply below_drew1)));rintro e w20_ ⟨rfl,hb⟩;have n0_:=Aside0.mk (below_step (by repeat (first|(with_reducible first|exact HB.out|apply below_alloc|apply pw_below_drewN|apply below_drew1)|exact HB.out)) hb);clear HB;have HB:=n0_;clear n0_;(try clear hb);(try clear hb2);(try clear hk);(try clear hi))|(go_at_call 32;(with_reducible refine(scale_Round.calls k t199 t200 t201 false _ A10.out).mono ?_);rintro e w21 ⟨rfl,hb⟩;have n0_:=Aside0.mk (below_step (by repeat (first|(with_reducible first|exact HB.out|apply below_alloc|apply pw_below_drewN|apply below_drew1)|exact HB.out)) hb);clear HB;have HB:=n0_;clear n0_;(try clear hb);(try clear hb2);(try clear hk);(try clear hi))|(go_at_call 25;(with_reducible refine(sum_changed.calls k _ _ m0 true _ ?side1 ?side2 ?side9 A16.out).mono ?_);(case side1=>repeat (first|exact(Kd.C_below HR197.out HB.out)|(with_reducible refine Kd.C_alloc ?_ _)|(with_reducible refine Kd.C_drewN ?_ _)|(with_reducible refine Kd.C_drew ?_)));(case side2=>exact HC197.out);(case side9=>first|exact hm9.out|exact hm8.out|(rw [List.length_take];omega));rintro e w22 ⟨rfl,hb⟩;have n0_:=Aside0.mk (below_step (by repeat (first|(with_reducible first|exact HB.out|apply below_alloc|apply pw_below_drewN|apply below_drew1)|exact HB.out)) hb);clear HB;have HB:=n0_;clear n0_;(try clear hb);(try clear hb2);(try clear hk);(try clear hi)))
      repeat (go_quiet (first|(go_at_call 33;(with_reducible refine(sum_products.calls k _ _ m0 _ _ m1 t199 t200 _ ?side1 ?side2 ?side3 ?side4 A9.out).mono ?_);(case side1=>repeat (first|exact HR197.out|(with_reducible refine Kd.C_alloc ?_ _)|(with_reducible refine Kd.C_drewN ?_ _)|(with_reducible refine Kd.C_drew ?_)));(case side2=>exact HC197.out);(case side3=>repeat (first|exact HR198.out|(with_reducible refine Kd.C_alloc ?_ _)|(with_reducible refine Kd.C_drewN ?_ _)|(with_reducible refine Kd.C_drew ?_)));(case side4=>exact HC198.out);rintro e w20 ⟨rfl,hb⟩;have n0_:=Aside0.mk (below_step (by repeat (first|(with_reducible first|exact HB.out|apply below_alloc|apply pw_below_drewN|apply below_drew1)|exact HB.out)) hb);clear HB;have HB:=n0_;clear n0_;(try clear hb);(try clear hb2);(try clear hk);(try clear hi))|(go_at_call 32;(with_reducible refine(scale_Round.calls k t199 t200 t201 false _ A10.out).mono ?_);rintro e w21 ⟨rfl,hb⟩;have n0_:=Aside0.mk (below_step (by repeat (first|(with_reducible first|exact HB.out|apply below_alloc|apply pw_below_drewN|apply below_drew1)|exact HB.out)) hb);clear HB;have HB:=n0_;clear n0_;(try clear hb);(try clear hb2);(try clear hk);(try clear hi))|(go_at_call 25;(with_reducible refine(sum_changed.calls k _ _ m0 true _ ?side1 ?side2 A16.out).mono ?_);(case side1=>repeat (first|exact(Kd.C_below HR197.out HB.out)|(with_reducible refine Kd.C_alloc ?_ _)|(with_reducible refine Kd.C_drewN ?_ _)|(with_reducible refine Kd.C_drew ?_)));(case side2=>exact HC197.out);rintro e w22 ⟨rfl,hb⟩;have n0_:=Aside0.mk (below_step (by repeat (first|(with_reducible first|exact HB.out|apply below_alloc|apply pw_below_drewN|apply below_drew1)|exact HB.out)) hb);clear HB;have HB:=n0_;clear n0_;(try clear hb);(try clear hb2);(try clear hk);(try clear hi)));try go_wp2_with (first|(go_at_call 33;(with_reducible refine(sum_products.calls k _ _ m0 _ _ m1 t199 t200 _ ?side1 ?side2 ?side3 ?side4 ?side9 A9.out).mono ?_);(case side1=>repeat (first|exact HR197.out|(with_reducible refine Kd.C_alloc ?_ _)|(with_reducible refine Kd.C_drewN ?_ _)|(with_reducible refine Kd.C_drew ?_)));(case side2=>exact HC197.out);(case side3=>repeat (first|exact HR198.out|(with_reducible refine Kd.C_alloc ?_ _)|(with_reducible refine Kd.C_drewN ?_ _)|(with_reducible refine Kd.C_drew ?_)));(case side4=>exact HC198.out);(case side9=>first|exact hm9.out|exact hm8.out|(rw [List.length_take];omega));rintro e w20 ⟨B1_,B2_,rfl,hG_,hb⟩;have n0_:=Aside0.mk (below_step (by repeat (first|(with_reducible first|exact HB.out|apply below_alloc|apply pw_below_drewN|apply below_drew1)|exact HB.out)) hb);clear HB;have HB:=n0_;clear n0_;(try clear hb);(try clear hb2);(try clear hk);(try clear hi))|(go_at_call 23;(with_reducible refine(sum_add.calls _ _ t199 t200 _ ?sideG).mono ?_);(case sideG=>first|exact hG_|exact hG_.later (by repeat (first|exact Below.refl _ _|apply below_alloc|apply pw_below_drewN|apply below_drew1)));rintro e w20_ ⟨rfl,hb⟩;have n0_:=Aside0.mk (below_step (by repeat (first|(with_reducible first|exact HB.out|apply below_alloc|apply pw_below_drewN|apply below_drew1)|exact HB.out)) hb);clear HB;have HB:=n0_;clear n0_;(try clear hb);(try clear hb2);(try clear hk);(try clear hi))|(go_at_call 32;(with_reducible refine(scale_Round.calls k t199 t200 t201 false _ A10.out).mono ?_);rintro e w21 ⟨rfl,hb⟩;have n0_:=Aside0.mk (below_step (by repeat (first|(with_reducible first|exact HB.out|apply below_alloc|apply pw_below_drewN|apply below_drew1)|exact HB.out)) hb);clear HB;have HB:=n0_;clear n0_;(try clear hb);(try clear hb2);(try clear hk);(try clear hi))|(go_at_call 25;(with_reducible refine(sum_changed.calls k _ _ m0 true _ ?side1 ?side2 ?side9 A16.out).mono ?_);(case side1=>repeat (first|exact(Kd.C_below HR197.out HB.out)|(with_reducible refine Kd.C_alloc ?_ _)|(with_reducible refine Kd.C_drewN ?_ _)|(with_reducible refine Kd.C_drew ?_)));(case side2=>exact HC197.out);(case side9=>first|exact hm9.out|exact hm8.out|(rw [List.length_take];omega));rintro e w22 ⟨rfl,hb⟩;have n0_:=Aside0.mk (below_step (by repeat (first|(with_reducible first|exact HB.out|apply below_alloc|apply pw_below_drewN|apply below_drew1)|exact HB.out)) hb);clear HB;have HB:=n0_;clear n0_;(try clear hb);(try clear hb2);(try clear hk);(try clear hi))))
      go_ret2
      exact⟨by first|rfl|(simp [errW_none,errW_some]<;>rfl)|(simp only [←hji3,←hji4];first|rfl|(simp [errW_none,errW_some]<;>rfl))|(simp [*,errW_none,errW_some]<;>rfl),by repeat (first|(with_reducible first|exact HB.out|apply below_alloc|apply pw_below_drewN|apply below_drew1)|exact HB.out)⟩
     ·replace c17:=Bool.eq_false_iff.mpr c17
      subst c17
      have H1:((sum_changed.f k m1).bind fun t204=>(some (t201,t204)))=some (r1,r2):=by rw [if_neg (show ¬(false=true) by decide)] at H;exact H
      clear H
      have H:=H1
      clear H1
      replace H:=Option.bind_eq_some_iff.mp H
      obtain⟨t204,A230,H⟩:=H
      replace H:(some (t201,t204))=some (r1,r2):=H
      have A23:=Aside0.mk A230
      clear A230
      simp only [Option.some.injEq,Prod.mk.injEq] at H
      obtain⟨rfl,rfl⟩:=H
      obtain⟨i024,hi024,_,hsz24,_⟩:=info_parts info3
      obtain⟨hcut24,hA24,hC24⟩:=print_take_of (P:=Try.prog) (Value.int .i64) 0 22 3 .i64 Try.underlying22 hi024 hsz24 A0 c0 l0 (ji4) (of_decide_eq_true (by first|(with_reducible assumption)|assumption)) (of_decide_eq_true (by first|(with_reducible assumption)|assumption)) HC0.out
      rw [hm0] at hA24 hC24
      simp only [hm0] at hcut24
      have HR197:=Aside0.mk (Kd.C_of_reads (h1:=fun _=>rfl) (hA24 _ (Kd.reads_of_C HR0.out)))
      have HC197:=Aside0.mk hC24
      clear hA24 hC24 hi024 hsz24
      obtain⟨i025,hi025,_,hsz25,_⟩:=info_parts info3
      obtain⟨hcut25,hA25,hC25⟩:=print_take_of (P:=Try.prog) (Value.int .i64) 0 22 3 .i64 Try.underlying22 hi025 hsz25 A1 c1 l1 (ji4) (of_decide_eq_true (by first|(with_reducible assumption)|assumption)) (of_decide_eq_true (by first|(with_reducible assumption)|assumption)) HC1.out
      rw [hm1] at hA25 hC25
      simp only [hm1] at hcut25
      have HR198:=Aside0.mk (Kd.C_of_reads (h1:=fun _=>rfl) (hA25 _ (Kd.reads_of_C HR1.out)))
      have HC198:=Aside0.mk hC25
      clear hA25 hC25 hi025 hsz25
      go_enter Try.func13,Try.ntmps13
      go_wp2_with (first|(go_at_call 33;(with_reducible refine(sum_products.calls k _ _ m0 _ _ m1 t199 t200 _ ?side1 ?side2 ?side3 ?side4 ?side9 A9.out).mono ?_);(case side1=>repeat (first|exact HR197.out|(with_reducible refine Kd.C_alloc ?_ _)|(with_reducible refine Kd.C_drewN ?_ _)|(with_reducible refine Kd.C_drew ?_)));(case side2=>exact HC197.out);(case side3=>repeat (first|exact HR198.out|(with_reducible refine Kd.C_alloc ?_ _)|(with_reducible refine Kd.C_drewN ?_ _)|(with_reducible refine Kd.C_drew ?_)));(case side4=>exact HC198.out);(case side9=>first|exact hm9.out|exact hm8.out|(rw [List.length_take];omega));rintro e w26 ⟨B1_,B2_,rfl,hG_,hb⟩;have n0_:=Aside0.mk (below_step (by repeat (first|(with_reducible first|exact HB.out|apply below_alloc|apply pw_below_drewN|apply below_drew1)|exact HB.out)) hb);clear HB;have HB:=n0_;clear n0_;(try clear hb);(try clear hb2);(try clear hk);(try clear hi))|(go_at_call 23;(with_reducible refine(sum_add.calls _ _ t199 t200 _ ?sideG).mono ?_);(case sideG=>first|exact hG_|exact hG_.later (by repeat (first|exact Below.refl _ _|apply below_alloc|apply pw_below_drewN|apply below_drew1)));rintro e w26_ ⟨rfl,hb⟩;have n0_:=Aside0.mk (below_step (by repeat (first|(with_reducible first|exact HB.out|apply below_alloc|apply pw_below_drewN|apply below_drew1)|exact HB.out)) hb);clear HB;have HB:=n0_;clear n0_;(try clear hb);(try clear hb2);(try clear hk);(try clear hi))|(go_at_call 32;(with_reducible refine(scale_Round.calls k t199 t200 t201 false _ A10.out).mono ?_);rintro e w27 ⟨rfl,hb⟩;have n0_:=Aside0.mk (below_step (by repeat (first|(with_reducible first|exact HB.out|apply below_alloc|apply pw_below_drewN|apply below_drew1)|exact HB.out)) hb);clear HB;have HB:=n0_;clear n0_;(try clear hb);(try clear hb2);(try clear hk);(try clear hi))|(go_at_call 25;(with_reducible refine(sum_changed.calls k _ _ m0 false _ ?side1 ?side2 ?side9 A16.out).mono ?_);(case side1=>repeat (first|exact(Kd.C_below HR197.out HB.out)|(with_reducible refine Kd.C_alloc ?_ _)|(with_reducible refine Kd.C_drewN ?_ _)|(with_reducible refine Kd.C_drew ?_)));(case side2=>exact HC197.out);(case side9=>first|exact hm9.out|exact hm8.out|(rw [List.length_take];omega));rintro e w28 ⟨rfl,hb⟩;have n0_:=Aside0.mk (below_step (by repeat (first|(with_reducible first|exact HB.out|apply below_alloc|apply pw_below_drewN|apply below_drew1)|exact HB.out)) hb);clear HB;have HB:=n0_;clear n0_;(try clear hb);(try clear hb2);(try clear hk);(try clear hi))|(go_at_call 25;(with_reducible refine(sum_changed.calls k _ _ m1 t204 _ ?side1 ?side2 ?side9 A23.out).mono ?_);(case side1=>repeat (first|exact(Kd.C_below HR198.out HB.out)|(with_reducible refine Kd.C_alloc ?_ _)|(with_reducible refine Kd.C_drewN ?_ _)|(with_reducible refine Kd.C_drew ?_)));(case side2=>exact HC198.out);(case side9=>first|exact hm9.out|exact hm8.out|(rw [List.length_take];omega));rintro e w29 ⟨rfl,hb⟩;have n0_:=Aside0.mk (below_step (by repeat (first|(with_reducible first|exact HB.out|apply below_alloc|apply pw_below_drewN|apply below_drew1)|exact HB.out)) hb);clear HB;have HB:=n0_;clear n0_;(try clear hb);(try clear hb2);(try clear hk);(try clear hi)))
      repeat (go_quiet (first|(go_at_call 33;(with_reducible refine(sum_products.calls k _ _ m0 _ _ m1 t199 t200 _ ?side1 ?side2 ?side3 ?side4 A9.out).mono ?_);(case side1=>repeat (first|exact HR197.out|(with_reducible refine Kd.C_alloc ?_ _)|(with_reducible refine Kd.C_drewN ?_ _)|(with_reducible refine Kd.C_drew ?_)));(case side2=>exact HC197.out);(case side3=>repeat (first|exact HR198.out|(with_reducible refine Kd.C_alloc ?_ _)|(with_reducible refine Kd.C_drewN ?_ _)|(with_reducible refine Kd.C_drew ?_)));(case side4=>exact HC198.out);rintro e w26 ⟨rfl,hb⟩;have n0_:=Aside0.mk (below_step (by repeat (first|(with_reducible first|exact HB.out|apply below_alloc|apply pw_below_drewN|apply below_drew1)|exact HB.out)) hb);clear HB;have HB:=n0_;clear n0_;(try clear hb);(try clear hb2);(try clear hk);(try clear hi))|(go_at_call 32;(with_reducible refine(scale_Round.calls k t199 t200 t201 false _ A10.out).mono ?_);rintro e w27 ⟨rfl,hb⟩;have n0_:=Aside0.mk (below_step (by repeat (first|(with_reducible first|exact HB.out|apply below_alloc|apply pw_below_drewN|apply below_drew1)|exact HB.out)) hb);clear HB;have HB:=n0_;clear n0_;(try clear hb);(try clear hb2);(try clear hk);(try clear hi))|(go_at_call 25;(with_reducible refine(sum_changed.calls k _ _ m0 false _ ?side1 ?side2 A16.out).mono ?_);(case side1=>repeat (first|exact(Kd.C_below HR197.out HB.out)|(with_reducible refine Kd.C_alloc ?_ _)|(with_reducible refine Kd.C_drewN ?_ _)|(with_reducible refine Kd.C_drew ?_)));(case side2=>exact HC197.out);rintro e w28 ⟨rfl,hb⟩;have n0_:=Aside0.mk (below_step (by repeat (first|(with_reducible first|exact HB.out|apply below_alloc|apply pw_below_drewN|apply below_drew1)|exact HB.out)) hb);clear HB;have HB:=n0_;clear n0_;(try clear hb);(try clear hb2);(try clear hk);(try clear hi))|(go_at_call 25;(with_reducible refine(sum_changed.calls k _ _ m1 t204 _ ?side1 ?side2 A23.out).mono ?_);(case side1=>repeat (first|exact(Kd.C_below HR198.out HB.out)|(with_reducible refine Kd.C_alloc ?_ _)|(with_reducible refine Kd.C_drewN ?_ _)|(with_reducible refine Kd.C_drew ?_)));(case side2=>exact HC198.out);rintro e w29 ⟨rfl,hb⟩;have n0_:=Aside0.mk (below_step (by repeat (first|(with_reducible first|exact HB.out|apply below_alloc|apply pw_below_drewN|apply below_drew1)|exact HB.out)) hb);clear HB;have HB:=n0_;clear n0_;(try clear hb);(try clear hb2);(try clear hk);(try clear hi)));try go_wp2_with (first|(go_at_call 33;(with_reducible refine(sum_products.calls k _ _ m0 _ _ m1 t199 t200 _ ?side1 ?side2 ?side3 ?side4 ?side9 A9.out).mono ?_);(case side1=>repeat (first|exact HR197.out|(with_reducible refine Kd.C_alloc ?_ _)|(with_reducible refine Kd.C_drewN ?_ _)|(with_reducible refine Kd.C_drew ?_)));(case side2=>exact HC197.out);(case side3=>repeat (first|exact HR198.out|(with_reducible refine Kd.C_alloc ?_ _)|(with_reducible refine Kd.C_drewN ?_ _)|(with_reducible refine Kd.C_drew ?_)));(case side4=>exact HC198.out);(case side9=>first|exact hm9.out|exact hm8.out|(rw [List.length_take];omega));rintro e w26 ⟨B1_,B2_,rfl,hG_,hb⟩;have n0_:=Aside0.mk (below_step (by repeat (first|(with_reducible first|exact HB.out|apply below_alloc|apply pw_below_drewN|apply below_drew1)|exact HB.out)) hb);clear HB;have HB:=n0_;clear n0_;(try clear hb);(try clear hb2);(try clear hk);(try clear hi))|(go_at_call 23;(with_reducible refine(sum_add.calls _ _ t199 t200 _ ?sideG).mono ?_);(case sideG=>first|exact hG_|exact hG_.later (by repeat (first|exact Below.refl _ _|apply below_alloc|apply pw_below_drewN|apply below_drew1)));rintro e w26_ ⟨rfl,hb⟩;have n0_:=Aside0.mk (below_step (by repeat (first|(with_reducible first|exact HB.out|apply below_alloc|apply pw_below_drewN|apply below_drew1)|exact HB.out)) hb);clear HB;have HB:=n0_;clear n0_;(try clear hb);(try clear hb2);(try clear hk);(try clear hi))|(go_at_call 32;(with_reducible refine(scale_Round.calls k t199 t200 t201 false _ A10.out).mono ?_);rintro e w27 ⟨rfl,hb⟩;have n0_:=Aside0.mk (below_step (by repeat (first|(with_reducible first|exact HB.out|apply below_alloc|apply pw_below_drewN|apply below_drew1)|exact HB.out)) hb);clear HB;have HB:=n0_;clear n0_;(try clear hb);(try clear hb2);(try clear hk);(try clear hi))|(go_at_call 25;(with_reducible refine(sum_changed.calls k _ _ m0 false _ ?side1 ?side2 ?side9 A16.out).mono ?_);(case side1=>repeat (first|exact(Kd.C_below HR197.out HB.out)|(with_reducible refine Kd.C_alloc ?_ _)|(with_reducible refine Kd.C_drewN ?_ _)|(with_reducible refine Kd.C_drew ?_)));(case side2=>exact HC197.out);(case side9=>first|exact hm9.out|exact hm8.out|(rw [List.length_take];omega));rintro e w28 ⟨rfl,hb⟩;have n0_:=Aside0.mk (below_step (by repeat (first|(with_reducible first|exact HB.out|apply below_alloc|apply pw_below_drewN|apply below_drew1)|exact HB.out)) hb);clear HB;have HB:=n0_;clear n0_;(try clear hb);(try clear hb2);(try clear hk);(try clear hi))|(go_at_call 25;(with_reducible refine(sum_changed.calls k _ _ m1 t204 _ ?side1 ?side2 ?side9 A23.out).mono ?_);(case side1=>repeat (first|exact(Kd.C_below HR198.out HB.out)|(with_reducible refine Kd.C_alloc ?_ _)|(with_reducible refine Kd.C_drewN ?_ _)|(with_reducible refine Kd.C_drew ?_)));(case side2=>exact HC198.out);(case side9=>first|exact hm9.out|exact hm8.out|(rw [List.length_take];omega));rintro e w29 ⟨rfl,hb⟩;have n0_:=Aside0.mk (below_step (by repeat (first|(with_reducible first|exact HB.out|apply below_alloc|apply pw_below_drewN|apply below_drew1)|exact HB.out)) hb);clear HB;have HB:=n0_;clear n0_;(try clear hb);(try clear hb2);(try clear hk);(try clear hi))))
      go_ret2
      exact⟨by first|rfl|(simp [errW_none,errW_some]<;>rfl)|(simp only [←hji3,←hji4];first|rfl|(simp [errW_none,errW_some]<;>rfl))|(simp [*,errW_none,errW_some]<;>rfl),by repeat (first|(with_reducible first|exact HB.out|apply below_alloc|apply pw_below_drewN|apply below_drew1)|exact HB.out)⟩
   ·rw [if_neg c8] at H
    exact absurd H (by simp)
  ·rw [if_neg c6] at H
   exact absurd H (by simp)
 ·rw [if_neg c5] at H
  exact absurd H (by simp)
end Go.Proofs.Ytiejinbjfficnaa.B
