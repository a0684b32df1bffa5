/- Lemmas of the row, laid by a program. -/
import Derived.Test.YtembdogffbcjiaaYB0
import Derived.Test.YtembdogffbcjiaaYB11
namespace Go.Proofs.Ytembdogffbcjiaa.B
open Go.RowKit Go.Proofs.YtembdogffbcjiaaW.PrintWords Go.Proofs.YtembdogffbcjiaaW.PrintLast Go.Proofs.YtembdogffbcjiaaW.PrintMore
attribute [local go_sem] max2_int min2_int max_two min_two max_three min_three max_four min_four
set_option linter.unusedVariables false
set_option linter.unusedSimpArgs false
def outriggerref02_Add.j0:Nat→Bool→Int→Int→Option (Int × Int × Bool)
  | 0,_,_,_=>none
  | k+1,x31,x368000,x368001=>if x31=true then ((outriggerref02_Sane.f (wrap64 (x368000+1)) (wrap64 (x368001-4611686018427387904))).bind fun t368=>(if t368=true then (some (wrap64 (x368000+1),wrap64 (x368001-4611686018427387904),true)) else (some (0,0,false)))) else ((outriggerref02_Sane.f x368000 x368001).bind fun t369=>(if t369=true then (some (x368000,x368001,true)) else (some (0,0,false))))
def outriggerref02_Add.f (k:Nat) (a0_0:Int) (a0_1:Int) (a1_0:Int) (a1_1:Int):Option (Int × Int × Bool):=(outriggerref02_As.f a0_0 a0_1).bind fun bt361=>((outriggerref02_As.f a1_0 a1_1).bind fun bt364=>(if (wrap64 (bt361.2+bt364.2))<0 then (outriggerref02_Add.j0 k true (wrap64 (bt361.1+bt364.1)) (wrap64 (bt361.2+bt364.2))) else (outriggerref02_Add.j0 k (decide ((wrap64 (bt361.2+bt364.2)) ≥ 4611686018427387904)) (wrap64 (bt361.1+bt364.1)) (wrap64 (bt361.2+bt364.2)))))
set_option maxHeartbeats 8000000 in
set_option maxRecDepth 100000 in
theorem outriggerref02_Add.calls (k:Nat) (a0_0:Int) (a0_1:Int) (a1_0:Int) (a1_1:Int) (r1:Int) (r2:Int) (r3:Bool) (w:World) (h:outriggerref02_Add.f k a0_0 a0_1 a1_0 a1_1=some (r1,r2,r3)) :
  Calls Try.prog 58 #[.agg #[.int .i64 a0_0,.int .i64 a0_1],.agg #[.int .i64 a1_0,.int .i64 a1_1]] w fun e w'=>e=.returned (.tuple #[.agg #[.int .i64 r1,.int .i64 r2],.bool r3])∧Below w.heap.size w w':=by
 have hu50:=Try.underlying50
 have HB:=Aside0.mk (Below.refl w.heap.size w)
 have H:((outriggerref02_As.f a0_0 a0_1).bind fun bt361=>((outriggerref02_As.f a1_0 a1_1).bind fun bt364=>(if (wrap64 (bt361.2+bt364.2))<0 then (outriggerref02_Add.j0 k true (wrap64 (bt361.1+bt364.1)) (wrap64 (bt361.2+bt364.2))) else (outriggerref02_Add.j0 k (decide ((wrap64 (bt361.2+bt364.2)) ≥ 4611686018427387904)) (wrap64 (bt361.1+bt364.1)) (wrap64 (bt361.2+bt364.2))))))=some (r1,r2,r3):=h
 clear h
 replace H:=Option.bind_eq_some_iff.mp H
 obtain⟨⟨t361,t362⟩,A30,H⟩:=H
 replace H:((outriggerref02_As.f a1_0 a1_1).bind fun bt364=>(if (wrap64 (t362+bt364.2))<0 then (outriggerref02_Add.j0 k true (wrap64 (t361+bt364.1)) (wrap64 (t362+bt364.2))) else (outriggerref02_Add.j0 k (decide ((wrap64 (t362+bt364.2)) ≥ 4611686018427387904)) (wrap64 (t361+bt364.1)) (wrap64 (t362+bt364.2)))))=some (r1,r2,r3):=H
 have A3:=Aside0.mk A30
 clear A30
 replace H:=Option.bind_eq_some_iff.mp H
 obtain⟨⟨t364,t365⟩,A40,H⟩:=H
 replace H:(if (wrap64 (t362+t365))<0 then (outriggerref02_Add.j0 k true (wrap64 (t361+t364)) (wrap64 (t362+t365))) else (outriggerref02_Add.j0 k (decide ((wrap64 (t362+t365)) ≥ 4611686018427387904)) (wrap64 (t361+t364)) (wrap64 (t362+t365))))=some (r1,r2,r3):=H
 have A4:=Aside0.mk A40
 clear A40
 have HC5:=Aside0.mk H
 clear H
 go_enter Try.func58,Try.ntmps58
 go_upto_region 4 with (first|((with_reducible refine gate_dst (N:=2) rfl ?_);refine box_event ?hg (N:=2) ?hd (cs:=#[.int .i64 a0_0,.int .i64 a0_1]) (t:=50) ?hr ?_;(case hd=>rfl);(case hg=>rfl);(case hr=>first|(go_simp;done)|(go_simp;rfl));intro gb358 hg w6 hbox hb;have n0_:=Aside0.mk (below_step (by first|with_reducible exact HB.out|exact bl HB) hb);have n1_:=Aside0.mk (hbox);have n2_:=Aside0.mk ((by rw [hg];exact(below_size (by first|with_reducible exact HB.out|exact bl HB)):w.heap.size≤gb358));have n3_:=Aside0.mk ((by rw [hg];exact(below_size (by first|with_reducible exact HB.out|exact bl HB)):w.heap.size≤gb358));clear HB;have HB:=n0_;have BK358:=n1_;have GW358:=n2_;have GE358:=n3_;clear n0_ n1_ n2_ n3_;clear hb hbox hg)|((with_reducible refine gate_dst (N:=3) rfl ?_);refine box_event ?hg (N:=3) ?hd (cs:=#[.int .i64 a1_0,.int .i64 a1_1]) (t:=50) ?hr ?_;(case hd=>rfl);(case hg=>rfl);(case hr=>first|(go_simp;done)|(go_simp;rfl));intro gb359 hg w7 hbox hb;have n0_:=Aside0.mk (blk_below (bk BK358.out) hb);have n1_:=Aside0.mk (below_step (by repeat (first|with_reducible exact HB.out|exact bl HB|refine bs ?_ GE358)) hb);have n2_:=Aside0.mk (hbox);have n3_:=Aside0.mk ((by rw [hg];exact(below_size (by repeat (first|with_reducible exact HB.out|exact bl HB|refine bs ?_ GE358))):w.heap.size≤gb359));have n4_:=Aside0.mk ((by rw [hg];exact(below_size (by repeat (first|with_reducible exact HB.out|exact bl HB|refine bs ?_ GE358))):w.heap.size≤gb359));have n5_:=Aside0.mk ((by rw [hg];exact Nat.ne_of_lt (blk_lt (bk BK358.out)):gb358≠gb359));have n6_:=Aside0.mk ((by rw [hg];exact Nat.ne_of_gt (blk_lt (bk BK358.out)):gb359≠gb358));clear BK358;clear HB;have BK358:=n0_;have HB:=n1_;have BK359:=n2_;have GW359:=n3_;have GE359:=n4_;have NB358_359:=n5_;have NB359_358:=n6_;clear n0_ n1_ n2_ n3_ n4_ n5_ n6_;clear hb hbox hg)|((with_reducible refine gate_dst (N:=4) rfl ?_);refine box_event ?hg (N:=4) ?hd (cs:=#[.int .i64 0,.int .i64 0]) (t:=50) ?hr ?_;(case hd=>rfl);(case hg=>rfl);(case hr=>first|(go_simp;done)|(go_simp;rfl));intro gb360 hg w8 hbox hb;have n0_:=Aside0.mk (blk_below (bk BK358.out) hb);have n1_:=Aside0.mk (blk_below (bk BK359.out) hb);have n2_:=Aside0.mk (below_step (by repeat (first|with_reducible exact HB.out|exact bl HB|refine bs ?_ GE358|refine bs ?_ GE359)) hb);have n3_:=Aside0.mk (hbox);have n4_:=Aside0.mk ((by rw [hg];exact(below_size (by repeat (first|with_reducible exact HB.out|exact bl HB|refine bs ?_ GE358|refine bs ?_ GE359))):w.heap.size≤gb360));have n5_:=Aside0.mk ((by rw [hg];exact(below_size (by repeat (first|with_reducible exact HB.out|exact bl HB|refine bs ?_ GE358|refine bs ?_ GE359))):w.heap.size≤gb360));have n6_:=Aside0.mk ((by rw [hg];exact Nat.ne_of_lt (blk_lt (bk BK358.out)):gb358≠gb360));have n7_:=Aside0.mk ((by rw [hg];exact Nat.ne_of_gt (blk_lt (bk BK358.out)):gb360≠gb358));have n8_:=Aside0.mk ((by rw [hg];exact Nat.ne_of_lt (blk_lt (bk BK359.out)):gb359≠gb360));have n9_:=Aside0.mk ((by rw [hg];exact Nat.ne_of_gt (blk_lt (bk BK359.out)):gb360≠gb359));clear BK358;clear BK359;clear HB;have BK358:=n0_;have BK359:=n1_;have HB:=n2_;have BK360:=n3_;have GW360:=n4_;have GE360:=n5_;have NB358_360:=n6_;have NB360_358:=n7_;have NB359_360:=n8_;have NB360_359:=n9_;clear n0_ n1_ n2_ n3_ n4_ n5_ n6_ n7_ n8_ n9_;clear hb hbox hg;have hnb9:=NB358_359.out;have hnc9:=NB359_358.out;have hnb10:=NB358_360.out;have hnc10:=NB360_358.out;have hcz11_0:w8.cell? ⟨gb358,0,none⟩=some (.int .i64 a0_0):=(blk_cell BK358.out 0).trans rfl;have hcz11_1:w8.cell? ⟨gb358,1,none⟩=some (.int .i64 a0_1):=(blk_cell BK358.out 1).trans rfl;have hfz11_0:=blk_frozen BK358.out 0;have hfz11_1:=blk_frozen BK358.out 1)|((with_reducible refine gate_callee (f:=77) rfl ?_);refine goesL_ (some 10) rfl rfl Try.func77 (by kernel_rfl) rfl #[.agg #[.int .i64 a0_0,.int .i64 a0_1]] rfl (by exact mA _ _) ?_;(with_reducible refine(outriggerref02_As.calls a0_0 a0_1 t361 t362 _ A3.out).mono ?_);rintro e w12 ⟨rfl,hb⟩;refine⟨_,rfl,?_⟩;have n0_:=Aside0.mk (blk_below (bk BK358.out) hb);have n1_:=Aside0.mk (blk_below (bk BK359.out) hb);have n2_:=Aside0.mk (blk_below (bk BK360.out) hb);have n3_:=Aside0.mk (below_step (by repeat (first|with_reducible exact HB.out|exact bl HB|refine bs ?_ GE358|refine bs ?_ GE359|refine bs ?_ GE360)) hb);clear BK358;clear BK359;clear BK360;clear HB;have BK358:=n0_;have BK359:=n1_;have BK360:=n2_;have HB:=n3_;clear n0_ n1_ n2_ n3_;(try clear hb);(try clear hb2);(try clear hk);(try clear hi))|((with_reducible refine gate_dst (N:=6) rfl ?_);refine box_event ?hg (N:=6) ?hd (cs:=#[.int .i64 0,.int .i64 0]) (t:=50) ?hr ?_;(case hd=>rfl);(case hg=>rfl);(case hr=>first|(go_simp;done)|(go_simp;rfl));intro gb363 hg w13 hbox hb;have n0_:=Aside0.mk (blk_below (bk BK358.out) hb);have n1_:=Aside0.mk (blk_below (bk BK359.out) hb);have n2_:=Aside0.mk (blk_below (bk BK360.out) hb);have n3_:=Aside0.mk (below_step (by repeat (first|with_reducible exact HB.out|exact bl HB|refine bs ?_ GE358|refine bs ?_ GE359|refine bs ?_ GE360)) hb);have n4_:=Aside0.mk (hbox);have n5_:=Aside0.mk ((by rw [hg];exact(below_size (by repeat (first|with_reducible exact HB.out|exact bl HB|refine bs ?_ GE358|refine bs ?_ GE359|refine bs ?_ GE360))):w.heap.size≤gb363));have n6_:=Aside0.mk ((by rw [hg];exact(below_size (by repeat (first|with_reducible exact HB.out|exact bl HB|refine bs ?_ GE358|refine bs ?_ GE359|refine bs ?_ GE360))):w.heap.size≤gb363));have n7_:=Aside0.mk ((by rw [hg];exact Nat.ne_of_lt (blk_lt (bk BK358.out)):gb358≠gb363));have n8_:=Aside0.mk ((by rw [hg];exact Nat.ne_of_gt (blk_lt (bk BK358.out)):gb363≠gb358));have n9_:=Aside0.mk ((by rw [hg];exact Nat.ne_of_lt (blk_lt (bk BK359.out)):gb359≠gb363));have n10_:=Aside0.mk ((by rw [hg];exact Nat.ne_of_gt (blk_lt (bk BK359.out)):gb363≠gb359));have n11_:=Aside0.mk ((by rw [hg];exact Nat.ne_of_lt (blk_lt (bk BK360.out)):gb360≠gb363));have n12_:=Aside0.mk ((by rw [hg];exact Nat.ne_of_gt (blk_lt (bk BK360.out)):gb363≠gb360));clear BK358;clear BK359;clear BK360;clear HB;have BK358:=n0_;have BK359:=n1_;have BK360:=n2_;have HB:=n3_;have BK363:=n4_;have GW363:=n5_;have GE363:=n6_;have NB358_363:=n7_;have NB363_358:=n8_;have NB359_363:=n9_;have NB363_359:=n10_;have NB360_363:=n11_;have NB363_360:=n12_;clear n0_ n1_ n2_ n3_ n4_ n5_ n6_ n7_ n8_ n9_ n10_ n11_ n12_;clear hb hbox hg;have hnb14:=NB363_358.out;have hnc14:=NB358_363.out;have hnb15:=NB363_359.out;have hnc15:=NB359_363.out;have hnb16:=NB363_360.out;have hnc16:=NB360_363.out;have hcz17_0:w13.cell? ⟨gb363,0,none⟩=some (.int .i64 0):=(blk_cell BK363.out 0).trans rfl;have hcz17_1:w13.cell? ⟨gb363,1,none⟩=some (.int .i64 0):=(blk_cell BK363.out 1).trans rfl;have hfz17_0:=blk_frozen BK363.out 0;have hfz17_1:=blk_frozen BK363.out 1;have hnb18:=NB359_360.out;have hnc18:=NB360_359.out;have hcz19_0:w13.cell? ⟨gb359,0,none⟩=some (.int .i64 a1_0):=(blk_cell BK359.out 0).trans rfl;have hcz19_1:w13.cell? ⟨gb359,1,none⟩=some (.int .i64 a1_1):=(blk_cell BK359.out 1).trans rfl;have hfz19_0:=blk_frozen BK359.out 0;have hfz19_1:=blk_frozen BK359.out 1)|((with_reducible refine gate_callee (f:=77) rfl ?_);refine goesL_ (some 12) rfl rfl Try.func77 (by kernel_rfl) rfl #[.agg #[.int .i64 a1_0,.int .i64 a1_1]] rfl (by exact mA _ _) ?_;(with_reducible refine(outriggerref02_As.calls a1_0 a1_1 t364 t365 _ A4.out).mono ?_);rintro e w20 ⟨rfl,hb⟩;refine⟨_,rfl,?_⟩;have n0_:=Aside0.mk (blk_below (g:=gb358) (o:=.cells #[.int .i64 a0_0,.int .i64 a0_1] 50 (0,0)) (by try refine bk ?_;refine blk_far ?_ NB358_363.out _;try refine bk ?_;refine blk_far ?_ NB358_363.out _;try refine bk ?_;exact BK358.out) hb);have n1_:=Aside0.mk (blk_below (g:=gb359) (o:=.cells #[.int .i64 a1_0,.int .i64 a1_1] 50 (0,0)) (by try refine bk ?_;refine blk_far ?_ NB359_363.out _;try refine bk ?_;refine blk_far ?_ NB359_363.out _;try refine bk ?_;exact BK359.out) hb);have n2_:=Aside0.mk (blk_below (g:=gb360) (o:=.cells #[.int .i64 0,.int .i64 0] 50 (0,0)) (by try refine bk ?_;refine blk_far ?_ NB360_363.out _;try refine bk ?_;refine blk_far ?_ NB360_363.out _;try refine bk ?_;exact BK360.out) hb);have n3_:=Aside0.mk (blk_below (g:=gb363) (o:=.cells #[.int .i64 t361,.int .i64 t362] 50 (0,0)) (by try refine bk ?_;refine blk_put (cs:=#[.int .i64 t361,.int .i64 0]) ?_ 1 _ rfl;try refine bk ?_;refine blk_put (cs:=#[.int .i64 0,.int .i64 0]) ?_ 0 _ rfl;try refine bk ?_;exact BK363.out) hb);have n4_:=Aside0.mk (below_step (by repeat (first|with_reducible exact HB.out|exact bl HB|refine bs ?_ GE358|refine bs ?_ GE359|refine bs ?_ GE360|refine bs ?_ GE363)) hb);clear BK358;clear BK359;clear BK360;clear BK363;clear HB;have BK358:=n0_;have BK359:=n1_;have BK360:=n2_;have BK363:=n3_;have HB:=n4_;clear n0_ n1_ n2_ n3_ n4_;(try clear hb);(try clear hb2);(try clear hk);(try clear hi))|((with_reducible refine gate_dst (N:=7) rfl ?_);refine box_event ?hg (N:=7) ?hd (cs:=#[.int .i64 0,.int .i64 0]) (t:=50) ?hr ?_;(case hd=>rfl);(case hg=>rfl);(case hr=>first|(go_simp;done)|(go_simp;rfl));intro gb366 hg w21 hbox hb;have n0_:=Aside0.mk (blk_below (bk BK358.out) hb);have n1_:=Aside0.mk (blk_below (bk BK359.out) hb);have n2_:=Aside0.mk (blk_below (bk BK360.out) hb);have n3_:=Aside0.mk (blk_below (bk BK363.out) hb);have n4_:=Aside0.mk (below_step (by repeat (first|with_reducible exact HB.out|exact bl HB|refine bs ?_ GE358|refine bs ?_ GE359|refine bs ?_ GE360|refine bs ?_ GE363)) hb);have n5_:=Aside0.mk (hbox);have n6_:=Aside0.mk ((by rw [hg];exact(below_size (by repeat (first|with_reducible exact HB.out|exact bl HB|refine bs ?_ GE358|refine bs ?_ GE359|refine bs ?_ GE360|refine bs ?_ GE363))):w.heap.size≤gb366));have n7_:=Aside0.mk ((by rw [hg];exact(below_size (by repeat (first|with_reducible exact HB.out|exact bl HB|refine bs ?_ GE358|refine bs ?_ GE359|refine bs ?_ GE360|refine bs ?_ GE363))):w.heap.size≤gb366));have n8_:=Aside0.mk ((by rw [hg];exact Nat.ne_of_lt (blk_lt (bk BK358.out)):gb358≠gb366));have n9_:=Aside0.mk ((by rw [hg];exact Nat.ne_of_gt (blk_lt (bk BK358.out)):gb366≠gb358));have n10_:=Aside0.mk ((by rw [hg];exact Nat.ne_of_lt (blk_lt (bk BK359.out)):gb359≠gb366));have n11_:=Aside0.mk ((by rw [hg];exact Nat.ne_of_gt (blk_lt (bk BK359.out)):gb366≠gb359));have n12_:=Aside0.mk ((by rw [hg];exact Nat.ne_of_lt (blk_lt (bk BK360.out)):gb360≠gb366));have n13_:=Aside0.mk ((by rw [hg];exact Nat.ne_of_gt (blk_lt (bk BK360.out)):gb366≠gb360));have n14_:=Aside0.mk ((by rw [hg];exact Nat.ne_of_lt (blk_lt (bk BK363.out)):gb363≠gb366));have n15_:=Aside0.mk ((by rw [hg];exact Nat.ne_of_gt (blk_lt (bk BK363.out)):gb366≠gb363));clear BK358;clear BK359;clear BK360;clear BK363;clear HB;have BK358:=n0_;have BK359:=n1_;have BK360:=n2_;have BK363:=n3_;have HB:=n4_;have BK366:=n5_;have GW366:=n6_;have GE366:=n7_;have NB358_366:=n8_;have NB366_358:=n9_;have NB359_366:=n10_;have NB366_359:=n11_;have NB360_366:=n12_;have NB366_360:=n13_;have NB363_366:=n14_;have NB366_363:=n15_;clear n0_ n1_ n2_ n3_ n4_ n5_ n6_ n7_ n8_ n9_ n10_ n11_ n12_ n13_ n14_ n15_;clear hb hbox hg;have hnb22:=NB366_358.out;have hnc22:=NB358_366.out;have hnb23:=NB366_359.out;have hnc23:=NB359_366.out;have hnb24:=NB366_360.out;have hnc24:=NB360_366.out;have hnb25:=NB366_363.out;have hnc25:=NB363_366.out;have hcz26_0:w21.cell? ⟨gb366,0,none⟩=some (.int .i64 0):=(blk_cell BK366.out 0).trans rfl;have hcz26_1:w21.cell? ⟨gb366,1,none⟩=some (.int .i64 0):=(blk_cell BK366.out 1).trans rfl;have hfz26_0:=blk_frozen BK366.out 0;have hfz26_1:=blk_frozen BK366.out 1;have hcz27_0:w21.cell? ⟨gb363,0,none⟩=some (.int .i64 t361):=(blk_cell BK363.out 0).trans rfl;have hcz27_1:w21.cell? ⟨gb363,1,none⟩=some (.int .i64 t362):=(blk_cell BK363.out 1).trans rfl;have hfz27_0:=blk_frozen BK363.out 0;have hfz27_1:=blk_frozen BK363.out 1)|((with_reducible refine gate_dst (N:=8) rfl ?_);refine box_event ?hg (N:=8) ?hd (cs:=#[.int .i64 0,.int .i64 0]) (t:=50) ?hr ?_;(case hd=>rfl);(case hg=>rfl);(case hr=>first|(go_simp;done)|(go_simp;rfl));intro gb367 hg w28 hbox hb;have n0_:=Aside0.mk (blk_below (g:=gb358) (o:=.cells #[.int .i64 a0_0,.int .i64 a0_1] 50 (0,0)) (by try refine bk ?_;refine blk_far ?_ NB358_366.out _;try refine bk ?_;refine blk_far ?_ NB358_366.out _;try refine bk ?_;exact BK358.out) hb);have n1_:=Aside0.mk (blk_below (g:=gb359) (o:=.cells #[.int .i64 a1_0,.int .i64 a1_1] 50 (0,0)) (by try refine bk ?_;refine blk_far ?_ NB359_366.out _;try refine bk ?_;refine blk_far ?_ NB359_366.out _;try refine bk ?_;exact BK359.out) hb);have n2_:=Aside0.mk (blk_below (g:=gb360) (o:=.cells #[.int .i64 0,.int .i64 0] 50 (0,0)) (by try refine bk ?_;refine blk_far ?_ NB360_366.out _;try refine bk ?_;refine blk_far ?_ NB360_366.out _;try refine bk ?_;exact BK360.out) hb);have n3_:=Aside0.mk (blk_below (g:=gb363) (o:=.cells #[.int .i64 t361,.int .i64 t362] 50 (0,0)) (by try refine bk ?_;refine blk_far ?_ NB363_366.out _;try refine bk ?_;refine blk_far ?_ NB363_366.out _;try refine bk ?_;exact BK363.out) hb);have n4_:=Aside0.mk (blk_below (g:=gb366) (o:=.cells #[.int .i64 t364,.int .i64 t365] 50 (0,0)) (by try refine bk ?_;refine blk_put (cs:=#[.int .i64 t364,.int .i64 0]) ?_ 1 _ rfl;try refine bk ?_;refine blk_put (cs:=#[.int .i64 0,.int .i64 0]) ?_ 0 _ rfl;try refine bk ?_;exact BK366.out) hb);have n5_:=Aside0.mk (below_step (by repeat (first|with_reducible exact HB.out|exact bl HB|refine bs ?_ GE358|refine bs ?_ GE359|refine bs ?_ GE360|refine bs ?_ GE363|refine bs ?_ GE366)) hb);have n6_:=Aside0.mk (hbox);have n7_:=Aside0.mk ((by rw [hg];exact(below_size (by repeat (first|with_reducible exact HB.out|exact bl HB|refine bs ?_ GE358|refine bs ?_ GE359|refine bs ?_ GE360|refine bs ?_ GE363|refine bs ?_ GE366))):w.heap.size≤gb367));have n8_:=Aside0.mk ((by rw [hg];exact(below_size (by repeat (first|with_reducible exact HB.out|exact bl HB|refine bs ?_ GE358|refine bs ?_ GE359|refine bs ?_ GE360|refine bs ?_ GE363|refine bs ?_ GE366))):w.heap.size≤gb367));have n9_:=Aside0.mk ((by rw [hg];exact Nat.ne_of_lt (blk_lt (g:=gb358) (o:=.cells #[.int .i64 a0_0,.int .i64 a0_1] 50 (0,0)) (by try refine bk ?_;refine blk_far ?_ NB358_366.out _;try refine bk ?_;refine blk_far ?_ NB358_366.out _;try refine bk ?_;exact BK358.out)):gb358≠gb367));have n10_:=Aside0.mk ((by rw [hg];exact Nat.ne_of_gt (blk_lt (g:=gb358) (o:=.cells #[.int .i64 a0_0,.int .i64 a0_1] 50 (0,0)) (by try refine bk ?_;refine blk_far ?_ NB358_366.out _;try refine bk ?_;refine blk_far ?_ NB358_366.out _;try refine bk ?_;exact BK358.out)):gb367≠gb358));have n11_:=Aside0.mk ((by rw [hg];exact Nat.ne_of_lt (blk_lt (g:=gb359) (o:=.cells #[.int .i64 a1_0,.int .i64 a1_1] 50 (0,0)) (by try refine bk ?_;refine blk_far ?_ NB359_366.out _;try refine bk ?_;refine blk_far ?_ NB359_366.out _;try refine bk ?_;exact BK359.out)):gb359≠gb367));have n12_:=Aside0.mk ((by rw [hg];exact Nat.ne_of_gt (blk_lt (g:=gb359) (o:=.cells #[.int .i64 a1_0,.int .i64 a1_1] 50 (0,0)) (by try refine bk ?_;refine blk_far ?_ NB359_366.out _;try refine bk ?_;refine blk_far ?_ NB359_366.out _;try refine bk ?_;exact BK359.out)):gb367≠gb359));have n13_:=Aside0.mk ((by rw [hg];exact Nat.ne_of_lt (blk_lt (g:=gb360) (o:=.cells #[.int .i64 0,.int .i64 0] 50 (0,0)) (by try refine bk ?_;refine blk_far ?_ NB360_366.out _;try refine bk ?_;refine blk_far ?_ NB360_366.out _;try refine bk ?_;exact BK360.out)):gb360≠gb367));have n14_:=Aside0.mk ((by rw [hg];exact Nat.ne_of_gt (blk_lt (g:=gb360) (o:=.cells #[.int .i64 0,.int .i64 0] 50 (0,0)) (by try refine bk ?_;refine blk_far ?_ NB360_366.out _;try refine bk ?_;refine blk_far ?_ NB360_366.out _;try refine bk ?_;exact BK360.out)):gb367≠gb360));have n15_:=Aside0.mk ((by rw [hg];exact Nat.ne_of_lt (blk_lt (g:=gb363) (o:=.cells #[.int .i64 t361,.int .i64 t362] 50 (0,0)) (by try refine bk ?_;refine blk_far ?_ NB363_366.out _;try refine bk ?_;refine blk_far ?_ NB363_366.out _;try refine bk ?_;exact BK363.out)):gb363≠gb367));have n16_:=Aside0.mk ((by rw [hg];exact Nat.ne_of_gt (blk_lt (g:=gb363) (o:=.cells #[.int .i64 t361,.int .i64 t362] 50 (0,0)) (by try refine bk ?_;refine blk_far ?_ NB363_366.out _;try refine bk ?_;refine blk_far ?_ NB363_366.out _;try refine bk ?_;exact BK363.out)):gb367≠gb363));have n17_:=Aside0.mk ((by rw [hg];exact Nat.ne_of_lt (blk_lt (g:=gb366) (o:=.cells #[.int .i64 t364,.int .i64 t365] 50 (0,0)) (by try refine bk ?_;refine blk_put (cs:=#[.int .i64 t364,.int .i64 0]) ?_ 1 _ rfl;try refine bk ?_;refine blk_put (cs:=#[.int .i64 0,.int .i64 0]) ?_ 0 _ rfl;try refine bk ?_;exact BK366.out)):gb366≠gb367));have n18_:=Aside0.mk ((by rw [hg];exact Nat.ne_of_gt (blk_lt (g:=gb366) (o:=.cells #[.int .i64 t364,.int .i64 t365] 50 (0,0)) (by try refine bk ?_;refine blk_put (cs:=#[.int .i64 t364,.int .i64 0]) ?_ 1 _ rfl;try refine bk ?_;refine blk_put (cs:=#[.int .i64 0,.int .i64 0]) ?_ 0 _ rfl;try refine bk ?_;exact BK366.out)):gb367≠gb366));clear BK358;clear BK359;clear BK360;clear BK363;clear BK366;clear HB;have BK358:=n0_;have BK359:=n1_;have BK360:=n2_;have BK363:=n3_;have BK366:=n4_;have HB:=n5_;have BK367:=n6_;have GW367:=n7_;have GE367:=n8_;have NB358_367:=n9_;have NB367_358:=n10_;have NB359_367:=n11_;have NB367_359:=n12_;have NB360_367:=n13_;have NB367_360:=n14_;have NB363_367:=n15_;have NB367_363:=n16_;have NB366_367:=n17_;have NB367_366:=n18_;clear n0_ n1_ n2_ n3_ n4_ n5_ n6_ n7_ n8_ n9_ n10_ n11_ n12_ n13_ n14_ n15_ n16_ n17_ n18_;clear hb hbox hg;have hnb29:=NB367_358.out;have hnc29:=NB358_367.out;have hnb30:=NB367_359.out;have hnc30:=NB359_367.out;have hnb31:=NB367_360.out;have hnc31:=NB360_367.out;have hnb32:=NB367_363.out;have hnc32:=NB363_367.out;have hnb33:=NB367_366.out;have hnc33:=NB366_367.out;have hcz34_0:w28.cell? ⟨gb367,0,none⟩=some (.int .i64 0):=(blk_cell BK367.out 0).trans rfl;have hcz34_1:w28.cell? ⟨gb367,1,none⟩=some (.int .i64 0):=(blk_cell BK367.out 1).trans rfl;have hfz34_0:=blk_frozen BK367.out 0;have hfz34_1:=blk_frozen BK367.out 1))
 (try simp only [Act.put,List.setIfInBounds_toArray,List.set_cons_zero,List.set_cons_succ])
 go_cut [31] (fun v31 wc=>∃ (kq:Nat) (x31_4:Bool),v31=.bool x31_4∧Aside0 (outriggerref02_Add.j0 kq x31_4 (wrap64 (t361+t364)) (wrap64 (t362+t365))=some (r1,r2,r3))∧Aside0 (kq≤k)∧Aside0 (wc.heap[gb358]? = some (.cells #[.int .i64 a0_0,.int .i64 a0_1] 50 (0,0)))∧Aside0 (wc.heap[gb359]? = some (.cells #[.int .i64 a1_0,.int .i64 a1_1] 50 (0,0)))∧Aside0 (wc.heap[gb360]? = some (.cells #[.int .i64 0,.int .i64 0] 50 (0,0)))∧Aside0 (wc.heap[gb363]? = some (.cells #[.int .i64 t361,.int .i64 t362] 50 (0,0)))∧Aside0 (wc.heap[gb366]? = some (.cells #[.int .i64 t364,.int .i64 t365] 50 (0,0)))∧Aside0 (wc.heap[gb367]? = some (.cells #[.int .i64 (wrap64 (t361+t364)),.int .i64 (wrap64 (t362+t365))] 50 (0,0)))∧Aside0 (Below w.heap.size w wc))
 case first =>
  have H:=HC5.out
  clear HC5
  by_cases c35:(wrap64 (t362+t365))<0
  ·rw [if_pos c35] at H
   have c35b0:decide ((wrap64 (t362+t365))<0)=true:=decide_eq_true c35
   clear c35
   (first|rw [c35b0]|(simp only [i64_w,i32_w];rw [c35b0])|skip)
   have H':=Aside0.mk H
   clear H
   have hnb36:=NB367_358.out
   have hnc36:=NB358_367.out
   have hnb37:=NB367_359.out
   have hnc37:=NB359_367.out
   have hnb38:=NB367_360.out
   have hnc38:=NB360_367.out
   have hnb39:=NB367_363.out
   have hnc39:=NB363_367.out
   have hnb40:=NB367_366.out
   have hnc40:=NB366_367.out
   have hcz41_0:w28.cell? ⟨gb367,0,none⟩=some (.int .i64 0):=(blk_cell BK367.out 0).trans rfl
   have hcz41_1:w28.cell? ⟨gb367,1,none⟩=some (.int .i64 0):=(blk_cell BK367.out 1).trans rfl
   have hfz41_0:=blk_frozen BK367.out 0
   have hfz41_1:=blk_frozen BK367.out 1
   go_wp2
   go_meet
   case rel=>exact⟨_,(true),(by first|rfl|(simp;done)|(simp [*];done)),H',⟨by first|omega|exact Nat.le_refl _⟩,⟨by try refine bk ?_;refine blk_far ?_ NB358_367.out _;try refine bk ?_;refine blk_far ?_ NB358_367.out _;try refine bk ?_;exact BK358.out⟩,⟨by try refine bk ?_;refine blk_far ?_ NB359_367.out _;try refine bk ?_;refine blk_far ?_ NB359_367.out _;try refine bk ?_;exact BK359.out⟩,⟨by try refine bk ?_;refine blk_far ?_ NB360_367.out _;try refine bk ?_;refine blk_far ?_ NB360_367.out _;try refine bk ?_;exact BK360.out⟩,⟨by try refine bk ?_;refine blk_far ?_ NB363_367.out _;try refine bk ?_;refine blk_far ?_ NB363_367.out _;try refine bk ?_;exact BK363.out⟩,⟨by try refine bk ?_;refine blk_far ?_ NB366_367.out _;try refine bk ?_;refine blk_far ?_ NB366_367.out _;try refine bk ?_;exact BK366.out⟩,⟨by try refine bk ?_;refine blk_put (cs:=#[.int .i64 (wrap64 (t361+t364)),.int .i64 0]) ?_ 1 _ rfl;try refine bk ?_;refine blk_put (cs:=#[.int .i64 0,.int .i64 0]) ?_ 0 _ rfl;try refine bk ?_;exact BK367.out⟩,⟨by repeat (first|with_reducible exact HB.out|exact bl HB|refine bs ?_ GE358|refine bs ?_ GE359|refine bs ?_ GE360|refine bs ?_ GE363|refine bs ?_ GE366|refine bs ?_ GE367)⟩⟩
  ·rw [if_neg c35] at H
   have c35b0:decide ((wrap64 (t362+t365))<0)=false:=decide_eq_false c35
   clear c35
   (first|rw [c35b0]|(simp only [i64_w,i32_w];rw [c35b0])|skip)
   have H':=Aside0.mk H
   clear H
   have hnb42:=NB367_358.out
   have hnc42:=NB358_367.out
   have hnb43:=NB367_359.out
   have hnc43:=NB359_367.out
   have hnb44:=NB367_360.out
   have hnc44:=NB360_367.out
   have hnb45:=NB367_363.out
   have hnc45:=NB363_367.out
   have hnb46:=NB367_366.out
   have hnc46:=NB366_367.out
   have hcz47_0:w28.cell? ⟨gb367,0,none⟩=some (.int .i64 0):=(blk_cell BK367.out 0).trans rfl
   have hcz47_1:w28.cell? ⟨gb367,1,none⟩=some (.int .i64 0):=(blk_cell BK367.out 1).trans rfl
   have hfz47_0:=blk_frozen BK367.out 0
   have hfz47_1:=blk_frozen BK367.out 1
   go_wp2
   go_meet
   case rel=>exact⟨_,(decide ((wrap64 (t362+t365)) ≥ 4611686018427387904)),(by first|rfl|(simp;done)|(simp [*];done)),H',⟨by first|omega|exact Nat.le_refl _⟩,⟨by try refine bk ?_;refine blk_far ?_ NB358_367.out _;try refine bk ?_;refine blk_far ?_ NB358_367.out _;try refine bk ?_;exact BK358.out⟩,⟨by try refine bk ?_;refine blk_far ?_ NB359_367.out _;try refine bk ?_;refine blk_far ?_ NB359_367.out _;try refine bk ?_;exact BK359.out⟩,⟨by try refine bk ?_;refine blk_far ?_ NB360_367.out _;try refine bk ?_;refine blk_far ?_ NB360_367.out _;try refine bk ?_;exact BK360.out⟩,⟨by try refine bk ?_;refine blk_far ?_ NB363_367.out _;try refine bk ?_;refine blk_far ?_ NB363_367.out _;try refine bk ?_;exact BK363.out⟩,⟨by try refine bk ?_;refine blk_far ?_ NB366_367.out _;try refine bk ?_;refine blk_far ?_ NB366_367.out _;try refine bk ?_;exact BK366.out⟩,⟨by try refine bk ?_;refine blk_put (cs:=#[.int .i64 (wrap64 (t361+t364)),.int .i64 0]) ?_ 1 _ rfl;try refine bk ?_;refine blk_put (cs:=#[.int .i64 0,.int .i64 0]) ?_ 0 _ rfl;try refine bk ?_;exact BK367.out⟩,⟨by repeat (first|with_reducible exact HB.out|exact bl HB|refine bs ?_ GE358|refine bs ?_ GE359|refine bs ?_ GE360|refine bs ?_ GE363|refine bs ?_ GE366|refine bs ?_ GE367)⟩⟩
 case rest =>
  clear HC5
  try clear c1
  try clear c2
  try clear p2
  try clear c3
  try clear c4
  try clear c5
  try clear p6
  try clear c7
  try clear c9
  try clear c10
  try clear c14
  try clear c15
  try clear c16
  try clear c18
  try clear c22
  try clear c23
  try clear c24
  try clear c25
  try clear c29
  try clear c30
  try clear c31
  try clear c32
  try clear c33
  try clear c35
  try clear c35b0
  try clear c36
  try clear c37
  try clear c38
  try clear c39
  try clear c40
  try clear c42
  try clear c43
  try clear c44
  try clear c45
  try clear c46
  try clear hcz11_0
  try clear hcz11_1
  try clear hcz17_0
  try clear hcz17_1
  try clear hcz19_0
  try clear hcz19_1
  try clear hcz26_0
  try clear hcz26_1
  try clear hcz27_0
  try clear hcz27_1
  try clear hcz34_0
  try clear hcz34_1
  try clear hcz41_0
  try clear hcz41_1
  try clear hcz47_0
  try clear hcz47_1
  try clear hfz11_0
  try clear hfz11_1
  try clear hfz17_0
  try clear hfz17_1
  try clear hfz19_0
  try clear hfz19_1
  try clear hfz26_0
  try clear hfz26_1
  try clear hfz27_0
  try clear hfz27_1
  try clear hfz34_0
  try clear hfz34_1
  try clear hfz41_0
  try clear hfz41_1
  try clear hfz47_0
  try clear hfz47_1
  obtain⟨kq,x31_4,rfl,HA,HJ4,BK358,BK359,BK360,BK363,BK366,BK367,HB⟩:=hcut
  cases kq with
  | zero=>exact absurd HA.out (by simp [outriggerref02_Add.j0])
  | succ kj4 =>
   have H:=HA.out
   clear HA
   simp only [outriggerref02_Add.j0] at H
   by_cases c48:x31_4=true
   ·subst c48
    have H1:((outriggerref02_Sane.f (wrap64 ((wrap64 (t361+t364))+1)) (wrap64 ((wrap64 (t362+t365))-4611686018427387904))).bind fun t368=>(if t368=true then (some (wrap64 ((wrap64 (t361+t364))+1),wrap64 ((wrap64 (t362+t365))-4611686018427387904),true)) else (some (0,0,false))))=some (r1,r2,r3):=by rw [if_pos rfl] at H;exact H
    clear H
    have H:=H1
    clear H1
    replace H:=Option.bind_eq_some_iff.mp H
    obtain⟨t368,A490,H⟩:=H
    replace H:(if t368=true then (some (wrap64 ((wrap64 (t361+t364))+1),wrap64 ((wrap64 (t362+t365))-4611686018427387904),true)) else (some (0,0,false)))=some (r1,r2,r3):=H
    have A49:=Aside0.mk A490
    clear A490
    by_cases c50:t368=true
    ·subst c50
     have H1:(some (wrap64 ((wrap64 (t361+t364))+1),wrap64 ((wrap64 (t362+t365))-4611686018427387904),true))=some (r1,r2,r3):=by rw [if_pos rfl] at H;exact H
     clear H
     have H:=H1
     clear H1
     simp only [Option.some.injEq,Prod.mk.injEq] at H
     obtain⟨rfl,rfl,rfl⟩:=H
     have hnb51:=NB367_358.out
     have hnc51:=NB358_367.out
     have hnb52:=NB367_359.out
     have hnc52:=NB359_367.out
     have hnb53:=NB367_360.out
     have hnc53:=NB360_367.out
     have hnb54:=NB367_363.out
     have hnc54:=NB363_367.out
     have hnb55:=NB367_366.out
     have hnc55:=NB366_367.out
     have hcz56_0:wc.cell? ⟨gb367,0,none⟩=some (.int .i64 (wrap64 (t361+t364))):=(blk_cell BK367.out 0).trans rfl
     have hcz56_1:wc.cell? ⟨gb367,1,none⟩=some (.int .i64 (wrap64 (t362+t365))):=(blk_cell BK367.out 1).trans rfl
     have hfz56_0:=blk_frozen BK367.out 0
     have hfz56_1:=blk_frozen BK367.out 1
     go_wp2_with (first|((with_reducible refine gate_callee (f:=76) rfl ?_);refine goesL_ (some 41) rfl rfl Try.func76 (by kernel_rfl) rfl #[.agg #[.int .i64 (wrap64 ((wrap64 (t361+t364))+1)),.int .i64 (wrap64 ((wrap64 (t362+t365))-4611686018427387904))]] rfl (by exact mA _ _) ?_;(with_reducible refine(outriggerref02_Sane.calls (wrap64 ((wrap64 (t361+t364))+1)) (wrap64 ((wrap64 (t362+t365))-4611686018427387904)) true _ A49.out).mono ?_);rintro e w57 ⟨rfl,hb⟩;refine⟨_,rfl,?_⟩;have n0_:=Aside0.mk (blk_below (g:=gb358) (o:=.cells #[.int .i64 a0_0,.int .i64 a0_1] 50 (0,0)) (by try refine bk ?_;refine blk_far ?_ NB358_367.out _;try refine bk ?_;refine blk_far ?_ NB358_367.out _;try refine bk ?_;exact BK358.out) hb);have n1_:=Aside0.mk (blk_below (g:=gb359) (o:=.cells #[.int .i64 a1_0,.int .i64 a1_1] 50 (0,0)) (by try refine bk ?_;refine blk_far ?_ NB359_367.out _;try refine bk ?_;refine blk_far ?_ NB359_367.out _;try refine bk ?_;exact BK359.out) hb);have n2_:=Aside0.mk (blk_below (g:=gb360) (o:=.cells #[.int .i64 0,.int .i64 0] 50 (0,0)) (by try refine bk ?_;refine blk_far ?_ NB360_367.out _;try refine bk ?_;refine blk_far ?_ NB360_367.out _;try refine bk ?_;exact BK360.out) hb);have n3_:=Aside0.mk (blk_below (g:=gb363) (o:=.cells #[.int .i64 t361,.int .i64 t362] 50 (0,0)) (by try refine bk ?_;refine blk_far ?_ NB363_367.out _;try refine bk ?_;refine blk_far ?_ NB363_367.out _;try refine bk ?_;exact BK363.out) hb);have n4_:=Aside0.mk (blk_below (g:=gb366) (o:=.cells #[.int .i64 t364,.int .i64 t365] 50 (0,0)) (by try refine bk ?_;refine blk_far ?_ NB366_367.out _;try refine bk ?_;refine blk_far ?_ NB366_367.out _;try refine bk ?_;exact BK366.out) hb);have n5_:=Aside0.mk (blk_below (g:=gb367) (o:=.cells #[.int .i64 (wrap64 ((wrap64 (t361+t364))+1)),.int .i64 (wrap64 ((wrap64 (t362+t365))-4611686018427387904))] 50 (0,0)) (by try refine bk ?_;refine blk_put (cs:=#[.int .i64 (wrap64 (t361+t364)),.int .i64 (wrap64 ((wrap64 (t362+t365))-4611686018427387904))]) ?_ 0 _ rfl;try refine bk ?_;refine blk_put (cs:=#[.int .i64 (wrap64 (t361+t364)),.int .i64 (wrap64 (t362+t365))]) ?_ 1 _ rfl;try refine bk ?_;exact BK367.out) hb);have n6_:=Aside0.mk (below_step (by repeat (first|with_reducible exact HB.out|exact bl HB|refine bs ?_ GE358|refine bs ?_ GE359|refine bs ?_ GE360|refine bs ?_ GE363|refine bs ?_ GE366|refine bs ?_ GE367)) hb);clear BK358;clear BK359;clear BK360;clear BK363;clear BK366;clear BK367;clear HB;have BK358:=n0_;have BK359:=n1_;have BK360:=n2_;have BK363:=n3_;have BK366:=n4_;have BK367:=n5_;have HB:=n6_;clear n0_ n1_ n2_ n3_ n4_ n5_ n6_;(try clear hb);(try clear hb2);(try clear hk);(try clear hi);have hcz58_0:w57.cell? ⟨gb367,0,none⟩=some (.int .i64 (wrap64 ((wrap64 (t361+t364))+1))):=(blk_cell BK367.out 0).trans rfl;have hcz58_1:w57.cell? ⟨gb367,1,none⟩=some (.int .i64 (wrap64 ((wrap64 (t362+t365))-4611686018427387904))):=(blk_cell BK367.out 1).trans rfl;have hfz58_0:=blk_frozen BK367.out 0;have hfz58_1:=blk_frozen BK367.out 1;have hnb59:=NB360_358.out;have hnc59:=NB358_360.out;have hnb60:=NB360_359.out;have hnc60:=NB359_360.out;have hnb61:=NB360_363.out;have hnc61:=NB363_360.out;have hnb62:=NB360_366.out;have hnc62:=NB366_360.out;have hcz63_0:w57.cell? ⟨gb360,0,none⟩=some (.int .i64 0):=(blk_cell BK360.out 0).trans rfl;have hcz63_1:w57.cell? ⟨gb360,1,none⟩=some (.int .i64 0):=(blk_cell BK360.out 1).trans rfl;have hfz63_0:=blk_frozen BK360.out 0;have hfz63_1:=blk_frozen BK360.out 1))
     refine bodyPost_ret (results_ct rfl _ _ gb360 50 #[.int .i64 (wrap64 ((wrap64 (t361+t364))+1)),.int .i64 (wrap64 ((wrap64 (t362+t365))-4611686018427387904))] (0,0) _ rfl (by try refine bk ?_;refine blk_put (cs:=#[.int .i64 (wrap64 ((wrap64 (t361+t364))+1)),.int .i64 0]) ?_ 1 _ rfl;try refine bk ?_;refine blk_put (cs:=#[.int .i64 0,.int .i64 0]) ?_ 0 _ rfl;try refine bk ?_;exact BK360.out) Try.underlying50 rfl (by kernel_rfl)) rfl ?_
     exact⟨by first|rfl|(simp [errW_none,errW_some]<;>rfl)|(simp [*,errW_none,errW_some]<;>rfl),by repeat (first|with_reducible exact HB.out|exact bl HB|refine bs ?_ GE358|refine bs ?_ GE359|refine bs ?_ GE360|refine bs ?_ GE363|refine bs ?_ GE366|refine bs ?_ GE367)⟩
    ·replace c50:=Bool.eq_false_iff.mpr c50
     subst c50
     have H1:(some (0,0,false))=some (r1,r2,r3):=by rw [if_neg (show ¬(false=true) by decide)] at H;exact H
     clear H
     have H:=H1
     clear H1
     simp only [Option.some.injEq,Prod.mk.injEq] at H
     obtain⟨rfl,rfl,rfl⟩:=H
     have hnb64:=NB367_358.out
     have hnc64:=NB358_367.out
     have hnb65:=NB367_359.out
     have hnc65:=NB359_367.out
     have hnb66:=NB367_360.out
     have hnc66:=NB360_367.out
     have hnb67:=NB367_363.out
     have hnc67:=NB363_367.out
     have hnb68:=NB367_366.out
     have hnc68:=NB366_367.out
     have hcz69_0:wc.cell? ⟨gb367,0,none⟩=some (.int .i64 (wrap64 (t361+t364))):=(blk_cell BK367.out 0).trans rfl
     have hcz69_1:wc.cell? ⟨gb367,1,none⟩=some (.int .i64 (wrap64 (t362+t365))):=(blk_cell BK367.out 1).trans rfl
     have hfz69_0:=blk_frozen BK367.out 0
     have hfz69_1:=blk_frozen BK367.out 1
     go_wp2_with (first|((with_reducible refine gate_callee (f:=76) rfl ?_);refine goesL_ (some 41) rfl rfl Try.func76 (by kernel_rfl) rfl #[.agg #[.int .i64 (wrap64 ((wrap64 (t361+t364))+1)),.int .i64 (wrap64 ((wrap64 (t362+t365))-4611686018427387904))]] rfl (by exact mA _ _) ?_;(with_reducible refine(outriggerref02_Sane.calls (wrap64 ((wrap64 (t361+t364))+1)) (wrap64 ((wrap64 (t362+t365))-4611686018427387904)) false _ A49.out).mono ?_);rintro e w70 ⟨rfl,hb⟩;refine⟨_,rfl,?_⟩;have n0_:=Aside0.mk (blk_below (g:=gb358) (o:=.cells #[.int .i64 a0_0,.int .i64 a0_1] 50 (0,0)) (by try refine bk ?_;refine blk_far ?_ NB358_367.out _;try refine bk ?_;refine blk_far ?_ NB358_367.out _;try refine bk ?_;exact BK358.out) hb);have n1_:=Aside0.mk (blk_below (g:=gb359) (o:=.cells #[.int .i64 a1_0,.int .i64 a1_1] 50 (0,0)) (by try refine bk ?_;refine blk_far ?_ NB359_367.out _;try refine bk ?_;refine blk_far ?_ NB359_367.out _;try refine bk ?_;exact BK359.out) hb);have n2_:=Aside0.mk (blk_below (g:=gb360) (o:=.cells #[.int .i64 0,.int .i64 0] 50 (0,0)) (by try refine bk ?_;refine blk_far ?_ NB360_367.out _;try refine bk ?_;refine blk_far ?_ NB360_367.out _;try refine bk ?_;exact BK360.out) hb);have n3_:=Aside0.mk (blk_below (g:=gb363) (o:=.cells #[.int .i64 t361,.int .i64 t362] 50 (0,0)) (by try refine bk ?_;refine blk_far ?_ NB363_367.out _;try refine bk ?_;refine blk_far ?_ NB363_367.out _;try refine bk ?_;exact BK363.out) hb);have n4_:=Aside0.mk (blk_below (g:=gb366) (o:=.cells #[.int .i64 t364,.int .i64 t365] 50 (0,0)) (by try refine bk ?_;refine blk_far ?_ NB366_367.out _;try refine bk ?_;refine blk_far ?_ NB366_367.out _;try refine bk ?_;exact BK366.out) hb);have n5_:=Aside0.mk (blk_below (g:=gb367) (o:=.cells #[.int .i64 (wrap64 ((wrap64 (t361+t364))+1)),.int .i64 (wrap64 ((wrap64 (t362+t365))-4611686018427387904))] 50 (0,0)) (by try refine bk ?_;refine blk_put (cs:=#[.int .i64 (wrap64 (t361+t364)),.int .i64 (wrap64 ((wrap64 (t362+t365))-4611686018427387904))]) ?_ 0 _ rfl;try refine bk ?_;refine blk_put (cs:=#[.int .i64 (wrap64 (t361+t364)),.int .i64 (wrap64 (t362+t365))]) ?_ 1 _ rfl;try refine bk ?_;exact BK367.out) hb);have n6_:=Aside0.mk (below_step (by repeat (first|with_reducible exact HB.out|exact bl HB|refine bs ?_ GE358|refine bs ?_ GE359|refine bs ?_ GE360|refine bs ?_ GE363|refine bs ?_ GE366|refine bs ?_ GE367)) hb);clear BK358;clear BK359;clear BK360;clear BK363;clear BK366;clear BK367;clear HB;have BK358:=n0_;have BK359:=n1_;have BK360:=n2_;have BK363:=n3_;have BK366:=n4_;have BK367:=n5_;have HB:=n6_;clear n0_ n1_ n2_ n3_ n4_ n5_ n6_;(try clear hb);(try clear hb2);(try clear hk);(try clear hi);have hnb71:=NB360_358.out;have hnc71:=NB358_360.out;have hnb72:=NB360_359.out;have hnc72:=NB359_360.out;have hnb73:=NB360_363.out;have hnc73:=NB363_360.out;have hnb74:=NB360_366.out;have hnc74:=NB366_360.out;have hcz75_0:w70.cell? ⟨gb360,0,none⟩=some (.int .i64 0):=(blk_cell BK360.out 0).trans rfl;have hcz75_1:w70.cell? ⟨gb360,1,none⟩=some (.int .i64 0):=(blk_cell BK360.out 1).trans rfl;have hfz75_0:=blk_frozen BK360.out 0;have hfz75_1:=blk_frozen BK360.out 1))
     refine bodyPost_ret (results_ct rfl _ _ gb360 50 #[.int .i64 0,.int .i64 0] (0,0) _ rfl (by try refine bk ?_;refine blk_put (cs:=#[.int .i64 0,.int .i64 0]) ?_ 1 _ rfl;try refine bk ?_;refine blk_put (cs:=#[.int .i64 0,.int .i64 0]) ?_ 0 _ rfl;try refine bk ?_;exact BK360.out) Try.underlying50 rfl (by kernel_rfl)) rfl ?_
     exact⟨by first|rfl|(simp [errW_none,errW_some]<;>rfl)|(simp [*,errW_none,errW_some]<;>rfl),by repeat (first|with_reducible exact HB.out|exact bl HB|refine bs ?_ GE358|refine bs ?_ GE359|refine bs ?_ GE360|refine bs ?_ GE363|refine bs ?_ GE366|refine bs ?_ GE367)⟩
   ·replace c48:=Bool.eq_false_iff.mpr c48
    subst c48
    have H1:((outriggerref02_Sane.f (wrap64 (t361+t364)) (wrap64 (t362+t365))).bind fun t369=>(if t369=true then (some ((wrap64 (t361+t364)),(wrap64 (t362+t365)),true)) else (some (0,0,false))))=some (r1,r2,r3):=by rw [if_neg (show ¬(false=true) by decide)] at H;exact H
    clear H
    have H:=H1
    clear H1
    replace H:=Option.bind_eq_some_iff.mp H
    obtain⟨t369,A760,H⟩:=H
    replace H:(if t369=true then (some ((wrap64 (t361+t364)),(wrap64 (t362+t365)),true)) else (some (0,0,false)))=some (r1,r2,r3):=H
    have A76:=Aside0.mk A760
    clear A760
    by_cases c77:t369=true
    ·subst c77
     have H1:(some ((wrap64 (t361+t364)),(wrap64 (t362+t365)),true))=some (r1,r2,r3):=by rw [if_pos rfl] at H;exact H
     clear H
     have H:=H1
     clear H1
     simp only [Option.some.injEq,Prod.mk.injEq] at H
     obtain⟨rfl,rfl,rfl⟩:=H
     have hnb78:=NB367_358.out
     have hnc78:=NB358_367.out
     have hnb79:=NB367_359.out
     have hnc79:=NB359_367.out
     have hnb80:=NB367_360.out
     have hnc80:=NB360_367.out
     have hnb81:=NB367_363.out
     have hnc81:=NB363_367.out
     have hnb82:=NB367_366.out
     have hnc82:=NB366_367.out
     have hcz83_0:wc.cell? ⟨gb367,0,none⟩=some (.int .i64 (wrap64 (t361+t364))):=(blk_cell BK367.out 0).trans rfl
     have hcz83_1:wc.cell? ⟨gb367,1,none⟩=some (.int .i64 (wrap64 (t362+t365))):=(blk_cell BK367.out 1).trans rfl
     have hfz83_0:=blk_frozen BK367.out 0
     have hfz83_1:=blk_frozen BK367.out 1
     go_wp2_with (first|((with_reducible refine gate_callee (f:=76) rfl ?_);refine goesL_ (some 41) rfl rfl Try.func76 (by kernel_rfl) rfl #[.agg #[.int .i64 (wrap64 (t361+t364)),.int .i64 (wrap64 (t362+t365))]] rfl (by exact mA _ _) ?_;(with_reducible refine(outriggerref02_Sane.calls (wrap64 (t361+t364)) (wrap64 (t362+t365)) true _ A76.out).mono ?_);rintro e w84 ⟨rfl,hb⟩;refine⟨_,rfl,?_⟩;have n0_:=Aside0.mk (blk_below (bk BK358.out) hb);have n1_:=Aside0.mk (blk_below (bk BK359.out) hb);have n2_:=Aside0.mk (blk_below (bk BK360.out) hb);have n3_:=Aside0.mk (blk_below (bk BK363.out) hb);have n4_:=Aside0.mk (blk_below (bk BK366.out) hb);have n5_:=Aside0.mk (blk_below (bk BK367.out) hb);have n6_:=Aside0.mk (below_step (by repeat (first|with_reducible exact HB.out|exact bl HB|refine bs ?_ GE358|refine bs ?_ GE359|refine bs ?_ GE360|refine bs ?_ GE363|refine bs ?_ GE366|refine bs ?_ GE367)) hb);clear BK358;clear BK359;clear BK360;clear BK363;clear BK366;clear BK367;clear HB;have BK358:=n0_;have BK359:=n1_;have BK360:=n2_;have BK363:=n3_;have BK366:=n4_;have BK367:=n5_;have HB:=n6_;clear n0_ n1_ n2_ n3_ n4_ n5_ n6_;(try clear hb);(try clear hb2);(try clear hk);(try clear hi);have hcz85_0:w84.cell? ⟨gb367,0,none⟩=some (.int .i64 (wrap64 (t361+t364))):=(blk_cell BK367.out 0).trans rfl;have hcz85_1:w84.cell? ⟨gb367,1,none⟩=some (.int .i64 (wrap64 (t362+t365))):=(blk_cell BK367.out 1).trans rfl;have hfz85_0:=blk_frozen BK367.out 0;have hfz85_1:=blk_frozen BK367.out 1;have hnb86:=NB360_358.out;have hnc86:=NB358_360.out;have hnb87:=NB360_359.out;have hnc87:=NB359_360.out;have hnb88:=NB360_363.out;have hnc88:=NB363_360.out;have hnb89:=NB360_366.out;have hnc89:=NB366_360.out;have hcz90_0:w84.cell? ⟨gb360,0,none⟩=some (.int .i64 0):=(blk_cell BK360.out 0).trans rfl;have hcz90_1:w84.cell? ⟨gb360,1,none⟩=some (.int .i64 0):=(blk_cell BK360.out 1).trans rfl;have hfz90_0:=blk_frozen BK360.out 0;have hfz90_1:=blk_frozen BK360.out 1))
     refine bodyPost_ret (results_ct rfl _ _ gb360 50 #[.int .i64 (wrap64 (t361+t364)),.int .i64 (wrap64 (t362+t365))] (0,0) _ rfl (by try refine bk ?_;refine blk_put (cs:=#[.int .i64 (wrap64 (t361+t364)),.int .i64 0]) ?_ 1 _ rfl;try refine bk ?_;refine blk_put (cs:=#[.int .i64 0,.int .i64 0]) ?_ 0 _ rfl;try refine bk ?_;exact BK360.out) Try.underlying50 rfl (by kernel_rfl)) rfl ?_
     exact⟨by first|rfl|(simp [errW_none,errW_some]<;>rfl)|(simp [*,errW_none,errW_some]<;>rfl),by repeat (first|with_reducible exact HB.out|exact bl HB|refine bs ?_ GE358|refine bs ?_ GE359|refine bs ?_ GE360|refine bs ?_ GE363|refine bs ?_ GE366|refine bs ?_ GE367)⟩
    ·replace c77:=Bool.eq_false_iff.mpr c77
     subst c77
     have H1:(some (0,0,false))=some (r1,r2,r3):=by rw [if_neg (show ¬(false=true) by decide)] at H;exact H
     clear H
     have H:=H1
     clear H1
     simp only [Option.some.injEq,Prod.mk.injEq] at H
     obtain⟨rfl,rfl,rfl⟩:=H
     have hnb91:=NB367_358.out
     have hnc91:=NB358_367.out
     have hnb92:=NB367_359.out
     have hnc92:=NB359_367.out
     have hnb93:=NB367_360.out
     have hnc93:=NB360_367.out
     have hnb94:=NB367_363.out
     have hnc94:=NB363_367.out
     have hnb95:=NB367_366.out
     have hnc95:=NB366_367.out
     have hcz96_0:wc.cell? ⟨gb367,0,none⟩=some (.int .i64 (wrap64 (t361+t364))):=(blk_cell BK367.out 0).trans rfl
     have hcz96_1:wc.cell? ⟨gb367,1,none⟩=some (.int .i64 (wrap64 (t362+t365))):=(blk_cell BK367.out 1).trans rfl
     have hfz96_0:=blk_frozen BK367.out 0
     have hfz96_1:=blk_frozen BK367.out 1
     go_wp2_with (first|((with_reducible refine gate_callee (f:=76) rfl ?_);refine goesL_ (some 41) rfl rfl Try.func76 (by kernel_rfl) rfl #[.agg #[.int .i64 (wrap64 (t361+t364)),.int .i64 (wrap64 (t362+t365))]] rfl (by exact mA _ _) ?_;(with_reducible refine(outriggerref02_Sane.calls (wrap64 (t361+t364)) (wrap64 (t362+t365)) false _ A76.out).mono ?_);rintro e w97 ⟨rfl,hb⟩;refine⟨_,rfl,?_⟩;have n0_:=Aside0.mk (blk_below (bk BK358.out) hb);have n1_:=Aside0.mk (blk_below (bk BK359.out) hb);have n2_:=Aside0.mk (blk_below (bk BK360.out) hb);have n3_:=Aside0.mk (blk_below (bk BK363.out) hb);have n4_:=Aside0.mk (blk_below (bk BK366.out) hb);have n5_:=Aside0.mk (blk_below (bk BK367.out) hb);have n6_:=Aside0.mk (below_step (by repeat (first|with_reducible exact HB.out|exact bl HB|refine bs ?_ GE358|refine bs ?_ GE359|refine bs ?_ GE360|refine bs ?_ GE363|refine bs ?_ GE366|refine bs ?_ GE367)) hb);clear BK358;clear BK359;clear BK360;clear BK363;clear BK366;clear BK367;clear HB;have BK358:=n0_;have BK359:=n1_;have BK360:=n2_;have BK363:=n3_;have BK366:=n4_;have BK367:=n5_;have HB:=n6_;clear n0_ n1_ n2_ n3_ n4_ n5_ n6_;(try clear hb);(try clear hb2);(try clear hk);(try clear hi);have hnb98:=NB360_358.out;have hnc98:=NB358_360.out;have hnb99:=NB360_359.out;have hnc99:=NB359_360.out;have hnb100:=NB360_363.out;have hnc100:=NB363_360.out;have hnb101:=NB360_366.out;have hnc101:=NB366_360.out;have hcz102_0:w97.cell? ⟨gb360,0,none⟩=some (.int .i64 0):=(blk_cell BK360.out 0).trans rfl;have hcz102_1:w97.cell? ⟨gb360,1,none⟩=some (.int .i64 0):=(blk_cell BK360.out 1).trans rfl;have hfz102_0:=blk_frozen BK360.out 0;have hfz102_1:=blk_frozen BK360.out 1))
     refine bodyPost_ret (results_ct rfl _ _ gb360 50 #[.int .i64 0,.int .i64 0] (0,0) _ rfl (by try refine bk ?_;refine blk_put (cs:=#[.int .i64 0,.int .i64 0]) ?_ 1 _ rfl;try refine bk ?_;refine blk_put (cs:=#[.int .i64 0,.int .i64 0]) ?_ 0 _ rfl;try refine bk ?_;exact BK360.out) Try.underlying50 rfl (by kernel_rfl)) rfl ?_
     exact⟨by first|rfl|(simp [errW_none,errW_some]<;>rfl)|(simp [*,errW_none,errW_some]<;>rfl),by repeat (first|with_reducible exact HB.out|exact bl HB|refine bs ?_ GE358|refine bs ?_ GE359|refine bs ?_ GE360|refine bs ?_ GE363|refine bs ?_ GE366|refine bs ?_ GE367)⟩
mutual
def outriggerref02_Int.j0:Nat→Bool→Int→Int→Option (Int × Bool)
  | 0,_,_,_=>none
  | k+1,x7,x374000,x374001=>if x7=true then (some (x374001,true)) else (if x374000=(-1) then (outriggerref02_Int.j1 k (decide (x374001 ≥ 4323455642275676160)) x374000 x374001) else (outriggerref02_Int.j1 k false x374000 x374001))
def outriggerref02_Int.j1:Nat→Bool→Int→Int→Option (Int × Bool)
  | 0,_,_,_=>none
  | k+1,x18,x374000,x374001=>if x18=true then (some (wrap64 (x374001-4611686018427387904),true)) else (if x374000<0 then (some ((-288230376151711744),false)) else (some (288230376151711744,false)))
end
def outriggerref02_Int.f (k:Nat) (a0_0:Int) (a0_1:Int):Option (Int × Bool):=(outriggerref02_As.f a0_0 a0_1).bind fun bt371=>(if bt371.1=0 then (outriggerref02_Int.j0 k (decide (bt371.2≤288230376151711744)) bt371.1 bt371.2) else (outriggerref02_Int.j0 k false bt371.1 bt371.2))
set_option maxHeartbeats 8000000 in
set_option maxRecDepth 100000 in
theorem outriggerref02_Int.calls (k:Nat) (a0_0:Int) (a0_1:Int) (r1:Int) (r2:Bool) (w:World) (h:outriggerref02_Int.f k a0_0 a0_1=some (r1,r2)) :
  Calls Try.prog 74 #[.agg #[.int .i64 a0_0,.int .i64 a0_1]] w fun e w'=>e=.returned (.tuple #[.int .i64 r1,.bool r2])∧Below w.heap.size w w':=by
 have hu50:=Try.underlying50
 have HB:=Aside0.mk (Below.refl w.heap.size w)
 have H:((outriggerref02_As.f a0_0 a0_1).bind fun bt371=>(if bt371.1=0 then (outriggerref02_Int.j0 k (decide (bt371.2≤288230376151711744)) bt371.1 bt371.2) else (outriggerref02_Int.j0 k false bt371.1 bt371.2)))=some (r1,r2):=h
 clear h
 replace H:=Option.bind_eq_some_iff.mp H
 obtain⟨⟨t371,t372⟩,A20,H⟩:=H
 replace H:(if t371=0 then (outriggerref02_Int.j0 k (decide (t372≤288230376151711744)) t371 t372) else (outriggerref02_Int.j0 k false t371 t372))=some (r1,r2):=H
 have A2:=Aside0.mk A20
 clear A20
 have HC3:=Aside0.mk H
 clear H
 go_enter Try.func74,Try.ntmps74
 go_upto_region 2 with (first|((with_reducible refine gate_dst (N:=1) rfl ?_);refine box_event ?hg (N:=1) ?hd (cs:=#[.int .i64 a0_0,.int .i64 a0_1]) (t:=50) ?hr ?_;(case hd=>rfl);(case hg=>rfl);(case hr=>first|(go_simp;done)|(go_simp;rfl));intro gb370 hg w4 hbox hb;have n0_:=Aside0.mk (below_step (by first|with_reducible exact HB.out|exact bl HB) hb);have n1_:=Aside0.mk (hbox);have n2_:=Aside0.mk ((by rw [hg];exact(below_size (by first|with_reducible exact HB.out|exact bl HB)):w.heap.size≤gb370));have n3_:=Aside0.mk ((by rw [hg];exact(below_size (by first|with_reducible exact HB.out|exact bl HB)):w.heap.size≤gb370));clear HB;have HB:=n0_;have BK370:=n1_;have GW370:=n2_;have GE370:=n3_;clear n0_ n1_ n2_ n3_;clear hb hbox hg;have hcz5_0:w4.cell? ⟨gb370,0,none⟩=some (.int .i64 a0_0):=(blk_cell BK370.out 0).trans rfl;have hcz5_1:w4.cell? ⟨gb370,1,none⟩=some (.int .i64 a0_1):=(blk_cell BK370.out 1).trans rfl;have hfz5_0:=blk_frozen BK370.out 0;have hfz5_1:=blk_frozen BK370.out 1)|((with_reducible refine gate_callee (f:=77) rfl ?_);refine goesL_ (some 6) rfl rfl Try.func77 (by kernel_rfl) rfl #[.agg #[.int .i64 a0_0,.int .i64 a0_1]] rfl (by exact mA _ _) ?_;(with_reducible refine(outriggerref02_As.calls a0_0 a0_1 t371 t372 _ A2.out).mono ?_);rintro e w6 ⟨rfl,hb⟩;refine⟨_,rfl,?_⟩;have n0_:=Aside0.mk (blk_below (bk BK370.out) hb);have n1_:=Aside0.mk (below_step (by repeat (first|with_reducible exact HB.out|exact bl HB|refine bs ?_ GE370)) hb);clear BK370;clear HB;have BK370:=n0_;have HB:=n1_;clear n0_ n1_;(try clear hb);(try clear hb2);(try clear hk);(try clear hi))|((with_reducible refine gate_dst (N:=4) rfl ?_);refine box_event ?hg (N:=4) ?hd (cs:=#[.int .i64 0,.int .i64 0]) (t:=50) ?hr ?_;(case hd=>rfl);(case hg=>rfl);(case hr=>first|(go_simp;done)|(go_simp;rfl));intro gb373 hg w7 hbox hb;have n0_:=Aside0.mk (blk_below (bk BK370.out) hb);have n1_:=Aside0.mk (below_step (by repeat (first|with_reducible exact HB.out|exact bl HB|refine bs ?_ GE370)) hb);have n2_:=Aside0.mk (hbox);have n3_:=Aside0.mk ((by rw [hg];exact(below_size (by repeat (first|with_reducible exact HB.out|exact bl HB|refine bs ?_ GE370))):w.heap.size≤gb373));have n4_:=Aside0.mk ((by rw [hg];exact(below_size (by repeat (first|with_reducible exact HB.out|exact bl HB|refine bs ?_ GE370))):w.heap.size≤gb373));have n5_:=Aside0.mk ((by rw [hg];exact Nat.ne_of_lt (blk_lt (bk BK370.out)):gb370≠gb373));have n6_:=Aside0.mk ((by rw [hg];exact Nat.ne_of_gt (blk_lt (bk BK370.out)):gb373≠gb370));clear BK370;clear HB;have BK370:=n0_;have HB:=n1_;have BK373:=n2_;have GW373:=n3_;have GE373:=n4_;have NB370_373:=n5_;have NB373_370:=n6_;clear n0_ n1_ n2_ n3_ n4_ n5_ n6_;clear hb hbox hg;have hnb8:=NB373_370.out;have hnc8:=NB370_373.out;have hcz9_0:w7.cell? ⟨gb373,0,none⟩=some (.int .i64 0):=(blk_cell BK373.out 0).trans rfl;have hcz9_1:w7.cell? ⟨gb373,1,none⟩=some (.int .i64 0):=(blk_cell BK373.out 1).trans rfl;have hfz9_0:=blk_frozen BK373.out 0;have hfz9_1:=blk_frozen BK373.out 1))
 (try simp only [Act.put,List.setIfInBounds_toArray,List.set_cons_zero,List.set_cons_succ])
 go_cut [7] (fun v7 wc=>∃ (kq:Nat) (x7_2:Bool),v7=.bool x7_2∧Aside0 (outriggerref02_Int.j0 kq x7_2 t371 t372=some (r1,r2))∧Aside0 (kq≤k)∧Aside0 (wc.heap[gb370]? = some (.cells #[.int .i64 a0_0,.int .i64 a0_1] 50 (0,0)))∧Aside0 (wc.heap[gb373]? = some (.cells #[.int .i64 t371,.int .i64 t372] 50 (0,0)))∧Aside0 (Below w.heap.size w wc))
 case first =>
  have H:=HC3.out
  clear HC3
  by_cases c10:t371=0
  ·rw [if_pos c10] at H
   have c10b0:(t371 == 0)=true:=beq_iff_eq.mpr c10
   have c10b1:(t371 != 0)=false:=bne_eq_false_iff_eq.mpr c10
   clear c10
   (first|rw [c10b0]|(simp only [i64_w,i32_w];rw [c10b0])|skip)
   have H':=Aside0.mk H
   clear H
   have hnb11:=NB373_370.out
   have hnc11:=NB370_373.out
   have hcz12_0:w7.cell? ⟨gb373,0,none⟩=some (.int .i64 0):=(blk_cell BK373.out 0).trans rfl
   have hcz12_1:w7.cell? ⟨gb373,1,none⟩=some (.int .i64 0):=(blk_cell BK373.out 1).trans rfl
   have hfz12_0:=blk_frozen BK373.out 0
   have hfz12_1:=blk_frozen BK373.out 1
   go_wp2
   go_meet
   case rel=>exact⟨_,(decide (t372≤288230376151711744)),(by first|rfl|(simp;done)|(simp [*];done)),H',⟨by first|omega|exact Nat.le_refl _⟩,⟨by try refine bk ?_;refine blk_far ?_ NB370_373.out _;try refine bk ?_;refine blk_far ?_ NB370_373.out _;try refine bk ?_;exact BK370.out⟩,⟨by try refine bk ?_;refine blk_put (cs:=#[.int .i64 t371,.int .i64 0]) ?_ 1 _ rfl;try refine bk ?_;refine blk_put (cs:=#[.int .i64 0,.int .i64 0]) ?_ 0 _ rfl;try refine bk ?_;exact BK373.out⟩,⟨by repeat (first|with_reducible exact HB.out|exact bl HB|refine bs ?_ GE370|refine bs ?_ GE373)⟩⟩
  ·rw [if_neg c10] at H
   have c10b0:(t371 == 0)=false:=beq_eq_false_iff_ne.mpr c10
   have c10b1:(t371 != 0)=true:=bne_iff_ne.mpr c10
   (first|rw [c10b0]|(simp only [i64_w,i32_w];rw [c10b0])|skip)
   have H':=Aside0.mk H
   clear H
   have hnb13:=NB373_370.out
   have hnc13:=NB370_373.out
   have hcz14_0:w7.cell? ⟨gb373,0,none⟩=some (.int .i64 0):=(blk_cell BK373.out 0).trans rfl
   have hcz14_1:w7.cell? ⟨gb373,1,none⟩=some (.int .i64 0):=(blk_cell BK373.out 1).trans rfl
   have hfz14_0:=blk_frozen BK373.out 0
   have hfz14_1:=blk_frozen BK373.out 1
   go_wp2
   go_meet
   case rel=>exact⟨_,(false),(by first|rfl|(simp;done)|(simp [*];done)),H',⟨by first|omega|exact Nat.le_refl _⟩,⟨by try refine bk ?_;refine blk_far ?_ NB370_373.out _;try refine bk ?_;refine blk_far ?_ NB370_373.out _;try refine bk ?_;exact BK370.out⟩,⟨by try refine bk ?_;refine blk_put (cs:=#[.int .i64 t371,.int .i64 0]) ?_ 1 _ rfl;try refine bk ?_;refine blk_put (cs:=#[.int .i64 0,.int .i64 0]) ?_ 0 _ rfl;try refine bk ?_;exact BK373.out⟩,⟨by repeat (first|with_reducible exact HB.out|exact bl HB|refine bs ?_ GE370|refine bs ?_ GE373)⟩⟩
 case rest =>
  clear HC3
  try clear c1
  try clear p2
  try clear c7
  try clear c8
  try clear c10
  try clear c10b0
  try clear c10b1
  try clear c11
  try clear c13
  try clear hcz12_0
  try clear hcz12_1
  try clear hcz14_0
  try clear hcz14_1
  try clear hcz5_0
  try clear hcz5_1
  try clear hcz9_0
  try clear hcz9_1
  try clear hfz12_0
  try clear hfz12_1
  try clear hfz14_0
  try clear hfz14_1
  try clear hfz5_0
  try clear hfz5_1
  try clear hfz9_0
  try clear hfz9_1
  obtain⟨kq,x7_2,rfl,HA,HJ2,BK370,BK373,HB⟩:=hcut
  cases kq with
  | zero=>exact absurd HA.out (by simp [outriggerref02_Int.j0])
  | succ kj2 =>
   have H:=HA.out
   clear HA
   simp only [outriggerref02_Int.j0] at H
   by_cases c15:x7_2=true
   ·subst c15
    have H1:(some (t372,true))=some (r1,r2):=by rw [if_pos rfl] at H;exact H
    clear H
    have H:=H1
    clear H1
    simp only [Option.some.injEq,Prod.mk.injEq] at H
    obtain⟨rfl,rfl⟩:=H
    have hnb16:=NB373_370.out
    have hnc16:=NB370_373.out
    have hcz17_0:wc.cell? ⟨gb373,0,none⟩=some (.int .i64 t371):=(blk_cell BK373.out 0).trans rfl
    have hcz17_1:wc.cell? ⟨gb373,1,none⟩=some (.int .i64 t372):=(blk_cell BK373.out 1).trans rfl
    have hfz17_0:=blk_frozen BK373.out 0
    have hfz17_1:=blk_frozen BK373.out 1
    go_wp2
    go_ret2
    exact⟨by first|rfl|(simp [errW_none,errW_some]<;>rfl)|(simp [*,errW_none,errW_some]<;>rfl),by repeat (first|with_reducible exact HB.out|exact bl HB|refine bs ?_ GE370|refine bs ?_ GE373)⟩
   ·replace c15:=Bool.eq_false_iff.mpr c15
    subst c15
    have H1:(if t371=(-1) then (outriggerref02_Int.j1 kj2 (decide (t372 ≥ 4323455642275676160)) t371 t372) else (outriggerref02_Int.j1 kj2 false t371 t372))=some (r1,r2):=by rw [if_neg (show ¬(false=true) by decide)] at H;exact H
    clear H
    have H:=H1
    clear H1
    have HC18:=Aside0.mk H
    clear H
    go_upto_region 4 with (fail)
    go_cut [18] (fun v18 wc=>∃ (kq:Nat) (x18_17:Bool),v18=.bool x18_17∧Aside0 (outriggerref02_Int.j1 kq x18_17 t371 t372=some (r1,r2))∧Aside0 (kq≤kj2)∧Aside0 (wc.heap[gb370]? = some (.cells #[.int .i64 a0_0,.int .i64 a0_1] 50 (0,0)))∧Aside0 (wc.heap[gb373]? = some (.cells #[.int .i64 t371,.int .i64 t372] 50 (0,0)))∧Aside0 (Below w.heap.size w wc))
    case first =>
     have H:=HC18.out
     clear HC18
     by_cases c19:t371=(-1)
     ·rw [if_pos c19] at H
      have c19b0:(t371 == (-1))=true:=beq_iff_eq.mpr c19
      have c19b1:(t371 != (-1))=false:=bne_eq_false_iff_eq.mpr c19
      clear c19
      (first|rw [c19b0]|(simp only [i64_w,i32_w];rw [c19b0])|skip)
      have H':=Aside0.mk H
      clear H
      have hnb20:=NB373_370.out
      have hnc20:=NB370_373.out
      have hcz21_0:wc.cell? ⟨gb373,0,none⟩=some (.int .i64 t371):=(blk_cell BK373.out 0).trans rfl
      have hcz21_1:wc.cell? ⟨gb373,1,none⟩=some (.int .i64 t372):=(blk_cell BK373.out 1).trans rfl
      have hfz21_0:=blk_frozen BK373.out 0
      have hfz21_1:=blk_frozen BK373.out 1
      go_wp2
      go_meet
      case rel=>exact⟨_,(decide (t372 ≥ 4323455642275676160)),(by first|rfl|(simp;done)|(simp [*];done)),H',⟨by have:=HJ2.out;first|omega|exact Nat.le_refl _⟩,⟨by first|exact BK370.out|exact bk BK370.out⟩,⟨by first|exact BK373.out|exact bk BK373.out⟩,⟨by repeat (first|with_reducible exact HB.out|exact bl HB|refine bs ?_ GE370|refine bs ?_ GE373)⟩⟩
     ·rw [if_neg c19] at H
      have c19b0:(t371 == (-1))=false:=beq_eq_false_iff_ne.mpr c19
      have c19b1:(t371 != (-1))=true:=bne_iff_ne.mpr c19
      (first|rw [c19b0]|(simp only [i64_w,i32_w];rw [c19b0])|skip)
      have H':=Aside0.mk H
      clear H
      have hnb22:=NB373_370.out
      have hnc22:=NB370_373.out
      have hcz23_0:wc.cell? ⟨gb373,0,none⟩=some (.int .i64 t371):=(blk_cell BK373.out 0).trans rfl
      have hcz23_1:wc.cell? ⟨gb373,1,none⟩=some (.int .i64 t372):=(blk_cell BK373.out 1).trans rfl
      have hfz23_0:=blk_frozen BK373.out 0
      have hfz23_1:=blk_frozen BK373.out 1
      go_wp2
      go_meet
      case rel=>exact⟨_,(false),(by first|rfl|(simp;done)|(simp [*];done)),H',⟨by have:=HJ2.out;first|omega|exact Nat.le_refl _⟩,⟨by first|exact BK370.out|exact bk BK370.out⟩,⟨by first|exact BK373.out|exact bk BK373.out⟩,⟨by repeat (first|with_reducible exact HB.out|exact bl HB|refine bs ?_ GE370|refine bs ?_ GE373)⟩⟩
    case rest =>
     clear HC18
     try clear c1
     try clear c2
     try clear p2
     try clear c7
     try clear c8
     try clear c10
     try clear c10b0
     try clear c10b1
     try clear c11
     try clear c13
     try clear c15
     try clear c16
     try clear c19
     try clear c19b0
     try clear c19b1
     try clear c20
     try clear c22
     try clear hcz12_0
     try clear hcz12_1
     try clear hcz14_0
     try clear hcz14_1
     try clear hcz17_0
     try clear hcz17_1
     try clear hcz21_0
     try clear hcz21_1
     try clear hcz23_0
     try clear hcz23_1
     try clear hcz5_0
     try clear hcz5_1
     try clear hcz9_0
     try clear hcz9_1
     try clear hfz12_0
     try clear hfz12_1
     try clear hfz14_0
     try clear hfz14_1
     try clear hfz17_0
     try clear hfz17_1
     try clear hfz21_0
     try clear hfz21_1
     try clear hfz23_0
     try clear hfz23_1
     try clear hfz5_0
     try clear hfz5_1
     try clear hfz9_0
     try clear hfz9_1
     try clear p2
     obtain⟨kq,x18_17,rfl,HA,HJ17,BK370,BK373,HB⟩:=hcut
     cases kq with
     | zero=>exact absurd HA.out (by simp [outriggerref02_Int.j1])
     | succ kj17 =>
      have H:=HA.out
      clear HA
      simp only [outriggerref02_Int.j1] at H
      by_cases c24:x18_17=true
      ·subst c24
       have H1:(some (wrap64 (t372-4611686018427387904),true))=some (r1,r2):=by rw [if_pos rfl] at H;exact H
       clear H
       have H:=H1
       clear H1
       simp only [Option.some.injEq,Prod.mk.injEq] at H
       obtain⟨rfl,rfl⟩:=H
       have hnb25:=NB373_370.out
       have hnc25:=NB370_373.out
       have hcz26_0:wc.cell? ⟨gb373,0,none⟩=some (.int .i64 t371):=(blk_cell BK373.out 0).trans rfl
       have hcz26_1:wc.cell? ⟨gb373,1,none⟩=some (.int .i64 t372):=(blk_cell BK373.out 1).trans rfl
       have hfz26_0:=blk_frozen BK373.out 0
       have hfz26_1:=blk_frozen BK373.out 1
       go_wp2
       go_ret2
       exact⟨by first|rfl|(simp [errW_none,errW_some]<;>rfl)|(simp [*,errW_none,errW_some]<;>rfl),by repeat (first|with_reducible exact HB.out|exact bl HB|refine bs ?_ GE370|refine bs ?_ GE373)⟩
      ·replace c24:=Bool.eq_false_iff.mpr c24
       subst c24
       have H1:(if t371<0 then (some ((-288230376151711744),false)) else (some (288230376151711744,false)))=some (r1,r2):=by rw [if_neg (show ¬(false=true) by decide)] at H;exact H
       clear H
       have H:=H1
       clear H1
       by_cases c27:t371<0
       ·rw [if_pos c27] at H
        have c27b0:decide (t371<0)=true:=decide_eq_true c27
        clear c27
        simp only [Option.some.injEq,Prod.mk.injEq] at H
        obtain⟨rfl,rfl⟩:=H
        have hnb28:=NB373_370.out
        have hnc28:=NB370_373.out
        have hcz29_0:wc.cell? ⟨gb373,0,none⟩=some (.int .i64 t371):=(blk_cell BK373.out 0).trans rfl
        have hcz29_1:wc.cell? ⟨gb373,1,none⟩=some (.int .i64 t372):=(blk_cell BK373.out 1).trans rfl
        have hfz29_0:=blk_frozen BK373.out 0
        have hfz29_1:=blk_frozen BK373.out 1
        go_wp2
        go_ret2
        exact⟨by first|rfl|(simp [errW_none,errW_some]<;>rfl)|(simp [*,errW_none,errW_some]<;>rfl),by repeat (first|with_reducible exact HB.out|exact bl HB|refine bs ?_ GE370|refine bs ?_ GE373)⟩
       ·rw [if_neg c27] at H
        have c27b0:decide (t371<0)=false:=decide_eq_false c27
        clear c27
        simp only [Option.some.injEq,Prod.mk.injEq] at H
        obtain⟨rfl,rfl⟩:=H
        have hnb30:=NB373_370.out
        have hnc30:=NB370_373.out
        have hcz31_0:wc.cell? ⟨gb373,0,none⟩=some (.int .i64 t371):=(blk_cell BK373.out 0).trans rfl
        have hcz31_1:wc.cell? ⟨gb373,1,none⟩=some (.int .i64 t372):=(blk_cell BK373.out 1).trans rfl
        have hfz31_0:=blk_frozen BK373.out 0
        have hfz31_1:=blk_frozen BK373.out 1
        go_wp2
        go_ret2
        exact⟨by first|rfl|(simp [errW_none,errW_some]<;>rfl)|(simp [*,errW_none,errW_some]<;>rfl),by repeat (first|with_reducible exact HB.out|exact bl HB|refine bs ?_ GE370|refine bs ?_ GE373)⟩
def outriggerref02_Down.l0:Nat→Int→Int→Int→Int→Option (Int × Int)
  | 0,_,_,_,_=>none
  | k+1,x1,x6,x379000,x379001=>if x6<(mn x1 200) then (outriggerref02_Down.l0 k x1 (wrap64 (x6+1)) (x379000/2) (wrap64 ((wrap64 (Int.tdiv x379001 2))+(wrap64 ((Go.bits .and .i64 x379000 1)*2305843009213693952))))) else (some (x379000,x379001))
def outriggerref02_Down.f (k:Nat) (a0_0:Int) (a0_1:Int) (a1:Int):Option (Int × Int):=(outriggerref02_As.f a0_0 a0_1).bind fun bt376=>(outriggerref02_Down.l0 k a1 0 bt376.1 bt376.2)
set_option maxHeartbeats 8000000 in
set_option maxRecDepth 100000 in
theorem outriggerref02_Down.calls (k:Nat) (a0_0:Int) (a0_1:Int) (a1:Int) (r1:Int) (r2:Int) (w:World) (h:outriggerref02_Down.f k a0_0 a0_1 a1=some (r1,r2)) :
  Calls Try.prog 75 #[.agg #[.int .i64 a0_0,.int .i64 a0_1],.int .i64 a1] w fun e w'=>e=.returned (.agg #[.int .i64 r1,.int .i64 r2])∧Below w.heap.size w w':=by
 have hu50:=Try.underlying50
 have HB:=Aside0.mk (Below.refl w.heap.size w)
 have H:((outriggerref02_As.f a0_0 a0_1).bind fun bt376=>(outriggerref02_Down.l0 k a1 0 bt376.1 bt376.2))=some (r1,r2):=h
 clear h
 replace H:=Option.bind_eq_some_iff.mp H
 obtain⟨⟨t376,t377⟩,A30,H⟩:=H
 replace H:(outriggerref02_Down.l0 k a1 0 t376 t377)=some (r1,r2):=H
 have A3:=Aside0.mk A30
 clear A30
 have H':=Aside0.mk H
 clear H
 go_enter Try.func75,Try.ntmps75
 go_wp2_with (first|((with_reducible refine gate_dst (N:=2) rfl ?_);refine box_event ?hg (N:=2) ?hd (cs:=#[.int .i64 a0_0,.int .i64 a0_1]) (t:=50) ?hr ?_;(case hd=>rfl);(case hg=>rfl);(case hr=>first|(go_simp;done)|(go_simp;rfl));intro gb374 hg w4 hbox hb;have n0_:=Aside0.mk (below_step (by first|with_reducible exact HB.out|exact bl HB) hb);have n1_:=Aside0.mk (hbox);have n2_:=Aside0.mk ((by rw [hg];exact(below_size (by first|with_reducible exact HB.out|exact bl HB)):w.heap.size≤gb374));have n3_:=Aside0.mk ((by rw [hg];exact(below_size (by first|with_reducible exact HB.out|exact bl HB)):w.heap.size≤gb374));clear HB;have HB:=n0_;have BK374:=n1_;have GW374:=n2_;have GE374:=n3_;clear n0_ n1_ n2_ n3_;clear hb hbox hg)|((with_reducible refine gate_dst (N:=4) rfl ?_);refine box_event ?hg (N:=4) ?hd (cs:=#[.int .i64 0,.int .i64 0]) (t:=50) ?hr ?_;(case hd=>rfl);(case hg=>rfl);(case hr=>first|(go_simp;done)|(go_simp;rfl));intro gb375 hg w5 hbox hb;have n0_:=Aside0.mk (blk_below (bk BK374.out) hb);have n1_:=Aside0.mk (below_step (by repeat (first|with_reducible exact HB.out|exact bl HB|refine bs ?_ GE374)) hb);have n2_:=Aside0.mk (hbox);have n3_:=Aside0.mk ((by rw [hg];exact(below_size (by repeat (first|with_reducible exact HB.out|exact bl HB|refine bs ?_ GE374))):w.heap.size≤gb375));have n4_:=Aside0.mk ((by rw [hg];exact(below_size (by repeat (first|with_reducible exact HB.out|exact bl HB|refine bs ?_ GE374))):w.heap.size≤gb375));have n5_:=Aside0.mk ((by rw [hg];exact Nat.ne_of_lt (blk_lt (bk BK374.out)):gb374≠gb375));have n6_:=Aside0.mk ((by rw [hg];exact Nat.ne_of_gt (blk_lt (bk BK374.out)):gb375≠gb374));clear BK374;clear HB;have BK374:=n0_;have HB:=n1_;have BK375:=n2_;have GW375:=n3_;have GE375:=n4_;have NB374_375:=n5_;have NB375_374:=n6_;clear n0_ n1_ n2_ n3_ n4_ n5_ n6_;clear hb hbox hg;have hnb6:=NB374_375.out;have hnc6:=NB375_374.out;have hcz7_0:w5.cell? ⟨gb374,0,none⟩=some (.int .i64 a0_0):=(blk_cell BK374.out 0).trans rfl;have hcz7_1:w5.cell? ⟨gb374,1,none⟩=some (.int .i64 a0_1):=(blk_cell BK374.out 1).trans rfl;have hfz7_0:=blk_frozen BK374.out 0;have hfz7_1:=blk_frozen BK374.out 1)|((with_reducible refine gate_callee (f:=77) rfl ?_);refine goesL_ (some 9) rfl rfl Try.func77 (by kernel_rfl) rfl #[.agg #[.int .i64 a0_0,.int .i64 a0_1]] rfl (by exact mA _ _) ?_;(with_reducible refine(outriggerref02_As.calls a0_0 a0_1 t376 t377 _ A3.out).mono ?_);rintro e w8 ⟨rfl,hb⟩;refine⟨_,rfl,?_⟩;have n0_:=Aside0.mk (blk_below (bk BK374.out) hb);have n1_:=Aside0.mk (blk_below (bk BK375.out) hb);have n2_:=Aside0.mk (below_step (by repeat (first|with_reducible exact HB.out|exact bl HB|refine bs ?_ GE374|refine bs ?_ GE375)) hb);clear BK374;clear BK375;clear HB;have BK374:=n0_;have BK375:=n1_;have HB:=n2_;clear n0_ n1_ n2_;(try clear hb);(try clear hb2);(try clear hk);(try clear hi))|((with_reducible refine gate_dst (N:=5) rfl ?_);refine box_event ?hg (N:=5) ?hd (cs:=#[.int .i64 0,.int .i64 0]) (t:=50) ?hr ?_;(case hd=>rfl);(case hg=>rfl);(case hr=>first|(go_simp;done)|(go_simp;rfl));intro gb378 hg w9 hbox hb;have n0_:=Aside0.mk (blk_below (bk BK374.out) hb);have n1_:=Aside0.mk (blk_below (bk BK375.out) hb);have n2_:=Aside0.mk (below_step (by repeat (first|with_reducible exact HB.out|exact bl HB|refine bs ?_ GE374|refine bs ?_ GE375)) hb);have n3_:=Aside0.mk (hbox);have n4_:=Aside0.mk ((by rw [hg];exact(below_size (by repeat (first|with_reducible exact HB.out|exact bl HB|refine bs ?_ GE374|refine bs ?_ GE375))):w.heap.size≤gb378));have n5_:=Aside0.mk ((by rw [hg];exact(below_size (by repeat (first|with_reducible exact HB.out|exact bl HB|refine bs ?_ GE374|refine bs ?_ GE375))):w.heap.size≤gb378));have n6_:=Aside0.mk ((by rw [hg];exact Nat.ne_of_lt (blk_lt (bk BK374.out)):gb374≠gb378));have n7_:=Aside0.mk ((by rw [hg];exact Nat.ne_of_gt (blk_lt (bk BK374.out)):gb378≠gb374));have n8_:=Aside0.mk ((by rw [hg];exact Nat.ne_of_lt (blk_lt (bk BK375.out)):gb375≠gb378));have n9_:=Aside0.mk ((by rw [hg];exact Nat.ne_of_gt (blk_lt (bk BK375.out)):gb378≠gb375));clear BK374;clear BK375;clear HB;have BK374:=n0_;have BK375:=n1_;have HB:=n2_;have BK378:=n3_;have GW378:=n4_;have GE378:=n5_;have NB374_378:=n6_;have NB378_374:=n7_;have NB375_378:=n8_;have NB378_375:=n9_;clear n0_ n1_ n2_ n3_ n4_ n5_ n6_ n7_ n8_ n9_;clear hb hbox hg;have hnb10:=NB378_374.out;have hnc10:=NB374_378.out;have hnb11:=NB378_375.out;have hnc11:=NB375_378.out;have hcz12_0:w9.cell? ⟨gb378,0,none⟩=some (.int .i64 0):=(blk_cell BK378.out 0).trans rfl;have hcz12_1:w9.cell? ⟨gb378,1,none⟩=some (.int .i64 0):=(blk_cell BK378.out 1).trans rfl;have hfz12_0:=blk_frozen BK378.out 0;have hfz12_1:=blk_frozen BK378.out 1))
 go_loopg [6] k (fun kq v6 w'=>∃ (x6_1:Int) (x379000_1:Int) (x379001_1:Int),v6=.int .i64 x6_1∧Aside0 (outriggerref02_Down.l0 kq a1 x6_1 x379000_1 x379001_1=some (r1,r2))∧Aside0 (kq≤k)∧Aside0 (w'.heap[gb374]? = some (.cells #[.int .i64 a0_0,.int .i64 a0_1] 50 (0,0)))∧Aside0 (w'.heap[gb375]? = some (.cells #[.int .i64 0,.int .i64 0] 50 (0,0)))∧Aside0 (w'.heap[gb378]? = some (.cells #[.int .i64 x379000_1,.int .i64 x379001_1] 50 (0,0)))∧Aside0 (Below w.heap.size w w'))
 case atStart=>exact⟨(0),(t376),(t377),(by first|rfl|(simp;done)|(simp [*];done)),H',⟨Nat.le_refl _⟩,⟨by try refine bk ?_;refine blk_far ?_ NB374_378.out _;try refine bk ?_;refine blk_far ?_ NB374_378.out _;try refine bk ?_;exact BK374.out⟩,⟨by try refine bk ?_;refine blk_far ?_ NB375_378.out _;try refine bk ?_;refine blk_far ?_ NB375_378.out _;try refine bk ?_;exact BK375.out⟩,⟨by try refine bk ?_;refine blk_put (cs:=#[.int .i64 t376,.int .i64 0]) ?_ 1 _ rfl;try refine bk ?_;refine blk_put (cs:=#[.int .i64 0,.int .i64 0]) ?_ 0 _ rfl;try refine bk ?_;exact BK378.out⟩,⟨by repeat (first|with_reducible exact HB.out|exact bl HB|refine bs ?_ GE374|refine bs ?_ GE375|refine bs ?_ GE378)⟩⟩
 case round =>
  clear H'
  try clear c1
  try clear p2
  try clear c6
  try clear c7
  try clear c10
  try clear c11
  try clear hcz12_0
  try clear hcz12_1
  try clear hcz7_0
  try clear hcz7_1
  try clear hfz12_0
  try clear hfz12_1
  try clear hfz7_0
  try clear hfz7_1
  obtain⟨x6_1,x379000_1,x379001_1,rfl,HA,HK1,BK374,BK375,BK378,HB⟩:=hrel
  cases gk with
  | zero=>exact absurd HA.out (by simp [outriggerref02_Down.l0])
  | succ k1 =>
   have H:=HA.out
   clear HA
   simp only [outriggerref02_Down.l0] at H
   obtain⟨ji13,hji13⟩:∃ j_:Int,(mn a1 200)=j_:=⟨_,rfl⟩
   replace H:(if x6_1<(ji13) then (outriggerref02_Down.l0 k1 a1 (wrap64 (x6_1+1)) (x379000_1/2) (wrap64 ((wrap64 (Int.tdiv x379001_1 2))+(wrap64 ((Go.bits .and .i64 x379000_1 1)*2305843009213693952))))) else (some (x379000_1,x379001_1)))=some (r1,r2):=by first|(rw [hji13] at H;exact H)|(simp only [hji13] at H ⊢;exact H)
   (try (have hji13h:ji13≤200:=by (rw [←hji13];unfold mn;(repeat' split)<;>omega)))
   (try (have hji13g:ji13≤64:=by omega))
   have hji13_:(if 200<a1 then 200 else a1)=ji13:=hji13
   by_cases c14:x6_1<(ji13)
   ·rw [if_pos c14] at H
    have c14b0:decide (x6_1<(ji13))=true:=decide_eq_true c14
    clear c14
    have H':=Aside0.mk H
    clear H
    have hnb15:=NB378_374.out
    have hnc15:=NB374_378.out
    have hnb16:=NB378_375.out
    have hnc16:=NB375_378.out
    have hcz17_0:wr.cell? ⟨gb378,0,none⟩=some (.int .i64 x379000_1):=(blk_cell BK378.out 0).trans rfl
    have hcz17_1:wr.cell? ⟨gb378,1,none⟩=some (.int .i64 x379001_1):=(blk_cell BK378.out 1).trans rfl
    have hfz17_0:=blk_frozen BK378.out 0
    have hfz17_1:=blk_frozen BK378.out 1
    go_wp2
    go_roundg k1
    case measure=>have:=HK1.out;omega
    case rel=>exact⟨(wrap64 (x6_1+1)),(x379000_1/2),(wrap64 ((wrap64 (Int.tdiv x379001_1 2))+(wrap64 ((Go.bits .and .i64 x379000_1 1)*2305843009213693952)))),(by first|rfl|(simp;done)|(simp [*];done)),H',⟨by have:=HK1.out;omega⟩,⟨by try refine bk ?_;refine blk_far ?_ NB374_378.out _;try refine bk ?_;refine blk_far ?_ NB374_378.out _;try refine bk ?_;exact BK374.out⟩,⟨by try refine bk ?_;refine blk_far ?_ NB375_378.out _;try refine bk ?_;refine blk_far ?_ NB375_378.out _;try refine bk ?_;exact BK375.out⟩,⟨by try refine bk ?_;refine blk_put (cs:=#[.int .i64 (x379000_1/2),.int .i64 x379001_1]) ?_ 1 _ rfl;try refine bk ?_;refine blk_put (cs:=#[.int .i64 x379000_1,.int .i64 x379001_1]) ?_ 0 _ rfl;try refine bk ?_;exact BK378.out⟩,⟨by repeat (first|with_reducible exact HB.out|exact bl HB|refine bs ?_ GE374|refine bs ?_ GE375|refine bs ?_ GE378)⟩⟩
   ·rw [if_neg c14] at H
    have c14b0:decide (x6_1<(ji13))=false:=decide_eq_false c14
    clear c14
    simp only [Option.some.injEq,Prod.mk.injEq] at H
    obtain⟨rfl,rfl⟩:=H
    have hnb18:=NB378_374.out
    have hnc18:=NB374_378.out
    have hnb19:=NB378_375.out
    have hnc19:=NB375_378.out
    have hcz20_0:wr.cell? ⟨gb378,0,none⟩=some (.int .i64 x379000_1):=(blk_cell BK378.out 0).trans rfl
    have hcz20_1:wr.cell? ⟨gb378,1,none⟩=some (.int .i64 x379001_1):=(blk_cell BK378.out 1).trans rfl
    have hfz20_0:=blk_frozen BK378.out 0
    have hfz20_1:=blk_frozen BK378.out 1
    have hnb21:=NB375_374.out
    have hnc21:=NB374_375.out
    have hcz22_0:wr.cell? ⟨gb375,0,none⟩=some (.int .i64 0):=(blk_cell BK375.out 0).trans rfl
    have hcz22_1:wr.cell? ⟨gb375,1,none⟩=some (.int .i64 0):=(blk_cell BK375.out 1).trans rfl
    have hfz22_0:=blk_frozen BK375.out 0
    have hfz22_1:=blk_frozen BK375.out 1
    go_wp2
    refine bodyPost_ret (results_cell_row rfl _ _ gb375 50 #[.int .i64 x379000_1,.int .i64 x379001_1] (0,0) _ rfl (by try refine bk ?_;refine blk_put (cs:=#[.int .i64 x379000_1,.int .i64 0]) ?_ 1 _ rfl;try refine bk ?_;refine blk_put (cs:=#[.int .i64 0,.int .i64 0]) ?_ 0 _ rfl;try refine bk ?_;exact BK375.out) Try.underlying50 rfl (by kernel_rfl)) rfl ?_
    exact⟨by first|rfl|(simp [errW_none,errW_some]<;>rfl)|(simp only [←hji13];first|rfl|(simp [errW_none,errW_some]<;>rfl))|(simp [*,errW_none,errW_some]<;>rfl),by repeat (first|with_reducible exact HB.out|exact bl HB|refine bs ?_ GE374|refine bs ?_ GE375|refine bs ?_ GE378)⟩
def outriggerref03_Round.f (k:Nat) (a0_0:Int) (a0_1:Int):Option (Int × Bool):=(outriggerref02_Add.f k a0_0 a0_1 0 2147483648).bind fun bt380=>((outriggerref02_Down.f k bt380.1 bt380.2.1 32).bind fun bt384=>((outriggerref02_Int.f k bt384.1 bt384.2).bind fun bt386=>(if bt380.2.2=true then (if bt386.2=true then ((outriggerref02_Sane.f a0_0 a0_1).bind fun t388=>(some (bt386.1,!t388))) else (some (bt386.1,true))) else (some (288230376151711744,true)))))
set_option maxHeartbeats 8000000 in
set_option maxRecDepth 100000 in
theorem outriggerref03_Round.calls (k:Nat) (a0_0:Int) (a0_1:Int) (r1:Int) (r2:Bool) (w:World) (h:outriggerref03_Round.f k a0_0 a0_1=some (r1,r2)) :
  Calls Try.prog 55 #[.agg #[.int .i64 a0_0,.int .i64 a0_1]] w fun e w'=>e=.returned (.tuple #[.int .i64 r1,.bool r2])∧Below w.heap.size w w':=by
 have hu50:=Try.underlying50
 have HB:=Aside0.mk (Below.refl w.heap.size w)
 have H:((outriggerref02_Add.f k a0_0 a0_1 0 2147483648).bind fun bt380=>((outriggerref02_Down.f k bt380.1 bt380.2.1 32).bind fun bt384=>((outriggerref02_Int.f k bt384.1 bt384.2).bind fun bt386=>(if bt380.2.2=true then (if bt386.2=true then ((outriggerref02_Sane.f a0_0 a0_1).bind fun t388=>(some (bt386.1,!t388))) else (some (bt386.1,true))) else (some (288230376151711744,true))))))=some (r1,r2):=h
 clear h
 replace H:=Option.bind_eq_some_iff.mp H
 obtain⟨⟨t380,t381,t382⟩,A20,H⟩:=H
 replace H:((outriggerref02_Down.f k t380 t381 32).bind fun bt384=>((outriggerref02_Int.f k bt384.1 bt384.2).bind fun bt386=>(if t382=true then (if bt386.2=true then ((outriggerref02_Sane.f a0_0 a0_1).bind fun t388=>(some (bt386.1,!t388))) else (some (bt386.1,true))) else (some (288230376151711744,true)))))=some (r1,r2):=H
 have A2:=Aside0.mk A20
 clear A20
 replace H:=Option.bind_eq_some_iff.mp H
 obtain⟨⟨t384,t385⟩,A30,H⟩:=H
 replace H:((outriggerref02_Int.f k t384 t385).bind fun bt386=>(if t382=true then (if bt386.2=true then ((outriggerref02_Sane.f a0_0 a0_1).bind fun t388=>(some (bt386.1,!t388))) else (some (bt386.1,true))) else (some (288230376151711744,true))))=some (r1,r2):=H
 have A3:=Aside0.mk A30
 clear A30
 replace H:=Option.bind_eq_some_iff.mp H
 obtain⟨⟨t386,t387⟩,A40,H⟩:=H
 replace H:(if t382=true then (if t387=true then ((outriggerref02_Sane.f a0_0 a0_1).bind fun t388=>(some (t386,!t388))) else (some (t386,true))) else (some (288230376151711744,true)))=some (r1,r2):=H
 have A4:=Aside0.mk A40
 clear A40
 by_cases c5:t382=true
 ·subst c5
  have H1:(if t387=true then ((outriggerref02_Sane.f a0_0 a0_1).bind fun t388=>(some (t386,!t388))) else (some (t386,true)))=some (r1,r2):=by rw [if_pos rfl] at H;exact H
  clear H
  have H:=H1
  clear H1
  by_cases c6:t387=true
  ·subst c6
   have H1:((outriggerref02_Sane.f a0_0 a0_1).bind fun t388=>(some (t386,!t388)))=some (r1,r2):=by rw [if_pos rfl] at H;exact H
   clear H
   have H:=H1
   clear H1
   replace H:=Option.bind_eq_some_iff.mp H
   obtain⟨t388,A70,H⟩:=H
   replace H:(some (t386,!t388))=some (r1,r2):=H
   have A7:=Aside0.mk A70
   clear A70
   simp only [Option.some.injEq,Prod.mk.injEq] at H
   obtain⟨rfl,rfl⟩:=H
   go_enter Try.func55,Try.ntmps55
   go_wp2_with (first|((with_reducible refine gate_dst (N:=1) rfl ?_);refine box_event ?hg (N:=1) ?hd (cs:=#[.int .i64 a0_0,.int .i64 a0_1]) (t:=50) ?hr ?_;(case hd=>rfl);(case hg=>rfl);(case hr=>first|(go_simp;done)|(go_simp;rfl));intro gb379 hg w8 hbox hb;have n0_:=Aside0.mk (below_step (by first|with_reducible exact HB.out|exact bl HB) hb);have n1_:=Aside0.mk (hbox);have n2_:=Aside0.mk ((by rw [hg];exact(below_size (by first|with_reducible exact HB.out|exact bl HB)):w.heap.size≤gb379));have n3_:=Aside0.mk ((by rw [hg];exact(below_size (by first|with_reducible exact HB.out|exact bl HB)):w.heap.size≤gb379));clear HB;have HB:=n0_;have BK379:=n1_;have GW379:=n2_;have GE379:=n3_;clear n0_ n1_ n2_ n3_;clear hb hbox hg;have hcz9_0:w8.cell? ⟨gb379,0,none⟩=some (.int .i64 a0_0):=(blk_cell BK379.out 0).trans rfl;have hcz9_1:w8.cell? ⟨gb379,1,none⟩=some (.int .i64 a0_1):=(blk_cell BK379.out 1).trans rfl;have hfz9_0:=blk_frozen BK379.out 0;have hfz9_1:=blk_frozen BK379.out 1)|((with_reducible refine gate_callee (f:=58) rfl ?_);refine goesL_ (some 11) rfl rfl Try.func58 (by kernel_rfl) rfl #[.agg #[.int .i64 a0_0,.int .i64 a0_1],.agg #[.int .i64 0,.int .i64 2147483648]] rfl (by exact mA _ _) ?_;(with_reducible refine(outriggerref02_Add.calls k a0_0 a0_1 0 2147483648 t380 t381 true _ A2.out).mono ?_);rintro e w10 ⟨rfl,hb⟩;refine⟨_,rfl,?_⟩;have n0_:=Aside0.mk (blk_below (bk BK379.out) hb);have n1_:=Aside0.mk (below_step (by repeat (first|with_reducible exact HB.out|exact bl HB|refine bs ?_ GE379)) hb);clear BK379;clear HB;have BK379:=n0_;have HB:=n1_;clear n0_ n1_;(try clear hb);(try clear hb2);(try clear hk);(try clear hi))|((with_reducible refine gate_dst (N:=4) rfl ?_);refine box_event ?hg (N:=4) ?hd (cs:=#[.int .i64 0,.int .i64 0]) (t:=50) ?hr ?_;(case hd=>rfl);(case hg=>rfl);(case hr=>first|(go_simp;done)|(go_simp;rfl));intro gb383 hg w11 hbox hb;have n0_:=Aside0.mk (blk_below (bk BK379.out) hb);have n1_:=Aside0.mk (below_step (by repeat (first|with_reducible exact HB.out|exact bl HB|refine bs ?_ GE379)) hb);have n2_:=Aside0.mk (hbox);have n3_:=Aside0.mk ((by rw [hg];exact(below_size (by repeat (first|with_reducible exact HB.out|exact bl HB|refine bs ?_ GE379))):w.heap.size≤gb383));have n4_:=Aside0.mk ((by rw [hg];exact(below_size (by repeat (first|with_reducible exact HB.out|exact bl HB|refine bs ?_ GE379))):w.heap.size≤gb383));have n5_:=Aside0.mk ((by rw [hg];exact Nat.ne_of_lt (blk_lt (bk BK379.out)):gb379≠gb383));have n6_:=Aside0.mk ((by rw [hg];exact Nat.ne_of_gt (blk_lt (bk BK379.out)):gb383≠gb379));clear BK379;clear HB;have BK379:=n0_;have HB:=n1_;have BK383:=n2_;have GW383:=n3_;have GE383:=n4_;have NB379_383:=n5_;have NB383_379:=n6_;clear n0_ n1_ n2_ n3_ n4_ n5_ n6_;clear hb hbox hg;have hnb12:=NB383_379.out;have hnc12:=NB379_383.out;have hcz13_0:w11.cell? ⟨gb383,0,none⟩=some (.int .i64 0):=(blk_cell BK383.out 0).trans rfl;have hcz13_1:w11.cell? ⟨gb383,1,none⟩=some (.int .i64 0):=(blk_cell BK383.out 1).trans rfl;have hfz13_0:=blk_frozen BK383.out 0;have hfz13_1:=blk_frozen BK383.out 1)|((with_reducible refine gate_callee (f:=75) rfl ?_);refine goesL_ (some 16) rfl rfl Try.func75 (by kernel_rfl) rfl #[.agg #[.int .i64 t380,.int .i64 t381],.int .i64 32] rfl (by exact mA _ _) ?_;(with_reducible refine(outriggerref02_Down.calls k t380 t381 32 t384 t385 _ A3.out).mono ?_);rintro e w14 ⟨rfl,hb⟩;refine⟨_,rfl,?_⟩;have n0_:=Aside0.mk (blk_below (g:=gb379) (o:=.cells #[.int .i64 a0_0,.int .i64 a0_1] 50 (0,0)) (by try refine bk ?_;refine blk_far ?_ NB379_383.out _;try refine bk ?_;refine blk_far ?_ NB379_383.out _;try refine bk ?_;exact BK379.out) hb);have n1_:=Aside0.mk (blk_below (g:=gb383) (o:=.cells #[.int .i64 t380,.int .i64 t381] 50 (0,0)) (by try refine bk ?_;refine blk_put (cs:=#[.int .i64 t380,.int .i64 0]) ?_ 1 _ rfl;try refine bk ?_;refine blk_put (cs:=#[.int .i64 0,.int .i64 0]) ?_ 0 _ rfl;try refine bk ?_;exact BK383.out) hb);have n2_:=Aside0.mk (below_step (by repeat (first|with_reducible exact HB.out|exact bl HB|refine bs ?_ GE379|refine bs ?_ GE383)) hb);clear BK379;clear BK383;clear HB;have BK379:=n0_;have BK383:=n1_;have HB:=n2_;clear n0_ n1_ n2_;(try clear hb);(try clear hb2);(try clear hk);(try clear hi))|((with_reducible refine gate_callee (f:=74) rfl ?_);refine goesL_ (some 17) rfl rfl Try.func74 (by kernel_rfl) rfl #[.agg #[.int .i64 t384,.int .i64 t385]] rfl (by exact mA _ _) ?_;(with_reducible refine(outriggerref02_Int.calls k t384 t385 t386 true _ A4.out).mono ?_);rintro e w15 ⟨rfl,hb⟩;refine⟨_,rfl,?_⟩;have n0_:=Aside0.mk (blk_below (bk BK379.out) hb);have n1_:=Aside0.mk (blk_below (bk BK383.out) hb);have n2_:=Aside0.mk (below_step (by repeat (first|with_reducible exact HB.out|exact bl HB|refine bs ?_ GE379|refine bs ?_ GE383)) hb);clear BK379;clear BK383;clear HB;have BK379:=n0_;have BK383:=n1_;have HB:=n2_;clear n0_ n1_ n2_;(try clear hb);(try clear hb2);(try clear hk);(try clear hi);have hcz16_0:w15.cell? ⟨gb379,0,none⟩=some (.int .i64 a0_0):=(blk_cell BK379.out 0).trans rfl;have hcz16_1:w15.cell? ⟨gb379,1,none⟩=some (.int .i64 a0_1):=(blk_cell BK379.out 1).trans rfl;have hfz16_0:=blk_frozen BK379.out 0;have hfz16_1:=blk_frozen BK379.out 1)|(go_at_call 76;(with_reducible refine(outriggerref02_Sane.calls a0_0 a0_1 t388 _ A7.out).mono ?_);rintro e w17 ⟨rfl,hb⟩;have n0_:=Aside0.mk (blk_below (bk BK379.out) hb);have n1_:=Aside0.mk (blk_below (bk BK383.out) hb);have n2_:=Aside0.mk (below_step (by repeat (first|with_reducible exact HB.out|exact bl HB|refine bs ?_ GE379|refine bs ?_ GE383)) hb);clear BK379;clear BK383;clear HB;have BK379:=n0_;have BK383:=n1_;have HB:=n2_;clear n0_ n1_ n2_;(try clear hb);(try clear hb2);(try clear hk);(try clear hi)))
   go_ret2
   exact⟨by first|rfl|(simp [errW_none,errW_some]<;>rfl)|(simp [*,errW_none,errW_some]<;>rfl),by repeat (first|with_reducible exact HB.out|exact bl HB|refine bs ?_ GE379|refine bs ?_ GE383)⟩
  ·replace c6:=Bool.eq_false_iff.mpr c6
   subst c6
   have H1:(some (t386,true))=some (r1,r2):=by rw [if_neg (show ¬(false=true) by decide)] at H;exact H
   clear H
   have H:=H1
   clear H1
   simp only [Option.some.injEq,Prod.mk.injEq] at H
   obtain⟨rfl,rfl⟩:=H
   go_enter Try.func55,Try.ntmps55
   go_wp2_with (first|((with_reducible refine gate_dst (N:=1) rfl ?_);refine box_event ?hg (N:=1) ?hd (cs:=#[.int .i64 a0_0,.int .i64 a0_1]) (t:=50) ?hr ?_;(case hd=>rfl);(case hg=>rfl);(case hr=>first|(go_simp;done)|(go_simp;rfl));intro gb379 hg w18 hbox hb;have n0_:=Aside0.mk (below_step (by first|with_reducible exact HB.out|exact bl HB) hb);have n1_:=Aside0.mk (hbox);have n2_:=Aside0.mk ((by rw [hg];exact(below_size (by first|with_reducible exact HB.out|exact bl HB)):w.heap.size≤gb379));have n3_:=Aside0.mk ((by rw [hg];exact(below_size (by first|with_reducible exact HB.out|exact bl HB)):w.heap.size≤gb379));clear HB;have HB:=n0_;have BK379:=n1_;have GW379:=n2_;have GE379:=n3_;clear n0_ n1_ n2_ n3_;clear hb hbox hg;have hcz19_0:w18.cell? ⟨gb379,0,none⟩=some (.int .i64 a0_0):=(blk_cell BK379.out 0).trans rfl;have hcz19_1:w18.cell? ⟨gb379,1,none⟩=some (.int .i64 a0_1):=(blk_cell BK379.out 1).trans rfl;have hfz19_0:=blk_frozen BK379.out 0;have hfz19_1:=blk_frozen BK379.out 1)|((with_reducible refine gate_callee (f:=58) rfl ?_);refine goesL_ (some 11) rfl rfl Try.func58 (by kernel_rfl) rfl #[.agg #[.int .i64 a0_0,.int .i64 a0_1],.agg #[.int .i64 0,.int .i64 2147483648]] rfl (by exact mA _ _) ?_;(with_reducible refine(outriggerref02_Add.calls k a0_0 a0_1 0 2147483648 t380 t381 true _ A2.out).mono ?_);rintro e w20 ⟨rfl,hb⟩;refine⟨_,rfl,?_⟩;have n0_:=Aside0.mk (blk_below (bk BK379.out) hb);have n1_:=Aside0.mk (below_step (by repeat (first|with_reducible exact HB.out|exact bl HB|refine bs ?_ GE379)) hb);clear BK379;clear HB;have BK379:=n0_;have HB:=n1_;clear n0_ n1_;(try clear hb);(try clear hb2);(try clear hk);(try clear hi))|((with_reducible refine gate_dst (N:=4) rfl ?_);refine box_event ?hg (N:=4) ?hd (cs:=#[.int .i64 0,.int .i64 0]) (t:=50) ?hr ?_;(case hd=>rfl);(case hg=>rfl);(case hr=>first|(go_simp;done)|(go_simp;rfl));intro gb383 hg w21 hbox hb;have n0_:=Aside0.mk (blk_below (bk BK379.out) hb);have n1_:=Aside0.mk (below_step (by repeat (first|with_reducible exact HB.out|exact bl HB|refine bs ?_ GE379)) hb);have n2_:=Aside0.mk (hbox);have n3_:=Aside0.mk ((by rw [hg];exact(below_size (by repeat (first|with_reducible exact HB.out|exact bl HB|refine bs ?_ GE379))):w.heap.size≤gb383));have n4_:=Aside0.mk ((by rw [hg];exact(below_size (by repeat (first|with_reducible exact HB.out|exact bl HB|refine bs ?_ GE379))):w.heap.size≤gb383));have n5_:=Aside0.mk ((by rw [hg];exact Nat.ne_of_lt (blk_lt (bk BK379.out)):gb379≠gb383));have n6_:=Aside0.mk ((by rw [hg];exact Nat.ne_of_gt (blk_lt (bk BK379.out)):gb383≠gb379));clear BK379;clear HB;have BK379:=n0_;have HB:=n1_;have BK383:=n2_;have GW383:=n3_;have GE383:=n4_;have NB379_383:=n5_;have NB383_379:=n6_;clear n0_ n1_ n2_ n3_ n4_ n5_ n6_;clear hb hbox hg;have hnb22:=NB383_379.out;have hnc22:=NB379_383.out;have hcz23_0:w21.cell? ⟨gb383,0,none⟩=some (.int .i64 0):=(blk_cell BK383.out 0).trans rfl;have hcz23_1:w21.cell? ⟨gb383,1,none⟩=some (.int .i64 0):=(blk_cell BK383.out 1).trans rfl;have hfz23_0:=blk_frozen BK383.out 0;have hfz23_1:=blk_frozen BK383.out 1)|((with_reducible refine gate_callee (f:=75) rfl ?_);refine goesL_ (some 16) rfl rfl Try.func75 (by kernel_rfl) rfl #[.agg #[.int .i64 t380,.int .i64 t381],.int .i64 32] rfl (by exact mA _ _) ?_;(with_reducible refine(outriggerref02_Down.calls k t380 t381 32 t384 t385 _ A3.out).mono ?_);rintro e w24 ⟨rfl,hb⟩;refine⟨_,rfl,?_⟩;have n0_:=Aside0.mk (blk_below (g:=gb379) (o:=.cells #[.int .i64 a0_0,.int .i64 a0_1] 50 (0,0)) (by try refine bk ?_;refine blk_far ?_ NB379_383.out _;try refine bk ?_;refine blk_far ?_ NB379_383.out _;try refine bk ?_;exact BK379.out) hb);have n1_:=Aside0.mk (blk_below (g:=gb383) (o:=.cells #[.int .i64 t380,.int .i64 t381] 50 (0,0)) (by try refine bk ?_;refine blk_put (cs:=#[.int .i64 t380,.int .i64 0]) ?_ 1 _ rfl;try refine bk ?_;refine blk_put (cs:=#[.int .i64 0,.int .i64 0]) ?_ 0 _ rfl;try refine bk ?_;exact BK383.out) hb);have n2_:=Aside0.mk (below_step (by repeat (first|with_reducible exact HB.out|exact bl HB|refine bs ?_ GE379|refine bs ?_ GE383)) hb);clear BK379;clear BK383;clear HB;have BK379:=n0_;have BK383:=n1_;have HB:=n2_;clear n0_ n1_ n2_;(try clear hb);(try clear hb2);(try clear hk);(try clear hi))|((with_reducible refine gate_callee (f:=74) rfl ?_);refine goesL_ (some 17) rfl rfl Try.func74 (by kernel_rfl) rfl #[.agg #[.int .i64 t384,.int .i64 t385]] rfl (by exact mA _ _) ?_;(with_reducible refine(outriggerref02_Int.calls k t384 t385 t386 false _ A4.out).mono ?_);rintro e w25 ⟨rfl,hb⟩;refine⟨_,rfl,?_⟩;have n0_:=Aside0.mk (blk_below (bk BK379.out) hb);have n1_:=Aside0.mk (blk_below (bk BK383.out) hb);have n2_:=Aside0.mk (below_step (by repeat (first|with_reducible exact HB.out|exact bl HB|refine bs ?_ GE379|refine bs ?_ GE383)) hb);clear BK379;clear BK383;clear HB;have BK379:=n0_;have BK383:=n1_;have HB:=n2_;clear n0_ n1_ n2_;(try clear hb);(try clear hb2);(try clear hk);(try clear hi)))
   go_ret2
   exact⟨by first|rfl|(simp [errW_none,errW_some]<;>rfl)|(simp [*,errW_none,errW_some]<;>rfl),by repeat (first|with_reducible exact HB.out|exact bl HB|refine bs ?_ GE379|refine bs ?_ GE383)⟩
 ·replace c5:=Bool.eq_false_iff.mpr c5
  subst c5
  have H1:(some (288230376151711744,true))=some (r1,r2):=by rw [if_neg (show ¬(false=true) by decide)] at H;exact H
  clear H
  have H:=H1
  clear H1
  simp only [Option.some.injEq,Prod.mk.injEq] at H
  obtain⟨rfl,rfl⟩:=H
  go_enter Try.func55,Try.ntmps55
  go_wp2_with (first|((with_reducible refine gate_dst (N:=1) rfl ?_);refine box_event ?hg (N:=1) ?hd (cs:=#[.int .i64 a0_0,.int .i64 a0_1]) (t:=50) ?hr ?_;(case hd=>rfl);(case hg=>rfl);(case hr=>first|(go_simp;done)|(go_simp;rfl));intro gb379 hg w26 hbox hb;have n0_:=Aside0.mk (below_step (by first|with_reducible exact HB.out|exact bl HB) hb);have n1_:=Aside0.mk (hbox);have n2_:=Aside0.mk ((by rw [hg];exact(below_size (by first|with_reducible exact HB.out|exact bl HB)):w.heap.size≤gb379));have n3_:=Aside0.mk ((by rw [hg];exact(below_size (by first|with_reducible exact HB.out|exact bl HB)):w.heap.size≤gb379));clear HB;have HB:=n0_;have BK379:=n1_;have GW379:=n2_;have GE379:=n3_;clear n0_ n1_ n2_ n3_;clear hb hbox hg;have hcz27_0:w26.cell? ⟨gb379,0,none⟩=some (.int .i64 a0_0):=(blk_cell BK379.out 0).trans rfl;have hcz27_1:w26.cell? ⟨gb379,1,none⟩=some (.int .i64 a0_1):=(blk_cell BK379.out 1).trans rfl;have hfz27_0:=blk_frozen BK379.out 0;have hfz27_1:=blk_frozen BK379.out 1)|((with_reducible refine gate_callee (f:=58) rfl ?_);refine goesL_ (some 11) rfl rfl Try.func58 (by kernel_rfl) rfl #[.agg #[.int .i64 a0_0,.int .i64 a0_1],.agg #[.int .i64 0,.int .i64 2147483648]] rfl (by exact mA _ _) ?_;(with_reducible refine(outriggerref02_Add.calls k a0_0 a0_1 0 2147483648 t380 t381 false _ A2.out).mono ?_);rintro e w28 ⟨rfl,hb⟩;refine⟨_,rfl,?_⟩;have n0_:=Aside0.mk (blk_below (bk BK379.out) hb);have n1_:=Aside0.mk (below_step (by repeat (first|with_reducible exact HB.out|exact bl HB|refine bs ?_ GE379)) hb);clear BK379;clear HB;have BK379:=n0_;have HB:=n1_;clear n0_ n1_;(try clear hb);(try clear hb2);(try clear hk);(try clear hi))|((with_reducible refine gate_dst (N:=4) rfl ?_);refine box_event ?hg (N:=4) ?hd (cs:=#[.int .i64 0,.int .i64 0]) (t:=50) ?hr ?_;(case hd=>rfl);(case hg=>rfl);(case hr=>first|(go_simp;done)|(go_simp;rfl));intro gb383 hg w29 hbox hb;have n0_:=Aside0.mk (blk_below (bk BK379.out) hb);have n1_:=Aside0.mk (below_step (by repeat (first|with_reducible exact HB.out|exact bl HB|refine bs ?_ GE379)) hb);have n2_:=Aside0.mk (hbox);have n3_:=Aside0.mk ((by rw [hg];exact(below_size (by repeat (first|with_reducible exact HB.out|exact bl HB|refine bs ?_ GE379))):w.heap.size≤gb383));have n4_:=Aside0.mk ((by rw [hg];exact(below_size (by repeat (first|with_reducible exact HB.out|exact bl HB|refine bs ?_ GE379))):w.heap.size≤gb383));have n5_:=Aside0.mk ((by rw [hg];exact Nat.ne_of_lt (blk_lt (bk BK379.out)):gb379≠gb383));have n6_:=Aside0.mk ((by rw [hg];exact Nat.ne_of_gt (blk_lt (bk BK379.out)):gb383≠gb379));clear BK379;clear HB;have BK379:=n0_;have HB:=n1_;have BK383:=n2_;have GW383:=n3_;have GE383:=n4_;have NB379_383:=n5_;have NB383_379:=n6_;clear n0_ n1_ n2_ n3_ n4_ n5_ n6_;clear hb hbox hg;have hnb30:=NB383_379.out;have hnc30:=NB379_383.out;have hcz31_0:w29.cell? ⟨gb383,0,none⟩=some (.int .i64 0):=(blk_cell BK383.out 0).trans rfl;have hcz31_1:w29.cell? ⟨gb383,1,none⟩=some (.int .i64 0):=(blk_cell BK383.out 1).trans rfl;have hfz31_0:=blk_frozen BK383.out 0;have hfz31_1:=blk_frozen BK383.out 1)|((with_reducible refine gate_callee (f:=75) rfl ?_);refine goesL_ (some 16) rfl rfl Try.func75 (by kernel_rfl) rfl #[.agg #[.int .i64 t380,.int .i64 t381],.int .i64 32] rfl (by exact mA _ _) ?_;(with_reducible refine(outriggerref02_Down.calls k t380 t381 32 t384 t385 _ A3.out).mono ?_);rintro e w32 ⟨rfl,hb⟩;refine⟨_,rfl,?_⟩;have n0_:=Aside0.mk (blk_below (g:=gb379) (o:=.cells #[.int .i64 a0_0,.int .i64 a0_1] 50 (0,0)) (by try refine bk ?_;refine blk_far ?_ NB379_383.out _;try refine bk ?_;refine blk_far ?_ NB379_383.out _;try refine bk ?_;exact BK379.out) hb);have n1_:=Aside0.mk (blk_below (g:=gb383) (o:=.cells #[.int .i64 t380,.int .i64 t381] 50 (0,0)) (by try refine bk ?_;refine blk_put (cs:=#[.int .i64 t380,.int .i64 0]) ?_ 1 _ rfl;try refine bk ?_;refine blk_put (cs:=#[.int .i64 0,.int .i64 0]) ?_ 0 _ rfl;try refine bk ?_;exact BK383.out) hb);have n2_:=Aside0.mk (below_step (by repeat (first|with_reducible exact HB.out|exact bl HB|refine bs ?_ GE379|refine bs ?_ GE383)) hb);clear BK379;clear BK383;clear HB;have BK379:=n0_;have BK383:=n1_;have HB:=n2_;clear n0_ n1_ n2_;(try clear hb);(try clear hb2);(try clear hk);(try clear hi))|((with_reducible refine gate_callee (f:=74) rfl ?_);refine goesL_ (some 17) rfl rfl Try.func74 (by kernel_rfl) rfl #[.agg #[.int .i64 t384,.int .i64 t385]] rfl (by exact mA _ _) ?_;(with_reducible refine(outriggerref02_Int.calls k t384 t385 t386 t387 _ A4.out).mono ?_);rintro e w33 ⟨rfl,hb⟩;refine⟨_,rfl,?_⟩;have n0_:=Aside0.mk (blk_below (bk BK379.out) hb);have n1_:=Aside0.mk (blk_below (bk BK383.out) hb);have n2_:=Aside0.mk (below_step (by repeat (first|with_reducible exact HB.out|exact bl HB|refine bs ?_ GE379|refine bs ?_ GE383)) hb);clear BK379;clear BK383;clear HB;have BK379:=n0_;have BK383:=n1_;have HB:=n2_;clear n0_ n1_ n2_;(try clear hb);(try clear hb2);(try clear hk);(try clear hi)))
  go_ret2
  exact⟨by first|rfl|(simp [errW_none,errW_some]<;>rfl)|(simp [*,errW_none,errW_some]<;>rfl),by repeat (first|with_reducible exact HB.out|exact bl HB|refine bs ?_ GE379|refine bs ?_ GE383)⟩
end Go.Proofs.Ytembdogffbcjiaa.B
