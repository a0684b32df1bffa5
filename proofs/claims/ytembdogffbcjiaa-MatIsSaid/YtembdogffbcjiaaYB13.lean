/- Lemmas of the row, laid by a program. -/
import Derived.Test.YtembdogffbcjiaaYB0
import Derived.Test.YtembdogffbcjiaaYB11
import Derived.Test.YtembdogffbcjiaaYB12
namespace Go.Proofs.Ytembdogffbcjiaa.B
open Go.RowKit Go.Proofs.YtembdogffbcjiaaW.PrintWords Go.Proofs.YtembdogffbcjiaaW.PrintLast Go.Proofs.YtembdogffbcjiaaW.PrintMore
attribute [local go_sem] max2_int min2_int max_two min_two max_three min_three max_four min_four
set_option linter.unusedVariables false
set_option linter.unusedSimpArgs false
def outriggerref01_As.f (a0:Int):Option (Int):=(outriggerref01_Clamp.f a0).bind fun bt389=>(some bt389.1)
set_option maxHeartbeats 8000000 in
set_option maxRecDepth 100000 in
theorem outriggerref01_As.calls (a0:Int) (r:Int) (w:World) (h:outriggerref01_As.f a0=some r) :
  Calls Try.prog 41 #[.int .i64 a0] w fun e w'=>e=.returned (.int .i64 r)∧Drawn0 w w':=by
 have H:((outriggerref01_Clamp.f a0).bind fun bt389=>(some bt389.1))=some r:=h
 clear h
 replace H:=Option.bind_eq_some_iff.mp H
 obtain⟨⟨t389,t390⟩,A20,H⟩:=H
 replace H:(some t389)=some r:=H
 have A2:=Aside0.mk A20
 clear A20
 obtain rfl:=Option.some.inj H
 go_enter Try.func41,Try.ntmps41
 go_wp2_with (first|((with_reducible refine gate_callee (f:=51) rfl ?_);refine goesL_ (some 7) rfl rfl Try.func51 (by kernel_rfl) rfl #[.int .i64 a0] rfl (by exact mA _ _) ?_;(with_reducible refine(outriggerref01_Clamp.calls a0 t389 t390 _ A2.out).mono ?_);rintro e w' ⟨rfl,⟨nd,rfl⟩⟩;refine⟨_,rfl,?_⟩))
 go_ret
 exact⟨by first|rfl|(simp;done)|(simp [*];done),by repeat (first|exact Drawn0.refl _|apply Drawn0.step)⟩
def outriggerref01_Abs.f (a0:Int):Option (Int):=(outriggerref01_As.f a0).bind fun t391=>((outriggerref01_As.f a0).bind fun t392=>(some (mx t391 (wrap64 (-t392)))))
set_option maxHeartbeats 8000000 in
set_option maxRecDepth 100000 in
theorem outriggerref01_Abs.calls (a0:Int) (r:Int) (w:World) (h:outriggerref01_Abs.f a0=some r) :
  Calls Try.prog 78 #[.int .i64 a0] w fun e w'=>e=.returned (.int .i64 r)∧Below w.heap.size w w':=by
 have HB:=Aside0.mk (Below.refl w.heap.size w)
 have H:((outriggerref01_As.f a0).bind fun t391=>((outriggerref01_As.f a0).bind fun t392=>(some (mx t391 (wrap64 (-t392))))))=some r:=h
 clear h
 replace H:=Option.bind_eq_some_iff.mp H
 obtain⟨t391,A20,H⟩:=H
 replace H:((outriggerref01_As.f a0).bind fun t392=>(some (mx t391 (wrap64 (-t392)))))=some r:=H
 have A2:=Aside0.mk A20
 clear A20
 replace H:=Option.bind_eq_some_iff.mp H
 obtain⟨t392,A30,H⟩:=H
 replace H:(some (mx t391 (wrap64 (-t392))))=some r:=H
 have A3:=Aside0.mk A30
 clear A30
 obtain⟨ji4,hji4⟩:∃ j_:Int,(mx t391 (wrap64 (-t392)))=j_:=⟨_,rfl⟩
 replace H:(some ji4)=some r:=by first|(rw [hji4] at H;exact H)|(simp only [hji4] at H ⊢;exact H)
 (try rw [hji4] at A2)
 (try rw [hji4] at A3)
 have hji4_:(if t391<(wrap64 (-t392)) then (wrap64 (-t392)) else t391)=ji4:=hji4
 obtain rfl:=Option.some.inj H
 go_enter Try.func78,Try.ntmps78
 go_wp2_with (first|((with_reducible refine gate_callee (f:=41) rfl ?_);refine goesL_ (some 4) rfl rfl Try.func41 (by kernel_rfl) rfl #[.int .i64 a0] rfl (by exact mA _ _) ?_;(with_reducible refine(outriggerref01_As.calls a0 t391 _ A2.out).mono ?_);rintro e w' ⟨rfl,⟨nd,rfl⟩⟩;refine⟨_,rfl,?_⟩)|((with_reducible refine gate_callee (f:=41) rfl ?_);refine goesL_ (some 6) rfl rfl Try.func41 (by kernel_rfl) rfl #[.int .i64 a0] rfl (by exact mA _ _) ?_;(with_reducible refine(outriggerref01_As.calls a0 t392 _ A3.out).mono ?_);rintro e w' ⟨rfl,⟨nd,rfl⟩⟩;refine⟨_,rfl,?_⟩))
 go_ret
 exact⟨by first|rfl|(simp [errW_none,errW_some]<;>rfl)|(simp only [←hji4];first|rfl|(simp [errW_none,errW_some]<;>rfl))|(simp [*,errW_none,errW_some]<;>rfl),by first|with_reducible exact HB.out|exact bl HB⟩
def outriggerref02_turn.f (a0_0:Int) (a0_1:Int):Option (Int × Int):=if a0_1=0 then (some (wrap64 (-a0_0),0)) else (some (wrap64 ((wrap64 (-a0_0))-1),wrap64 (4611686018427387904-a0_1)))
set_option maxHeartbeats 8000000 in
set_option maxRecDepth 100000 in
theorem outriggerref02_turn.calls (a0_0:Int) (a0_1:Int) (r1:Int) (r2:Int) (w:World) (h:outriggerref02_turn.f a0_0 a0_1=some (r1,r2)) :
  Calls Try.prog 79 #[.agg #[.int .i64 a0_0,.int .i64 a0_1]] w fun e w'=>e=.returned (.agg #[.int .i64 r1,.int .i64 r2])∧Below w.heap.size w w':=by
 have hu50:=Try.underlying50
 have HB:=Aside0.mk (Below.refl w.heap.size w)
 have H:(if a0_1=0 then (some (wrap64 (-a0_0),0)) else (some (wrap64 ((wrap64 (-a0_0))-1),wrap64 (4611686018427387904-a0_1))))=some (r1,r2):=h
 clear h
 by_cases c2:a0_1=0
 ·rw [if_pos c2] at H
  have c2b0:(a0_1 == 0)=true:=beq_iff_eq.mpr c2
  have c2b1:(a0_1 != 0)=false:=bne_eq_false_iff_eq.mpr c2
  clear c2
  simp only [Option.some.injEq,Prod.mk.injEq] at H
  obtain⟨rfl,rfl⟩:=H
  go_enter Try.func79,Try.ntmps79
  go_wp2_with (first|((with_reducible refine gate_dst (N:=1) rfl ?_);refine box_event ?hg (N:=1) ?hd (cs:=#[.int .i64 a0_0,.int .i64 a0_1]) (t:=50) ?hr ?_;(case hd=>rfl);(case hg=>rfl);(case hr=>first|(go_simp;done)|(go_simp;rfl));intro gb393 hg w3 hbox hb;have n0_:=Aside0.mk (below_step (by first|with_reducible exact HB.out|exact bl HB) hb);have n1_:=Aside0.mk (hbox);have n2_:=Aside0.mk ((by rw [hg];exact(below_size (by first|with_reducible exact HB.out|exact bl HB)):w.heap.size≤gb393));have n3_:=Aside0.mk ((by rw [hg];exact(below_size (by first|with_reducible exact HB.out|exact bl HB)):w.heap.size≤gb393));clear HB;have HB:=n0_;have BK393:=n1_;have GW393:=n2_;have GE393:=n3_;clear n0_ n1_ n2_ n3_;clear hb hbox hg)|((with_reducible refine gate_dst (N:=2) rfl ?_);refine box_event ?hg (N:=2) ?hd (cs:=#[.int .i64 0,.int .i64 0]) (t:=50) ?hr ?_;(case hd=>rfl);(case hg=>rfl);(case hr=>first|(go_simp;done)|(go_simp;rfl));intro gb394 hg w4 hbox hb;have n0_:=Aside0.mk (blk_below (bk BK393.out) hb);have n1_:=Aside0.mk (below_step (by repeat (first|with_reducible exact HB.out|exact bl HB|refine bs ?_ GE393)) hb);have n2_:=Aside0.mk (hbox);have n3_:=Aside0.mk ((by rw [hg];exact(below_size (by repeat (first|with_reducible exact HB.out|exact bl HB|refine bs ?_ GE393))):w.heap.size≤gb394));have n4_:=Aside0.mk ((by rw [hg];exact(below_size (by repeat (first|with_reducible exact HB.out|exact bl HB|refine bs ?_ GE393))):w.heap.size≤gb394));have n5_:=Aside0.mk ((by rw [hg];exact Nat.ne_of_lt (blk_lt (bk BK393.out)):gb393≠gb394));have n6_:=Aside0.mk ((by rw [hg];exact Nat.ne_of_gt (blk_lt (bk BK393.out)):gb394≠gb393));clear BK393;clear HB;have BK393:=n0_;have HB:=n1_;have BK394:=n2_;have GW394:=n3_;have GE394:=n4_;have NB393_394:=n5_;have NB394_393:=n6_;clear n0_ n1_ n2_ n3_ n4_ n5_ n6_;clear hb hbox hg;have hnb5:=NB393_394.out;have hnc5:=NB394_393.out;have hcz6_0:w4.cell? ⟨gb393,0,none⟩=some (.int .i64 a0_0):=(blk_cell BK393.out 0).trans rfl;have hcz6_1:w4.cell? ⟨gb393,1,none⟩=some (.int .i64 a0_1):=(blk_cell BK393.out 1).trans rfl;have hfz6_0:=blk_frozen BK393.out 0;have hfz6_1:=blk_frozen BK393.out 1;have hcz7_0:w4.cell? ⟨gb394,0,none⟩=some (.int .i64 0):=(blk_cell BK394.out 0).trans rfl;have hcz7_1:w4.cell? ⟨gb394,1,none⟩=some (.int .i64 0):=(blk_cell BK394.out 1).trans rfl;have hfz7_0:=blk_frozen BK394.out 0;have hfz7_1:=blk_frozen BK394.out 1))
  refine bodyPost_ret (results_cell_row rfl _ _ gb394 50 #[.int .i64 (wrap64 (-a0_0)),.int .i64 0] (0,0) _ rfl (by try refine bk ?_;refine blk_put (cs:=#[.int .i64 (wrap64 (-a0_0)),.int .i64 0]) ?_ 1 _ rfl;try refine bk ?_;refine blk_put (cs:=#[.int .i64 0,.int .i64 0]) ?_ 0 _ rfl;try refine bk ?_;exact BK394.out) Try.underlying50 rfl (by kernel_rfl)) rfl ?_
  exact⟨by first|rfl|(simp [errW_none,errW_some]<;>rfl)|(simp [*,errW_none,errW_some]<;>rfl),by repeat (first|with_reducible exact HB.out|exact bl HB|refine bs ?_ GE393|refine bs ?_ GE394)⟩
 ·rw [if_neg c2] at H
  have c2b0:(a0_1 == 0)=false:=beq_eq_false_iff_ne.mpr c2
  have c2b1:(a0_1 != 0)=true:=bne_iff_ne.mpr c2
  simp only [Option.some.injEq,Prod.mk.injEq] at H
  obtain⟨rfl,rfl⟩:=H
  go_enter Try.func79,Try.ntmps79
  go_wp2_with (first|((with_reducible refine gate_dst (N:=1) rfl ?_);refine box_event ?hg (N:=1) ?hd (cs:=#[.int .i64 a0_0,.int .i64 a0_1]) (t:=50) ?hr ?_;(case hd=>rfl);(case hg=>rfl);(case hr=>first|(go_simp;done)|(go_simp;rfl));intro gb393 hg w8 hbox hb;have n0_:=Aside0.mk (below_step (by first|with_reducible exact HB.out|exact bl HB) hb);have n1_:=Aside0.mk (hbox);have n2_:=Aside0.mk ((by rw [hg];exact(below_size (by first|with_reducible exact HB.out|exact bl HB)):w.heap.size≤gb393));have n3_:=Aside0.mk ((by rw [hg];exact(below_size (by first|with_reducible exact HB.out|exact bl HB)):w.heap.size≤gb393));clear HB;have HB:=n0_;have BK393:=n1_;have GW393:=n2_;have GE393:=n3_;clear n0_ n1_ n2_ n3_;clear hb hbox hg)|((with_reducible refine gate_dst (N:=2) rfl ?_);refine box_event ?hg (N:=2) ?hd (cs:=#[.int .i64 0,.int .i64 0]) (t:=50) ?hr ?_;(case hd=>rfl);(case hg=>rfl);(case hr=>first|(go_simp;done)|(go_simp;rfl));intro gb394 hg w9 hbox hb;have n0_:=Aside0.mk (blk_below (bk BK393.out) hb);have n1_:=Aside0.mk (below_step (by repeat (first|with_reducible exact HB.out|exact bl HB|refine bs ?_ GE393)) hb);have n2_:=Aside0.mk (hbox);have n3_:=Aside0.mk ((by rw [hg];exact(below_size (by repeat (first|with_reducible exact HB.out|exact bl HB|refine bs ?_ GE393))):w.heap.size≤gb394));have n4_:=Aside0.mk ((by rw [hg];exact(below_size (by repeat (first|with_reducible exact HB.out|exact bl HB|refine bs ?_ GE393))):w.heap.size≤gb394));have n5_:=Aside0.mk ((by rw [hg];exact Nat.ne_of_lt (blk_lt (bk BK393.out)):gb393≠gb394));have n6_:=Aside0.mk ((by rw [hg];exact Nat.ne_of_gt (blk_lt (bk BK393.out)):gb394≠gb393));clear BK393;clear HB;have BK393:=n0_;have HB:=n1_;have BK394:=n2_;have GW394:=n3_;have GE394:=n4_;have NB393_394:=n5_;have NB394_393:=n6_;clear n0_ n1_ n2_ n3_ n4_ n5_ n6_;clear hb hbox hg;have hnb10:=NB393_394.out;have hnc10:=NB394_393.out;have hcz11_0:w9.cell? ⟨gb393,0,none⟩=some (.int .i64 a0_0):=(blk_cell BK393.out 0).trans rfl;have hcz11_1:w9.cell? ⟨gb393,1,none⟩=some (.int .i64 a0_1):=(blk_cell BK393.out 1).trans rfl;have hfz11_0:=blk_frozen BK393.out 0;have hfz11_1:=blk_frozen BK393.out 1;have hcz12_0:w9.cell? ⟨gb394,0,none⟩=some (.int .i64 0):=(blk_cell BK394.out 0).trans rfl;have hcz12_1:w9.cell? ⟨gb394,1,none⟩=some (.int .i64 0):=(blk_cell BK394.out 1).trans rfl;have hfz12_0:=blk_frozen BK394.out 0;have hfz12_1:=blk_frozen BK394.out 1))
  refine bodyPost_ret (results_cell_row rfl _ _ gb394 50 #[.int .i64 (wrap64 ((wrap64 (-a0_0))-1)),.int .i64 (wrap64 (4611686018427387904-a0_1))] (0,0) _ rfl (by try refine bk ?_;refine blk_put (cs:=#[.int .i64 (wrap64 ((wrap64 (-a0_0))-1)),.int .i64 0]) ?_ 1 _ rfl;try refine bk ?_;refine blk_put (cs:=#[.int .i64 0,.int .i64 0]) ?_ 0 _ rfl;try refine bk ?_;exact BK394.out) Try.underlying50 rfl (by kernel_rfl)) rfl ?_
  exact⟨by first|rfl|(simp [errW_none,errW_some]<;>rfl)|(simp [*,errW_none,errW_some]<;>rfl),by repeat (first|with_reducible exact HB.out|exact bl HB|refine bs ?_ GE393|refine bs ?_ GE394)⟩
theorem gen_world {P:Program} {ops:Array Oper} {rest:List Oper} {a:Act} {Q:Exit→Act→World→Prop} {W:World} (S:World→Prop) (hS:S W) (h:∀ W',S W'→wpList P ops Q rest a W'):wpList P ops Q rest a W:=h W hS
def outriggerref02_Mul.f (a0:Int) (a1:Int):Option (Int × Int):=(outriggerref01_Abs.f a0).bind fun t396=>((outriggerref01_Abs.f a1).bind fun t397=>(if (wrap64 ((wrap64 ((Int.tmod t396 2147483648)*(Int.tmod t397 2147483648)))+(wrap64 ((Int.tmod (wrap64 ((wrap64 ((wrap64 (Int.tdiv t396 2147483648))*(Int.tmod t397 2147483648)))+(wrap64 ((Int.tmod t396 2147483648)*(wrap64 (Int.tdiv t397 2147483648)))))) 2147483648)*2147483648)))) ≥ 4611686018427387904 then (if ((decide (a0<0)) != (decide (a1<0)))=true then ((outriggerref02_turn.f (wrap64 ((wrap64 ((wrap64 ((wrap64 (Int.tdiv t396 2147483648))*(wrap64 (Int.tdiv t397 2147483648))))+(wrap64 (Int.tdiv (wrap64 ((wrap64 ((wrap64 (Int.tdiv t396 2147483648))*(Int.tmod t397 2147483648)))+(wrap64 ((Int.tmod t396 2147483648)*(wrap64 (Int.tdiv t397 2147483648)))))) 2147483648))))+1)) (wrap64 ((wrap64 ((wrap64 ((Int.tmod t396 2147483648)*(Int.tmod t397 2147483648)))+(wrap64 ((Int.tmod (wrap64 ((wrap64 ((wrap64 (Int.tdiv t396 2147483648))*(Int.tmod t397 2147483648)))+(wrap64 ((Int.tmod t396 2147483648)*(wrap64 (Int.tdiv t397 2147483648)))))) 2147483648)*2147483648))))-4611686018427387904))).bind fun bt399=>(some (bt399.1,bt399.2))) else (some (wrap64 ((wrap64 ((wrap64 ((wrap64 (Int.tdiv t396 2147483648))*(wrap64 (Int.tdiv t397 2147483648))))+(wrap64 (Int.tdiv (wrap64 ((wrap64 ((wrap64 (Int.tdiv t396 2147483648))*(Int.tmod t397 2147483648)))+(wrap64 ((Int.tmod t396 2147483648)*(wrap64 (Int.tdiv t397 2147483648)))))) 2147483648))))+1),wrap64 ((wrap64 ((wrap64 ((Int.tmod t396 2147483648)*(Int.tmod t397 2147483648)))+(wrap64 ((Int.tmod (wrap64 ((wrap64 ((wrap64 (Int.tdiv t396 2147483648))*(Int.tmod t397 2147483648)))+(wrap64 ((Int.tmod t396 2147483648)*(wrap64 (Int.tdiv t397 2147483648)))))) 2147483648)*2147483648))))-4611686018427387904)))) else (if ((decide (a0<0)) != (decide (a1<0)))=true then ((outriggerref02_turn.f (wrap64 ((wrap64 ((wrap64 (Int.tdiv t396 2147483648))*(wrap64 (Int.tdiv t397 2147483648))))+(wrap64 (Int.tdiv (wrap64 ((wrap64 ((wrap64 (Int.tdiv t396 2147483648))*(Int.tmod t397 2147483648)))+(wrap64 ((Int.tmod t396 2147483648)*(wrap64 (Int.tdiv t397 2147483648)))))) 2147483648)))) (wrap64 ((wrap64 ((Int.tmod t396 2147483648)*(Int.tmod t397 2147483648)))+(wrap64 ((Int.tmod (wrap64 ((wrap64 ((wrap64 (Int.tdiv t396 2147483648))*(Int.tmod t397 2147483648)))+(wrap64 ((Int.tmod t396 2147483648)*(wrap64 (Int.tdiv t397 2147483648)))))) 2147483648)*2147483648))))).bind fun bt401=>(some (bt401.1,bt401.2))) else (some (wrap64 ((wrap64 ((wrap64 (Int.tdiv t396 2147483648))*(wrap64 (Int.tdiv t397 2147483648))))+(wrap64 (Int.tdiv (wrap64 ((wrap64 ((wrap64 (Int.tdiv t396 2147483648))*(Int.tmod t397 2147483648)))+(wrap64 ((Int.tmod t396 2147483648)*(wrap64 (Int.tdiv t397 2147483648)))))) 2147483648))),wrap64 ((wrap64 ((Int.tmod t396 2147483648)*(Int.tmod t397 2147483648)))+(wrap64 ((Int.tmod (wrap64 ((wrap64 ((wrap64 (Int.tdiv t396 2147483648))*(Int.tmod t397 2147483648)))+(wrap64 ((Int.tmod t396 2147483648)*(wrap64 (Int.tdiv t397 2147483648)))))) 2147483648)*2147483648))))))))
set_option maxHeartbeats 8000000 in
set_option maxRecDepth 100000 in
theorem outriggerref02_Mul.calls (a0:Int) (a1:Int) (r1:Int) (r2:Int) (w:World) (h:outriggerref02_Mul.f a0 a1=some (r1,r2)) :
  Calls Try.prog 61 #[.int .i64 a0,.int .i64 a1] w fun e w'=>e=.returned (.agg #[.int .i64 r1,.int .i64 r2])∧Below w.heap.size w w':=by
 have hu50:=Try.underlying50
 have HB:=Aside0.mk (Below.refl w.heap.size w)
 have H:((outriggerref01_Abs.f a0).bind fun t396=>((outriggerref01_Abs.f a1).bind fun t397=>(if (wrap64 ((wrap64 ((Int.tmod t396 2147483648)*(Int.tmod t397 2147483648)))+(wrap64 ((Int.tmod (wrap64 ((wrap64 ((wrap64 (Int.tdiv t396 2147483648))*(Int.tmod t397 2147483648)))+(wrap64 ((Int.tmod t396 2147483648)*(wrap64 (Int.tdiv t397 2147483648)))))) 2147483648)*2147483648)))) ≥ 4611686018427387904 then (if ((decide (a0<0)) != (decide (a1<0)))=true then ((outriggerref02_turn.f (wrap64 ((wrap64 ((wrap64 ((wrap64 (Int.tdiv t396 2147483648))*(wrap64 (Int.tdiv t397 2147483648))))+(wrap64 (Int.tdiv (wrap64 ((wrap64 ((wrap64 (Int.tdiv t396 2147483648))*(Int.tmod t397 2147483648)))+(wrap64 ((Int.tmod t396 2147483648)*(wrap64 (Int.tdiv t397 2147483648)))))) 2147483648))))+1)) (wrap64 ((wrap64 ((wrap64 ((Int.tmod t396 2147483648)*(Int.tmod t397 2147483648)))+(wrap64 ((Int.tmod (wrap64 ((wrap64 ((wrap64 (Int.tdiv t396 2147483648))*(Int.tmod t397 2147483648)))+(wrap64 ((Int.tmod t396 2147483648)*(wrap64 (Int.tdiv t397 2147483648)))))) 2147483648)*2147483648))))-4611686018427387904))).bind fun bt399=>(some (bt399.1,bt399.2))) else (some (wrap64 ((wrap64 ((wrap64 ((wrap64 (Int.tdiv t396 2147483648))*(wrap64 (Int.tdiv t397 2147483648))))+(wrap64 (Int.tdiv (wrap64 ((wrap64 ((wrap64 (Int.tdiv t396 2147483648))*(Int.tmod t397 2147483648)))+(wrap64 ((Int.tmod t396 2147483648)*(wrap64 (Int.tdiv t397 2147483648)))))) 2147483648))))+1),wrap64 ((wrap64 ((wrap64 ((Int.tmod t396 2147483648)*(Int.tmod t397 2147483648)))+(wrap64 ((Int.tmod (wrap64 ((wrap64 ((wrap64 (Int.tdiv t396 2147483648))*(Int.tmod t397 2147483648)))+(wrap64 ((Int.tmod t396 2147483648)*(wrap64 (Int.tdiv t397 2147483648)))))) 2147483648)*2147483648))))-4611686018427387904)))) else (if ((decide (a0<0)) != (decide (a1<0)))=true then ((outriggerref02_turn.f (wrap64 ((wrap64 ((wrap64 (Int.tdiv t396 2147483648))*(wrap64 (Int.tdiv t397 2147483648))))+(wrap64 (Int.tdiv (wrap64 ((wrap64 ((wrap64 (Int.tdiv t396 2147483648))*(Int.tmod t397 2147483648)))+(wrap64 ((Int.tmod t396 2147483648)*(wrap64 (Int.tdiv t397 2147483648)))))) 2147483648)))) (wrap64 ((wrap64 ((Int.tmod t396 2147483648)*(Int.tmod t397 2147483648)))+(wrap64 ((Int.tmod (wrap64 ((wrap64 ((wrap64 (Int.tdiv t396 2147483648))*(Int.tmod t397 2147483648)))+(wrap64 ((Int.tmod t396 2147483648)*(wrap64 (Int.tdiv t397 2147483648)))))) 2147483648)*2147483648))))).bind fun bt401=>(some (bt401.1,bt401.2))) else (some (wrap64 ((wrap64 ((wrap64 (Int.tdiv t396 2147483648))*(wrap64 (Int.tdiv t397 2147483648))))+(wrap64 (Int.tdiv (wrap64 ((wrap64 ((wrap64 (Int.tdiv t396 2147483648))*(Int.tmod t397 2147483648)))+(wrap64 ((Int.tmod t396 2147483648)*(wrap64 (Int.tdiv t397 2147483648)))))) 2147483648))),wrap64 ((wrap64 ((Int.tmod t396 2147483648)*(Int.tmod t397 2147483648)))+(wrap64 ((Int.tmod (wrap64 ((wrap64 ((wrap64 (Int.tdiv t396 2147483648))*(Int.tmod t397 2147483648)))+(wrap64 ((Int.tmod t396 2147483648)*(wrap64 (Int.tdiv t397 2147483648)))))) 2147483648)*2147483648)))))))))=some (r1,r2):=h
 clear h
 replace H:=Option.bind_eq_some_iff.mp H
 obtain⟨t396,A30,H⟩:=H
 replace H:((outriggerref01_Abs.f a1).bind fun t397=>(if (wrap64 ((wrap64 ((Int.tmod t396 2147483648)*(Int.tmod t397 2147483648)))+(wrap64 ((Int.tmod (wrap64 ((wrap64 ((wrap64 (Int.tdiv t396 2147483648))*(Int.tmod t397 2147483648)))+(wrap64 ((Int.tmod t396 2147483648)*(wrap64 (Int.tdiv t397 2147483648)))))) 2147483648)*2147483648)))) ≥ 4611686018427387904 then (if ((decide (a0<0)) != (decide (a1<0)))=true then ((outriggerref02_turn.f (wrap64 ((wrap64 ((wrap64 ((wrap64 (Int.tdiv t396 2147483648))*(wrap64 (Int.tdiv t397 2147483648))))+(wrap64 (Int.tdiv (wrap64 ((wrap64 ((wrap64 (Int.tdiv t396 2147483648))*(Int.tmod t397 2147483648)))+(wrap64 ((Int.tmod t396 2147483648)*(wrap64 (Int.tdiv t397 2147483648)))))) 2147483648))))+1)) (wrap64 ((wrap64 ((wrap64 ((Int.tmod t396 2147483648)*(Int.tmod t397 2147483648)))+(wrap64 ((Int.tmod (wrap64 ((wrap64 ((wrap64 (Int.tdiv t396 2147483648))*(Int.tmod t397 2147483648)))+(wrap64 ((Int.tmod t396 2147483648)*(wrap64 (Int.tdiv t397 2147483648)))))) 2147483648)*2147483648))))-4611686018427387904))).bind fun bt399=>(some (bt399.1,bt399.2))) else (some (wrap64 ((wrap64 ((wrap64 ((wrap64 (Int.tdiv t396 2147483648))*(wrap64 (Int.tdiv t397 2147483648))))+(wrap64 (Int.tdiv (wrap64 ((wrap64 ((wrap64 (Int.tdiv t396 2147483648))*(Int.tmod t397 2147483648)))+(wrap64 ((Int.tmod t396 2147483648)*(wrap64 (Int.tdiv t397 2147483648)))))) 2147483648))))+1),wrap64 ((wrap64 ((wrap64 ((Int.tmod t396 2147483648)*(Int.tmod t397 2147483648)))+(wrap64 ((Int.tmod (wrap64 ((wrap64 ((wrap64 (Int.tdiv t396 2147483648))*(Int.tmod t397 2147483648)))+(wrap64 ((Int.tmod t396 2147483648)*(wrap64 (Int.tdiv t397 2147483648)))))) 2147483648)*2147483648))))-4611686018427387904)))) else (if ((decide (a0<0)) != (decide (a1<0)))=true then ((outriggerref02_turn.f (wrap64 ((wrap64 ((wrap64 (Int.tdiv t396 2147483648))*(wrap64 (Int.tdiv t397 2147483648))))+(wrap64 (Int.tdiv (wrap64 ((wrap64 ((wrap64 (Int.tdiv t396 2147483648))*(Int.tmod t397 2147483648)))+(wrap64 ((Int.tmod t396 2147483648)*(wrap64 (Int.tdiv t397 2147483648)))))) 2147483648)))) (wrap64 ((wrap64 ((Int.tmod t396 2147483648)*(Int.tmod t397 2147483648)))+(wrap64 ((Int.tmod (wrap64 ((wrap64 ((wrap64 (Int.tdiv t396 2147483648))*(Int.tmod t397 2147483648)))+(wrap64 ((Int.tmod t396 2147483648)*(wrap64 (Int.tdiv t397 2147483648)))))) 2147483648)*2147483648))))).bind fun bt401=>(some (bt401.1,bt401.2))) else (some (wrap64 ((wrap64 ((wrap64 (Int.tdiv t396 2147483648))*(wrap64 (Int.tdiv t397 2147483648))))+(wrap64 (Int.tdiv (wrap64 ((wrap64 ((wrap64 (Int.tdiv t396 2147483648))*(Int.tmod t397 2147483648)))+(wrap64 ((Int.tmod t396 2147483648)*(wrap64 (Int.tdiv t397 2147483648)))))) 2147483648))),wrap64 ((wrap64 ((Int.tmod t396 2147483648)*(Int.tmod t397 2147483648)))+(wrap64 ((Int.tmod (wrap64 ((wrap64 ((wrap64 (Int.tdiv t396 2147483648))*(Int.tmod t397 2147483648)))+(wrap64 ((Int.tmod t396 2147483648)*(wrap64 (Int.tdiv t397 2147483648)))))) 2147483648)*2147483648))))))))=some (r1,r2):=H
 have A3:=Aside0.mk A30
 clear A30
 replace H:=Option.bind_eq_some_iff.mp H
 obtain⟨t397,A40,H⟩:=H
 replace H:(if (wrap64 ((wrap64 ((Int.tmod t396 2147483648)*(Int.tmod t397 2147483648)))+(wrap64 ((Int.tmod (wrap64 ((wrap64 ((wrap64 (Int.tdiv t396 2147483648))*(Int.tmod t397 2147483648)))+(wrap64 ((Int.tmod t396 2147483648)*(wrap64 (Int.tdiv t397 2147483648)))))) 2147483648)*2147483648)))) ≥ 4611686018427387904 then (if ((decide (a0<0)) != (decide (a1<0)))=true then ((outriggerref02_turn.f (wrap64 ((wrap64 ((wrap64 ((wrap64 (Int.tdiv t396 2147483648))*(wrap64 (Int.tdiv t397 2147483648))))+(wrap64 (Int.tdiv (wrap64 ((wrap64 ((wrap64 (Int.tdiv t396 2147483648))*(Int.tmod t397 2147483648)))+(wrap64 ((Int.tmod t396 2147483648)*(wrap64 (Int.tdiv t397 2147483648)))))) 2147483648))))+1)) (wrap64 ((wrap64 ((wrap64 ((Int.tmod t396 2147483648)*(Int.tmod t397 2147483648)))+(wrap64 ((Int.tmod (wrap64 ((wrap64 ((wrap64 (Int.tdiv t396 2147483648))*(Int.tmod t397 2147483648)))+(wrap64 ((Int.tmod t396 2147483648)*(wrap64 (Int.tdiv t397 2147483648)))))) 2147483648)*2147483648))))-4611686018427387904))).bind fun bt399=>(some (bt399.1,bt399.2))) else (some (wrap64 ((wrap64 ((wrap64 ((wrap64 (Int.tdiv t396 2147483648))*(wrap64 (Int.tdiv t397 2147483648))))+(wrap64 (Int.tdiv (wrap64 ((wrap64 ((wrap64 (Int.tdiv t396 2147483648))*(Int.tmod t397 2147483648)))+(wrap64 ((Int.tmod t396 2147483648)*(wrap64 (Int.tdiv t397 2147483648)))))) 2147483648))))+1),wrap64 ((wrap64 ((wrap64 ((Int.tmod t396 2147483648)*(Int.tmod t397 2147483648)))+(wrap64 ((Int.tmod (wrap64 ((wrap64 ((wrap64 (Int.tdiv t396 2147483648))*(Int.tmod t397 2147483648)))+(wrap64 ((Int.tmod t396 2147483648)*(wrap64 (Int.tdiv t397 2147483648)))))) 2147483648)*2147483648))))-4611686018427387904)))) else (if ((decide (a0<0)) != (decide (a1<0)))=true then ((outriggerref02_turn.f (wrap64 ((wrap64 ((wrap64 (Int.tdiv t396 2147483648))*(wrap64 (Int.tdiv t397 2147483648))))+(wrap64 (Int.tdiv (wrap64 ((wrap64 ((wrap64 (Int.tdiv t396 2147483648))*(Int.tmod t397 2147483648)))+(wrap64 ((Int.tmod t396 2147483648)*(wrap64 (Int.tdiv t397 2147483648)))))) 2147483648)))) (wrap64 ((wrap64 ((Int.tmod t396 2147483648)*(Int.tmod t397 2147483648)))+(wrap64 ((Int.tmod (wrap64 ((wrap64 ((wrap64 (Int.tdiv t396 2147483648))*(Int.tmod t397 2147483648)))+(wrap64 ((Int.tmod t396 2147483648)*(wrap64 (Int.tdiv t397 2147483648)))))) 2147483648)*2147483648))))).bind fun bt401=>(some (bt401.1,bt401.2))) else (some (wrap64 ((wrap64 ((wrap64 (Int.tdiv t396 2147483648))*(wrap64 (Int.tdiv t397 2147483648))))+(wrap64 (Int.tdiv (wrap64 ((wrap64 ((wrap64 (Int.tdiv t396 2147483648))*(Int.tmod t397 2147483648)))+(wrap64 ((Int.tmod t396 2147483648)*(wrap64 (Int.tdiv t397 2147483648)))))) 2147483648))),wrap64 ((wrap64 ((Int.tmod t396 2147483648)*(Int.tmod t397 2147483648)))+(wrap64 ((Int.tmod (wrap64 ((wrap64 ((wrap64 (Int.tdiv t396 2147483648))*(Int.tmod t397 2147483648)))+(wrap64 ((Int.tmod t396 2147483648)*(wrap64 (Int.tdiv t397 2147483648)))))) 2147483648)*2147483648)))))))=some (r1,r2):=H
 have A4:=Aside0.mk A40
 clear A40
 by_cases c5:(wrap64 ((wrap64 ((Int.tmod t396 2147483648)*(Int.tmod t397 2147483648)))+(wrap64 ((Int.tmod (wrap64 ((wrap64 ((wrap64 (Int.tdiv t396 2147483648))*(Int.tmod t397 2147483648)))+(wrap64 ((Int.tmod t396 2147483648)*(wrap64 (Int.tdiv t397 2147483648)))))) 2147483648)*2147483648)))) ≥ 4611686018427387904
 ·rw [if_pos c5] at H
  have c5b0:decide (4611686018427387904≤(wrap64 ((wrap64 ((Int.tmod t396 2147483648)*(Int.tmod t397 2147483648)))+(wrap64 ((Int.tmod (wrap64 ((wrap64 ((wrap64 (Int.tdiv t396 2147483648))*(Int.tmod t397 2147483648)))+(wrap64 ((Int.tmod t396 2147483648)*(wrap64 (Int.tdiv t397 2147483648)))))) 2147483648)*2147483648)))))=true:=decide_eq_true c5
  clear c5
  by_cases c6:((decide (a0<0)) != (decide (a1<0)))=true
  ·rw [if_pos c6] at H
   have c6b0:((decide (a0<0)) != (decide (a1<0)))=true:=c6
   (try (have c6b1:decide ((decide (a0<0))=(decide (a1<0)))=false:=by simpa using c6))
   (try (have c6b2:((decide (a0<0)) == (decide (a1<0)))=false:=by simpa using c6))
   (try (have c6b3:¬((decide (a0<0))=(decide (a1<0))):=by simpa using c6))
   clear c6
   replace H:=Option.bind_eq_some_iff.mp H
   obtain⟨⟨t399,t400⟩,A70,H⟩:=H
   replace H:(some (t399,t400))=some (r1,r2):=H
   have A7:=Aside0.mk A70
   clear A70
   simp only [Option.some.injEq,Prod.mk.injEq] at H
   obtain⟨rfl,rfl⟩:=H
   have tok1:True:=trivial
   go_enter Try.func61,Try.ntmps61
   go_wp2_with (first|((with_reducible refine gate_dst (N:=64) rfl ?_);have _t:=tok1;clear tok1 _t;refine gen_world (fun W=>W.heap[gb398]? = some (.cells #[.int .i64 (wrap64 ((wrap64 ((wrap64 ((wrap64 (Int.tdiv t396 2147483648))*(wrap64 (Int.tdiv t397 2147483648))))+(wrap64 (Int.tdiv (wrap64 ((wrap64 ((wrap64 (Int.tdiv t396 2147483648))*(Int.tmod t397 2147483648)))+(wrap64 ((Int.tmod t396 2147483648)*(wrap64 (Int.tdiv t397 2147483648)))))) 2147483648))))+1)),.int .i64 (wrap64 ((wrap64 ((wrap64 ((Int.tmod t396 2147483648)*(Int.tmod t397 2147483648)))+(wrap64 ((Int.tmod (wrap64 ((wrap64 ((wrap64 (Int.tdiv t396 2147483648))*(Int.tmod t397 2147483648)))+(wrap64 ((Int.tmod t396 2147483648)*(wrap64 (Int.tdiv t397 2147483648)))))) 2147483648)*2147483648))))-4611686018427387904))] 50 (0,0))∧W.heap[gb395]? = some (.cells #[.int .i64 0,.int .i64 0] 50 (0,0))∧Below w.heap.size w W) ⟨blk_put (blk_put (blk_put (blk_put BK398.out 0 _ rfl) 1 _ rfl) 1 _ rfl) 0 _ rfl,blk_far (blk_far (blk_far (blk_far BK395.out NB395_398.out _) NB395_398.out _) NB395_398.out _) NB395_398.out _,(by repeat (first|exact HB.out|refine below_set ?_ GE398.out))⟩ ?_;rintro wz ⟨m212,m209,mB⟩;clear BK395 BK398 HB;have BK395:=Aside0.mk m209;have BK398:=Aside0.mk m212;have HB:=Aside0.mk mB;clear m209 m212 mB;have hz0:wz.cell? ⟨gb398,0,none⟩=some (.int .i64 (wrap64 ((wrap64 ((wrap64 ((wrap64 (Int.tdiv t396 2147483648))*(wrap64 (Int.tdiv t397 2147483648))))+(wrap64 (Int.tdiv (wrap64 ((wrap64 ((wrap64 (Int.tdiv t396 2147483648))*(Int.tmod t397 2147483648)))+(wrap64 ((Int.tmod t396 2147483648)*(wrap64 (Int.tdiv t397 2147483648)))))) 2147483648))))+1))):=(blk_cell BK398.out 0).trans rfl;have hz1:wz.cell? ⟨gb398,1,none⟩=some (.int .i64 (wrap64 ((wrap64 ((wrap64 ((Int.tmod t396 2147483648)*(Int.tmod t397 2147483648)))+(wrap64 ((Int.tmod (wrap64 ((wrap64 ((wrap64 (Int.tdiv t396 2147483648))*(Int.tmod t397 2147483648)))+(wrap64 ((Int.tmod t396 2147483648)*(wrap64 (Int.tdiv t397 2147483648)))))) 2147483648)*2147483648))))-4611686018427387904))):=(blk_cell BK398.out 1).trans rfl;have hz2:=blk_frozen BK395.out 0;have hz3:=blk_frozen BK395.out 1;have hz4:wz.cell? ⟨gb395,0,none⟩=some (.int .i64 0):=(blk_cell BK395.out 0).trans rfl;have hz5:wz.cell? ⟨gb395,1,none⟩=some (.int .i64 0):=(blk_cell BK395.out 1).trans rfl)|((with_reducible refine gate_dst (N:=4) rfl ?_);refine box_event ?hg (N:=4) ?hd (cs:=#[.int .i64 0,.int .i64 0]) (t:=50) ?hr ?_;(case hd=>rfl);(case hg=>rfl);(case hr=>first|(go_simp;done)|(go_simp;rfl));intro gb395 hg w8 hbox hb;have n0_:=Aside0.mk (below_step (by first|with_reducible exact HB.out|exact bl HB) hb);have n1_:=Aside0.mk (hbox);have n2_:=Aside0.mk ((by rw [hg];exact(below_size (by first|with_reducible exact HB.out|exact bl HB)):w.heap.size≤gb395));have n3_:=Aside0.mk ((by rw [hg];exact(below_size (by first|with_reducible exact HB.out|exact bl HB)):w.heap.size≤gb395));clear HB;have HB:=n0_;have BK395:=n1_;have GW395:=n2_;have GE395:=n3_;clear n0_ n1_ n2_ n3_;clear hb hbox hg)|((with_reducible refine gate_callee (f:=78) rfl ?_);refine goesL_ (some 15) rfl rfl Try.func78 (by kernel_rfl) rfl #[.int .i64 a0] rfl (by exact mA _ _) ?_;(with_reducible refine(outriggerref01_Abs.calls a0 t396 _ A3.out).mono ?_);rintro e w9 ⟨rfl,hb⟩;refine⟨_,rfl,?_⟩;have n0_:=Aside0.mk (blk_below (bk BK395.out) hb);have n1_:=Aside0.mk (below_step (by repeat (first|with_reducible exact HB.out|exact bl HB|refine bs ?_ GE395)) hb);clear BK395;clear HB;have BK395:=n0_;have HB:=n1_;clear n0_ n1_;(try clear hb);(try clear hb2);(try clear hk);(try clear hi))|((with_reducible refine gate_callee (f:=78) rfl ?_);refine goesL_ (some 17) rfl rfl Try.func78 (by kernel_rfl) rfl #[.int .i64 a1] rfl (by exact mA _ _) ?_;(with_reducible refine(outriggerref01_Abs.calls a1 t397 _ A4.out).mono ?_);rintro e w10 ⟨rfl,hb⟩;refine⟨_,rfl,?_⟩;have n0_:=Aside0.mk (blk_below (bk BK395.out) hb);have n1_:=Aside0.mk (below_step (by repeat (first|with_reducible exact HB.out|exact bl HB|refine bs ?_ GE395)) hb);clear BK395;clear HB;have BK395:=n0_;have HB:=n1_;clear n0_ n1_;(try clear hb);(try clear hb2);(try clear hk);(try clear hi))|((with_reducible refine gate_dst (N:=13) rfl ?_);refine box_event ?hg (N:=13) ?hd (cs:=#[.int .i64 0,.int .i64 0]) (t:=50) ?hr ?_;(case hd=>rfl);(case hg=>rfl);(case hr=>first|(go_simp;done)|(go_simp;rfl));intro gb398 hg w11 hbox hb;have n0_:=Aside0.mk (blk_below (bk BK395.out) hb);have n1_:=Aside0.mk (below_step (by repeat (first|with_reducible exact HB.out|exact bl HB|refine bs ?_ GE395)) hb);have n2_:=Aside0.mk (hbox);have n3_:=Aside0.mk ((by rw [hg];exact(below_size (by repeat (first|with_reducible exact HB.out|exact bl HB|refine bs ?_ GE395))):w.heap.size≤gb398));have n4_:=Aside0.mk ((by rw [hg];exact(below_size (by repeat (first|with_reducible exact HB.out|exact bl HB|refine bs ?_ GE395))):w.heap.size≤gb398));have n5_:=Aside0.mk ((by rw [hg];exact Nat.ne_of_lt (blk_lt (bk BK395.out)):gb395≠gb398));have n6_:=Aside0.mk ((by rw [hg];exact Nat.ne_of_gt (blk_lt (bk BK395.out)):gb398≠gb395));clear BK395;clear HB;have BK395:=n0_;have HB:=n1_;have BK398:=n2_;have GW398:=n3_;have GE398:=n4_;have NB395_398:=n5_;have NB398_395:=n6_;clear n0_ n1_ n2_ n3_ n4_ n5_ n6_;clear hb hbox hg;have hnb12:=NB398_395.out;have hnc12:=NB395_398.out;have hcz13_0:w11.cell? ⟨gb398,0,none⟩=some (.int .i64 0):=(blk_cell BK398.out 0).trans rfl;have hcz13_1:w11.cell? ⟨gb398,1,none⟩=some (.int .i64 0):=(blk_cell BK398.out 1).trans rfl;have hfz13_0:=blk_frozen BK398.out 0;have hfz13_1:=blk_frozen BK398.out 1)|((with_reducible refine gate_callee (f:=79) rfl ?_);refine goesL_ (some 65) rfl rfl Try.func79 (by kernel_rfl) rfl #[.agg #[.int .i64 (wrap64 ((wrap64 ((wrap64 ((wrap64 (Int.tdiv t396 2147483648))*(wrap64 (Int.tdiv t397 2147483648))))+(wrap64 (Int.tdiv (wrap64 ((wrap64 ((wrap64 (Int.tdiv t396 2147483648))*(Int.tmod t397 2147483648)))+(wrap64 ((Int.tmod t396 2147483648)*(wrap64 (Int.tdiv t397 2147483648)))))) 2147483648))))+1)),.int .i64 (wrap64 ((wrap64 ((wrap64 ((Int.tmod t396 2147483648)*(Int.tmod t397 2147483648)))+(wrap64 ((Int.tmod (wrap64 ((wrap64 ((wrap64 (Int.tdiv t396 2147483648))*(Int.tmod t397 2147483648)))+(wrap64 ((Int.tmod t396 2147483648)*(wrap64 (Int.tdiv t397 2147483648)))))) 2147483648)*2147483648))))-4611686018427387904))]] rfl (by exact mA _ _) ?_;(with_reducible refine(outriggerref02_turn.calls (wrap64 ((wrap64 ((wrap64 ((wrap64 (Int.tdiv t396 2147483648))*(wrap64 (Int.tdiv t397 2147483648))))+(wrap64 (Int.tdiv (wrap64 ((wrap64 ((wrap64 (Int.tdiv t396 2147483648))*(Int.tmod t397 2147483648)))+(wrap64 ((Int.tmod t396 2147483648)*(wrap64 (Int.tdiv t397 2147483648)))))) 2147483648))))+1)) (wrap64 ((wrap64 ((wrap64 ((Int.tmod t396 2147483648)*(Int.tmod t397 2147483648)))+(wrap64 ((Int.tmod (wrap64 ((wrap64 ((wrap64 (Int.tdiv t396 2147483648))*(Int.tmod t397 2147483648)))+(wrap64 ((Int.tmod t396 2147483648)*(wrap64 (Int.tdiv t397 2147483648)))))) 2147483648)*2147483648))))-4611686018427387904)) t399 t400 _ A7.out).mono ?_);rintro e w14 ⟨rfl,hb⟩;refine⟨_,rfl,?_⟩;have n0_:=Aside0.mk (blk_below (bk BK395.out) hb);have n1_:=Aside0.mk (blk_below (g:=gb398) (o:=.cells #[.int .i64 (wrap64 ((wrap64 ((wrap64 ((wrap64 (Int.tdiv t396 2147483648))*(wrap64 (Int.tdiv t397 2147483648))))+(wrap64 (Int.tdiv (wrap64 ((wrap64 ((wrap64 (Int.tdiv t396 2147483648))*(Int.tmod t397 2147483648)))+(wrap64 ((Int.tmod t396 2147483648)*(wrap64 (Int.tdiv t397 2147483648)))))) 2147483648))))+1)),.int .i64 (wrap64 ((wrap64 ((wrap64 ((Int.tmod t396 2147483648)*(Int.tmod t397 2147483648)))+(wrap64 ((Int.tmod (wrap64 ((wrap64 ((wrap64 (Int.tdiv t396 2147483648))*(Int.tmod t397 2147483648)))+(wrap64 ((Int.tmod t396 2147483648)*(wrap64 (Int.tdiv t397 2147483648)))))) 2147483648)*2147483648))))-4611686018427387904))] 50 (0,0)) (bk BK398.out) hb);have n2_:=Aside0.mk (below_step (by repeat (first|with_reducible exact HB.out|exact bl HB|refine bs ?_ GE395|refine bs ?_ GE398)) hb);clear BK395;clear BK398;clear HB;have BK395:=n0_;have BK398:=n1_;have HB:=n2_;clear n0_ n1_ n2_;(try clear hb);(try clear hb2);(try clear hk);(try clear hi);have hcz15_0:w14.cell? ⟨gb395,0,none⟩=some (.int .i64 0):=(blk_cell BK395.out 0).trans rfl;have hcz15_1:w14.cell? ⟨gb395,1,none⟩=some (.int .i64 0):=(blk_cell BK395.out 1).trans rfl;have hfz15_0:=blk_frozen BK395.out 0;have hfz15_1:=blk_frozen BK395.out 1))
   refine bodyPost_ret (results_cell_row rfl _ _ gb395 50 #[.int .i64 t399,.int .i64 t400] (0,0) _ rfl (by try refine bk ?_;refine blk_put (cs:=#[.int .i64 t399,.int .i64 0]) ?_ 1 _ rfl;try refine bk ?_;refine blk_put (cs:=#[.int .i64 0,.int .i64 0]) ?_ 0 _ rfl;try refine bk ?_;exact BK395.out) Try.underlying50 rfl (by kernel_rfl)) rfl ?_
   exact⟨by first|rfl|(simp [errW_none,errW_some]<;>rfl)|(simp [*,errW_none,errW_some]<;>rfl),by repeat (first|with_reducible exact HB.out|exact bl HB|refine bs ?_ GE395|refine bs ?_ GE398)⟩
  ·rw [if_neg c6] at H
   have c6b0:((decide (a0<0)) != (decide (a1<0)))=false:=by simpa using c6
   (try (have c6b1:decide ((decide (a0<0))=(decide (a1<0)))=true:=by simpa using c6))
   (try (have c6b2:((decide (a0<0)) == (decide (a1<0)))=true:=by simpa using c6))
   clear c6
   simp only [Option.some.injEq,Prod.mk.injEq] at H
   obtain⟨rfl,rfl⟩:=H
   have tok1:True:=trivial
   go_enter Try.func61,Try.ntmps61
   go_wp2_with (first|((with_reducible refine gate_dst (N:=66) rfl ?_);have _t:=tok1;clear tok1 _t;refine gen_world (fun W=>W.heap[gb398]? = some (.cells #[.int .i64 (wrap64 ((wrap64 ((wrap64 ((wrap64 (Int.tdiv t396 2147483648))*(wrap64 (Int.tdiv t397 2147483648))))+(wrap64 (Int.tdiv (wrap64 ((wrap64 ((wrap64 (Int.tdiv t396 2147483648))*(Int.tmod t397 2147483648)))+(wrap64 ((Int.tmod t396 2147483648)*(wrap64 (Int.tdiv t397 2147483648)))))) 2147483648))))+1)),.int .i64 (wrap64 ((wrap64 ((wrap64 ((Int.tmod t396 2147483648)*(Int.tmod t397 2147483648)))+(wrap64 ((Int.tmod (wrap64 ((wrap64 ((wrap64 (Int.tdiv t396 2147483648))*(Int.tmod t397 2147483648)))+(wrap64 ((Int.tmod t396 2147483648)*(wrap64 (Int.tdiv t397 2147483648)))))) 2147483648)*2147483648))))-4611686018427387904))] 50 (0,0))∧W.heap[gb395]? = some (.cells #[.int .i64 0,.int .i64 0] 50 (0,0))∧Below w.heap.size w W) ⟨blk_put (blk_put (blk_put (blk_put BK398.out 0 _ rfl) 1 _ rfl) 1 _ rfl) 0 _ rfl,blk_far (blk_far (blk_far (blk_far BK395.out NB395_398.out _) NB395_398.out _) NB395_398.out _) NB395_398.out _,(by repeat (first|exact HB.out|refine below_set ?_ GE398.out))⟩ ?_;rintro wz ⟨m212,m209,mB⟩;clear BK395 BK398 HB;have BK395:=Aside0.mk m209;have BK398:=Aside0.mk m212;have HB:=Aside0.mk mB;clear m209 m212 mB;have hz0:wz.cell? ⟨gb398,0,none⟩=some (.int .i64 (wrap64 ((wrap64 ((wrap64 ((wrap64 (Int.tdiv t396 2147483648))*(wrap64 (Int.tdiv t397 2147483648))))+(wrap64 (Int.tdiv (wrap64 ((wrap64 ((wrap64 (Int.tdiv t396 2147483648))*(Int.tmod t397 2147483648)))+(wrap64 ((Int.tmod t396 2147483648)*(wrap64 (Int.tdiv t397 2147483648)))))) 2147483648))))+1))):=(blk_cell BK398.out 0).trans rfl;have hz1:wz.cell? ⟨gb398,1,none⟩=some (.int .i64 (wrap64 ((wrap64 ((wrap64 ((Int.tmod t396 2147483648)*(Int.tmod t397 2147483648)))+(wrap64 ((Int.tmod (wrap64 ((wrap64 ((wrap64 (Int.tdiv t396 2147483648))*(Int.tmod t397 2147483648)))+(wrap64 ((Int.tmod t396 2147483648)*(wrap64 (Int.tdiv t397 2147483648)))))) 2147483648)*2147483648))))-4611686018427387904))):=(blk_cell BK398.out 1).trans rfl;have hz2:=blk_frozen BK395.out 0;have hz3:=blk_frozen BK395.out 1;have hz4:wz.cell? ⟨gb395,0,none⟩=some (.int .i64 0):=(blk_cell BK395.out 0).trans rfl;have hz5:wz.cell? ⟨gb395,1,none⟩=some (.int .i64 0):=(blk_cell BK395.out 1).trans rfl)|((with_reducible refine gate_dst (N:=4) rfl ?_);refine box_event ?hg (N:=4) ?hd (cs:=#[.int .i64 0,.int .i64 0]) (t:=50) ?hr ?_;(case hd=>rfl);(case hg=>rfl);(case hr=>first|(go_simp;done)|(go_simp;rfl));intro gb395 hg w16 hbox hb;have n0_:=Aside0.mk (below_step (by first|with_reducible exact HB.out|exact bl HB) hb);have n1_:=Aside0.mk (hbox);have n2_:=Aside0.mk ((by rw [hg];exact(below_size (by first|with_reducible exact HB.out|exact bl HB)):w.heap.size≤gb395));have n3_:=Aside0.mk ((by rw [hg];exact(below_size (by first|with_reducible exact HB.out|exact bl HB)):w.heap.size≤gb395));clear HB;have HB:=n0_;have BK395:=n1_;have GW395:=n2_;have GE395:=n3_;clear n0_ n1_ n2_ n3_;clear hb hbox hg)|((with_reducible refine gate_callee (f:=78) rfl ?_);refine goesL_ (some 15) rfl rfl Try.func78 (by kernel_rfl) rfl #[.int .i64 a0] rfl (by exact mA _ _) ?_;(with_reducible refine(outriggerref01_Abs.calls a0 t396 _ A3.out).mono ?_);rintro e w17 ⟨rfl,hb⟩;refine⟨_,rfl,?_⟩;have n0_:=Aside0.mk (blk_below (bk BK395.out) hb);have n1_:=Aside0.mk (below_step (by repeat (first|with_reducible exact HB.out|exact bl HB|refine bs ?_ GE395)) hb);clear BK395;clear HB;have BK395:=n0_;have HB:=n1_;clear n0_ n1_;(try clear hb);(try clear hb2);(try clear hk);(try clear hi))|((with_reducible refine gate_callee (f:=78) rfl ?_);refine goesL_ (some 17) rfl rfl Try.func78 (by kernel_rfl) rfl #[.int .i64 a1] rfl (by exact mA _ _) ?_;(with_reducible refine(outriggerref01_Abs.calls a1 t397 _ A4.out).mono ?_);rintro e w18 ⟨rfl,hb⟩;refine⟨_,rfl,?_⟩;have n0_:=Aside0.mk (blk_below (bk BK395.out) hb);have n1_:=Aside0.mk (below_step (by repeat (first|with_reducible exact HB.out|exact bl HB|refine bs ?_ GE395)) hb);clear BK395;clear HB;have BK395:=n0_;have HB:=n1_;clear n0_ n1_;(try clear hb);(try clear hb2);(try clear hk);(try clear hi))|((with_reducible refine gate_dst (N:=13) rfl ?_);refine box_event ?hg (N:=13) ?hd (cs:=#[.int .i64 0,.int .i64 0]) (t:=50) ?hr ?_;(case hd=>rfl);(case hg=>rfl);(case hr=>first|(go_simp;done)|(go_simp;rfl));intro gb398 hg w19 hbox hb;have n0_:=Aside0.mk (blk_below (bk BK395.out) hb);have n1_:=Aside0.mk (below_step (by repeat (first|with_reducible exact HB.out|exact bl HB|refine bs ?_ GE395)) hb);have n2_:=Aside0.mk (hbox);have n3_:=Aside0.mk ((by rw [hg];exact(below_size (by repeat (first|with_reducible exact HB.out|exact bl HB|refine bs ?_ GE395))):w.heap.size≤gb398));have n4_:=Aside0.mk ((by rw [hg];exact(below_size (by repeat (first|with_reducible exact HB.out|exact bl HB|refine bs ?_ GE395))):w.heap.size≤gb398));have n5_:=Aside0.mk ((by rw [hg];exact Nat.ne_of_lt (blk_lt (bk BK395.out)):gb395≠gb398));have n6_:=Aside0.mk ((by rw [hg];exact Nat.ne_of_gt (blk_lt (bk BK395.out)):gb398≠gb395));clear BK395;clear HB;have BK395:=n0_;have HB:=n1_;have BK398:=n2_;have GW398:=n3_;have GE398:=n4_;have NB395_398:=n5_;have NB398_395:=n6_;clear n0_ n1_ n2_ n3_ n4_ n5_ n6_;clear hb hbox hg;have hnb20:=NB398_395.out;have hnc20:=NB395_398.out;have hcz21_0:w19.cell? ⟨gb398,0,none⟩=some (.int .i64 0):=(blk_cell BK398.out 0).trans rfl;have hcz21_1:w19.cell? ⟨gb398,1,none⟩=some (.int .i64 0):=(blk_cell BK398.out 1).trans rfl;have hfz21_0:=blk_frozen BK398.out 0;have hfz21_1:=blk_frozen BK398.out 1;have hcz22_0:w19.cell? ⟨gb395,0,none⟩=some (.int .i64 0):=(blk_cell BK395.out 0).trans rfl;have hcz22_1:w19.cell? ⟨gb395,1,none⟩=some (.int .i64 0):=(blk_cell BK395.out 1).trans rfl;have hfz22_0:=blk_frozen BK395.out 0;have hfz22_1:=blk_frozen BK395.out 1))
   refine bodyPost_ret (results_cell_row rfl _ _ gb395 50 #[.int .i64 (wrap64 ((wrap64 ((wrap64 ((wrap64 (Int.tdiv t396 2147483648))*(wrap64 (Int.tdiv t397 2147483648))))+(wrap64 (Int.tdiv (wrap64 ((wrap64 ((wrap64 (Int.tdiv t396 2147483648))*(Int.tmod t397 2147483648)))+(wrap64 ((Int.tmod t396 2147483648)*(wrap64 (Int.tdiv t397 2147483648)))))) 2147483648))))+1)),.int .i64 (wrap64 ((wrap64 ((wrap64 ((Int.tmod t396 2147483648)*(Int.tmod t397 2147483648)))+(wrap64 ((Int.tmod (wrap64 ((wrap64 ((wrap64 (Int.tdiv t396 2147483648))*(Int.tmod t397 2147483648)))+(wrap64 ((Int.tmod t396 2147483648)*(wrap64 (Int.tdiv t397 2147483648)))))) 2147483648)*2147483648))))-4611686018427387904))] (0,0) _ rfl (by try refine bk ?_;refine blk_put (cs:=#[.int .i64 (wrap64 ((wrap64 ((wrap64 ((wrap64 (Int.tdiv t396 2147483648))*(wrap64 (Int.tdiv t397 2147483648))))+(wrap64 (Int.tdiv (wrap64 ((wrap64 ((wrap64 (Int.tdiv t396 2147483648))*(Int.tmod t397 2147483648)))+(wrap64 ((Int.tmod t396 2147483648)*(wrap64 (Int.tdiv t397 2147483648)))))) 2147483648))))+1)),.int .i64 0]) ?_ 1 _ rfl;try refine bk ?_;refine blk_put (cs:=#[.int .i64 0,.int .i64 0]) ?_ 0 _ rfl;try refine bk ?_;exact BK395.out) Try.underlying50 rfl (by kernel_rfl)) rfl ?_
   exact⟨by first|rfl|(simp [errW_none,errW_some]<;>rfl)|(simp [*,errW_none,errW_some]<;>rfl),by repeat (first|with_reducible exact HB.out|exact bl HB|refine bs ?_ GE395|refine bs ?_ GE398)⟩
 ·rw [if_neg c5] at H
  have c5b0:decide (4611686018427387904≤(wrap64 ((wrap64 ((Int.tmod t396 2147483648)*(Int.tmod t397 2147483648)))+(wrap64 ((Int.tmod (wrap64 ((wrap64 ((wrap64 (Int.tdiv t396 2147483648))*(Int.tmod t397 2147483648)))+(wrap64 ((Int.tmod t396 2147483648)*(wrap64 (Int.tdiv t397 2147483648)))))) 2147483648)*2147483648)))))=false:=decide_eq_false c5
  clear c5
  by_cases c23:((decide (a0<0)) != (decide (a1<0)))=true
  ·rw [if_pos c23] at H
   have c23b0:((decide (a0<0)) != (decide (a1<0)))=true:=c23
   (try (have c23b1:decide ((decide (a0<0))=(decide (a1<0)))=false:=by simpa using c23))
   (try (have c23b2:((decide (a0<0)) == (decide (a1<0)))=false:=by simpa using c23))
   (try (have c23b3:¬((decide (a0<0))=(decide (a1<0))):=by simpa using c23))
   clear c23
   replace H:=Option.bind_eq_some_iff.mp H
   obtain⟨⟨t401,t402⟩,A240,H⟩:=H
   replace H:(some (t401,t402))=some (r1,r2):=H
   have A24:=Aside0.mk A240
   clear A240
   simp only [Option.some.injEq,Prod.mk.injEq] at H
   obtain⟨rfl,rfl⟩:=H
   go_enter Try.func61,Try.ntmps61
   go_wp2_with (first|((with_reducible refine gate_dst (N:=4) rfl ?_);refine box_event ?hg (N:=4) ?hd (cs:=#[.int .i64 0,.int .i64 0]) (t:=50) ?hr ?_;(case hd=>rfl);(case hg=>rfl);(case hr=>first|(go_simp;done)|(go_simp;rfl));intro gb395 hg w25 hbox hb;have n0_:=Aside0.mk (below_step (by first|with_reducible exact HB.out|exact bl HB) hb);have n1_:=Aside0.mk (hbox);have n2_:=Aside0.mk ((by rw [hg];exact(below_size (by first|with_reducible exact HB.out|exact bl HB)):w.heap.size≤gb395));have n3_:=Aside0.mk ((by rw [hg];exact(below_size (by first|with_reducible exact HB.out|exact bl HB)):w.heap.size≤gb395));clear HB;have HB:=n0_;have BK395:=n1_;have GW395:=n2_;have GE395:=n3_;clear n0_ n1_ n2_ n3_;clear hb hbox hg)|((with_reducible refine gate_callee (f:=78) rfl ?_);refine goesL_ (some 15) rfl rfl Try.func78 (by kernel_rfl) rfl #[.int .i64 a0] rfl (by exact mA _ _) ?_;(with_reducible refine(outriggerref01_Abs.calls a0 t396 _ A3.out).mono ?_);rintro e w26 ⟨rfl,hb⟩;refine⟨_,rfl,?_⟩;have n0_:=Aside0.mk (blk_below (bk BK395.out) hb);have n1_:=Aside0.mk (below_step (by repeat (first|with_reducible exact HB.out|exact bl HB|refine bs ?_ GE395)) hb);clear BK395;clear HB;have BK395:=n0_;have HB:=n1_;clear n0_ n1_;(try clear hb);(try clear hb2);(try clear hk);(try clear hi))|((with_reducible refine gate_callee (f:=78) rfl ?_);refine goesL_ (some 17) rfl rfl Try.func78 (by kernel_rfl) rfl #[.int .i64 a1] rfl (by exact mA _ _) ?_;(with_reducible refine(outriggerref01_Abs.calls a1 t397 _ A4.out).mono ?_);rintro e w27 ⟨rfl,hb⟩;refine⟨_,rfl,?_⟩;have n0_:=Aside0.mk (blk_below (bk BK395.out) hb);have n1_:=Aside0.mk (below_step (by repeat (first|with_reducible exact HB.out|exact bl HB|refine bs ?_ GE395)) hb);clear BK395;clear HB;have BK395:=n0_;have HB:=n1_;clear n0_ n1_;(try clear hb);(try clear hb2);(try clear hk);(try clear hi))|((with_reducible refine gate_dst (N:=13) rfl ?_);refine box_event ?hg (N:=13) ?hd (cs:=#[.int .i64 0,.int .i64 0]) (t:=50) ?hr ?_;(case hd=>rfl);(case hg=>rfl);(case hr=>first|(go_simp;done)|(go_simp;rfl));intro gb398 hg w28 hbox hb;have n0_:=Aside0.mk (blk_below (bk BK395.out) hb);have n1_:=Aside0.mk (below_step (by repeat (first|with_reducible exact HB.out|exact bl HB|refine bs ?_ GE395)) hb);have n2_:=Aside0.mk (hbox);have n3_:=Aside0.mk ((by rw [hg];exact(below_size (by repeat (first|with_reducible exact HB.out|exact bl HB|refine bs ?_ GE395))):w.heap.size≤gb398));have n4_:=Aside0.mk ((by rw [hg];exact(below_size (by repeat (first|with_reducible exact HB.out|exact bl HB|refine bs ?_ GE395))):w.heap.size≤gb398));have n5_:=Aside0.mk ((by rw [hg];exact Nat.ne_of_lt (blk_lt (bk BK395.out)):gb395≠gb398));have n6_:=Aside0.mk ((by rw [hg];exact Nat.ne_of_gt (blk_lt (bk BK395.out)):gb398≠gb395));clear BK395;clear HB;have BK395:=n0_;have HB:=n1_;have BK398:=n2_;have GW398:=n3_;have GE398:=n4_;have NB395_398:=n5_;have NB398_395:=n6_;clear n0_ n1_ n2_ n3_ n4_ n5_ n6_;clear hb hbox hg;have hnb29:=NB398_395.out;have hnc29:=NB395_398.out;have hcz30_0:w28.cell? ⟨gb398,0,none⟩=some (.int .i64 0):=(blk_cell BK398.out 0).trans rfl;have hcz30_1:w28.cell? ⟨gb398,1,none⟩=some (.int .i64 0):=(blk_cell BK398.out 1).trans rfl;have hfz30_0:=blk_frozen BK398.out 0;have hfz30_1:=blk_frozen BK398.out 1)|((with_reducible refine gate_callee (f:=79) rfl ?_);refine goesL_ (some 65) rfl rfl Try.func79 (by kernel_rfl) rfl #[.agg #[.int .i64 (wrap64 ((wrap64 ((wrap64 (Int.tdiv t396 2147483648))*(wrap64 (Int.tdiv t397 2147483648))))+(wrap64 (Int.tdiv (wrap64 ((wrap64 ((wrap64 (Int.tdiv t396 2147483648))*(Int.tmod t397 2147483648)))+(wrap64 ((Int.tmod t396 2147483648)*(wrap64 (Int.tdiv t397 2147483648)))))) 2147483648)))),.int .i64 (wrap64 ((wrap64 ((Int.tmod t396 2147483648)*(Int.tmod t397 2147483648)))+(wrap64 ((Int.tmod (wrap64 ((wrap64 ((wrap64 (Int.tdiv t396 2147483648))*(Int.tmod t397 2147483648)))+(wrap64 ((Int.tmod t396 2147483648)*(wrap64 (Int.tdiv t397 2147483648)))))) 2147483648)*2147483648))))]] rfl (by exact mA _ _) ?_;(with_reducible refine(outriggerref02_turn.calls (wrap64 ((wrap64 ((wrap64 (Int.tdiv t396 2147483648))*(wrap64 (Int.tdiv t397 2147483648))))+(wrap64 (Int.tdiv (wrap64 ((wrap64 ((wrap64 (Int.tdiv t396 2147483648))*(Int.tmod t397 2147483648)))+(wrap64 ((Int.tmod t396 2147483648)*(wrap64 (Int.tdiv t397 2147483648)))))) 2147483648)))) (wrap64 ((wrap64 ((Int.tmod t396 2147483648)*(Int.tmod t397 2147483648)))+(wrap64 ((Int.tmod (wrap64 ((wrap64 ((wrap64 (Int.tdiv t396 2147483648))*(Int.tmod t397 2147483648)))+(wrap64 ((Int.tmod t396 2147483648)*(wrap64 (Int.tdiv t397 2147483648)))))) 2147483648)*2147483648)))) t401 t402 _ A24.out).mono ?_);rintro e w31 ⟨rfl,hb⟩;refine⟨_,rfl,?_⟩;have n0_:=Aside0.mk (blk_below (g:=gb395) (o:=.cells #[.int .i64 0,.int .i64 0] 50 (0,0)) (by try refine bk ?_;refine blk_far ?_ NB395_398.out _;try refine bk ?_;refine blk_far ?_ NB395_398.out _;try refine bk ?_;exact BK395.out) hb);have n1_:=Aside0.mk (blk_below (g:=gb398) (o:=.cells #[.int .i64 (wrap64 ((wrap64 ((wrap64 (Int.tdiv t396 2147483648))*(wrap64 (Int.tdiv t397 2147483648))))+(wrap64 (Int.tdiv (wrap64 ((wrap64 ((wrap64 (Int.tdiv t396 2147483648))*(Int.tmod t397 2147483648)))+(wrap64 ((Int.tmod t396 2147483648)*(wrap64 (Int.tdiv t397 2147483648)))))) 2147483648)))),.int .i64 (wrap64 ((wrap64 ((Int.tmod t396 2147483648)*(Int.tmod t397 2147483648)))+(wrap64 ((Int.tmod (wrap64 ((wrap64 ((wrap64 (Int.tdiv t396 2147483648))*(Int.tmod t397 2147483648)))+(wrap64 ((Int.tmod t396 2147483648)*(wrap64 (Int.tdiv t397 2147483648)))))) 2147483648)*2147483648))))] 50 (0,0)) (by try refine bk ?_;refine blk_put (cs:=#[.int .i64 (wrap64 ((wrap64 ((wrap64 (Int.tdiv t396 2147483648))*(wrap64 (Int.tdiv t397 2147483648))))+(wrap64 (Int.tdiv (wrap64 ((wrap64 ((wrap64 (Int.tdiv t396 2147483648))*(Int.tmod t397 2147483648)))+(wrap64 ((Int.tmod t396 2147483648)*(wrap64 (Int.tdiv t397 2147483648)))))) 2147483648)))),.int .i64 0]) ?_ 1 _ rfl;try refine bk ?_;refine blk_put (cs:=#[.int .i64 0,.int .i64 0]) ?_ 0 _ rfl;try refine bk ?_;exact BK398.out) hb);have n2_:=Aside0.mk (below_step (by repeat (first|with_reducible exact HB.out|exact bl HB|refine bs ?_ GE395|refine bs ?_ GE398)) hb);clear BK395;clear BK398;clear HB;have BK395:=n0_;have BK398:=n1_;have HB:=n2_;clear n0_ n1_ n2_;(try clear hb);(try clear hb2);(try clear hk);(try clear hi);have hcz32_0:w31.cell? ⟨gb395,0,none⟩=some (.int .i64 0):=(blk_cell BK395.out 0).trans rfl;have hcz32_1:w31.cell? ⟨gb395,1,none⟩=some (.int .i64 0):=(blk_cell BK395.out 1).trans rfl;have hfz32_0:=blk_frozen BK395.out 0;have hfz32_1:=blk_frozen BK395.out 1))
   refine bodyPost_ret (results_cell_row rfl _ _ gb395 50 #[.int .i64 t401,.int .i64 t402] (0,0) _ rfl (by try refine bk ?_;refine blk_put (cs:=#[.int .i64 t401,.int .i64 0]) ?_ 1 _ rfl;try refine bk ?_;refine blk_put (cs:=#[.int .i64 0,.int .i64 0]) ?_ 0 _ rfl;try refine bk ?_;exact BK395.out) Try.underlying50 rfl (by kernel_rfl)) rfl ?_
   exact⟨by first|rfl|(simp [errW_none,errW_some]<;>rfl)|(simp [*,errW_none,errW_some]<;>rfl),by repeat (first|with_reducible exact HB.out|exact bl HB|refine bs ?_ GE395|refine bs ?_ GE398)⟩
  ·rw [if_neg c23] at H
   have c23b0:((decide (a0<0)) != (decide (a1<0)))=false:=by simpa using c23
   (try (have c23b1:decide ((decide (a0<0))=(decide (a1<0)))=true:=by simpa using c23))
   (try (have c23b2:((decide (a0<0)) == (decide (a1<0)))=true:=by simpa using c23))
   clear c23
   simp only [Option.some.injEq,Prod.mk.injEq] at H
   obtain⟨rfl,rfl⟩:=H
   go_enter Try.func61,Try.ntmps61
   go_wp2_with (first|((with_reducible refine gate_dst (N:=4) rfl ?_);refine box_event ?hg (N:=4) ?hd (cs:=#[.int .i64 0,.int .i64 0]) (t:=50) ?hr ?_;(case hd=>rfl);(case hg=>rfl);(case hr=>first|(go_simp;done)|(go_simp;rfl));intro gb395 hg w33 hbox hb;have n0_:=Aside0.mk (below_step (by first|with_reducible exact HB.out|exact bl HB) hb);have n1_:=Aside0.mk (hbox);have n2_:=Aside0.mk ((by rw [hg];exact(below_size (by first|with_reducible exact HB.out|exact bl HB)):w.heap.size≤gb395));have n3_:=Aside0.mk ((by rw [hg];exact(below_size (by first|with_reducible exact HB.out|exact bl HB)):w.heap.size≤gb395));clear HB;have HB:=n0_;have BK395:=n1_;have GW395:=n2_;have GE395:=n3_;clear n0_ n1_ n2_ n3_;clear hb hbox hg)|((with_reducible refine gate_callee (f:=78) rfl ?_);refine goesL_ (some 15) rfl rfl Try.func78 (by kernel_rfl) rfl #[.int .i64 a0] rfl (by exact mA _ _) ?_;(with_reducible refine(outriggerref01_Abs.calls a0 t396 _ A3.out).mono ?_);rintro e w34 ⟨rfl,hb⟩;refine⟨_,rfl,?_⟩;have n0_:=Aside0.mk (blk_below (bk BK395.out) hb);have n1_:=Aside0.mk (below_step (by repeat (first|with_reducible exact HB.out|exact bl HB|refine bs ?_ GE395)) hb);clear BK395;clear HB;have BK395:=n0_;have HB:=n1_;clear n0_ n1_;(try clear hb);(try clear hb2);(try clear hk);(try clear hi))|((with_reducible refine gate_callee (f:=78) rfl ?_);refine goesL_ (some 17) rfl rfl Try.func78 (by kernel_rfl) rfl #[.int .i64 a1] rfl (by exact mA _ _) ?_;(with_reducible refine(outriggerref01_Abs.calls a1 t397 _ A4.out).mono ?_);rintro e w35 ⟨rfl,hb⟩;refine⟨_,rfl,?_⟩;have n0_:=Aside0.mk (blk_below (bk BK395.out) hb);have n1_:=Aside0.mk (below_step (by repeat (first|with_reducible exact HB.out|exact bl HB|refine bs ?_ GE395)) hb);clear BK395;clear HB;have BK395:=n0_;have HB:=n1_;clear n0_ n1_;(try clear hb);(try clear hb2);(try clear hk);(try clear hi))|((with_reducible refine gate_dst (N:=13) rfl ?_);refine box_event ?hg (N:=13) ?hd (cs:=#[.int .i64 0,.int .i64 0]) (t:=50) ?hr ?_;(case hd=>rfl);(case hg=>rfl);(case hr=>first|(go_simp;done)|(go_simp;rfl));intro gb398 hg w36 hbox hb;have n0_:=Aside0.mk (blk_below (bk BK395.out) hb);have n1_:=Aside0.mk (below_step (by repeat (first|with_reducible exact HB.out|exact bl HB|refine bs ?_ GE395)) hb);have n2_:=Aside0.mk (hbox);have n3_:=Aside0.mk ((by rw [hg];exact(below_size (by repeat (first|with_reducible exact HB.out|exact bl HB|refine bs ?_ GE395))):w.heap.size≤gb398));have n4_:=Aside0.mk ((by rw [hg];exact(below_size (by repeat (first|with_reducible exact HB.out|exact bl HB|refine bs ?_ GE395))):w.heap.size≤gb398));have n5_:=Aside0.mk ((by rw [hg];exact Nat.ne_of_lt (blk_lt (bk BK395.out)):gb395≠gb398));have n6_:=Aside0.mk ((by rw [hg];exact Nat.ne_of_gt (blk_lt (bk BK395.out)):gb398≠gb395));clear BK395;clear HB;have BK395:=n0_;have HB:=n1_;have BK398:=n2_;have GW398:=n3_;have GE398:=n4_;have NB395_398:=n5_;have NB398_395:=n6_;clear n0_ n1_ n2_ n3_ n4_ n5_ n6_;clear hb hbox hg;have hnb37:=NB398_395.out;have hnc37:=NB395_398.out;have hcz38_0:w36.cell? ⟨gb398,0,none⟩=some (.int .i64 0):=(blk_cell BK398.out 0).trans rfl;have hcz38_1:w36.cell? ⟨gb398,1,none⟩=some (.int .i64 0):=(blk_cell BK398.out 1).trans rfl;have hfz38_0:=blk_frozen BK398.out 0;have hfz38_1:=blk_frozen BK398.out 1;have hcz39_0:w36.cell? ⟨gb395,0,none⟩=some (.int .i64 0):=(blk_cell BK395.out 0).trans rfl;have hcz39_1:w36.cell? ⟨gb395,1,none⟩=some (.int .i64 0):=(blk_cell BK395.out 1).trans rfl;have hfz39_0:=blk_frozen BK395.out 0;have hfz39_1:=blk_frozen BK395.out 1))
   refine bodyPost_ret (results_cell_row rfl _ _ gb395 50 #[.int .i64 (wrap64 ((wrap64 ((wrap64 (Int.tdiv t396 2147483648))*(wrap64 (Int.tdiv t397 2147483648))))+(wrap64 (Int.tdiv (wrap64 ((wrap64 ((wrap64 (Int.tdiv t396 2147483648))*(Int.tmod t397 2147483648)))+(wrap64 ((Int.tmod t396 2147483648)*(wrap64 (Int.tdiv t397 2147483648)))))) 2147483648)))),.int .i64 (wrap64 ((wrap64 ((Int.tmod t396 2147483648)*(Int.tmod t397 2147483648)))+(wrap64 ((Int.tmod (wrap64 ((wrap64 ((wrap64 (Int.tdiv t396 2147483648))*(Int.tmod t397 2147483648)))+(wrap64 ((Int.tmod t396 2147483648)*(wrap64 (Int.tdiv t397 2147483648)))))) 2147483648)*2147483648))))] (0,0) _ rfl (by try refine bk ?_;refine blk_put (cs:=#[.int .i64 (wrap64 ((wrap64 ((wrap64 (Int.tdiv t396 2147483648))*(wrap64 (Int.tdiv t397 2147483648))))+(wrap64 (Int.tdiv (wrap64 ((wrap64 ((wrap64 (Int.tdiv t396 2147483648))*(Int.tmod t397 2147483648)))+(wrap64 ((Int.tmod t396 2147483648)*(wrap64 (Int.tdiv t397 2147483648)))))) 2147483648)))),.int .i64 0]) ?_ 1 _ rfl;try refine bk ?_;refine blk_put (cs:=#[.int .i64 0,.int .i64 0]) ?_ 0 _ rfl;try refine bk ?_;refine blk_far ?_ NB395_398.out _;try refine bk ?_;refine blk_far ?_ NB395_398.out _;try refine bk ?_;exact BK395.out) Try.underlying50 rfl (by kernel_rfl)) rfl ?_
   exact⟨by first|rfl|(simp [errW_none,errW_some]<;>rfl)|(simp [*,errW_none,errW_some]<;>rfl),by repeat (first|with_reducible exact HB.out|exact bl HB|refine bs ?_ GE395|refine bs ?_ GE398)⟩
mutual
def outriggerref06_wide.l0:Nat→List Int→List Int→Int→Int→Int→Option (Int × Int)
  | 0,_,_,_,_,_=>none
  | k+1,x0,x1,x6,x405000,x405001=>if x6<(x0.length:Int) then (outriggerref06_wide.j1 k x0 x1 x6 (decide (x6<(x1.length:Int))) x405000 x405001) else (outriggerref06_wide.j1 k x0 x1 x6 false x405000 x405001)
def outriggerref06_wide.j1:Nat→List Int→List Int→Int→Bool→Int→Int→Option (Int × Int)
  | 0,_,_,_,_,_,_=>none
  | k+1,x0,x1,x6,x19,x405000,x405001=>if x19=true then (if 0≤x6 then (if x6<(x0.length:Int) then (if x6<(x1.length:Int) then ((outriggerref02_Mul.f (rd x0 x6) (rd x1 x6)).bind fun bt407=>((outriggerref02_Add.f k x405000 x405001 bt407.1 bt407.2).bind fun bt409=>(outriggerref06_wide.l0 k x0 x1 (wrap64 (x6+1)) bt409.1 bt409.2.1))) else (none)) else (none)) else (none)) else (some (x405000,x405001))
end
def outriggerref06_wide.f (k:Nat) (l0:List Int) (l1:List Int):Option (Int × Int):=outriggerref06_wide.l0 k l0 l1 0 0 0
def outriggerref06_wide.T5:Bool × List (List Nat × List Nat):=(true,[([],[]),([],[]),([],[]),([1,2],[1,2]),([3],[3]),([],[]),([],[]),([5,6],[5,6]),([7],[7]),([4,8],[4,8]),([0,9,9],[0,9]),([10],[10]),([11],[11]),([11],[11]),([],[]),([14,12,10,0,1,2,3,4,5,6,7,8,9,10,11,12,14],[12,14]),([13,15,0,1,2,3,4,5,6,7,8,9,10,11,12,13,14,15],[13])])
def outriggerref06_wide.B5:List Nat:=[0,0,0,6,14,0,0,96,224,510,1023,2047,4095,4095,0,24575,65535]
theorem outriggerref06_wide.tab5:rtab .any (opsOf Try.f56 5)=outriggerref06_wide.T5:=by kernel_rfl
theorem outriggerref06_wide.bits5:waitsOk outriggerref06_wide.T5.2 outriggerref06_wide.B5=true:=by kernel_rfl
set_option maxHeartbeats 8000000 in
set_option maxRecDepth 100000 in
theorem outriggerref06_wide.calls (k:Nat) (A0:Option Addr) (c0:Nat) (l0:List Int) (A1:Option Addr) (c1:Nat) (l1:List Int) (r1:Int) (r2:Int) (w:World) (hr0:Kd.C (Kd.int .i64) w A0 l0.length l0) (hc0:l0.length≤c0) (hr1:Kd.C (Kd.int .i64) w A1 l1.length l1) (hc1:l1.length≤c1) (h:outriggerref06_wide.f k l0 l1=some (r1,r2)) :
  Calls Try.prog 56 #[.slice A0 l0.length c0,.slice A1 l1.length c1] w fun e w'=>e=.returned (.agg #[.int .i64 r1,.int .i64 r2])∧Below w.heap.size w w':=by
 have hu50:=Try.underlying50
 have HR0:=Aside0.mk hr0
 have HC0:=Aside0.mk hc0
 clear hr0 hc0
 have HR1:=Aside0.mk hr1
 have HC1:=Aside0.mk hc1
 clear hr1 hc1
 have HB:=Aside0.mk (Below.refl w.heap.size w)
 have H:(outriggerref06_wide.l0 k l0 l1 0 0 0)=some (r1,r2):=h
 clear h
 have H':=Aside0.mk H
 clear H
 go_enter Try.func56,Try.ntmps56
 go_wp2_with (first|((with_reducible refine gate_dst (N:=4) rfl ?_);(try (refine gate_guard (by rfl) ?_;dsimp only));refine box_event ?hg (N:=4) ?hd (cs:=#[.int .i64 0,.int .i64 0]) (t:=50) ?hr ?_;(case hd=>rfl);(case hg=>rfl);(case hr=>first|(go_simp;done)|(go_simp;rfl));intro gb403 hg w3 hbox hb;have n0_:=Aside0.mk (below_step (by first|with_reducible exact HB.out|exact bl HB) hb);have n1_:=Aside0.mk (hbox);have n2_:=Aside0.mk ((by rw [hg];exact(below_size (by first|with_reducible exact HB.out|exact bl HB)):w.heap.size≤gb403));have n3_:=Aside0.mk ((by rw [hg];exact(below_size (by first|with_reducible exact HB.out|exact bl HB)):w.heap.size≤gb403));clear HB;have HB:=n0_;have BK403:=n1_;have GW403:=n2_;have GE403:=n3_;clear n0_ n1_ n2_ n3_;clear hb hbox hg)|((with_reducible refine gate_dst (N:=5) rfl ?_);(try (refine gate_guard (by rfl) ?_;dsimp only));refine box_event ?hg (N:=5) ?hd (cs:=#[.int .i64 0,.int .i64 0]) (t:=50) ?hr ?_;(case hd=>rfl);(case hg=>rfl);(case hr=>first|(go_simp;done)|(go_simp;rfl));intro gb404 hg w4 hbox hb;have n0_:=Aside0.mk (blk_below (bk BK403.out) hb);have n1_:=Aside0.mk (below_step (by repeat (first|with_reducible exact HB.out|exact bl HB|refine bs ?_ GE403)) hb);have n2_:=Aside0.mk (hbox);have n3_:=Aside0.mk ((by rw [hg];exact(below_size (by repeat (first|with_reducible exact HB.out|exact bl HB|refine bs ?_ GE403))):w.heap.size≤gb404));have n4_:=Aside0.mk ((by rw [hg];exact(below_size (by repeat (first|with_reducible exact HB.out|exact bl HB|refine bs ?_ GE403))):w.heap.size≤gb404));have n5_:=Aside0.mk ((by rw [hg];exact Nat.ne_of_lt (blk_lt (bk BK403.out)):gb403≠gb404));have n6_:=Aside0.mk ((by rw [hg];exact Nat.ne_of_gt (blk_lt (bk BK403.out)):gb404≠gb403));clear BK403;clear HB;have BK403:=n0_;have HB:=n1_;have BK404:=n2_;have GW404:=n3_;have GE404:=n4_;have NB403_404:=n5_;have NB404_403:=n6_;clear n0_ n1_ n2_ n3_ n4_ n5_ n6_;clear hb hbox hg;have hnb5:=NB404_403.out;have hnc5:=NB403_404.out;have hcz6_0:w4.cell? ⟨gb404,0,none⟩=some (.int .i64 0):=(blk_cell BK404.out 0).trans rfl;have hcz6_1:w4.cell? ⟨gb404,1,none⟩=some (.int .i64 0):=(blk_cell BK404.out 1).trans rfl;have hfz6_0:=blk_frozen BK404.out 0;have hfz6_1:=blk_frozen BK404.out 1))
 go_loopg [6] k (fun kq v6 w'=>∃ (x6_1:Int) (x405000_1:Int) (x405001_1:Int),v6=.int .i64 x6_1∧Aside0 (outriggerref06_wide.l0 kq l0 l1 x6_1 x405000_1 x405001_1=some (r1,r2))∧Aside0 (kq≤k)∧Aside0 (w'.heap[gb403]? = some (.cells #[.int .i64 0,.int .i64 0] 50 (0,0)))∧Aside0 (w'.heap[gb404]? = some (.cells #[.int .i64 x405000_1,.int .i64 x405001_1] 50 (0,0)))∧Aside0 (Below w.heap.size w w'))
 case atStart=>exact⟨(0),(0),(0),(by first|rfl|(simp;done)|(simp [*];done)),H',⟨Nat.le_refl _⟩,⟨by try refine bk ?_;refine blk_far ?_ NB403_404.out _;try refine bk ?_;refine blk_far ?_ NB403_404.out _;try refine bk ?_;exact BK403.out⟩,⟨by try refine bk ?_;refine blk_put (cs:=#[.int .i64 0,.int .i64 0]) ?_ 1 _ rfl;try refine bk ?_;refine blk_put (cs:=#[.int .i64 0,.int .i64 0]) ?_ 0 _ rfl;try refine bk ?_;exact BK404.out⟩,⟨by repeat (first|with_reducible exact HB.out|exact bl HB|refine bs ?_ GE403|refine bs ?_ GE404)⟩⟩
 case round =>
  clear H'
  try clear c1
  try clear p2
  try clear c5
  try clear hcz6_0
  try clear hcz6_1
  try clear hfz6_0
  try clear hfz6_1
  obtain⟨x6_1,x405000_1,x405001_1,rfl,HA,HK1,BK403,BK404,HB⟩:=hrel
  cases gk with
  | zero=>exact absurd HA.out (by simp [outriggerref06_wide.l0])
  | succ k1 =>
   have H:=HA.out
   clear HA
   simp only [outriggerref06_wide.l0] at H
   have HC7:=Aside0.mk H
   clear H
   go_upto_region 3 with (fail)
   go_cut [19] (fun v19 wc=>∃ (kq:Nat) (x19_6:Bool),v19=.bool x19_6∧Aside0 (outriggerref06_wide.j1 kq l0 l1 x6_1 x19_6 x405000_1 x405001_1=some (r1,r2))∧Aside0 (kq≤k1)∧Aside0 (wc.heap[gb403]? = some (.cells #[.int .i64 0,.int .i64 0] 50 (0,0)))∧Aside0 (wc.heap[gb404]? = some (.cells #[.int .i64 x405000_1,.int .i64 x405001_1] 50 (0,0)))∧Aside0 (Below w.heap.size w wc))
   case first =>
    have H:=HC7.out
    clear HC7
    by_cases c8:x6_1<(l0.length:Int)
    ·rw [if_pos c8] at H
     have c8b0:decide (x6_1<(l0.length:Int))=true:=decide_eq_true c8
     clear c8
     (first|rw [c8b0]|(simp only [i64_w,i32_w];rw [c8b0])|skip)
     have H':=Aside0.mk H
     clear H
     go_wp2
     go_meet
     case rel=>exact⟨_,(decide (x6_1<(l1.length:Int))),(by first|rfl|(simp;done)|(simp [*];done)),H',⟨by have:=HK1.out;first|omega|exact Nat.le_refl _⟩,⟨by first|exact BK403.out|exact bk BK403.out⟩,⟨by first|exact BK404.out|exact bk BK404.out⟩,⟨by repeat (first|with_reducible exact HB.out|exact bl HB|refine bs ?_ GE403|refine bs ?_ GE404)⟩⟩
    ·rw [if_neg c8] at H
     have c8b0:decide (x6_1<(l0.length:Int))=false:=decide_eq_false c8
     clear c8
     (first|rw [c8b0]|(simp only [i64_w,i32_w];rw [c8b0])|skip)
     have H':=Aside0.mk H
     clear H
     go_wp2
     go_meet
     case rel=>exact⟨_,(false),(by first|rfl|(simp;done)|(simp [*];done)),H',⟨by have:=HK1.out;first|omega|exact Nat.le_refl _⟩,⟨by first|exact BK403.out|exact bk BK403.out⟩,⟨by first|exact BK404.out|exact bk BK404.out⟩,⟨by repeat (first|with_reducible exact HB.out|exact bl HB|refine bs ?_ GE403|refine bs ?_ GE404)⟩⟩
   case rest =>
    clear HC7
    try clear c1
    try clear p2
    try clear c5
    try clear c8
    try clear c8b0
    try clear hcz6_0
    try clear hcz6_1
    try clear hfz6_0
    try clear hfz6_1
    try clear p2
    obtain⟨kq,x19_6,rfl,HA,HJ6,BK403,BK404,HB⟩:=hcut
    cases kq with
    | zero=>exact absurd HA.out (by simp [outriggerref06_wide.j1])
    | succ kj6 =>
     have H:=HA.out
     clear HA
     simp only [outriggerref06_wide.j1] at H
     by_cases c9:x19_6=true
     ·subst c9
      have H1:(if 0≤x6_1 then (if x6_1<(l0.length:Int) then (if x6_1<(l1.length:Int) then ((outriggerref02_Mul.f (rd l0 x6_1) (rd l1 x6_1)).bind fun bt407=>((outriggerref02_Add.f kj6 x405000_1 x405001_1 bt407.1 bt407.2).bind fun bt409=>(outriggerref06_wide.l0 kj6 l0 l1 (wrap64 (x6_1+1)) bt409.1 bt409.2.1))) else (none)) else (none)) else (none))=some (r1,r2):=by rw [if_pos rfl] at H;exact H
      clear H
      have H:=H1
      clear H1
      by_cases c10:0≤x6_1
      ·rw [if_pos c10] at H
       have c10b0:decide (0≤x6_1)=true:=decide_eq_true c10
       clear c10
       by_cases c11:x6_1<(l0.length:Int)
       ·rw [if_pos c11] at H
        have c11b0:decide (x6_1<(l0.length:Int))=true:=decide_eq_true c11
        clear c11
        by_cases c12:x6_1<(l1.length:Int)
        ·rw [if_pos c12] at H
         have c12b0:decide (x6_1<(l1.length:Int))=true:=decide_eq_true c12
         clear c12
         replace H:=Option.bind_eq_some_iff.mp H
         obtain⟨⟨t407,t408⟩,A130,H⟩:=H
         replace H:((outriggerref02_Add.f kj6 x405000_1 x405001_1 t407 t408).bind fun bt409=>(outriggerref06_wide.l0 kj6 l0 l1 (wrap64 (x6_1+1)) bt409.1 bt409.2.1))=some (r1,r2):=H
         have A13:=Aside0.mk A130
         clear A130
         replace H:=Option.bind_eq_some_iff.mp H
         obtain⟨⟨t409,t410,t411⟩,A140,H⟩:=H
         replace H:(outriggerref06_wide.l0 kj6 l0 l1 (wrap64 (x6_1+1)) t409 t410)=some (r1,r2):=H
         have A14:=Aside0.mk A140
         clear A140
         have H':=Aside0.mk H
         clear H
         try go_wp2
         have n0_:=Aside0.mk (blk_drew BK403.out)
         have n1_:=Aside0.mk (blk_drew BK404.out)
         have n2_:=Aside0.mk (below_drew1 HB.out)
         clear BK403
         clear BK404
         clear HB
         have BK403:=n0_
         have BK404:=n1_
         have HB:=n2_
         clear n0_ n1_ n2_
         have p405:0≤(x6_1:Int):=of_decide_eq_true (by first|(with_reducible assumption)|assumption)
         have q405:x6_1<(l0.length:Int):=of_decide_eq_true (by first|(with_reducible assumption)|assumption)
         obtain⟨ad405,e405,hx405_0⟩:=Kd.at_int HR0.out x6_1 p405 q405
         have hw405_0:=hx405_0
         cases e405
         replace hx405_0:=(HB.out.cell (World.block_lt_of_cell? w _ hx405_0)).trans hx405_0
         replace p405:=eq_true p405
         replace q405:=eq_true q405
         have p406:0≤(x6_1:Int):=of_decide_eq_true (by first|(with_reducible assumption)|assumption)
         have q406:x6_1<(l1.length:Int):=of_decide_eq_true (by first|(with_reducible assumption)|assumption)
         obtain⟨ad406,e406,hx406_0⟩:=Kd.at_int HR1.out x6_1 p406 q406
         have hw406_0:=hx406_0
         cases e406
         replace hx406_0:=(HB.out.cell (World.block_lt_of_cell? w _ hx406_0)).trans hx406_0
         replace p406:=eq_true p406
         replace q406:=eq_true q406
         refine start_ (n:=17) (S:=fun w'=>w'.cell? ⟨gb404,0,none⟩=some (.int .i64 x405000_1)∧w'.cell? ⟨gb404,1,none⟩=some (.int .i64 x405001_1)∧w'.cell? (ad405.add (x6_1).toNat)=some (.int .i64 (rd l0 x6_1))∧w'.cell? (ad406.add (x6_1).toNat)=some (.int .i64 (rd l1 x6_1))) (ds:=[]) #[ff,ff,ff,ff,ff,ff,ff,ff,ff,ff,ff,ff,ff,ff,ff,ff,ff] (by kernel_rfl) rfl rfl ⟨(blk_cell BK404.out 0).trans rfl,(blk_cell BK404.out 1).trans rfl,((HB.out.cell (World.block_lt_of_cell? w _ hw405_0)).trans hw405_0),((HB.out.cell (World.block_lt_of_cell? w _ hw406_0)).trans hw406_0)⟩ (fun hHeld=>?_);refine with_tabW outriggerref06_wide.tab5 outriggerref06_wide.bits5 (fun HT_ HW_=>?_)
         generalize wc.drew=w15 at BK403 BK404 HB hx405_0 hx406_0 hHeld ⊢
         refine pure_ (i:=1) (N:=some 24) (v:=?_) (a':=?_) #[ff,tt,ff,ff,ff,ff,ff,ff,ff,ff,ff,ff,ff,ff,ff,ff,ff] rfl rfl (any_of HT_.out (by kernel_rfl)) (fun _ _ _ h=>h) (Or.inl ⟨by rfl,?_⟩) ?_ ?_
         rotate_left
         ·intro w'
          go_simp
          with_reducible rfl
         rotate_left
         ·simp only [Act.put,List.setIfInBounds_toArray,List.set_cons_zero,List.set_cons_succ,i64_w,i32_w]
          rfl
         refine pure_ (i:=2) (N:=some 25) (v:=?_) (a':=?_) #[ff,tt,tt,ff,ff,ff,ff,ff,ff,ff,ff,ff,ff,ff,ff,ff,ff] rfl rfl (any_of HT_.out (by kernel_rfl)) (fun _ _ _ h=>h) (Or.inl ⟨by rfl,?_⟩) ?_ ?_
         rotate_left
         ·intro w'
          go_simp
          with_reducible rfl
         rotate_left
         ·simp only [Act.put,List.setIfInBounds_toArray,List.set_cons_zero,List.set_cons_succ,i64_w,i32_w]
          rfl
         refine pure_ (i:=3) (N:=some 26) (v:=?_) (a':=?_) #[ff,tt,tt,tt,ff,ff,ff,ff,ff,ff,ff,ff,ff,ff,ff,ff,ff] rfl rfl (any_of HT_.out (by kernel_rfl)) (fun _ _ _ h=>h) (Or.inl ⟨by rfl,?_⟩) ?_ ?_
         rotate_left
         ·intro w'
          go_simp
          with_reducible rfl
         rotate_left
         ·simp only [Act.put,List.setIfInBounds_toArray,List.set_cons_zero,List.set_cons_succ,i64_w,i32_w]
          rfl
         refine pure_ (i:=5) (N:=some 28) (v:=?_) (a':=?_) #[ff,tt,tt,tt,ff,tt,ff,ff,ff,ff,ff,ff,ff,ff,ff,ff,ff] rfl rfl (any_of HT_.out (by kernel_rfl)) (fun _ _ _ h=>h) (Or.inl ⟨by rfl,?_⟩) ?_ ?_
         rotate_left
         ·intro w'
          go_simp
          with_reducible rfl
         rotate_left
         ·simp only [Act.put,List.setIfInBounds_toArray,List.set_cons_zero,List.set_cons_succ,i64_w,i32_w]
          rfl
         refine pure_ (i:=6) (N:=some 29) (v:=?_) (a':=?_) #[ff,tt,tt,tt,ff,tt,tt,ff,ff,ff,ff,ff,ff,ff,ff,ff,ff] rfl rfl (any_of HT_.out (by kernel_rfl)) (fun _ _ _ h=>h) (Or.inl ⟨by rfl,?_⟩) ?_ ?_
         rotate_left
         ·intro w'
          go_simp
          with_reducible rfl
         rotate_left
         ·simp only [Act.put,List.setIfInBounds_toArray,List.set_cons_zero,List.set_cons_succ,i64_w,i32_w]
          rfl
         refine pure_ (i:=7) (N:=some 30) (v:=?_) (a':=?_) #[ff,tt,tt,tt,ff,tt,tt,tt,ff,ff,ff,ff,ff,ff,ff,ff,ff] rfl rfl (any_of HT_.out (by kernel_rfl)) (fun _ _ _ h=>h) (Or.inl ⟨by rfl,?_⟩) ?_ ?_
         rotate_left
         ·intro w'
          go_simp
          with_reducible rfl
         rotate_left
         ·simp only [Act.put,List.setIfInBounds_toArray,List.set_cons_zero,List.set_cons_succ,i64_w,i32_w]
          rfl
         refine take_ (i:=0) (N:=some 23) (v:=?_) (a':=?_) #[tt,tt,tt,tt,ff,tt,tt,tt,ff,ff,ff,ff,ff,ff,ff,ff,ff] rfl rfl (take_ofW HT_.out HW_.out (by kernel_rfl)) (fun _ _ _ h=>h) (Or.inl ⟨by rfl,?_⟩) hHeld ?_ ?_
         rotate_left
         ·rintro w' ⟨s0,s1,s2,s3⟩
          go_simp
          with_reducible rfl
         rotate_left
         ·simp only [Act.put,List.setIfInBounds_toArray,List.set_cons_zero,List.set_cons_succ,i64_w,i32_w]
          rfl
         refine take_ (i:=4) (N:=some 27) (v:=?_) (a':=?_) #[tt,tt,tt,tt,tt,tt,tt,tt,ff,ff,ff,ff,ff,ff,ff,ff,ff] rfl rfl (take_ofW HT_.out HW_.out (by kernel_rfl)) (fun _ _ _ h=>h) (Or.inl ⟨by rfl,?_⟩) hHeld ?_ ?_
         rotate_left
         ·rintro w' ⟨s0,s1,s2,s3⟩
          go_simp
          with_reducible rfl
         rotate_left
         ·simp only [Act.put,List.setIfInBounds_toArray,List.set_cons_zero,List.set_cons_succ,i64_w,i32_w]
          rfl
         refine take_ (i:=8) (N:=some 31) (v:=?_) (a':=?_) #[tt,tt,tt,tt,tt,tt,tt,tt,tt,ff,ff,ff,ff,ff,ff,ff,ff] rfl rfl (take_ofW HT_.out HW_.out (by kernel_rfl)) (fun _ _ _ h=>h) (Or.inl ⟨by rfl,?_⟩) hHeld ?_ ?_
         rotate_left
         ·rintro w' ⟨s0,s1,s2,s3⟩
          go_simp
          with_reducible rfl
         rotate_left
         ·simp only [Act.put,List.setIfInBounds_toArray,List.set_cons_zero,List.set_cons_succ,i64_w,i32_w]
          rfl
         refine join_ (σ:=Nat) 2 #[tt,tt,tt,tt,tt,tt,tt,tt,tt,tt,tt,tt,tt,tt,tt,ff,ff] (fun s_=>[(32,.agg #[.int .i64 t407,.int .i64 t408]),(33,.tuple #[.agg #[.int .i64 t409,.int .i64 t410],.bool t411]),(7,.pointer (some ⟨s_,0,none⟩)),(22,.tuple #[.agg #[.int .i64 t409,.int .i64 t410],.bool t411]),(34,.agg #[.int .i64 t409,.int .i64 t410]),(35,.bool t411)]) (fun s_ w'=>(w'.cell? ⟨gb404,0,none⟩=some (.int .i64 x405000_1)∧w'.cell? ⟨gb404,1,none⟩=some (.int .i64 x405001_1)∧w'.cell? (ad405.add (x6_1).toNat)=some (.int .i64 (rd l0 x6_1))∧w'.cell? (ad406.add (x6_1).toNat)=some (.int .i64 (rd l1 x6_1)))∧(w'.heap[gb403]? = some (.cells #[.int .i64 0,.int .i64 0] 50 (0,0)))∧(w'.heap[gb404]? = some (.cells #[.int .i64 x405000_1,.int .i64 x405001_1] 50 (0,0)))∧(w'.heap[s_]? = some (.cells #[.int .i64 0,.int .i64 0] 50 (0,0)))∧(w.heap.size≤s_)∧(w.heap.size≤s_)∧(gb403≠s_)∧(s_≠gb403)∧(gb404≠s_)∧(s_≠gb404)∧(Below w.heap.size w w')) ?_ ?_
         rotate_left
         ·intro hCont
          refine two_ (i:=9) (j:=14) (Ni:=some 32) (Nj:=some 7) #[tt,tt,tt,tt,tt,tt,tt,tt,tt,tt,ff,ff,ff,ff,ff,ff,ff] #[tt,tt,tt,tt,tt,tt,tt,tt,tt,ff,ff,ff,ff,ff,tt,ff,ff] rfl rfl rfl rfl (two_of HT_.out (by kernel_rfl)) (by decide) (by decide) (fun K hK=>?_) (fun K hK=>?_)
          ·skip
           refine goes_ Try.func61 (by kernel_rfl) rfl #[.int .i64 (rd l0 x6_1),.int .i64 (rd l1 x6_1)] (by rfl) rfl rfl (by exact mA _ _) ?_
           with_reducible refine(outriggerref02_Mul.calls (rd l0 x6_1) (rd l1 x6_1) t407 t408 _ A13.out).mono ?_
           rintro e w16 ⟨rfl,hb⟩
           refine⟨_,rfl,?_⟩
           have n0_:=Aside0.mk (blk_below (bk BK403.out) hb)
           have n1_:=Aside0.mk (blk_below (bk BK404.out) hb)
           have n2_:=Aside0.mk (below_step (by repeat (first|with_reducible exact HB.out|exact bl HB|refine bs ?_ GE403|refine bs ?_ GE404)) hb)
           clear BK403
           clear BK404
           clear HB
           have BK403:=n0_
           have BK404:=n1_
           have HB:=n2_
           clear n0_ n1_ n2_
           (try clear hb)
           (try clear hb2)
           (try clear hk)
           (try clear hi)
           refine hK.out _ _ ⟨(blk_cell BK404.out 0).trans rfl,(blk_cell BK404.out 1).trans rfl,((HB.out.cell (World.block_lt_of_cell? w _ hw405_0)).trans hw405_0),((HB.out.cell (World.block_lt_of_cell? w _ hw406_0)).trans hw406_0)⟩ (fun hHeld=>?_)
           clear hK K
           refine norm_ (a':=?_) ?_ ?_
           rotate_left
           ·show Act.put _ (some 32) _=_
            simp only [Act.put,List.setIfInBounds_toArray,List.set_cons_zero,List.set_cons_succ,i64_w,i32_w]
            rfl
           refine two_ (i:=10) (j:=14) (Ni:=some 33) (Nj:=some 7) #[tt,tt,tt,tt,tt,tt,tt,tt,tt,tt,tt,ff,ff,ff,ff,ff,ff] #[tt,tt,tt,tt,tt,tt,tt,tt,tt,tt,ff,ff,ff,ff,tt,ff,ff] rfl rfl rfl rfl (two_of HT_.out (by kernel_rfl)) (by decide) (by decide) (fun K hK=>?_) (fun K hK=>?_)
           ·skip
            refine goes_ Try.func58 (by kernel_rfl) rfl #[.agg #[.int .i64 x405000_1,.int .i64 x405001_1],.agg #[.int .i64 t407,.int .i64 t408]] (by rfl) rfl rfl (by exact mA _ _) ?_
            with_reducible refine(outriggerref02_Add.calls kj6 x405000_1 x405001_1 t407 t408 t409 t410 t411 _ A14.out).mono ?_
            rintro e w17 ⟨rfl,hb⟩
            refine⟨_,rfl,?_⟩
            have n0_:=Aside0.mk (blk_below (bk BK403.out) hb)
            have n1_:=Aside0.mk (blk_below (bk BK404.out) hb)
            have n2_:=Aside0.mk (below_step (by repeat (first|with_reducible exact HB.out|exact bl HB|refine bs ?_ GE403|refine bs ?_ GE404)) hb)
            clear BK403
            clear BK404
            clear HB
            have BK403:=n0_
            have BK404:=n1_
            have HB:=n2_
            clear n0_ n1_ n2_
            (try clear hb)
            (try clear hb2)
            (try clear hk)
            (try clear hi)
            refine hK.out _ _ ⟨(blk_cell BK404.out 0).trans rfl,(blk_cell BK404.out 1).trans rfl,((HB.out.cell (World.block_lt_of_cell? w _ hw405_0)).trans hw405_0),((HB.out.cell (World.block_lt_of_cell? w _ hw406_0)).trans hw406_0)⟩ (fun hHeld=>?_)
            clear hK K
            refine norm_ (a':=?_) ?_ ?_
            rotate_left
            ·show Act.put _ (some 33) _=_
             simp only [Act.put,List.setIfInBounds_toArray,List.set_cons_zero,List.set_cons_succ,i64_w,i32_w]
             rfl
            refine pure_ (i:=11) (N:=some 22) (v:=?_) (a':=?_) #[tt,tt,tt,tt,tt,tt,tt,tt,tt,tt,tt,tt,ff,ff,ff,ff,ff] rfl rfl (any_of HT_.out (by kernel_rfl)) (fun _ _ _ h=>h) (Or.inl ⟨by rfl,?_⟩) ?_ ?_
            rotate_left
            ·intro w'
             go_simp
             with_reducible rfl
            rotate_left
            ·simp only [Act.put,List.setIfInBounds_toArray,List.set_cons_zero,List.set_cons_succ,i64_w,i32_w]
             rfl
            refine pure_ (i:=12) (N:=some 34) (v:=?_) (a':=?_) #[tt,tt,tt,tt,tt,tt,tt,tt,tt,tt,tt,tt,tt,ff,ff,ff,ff] rfl rfl (any_of HT_.out (by kernel_rfl)) (fun _ _ _ h=>h) (Or.inl ⟨by rfl,?_⟩) ?_ ?_
            rotate_left
            ·intro w'
             go_simp
             with_reducible rfl
            rotate_left
            ·simp only [Act.put,List.setIfInBounds_toArray,List.set_cons_zero,List.set_cons_succ,i64_w,i32_w]
             rfl
            refine pure_ (i:=13) (N:=some 35) (v:=?_) (a':=?_) #[tt,tt,tt,tt,tt,tt,tt,tt,tt,tt,tt,tt,tt,tt,ff,ff,ff] rfl rfl (any_of HT_.out (by kernel_rfl)) (fun _ _ _ h=>h) (Or.inl ⟨by rfl,?_⟩) ?_ ?_
            rotate_left
            ·intro w'
             go_simp
             with_reducible rfl
            rotate_left
            ·simp only [Act.put,List.setIfInBounds_toArray,List.set_cons_zero,List.set_cons_succ,i64_w,i32_w]
             rfl
            refine one_ (i:=14) (N:=some 7) #[tt,tt,tt,tt,tt,tt,tt,tt,tt,tt,tt,tt,tt,tt,tt,ff,ff] rfl rfl (one_of HT_.out (by kernel_rfl)) (by decide) (fun K hK=>?_)
            refine box_step ?hg (N:=7) ?hd (cs:=#[.int .i64 0,.int .i64 0]) (t:=50) ?hr ?_;(case hd=>rfl);(case hg=>rfl);(case hr=>first|(go_simp;done)|(go_simp;rfl))
            intro gb412 hg w18 hbox hb
            have n0_:=Aside0.mk (blk_below (bk BK403.out) hb)
            have n1_:=Aside0.mk (blk_below (bk BK404.out) hb)
            have n2_:=Aside0.mk (below_step (by repeat (first|with_reducible exact HB.out|exact bl HB|refine bs ?_ GE403|refine bs ?_ GE404)) hb)
            have n3_:=Aside0.mk (hbox)
            have n4_:=Aside0.mk ((by rw [hg];exact(below_size (by repeat (first|with_reducible exact HB.out|exact bl HB|refine bs ?_ GE403|refine bs ?_ GE404))):w.heap.size≤gb412))
            have n5_:=Aside0.mk ((by rw [hg];exact(below_size (by repeat (first|with_reducible exact HB.out|exact bl HB|refine bs ?_ GE403|refine bs ?_ GE404))):w.heap.size≤gb412))
            have n6_:=Aside0.mk ((by rw [hg];exact Nat.ne_of_lt (blk_lt (bk BK403.out)):gb403≠gb412))
            have n7_:=Aside0.mk ((by rw [hg];exact Nat.ne_of_gt (blk_lt (bk BK403.out)):gb412≠gb403))
            have n8_:=Aside0.mk ((by rw [hg];exact Nat.ne_of_lt (blk_lt (bk BK404.out)):gb404≠gb412))
            have n9_:=Aside0.mk ((by rw [hg];exact Nat.ne_of_gt (blk_lt (bk BK404.out)):gb412≠gb404))
            clear BK403
            clear BK404
            clear HB
            have BK403:=n0_
            have BK404:=n1_
            have HB:=n2_
            have BK412:=n3_
            have GW412:=n4_
            have GE412:=n5_
            have NB403_412:=n6_
            have NB412_403:=n7_
            have NB404_412:=n8_
            have NB412_404:=n9_
            clear n0_ n1_ n2_ n3_ n4_ n5_ n6_ n7_ n8_ n9_
            clear hb hbox hg
            refine hK.out _ _ ⟨(blk_cell BK404.out 0).trans rfl,(blk_cell BK404.out 1).trans rfl,((HB.out.cell (World.block_lt_of_cell? w _ hw405_0)).trans hw405_0),((HB.out.cell (World.block_lt_of_cell? w _ hw406_0)).trans hw406_0)⟩ (fun hHeld=>?_)
            clear hK K
            refine norm_ (a':=?_) ?_ ?_
            rotate_left
            ·show Act.put _ (some 7) _=_
             simp only [Act.put,List.setIfInBounds_toArray,List.set_cons_zero,List.set_cons_succ,i64_w,i32_w]
             rfl
            exact norm_ (by simp only [putAll,Act.put,List.setIfInBounds_toArray,List.set_cons_zero,List.set_cons_succ]) (hCont (gb412) _ ⟨hHeld,(bk BK403.out),(bk BK404.out),(bk BK412.out),GW412.out,GE412.out,NB403_412.out,NB412_403.out,NB404_412.out,NB412_404.out,(by repeat (first|with_reducible exact HB.out|exact bl HB|refine bs ?_ GE403|refine bs ?_ GE404|refine bs ?_ GE412))⟩)
           ·skip
            refine box_step ?hg (N:=7) ?hd (cs:=#[.int .i64 0,.int .i64 0]) (t:=50) ?hr ?_;(case hd=>rfl);(case hg=>rfl);(case hr=>first|(go_simp;done)|(go_simp;rfl))
            intro gb412 hg w17 hbox hb
            have n0_:=Aside0.mk (blk_below (bk BK403.out) hb)
            have n1_:=Aside0.mk (blk_below (bk BK404.out) hb)
            have n2_:=Aside0.mk (below_step (by repeat (first|with_reducible exact HB.out|exact bl HB|refine bs ?_ GE403|refine bs ?_ GE404)) hb)
            have n3_:=Aside0.mk (hbox)
            have n4_:=Aside0.mk ((by rw [hg];exact(below_size (by repeat (first|with_reducible exact HB.out|exact bl HB|refine bs ?_ GE403|refine bs ?_ GE404))):w.heap.size≤gb412))
            have n5_:=Aside0.mk ((by rw [hg];exact(below_size (by repeat (first|with_reducible exact HB.out|exact bl HB|refine bs ?_ GE403|refine bs ?_ GE404))):w.heap.size≤gb412))
            have n6_:=Aside0.mk ((by rw [hg];exact Nat.ne_of_lt (blk_lt (bk BK403.out)):gb403≠gb412))
            have n7_:=Aside0.mk ((by rw [hg];exact Nat.ne_of_gt (blk_lt (bk BK403.out)):gb412≠gb403))
            have n8_:=Aside0.mk ((by rw [hg];exact Nat.ne_of_lt (blk_lt (bk BK404.out)):gb404≠gb412))
            have n9_:=Aside0.mk ((by rw [hg];exact Nat.ne_of_gt (blk_lt (bk BK404.out)):gb412≠gb404))
            clear BK403
            clear BK404
            clear HB
            have BK403:=n0_
            have BK404:=n1_
            have HB:=n2_
            have BK412:=n3_
            have GW412:=n4_
            have GE412:=n5_
            have NB403_412:=n6_
            have NB412_403:=n7_
            have NB404_412:=n8_
            have NB412_404:=n9_
            clear n0_ n1_ n2_ n3_ n4_ n5_ n6_ n7_ n8_ n9_
            clear hb hbox hg
            refine hK.out _ _ ⟨(blk_cell BK404.out 0).trans rfl,(blk_cell BK404.out 1).trans rfl,((HB.out.cell (World.block_lt_of_cell? w _ hw405_0)).trans hw405_0),((HB.out.cell (World.block_lt_of_cell? w _ hw406_0)).trans hw406_0)⟩ (fun hHeld=>?_)
            clear hK K
            refine norm_ (a':=?_) ?_ ?_
            rotate_left
            ·show Act.put _ (some 7) _=_
             simp only [Act.put,List.setIfInBounds_toArray,List.set_cons_zero,List.set_cons_succ,i64_w,i32_w]
             rfl
            refine one_ (i:=10) (N:=some 33) #[tt,tt,tt,tt,tt,tt,tt,tt,tt,tt,tt,ff,ff,ff,tt,ff,ff] rfl rfl (one_of HT_.out (by kernel_rfl)) (by decide) (fun K hK=>?_)
            refine goes_ Try.func58 (by kernel_rfl) rfl #[.agg #[.int .i64 x405000_1,.int .i64 x405001_1],.agg #[.int .i64 t407,.int .i64 t408]] (by rfl) rfl rfl (by exact mA _ _) ?_
            with_reducible refine(outriggerref02_Add.calls kj6 x405000_1 x405001_1 t407 t408 t409 t410 t411 _ A14.out).mono ?_
            rintro e w18 ⟨rfl,hb⟩
            refine⟨_,rfl,?_⟩
            have n0_:=Aside0.mk (blk_below (bk BK403.out) hb)
            have n1_:=Aside0.mk (blk_below (bk BK404.out) hb)
            have n2_:=Aside0.mk (blk_below (bk BK412.out) hb)
            have n3_:=Aside0.mk (below_step (by repeat (first|with_reducible exact HB.out|exact bl HB|refine bs ?_ GE403|refine bs ?_ GE404|refine bs ?_ GE412)) hb)
            clear BK403
            clear BK404
            clear BK412
            clear HB
            have BK403:=n0_
            have BK404:=n1_
            have BK412:=n2_
            have HB:=n3_
            clear n0_ n1_ n2_ n3_
            (try clear hb)
            (try clear hb2)
            (try clear hk)
            (try clear hi)
            refine hK.out _ _ ⟨(blk_cell BK404.out 0).trans rfl,(blk_cell BK404.out 1).trans rfl,((HB.out.cell (World.block_lt_of_cell? w _ hw405_0)).trans hw405_0),((HB.out.cell (World.block_lt_of_cell? w _ hw406_0)).trans hw406_0)⟩ (fun hHeld=>?_)
            clear hK K
            refine norm_ (a':=?_) ?_ ?_
            rotate_left
            ·show Act.put _ (some 33) _=_
             simp only [Act.put,List.setIfInBounds_toArray,List.set_cons_zero,List.set_cons_succ,i64_w,i32_w]
             rfl
            refine pure_ (i:=11) (N:=some 22) (v:=?_) (a':=?_) #[tt,tt,tt,tt,tt,tt,tt,tt,tt,tt,tt,tt,ff,ff,tt,ff,ff] rfl rfl (any_of HT_.out (by kernel_rfl)) (fun _ _ _ h=>h) (Or.inl ⟨by rfl,?_⟩) ?_ ?_
            rotate_left
            ·intro w'
             go_simp
             with_reducible rfl
            rotate_left
            ·simp only [Act.put,List.setIfInBounds_toArray,List.set_cons_zero,List.set_cons_succ,i64_w,i32_w]
             rfl
            refine pure_ (i:=12) (N:=some 34) (v:=?_) (a':=?_) #[tt,tt,tt,tt,tt,tt,tt,tt,tt,tt,tt,tt,tt,ff,tt,ff,ff] rfl rfl (any_of HT_.out (by kernel_rfl)) (fun _ _ _ h=>h) (Or.inl ⟨by rfl,?_⟩) ?_ ?_
            rotate_left
            ·intro w'
             go_simp
             with_reducible rfl
            rotate_left
            ·simp only [Act.put,List.setIfInBounds_toArray,List.set_cons_zero,List.set_cons_succ,i64_w,i32_w]
             rfl
            refine pure_ (i:=13) (N:=some 35) (v:=?_) (a':=?_) #[tt,tt,tt,tt,tt,tt,tt,tt,tt,tt,tt,tt,tt,tt,tt,ff,ff] rfl rfl (any_of HT_.out (by kernel_rfl)) (fun _ _ _ h=>h) (Or.inl ⟨by rfl,?_⟩) ?_ ?_
            rotate_left
            ·intro w'
             go_simp
             with_reducible rfl
            rotate_left
            ·simp only [Act.put,List.setIfInBounds_toArray,List.set_cons_zero,List.set_cons_succ,i64_w,i32_w]
             rfl
            exact norm_ (by simp only [putAll,Act.put,List.setIfInBounds_toArray,List.set_cons_zero,List.set_cons_succ]) (hCont (gb412) _ ⟨hHeld,(bk BK403.out),(bk BK404.out),(bk BK412.out),GW412.out,GE412.out,NB403_412.out,NB412_403.out,NB404_412.out,NB412_404.out,(by repeat (first|with_reducible exact HB.out|exact bl HB|refine bs ?_ GE403|refine bs ?_ GE404|refine bs ?_ GE412))⟩)
          ·skip
           refine box_step ?hg (N:=7) ?hd (cs:=#[.int .i64 0,.int .i64 0]) (t:=50) ?hr ?_;(case hd=>rfl);(case hg=>rfl);(case hr=>first|(go_simp;done)|(go_simp;rfl))
           intro gb412 hg w16 hbox hb
           have n0_:=Aside0.mk (blk_below (bk BK403.out) hb)
           have n1_:=Aside0.mk (blk_below (bk BK404.out) hb)
           have n2_:=Aside0.mk (below_step (by repeat (first|with_reducible exact HB.out|exact bl HB|refine bs ?_ GE403|refine bs ?_ GE404)) hb)
           have n3_:=Aside0.mk (hbox)
           have n4_:=Aside0.mk ((by rw [hg];exact(below_size (by repeat (first|with_reducible exact HB.out|exact bl HB|refine bs ?_ GE403|refine bs ?_ GE404))):w.heap.size≤gb412))
           have n5_:=Aside0.mk ((by rw [hg];exact(below_size (by repeat (first|with_reducible exact HB.out|exact bl HB|refine bs ?_ GE403|refine bs ?_ GE404))):w.heap.size≤gb412))
           have n6_:=Aside0.mk ((by rw [hg];exact Nat.ne_of_lt (blk_lt (bk BK403.out)):gb403≠gb412))
           have n7_:=Aside0.mk ((by rw [hg];exact Nat.ne_of_gt (blk_lt (bk BK403.out)):gb412≠gb403))
           have n8_:=Aside0.mk ((by rw [hg];exact Nat.ne_of_lt (blk_lt (bk BK404.out)):gb404≠gb412))
           have n9_:=Aside0.mk ((by rw [hg];exact Nat.ne_of_gt (blk_lt (bk BK404.out)):gb412≠gb404))
           clear BK403
           clear BK404
           clear HB
           have BK403:=n0_
           have BK404:=n1_
           have HB:=n2_
           have BK412:=n3_
           have GW412:=n4_
           have GE412:=n5_
           have NB403_412:=n6_
           have NB412_403:=n7_
           have NB404_412:=n8_
           have NB412_404:=n9_
           clear n0_ n1_ n2_ n3_ n4_ n5_ n6_ n7_ n8_ n9_
           clear hb hbox hg
           refine hK.out _ _ ⟨(blk_cell BK404.out 0).trans rfl,(blk_cell BK404.out 1).trans rfl,((HB.out.cell (World.block_lt_of_cell? w _ hw405_0)).trans hw405_0),((HB.out.cell (World.block_lt_of_cell? w _ hw406_0)).trans hw406_0)⟩ (fun hHeld=>?_)
           clear hK K
           refine norm_ (a':=?_) ?_ ?_
           rotate_left
           ·show Act.put _ (some 7) _=_
            simp only [Act.put,List.setIfInBounds_toArray,List.set_cons_zero,List.set_cons_succ,i64_w,i32_w]
            rfl
           refine one_ (i:=9) (N:=some 32) #[tt,tt,tt,tt,tt,tt,tt,tt,tt,tt,ff,ff,ff,ff,tt,ff,ff] rfl rfl (one_of HT_.out (by kernel_rfl)) (by decide) (fun K hK=>?_)
           refine goes_ Try.func61 (by kernel_rfl) rfl #[.int .i64 (rd l0 x6_1),.int .i64 (rd l1 x6_1)] (by rfl) rfl rfl (by exact mA _ _) ?_
           with_reducible refine(outriggerref02_Mul.calls (rd l0 x6_1) (rd l1 x6_1) t407 t408 _ A13.out).mono ?_
           rintro e w17 ⟨rfl,hb⟩
           refine⟨_,rfl,?_⟩
           have n0_:=Aside0.mk (blk_below (bk BK403.out) hb)
           have n1_:=Aside0.mk (blk_below (bk BK404.out) hb)
           have n2_:=Aside0.mk (blk_below (bk BK412.out) hb)
           have n3_:=Aside0.mk (below_step (by repeat (first|with_reducible exact HB.out|exact bl HB|refine bs ?_ GE403|refine bs ?_ GE404|refine bs ?_ GE412)) hb)
           clear BK403
           clear BK404
           clear BK412
           clear HB
           have BK403:=n0_
           have BK404:=n1_
           have BK412:=n2_
           have HB:=n3_
           clear n0_ n1_ n2_ n3_
           (try clear hb)
           (try clear hb2)
           (try clear hk)
           (try clear hi)
           refine hK.out _ _ ⟨(blk_cell BK404.out 0).trans rfl,(blk_cell BK404.out 1).trans rfl,((HB.out.cell (World.block_lt_of_cell? w _ hw405_0)).trans hw405_0),((HB.out.cell (World.block_lt_of_cell? w _ hw406_0)).trans hw406_0)⟩ (fun hHeld=>?_)
           clear hK K
           refine norm_ (a':=?_) ?_ ?_
           rotate_left
           ·show Act.put _ (some 32) _=_
            simp only [Act.put,List.setIfInBounds_toArray,List.set_cons_zero,List.set_cons_succ,i64_w,i32_w]
            rfl
           refine one_ (i:=10) (N:=some 33) #[tt,tt,tt,tt,tt,tt,tt,tt,tt,tt,tt,ff,ff,ff,tt,ff,ff] rfl rfl (one_of HT_.out (by kernel_rfl)) (by decide) (fun K hK=>?_)
           refine goes_ Try.func58 (by kernel_rfl) rfl #[.agg #[.int .i64 x405000_1,.int .i64 x405001_1],.agg #[.int .i64 t407,.int .i64 t408]] (by rfl) rfl rfl (by exact mA _ _) ?_
           with_reducible refine(outriggerref02_Add.calls kj6 x405000_1 x405001_1 t407 t408 t409 t410 t411 _ A14.out).mono ?_
           rintro e w18 ⟨rfl,hb⟩
           refine⟨_,rfl,?_⟩
           have n0_:=Aside0.mk (blk_below (bk BK403.out) hb)
           have n1_:=Aside0.mk (blk_below (bk BK404.out) hb)
           have n2_:=Aside0.mk (blk_below (bk BK412.out) hb)
           have n3_:=Aside0.mk (below_step (by repeat (first|with_reducible exact HB.out|exact bl HB|refine bs ?_ GE403|refine bs ?_ GE404|refine bs ?_ GE412)) hb)
           clear BK403
           clear BK404
           clear BK412
           clear HB
           have BK403:=n0_
           have BK404:=n1_
           have BK412:=n2_
           have HB:=n3_
           clear n0_ n1_ n2_ n3_
           (try clear hb)
           (try clear hb2)
           (try clear hk)
           (try clear hi)
           refine hK.out _ _ ⟨(blk_cell BK404.out 0).trans rfl,(blk_cell BK404.out 1).trans rfl,((HB.out.cell (World.block_lt_of_cell? w _ hw405_0)).trans hw405_0),((HB.out.cell (World.block_lt_of_cell? w _ hw406_0)).trans hw406_0)⟩ (fun hHeld=>?_)
           clear hK K
           refine norm_ (a':=?_) ?_ ?_
           rotate_left
           ·show Act.put _ (some 33) _=_
            simp only [Act.put,List.setIfInBounds_toArray,List.set_cons_zero,List.set_cons_succ,i64_w,i32_w]
            rfl
           refine pure_ (i:=11) (N:=some 22) (v:=?_) (a':=?_) #[tt,tt,tt,tt,tt,tt,tt,tt,tt,tt,tt,tt,ff,ff,tt,ff,ff] rfl rfl (any_of HT_.out (by kernel_rfl)) (fun _ _ _ h=>h) (Or.inl ⟨by rfl,?_⟩) ?_ ?_
           rotate_left
           ·intro w'
            go_simp
            with_reducible rfl
           rotate_left
           ·simp only [Act.put,List.setIfInBounds_toArray,List.set_cons_zero,List.set_cons_succ,i64_w,i32_w]
            rfl
           refine pure_ (i:=12) (N:=some 34) (v:=?_) (a':=?_) #[tt,tt,tt,tt,tt,tt,tt,tt,tt,tt,tt,tt,tt,ff,tt,ff,ff] rfl rfl (any_of HT_.out (by kernel_rfl)) (fun _ _ _ h=>h) (Or.inl ⟨by rfl,?_⟩) ?_ ?_
           rotate_left
           ·intro w'
            go_simp
            with_reducible rfl
           rotate_left
           ·simp only [Act.put,List.setIfInBounds_toArray,List.set_cons_zero,List.set_cons_succ,i64_w,i32_w]
            rfl
           refine pure_ (i:=13) (N:=some 35) (v:=?_) (a':=?_) #[tt,tt,tt,tt,tt,tt,tt,tt,tt,tt,tt,tt,tt,tt,tt,ff,ff] rfl rfl (any_of HT_.out (by kernel_rfl)) (fun _ _ _ h=>h) (Or.inl ⟨by rfl,?_⟩) ?_ ?_
           rotate_left
           ·intro w'
            go_simp
            with_reducible rfl
           rotate_left
           ·simp only [Act.put,List.setIfInBounds_toArray,List.set_cons_zero,List.set_cons_succ,i64_w,i32_w]
            rfl
           exact norm_ (by simp only [putAll,Act.put,List.setIfInBounds_toArray,List.set_cons_zero,List.set_cons_succ]) (hCont (gb412) _ ⟨hHeld,(bk BK403.out),(bk BK404.out),(bk BK412.out),GW412.out,GE412.out,NB403_412.out,NB412_403.out,NB404_412.out,NB412_404.out,(by repeat (first|with_reducible exact HB.out|exact bl HB|refine bs ?_ GE403|refine bs ?_ GE404|refine bs ?_ GE412))⟩)
         rintro gb412 w19 ⟨hS_,h0_,h1_,h2_,h3_,h4_,h5_,h6_,h7_,h8_,h9_⟩
         have n0_:Aside0 (w19.heap[gb403]? = some (.cells #[.int .i64 0,.int .i64 0] 50 (0,0))):=⟨h0_⟩
         have n1_:Aside0 (w19.heap[gb404]? = some (.cells #[.int .i64 x405000_1,.int .i64 x405001_1] 50 (0,0))):=⟨h1_⟩
         have n2_:Aside0 (w19.heap[gb412]? = some (.cells #[.int .i64 0,.int .i64 0] 50 (0,0))):=⟨h2_⟩
         have n3_:Aside0 (w.heap.size≤gb412):=⟨h3_⟩
         have n4_:Aside0 (w.heap.size≤gb412):=⟨h4_⟩
         have n5_:Aside0 (gb403≠gb412):=⟨h5_⟩
         have n6_:Aside0 (gb412≠gb403):=⟨h6_⟩
         have n7_:Aside0 (gb404≠gb412):=⟨h7_⟩
         have n8_:Aside0 (gb412≠gb404):=⟨h8_⟩
         have n9_:Aside0 (Below w.heap.size w w19):=⟨h9_⟩
         clear BK403
         clear BK404
         clear HB
         clear h0_ h1_ h2_ h3_ h4_ h5_ h6_ h7_ h8_ h9_
         have BK403:=n0_
         have BK404:=n1_
         have BK412:=n2_
         have GW412:=n3_
         have GE412:=n4_
         have NB403_412:=n5_
         have NB412_403:=n6_
         have NB404_412:=n7_
         have NB412_404:=n8_
         have HB:=n9_
         clear n0_ n1_ n2_ n3_ n4_ n5_ n6_ n7_ n8_ n9_
         have hHeld:w19.cell? ⟨gb404,0,none⟩=some (.int .i64 x405000_1)∧w19.cell? ⟨gb404,1,none⟩=some (.int .i64 x405001_1)∧w19.cell? (ad405.add (x6_1).toNat)=some (.int .i64 (rd l0 x6_1))∧w19.cell? (ad406.add (x6_1).toNat)=some (.int .i64 (rd l1 x6_1)):=hS_
         refine norm_ (a':=?_) ?_ ?_
         rotate_left
         ·simp only [putAll,Act.put,List.setIfInBounds_toArray,List.set_cons_zero,List.set_cons_succ]
          rfl
         refine one_ (i:=15) (N:=none) #[tt,tt,tt,tt,tt,tt,tt,tt,tt,tt,tt,tt,tt,tt,tt,tt,ff] rfl rfl (one_of HT_.out (by kernel_rfl)) (by decide) (fun K hK=>?_)
         have hs20:w19.cell? ⟨gb412,0,none⟩=some (.int .i64 0):=(blk_cell BK412.out 0).trans rfl
         have hfs20:=blk_frozen BK412.out 0
         have hns20_0:=NB403_412.out
         have hns20_1:=NB404_412.out
         have hms20_0:=NB412_403.out
         have hms20_1:=NB412_404.out
         have hs21:w19.cell? ⟨gb412,1,none⟩=some (.int .i64 0):=(blk_cell BK412.out 1).trans rfl
         have hfs21:=blk_frozen BK412.out 1
         have hns21_0:=NB403_412.out
         have hns21_1:=NB404_412.out
         have hms21_0:=NB412_403.out
         have hms21_1:=NB412_404.out
         refine skip_ (w1:=?_) (by rfl) rfl ?_ ?_
         rotate_left
         ·go_simp
          rfl
         refine hK.out _ _ ⟨((cell_far (p:=⟨gb412,_,none⟩) NB404_412.out _).trans (((cell_far (p:=⟨gb412,_,none⟩) NB404_412.out _).trans (hHeld.1)))),((cell_far (p:=⟨gb412,_,none⟩) NB404_412.out _).trans (((cell_far (p:=⟨gb412,_,none⟩) NB404_412.out _).trans (hHeld.2.1)))),((cell_far (p:=⟨gb412,_,none⟩) (by first|exact Nat.ne_of_lt (Nat.lt_of_lt_of_le (by have:=World.block_lt_of_cell? _ _ hw405_0;first|rwa [add_block] at this|exact this) GW412.out)|(rw [add_block];exact Nat.ne_of_lt (Nat.lt_of_lt_of_le (by have:=World.block_lt_of_cell? _ _ hw405_0;first|rwa [add_block] at this|exact this) GW412.out))|(show(Addr.add _ _).block≠_;rw [add_block];exact Nat.ne_of_lt (Nat.lt_of_lt_of_le (by have:=World.block_lt_of_cell? _ _ hw405_0;first|rwa [add_block] at this|exact this) GW412.out))|(dsimp only;exact Nat.ne_of_lt (Nat.lt_of_lt_of_le (by have:=World.block_lt_of_cell? _ _ hw405_0;first|rwa [add_block] at this|exact this) GW412.out))) _).trans (((cell_far (p:=⟨gb412,_,none⟩) (by first|exact Nat.ne_of_lt (Nat.lt_of_lt_of_le (by have:=World.block_lt_of_cell? _ _ hw405_0;first|rwa [add_block] at this|exact this) GW412.out)|(rw [add_block];exact Nat.ne_of_lt (Nat.lt_of_lt_of_le (by have:=World.block_lt_of_cell? _ _ hw405_0;first|rwa [add_block] at this|exact this) GW412.out))|(show(Addr.add _ _).block≠_;rw [add_block];exact Nat.ne_of_lt (Nat.lt_of_lt_of_le (by have:=World.block_lt_of_cell? _ _ hw405_0;first|rwa [add_block] at this|exact this) GW412.out))|(dsimp only;exact Nat.ne_of_lt (Nat.lt_of_lt_of_le (by have:=World.block_lt_of_cell? _ _ hw405_0;first|rwa [add_block] at this|exact this) GW412.out))) _).trans (hHeld.2.2.1)))),((cell_far (p:=⟨gb412,_,none⟩) (by first|exact Nat.ne_of_lt (Nat.lt_of_lt_of_le (by have:=World.block_lt_of_cell? _ _ hw406_0;first|rwa [add_block] at this|exact this) GW412.out)|(rw [add_block];exact Nat.ne_of_lt (Nat.lt_of_lt_of_le (by have:=World.block_lt_of_cell? _ _ hw406_0;first|rwa [add_block] at this|exact this) GW412.out))|(show(Addr.add _ _).block≠_;rw [add_block];exact Nat.ne_of_lt (Nat.lt_of_lt_of_le (by have:=World.block_lt_of_cell? _ _ hw406_0;first|rwa [add_block] at this|exact this) GW412.out))|(dsimp only;exact Nat.ne_of_lt (Nat.lt_of_lt_of_le (by have:=World.block_lt_of_cell? _ _ hw406_0;first|rwa [add_block] at this|exact this) GW412.out))) _).trans (((cell_far (p:=⟨gb412,_,none⟩) (by first|exact Nat.ne_of_lt (Nat.lt_of_lt_of_le (by have:=World.block_lt_of_cell? _ _ hw406_0;first|rwa [add_block] at this|exact this) GW412.out)|(rw [add_block];exact Nat.ne_of_lt (Nat.lt_of_lt_of_le (by have:=World.block_lt_of_cell? _ _ hw406_0;first|rwa [add_block] at this|exact this) GW412.out))|(show(Addr.add _ _).block≠_;rw [add_block];exact Nat.ne_of_lt (Nat.lt_of_lt_of_le (by have:=World.block_lt_of_cell? _ _ hw406_0;first|rwa [add_block] at this|exact this) GW412.out))|(dsimp only;exact Nat.ne_of_lt (Nat.lt_of_lt_of_le (by have:=World.block_lt_of_cell? _ _ hw406_0;first|rwa [add_block] at this|exact this) GW412.out))) _).trans (hHeld.2.2.2))))⟩ (fun hHeld=>?_)
         clear hK K
         refine pure_ (i:=16) (N:=some 8) (v:=?_) (a':=?_) #[tt,tt,tt,tt,tt,tt,tt,tt,tt,tt,tt,tt,tt,tt,tt,tt,tt] rfl rfl (any_of HT_.out (by kernel_rfl)) (fun _ _ _ h=>h) (Or.inl ⟨by rfl,?_⟩) ?_ ?_
         rotate_left
         ·intro w'
          go_simp
          with_reducible rfl
         rotate_left
         ·simp only [Act.put,List.setIfInBounds_toArray,List.set_cons_zero,List.set_cons_succ,i64_w,i32_w]
          rfl
         refine done_ (done_of HT_.out (by kernel_rfl)) ?_
         have hnb22:=NB412_403.out
         have hnc22:=NB403_412.out
         have hnb23:=NB412_404.out
         have hnc23:=NB404_412.out
         have hcz24_0:w19.cell? ⟨gb412,0,none⟩=some (.int .i64 0):=(blk_cell BK412.out 0).trans rfl
         have hcz24_1:w19.cell? ⟨gb412,1,none⟩=some (.int .i64 0):=(blk_cell BK412.out 1).trans rfl
         have hfz24_0:=blk_frozen BK412.out 0
         have hfz24_1:=blk_frozen BK412.out 1
         have hnb25:=NB404_403.out
         have hnc25:=NB403_404.out
         have hcz26_0:w19.cell? ⟨gb404,0,none⟩=some (.int .i64 x405000_1):=(blk_cell BK404.out 0).trans rfl
         have hcz26_1:w19.cell? ⟨gb404,1,none⟩=some (.int .i64 x405001_1):=(blk_cell BK404.out 1).trans rfl
         have hfz26_0:=blk_frozen BK404.out 0
         have hfz26_1:=blk_frozen BK404.out 1
         try go_wp2
         go_roundg kj6
         case measure=>have:=HK1.out;have:=HJ6.out;omega
         case rel=>exact⟨(wrap64 (x6_1+1)),(t409),(t410),(by first|rfl|(simp;done)|(simp [*];done)),H',⟨by have:=HK1.out;have:=HJ6.out;omega⟩,⟨by try refine bk ?_;refine blk_far ?_ NB403_404.out _;try refine bk ?_;refine blk_far ?_ NB403_404.out _;try refine bk ?_;refine blk_far ?_ NB403_412.out _;try refine bk ?_;refine blk_far ?_ NB403_412.out _;try refine bk ?_;exact BK403.out⟩,⟨by try refine bk ?_;refine blk_put (cs:=#[.int .i64 t409,.int .i64 x405001_1]) ?_ 1 _ rfl;try refine bk ?_;refine blk_put (cs:=#[.int .i64 x405000_1,.int .i64 x405001_1]) ?_ 0 _ rfl;try refine bk ?_;refine blk_far ?_ NB404_412.out _;try refine bk ?_;refine blk_far ?_ NB404_412.out _;try refine bk ?_;exact BK404.out⟩,⟨by repeat (first|with_reducible exact HB.out|exact bl HB|refine bs ?_ GE403|refine bs ?_ GE404|refine bs ?_ GE412)⟩⟩
        ·rw [if_neg c12] at H
         exact absurd H (by simp)
       ·rw [if_neg c11] at H
        exact absurd H (by simp)
      ·rw [if_neg c10] at H
       exact absurd H (by simp)
     ·replace c9:=Bool.eq_false_iff.mpr c9
      subst c9
      have H1:(some (x405000_1,x405001_1))=some (r1,r2):=by rw [if_neg (show ¬(false=true) by decide)] at H;exact H
      clear H
      have H:=H1
      clear H1
      simp only [Option.some.injEq,Prod.mk.injEq] at H
      obtain⟨rfl,rfl⟩:=H
      have hnb27:=NB404_403.out
      have hnc27:=NB403_404.out
      have hcz28_0:wc.cell? ⟨gb404,0,none⟩=some (.int .i64 x405000_1):=(blk_cell BK404.out 0).trans rfl
      have hcz28_1:wc.cell? ⟨gb404,1,none⟩=some (.int .i64 x405001_1):=(blk_cell BK404.out 1).trans rfl
      have hfz28_0:=blk_frozen BK404.out 0
      have hfz28_1:=blk_frozen BK404.out 1
      have hcz29_0:wc.cell? ⟨gb403,0,none⟩=some (.int .i64 0):=(blk_cell BK403.out 0).trans rfl
      have hcz29_1:wc.cell? ⟨gb403,1,none⟩=some (.int .i64 0):=(blk_cell BK403.out 1).trans rfl
      have hfz29_0:=blk_frozen BK403.out 0
      have hfz29_1:=blk_frozen BK403.out 1
      go_wp2
      refine bodyPost_ret (results_cell_row rfl _ _ gb403 50 #[.int .i64 x405000_1,.int .i64 x405001_1] (0,0) _ rfl (by try refine bk ?_;refine blk_put (cs:=#[.int .i64 x405000_1,.int .i64 0]) ?_ 1 _ rfl;try refine bk ?_;refine blk_put (cs:=#[.int .i64 0,.int .i64 0]) ?_ 0 _ rfl;try refine bk ?_;exact BK403.out) Try.underlying50 rfl (by kernel_rfl)) rfl ?_
      exact⟨by first|rfl|(simp [errW_none,errW_some]<;>rfl)|(simp [*,errW_none,errW_some]<;>rfl),by repeat (first|with_reducible exact HB.out|exact bl HB|refine bs ?_ GE403|refine bs ?_ GE404)⟩
end Go.Proofs.Ytembdogffbcjiaa.B
