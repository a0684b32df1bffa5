/- Lemmas of the row, laid by a program. -/
import Derived.Test.YtembdogffbcjiaaYB0
import Derived.Test.YtembdogffbcjiaaYB1
import Derived.Test.YtembdogffbcjiaaYB2
namespace Go.Proofs.Ytembdogffbcjiaa.B
open Go.RowKit Go.Proofs.YtembdogffbcjiaaW.PrintWords Go.Proofs.YtembdogffbcjiaaW.PrintLast Go.Proofs.YtembdogffbcjiaaW.PrintMore
attribute [local go_sem] max2_int min2_int max_two min_two max_three min_three max_four min_four
set_option linter.unusedVariables false
set_option linter.unusedSimpArgs false
attribute [local go_sem high] eqA50
def wide_Add.f (a0_0:Int) (a0_1:Int) (a1_0:Int) (a1_1:Int):Option (Int × Int × Bool):=(wide_known.f a0_0 a0_1).bind fun bt138=>((wide_known.f a1_0 a1_1).bind fun bt140=>((wide_known.f (wrap64 ((wrap64 (bt138.1+bt140.1))+(wrap64 ((IntKind.u64.wrap ((IntKind.u64.wrap (bt138.2))+(IntKind.u64.wrap (bt140.2))))/4611686018427387904)))) (wrap64 (Go.bits .and .u64 (IntKind.u64.wrap ((IntKind.u64.wrap (bt138.2))+(IntKind.u64.wrap (bt140.2)))) 4611686018427387903))).bind fun bt143=>(if (!(bt143.1 == (wrap64 ((wrap64 (bt138.1+bt140.1))+(wrap64 ((IntKind.u64.wrap ((IntKind.u64.wrap (bt138.2))+(IntKind.u64.wrap (bt140.2))))/4611686018427387904))))) || (!(bt143.2 == (wrap64 (Go.bits .and .u64 (IntKind.u64.wrap ((IntKind.u64.wrap (bt138.2))+(IntKind.u64.wrap (bt140.2)))) 4611686018427387903)))))=true then (some (0,0,false)) else (some (wrap64 ((wrap64 (bt138.1+bt140.1))+(wrap64 ((IntKind.u64.wrap ((IntKind.u64.wrap (bt138.2))+(IntKind.u64.wrap (bt140.2))))/4611686018427387904))),wrap64 (Go.bits .and .u64 (IntKind.u64.wrap ((IntKind.u64.wrap (bt138.2))+(IntKind.u64.wrap (bt140.2)))) 4611686018427387903),true)))))
set_option maxHeartbeats 8000000 in
set_option maxRecDepth 100000 in
theorem wide_Add.calls (a0_0:Int) (a0_1:Int) (a1_0:Int) (a1_1:Int) (r1:Int) (r2:Int) (r3:Bool) (w:World) (h:wide_Add.f a0_0 a0_1 a1_0 a1_1=some (r1,r2,r3)) :
  Calls Try.prog 63 #[.agg #[.int .i64 a0_0,.int .i64 a0_1],.agg #[.int .i64 a1_0,.int .i64 a1_1]] w fun e w'=>e=.returned (.tuple #[.agg #[.int .i64 r1,.int .i64 r2],.bool r3])∧Below w.heap.size w w':=by
 have hu50:=Try.underlying50
 have HB:=Aside0.mk (Below.refl w.heap.size w)
 have H:((wide_known.f a0_0 a0_1).bind fun bt138=>((wide_known.f a1_0 a1_1).bind fun bt140=>((wide_known.f (wrap64 ((wrap64 (bt138.1+bt140.1))+(wrap64 ((IntKind.u64.wrap ((IntKind.u64.wrap (bt138.2))+(IntKind.u64.wrap (bt140.2))))/4611686018427387904)))) (wrap64 (Go.bits .and .u64 (IntKind.u64.wrap ((IntKind.u64.wrap (bt138.2))+(IntKind.u64.wrap (bt140.2)))) 4611686018427387903))).bind fun bt143=>(if (!(bt143.1 == (wrap64 ((wrap64 (bt138.1+bt140.1))+(wrap64 ((IntKind.u64.wrap ((IntKind.u64.wrap (bt138.2))+(IntKind.u64.wrap (bt140.2))))/4611686018427387904))))) || (!(bt143.2 == (wrap64 (Go.bits .and .u64 (IntKind.u64.wrap ((IntKind.u64.wrap (bt138.2))+(IntKind.u64.wrap (bt140.2)))) 4611686018427387903)))))=true then (some (0,0,false)) else (some (wrap64 ((wrap64 (bt138.1+bt140.1))+(wrap64 ((IntKind.u64.wrap ((IntKind.u64.wrap (bt138.2))+(IntKind.u64.wrap (bt140.2))))/4611686018427387904))),wrap64 (Go.bits .and .u64 (IntKind.u64.wrap ((IntKind.u64.wrap (bt138.2))+(IntKind.u64.wrap (bt140.2)))) 4611686018427387903),true))))))=some (r1,r2,r3):=h
 clear h
 replace H:=Option.bind_eq_some_iff.mp H
 obtain⟨⟨t138,t139⟩,A30,H⟩:=H
 replace H:((wide_known.f a1_0 a1_1).bind fun bt140=>((wide_known.f (wrap64 ((wrap64 (t138+bt140.1))+(wrap64 ((IntKind.u64.wrap ((IntKind.u64.wrap (t139))+(IntKind.u64.wrap (bt140.2))))/4611686018427387904)))) (wrap64 (Go.bits .and .u64 (IntKind.u64.wrap ((IntKind.u64.wrap (t139))+(IntKind.u64.wrap (bt140.2)))) 4611686018427387903))).bind fun bt143=>(if (!(bt143.1 == (wrap64 ((wrap64 (t138+bt140.1))+(wrap64 ((IntKind.u64.wrap ((IntKind.u64.wrap (t139))+(IntKind.u64.wrap (bt140.2))))/4611686018427387904))))) || (!(bt143.2 == (wrap64 (Go.bits .and .u64 (IntKind.u64.wrap ((IntKind.u64.wrap (t139))+(IntKind.u64.wrap (bt140.2)))) 4611686018427387903)))))=true then (some (0,0,false)) else (some (wrap64 ((wrap64 (t138+bt140.1))+(wrap64 ((IntKind.u64.wrap ((IntKind.u64.wrap (t139))+(IntKind.u64.wrap (bt140.2))))/4611686018427387904))),wrap64 (Go.bits .and .u64 (IntKind.u64.wrap ((IntKind.u64.wrap (t139))+(IntKind.u64.wrap (bt140.2)))) 4611686018427387903),true)))))=some (r1,r2,r3):=H
 have A3:=Aside0.mk A30
 clear A30
 replace H:=Option.bind_eq_some_iff.mp H
 obtain⟨⟨t140,t141⟩,A40,H⟩:=H
 replace H:((wide_known.f (wrap64 ((wrap64 (t138+t140))+(wrap64 ((IntKind.u64.wrap ((IntKind.u64.wrap (t139))+(IntKind.u64.wrap (t141))))/4611686018427387904)))) (wrap64 (Go.bits .and .u64 (IntKind.u64.wrap ((IntKind.u64.wrap (t139))+(IntKind.u64.wrap (t141)))) 4611686018427387903))).bind fun bt143=>(if (!(bt143.1 == (wrap64 ((wrap64 (t138+t140))+(wrap64 ((IntKind.u64.wrap ((IntKind.u64.wrap (t139))+(IntKind.u64.wrap (t141))))/4611686018427387904))))) || (!(bt143.2 == (wrap64 (Go.bits .and .u64 (IntKind.u64.wrap ((IntKind.u64.wrap (t139))+(IntKind.u64.wrap (t141)))) 4611686018427387903)))))=true then (some (0,0,false)) else (some (wrap64 ((wrap64 (t138+t140))+(wrap64 ((IntKind.u64.wrap ((IntKind.u64.wrap (t139))+(IntKind.u64.wrap (t141))))/4611686018427387904))),wrap64 (Go.bits .and .u64 (IntKind.u64.wrap ((IntKind.u64.wrap (t139))+(IntKind.u64.wrap (t141)))) 4611686018427387903),true))))=some (r1,r2,r3):=H
 have A4:=Aside0.mk A40
 clear A40
 replace H:=Option.bind_eq_some_iff.mp H
 obtain⟨⟨t143,t144⟩,A50,H⟩:=H
 replace H:(if (!(t143 == (wrap64 ((wrap64 (t138+t140))+(wrap64 ((IntKind.u64.wrap ((IntKind.u64.wrap (t139))+(IntKind.u64.wrap (t141))))/4611686018427387904))))) || (!(t144 == (wrap64 (Go.bits .and .u64 (IntKind.u64.wrap ((IntKind.u64.wrap (t139))+(IntKind.u64.wrap (t141)))) 4611686018427387903)))))=true then (some (0,0,false)) else (some (wrap64 ((wrap64 (t138+t140))+(wrap64 ((IntKind.u64.wrap ((IntKind.u64.wrap (t139))+(IntKind.u64.wrap (t141))))/4611686018427387904))),wrap64 (Go.bits .and .u64 (IntKind.u64.wrap ((IntKind.u64.wrap (t139))+(IntKind.u64.wrap (t141)))) 4611686018427387903),true)))=some (r1,r2,r3):=H
 have A5:=Aside0.mk A50
 clear A50
 by_cases c6:(!(t143 == (wrap64 ((wrap64 (t138+t140))+(wrap64 ((IntKind.u64.wrap ((IntKind.u64.wrap (t139))+(IntKind.u64.wrap (t141))))/4611686018427387904))))) || (!(t144 == (wrap64 (Go.bits .and .u64 (IntKind.u64.wrap ((IntKind.u64.wrap (t139))+(IntKind.u64.wrap (t141)))) 4611686018427387903)))))=true
 ·rw [if_pos c6] at H
  have c6b0:(!(t143 == (wrap64 ((wrap64 (t138+t140))+(wrap64 ((IntKind.u64.wrap ((IntKind.u64.wrap (t139))+(IntKind.u64.wrap (t141))))/4611686018427387904))))) || (!(t144 == (wrap64 (Go.bits .and .u64 (IntKind.u64.wrap ((IntKind.u64.wrap (t139))+(IntKind.u64.wrap (t141)))) 4611686018427387903)))))=true:=c6
  clear c6
  simp only [Option.some.injEq,Prod.mk.injEq] at H
  obtain⟨rfl,rfl,rfl⟩:=H
  go_enter Try.func63,Try.ntmps63
  try go_wp2_with (first|((with_reducible refine gate_dst (N:=2) rfl ?_);refine box_event ?hg (N:=2) ?hd (cs:=#[.int .i64 a0_0,.int .i64 a0_1]) (t:=50) ?hr ?_;(case hd=>rfl);(case hg=>rfl);(case hr=>first|(go_simp;done)|(go_simp;rfl));intro gb135 hg w7 hbox hb;have n0_:=Aside0.mk (below_step (by first|with_reducible exact HB.out|exact bl HB) hb);have n1_:=Aside0.mk (hbox);have n2_:=Aside0.mk ((by rw [hg];exact(below_size (by first|with_reducible exact HB.out|exact bl HB)):w.heap.size≤gb135));have n3_:=Aside0.mk ((by rw [hg];exact(below_size (by first|with_reducible exact HB.out|exact bl HB)):w.heap.size≤gb135));clear HB;have HB:=n0_;have BK135:=n1_;have GW135:=n2_;have GE135:=n3_;clear n0_ n1_ n2_ n3_;clear hb hbox hg)|((with_reducible refine gate_dst (N:=3) rfl ?_);refine box_event ?hg (N:=3) ?hd (cs:=#[.int .i64 a1_0,.int .i64 a1_1]) (t:=50) ?hr ?_;(case hd=>rfl);(case hg=>rfl);(case hr=>first|(go_simp;done)|(go_simp;rfl));intro gb136 hg w8 hbox hb;have n0_:=Aside0.mk (blk_below (bk BK135.out) hb);have n1_:=Aside0.mk (below_step (by repeat (first|with_reducible exact HB.out|exact bl HB|refine bs ?_ GE135)) hb);have n2_:=Aside0.mk (hbox);have n3_:=Aside0.mk ((by rw [hg];exact(below_size (by repeat (first|with_reducible exact HB.out|exact bl HB|refine bs ?_ GE135))):w.heap.size≤gb136));have n4_:=Aside0.mk ((by rw [hg];exact(below_size (by repeat (first|with_reducible exact HB.out|exact bl HB|refine bs ?_ GE135))):w.heap.size≤gb136));have n5_:=Aside0.mk ((by rw [hg];exact Nat.ne_of_lt (blk_lt (bk BK135.out)):gb135≠gb136));have n6_:=Aside0.mk ((by rw [hg];exact Nat.ne_of_gt (blk_lt (bk BK135.out)):gb136≠gb135));clear BK135;clear HB;have BK135:=n0_;have HB:=n1_;have BK136:=n2_;have GW136:=n3_;have GE136:=n4_;have NB135_136:=n5_;have NB136_135:=n6_;clear n0_ n1_ n2_ n3_ n4_ n5_ n6_;clear hb hbox hg)|((with_reducible refine gate_dst (N:=4) rfl ?_);refine box_event ?hg (N:=4) ?hd (cs:=#[.int .i64 0,.int .i64 0]) (t:=50) ?hr ?_;(case hd=>rfl);(case hg=>rfl);(case hr=>first|(go_simp;done)|(go_simp;rfl));intro gb137 hg w9 hbox hb;have n0_:=Aside0.mk (blk_below (bk BK135.out) hb);have n1_:=Aside0.mk (blk_below (bk BK136.out) hb);have n2_:=Aside0.mk (below_step (by repeat (first|with_reducible exact HB.out|exact bl HB|refine bs ?_ GE135|refine bs ?_ GE136)) hb);have n3_:=Aside0.mk (hbox);have n4_:=Aside0.mk ((by rw [hg];exact(below_size (by repeat (first|with_reducible exact HB.out|exact bl HB|refine bs ?_ GE135|refine bs ?_ GE136))):w.heap.size≤gb137));have n5_:=Aside0.mk ((by rw [hg];exact(below_size (by repeat (first|with_reducible exact HB.out|exact bl HB|refine bs ?_ GE135|refine bs ?_ GE136))):w.heap.size≤gb137));have n6_:=Aside0.mk ((by rw [hg];exact Nat.ne_of_lt (blk_lt (bk BK135.out)):gb135≠gb137));have n7_:=Aside0.mk ((by rw [hg];exact Nat.ne_of_gt (blk_lt (bk BK135.out)):gb137≠gb135));have n8_:=Aside0.mk ((by rw [hg];exact Nat.ne_of_lt (blk_lt (bk BK136.out)):gb136≠gb137));have n9_:=Aside0.mk ((by rw [hg];exact Nat.ne_of_gt (blk_lt (bk BK136.out)):gb137≠gb136));clear BK135;clear BK136;clear HB;have BK135:=n0_;have BK136:=n1_;have HB:=n2_;have BK137:=n3_;have GW137:=n4_;have GE137:=n5_;have NB135_137:=n6_;have NB137_135:=n7_;have NB136_137:=n8_;have NB137_136:=n9_;clear n0_ n1_ n2_ n3_ n4_ n5_ n6_ n7_ n8_ n9_;clear hb hbox hg))
  have n0_:=Aside0.mk (blk_drew BK135.out)
  have n1_:=Aside0.mk (blk_drew BK136.out)
  have n2_:=Aside0.mk (blk_drew BK137.out)
  have n3_:=Aside0.mk (below_drew1 HB.out)
  clear BK135
  clear BK136
  clear BK137
  clear HB
  have BK135:=n0_
  have BK136:=n1_
  have BK137:=n2_
  have HB:=n3_
  clear n0_ n1_ n2_ n3_
  refine start_ (n:=6) (S:=fun w'=>w'.cell? ⟨gb135,0,none⟩=some (.int .i64 a0_0)∧w'.cell? ⟨gb135,1,none⟩=some (.int .i64 a0_1)∧w'.cell? ⟨gb136,0,none⟩=some (.int .i64 a1_0)∧w'.cell? ⟨gb136,1,none⟩=some (.int .i64 a1_1)) (ds:=[4,5]) #[ff,ff,ff,ff,ff,ff] (by kernel_rfl) rfl rfl ⟨(blk_cell BK135.out 0).trans rfl,(blk_cell BK135.out 1).trans rfl,(blk_cell BK136.out 0).trans rfl,(blk_cell BK136.out 1).trans rfl⟩ (fun hHeld=>?_)
  generalize w9.drew=w10 at BK135 BK136 BK137 HB hHeld ⊢
  refine take_ (i:=0) (N:=some 8) (v:=?_) (a':=?_) #[tt,ff,ff,ff,ff,ff] rfl rfl (by kernel_rfl) (fun _ _ _ h=>h) (Or.inl ⟨by rfl,?_⟩) hHeld ?_ ?_
  rotate_left
  ·rintro w' ⟨s0,s1,s2,s3⟩
   go_simp
   with_reducible rfl
  rotate_left
  ·simp only [Act.put,List.setIfInBounds_toArray,List.set_cons_zero,List.set_cons_succ,i64_w,i32_w]
   rfl
  refine take_ (i:=2) (N:=some 10) (v:=?_) (a':=?_) #[tt,ff,tt,ff,ff,ff] rfl rfl (by kernel_rfl) (fun _ _ _ h=>h) (Or.inl ⟨by rfl,?_⟩) hHeld ?_ ?_
  rotate_left
  ·rintro w' ⟨s0,s1,s2,s3⟩
   go_simp
   with_reducible rfl
  rotate_left
  ·simp only [Act.put,List.setIfInBounds_toArray,List.set_cons_zero,List.set_cons_succ,i64_w,i32_w]
   rfl
  refine one_ (i:=1) (N:=some 9) #[tt,tt,tt,ff,ff,ff] rfl rfl (by kernel_rfl) (by decide) (fun K hK=>?_)
  refine goes_ Try.func62 (by kernel_rfl) rfl #[.agg #[.int .i64 a0_0,.int .i64 a0_1]] (by rfl) rfl rfl (by exact mA _ _) ?_
  with_reducible refine(wide_known.calls a0_0 a0_1 t138 t139 _ A3.out).mono ?_
  rintro e w11 ⟨rfl,hb⟩
  refine⟨_,rfl,?_⟩
  have n0_:=Aside0.mk (blk_below (bk BK135.out) hb)
  have n1_:=Aside0.mk (blk_below (bk BK136.out) hb)
  have n2_:=Aside0.mk (blk_below (bk BK137.out) hb)
  have n3_:=Aside0.mk (below_step (by repeat (first|with_reducible exact HB.out|exact bl HB|refine bs ?_ GE135|refine bs ?_ GE136|refine bs ?_ GE137)) hb)
  clear BK135
  clear BK136
  clear BK137
  clear HB
  have BK135:=n0_
  have BK136:=n1_
  have BK137:=n2_
  have HB:=n3_
  clear n0_ n1_ n2_ n3_
  (try clear hb)
  (try clear hb2)
  (try clear hk)
  (try clear hi)
  refine hK.out _ _ ⟨(blk_cell BK135.out 0).trans rfl,(blk_cell BK135.out 1).trans rfl,(blk_cell BK136.out 0).trans rfl,(blk_cell BK136.out 1).trans rfl⟩ (fun hHeld=>?_)
  clear hK K
  refine norm_ (a':=?_) ?_ ?_
  rotate_left
  ·show Act.put _ (some 9) _=_
   simp only [Act.put,List.setIfInBounds_toArray,List.set_cons_zero,List.set_cons_succ,i64_w,i32_w]
   rfl
  refine one_ (i:=3) (N:=some 11) #[tt,tt,tt,tt,ff,ff] rfl rfl (by kernel_rfl) (by decide) (fun K hK=>?_)
  refine goes_ Try.func62 (by kernel_rfl) rfl #[.agg #[.int .i64 a1_0,.int .i64 a1_1]] (by rfl) rfl rfl (by exact mA _ _) ?_
  with_reducible refine(wide_known.calls a1_0 a1_1 t140 t141 _ A4.out).mono ?_
  rintro e w12 ⟨rfl,hb⟩
  refine⟨_,rfl,?_⟩
  have n0_:=Aside0.mk (blk_below (bk BK135.out) hb)
  have n1_:=Aside0.mk (blk_below (bk BK136.out) hb)
  have n2_:=Aside0.mk (blk_below (bk BK137.out) hb)
  have n3_:=Aside0.mk (below_step (by repeat (first|with_reducible exact HB.out|exact bl HB|refine bs ?_ GE135|refine bs ?_ GE136|refine bs ?_ GE137)) hb)
  clear BK135
  clear BK136
  clear BK137
  clear HB
  have BK135:=n0_
  have BK136:=n1_
  have BK137:=n2_
  have HB:=n3_
  clear n0_ n1_ n2_ n3_
  (try clear hb)
  (try clear hb2)
  (try clear hk)
  (try clear hi)
  refine hK.out _ _ ⟨(blk_cell BK135.out 0).trans rfl,(blk_cell BK135.out 1).trans rfl,(blk_cell BK136.out 0).trans rfl,(blk_cell BK136.out 1).trans rfl⟩ (fun hHeld=>?_)
  clear hK K
  refine norm_ (a':=?_) ?_ ?_
  rotate_left
  ·show Act.put _ (some 11) _=_
   simp only [Act.put,List.setIfInBounds_toArray,List.set_cons_zero,List.set_cons_succ,i64_w,i32_w]
   rfl
  refine last_ (i:=4) (N:=none) #[tt,tt,tt,tt,tt,ff] rfl rfl (by kernel_rfl) (by decide) (fun K hK=>?_)
  have hs13:w12.cell? ⟨gb135,0,none⟩=some (.int .i64 a0_0):=(blk_cell BK135.out 0).trans rfl
  have hfs13:=blk_frozen BK135.out 0
  have hns13_1:=NB136_135.out
  have hns13_2:=NB137_135.out
  have hms13_1:=NB135_136.out
  have hms13_2:=NB135_137.out
  have hs14:w12.cell? ⟨gb135,1,none⟩=some (.int .i64 a0_1):=(blk_cell BK135.out 1).trans rfl
  have hfs14:=blk_frozen BK135.out 1
  have hns14_1:=NB136_135.out
  have hns14_2:=NB137_135.out
  have hms14_1:=NB135_136.out
  have hms14_2:=NB135_137.out
  refine skip_ (w1:=?_) (by rfl) rfl ?_ ?_
  rotate_left
  ·go_simp
   rfl
  refine hK.out _ _ ?_
  clear hK K
  refine last_ (i:=5) (N:=none) #[tt,tt,tt,tt,tt,tt] rfl rfl (by kernel_rfl) (by decide) (fun K hK=>?_)
  have hs15:w12.cell? ⟨gb136,0,none⟩=some (.int .i64 a1_0):=(blk_cell BK136.out 0).trans rfl
  have hfs15:=blk_frozen BK136.out 0
  have hns15_0:=NB135_136.out
  have hns15_2:=NB137_136.out
  have hms15_0:=NB136_135.out
  have hms15_2:=NB136_137.out
  have hs16:w12.cell? ⟨gb136,1,none⟩=some (.int .i64 a1_1):=(blk_cell BK136.out 1).trans rfl
  have hfs16:=blk_frozen BK136.out 1
  have hns16_0:=NB135_136.out
  have hns16_2:=NB137_136.out
  have hms16_0:=NB136_135.out
  have hms16_2:=NB136_137.out
  refine skip_ (w1:=?_) (by rfl) rfl ?_ ?_
  rotate_left
  ·go_simp
   rfl
  refine hK.out _ _ ?_
  clear hK K
  refine done_ (by kernel_rfl) ?_
  have hnb17:=NB135_136.out
  have hnc17:=NB136_135.out
  have hnb18:=NB135_137.out
  have hnc18:=NB137_135.out
  have hcz19_0:w12.cell? ⟨gb135,0,none⟩=some (.int .i64 a0_0):=(blk_cell BK135.out 0).trans rfl
  have hcz19_1:w12.cell? ⟨gb135,1,none⟩=some (.int .i64 a0_1):=(blk_cell BK135.out 1).trans rfl
  have hfz19_0:=blk_frozen BK135.out 0
  have hfz19_1:=blk_frozen BK135.out 1
  have hnb20:=NB136_137.out
  have hnc20:=NB137_136.out
  have hcz21_0:w12.cell? ⟨gb136,0,none⟩=some (.int .i64 a1_0):=(blk_cell BK136.out 0).trans rfl
  have hcz21_1:w12.cell? ⟨gb136,1,none⟩=some (.int .i64 a1_1):=(blk_cell BK136.out 1).trans rfl
  have hfz21_0:=blk_frozen BK136.out 0
  have hfz21_1:=blk_frozen BK136.out 1
  try go_wp2_with (first|((with_reducible refine gate_dst (N:=7) rfl ?_);refine box_event ?hg (N:=7) ?hd (cs:=#[.int .i64 0,.int .i64 0]) (t:=50) ?hr ?_;(case hd=>rfl);(case hg=>rfl);(case hr=>first|(go_simp;done)|(go_simp;rfl));intro gb142 hg w22 hbox hb;have n0_:=Aside0.mk (blk_below (g:=gb135) (o:=.cells #[.int .i64 t138,.int .i64 t139] 50 (0,0)) (by try refine bk ?_;refine blk_far ?_ NB135_136.out _;try refine bk ?_;refine blk_far ?_ NB135_136.out _;try refine bk ?_;refine blk_put (cs:=#[.int .i64 t138,.int .i64 a0_1]) ?_ 1 _ rfl;try refine bk ?_;refine blk_put (cs:=#[.int .i64 a0_0,.int .i64 a0_1]) ?_ 0 _ rfl;try refine bk ?_;exact BK135.out) hb);have n1_:=Aside0.mk (blk_below (g:=gb136) (o:=.cells #[.int .i64 t140,.int .i64 t141] 50 (0,0)) (by try refine bk ?_;refine blk_put (cs:=#[.int .i64 t140,.int .i64 a1_1]) ?_ 1 _ rfl;try refine bk ?_;refine blk_put (cs:=#[.int .i64 a1_0,.int .i64 a1_1]) ?_ 0 _ rfl;try refine bk ?_;refine blk_far ?_ NB136_135.out _;try refine bk ?_;refine blk_far ?_ NB136_135.out _;try refine bk ?_;exact BK136.out) hb);have n2_:=Aside0.mk (blk_below (g:=gb137) (o:=.cells #[.int .i64 0,.int .i64 0] 50 (0,0)) (by try refine bk ?_;refine blk_far ?_ NB137_136.out _;try refine bk ?_;refine blk_far ?_ NB137_136.out _;try refine bk ?_;refine blk_far ?_ NB137_135.out _;try refine bk ?_;refine blk_far ?_ NB137_135.out _;try refine bk ?_;exact BK137.out) hb);have n3_:=Aside0.mk (below_step (by repeat (first|with_reducible exact HB.out|exact bl HB|refine bs ?_ GE135|refine bs ?_ GE136|refine bs ?_ GE137)) hb);have n4_:=Aside0.mk (hbox);have n5_:=Aside0.mk ((by rw [hg];exact(below_size (by repeat (first|with_reducible exact HB.out|exact bl HB|refine bs ?_ GE135|refine bs ?_ GE136|refine bs ?_ GE137))):w.heap.size≤gb142));have n6_:=Aside0.mk ((by rw [hg];exact(below_size (by repeat (first|with_reducible exact HB.out|exact bl HB|refine bs ?_ GE135|refine bs ?_ GE136|refine bs ?_ GE137))):w.heap.size≤gb142));have n7_:=Aside0.mk ((by rw [hg];exact Nat.ne_of_lt (blk_lt (g:=gb135) (o:=.cells #[.int .i64 t138,.int .i64 t139] 50 (0,0)) (by try refine bk ?_;refine blk_far ?_ NB135_136.out _;try refine bk ?_;refine blk_far ?_ NB135_136.out _;try refine bk ?_;refine blk_put (cs:=#[.int .i64 t138,.int .i64 a0_1]) ?_ 1 _ rfl;try refine bk ?_;refine blk_put (cs:=#[.int .i64 a0_0,.int .i64 a0_1]) ?_ 0 _ rfl;try refine bk ?_;exact BK135.out)):gb135≠gb142));have n8_:=Aside0.mk ((by rw [hg];exact Nat.ne_of_gt (blk_lt (g:=gb135) (o:=.cells #[.int .i64 t138,.int .i64 t139] 50 (0,0)) (by try refine bk ?_;refine blk_far ?_ NB135_136.out _;try refine bk ?_;refine blk_far ?_ NB135_136.out _;try refine bk ?_;refine blk_put (cs:=#[.int .i64 t138,.int .i64 a0_1]) ?_ 1 _ rfl;try refine bk ?_;refine blk_put (cs:=#[.int .i64 a0_0,.int .i64 a0_1]) ?_ 0 _ rfl;try refine bk ?_;exact BK135.out)):gb142≠gb135));have n9_:=Aside0.mk ((by rw [hg];exact Nat.ne_of_lt (blk_lt (g:=gb136) (o:=.cells #[.int .i64 t140,.int .i64 t141] 50 (0,0)) (by try refine bk ?_;refine blk_put (cs:=#[.int .i64 t140,.int .i64 a1_1]) ?_ 1 _ rfl;try refine bk ?_;refine blk_put (cs:=#[.int .i64 a1_0,.int .i64 a1_1]) ?_ 0 _ rfl;try refine bk ?_;refine blk_far ?_ NB136_135.out _;try refine bk ?_;refine blk_far ?_ NB136_135.out _;try refine bk ?_;exact BK136.out)):gb136≠gb142));have n10_:=Aside0.mk ((by rw [hg];exact Nat.ne_of_gt (blk_lt (g:=gb136) (o:=.cells #[.int .i64 t140,.int .i64 t141] 50 (0,0)) (by try refine bk ?_;refine blk_put (cs:=#[.int .i64 t140,.int .i64 a1_1]) ?_ 1 _ rfl;try refine bk ?_;refine blk_put (cs:=#[.int .i64 a1_0,.int .i64 a1_1]) ?_ 0 _ rfl;try refine bk ?_;refine blk_far ?_ NB136_135.out _;try refine bk ?_;refine blk_far ?_ NB136_135.out _;try refine bk ?_;exact BK136.out)):gb142≠gb136));have n11_:=Aside0.mk ((by rw [hg];exact Nat.ne_of_lt (blk_lt (g:=gb137) (o:=.cells #[.int .i64 0,.int .i64 0] 50 (0,0)) (by try refine bk ?_;refine blk_far ?_ NB137_136.out _;try refine bk ?_;refine blk_far ?_ NB137_136.out _;try refine bk ?_;refine blk_far ?_ NB137_135.out _;try refine bk ?_;refine blk_far ?_ NB137_135.out _;try refine bk ?_;exact BK137.out)):gb137≠gb142));have n12_:=Aside0.mk ((by rw [hg];exact Nat.ne_of_gt (blk_lt (g:=gb137) (o:=.cells #[.int .i64 0,.int .i64 0] 50 (0,0)) (by try refine bk ?_;refine blk_far ?_ NB137_136.out _;try refine bk ?_;refine blk_far ?_ NB137_136.out _;try refine bk ?_;refine blk_far ?_ NB137_135.out _;try refine bk ?_;refine blk_far ?_ NB137_135.out _;try refine bk ?_;exact BK137.out)):gb142≠gb137));clear BK135;clear BK136;clear BK137;clear HB;have BK135:=n0_;have BK136:=n1_;have BK137:=n2_;have HB:=n3_;have BK142:=n4_;have GW142:=n5_;have GE142:=n6_;have NB135_142:=n7_;have NB142_135:=n8_;have NB136_142:=n9_;have NB142_136:=n10_;have NB137_142:=n11_;have NB142_137:=n12_;clear n0_ n1_ n2_ n3_ n4_ n5_ n6_ n7_ n8_ n9_ n10_ n11_ n12_;clear hb hbox hg;have hnb23:=NB142_135.out;have hnc23:=NB135_142.out;have hnb24:=NB142_136.out;have hnc24:=NB136_142.out;have hnb25:=NB142_137.out;have hnc25:=NB137_142.out;have hcz26_0:w22.cell? ⟨gb142,0,none⟩=some (.int .i64 0):=(blk_cell BK142.out 0).trans rfl;have hcz26_1:w22.cell? ⟨gb142,1,none⟩=some (.int .i64 0):=(blk_cell BK142.out 1).trans rfl;have hfz26_0:=blk_frozen BK142.out 0;have hfz26_1:=blk_frozen BK142.out 1))
  have n0_:Aside0 (((w22.setCell ⟨gb142,0,none⟩ (.int .i64 (wrap64 ((wrap64 (t138+t140))+(wrap64 ((IntKind.u64.wrap ((IntKind.u64.wrap (t139))+(IntKind.u64.wrap (t141))))/4611686018427387904)))))).setCell ⟨gb142,1,none⟩ (.int .i64 (wrap64 (Go.bits .and .u64 (IntKind.u64.wrap ((IntKind.u64.wrap (t139))+(IntKind.u64.wrap (t141)))) 4611686018427387903)))).heap[gb135]? = some (.cells #[.int .i64 t138,.int .i64 t139] 50 (0,0))):=⟨by try refine bk ?_;refine blk_far ?_ NB135_142.out _;try refine bk ?_;refine blk_far ?_ NB135_142.out _;try refine bk ?_;exact BK135.out⟩
  have n1_:Aside0 (((w22.setCell ⟨gb142,0,none⟩ (.int .i64 (wrap64 ((wrap64 (t138+t140))+(wrap64 ((IntKind.u64.wrap ((IntKind.u64.wrap (t139))+(IntKind.u64.wrap (t141))))/4611686018427387904)))))).setCell ⟨gb142,1,none⟩ (.int .i64 (wrap64 (Go.bits .and .u64 (IntKind.u64.wrap ((IntKind.u64.wrap (t139))+(IntKind.u64.wrap (t141)))) 4611686018427387903)))).heap[gb136]? = some (.cells #[.int .i64 t140,.int .i64 t141] 50 (0,0))):=⟨by try refine bk ?_;refine blk_far ?_ NB136_142.out _;try refine bk ?_;refine blk_far ?_ NB136_142.out _;try refine bk ?_;exact BK136.out⟩
  have n2_:Aside0 (((w22.setCell ⟨gb142,0,none⟩ (.int .i64 (wrap64 ((wrap64 (t138+t140))+(wrap64 ((IntKind.u64.wrap ((IntKind.u64.wrap (t139))+(IntKind.u64.wrap (t141))))/4611686018427387904)))))).setCell ⟨gb142,1,none⟩ (.int .i64 (wrap64 (Go.bits .and .u64 (IntKind.u64.wrap ((IntKind.u64.wrap (t139))+(IntKind.u64.wrap (t141)))) 4611686018427387903)))).heap[gb137]? = some (.cells #[.int .i64 0,.int .i64 0] 50 (0,0))):=⟨by try refine bk ?_;refine blk_far ?_ NB137_142.out _;try refine bk ?_;refine blk_far ?_ NB137_142.out _;try refine bk ?_;exact BK137.out⟩
  have n3_:Aside0 (((w22.setCell ⟨gb142,0,none⟩ (.int .i64 (wrap64 ((wrap64 (t138+t140))+(wrap64 ((IntKind.u64.wrap ((IntKind.u64.wrap (t139))+(IntKind.u64.wrap (t141))))/4611686018427387904)))))).setCell ⟨gb142,1,none⟩ (.int .i64 (wrap64 (Go.bits .and .u64 (IntKind.u64.wrap ((IntKind.u64.wrap (t139))+(IntKind.u64.wrap (t141)))) 4611686018427387903)))).heap[gb142]? = some (.cells #[.int .i64 (wrap64 ((wrap64 (t138+t140))+(wrap64 ((IntKind.u64.wrap ((IntKind.u64.wrap (t139))+(IntKind.u64.wrap (t141))))/4611686018427387904)))),.int .i64 (wrap64 (Go.bits .and .u64 (IntKind.u64.wrap ((IntKind.u64.wrap (t139))+(IntKind.u64.wrap (t141)))) 4611686018427387903))] 50 (0,0))):=⟨by try refine bk ?_;refine blk_put (cs:=#[.int .i64 (wrap64 ((wrap64 (t138+t140))+(wrap64 ((IntKind.u64.wrap ((IntKind.u64.wrap (t139))+(IntKind.u64.wrap (t141))))/4611686018427387904)))),.int .i64 0]) ?_ 1 _ rfl;try refine bk ?_;refine blk_put (cs:=#[.int .i64 0,.int .i64 0]) ?_ 0 _ rfl;try refine bk ?_;exact BK142.out⟩
  have n4_:Aside0 (Below w.heap.size w ((w22.setCell ⟨gb142,0,none⟩ (.int .i64 (wrap64 ((wrap64 (t138+t140))+(wrap64 ((IntKind.u64.wrap ((IntKind.u64.wrap (t139))+(IntKind.u64.wrap (t141))))/4611686018427387904)))))).setCell ⟨gb142,1,none⟩ (.int .i64 (wrap64 (Go.bits .and .u64 (IntKind.u64.wrap ((IntKind.u64.wrap (t139))+(IntKind.u64.wrap (t141)))) 4611686018427387903))))):=⟨by repeat (first|with_reducible exact HB.out|exact bl HB|refine bs ?_ GE135|refine bs ?_ GE136|refine bs ?_ GE137|refine bs ?_ GE142)⟩
  (try clear BK135)
  (try clear BK136)
  (try clear BK137)
  (try clear BK142)
  (try clear HB)
  generalize ((w22.setCell ⟨gb142,0,none⟩ (.int .i64 (wrap64 ((wrap64 (t138+t140))+(wrap64 ((IntKind.u64.wrap ((IntKind.u64.wrap (t139))+(IntKind.u64.wrap (t141))))/4611686018427387904)))))).setCell ⟨gb142,1,none⟩ (.int .i64 (wrap64 (Go.bits .and .u64 (IntKind.u64.wrap ((IntKind.u64.wrap (t139))+(IntKind.u64.wrap (t141)))) 4611686018427387903))))=w27 at n0_ n1_ n2_ n3_ n4_ ⊢
  have BK135:=n0_
  have BK136:=n1_
  have BK137:=n2_
  have BK142:=n3_
  have HB:=n4_
  clear n0_ n1_ n2_ n3_ n4_
  have n0_:=Aside0.mk (blk_drew BK135.out)
  have n1_:=Aside0.mk (blk_drew BK136.out)
  have n2_:=Aside0.mk (blk_drew BK137.out)
  have n3_:=Aside0.mk (blk_drew BK142.out)
  have n4_:=Aside0.mk (below_drew1 HB.out)
  clear BK135
  clear BK136
  clear BK137
  clear BK142
  clear HB
  have BK135:=n0_
  have BK136:=n1_
  have BK137:=n2_
  have BK142:=n3_
  have HB:=n4_
  clear n0_ n1_ n2_ n3_ n4_
  refine start_ (n:=4) (S:=fun w'=>w'.cell? ⟨gb142,0,none⟩=some (.int .i64 (wrap64 ((wrap64 (t138+t140))+(wrap64 ((IntKind.u64.wrap ((IntKind.u64.wrap (t139))+(IntKind.u64.wrap (t141))))/4611686018427387904)))))∧w'.cell? ⟨gb142,1,none⟩=some (.int .i64 (wrap64 (Go.bits .and .u64 (IntKind.u64.wrap ((IntKind.u64.wrap (t139))+(IntKind.u64.wrap (t141)))) 4611686018427387903)))) (ds:=[]) #[false,false,false,false] (by kernel_rfl) rfl rfl ⟨(blk_cell BK142.out 0).trans rfl,(blk_cell BK142.out 1).trans rfl⟩ (fun hHeld=>?_)
  generalize w27.drew=w28 at BK135 BK136 BK137 BK142 HB hHeld ⊢
  refine take_ (i:=0) (N:=some 32) (v:=?_) (a':=?_) #[true,false,false,false] rfl rfl (by kernel_rfl) (fun _ _ _ h=>h) (Or.inl ⟨by rfl,?_⟩) hHeld ?_ ?_
  rotate_left
  ·rintro w' ⟨s0,s1⟩
   go_simp
   with_reducible rfl
  rotate_left
  ·simp only [Act.put,List.setIfInBounds_toArray,List.set_cons_zero,List.set_cons_succ,i64_w,i32_w]
   rfl
  refine take_ (i:=2) (N:=some 34) (v:=?_) (a':=?_) #[true,false,true,false] rfl rfl (by kernel_rfl) (fun _ _ _ h=>h) (Or.inl ⟨by rfl,?_⟩) hHeld ?_ ?_
  rotate_left
  ·rintro w' ⟨s0,s1⟩
   go_simp
   with_reducible rfl
  rotate_left
  ·simp only [Act.put,List.setIfInBounds_toArray,List.set_cons_zero,List.set_cons_succ,i64_w,i32_w]
   rfl
  refine one_ (i:=1) (N:=some 33) #[true,true,true,false] rfl rfl (by kernel_rfl) (by decide) (fun K hK=>?_)
  refine goes_ Try.func62 (by kernel_rfl) rfl #[.agg #[.int .i64 (wrap64 ((wrap64 (t138+t140))+(wrap64 ((IntKind.u64.wrap ((IntKind.u64.wrap (t139))+(IntKind.u64.wrap (t141))))/4611686018427387904)))),.int .i64 (wrap64 (Go.bits .and .u64 (IntKind.u64.wrap ((IntKind.u64.wrap (t139))+(IntKind.u64.wrap (t141)))) 4611686018427387903))]] (by rfl) rfl rfl (by exact mA _ _) ?_
  with_reducible refine(wide_known.calls (wrap64 ((wrap64 (t138+t140))+(wrap64 ((IntKind.u64.wrap ((IntKind.u64.wrap (t139))+(IntKind.u64.wrap (t141))))/4611686018427387904)))) (wrap64 (Go.bits .and .u64 (IntKind.u64.wrap ((IntKind.u64.wrap (t139))+(IntKind.u64.wrap (t141)))) 4611686018427387903)) t143 t144 _ A5.out).mono ?_
  rintro e w29 ⟨rfl,hb⟩
  refine⟨_,rfl,?_⟩
  have n0_:=Aside0.mk (blk_below (bk BK135.out) hb)
  have n1_:=Aside0.mk (blk_below (bk BK136.out) hb)
  have n2_:=Aside0.mk (blk_below (bk BK137.out) hb)
  have n3_:=Aside0.mk (blk_below (g:=gb142) (o:=.cells #[.int .i64 (wrap64 ((wrap64 (t138+t140))+(wrap64 ((IntKind.u64.wrap ((IntKind.u64.wrap (t139))+(IntKind.u64.wrap (t141))))/4611686018427387904)))),.int .i64 (wrap64 (Go.bits .and .u64 (IntKind.u64.wrap ((IntKind.u64.wrap (t139))+(IntKind.u64.wrap (t141)))) 4611686018427387903))] 50 (0,0)) (bk BK142.out) hb)
  have n4_:=Aside0.mk (below_step (by repeat (first|with_reducible exact HB.out|exact bl HB|refine bs ?_ GE135|refine bs ?_ GE136|refine bs ?_ GE137|refine bs ?_ GE142)) hb)
  clear BK135
  clear BK136
  clear BK137
  clear BK142
  clear HB
  have BK135:=n0_
  have BK136:=n1_
  have BK137:=n2_
  have BK142:=n3_
  have HB:=n4_
  clear n0_ n1_ n2_ n3_ n4_
  (try clear hb)
  (try clear hb2)
  (try clear hk)
  (try clear hi)
  refine hK.out _ _ ⟨(blk_cell BK142.out 0).trans rfl,(blk_cell BK142.out 1).trans rfl⟩ (fun hHeld=>?_)
  clear hK K
  refine norm_ (a':=?_) ?_ ?_
  rotate_left
  ·show Act.put _ (some 33) _=_
   simp only [Act.put,List.setIfInBounds_toArray,List.set_cons_zero,List.set_cons_succ,i64_w,i32_w]
   rfl
  refine pure_ (i:=3) (N:=some 35) (v:=?_) (a':=?_) #[true,true,true,true] rfl rfl (by kernel_rfl) (fun _ _ _ h=>h) (Or.inl ⟨by rfl,?_⟩) ?_ ?_
  rotate_left
  ·intro w'
   go_simp
   with_reducible rfl
  rotate_left
  ·simp only [Act.put,List.setIfInBounds_toArray,List.set_cons_zero,List.set_cons_succ,i64_w,i32_w]
   rfl
  refine done_ (by kernel_rfl) ?_
  have hcz30_0:w29.cell? ⟨gb137,0,none⟩=some (.int .i64 0):=(blk_cell BK137.out 0).trans rfl
  have hcz30_1:w29.cell? ⟨gb137,1,none⟩=some (.int .i64 0):=(blk_cell BK137.out 1).trans rfl
  have hfz30_0:=blk_frozen BK137.out 0
  have hfz30_1:=blk_frozen BK137.out 1
  try go_wp2
  refine bodyPost_ret (results_ct rfl _ _ gb137 50 #[.int .i64 0,.int .i64 0] (0,0) _ rfl (by try refine bk ?_;refine blk_put (cs:=#[.int .i64 0,.int .i64 0]) ?_ 1 _ rfl;try refine bk ?_;refine blk_put (cs:=#[.int .i64 0,.int .i64 0]) ?_ 0 _ rfl;try refine bk ?_;exact BK137.out) Try.underlying50 rfl (by kernel_rfl)) rfl ?_
  exact⟨by first|rfl|(simp [errW_none,errW_some]<;>rfl)|(simp [*,errW_none,errW_some]<;>rfl),by repeat (first|with_reducible exact HB.out|exact bl HB|refine bs ?_ GE135|refine bs ?_ GE136|refine bs ?_ GE137|refine bs ?_ GE142)⟩
 ·rw [if_neg c6] at H
  have c6b0:(!(t143 == (wrap64 ((wrap64 (t138+t140))+(wrap64 ((IntKind.u64.wrap ((IntKind.u64.wrap (t139))+(IntKind.u64.wrap (t141))))/4611686018427387904))))) || (!(t144 == (wrap64 (Go.bits .and .u64 (IntKind.u64.wrap ((IntKind.u64.wrap (t139))+(IntKind.u64.wrap (t141)))) 4611686018427387903)))))=false:=by simpa using c6
  clear c6
  simp only [Option.some.injEq,Prod.mk.injEq] at H
  obtain⟨rfl,rfl,rfl⟩:=H
  go_enter Try.func63,Try.ntmps63
  try go_wp2_with (first|((with_reducible refine gate_dst (N:=2) rfl ?_);refine box_event ?hg (N:=2) ?hd (cs:=#[.int .i64 a0_0,.int .i64 a0_1]) (t:=50) ?hr ?_;(case hd=>rfl);(case hg=>rfl);(case hr=>first|(go_simp;done)|(go_simp;rfl));intro gb135 hg w31 hbox hb;have n0_:=Aside0.mk (below_step (by first|with_reducible exact HB.out|exact bl HB) hb);have n1_:=Aside0.mk (hbox);have n2_:=Aside0.mk ((by rw [hg];exact(below_size (by first|with_reducible exact HB.out|exact bl HB)):w.heap.size≤gb135));have n3_:=Aside0.mk ((by rw [hg];exact(below_size (by first|with_reducible exact HB.out|exact bl HB)):w.heap.size≤gb135));clear HB;have HB:=n0_;have BK135:=n1_;have GW135:=n2_;have GE135:=n3_;clear n0_ n1_ n2_ n3_;clear hb hbox hg)|((with_reducible refine gate_dst (N:=3) rfl ?_);refine box_event ?hg (N:=3) ?hd (cs:=#[.int .i64 a1_0,.int .i64 a1_1]) (t:=50) ?hr ?_;(case hd=>rfl);(case hg=>rfl);(case hr=>first|(go_simp;done)|(go_simp;rfl));intro gb136 hg w32 hbox hb;have n0_:=Aside0.mk (blk_below (bk BK135.out) hb);have n1_:=Aside0.mk (below_step (by repeat (first|with_reducible exact HB.out|exact bl HB|refine bs ?_ GE135)) hb);have n2_:=Aside0.mk (hbox);have n3_:=Aside0.mk ((by rw [hg];exact(below_size (by repeat (first|with_reducible exact HB.out|exact bl HB|refine bs ?_ GE135))):w.heap.size≤gb136));have n4_:=Aside0.mk ((by rw [hg];exact(below_size (by repeat (first|with_reducible exact HB.out|exact bl HB|refine bs ?_ GE135))):w.heap.size≤gb136));have n5_:=Aside0.mk ((by rw [hg];exact Nat.ne_of_lt (blk_lt (bk BK135.out)):gb135≠gb136));have n6_:=Aside0.mk ((by rw [hg];exact Nat.ne_of_gt (blk_lt (bk BK135.out)):gb136≠gb135));clear BK135;clear HB;have BK135:=n0_;have HB:=n1_;have BK136:=n2_;have GW136:=n3_;have GE136:=n4_;have NB135_136:=n5_;have NB136_135:=n6_;clear n0_ n1_ n2_ n3_ n4_ n5_ n6_;clear hb hbox hg)|((with_reducible refine gate_dst (N:=4) rfl ?_);refine box_event ?hg (N:=4) ?hd (cs:=#[.int .i64 0,.int .i64 0]) (t:=50) ?hr ?_;(case hd=>rfl);(case hg=>rfl);(case hr=>first|(go_simp;done)|(go_simp;rfl));intro gb137 hg w33 hbox hb;have n0_:=Aside0.mk (blk_below (bk BK135.out) hb);have n1_:=Aside0.mk (blk_below (bk BK136.out) hb);have n2_:=Aside0.mk (below_step (by repeat (first|with_reducible exact HB.out|exact bl HB|refine bs ?_ GE135|refine bs ?_ GE136)) hb);have n3_:=Aside0.mk (hbox);have n4_:=Aside0.mk ((by rw [hg];exact(below_size (by repeat (first|with_reducible exact HB.out|exact bl HB|refine bs ?_ GE135|refine bs ?_ GE136))):w.heap.size≤gb137));have n5_:=Aside0.mk ((by rw [hg];exact(below_size (by repeat (first|with_reducible exact HB.out|exact bl HB|refine bs ?_ GE135|refine bs ?_ GE136))):w.heap.size≤gb137));have n6_:=Aside0.mk ((by rw [hg];exact Nat.ne_of_lt (blk_lt (bk BK135.out)):gb135≠gb137));have n7_:=Aside0.mk ((by rw [hg];exact Nat.ne_of_gt (blk_lt (bk BK135.out)):gb137≠gb135));have n8_:=Aside0.mk ((by rw [hg];exact Nat.ne_of_lt (blk_lt (bk BK136.out)):gb136≠gb137));have n9_:=Aside0.mk ((by rw [hg];exact Nat.ne_of_gt (blk_lt (bk BK136.out)):gb137≠gb136));clear BK135;clear BK136;clear HB;have BK135:=n0_;have BK136:=n1_;have HB:=n2_;have BK137:=n3_;have GW137:=n4_;have GE137:=n5_;have NB135_137:=n6_;have NB137_135:=n7_;have NB136_137:=n8_;have NB137_136:=n9_;clear n0_ n1_ n2_ n3_ n4_ n5_ n6_ n7_ n8_ n9_;clear hb hbox hg))
  have n0_:=Aside0.mk (blk_drew BK135.out)
  have n1_:=Aside0.mk (blk_drew BK136.out)
  have n2_:=Aside0.mk (blk_drew BK137.out)
  have n3_:=Aside0.mk (below_drew1 HB.out)
  clear BK135
  clear BK136
  clear BK137
  clear HB
  have BK135:=n0_
  have BK136:=n1_
  have BK137:=n2_
  have HB:=n3_
  clear n0_ n1_ n2_ n3_
  refine start_ (n:=6) (S:=fun w'=>w'.cell? ⟨gb135,0,none⟩=some (.int .i64 a0_0)∧w'.cell? ⟨gb135,1,none⟩=some (.int .i64 a0_1)∧w'.cell? ⟨gb136,0,none⟩=some (.int .i64 a1_0)∧w'.cell? ⟨gb136,1,none⟩=some (.int .i64 a1_1)) (ds:=[4,5]) #[ff,ff,ff,ff,ff,ff] (by kernel_rfl) rfl rfl ⟨(blk_cell BK135.out 0).trans rfl,(blk_cell BK135.out 1).trans rfl,(blk_cell BK136.out 0).trans rfl,(blk_cell BK136.out 1).trans rfl⟩ (fun hHeld=>?_)
  generalize w33.drew=w34 at BK135 BK136 BK137 HB hHeld ⊢
  refine take_ (i:=0) (N:=some 8) (v:=?_) (a':=?_) #[tt,ff,ff,ff,ff,ff] rfl rfl (by kernel_rfl) (fun _ _ _ h=>h) (Or.inl ⟨by rfl,?_⟩) hHeld ?_ ?_
  rotate_left
  ·rintro w' ⟨s0,s1,s2,s3⟩
   go_simp
   with_reducible rfl
  rotate_left
  ·simp only [Act.put,List.setIfInBounds_toArray,List.set_cons_zero,List.set_cons_succ,i64_w,i32_w]
   rfl
  refine take_ (i:=2) (N:=some 10) (v:=?_) (a':=?_) #[tt,ff,tt,ff,ff,ff] rfl rfl (by kernel_rfl) (fun _ _ _ h=>h) (Or.inl ⟨by rfl,?_⟩) hHeld ?_ ?_
  rotate_left
  ·rintro w' ⟨s0,s1,s2,s3⟩
   go_simp
   with_reducible rfl
  rotate_left
  ·simp only [Act.put,List.setIfInBounds_toArray,List.set_cons_zero,List.set_cons_succ,i64_w,i32_w]
   rfl
  refine one_ (i:=1) (N:=some 9) #[tt,tt,tt,ff,ff,ff] rfl rfl (by kernel_rfl) (by decide) (fun K hK=>?_)
  refine goes_ Try.func62 (by kernel_rfl) rfl #[.agg #[.int .i64 a0_0,.int .i64 a0_1]] (by rfl) rfl rfl (by exact mA _ _) ?_
  with_reducible refine(wide_known.calls a0_0 a0_1 t138 t139 _ A3.out).mono ?_
  rintro e w35 ⟨rfl,hb⟩
  refine⟨_,rfl,?_⟩
  have n0_:=Aside0.mk (blk_below (bk BK135.out) hb)
  have n1_:=Aside0.mk (blk_below (bk BK136.out) hb)
  have n2_:=Aside0.mk (blk_below (bk BK137.out) hb)
  have n3_:=Aside0.mk (below_step (by repeat (first|with_reducible exact HB.out|exact bl HB|refine bs ?_ GE135|refine bs ?_ GE136|refine bs ?_ GE137)) hb)
  clear BK135
  clear BK136
  clear BK137
  clear HB
  have BK135:=n0_
  have BK136:=n1_
  have BK137:=n2_
  have HB:=n3_
  clear n0_ n1_ n2_ n3_
  (try clear hb)
  (try clear hb2)
  (try clear hk)
  (try clear hi)
  refine hK.out _ _ ⟨(blk_cell BK135.out 0).trans rfl,(blk_cell BK135.out 1).trans rfl,(blk_cell BK136.out 0).trans rfl,(blk_cell BK136.out 1).trans rfl⟩ (fun hHeld=>?_)
  clear hK K
  refine norm_ (a':=?_) ?_ ?_
  rotate_left
  ·show Act.put _ (some 9) _=_
   simp only [Act.put,List.setIfInBounds_toArray,List.set_cons_zero,List.set_cons_succ,i64_w,i32_w]
   rfl
  refine one_ (i:=3) (N:=some 11) #[tt,tt,tt,tt,ff,ff] rfl rfl (by kernel_rfl) (by decide) (fun K hK=>?_)
  refine goes_ Try.func62 (by kernel_rfl) rfl #[.agg #[.int .i64 a1_0,.int .i64 a1_1]] (by rfl) rfl rfl (by exact mA _ _) ?_
  with_reducible refine(wide_known.calls a1_0 a1_1 t140 t141 _ A4.out).mono ?_
  rintro e w36 ⟨rfl,hb⟩
  refine⟨_,rfl,?_⟩
  have n0_:=Aside0.mk (blk_below (bk BK135.out) hb)
  have n1_:=Aside0.mk (blk_below (bk BK136.out) hb)
  have n2_:=Aside0.mk (blk_below (bk BK137.out) hb)
  have n3_:=Aside0.mk (below_step (by repeat (first|with_reducible exact HB.out|exact bl HB|refine bs ?_ GE135|refine bs ?_ GE136|refine bs ?_ GE137)) hb)
  clear BK135
  clear BK136
  clear BK137
  clear HB
  have BK135:=n0_
  have BK136:=n1_
  have BK137:=n2_
  have HB:=n3_
  clear n0_ n1_ n2_ n3_
  (try clear hb)
  (try clear hb2)
  (try clear hk)
  (try clear hi)
  refine hK.out _ _ ⟨(blk_cell BK135.out 0).trans rfl,(blk_cell BK135.out 1).trans rfl,(blk_cell BK136.out 0).trans rfl,(blk_cell BK136.out 1).trans rfl⟩ (fun hHeld=>?_)
  clear hK K
  refine norm_ (a':=?_) ?_ ?_
  rotate_left
  ·show Act.put _ (some 11) _=_
   simp only [Act.put,List.setIfInBounds_toArray,List.set_cons_zero,List.set_cons_succ,i64_w,i32_w]
   rfl
  refine last_ (i:=4) (N:=none) #[tt,tt,tt,tt,tt,ff] rfl rfl (by kernel_rfl) (by decide) (fun K hK=>?_)
  have hs37:w36.cell? ⟨gb135,0,none⟩=some (.int .i64 a0_0):=(blk_cell BK135.out 0).trans rfl
  have hfs37:=blk_frozen BK135.out 0
  have hns37_1:=NB136_135.out
  have hns37_2:=NB137_135.out
  have hms37_1:=NB135_136.out
  have hms37_2:=NB135_137.out
  have hs38:w36.cell? ⟨gb135,1,none⟩=some (.int .i64 a0_1):=(blk_cell BK135.out 1).trans rfl
  have hfs38:=blk_frozen BK135.out 1
  have hns38_1:=NB136_135.out
  have hns38_2:=NB137_135.out
  have hms38_1:=NB135_136.out
  have hms38_2:=NB135_137.out
  refine skip_ (w1:=?_) (by rfl) rfl ?_ ?_
  rotate_left
  ·go_simp
   rfl
  refine hK.out _ _ ?_
  clear hK K
  refine last_ (i:=5) (N:=none) #[tt,tt,tt,tt,tt,tt] rfl rfl (by kernel_rfl) (by decide) (fun K hK=>?_)
  have hs39:w36.cell? ⟨gb136,0,none⟩=some (.int .i64 a1_0):=(blk_cell BK136.out 0).trans rfl
  have hfs39:=blk_frozen BK136.out 0
  have hns39_0:=NB135_136.out
  have hns39_2:=NB137_136.out
  have hms39_0:=NB136_135.out
  have hms39_2:=NB136_137.out
  have hs40:w36.cell? ⟨gb136,1,none⟩=some (.int .i64 a1_1):=(blk_cell BK136.out 1).trans rfl
  have hfs40:=blk_frozen BK136.out 1
  have hns40_0:=NB135_136.out
  have hns40_2:=NB137_136.out
  have hms40_0:=NB136_135.out
  have hms40_2:=NB136_137.out
  refine skip_ (w1:=?_) (by rfl) rfl ?_ ?_
  rotate_left
  ·go_simp
   rfl
  refine hK.out _ _ ?_
  clear hK K
  refine done_ (by kernel_rfl) ?_
  have hnb41:=NB135_136.out
  have hnc41:=NB136_135.out
  have hnb42:=NB135_137.out
  have hnc42:=NB137_135.out
  have hcz43_0:w36.cell? ⟨gb135,0,none⟩=some (.int .i64 a0_0):=(blk_cell BK135.out 0).trans rfl
  have hcz43_1:w36.cell? ⟨gb135,1,none⟩=some (.int .i64 a0_1):=(blk_cell BK135.out 1).trans rfl
  have hfz43_0:=blk_frozen BK135.out 0
  have hfz43_1:=blk_frozen BK135.out 1
  have hnb44:=NB136_137.out
  have hnc44:=NB137_136.out
  have hcz45_0:w36.cell? ⟨gb136,0,none⟩=some (.int .i64 a1_0):=(blk_cell BK136.out 0).trans rfl
  have hcz45_1:w36.cell? ⟨gb136,1,none⟩=some (.int .i64 a1_1):=(blk_cell BK136.out 1).trans rfl
  have hfz45_0:=blk_frozen BK136.out 0
  have hfz45_1:=blk_frozen BK136.out 1
  try go_wp2_with (first|((with_reducible refine gate_dst (N:=7) rfl ?_);refine box_event ?hg (N:=7) ?hd (cs:=#[.int .i64 0,.int .i64 0]) (t:=50) ?hr ?_;(case hd=>rfl);(case hg=>rfl);(case hr=>first|(go_simp;done)|(go_simp;rfl));intro gb142 hg w46 hbox hb;have n0_:=Aside0.mk (blk_below (g:=gb135) (o:=.cells #[.int .i64 t138,.int .i64 t139] 50 (0,0)) (by try refine bk ?_;refine blk_far ?_ NB135_136.out _;try refine bk ?_;refine blk_far ?_ NB135_136.out _;try refine bk ?_;refine blk_put (cs:=#[.int .i64 t138,.int .i64 a0_1]) ?_ 1 _ rfl;try refine bk ?_;refine blk_put (cs:=#[.int .i64 a0_0,.int .i64 a0_1]) ?_ 0 _ rfl;try refine bk ?_;exact BK135.out) hb);have n1_:=Aside0.mk (blk_below (g:=gb136) (o:=.cells #[.int .i64 t140,.int .i64 t141] 50 (0,0)) (by try refine bk ?_;refine blk_put (cs:=#[.int .i64 t140,.int .i64 a1_1]) ?_ 1 _ rfl;try refine bk ?_;refine blk_put (cs:=#[.int .i64 a1_0,.int .i64 a1_1]) ?_ 0 _ rfl;try refine bk ?_;refine blk_far ?_ NB136_135.out _;try refine bk ?_;refine blk_far ?_ NB136_135.out _;try refine bk ?_;exact BK136.out) hb);have n2_:=Aside0.mk (blk_below (g:=gb137) (o:=.cells #[.int .i64 0,.int .i64 0] 50 (0,0)) (by try refine bk ?_;refine blk_far ?_ NB137_136.out _;try refine bk ?_;refine blk_far ?_ NB137_136.out _;try refine bk ?_;refine blk_far ?_ NB137_135.out _;try refine bk ?_;refine blk_far ?_ NB137_135.out _;try refine bk ?_;exact BK137.out) hb);have n3_:=Aside0.mk (below_step (by repeat (first|with_reducible exact HB.out|exact bl HB|refine bs ?_ GE135|refine bs ?_ GE136|refine bs ?_ GE137)) hb);have n4_:=Aside0.mk (hbox);have n5_:=Aside0.mk ((by rw [hg];exact(below_size (by repeat (first|with_reducible exact HB.out|exact bl HB|refine bs ?_ GE135|refine bs ?_ GE136|refine bs ?_ GE137))):w.heap.size≤gb142));have n6_:=Aside0.mk ((by rw [hg];exact(below_size (by repeat (first|with_reducible exact HB.out|exact bl HB|refine bs ?_ GE135|refine bs ?_ GE136|refine bs ?_ GE137))):w.heap.size≤gb142));have n7_:=Aside0.mk ((by rw [hg];exact Nat.ne_of_lt (blk_lt (g:=gb135) (o:=.cells #[.int .i64 t138,.int .i64 t139] 50 (0,0)) (by try refine bk ?_;refine blk_far ?_ NB135_136.out _;try refine bk ?_;refine blk_far ?_ NB135_136.out _;try refine bk ?_;refine blk_put (cs:=#[.int .i64 t138,.int .i64 a0_1]) ?_ 1 _ rfl;try refine bk ?_;refine blk_put (cs:=#[.int .i64 a0_0,.int .i64 a0_1]) ?_ 0 _ rfl;try refine bk ?_;exact BK135.out)):gb135≠gb142));have n8_:=Aside0.mk ((by rw [hg];exact Nat.ne_of_gt (blk_lt (g:=gb135) (o:=.cells #[.int .i64 t138,.int .i64 t139] 50 (0,0)) (by try refine bk ?_;refine blk_far ?_ NB135_136.out _;try refine bk ?_;refine blk_far ?_ NB135_136.out _;try refine bk ?_;refine blk_put (cs:=#[.int .i64 t138,.int .i64 a0_1]) ?_ 1 _ rfl;try refine bk ?_;refine blk_put (cs:=#[.int .i64 a0_0,.int .i64 a0_1]) ?_ 0 _ rfl;try refine bk ?_;exact BK135.out)):gb142≠gb135));have n9_:=Aside0.mk ((by rw [hg];exact Nat.ne_of_lt (blk_lt (g:=gb136) (o:=.cells #[.int .i64 t140,.int .i64 t141] 50 (0,0)) (by try refine bk ?_;refine blk_put (cs:=#[.int .i64 t140,.int .i64 a1_1]) ?_ 1 _ rfl;try refine bk ?_;refine blk_put (cs:=#[.int .i64 a1_0,.int .i64 a1_1]) ?_ 0 _ rfl;try refine bk ?_;refine blk_far ?_ NB136_135.out _;try refine bk ?_;refine blk_far ?_ NB136_135.out _;try refine bk ?_;exact BK136.out)):gb136≠gb142));have n10_:=Aside0.mk ((by rw [hg];exact Nat.ne_of_gt (blk_lt (g:=gb136) (o:=.cells #[.int .i64 t140,.int .i64 t141] 50 (0,0)) (by try refine bk ?_;refine blk_put (cs:=#[.int .i64 t140,.int .i64 a1_1]) ?_ 1 _ rfl;try refine bk ?_;refine blk_put (cs:=#[.int .i64 a1_0,.int .i64 a1_1]) ?_ 0 _ rfl;try refine bk ?_;refine blk_far ?_ NB136_135.out _;try refine bk ?_;refine blk_far ?_ NB136_135.out _;try refine bk ?_;exact BK136.out)):gb142≠gb136));have n11_:=Aside0.mk ((by rw [hg];exact Nat.ne_of_lt (blk_lt (g:=gb137) (o:=.cells #[.int .i64 0,.int .i64 0] 50 (0,0)) (by try refine bk ?_;refine blk_far ?_ NB137_136.out _;try refine bk ?_;refine blk_far ?_ NB137_136.out _;try refine bk ?_;refine blk_far ?_ NB137_135.out _;try refine bk ?_;refine blk_far ?_ NB137_135.out _;try refine bk ?_;exact BK137.out)):gb137≠gb142));have n12_:=Aside0.mk ((by rw [hg];exact Nat.ne_of_gt (blk_lt (g:=gb137) (o:=.cells #[.int .i64 0,.int .i64 0] 50 (0,0)) (by try refine bk ?_;refine blk_far ?_ NB137_136.out _;try refine bk ?_;refine blk_far ?_ NB137_136.out _;try refine bk ?_;refine blk_far ?_ NB137_135.out _;try refine bk ?_;refine blk_far ?_ NB137_135.out _;try refine bk ?_;exact BK137.out)):gb142≠gb137));clear BK135;clear BK136;clear BK137;clear HB;have BK135:=n0_;have BK136:=n1_;have BK137:=n2_;have HB:=n3_;have BK142:=n4_;have GW142:=n5_;have GE142:=n6_;have NB135_142:=n7_;have NB142_135:=n8_;have NB136_142:=n9_;have NB142_136:=n10_;have NB137_142:=n11_;have NB142_137:=n12_;clear n0_ n1_ n2_ n3_ n4_ n5_ n6_ n7_ n8_ n9_ n10_ n11_ n12_;clear hb hbox hg;have hnb47:=NB142_135.out;have hnc47:=NB135_142.out;have hnb48:=NB142_136.out;have hnc48:=NB136_142.out;have hnb49:=NB142_137.out;have hnc49:=NB137_142.out;have hcz50_0:w46.cell? ⟨gb142,0,none⟩=some (.int .i64 0):=(blk_cell BK142.out 0).trans rfl;have hcz50_1:w46.cell? ⟨gb142,1,none⟩=some (.int .i64 0):=(blk_cell BK142.out 1).trans rfl;have hfz50_0:=blk_frozen BK142.out 0;have hfz50_1:=blk_frozen BK142.out 1))
  have n0_:Aside0 (((w46.setCell ⟨gb142,0,none⟩ (.int .i64 (wrap64 ((wrap64 (t138+t140))+(wrap64 ((IntKind.u64.wrap ((IntKind.u64.wrap (t139))+(IntKind.u64.wrap (t141))))/4611686018427387904)))))).setCell ⟨gb142,1,none⟩ (.int .i64 (wrap64 (Go.bits .and .u64 (IntKind.u64.wrap ((IntKind.u64.wrap (t139))+(IntKind.u64.wrap (t141)))) 4611686018427387903)))).heap[gb135]? = some (.cells #[.int .i64 t138,.int .i64 t139] 50 (0,0))):=⟨by try refine bk ?_;refine blk_far ?_ NB135_142.out _;try refine bk ?_;refine blk_far ?_ NB135_142.out _;try refine bk ?_;exact BK135.out⟩
  have n1_:Aside0 (((w46.setCell ⟨gb142,0,none⟩ (.int .i64 (wrap64 ((wrap64 (t138+t140))+(wrap64 ((IntKind.u64.wrap ((IntKind.u64.wrap (t139))+(IntKind.u64.wrap (t141))))/4611686018427387904)))))).setCell ⟨gb142,1,none⟩ (.int .i64 (wrap64 (Go.bits .and .u64 (IntKind.u64.wrap ((IntKind.u64.wrap (t139))+(IntKind.u64.wrap (t141)))) 4611686018427387903)))).heap[gb136]? = some (.cells #[.int .i64 t140,.int .i64 t141] 50 (0,0))):=⟨by try refine bk ?_;refine blk_far ?_ NB136_142.out _;try refine bk ?_;refine blk_far ?_ NB136_142.out _;try refine bk ?_;exact BK136.out⟩
  have n2_:Aside0 (((w46.setCell ⟨gb142,0,none⟩ (.int .i64 (wrap64 ((wrap64 (t138+t140))+(wrap64 ((IntKind.u64.wrap ((IntKind.u64.wrap (t139))+(IntKind.u64.wrap (t141))))/4611686018427387904)))))).setCell ⟨gb142,1,none⟩ (.int .i64 (wrap64 (Go.bits .and .u64 (IntKind.u64.wrap ((IntKind.u64.wrap (t139))+(IntKind.u64.wrap (t141)))) 4611686018427387903)))).heap[gb137]? = some (.cells #[.int .i64 0,.int .i64 0] 50 (0,0))):=⟨by try refine bk ?_;refine blk_far ?_ NB137_142.out _;try refine bk ?_;refine blk_far ?_ NB137_142.out _;try refine bk ?_;exact BK137.out⟩
  have n3_:Aside0 (((w46.setCell ⟨gb142,0,none⟩ (.int .i64 (wrap64 ((wrap64 (t138+t140))+(wrap64 ((IntKind.u64.wrap ((IntKind.u64.wrap (t139))+(IntKind.u64.wrap (t141))))/4611686018427387904)))))).setCell ⟨gb142,1,none⟩ (.int .i64 (wrap64 (Go.bits .and .u64 (IntKind.u64.wrap ((IntKind.u64.wrap (t139))+(IntKind.u64.wrap (t141)))) 4611686018427387903)))).heap[gb142]? = some (.cells #[.int .i64 (wrap64 ((wrap64 (t138+t140))+(wrap64 ((IntKind.u64.wrap ((IntKind.u64.wrap (t139))+(IntKind.u64.wrap (t141))))/4611686018427387904)))),.int .i64 (wrap64 (Go.bits .and .u64 (IntKind.u64.wrap ((IntKind.u64.wrap (t139))+(IntKind.u64.wrap (t141)))) 4611686018427387903))] 50 (0,0))):=⟨by try refine bk ?_;refine blk_put (cs:=#[.int .i64 (wrap64 ((wrap64 (t138+t140))+(wrap64 ((IntKind.u64.wrap ((IntKind.u64.wrap (t139))+(IntKind.u64.wrap (t141))))/4611686018427387904)))),.int .i64 0]) ?_ 1 _ rfl;try refine bk ?_;refine blk_put (cs:=#[.int .i64 0,.int .i64 0]) ?_ 0 _ rfl;try refine bk ?_;exact BK142.out⟩
  have n4_:Aside0 (Below w.heap.size w ((w46.setCell ⟨gb142,0,none⟩ (.int .i64 (wrap64 ((wrap64 (t138+t140))+(wrap64 ((IntKind.u64.wrap ((IntKind.u64.wrap (t139))+(IntKind.u64.wrap (t141))))/4611686018427387904)))))).setCell ⟨gb142,1,none⟩ (.int .i64 (wrap64 (Go.bits .and .u64 (IntKind.u64.wrap ((IntKind.u64.wrap (t139))+(IntKind.u64.wrap (t141)))) 4611686018427387903))))):=⟨by repeat (first|with_reducible exact HB.out|exact bl HB|refine bs ?_ GE135|refine bs ?_ GE136|refine bs ?_ GE137|refine bs ?_ GE142)⟩
  (try clear BK135)
  (try clear BK136)
  (try clear BK137)
  (try clear BK142)
  (try clear HB)
  generalize ((w46.setCell ⟨gb142,0,none⟩ (.int .i64 (wrap64 ((wrap64 (t138+t140))+(wrap64 ((IntKind.u64.wrap ((IntKind.u64.wrap (t139))+(IntKind.u64.wrap (t141))))/4611686018427387904)))))).setCell ⟨gb142,1,none⟩ (.int .i64 (wrap64 (Go.bits .and .u64 (IntKind.u64.wrap ((IntKind.u64.wrap (t139))+(IntKind.u64.wrap (t141)))) 4611686018427387903))))=w51 at n0_ n1_ n2_ n3_ n4_ ⊢
  have BK135:=n0_
  have BK136:=n1_
  have BK137:=n2_
  have BK142:=n3_
  have HB:=n4_
  clear n0_ n1_ n2_ n3_ n4_
  have n0_:=Aside0.mk (blk_drew BK135.out)
  have n1_:=Aside0.mk (blk_drew BK136.out)
  have n2_:=Aside0.mk (blk_drew BK137.out)
  have n3_:=Aside0.mk (blk_drew BK142.out)
  have n4_:=Aside0.mk (below_drew1 HB.out)
  clear BK135
  clear BK136
  clear BK137
  clear BK142
  clear HB
  have BK135:=n0_
  have BK136:=n1_
  have BK137:=n2_
  have BK142:=n3_
  have HB:=n4_
  clear n0_ n1_ n2_ n3_ n4_
  refine start_ (n:=4) (S:=fun w'=>w'.cell? ⟨gb142,0,none⟩=some (.int .i64 (wrap64 ((wrap64 (t138+t140))+(wrap64 ((IntKind.u64.wrap ((IntKind.u64.wrap (t139))+(IntKind.u64.wrap (t141))))/4611686018427387904)))))∧w'.cell? ⟨gb142,1,none⟩=some (.int .i64 (wrap64 (Go.bits .and .u64 (IntKind.u64.wrap ((IntKind.u64.wrap (t139))+(IntKind.u64.wrap (t141)))) 4611686018427387903)))) (ds:=[]) #[false,false,false,false] (by kernel_rfl) rfl rfl ⟨(blk_cell BK142.out 0).trans rfl,(blk_cell BK142.out 1).trans rfl⟩ (fun hHeld=>?_)
  generalize w51.drew=w52 at BK135 BK136 BK137 BK142 HB hHeld ⊢
  refine take_ (i:=0) (N:=some 32) (v:=?_) (a':=?_) #[true,false,false,false] rfl rfl (by kernel_rfl) (fun _ _ _ h=>h) (Or.inl ⟨by rfl,?_⟩) hHeld ?_ ?_
  rotate_left
  ·rintro w' ⟨s0,s1⟩
   go_simp
   with_reducible rfl
  rotate_left
  ·simp only [Act.put,List.setIfInBounds_toArray,List.set_cons_zero,List.set_cons_succ,i64_w,i32_w]
   rfl
  refine take_ (i:=2) (N:=some 34) (v:=?_) (a':=?_) #[true,false,true,false] rfl rfl (by kernel_rfl) (fun _ _ _ h=>h) (Or.inl ⟨by rfl,?_⟩) hHeld ?_ ?_
  rotate_left
  ·rintro w' ⟨s0,s1⟩
   go_simp
   with_reducible rfl
  rotate_left
  ·simp only [Act.put,List.setIfInBounds_toArray,List.set_cons_zero,List.set_cons_succ,i64_w,i32_w]
   rfl
  refine one_ (i:=1) (N:=some 33) #[true,true,true,false] rfl rfl (by kernel_rfl) (by decide) (fun K hK=>?_)
  refine goes_ Try.func62 (by kernel_rfl) rfl #[.agg #[.int .i64 (wrap64 ((wrap64 (t138+t140))+(wrap64 ((IntKind.u64.wrap ((IntKind.u64.wrap (t139))+(IntKind.u64.wrap (t141))))/4611686018427387904)))),.int .i64 (wrap64 (Go.bits .and .u64 (IntKind.u64.wrap ((IntKind.u64.wrap (t139))+(IntKind.u64.wrap (t141)))) 4611686018427387903))]] (by rfl) rfl rfl (by exact mA _ _) ?_
  with_reducible refine(wide_known.calls (wrap64 ((wrap64 (t138+t140))+(wrap64 ((IntKind.u64.wrap ((IntKind.u64.wrap (t139))+(IntKind.u64.wrap (t141))))/4611686018427387904)))) (wrap64 (Go.bits .and .u64 (IntKind.u64.wrap ((IntKind.u64.wrap (t139))+(IntKind.u64.wrap (t141)))) 4611686018427387903)) t143 t144 _ A5.out).mono ?_
  rintro e w53 ⟨rfl,hb⟩
  refine⟨_,rfl,?_⟩
  have n0_:=Aside0.mk (blk_below (bk BK135.out) hb)
  have n1_:=Aside0.mk (blk_below (bk BK136.out) hb)
  have n2_:=Aside0.mk (blk_below (bk BK137.out) hb)
  have n3_:=Aside0.mk (blk_below (g:=gb142) (o:=.cells #[.int .i64 (wrap64 ((wrap64 (t138+t140))+(wrap64 ((IntKind.u64.wrap ((IntKind.u64.wrap (t139))+(IntKind.u64.wrap (t141))))/4611686018427387904)))),.int .i64 (wrap64 (Go.bits .and .u64 (IntKind.u64.wrap ((IntKind.u64.wrap (t139))+(IntKind.u64.wrap (t141)))) 4611686018427387903))] 50 (0,0)) (bk BK142.out) hb)
  have n4_:=Aside0.mk (below_step (by repeat (first|with_reducible exact HB.out|exact bl HB|refine bs ?_ GE135|refine bs ?_ GE136|refine bs ?_ GE137|refine bs ?_ GE142)) hb)
  clear BK135
  clear BK136
  clear BK137
  clear BK142
  clear HB
  have BK135:=n0_
  have BK136:=n1_
  have BK137:=n2_
  have BK142:=n3_
  have HB:=n4_
  clear n0_ n1_ n2_ n3_ n4_
  (try clear hb)
  (try clear hb2)
  (try clear hk)
  (try clear hi)
  refine hK.out _ _ ⟨(blk_cell BK142.out 0).trans rfl,(blk_cell BK142.out 1).trans rfl⟩ (fun hHeld=>?_)
  clear hK K
  refine norm_ (a':=?_) ?_ ?_
  rotate_left
  ·show Act.put _ (some 33) _=_
   simp only [Act.put,List.setIfInBounds_toArray,List.set_cons_zero,List.set_cons_succ,i64_w,i32_w]
   rfl
  refine pure_ (i:=3) (N:=some 35) (v:=?_) (a':=?_) #[true,true,true,true] rfl rfl (by kernel_rfl) (fun _ _ _ h=>h) (Or.inl ⟨by rfl,?_⟩) ?_ ?_
  rotate_left
  ·intro w'
   go_simp
   with_reducible rfl
  rotate_left
  ·simp only [Act.put,List.setIfInBounds_toArray,List.set_cons_zero,List.set_cons_succ,i64_w,i32_w]
   rfl
  refine done_ (by kernel_rfl) ?_
  have hcz54_0:w53.cell? ⟨gb142,0,none⟩=some (.int .i64 (wrap64 ((wrap64 (t138+t140))+(wrap64 ((IntKind.u64.wrap ((IntKind.u64.wrap (t139))+(IntKind.u64.wrap (t141))))/4611686018427387904))))):=(blk_cell BK142.out 0).trans rfl
  have hcz54_1:w53.cell? ⟨gb142,1,none⟩=some (.int .i64 (wrap64 (Go.bits .and .u64 (IntKind.u64.wrap ((IntKind.u64.wrap (t139))+(IntKind.u64.wrap (t141)))) 4611686018427387903))):=(blk_cell BK142.out 1).trans rfl
  have hfz54_0:=blk_frozen BK142.out 0
  have hfz54_1:=blk_frozen BK142.out 1
  have hcz55_0:w53.cell? ⟨gb137,0,none⟩=some (.int .i64 0):=(blk_cell BK137.out 0).trans rfl
  have hcz55_1:w53.cell? ⟨gb137,1,none⟩=some (.int .i64 0):=(blk_cell BK137.out 1).trans rfl
  have hfz55_0:=blk_frozen BK137.out 0
  have hfz55_1:=blk_frozen BK137.out 1
  try go_wp2
  refine bodyPost_ret (results_ct rfl _ _ gb137 50 #[.int .i64 (wrap64 ((wrap64 (t138+t140))+(wrap64 ((IntKind.u64.wrap ((IntKind.u64.wrap (t139))+(IntKind.u64.wrap (t141))))/4611686018427387904)))),.int .i64 (wrap64 (Go.bits .and .u64 (IntKind.u64.wrap ((IntKind.u64.wrap (t139))+(IntKind.u64.wrap (t141)))) 4611686018427387903))] (0,0) _ rfl (by try refine bk ?_;refine blk_put (cs:=#[.int .i64 (wrap64 ((wrap64 (t138+t140))+(wrap64 ((IntKind.u64.wrap ((IntKind.u64.wrap (t139))+(IntKind.u64.wrap (t141))))/4611686018427387904)))),.int .i64 0]) ?_ 1 _ rfl;try refine bk ?_;refine blk_put (cs:=#[.int .i64 0,.int .i64 0]) ?_ 0 _ rfl;try refine bk ?_;exact BK137.out) Try.underlying50 rfl (by kernel_rfl)) rfl ?_
  exact⟨by first|rfl|(simp [errW_none,errW_some]<;>rfl)|(simp [*,errW_none,errW_some]<;>rfl),by repeat (first|with_reducible exact HB.out|exact bl HB|refine bs ?_ GE135|refine bs ?_ GE136|refine bs ?_ GE137|refine bs ?_ GE142)⟩
end Go.Proofs.Ytembdogffbcjiaa.B
