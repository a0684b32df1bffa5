/- Lemmas of the row, laid by a program. -/
import Derived.Test.YtembdogffbcjiaaYB0
import Derived.Test.YtembdogffbcjiaaYB2
import Derived.Test.YtembdogffbcjiaaYB3
import Derived.Test.YtembdogffbcjiaaYB4
import Derived.Test.YtembdogffbcjiaaYB5
namespace Go.Proofs.Ytembdogffbcjiaa.B
open Go.RowKit Go.Proofs.YtembdogffbcjiaaW.PrintWords Go.Proofs.YtembdogffbcjiaaW.PrintLast Go.Proofs.YtembdogffbcjiaaW.PrintMore
attribute [local go_sem] max2_int min2_int max_two min_two max_three min_three max_four min_four
set_option linter.unusedVariables false
set_option linter.unusedSimpArgs false
def scale_Round.f (k:Nat) (a0_0:Int) (a0_1:Int):Option (Int × Bool):=(wide_Of.f 2147483648).bind fun bt162=>((wide_Add.f a0_0 a0_1 bt162.1 bt162.2).bind fun bt164=>(if bt164.2.2=true then ((wide_Down.f bt164.1 bt164.2.1 32).bind fun bt168=>((wide_Int.f k bt168.1 bt168.2).bind fun bt170=>(if bt170.2=true then ((wide_Sane.f a0_0 a0_1).bind fun t172=>(some (bt170.1,!t172))) else (some (bt170.1,true))))) else (some (288230376151711744,true))))
theorem scale_Round.mono:∀ a0 a1 k,LeO (scale_Round.f k a0 a1) (scale_Round.f (k+1) a0 a1):=by
 intro a0 a1 k
 unfold scale_Round.f
 repeat' first
   | (with_reducible exact wide_Int.mono _ _ _)
   | (with_reducible exact LeO.refl _)
   | (with_reducible exact LeO.none _)
   | (with_reducible refine LeO.ite ?_ ?_)
   | (with_reducible refine LeO.bind ?_ (fun _=>?_))
   | exact wide_Int.mono _ _ _
   | exact LeO.none _
   | refine LeO.ite ?_ ?_
   | refine LeO.bind ?_ (fun _=>?_)
def scale_Round.T1:Bool × List (List Nat × List Nat):=(true,[([],[]),([],[]),([0,1,1],[0,1]),([2],[2]),([3],[3]),([3],[3]),([],[]),([6,4,2,0,1,2,3,4,6],[4,6]),([5,7,0,1,2,3,4,5,6,7],[5])])
def scale_Round.B1:List Nat:=[0,0,3,7,15,15,0,95,255]
theorem scale_Round.tab1:rtab .any (opsOf Try.f52 1)=scale_Round.T1:=by kernel_rfl
theorem scale_Round.bits1:waitsOk scale_Round.T1.2 scale_Round.B1=true:=by kernel_rfl
set_option maxHeartbeats 8000000 in
set_option maxRecDepth 100000 in
theorem scale_Round.calls (k:Nat) (a0_0:Int) (a0_1:Int) (r1:Int) (r2:Bool) (w:World) (h:scale_Round.f k a0_0 a0_1=some (r1,r2)) :
  Calls Try.prog 52 #[.agg #[.int .i64 a0_0,.int .i64 a0_1]] w fun e w'=>e=.returned (.tuple #[.int .i64 r1,.bool r2])∧Below w.heap.size w w':=by
 have hu50:=Try.underlying50
 have HB:=Aside0.mk (Below.refl w.heap.size w)
 have H:((wide_Of.f 2147483648).bind fun bt162=>((wide_Add.f a0_0 a0_1 bt162.1 bt162.2).bind fun bt164=>(if bt164.2.2=true then ((wide_Down.f bt164.1 bt164.2.1 32).bind fun bt168=>((wide_Int.f k bt168.1 bt168.2).bind fun bt170=>(if bt170.2=true then ((wide_Sane.f a0_0 a0_1).bind fun t172=>(some (bt170.1,!t172))) else (some (bt170.1,true))))) else (some (288230376151711744,true)))))=some (r1,r2):=h
 clear h
 replace H:=Option.bind_eq_some_iff.mp H
 obtain⟨⟨t162,t163⟩,A20,H⟩:=H
 replace H:((wide_Add.f a0_0 a0_1 t162 t163).bind fun bt164=>(if bt164.2.2=true then ((wide_Down.f bt164.1 bt164.2.1 32).bind fun bt168=>((wide_Int.f k bt168.1 bt168.2).bind fun bt170=>(if bt170.2=true then ((wide_Sane.f a0_0 a0_1).bind fun t172=>(some (bt170.1,!t172))) else (some (bt170.1,true))))) else (some (288230376151711744,true))))=some (r1,r2):=H
 have A2:=Aside0.mk A20
 clear A20
 replace H:=Option.bind_eq_some_iff.mp H
 obtain⟨⟨t164,t165,t166⟩,A30,H⟩:=H
 replace H:(if t166=true then ((wide_Down.f t164 t165 32).bind fun bt168=>((wide_Int.f k bt168.1 bt168.2).bind fun bt170=>(if bt170.2=true then ((wide_Sane.f a0_0 a0_1).bind fun t172=>(some (bt170.1,!t172))) else (some (bt170.1,true))))) else (some (288230376151711744,true)))=some (r1,r2):=H
 have A3:=Aside0.mk A30
 clear A30
 by_cases c4:t166=true
 ·subst c4
  have H1:((wide_Down.f t164 t165 32).bind fun bt168=>((wide_Int.f k bt168.1 bt168.2).bind fun bt170=>(if bt170.2=true then ((wide_Sane.f a0_0 a0_1).bind fun t172=>(some (bt170.1,!t172))) else (some (bt170.1,true)))))=some (r1,r2):=by rw [if_pos rfl] at H;exact H
  clear H
  have H:=H1
  clear H1
  replace H:=Option.bind_eq_some_iff.mp H
  obtain⟨⟨t168,t169⟩,A50,H⟩:=H
  replace H:((wide_Int.f k t168 t169).bind fun bt170=>(if bt170.2=true then ((wide_Sane.f a0_0 a0_1).bind fun t172=>(some (bt170.1,!t172))) else (some (bt170.1,true))))=some (r1,r2):=H
  have A5:=Aside0.mk A50
  clear A50
  replace H:=Option.bind_eq_some_iff.mp H
  obtain⟨⟨t170,t171⟩,A60,H⟩:=H
  replace H:(if t171=true then ((wide_Sane.f a0_0 a0_1).bind fun t172=>(some (t170,!t172))) else (some (t170,true)))=some (r1,r2):=H
  have A6:=Aside0.mk A60
  clear A60
  by_cases c7:t171=true
  ·subst c7
   have H1:((wide_Sane.f a0_0 a0_1).bind fun t172=>(some (t170,!t172)))=some (r1,r2):=by rw [if_pos rfl] at H;exact H
   clear H
   have H:=H1
   clear H1
   replace H:=Option.bind_eq_some_iff.mp H
   obtain⟨t172,A80,H⟩:=H
   replace H:(some (t170,!t172))=some (r1,r2):=H
   have A8:=Aside0.mk A80
   clear A80
   simp only [Option.some.injEq,Prod.mk.injEq] at H
   obtain⟨rfl,rfl⟩:=H
   go_enter Try.func52,Try.ntmps52
   try go_wp2_with (first|((with_reducible refine gate_dst (N:=1) rfl ?_);refine box_event ?hg (N:=1) ?hd (cs:=#[.int .i64 a0_0,.int .i64 a0_1]) (t:=50) ?hr ?_;(case hd=>rfl);(case hg=>rfl);(case hr=>first|(go_simp;done)|(go_simp;rfl));intro gb161 hg w9 hbox hb;have n0_:=Aside0.mk (below_step (by first|with_reducible exact HB.out|exact bl HB) hb);have n1_:=Aside0.mk (hbox);have n2_:=Aside0.mk ((by rw [hg];exact(below_size (by first|with_reducible exact HB.out|exact bl HB)):w.heap.size≤gb161));have n3_:=Aside0.mk ((by rw [hg];exact(below_size (by first|with_reducible exact HB.out|exact bl HB)):w.heap.size≤gb161));clear HB;have HB:=n0_;have BK161:=n1_;have GW161:=n2_;have GE161:=n3_;clear n0_ n1_ n2_ n3_;clear hb hbox hg))
   have n0_:=Aside0.mk (blk_drew BK161.out)
   have n1_:=Aside0.mk (below_drew1 HB.out)
   clear BK161
   clear HB
   have BK161:=n0_
   have HB:=n1_
   clear n0_ n1_
   refine start_ (n:=9) (S:=fun w'=>w'.cell? ⟨gb161,0,none⟩=some (.int .i64 a0_0)∧w'.cell? ⟨gb161,1,none⟩=some (.int .i64 a0_1)) (ds:=[]) #[ff,ff,ff,ff,ff,ff,ff,ff,ff] (by kernel_rfl) rfl rfl ⟨(blk_cell BK161.out 0).trans rfl,(blk_cell BK161.out 1).trans rfl⟩ (fun hHeld=>?_);refine with_tabW scale_Round.tab1 scale_Round.bits1 (fun HT_ HW_=>?_)
   generalize w9.drew=w10 at BK161 HB hHeld ⊢
   refine take_ (i:=0) (N:=some 9) (v:=?_) (a':=?_) #[tt,ff,ff,ff,ff,ff,ff,ff,ff] rfl rfl (take_ofW HT_.out HW_.out (by kernel_rfl)) (fun _ _ _ h=>h) (Or.inl ⟨by rfl,?_⟩) hHeld ?_ ?_
   rotate_left
   ·rintro w' ⟨s0,s1⟩
    go_simp
    with_reducible rfl
   rotate_left
   ·simp only [Act.put,List.setIfInBounds_toArray,List.set_cons_zero,List.set_cons_succ,i64_w,i32_w]
    rfl
   refine join_ (σ:=Nat) 2 #[tt,tt,tt,tt,tt,tt,tt,ff,ff] (fun s_=>[(10,.agg #[.int .i64 t162,.int .i64 t163]),(11,.tuple #[.agg #[.int .i64 t164,.int .i64 t165],.bool true]),(4,.pointer (some ⟨s_,0,none⟩)),(8,.tuple #[.agg #[.int .i64 t164,.int .i64 t165],.bool true]),(12,.agg #[.int .i64 t164,.int .i64 t165]),(13,.bool true)]) (fun s_ w'=>(w'.cell? ⟨gb161,0,none⟩=some (.int .i64 a0_0)∧w'.cell? ⟨gb161,1,none⟩=some (.int .i64 a0_1))∧(w'.heap[gb161]? = some (.cells #[.int .i64 a0_0,.int .i64 a0_1] 50 (0,0)))∧(w'.heap[s_]? = some (.cells #[.int .i64 0,.int .i64 0] 50 (0,0)))∧(w.heap.size≤s_)∧(w.heap.size≤s_)∧(gb161≠s_)∧(s_≠gb161)∧(Below w.heap.size w w')) ?_ ?_
   rotate_left
   ·intro hCont
    refine two_ (i:=1) (j:=6) (Ni:=some 10) (Nj:=some 4) #[tt,tt,ff,ff,ff,ff,ff,ff,ff] #[tt,ff,ff,ff,ff,ff,tt,ff,ff] rfl rfl rfl rfl (two_of HT_.out (by kernel_rfl)) (by decide) (by decide) (fun K hK=>?_) (fun K hK=>?_)
    ·skip
     refine goes_ Try.func66 (by kernel_rfl) rfl #[.int .i64 2147483648] (by rfl) rfl rfl (by exact mA _ _) ?_
     with_reducible refine(wide_Of.calls 2147483648 t162 t163 _ A2.out).mono ?_
     rintro e w11 ⟨rfl,hb⟩
     refine⟨_,rfl,?_⟩
     have n0_:=Aside0.mk (blk_below (bk BK161.out) hb)
     have n1_:=Aside0.mk (below_step (by repeat (first|with_reducible exact HB.out|exact bl HB|refine bs ?_ GE161)) hb)
     clear BK161
     clear HB
     have BK161:=n0_
     have HB:=n1_
     clear n0_ n1_
     (try clear hb)
     (try clear hb2)
     (try clear hk)
     (try clear hi)
     refine hK.out _ _ ⟨(blk_cell BK161.out 0).trans rfl,(blk_cell BK161.out 1).trans rfl⟩ (fun hHeld=>?_)
     clear hK K
     refine norm_ (a':=?_) ?_ ?_
     rotate_left
     ·show Act.put _ (some 10) _=_
      simp only [Act.put,List.setIfInBounds_toArray,List.set_cons_zero,List.set_cons_succ,i64_w,i32_w]
      rfl
     refine two_ (i:=2) (j:=6) (Ni:=some 11) (Nj:=some 4) #[tt,tt,tt,ff,ff,ff,ff,ff,ff] #[tt,tt,ff,ff,ff,ff,tt,ff,ff] rfl rfl rfl rfl (two_of HT_.out (by kernel_rfl)) (by decide) (by decide) (fun K hK=>?_) (fun K hK=>?_)
     ·skip
      refine goes_ Try.func63 (by kernel_rfl) rfl #[.agg #[.int .i64 a0_0,.int .i64 a0_1],.agg #[.int .i64 t162,.int .i64 t163]] (by rfl) rfl rfl (by exact mA _ _) ?_
      with_reducible refine(wide_Add.calls a0_0 a0_1 t162 t163 t164 t165 true _ A3.out).mono ?_
      rintro e w12 ⟨rfl,hb⟩
      refine⟨_,rfl,?_⟩
      have n0_:=Aside0.mk (blk_below (bk BK161.out) hb)
      have n1_:=Aside0.mk (below_step (by repeat (first|with_reducible exact HB.out|exact bl HB|refine bs ?_ GE161)) hb)
      clear BK161
      clear HB
      have BK161:=n0_
      have HB:=n1_
      clear n0_ n1_
      (try clear hb)
      (try clear hb2)
      (try clear hk)
      (try clear hi)
      refine hK.out _ _ ⟨(blk_cell BK161.out 0).trans rfl,(blk_cell BK161.out 1).trans rfl⟩ (fun hHeld=>?_)
      clear hK K
      refine norm_ (a':=?_) ?_ ?_
      rotate_left
      ·show Act.put _ (some 11) _=_
       simp only [Act.put,List.setIfInBounds_toArray,List.set_cons_zero,List.set_cons_succ,i64_w,i32_w]
       rfl
      refine pure_ (i:=3) (N:=some 8) (v:=?_) (a':=?_) #[tt,tt,tt,tt,ff,ff,ff,ff,ff] rfl rfl (any_of HT_.out (by kernel_rfl)) (fun _ _ _ h=>h) (Or.inl ⟨by rfl,?_⟩) ?_ ?_
      rotate_left
      ·intro w'
       go_simp
       with_reducible rfl
      rotate_left
      ·simp only [Act.put,List.setIfInBounds_toArray,List.set_cons_zero,List.set_cons_succ,i64_w,i32_w]
       rfl
      refine pure_ (i:=4) (N:=some 12) (v:=?_) (a':=?_) #[tt,tt,tt,tt,tt,ff,ff,ff,ff] rfl rfl (any_of HT_.out (by kernel_rfl)) (fun _ _ _ h=>h) (Or.inl ⟨by rfl,?_⟩) ?_ ?_
      rotate_left
      ·intro w'
       go_simp
       with_reducible rfl
      rotate_left
      ·simp only [Act.put,List.setIfInBounds_toArray,List.set_cons_zero,List.set_cons_succ,i64_w,i32_w]
       rfl
      refine pure_ (i:=5) (N:=some 13) (v:=?_) (a':=?_) #[tt,tt,tt,tt,tt,tt,ff,ff,ff] rfl rfl (any_of HT_.out (by kernel_rfl)) (fun _ _ _ h=>h) (Or.inl ⟨by rfl,?_⟩) ?_ ?_
      rotate_left
      ·intro w'
       go_simp
       with_reducible rfl
      rotate_left
      ·simp only [Act.put,List.setIfInBounds_toArray,List.set_cons_zero,List.set_cons_succ,i64_w,i32_w]
       rfl
      refine one_ (i:=6) (N:=some 4) #[tt,tt,tt,tt,tt,tt,tt,ff,ff] rfl rfl (one_of HT_.out (by kernel_rfl)) (by decide) (fun K hK=>?_)
      refine box_step ?hg (N:=4) ?hd (cs:=#[.int .i64 0,.int .i64 0]) (t:=50) ?hr ?_;(case hd=>rfl);(case hg=>rfl);(case hr=>first|(go_simp;done)|(go_simp;rfl))
      intro gb167 hg w13 hbox hb
      have n0_:=Aside0.mk (blk_below (bk BK161.out) hb)
      have n1_:=Aside0.mk (below_step (by repeat (first|with_reducible exact HB.out|exact bl HB|refine bs ?_ GE161)) hb)
      have n2_:=Aside0.mk (hbox)
      have n3_:=Aside0.mk ((by rw [hg];exact(below_size (by repeat (first|with_reducible exact HB.out|exact bl HB|refine bs ?_ GE161))):w.heap.size≤gb167))
      have n4_:=Aside0.mk ((by rw [hg];exact(below_size (by repeat (first|with_reducible exact HB.out|exact bl HB|refine bs ?_ GE161))):w.heap.size≤gb167))
      have n5_:=Aside0.mk ((by rw [hg];exact Nat.ne_of_lt (blk_lt (bk BK161.out)):gb161≠gb167))
      have n6_:=Aside0.mk ((by rw [hg];exact Nat.ne_of_gt (blk_lt (bk BK161.out)):gb167≠gb161))
      clear BK161
      clear HB
      have BK161:=n0_
      have HB:=n1_
      have BK167:=n2_
      have GW167:=n3_
      have GE167:=n4_
      have NB161_167:=n5_
      have NB167_161:=n6_
      clear n0_ n1_ n2_ n3_ n4_ n5_ n6_
      clear hb hbox hg
      refine hK.out _ _ ⟨(blk_cell BK161.out 0).trans rfl,(blk_cell BK161.out 1).trans rfl⟩ (fun hHeld=>?_)
      clear hK K
      refine norm_ (a':=?_) ?_ ?_
      rotate_left
      ·show Act.put _ (some 4) _=_
       simp only [Act.put,List.setIfInBounds_toArray,List.set_cons_zero,List.set_cons_succ,i64_w,i32_w]
       rfl
      exact norm_ (by simp only [putAll,Act.put,List.setIfInBounds_toArray,List.set_cons_zero,List.set_cons_succ]) (hCont (gb167) _ ⟨hHeld,(bk BK161.out),(bk BK167.out),GW167.out,GE167.out,NB161_167.out,NB167_161.out,(by repeat (first|with_reducible exact HB.out|exact bl HB|refine bs ?_ GE161|refine bs ?_ GE167))⟩)
     ·skip
      refine box_step ?hg (N:=4) ?hd (cs:=#[.int .i64 0,.int .i64 0]) (t:=50) ?hr ?_;(case hd=>rfl);(case hg=>rfl);(case hr=>first|(go_simp;done)|(go_simp;rfl))
      intro gb167 hg w12 hbox hb
      have n0_:=Aside0.mk (blk_below (bk BK161.out) hb)
      have n1_:=Aside0.mk (below_step (by repeat (first|with_reducible exact HB.out|exact bl HB|refine bs ?_ GE161)) hb)
      have n2_:=Aside0.mk (hbox)
      have n3_:=Aside0.mk ((by rw [hg];exact(below_size (by repeat (first|with_reducible exact HB.out|exact bl HB|refine bs ?_ GE161))):w.heap.size≤gb167))
      have n4_:=Aside0.mk ((by rw [hg];exact(below_size (by repeat (first|with_reducible exact HB.out|exact bl HB|refine bs ?_ GE161))):w.heap.size≤gb167))
      have n5_:=Aside0.mk ((by rw [hg];exact Nat.ne_of_lt (blk_lt (bk BK161.out)):gb161≠gb167))
      have n6_:=Aside0.mk ((by rw [hg];exact Nat.ne_of_gt (blk_lt (bk BK161.out)):gb167≠gb161))
      clear BK161
      clear HB
      have BK161:=n0_
      have HB:=n1_
      have BK167:=n2_
      have GW167:=n3_
      have GE167:=n4_
      have NB161_167:=n5_
      have NB167_161:=n6_
      clear n0_ n1_ n2_ n3_ n4_ n5_ n6_
      clear hb hbox hg
      refine hK.out _ _ ⟨(blk_cell BK161.out 0).trans rfl,(blk_cell BK161.out 1).trans rfl⟩ (fun hHeld=>?_)
      clear hK K
      refine norm_ (a':=?_) ?_ ?_
      rotate_left
      ·show Act.put _ (some 4) _=_
       simp only [Act.put,List.setIfInBounds_toArray,List.set_cons_zero,List.set_cons_succ,i64_w,i32_w]
       rfl
      refine one_ (i:=2) (N:=some 11) #[tt,tt,tt,ff,ff,ff,tt,ff,ff] rfl rfl (one_of HT_.out (by kernel_rfl)) (by decide) (fun K hK=>?_)
      refine goes_ Try.func63 (by kernel_rfl) rfl #[.agg #[.int .i64 a0_0,.int .i64 a0_1],.agg #[.int .i64 t162,.int .i64 t163]] (by rfl) rfl rfl (by exact mA _ _) ?_
      with_reducible refine(wide_Add.calls a0_0 a0_1 t162 t163 t164 t165 true _ A3.out).mono ?_
      rintro e w13 ⟨rfl,hb⟩
      refine⟨_,rfl,?_⟩
      have n0_:=Aside0.mk (blk_below (bk BK161.out) hb)
      have n1_:=Aside0.mk (blk_below (bk BK167.out) hb)
      have n2_:=Aside0.mk (below_step (by repeat (first|with_reducible exact HB.out|exact bl HB|refine bs ?_ GE161|refine bs ?_ GE167)) hb)
      clear BK161
      clear BK167
      clear HB
      have BK161:=n0_
      have BK167:=n1_
      have HB:=n2_
      clear n0_ n1_ n2_
      (try clear hb)
      (try clear hb2)
      (try clear hk)
      (try clear hi)
      refine hK.out _ _ ⟨(blk_cell BK161.out 0).trans rfl,(blk_cell BK161.out 1).trans rfl⟩ (fun hHeld=>?_)
      clear hK K
      refine norm_ (a':=?_) ?_ ?_
      rotate_left
      ·show Act.put _ (some 11) _=_
       simp only [Act.put,List.setIfInBounds_toArray,List.set_cons_zero,List.set_cons_succ,i64_w,i32_w]
       rfl
      refine pure_ (i:=3) (N:=some 8) (v:=?_) (a':=?_) #[tt,tt,tt,tt,ff,ff,tt,ff,ff] rfl rfl (any_of HT_.out (by kernel_rfl)) (fun _ _ _ h=>h) (Or.inl ⟨by rfl,?_⟩) ?_ ?_
      rotate_left
      ·intro w'
       go_simp
       with_reducible rfl
      rotate_left
      ·simp only [Act.put,List.setIfInBounds_toArray,List.set_cons_zero,List.set_cons_succ,i64_w,i32_w]
       rfl
      refine pure_ (i:=4) (N:=some 12) (v:=?_) (a':=?_) #[tt,tt,tt,tt,tt,ff,tt,ff,ff] rfl rfl (any_of HT_.out (by kernel_rfl)) (fun _ _ _ h=>h) (Or.inl ⟨by rfl,?_⟩) ?_ ?_
      rotate_left
      ·intro w'
       go_simp
       with_reducible rfl
      rotate_left
      ·simp only [Act.put,List.setIfInBounds_toArray,List.set_cons_zero,List.set_cons_succ,i64_w,i32_w]
       rfl
      refine pure_ (i:=5) (N:=some 13) (v:=?_) (a':=?_) #[tt,tt,tt,tt,tt,tt,tt,ff,ff] rfl rfl (any_of HT_.out (by kernel_rfl)) (fun _ _ _ h=>h) (Or.inl ⟨by rfl,?_⟩) ?_ ?_
      rotate_left
      ·intro w'
       go_simp
       with_reducible rfl
      rotate_left
      ·simp only [Act.put,List.setIfInBounds_toArray,List.set_cons_zero,List.set_cons_succ,i64_w,i32_w]
       rfl
      exact norm_ (by simp only [putAll,Act.put,List.setIfInBounds_toArray,List.set_cons_zero,List.set_cons_succ]) (hCont (gb167) _ ⟨hHeld,(bk BK161.out),(bk BK167.out),GW167.out,GE167.out,NB161_167.out,NB167_161.out,(by repeat (first|with_reducible exact HB.out|exact bl HB|refine bs ?_ GE161|refine bs ?_ GE167))⟩)
    ·skip
     refine box_step ?hg (N:=4) ?hd (cs:=#[.int .i64 0,.int .i64 0]) (t:=50) ?hr ?_;(case hd=>rfl);(case hg=>rfl);(case hr=>first|(go_simp;done)|(go_simp;rfl))
     intro gb167 hg w11 hbox hb
     have n0_:=Aside0.mk (blk_below (bk BK161.out) hb)
     have n1_:=Aside0.mk (below_step (by repeat (first|with_reducible exact HB.out|exact bl HB|refine bs ?_ GE161)) hb)
     have n2_:=Aside0.mk (hbox)
     have n3_:=Aside0.mk ((by rw [hg];exact(below_size (by repeat (first|with_reducible exact HB.out|exact bl HB|refine bs ?_ GE161))):w.heap.size≤gb167))
     have n4_:=Aside0.mk ((by rw [hg];exact(below_size (by repeat (first|with_reducible exact HB.out|exact bl HB|refine bs ?_ GE161))):w.heap.size≤gb167))
     have n5_:=Aside0.mk ((by rw [hg];exact Nat.ne_of_lt (blk_lt (bk BK161.out)):gb161≠gb167))
     have n6_:=Aside0.mk ((by rw [hg];exact Nat.ne_of_gt (blk_lt (bk BK161.out)):gb167≠gb161))
     clear BK161
     clear HB
     have BK161:=n0_
     have HB:=n1_
     have BK167:=n2_
     have GW167:=n3_
     have GE167:=n4_
     have NB161_167:=n5_
     have NB167_161:=n6_
     clear n0_ n1_ n2_ n3_ n4_ n5_ n6_
     clear hb hbox hg
     refine hK.out _ _ ⟨(blk_cell BK161.out 0).trans rfl,(blk_cell BK161.out 1).trans rfl⟩ (fun hHeld=>?_)
     clear hK K
     refine norm_ (a':=?_) ?_ ?_
     rotate_left
     ·show Act.put _ (some 4) _=_
      simp only [Act.put,List.setIfInBounds_toArray,List.set_cons_zero,List.set_cons_succ,i64_w,i32_w]
      rfl
     refine one_ (i:=1) (N:=some 10) #[tt,tt,ff,ff,ff,ff,tt,ff,ff] rfl rfl (one_of HT_.out (by kernel_rfl)) (by decide) (fun K hK=>?_)
     refine goes_ Try.func66 (by kernel_rfl) rfl #[.int .i64 2147483648] (by rfl) rfl rfl (by exact mA _ _) ?_
     with_reducible refine(wide_Of.calls 2147483648 t162 t163 _ A2.out).mono ?_
     rintro e w12 ⟨rfl,hb⟩
     refine⟨_,rfl,?_⟩
     have n0_:=Aside0.mk (blk_below (bk BK161.out) hb)
     have n1_:=Aside0.mk (blk_below (bk BK167.out) hb)
     have n2_:=Aside0.mk (below_step (by repeat (first|with_reducible exact HB.out|exact bl HB|refine bs ?_ GE161|refine bs ?_ GE167)) hb)
     clear BK161
     clear BK167
     clear HB
     have BK161:=n0_
     have BK167:=n1_
     have HB:=n2_
     clear n0_ n1_ n2_
     (try clear hb)
     (try clear hb2)
     (try clear hk)
     (try clear hi)
     refine hK.out _ _ ⟨(blk_cell BK161.out 0).trans rfl,(blk_cell BK161.out 1).trans rfl⟩ (fun hHeld=>?_)
     clear hK K
     refine norm_ (a':=?_) ?_ ?_
     rotate_left
     ·show Act.put _ (some 10) _=_
      simp only [Act.put,List.setIfInBounds_toArray,List.set_cons_zero,List.set_cons_succ,i64_w,i32_w]
      rfl
     refine one_ (i:=2) (N:=some 11) #[tt,tt,tt,ff,ff,ff,tt,ff,ff] rfl rfl (one_of HT_.out (by kernel_rfl)) (by decide) (fun K hK=>?_)
     refine goes_ Try.func63 (by kernel_rfl) rfl #[.agg #[.int .i64 a0_0,.int .i64 a0_1],.agg #[.int .i64 t162,.int .i64 t163]] (by rfl) rfl rfl (by exact mA _ _) ?_
     with_reducible refine(wide_Add.calls a0_0 a0_1 t162 t163 t164 t165 true _ A3.out).mono ?_
     rintro e w13 ⟨rfl,hb⟩
     refine⟨_,rfl,?_⟩
     have n0_:=Aside0.mk (blk_below (bk BK161.out) hb)
     have n1_:=Aside0.mk (blk_below (bk BK167.out) hb)
     have n2_:=Aside0.mk (below_step (by repeat (first|with_reducible exact HB.out|exact bl HB|refine bs ?_ GE161|refine bs ?_ GE167)) hb)
     clear BK161
     clear BK167
     clear HB
     have BK161:=n0_
     have BK167:=n1_
     have HB:=n2_
     clear n0_ n1_ n2_
     (try clear hb)
     (try clear hb2)
     (try clear hk)
     (try clear hi)
     refine hK.out _ _ ⟨(blk_cell BK161.out 0).trans rfl,(blk_cell BK161.out 1).trans rfl⟩ (fun hHeld=>?_)
     clear hK K
     refine norm_ (a':=?_) ?_ ?_
     rotate_left
     ·show Act.put _ (some 11) _=_
      simp only [Act.put,List.setIfInBounds_toArray,List.set_cons_zero,List.set_cons_succ,i64_w,i32_w]
      rfl
     refine pure_ (i:=3) (N:=some 8) (v:=?_) (a':=?_) #[tt,tt,tt,tt,ff,ff,tt,ff,ff] rfl rfl (any_of HT_.out (by kernel_rfl)) (fun _ _ _ h=>h) (Or.inl ⟨by rfl,?_⟩) ?_ ?_
     rotate_left
     ·intro w'
      go_simp
      with_reducible rfl
     rotate_left
     ·simp only [Act.put,List.setIfInBounds_toArray,List.set_cons_zero,List.set_cons_succ,i64_w,i32_w]
      rfl
     refine pure_ (i:=4) (N:=some 12) (v:=?_) (a':=?_) #[tt,tt,tt,tt,tt,ff,tt,ff,ff] rfl rfl (any_of HT_.out (by kernel_rfl)) (fun _ _ _ h=>h) (Or.inl ⟨by rfl,?_⟩) ?_ ?_
     rotate_left
     ·intro w'
      go_simp
      with_reducible rfl
     rotate_left
     ·simp only [Act.put,List.setIfInBounds_toArray,List.set_cons_zero,List.set_cons_succ,i64_w,i32_w]
      rfl
     refine pure_ (i:=5) (N:=some 13) (v:=?_) (a':=?_) #[tt,tt,tt,tt,tt,tt,tt,ff,ff] rfl rfl (any_of HT_.out (by kernel_rfl)) (fun _ _ _ h=>h) (Or.inl ⟨by rfl,?_⟩) ?_ ?_
     rotate_left
     ·intro w'
      go_simp
      with_reducible rfl
     rotate_left
     ·simp only [Act.put,List.setIfInBounds_toArray,List.set_cons_zero,List.set_cons_succ,i64_w,i32_w]
      rfl
     exact norm_ (by simp only [putAll,Act.put,List.setIfInBounds_toArray,List.set_cons_zero,List.set_cons_succ]) (hCont (gb167) _ ⟨hHeld,(bk BK161.out),(bk BK167.out),GW167.out,GE167.out,NB161_167.out,NB167_161.out,(by repeat (first|with_reducible exact HB.out|exact bl HB|refine bs ?_ GE161|refine bs ?_ GE167))⟩)
   rintro gb167 w14 ⟨hS_,h0_,h1_,h2_,h3_,h4_,h5_,h6_⟩
   have n0_:Aside0 (w14.heap[gb161]? = some (.cells #[.int .i64 a0_0,.int .i64 a0_1] 50 (0,0))):=⟨h0_⟩
   have n1_:Aside0 (w14.heap[gb167]? = some (.cells #[.int .i64 0,.int .i64 0] 50 (0,0))):=⟨h1_⟩
   have n2_:Aside0 (w.heap.size≤gb167):=⟨h2_⟩
   have n3_:Aside0 (w.heap.size≤gb167):=⟨h3_⟩
   have n4_:Aside0 (gb161≠gb167):=⟨h4_⟩
   have n5_:Aside0 (gb167≠gb161):=⟨h5_⟩
   have n6_:Aside0 (Below w.heap.size w w14):=⟨h6_⟩
   clear BK161
   clear HB
   clear h0_ h1_ h2_ h3_ h4_ h5_ h6_
   have BK161:=n0_
   have BK167:=n1_
   have GW167:=n2_
   have GE167:=n3_
   have NB161_167:=n4_
   have NB167_161:=n5_
   have HB:=n6_
   clear n0_ n1_ n2_ n3_ n4_ n5_ n6_
   have hHeld:w14.cell? ⟨gb161,0,none⟩=some (.int .i64 a0_0)∧w14.cell? ⟨gb161,1,none⟩=some (.int .i64 a0_1):=hS_
   refine norm_ (a':=?_) ?_ ?_
   rotate_left
   ·simp only [putAll,Act.put,List.setIfInBounds_toArray,List.set_cons_zero,List.set_cons_succ]
    rfl
   refine one_ (i:=7) (N:=none) #[tt,tt,tt,tt,tt,tt,tt,tt,ff] rfl rfl (one_of HT_.out (by kernel_rfl)) (by decide) (fun K hK=>?_)
   have hs15:w14.cell? ⟨gb167,0,none⟩=some (.int .i64 0):=(blk_cell BK167.out 0).trans rfl
   have hfs15:=blk_frozen BK167.out 0
   have hns15_0:=NB161_167.out
   have hms15_0:=NB167_161.out
   have hs16:w14.cell? ⟨gb167,1,none⟩=some (.int .i64 0):=(blk_cell BK167.out 1).trans rfl
   have hfs16:=blk_frozen BK167.out 1
   have hns16_0:=NB161_167.out
   have hms16_0:=NB167_161.out
   refine skip_ (w1:=?_) (by rfl) rfl ?_ ?_
   rotate_left
   ·go_simp
    rfl
   refine hK.out _ _ ⟨((cell_far (p:=⟨gb167,_,none⟩) NB161_167.out _).trans (((cell_far (p:=⟨gb167,_,none⟩) NB161_167.out _).trans (hHeld.1)))),((cell_far (p:=⟨gb167,_,none⟩) NB161_167.out _).trans (((cell_far (p:=⟨gb167,_,none⟩) NB161_167.out _).trans (hHeld.2))))⟩ (fun hHeld=>?_)
   clear hK K
   refine pure_ (i:=8) (N:=some 5) (v:=?_) (a':=?_) #[tt,tt,tt,tt,tt,tt,tt,tt,tt] rfl rfl (any_of HT_.out (by kernel_rfl)) (fun _ _ _ h=>h) (Or.inl ⟨by rfl,?_⟩) ?_ ?_
   rotate_left
   ·intro w'
    go_simp
    with_reducible rfl
   rotate_left
   ·simp only [Act.put,List.setIfInBounds_toArray,List.set_cons_zero,List.set_cons_succ,i64_w,i32_w]
    rfl
   refine done_ (done_of HT_.out (by kernel_rfl)) ?_
   have hnb17:=NB167_161.out
   have hnc17:=NB161_167.out
   have hcz18_0:w14.cell? ⟨gb167,0,none⟩=some (.int .i64 0):=(blk_cell BK167.out 0).trans rfl
   have hcz18_1:w14.cell? ⟨gb167,1,none⟩=some (.int .i64 0):=(blk_cell BK167.out 1).trans rfl
   have hfz18_0:=blk_frozen BK167.out 0
   have hfz18_1:=blk_frozen BK167.out 1
   try go_wp2_with (first|((with_reducible refine gate_callee (f:=70) rfl ?_);refine goesL_ (some 18) rfl rfl Try.func70 (by kernel_rfl) rfl #[.agg #[.int .i64 t164,.int .i64 t165],.int .i64 32] rfl (by exact mA _ _) ?_;(with_reducible refine(wide_Down.calls t164 t165 32 t168 t169 _ A5.out).mono ?_);rintro e w19 ⟨rfl,hb⟩;refine⟨_,rfl,?_⟩;have n0_:=Aside0.mk (blk_below (g:=gb161) (o:=.cells #[.int .i64 a0_0,.int .i64 a0_1] 50 (0,0)) (by try refine bk ?_;refine blk_far ?_ NB161_167.out _;try refine bk ?_;refine blk_far ?_ NB161_167.out _;try refine bk ?_;exact BK161.out) hb);have n1_:=Aside0.mk (blk_below (g:=gb167) (o:=.cells #[.int .i64 t164,.int .i64 t165] 50 (0,0)) (by try refine bk ?_;refine blk_put (cs:=#[.int .i64 t164,.int .i64 0]) ?_ 1 _ rfl;try refine bk ?_;refine blk_put (cs:=#[.int .i64 0,.int .i64 0]) ?_ 0 _ rfl;try refine bk ?_;exact BK167.out) hb);have n2_:=Aside0.mk (below_step (by repeat (first|with_reducible exact HB.out|exact bl HB|refine bs ?_ GE161|refine bs ?_ GE167)) hb);clear BK161;clear BK167;clear HB;have BK161:=n0_;have BK167:=n1_;have HB:=n2_;clear n0_ n1_ n2_;(try clear hb);(try clear hb2);(try clear hk);(try clear hi))|((with_reducible refine gate_callee (f:=45) rfl ?_);refine goesL_ (some 19) rfl rfl Try.func45 (by kernel_rfl) rfl #[.agg #[.int .i64 t168,.int .i64 t169]] rfl (by exact mA _ _) ?_;(with_reducible refine(wide_Int.calls k t168 t169 t170 true _ A6.out).mono ?_);rintro e w20 ⟨rfl,hb⟩;refine⟨_,rfl,?_⟩;have n0_:=Aside0.mk (blk_below (bk BK161.out) hb);have n1_:=Aside0.mk (blk_below (bk BK167.out) hb);have n2_:=Aside0.mk (below_step (by repeat (first|with_reducible exact HB.out|exact bl HB|refine bs ?_ GE161|refine bs ?_ GE167)) hb);clear BK161;clear BK167;clear HB;have BK161:=n0_;have BK167:=n1_;have HB:=n2_;clear n0_ n1_ n2_;(try clear hb);(try clear hb2);(try clear hk);(try clear hi);have hcz21_0:w20.cell? ⟨gb161,0,none⟩=some (.int .i64 a0_0):=(blk_cell BK161.out 0).trans rfl;have hcz21_1:w20.cell? ⟨gb161,1,none⟩=some (.int .i64 a0_1):=(blk_cell BK161.out 1).trans rfl;have hfz21_0:=blk_frozen BK161.out 0;have hfz21_1:=blk_frozen BK161.out 1)|(go_at_call 71;(with_reducible refine(wide_Sane.calls a0_0 a0_1 t172 _ A8.out).mono ?_);rintro e w22 ⟨rfl,hb⟩;have n0_:=Aside0.mk (blk_below (bk BK161.out) hb);have n1_:=Aside0.mk (blk_below (bk BK167.out) hb);have n2_:=Aside0.mk (below_step (by repeat (first|with_reducible exact HB.out|exact bl HB|refine bs ?_ GE161|refine bs ?_ GE167)) hb);clear BK161;clear BK167;clear HB;have BK161:=n0_;have BK167:=n1_;have HB:=n2_;clear n0_ n1_ n2_;(try clear hb);(try clear hb2);(try clear hk);(try clear hi)))
   go_ret2
   exact⟨by first|rfl|(simp [errW_none,errW_some]<;>rfl)|(simp [*,errW_none,errW_some]<;>rfl),by repeat (first|with_reducible exact HB.out|exact bl HB|refine bs ?_ GE161|refine bs ?_ GE167)⟩
  ·replace c7:=Bool.eq_false_iff.mpr c7
   subst c7
   have H1:(some (t170,true))=some (r1,r2):=by rw [if_neg (show ¬(false=true) by decide)] at H;exact H
   clear H
   have H:=H1
   clear H1
   simp only [Option.some.injEq,Prod.mk.injEq] at H
   obtain⟨rfl,rfl⟩:=H
   go_enter Try.func52,Try.ntmps52
   try go_wp2_with (first|((with_reducible refine gate_dst (N:=1) rfl ?_);refine box_event ?hg (N:=1) ?hd (cs:=#[.int .i64 a0_0,.int .i64 a0_1]) (t:=50) ?hr ?_;(case hd=>rfl);(case hg=>rfl);(case hr=>first|(go_simp;done)|(go_simp;rfl));intro gb161 hg w23 hbox hb;have n0_:=Aside0.mk (below_step (by first|with_reducible exact HB.out|exact bl HB) hb);have n1_:=Aside0.mk (hbox);have n2_:=Aside0.mk ((by rw [hg];exact(below_size (by first|with_reducible exact HB.out|exact bl HB)):w.heap.size≤gb161));have n3_:=Aside0.mk ((by rw [hg];exact(below_size (by first|with_reducible exact HB.out|exact bl HB)):w.heap.size≤gb161));clear HB;have HB:=n0_;have BK161:=n1_;have GW161:=n2_;have GE161:=n3_;clear n0_ n1_ n2_ n3_;clear hb hbox hg))
   have n0_:=Aside0.mk (blk_drew BK161.out)
   have n1_:=Aside0.mk (below_drew1 HB.out)
   clear BK161
   clear HB
   have BK161:=n0_
   have HB:=n1_
   clear n0_ n1_
   refine start_ (n:=9) (S:=fun w'=>w'.cell? ⟨gb161,0,none⟩=some (.int .i64 a0_0)∧w'.cell? ⟨gb161,1,none⟩=some (.int .i64 a0_1)) (ds:=[]) #[ff,ff,ff,ff,ff,ff,ff,ff,ff] (by kernel_rfl) rfl rfl ⟨(blk_cell BK161.out 0).trans rfl,(blk_cell BK161.out 1).trans rfl⟩ (fun hHeld=>?_);refine with_tabW scale_Round.tab1 scale_Round.bits1 (fun HT_ HW_=>?_)
   generalize w23.drew=w24 at BK161 HB hHeld ⊢
   refine take_ (i:=0) (N:=some 9) (v:=?_) (a':=?_) #[tt,ff,ff,ff,ff,ff,ff,ff,ff] rfl rfl (take_ofW HT_.out HW_.out (by kernel_rfl)) (fun _ _ _ h=>h) (Or.inl ⟨by rfl,?_⟩) hHeld ?_ ?_
   rotate_left
   ·rintro w' ⟨s0,s1⟩
    go_simp
    with_reducible rfl
   rotate_left
   ·simp only [Act.put,List.setIfInBounds_toArray,List.set_cons_zero,List.set_cons_succ,i64_w,i32_w]
    rfl
   refine join_ (σ:=Nat) 2 #[tt,tt,tt,tt,tt,tt,tt,ff,ff] (fun s_=>[(10,.agg #[.int .i64 t162,.int .i64 t163]),(11,.tuple #[.agg #[.int .i64 t164,.int .i64 t165],.bool true]),(4,.pointer (some ⟨s_,0,none⟩)),(8,.tuple #[.agg #[.int .i64 t164,.int .i64 t165],.bool true]),(12,.agg #[.int .i64 t164,.int .i64 t165]),(13,.bool true)]) (fun s_ w'=>(w'.cell? ⟨gb161,0,none⟩=some (.int .i64 a0_0)∧w'.cell? ⟨gb161,1,none⟩=some (.int .i64 a0_1))∧(w'.heap[gb161]? = some (.cells #[.int .i64 a0_0,.int .i64 a0_1] 50 (0,0)))∧(w'.heap[s_]? = some (.cells #[.int .i64 0,.int .i64 0] 50 (0,0)))∧(w.heap.size≤s_)∧(w.heap.size≤s_)∧(gb161≠s_)∧(s_≠gb161)∧(Below w.heap.size w w')) ?_ ?_
   rotate_left
   ·intro hCont
    refine two_ (i:=1) (j:=6) (Ni:=some 10) (Nj:=some 4) #[tt,tt,ff,ff,ff,ff,ff,ff,ff] #[tt,ff,ff,ff,ff,ff,tt,ff,ff] rfl rfl rfl rfl (two_of HT_.out (by kernel_rfl)) (by decide) (by decide) (fun K hK=>?_) (fun K hK=>?_)
    ·skip
     refine goes_ Try.func66 (by kernel_rfl) rfl #[.int .i64 2147483648] (by rfl) rfl rfl (by exact mA _ _) ?_
     with_reducible refine(wide_Of.calls 2147483648 t162 t163 _ A2.out).mono ?_
     rintro e w25 ⟨rfl,hb⟩
     refine⟨_,rfl,?_⟩
     have n0_:=Aside0.mk (blk_below (bk BK161.out) hb)
     have n1_:=Aside0.mk (below_step (by repeat (first|with_reducible exact HB.out|exact bl HB|refine bs ?_ GE161)) hb)
     clear BK161
     clear HB
     have BK161:=n0_
     have HB:=n1_
     clear n0_ n1_
     (try clear hb)
     (try clear hb2)
     (try clear hk)
     (try clear hi)
     refine hK.out _ _ ⟨(blk_cell BK161.out 0).trans rfl,(blk_cell BK161.out 1).trans rfl⟩ (fun hHeld=>?_)
     clear hK K
     refine norm_ (a':=?_) ?_ ?_
     rotate_left
     ·show Act.put _ (some 10) _=_
      simp only [Act.put,List.setIfInBounds_toArray,List.set_cons_zero,List.set_cons_succ,i64_w,i32_w]
      rfl
     refine two_ (i:=2) (j:=6) (Ni:=some 11) (Nj:=some 4) #[tt,tt,tt,ff,ff,ff,ff,ff,ff] #[tt,tt,ff,ff,ff,ff,tt,ff,ff] rfl rfl rfl rfl (two_of HT_.out (by kernel_rfl)) (by decide) (by decide) (fun K hK=>?_) (fun K hK=>?_)
     ·skip
      refine goes_ Try.func63 (by kernel_rfl) rfl #[.agg #[.int .i64 a0_0,.int .i64 a0_1],.agg #[.int .i64 t162,.int .i64 t163]] (by rfl) rfl rfl (by exact mA _ _) ?_
      with_reducible refine(wide_Add.calls a0_0 a0_1 t162 t163 t164 t165 true _ A3.out).mono ?_
      rintro e w26 ⟨rfl,hb⟩
      refine⟨_,rfl,?_⟩
      have n0_:=Aside0.mk (blk_below (bk BK161.out) hb)
      have n1_:=Aside0.mk (below_step (by repeat (first|with_reducible exact HB.out|exact bl HB|refine bs ?_ GE161)) hb)
      clear BK161
      clear HB
      have BK161:=n0_
      have HB:=n1_
      clear n0_ n1_
      (try clear hb)
      (try clear hb2)
      (try clear hk)
      (try clear hi)
      refine hK.out _ _ ⟨(blk_cell BK161.out 0).trans rfl,(blk_cell BK161.out 1).trans rfl⟩ (fun hHeld=>?_)
      clear hK K
      refine norm_ (a':=?_) ?_ ?_
      rotate_left
      ·show Act.put _ (some 11) _=_
       simp only [Act.put,List.setIfInBounds_toArray,List.set_cons_zero,List.set_cons_succ,i64_w,i32_w]
       rfl
      refine pure_ (i:=3) (N:=some 8) (v:=?_) (a':=?_) #[tt,tt,tt,tt,ff,ff,ff,ff,ff] rfl rfl (any_of HT_.out (by kernel_rfl)) (fun _ _ _ h=>h) (Or.inl ⟨by rfl,?_⟩) ?_ ?_
      rotate_left
      ·intro w'
       go_simp
       with_reducible rfl
      rotate_left
      ·simp only [Act.put,List.setIfInBounds_toArray,List.set_cons_zero,List.set_cons_succ,i64_w,i32_w]
       rfl
      refine pure_ (i:=4) (N:=some 12) (v:=?_) (a':=?_) #[tt,tt,tt,tt,tt,ff,ff,ff,ff] rfl rfl (any_of HT_.out (by kernel_rfl)) (fun _ _ _ h=>h) (Or.inl ⟨by rfl,?_⟩) ?_ ?_
      rotate_left
      ·intro w'
       go_simp
       with_reducible rfl
      rotate_left
      ·simp only [Act.put,List.setIfInBounds_toArray,List.set_cons_zero,List.set_cons_succ,i64_w,i32_w]
       rfl
      refine pure_ (i:=5) (N:=some 13) (v:=?_) (a':=?_) #[tt,tt,tt,tt,tt,tt,ff,ff,ff] rfl rfl (any_of HT_.out (by kernel_rfl)) (fun _ _ _ h=>h) (Or.inl ⟨by rfl,?_⟩) ?_ ?_
      rotate_left
      ·intro w'
       go_simp
       with_reducible rfl
      rotate_left
      ·simp only [Act.put,List.setIfInBounds_toArray,List.set_cons_zero,List.set_cons_succ,i64_w,i32_w]
       rfl
      refine one_ (i:=6) (N:=some 4) #[tt,tt,tt,tt,tt,tt,tt,ff,ff] rfl rfl (one_of HT_.out (by kernel_rfl)) (by decide) (fun K hK=>?_)
      refine box_step ?hg (N:=4) ?hd (cs:=#[.int .i64 0,.int .i64 0]) (t:=50) ?hr ?_;(case hd=>rfl);(case hg=>rfl);(case hr=>first|(go_simp;done)|(go_simp;rfl))
      intro gb167 hg w27 hbox hb
      have n0_:=Aside0.mk (blk_below (bk BK161.out) hb)
      have n1_:=Aside0.mk (below_step (by repeat (first|with_reducible exact HB.out|exact bl HB|refine bs ?_ GE161)) hb)
      have n2_:=Aside0.mk (hbox)
      have n3_:=Aside0.mk ((by rw [hg];exact(below_size (by repeat (first|with_reducible exact HB.out|exact bl HB|refine bs ?_ GE161))):w.heap.size≤gb167))
      have n4_:=Aside0.mk ((by rw [hg];exact(below_size (by repeat (first|with_reducible exact HB.out|exact bl HB|refine bs ?_ GE161))):w.heap.size≤gb167))
      have n5_:=Aside0.mk ((by rw [hg];exact Nat.ne_of_lt (blk_lt (bk BK161.out)):gb161≠gb167))
      have n6_:=Aside0.mk ((by rw [hg];exact Nat.ne_of_gt (blk_lt (bk BK161.out)):gb167≠gb161))
      clear BK161
      clear HB
      have BK161:=n0_
      have HB:=n1_
      have BK167:=n2_
      have GW167:=n3_
      have GE167:=n4_
      have NB161_167:=n5_
      have NB167_161:=n6_
      clear n0_ n1_ n2_ n3_ n4_ n5_ n6_
      clear hb hbox hg
      refine hK.out _ _ ⟨(blk_cell BK161.out 0).trans rfl,(blk_cell BK161.out 1).trans rfl⟩ (fun hHeld=>?_)
      clear hK K
      refine norm_ (a':=?_) ?_ ?_
      rotate_left
      ·show Act.put _ (some 4) _=_
       simp only [Act.put,List.setIfInBounds_toArray,List.set_cons_zero,List.set_cons_succ,i64_w,i32_w]
       rfl
      exact norm_ (by simp only [putAll,Act.put,List.setIfInBounds_toArray,List.set_cons_zero,List.set_cons_succ]) (hCont (gb167) _ ⟨hHeld,(bk BK161.out),(bk BK167.out),GW167.out,GE167.out,NB161_167.out,NB167_161.out,(by repeat (first|with_reducible exact HB.out|exact bl HB|refine bs ?_ GE161|refine bs ?_ GE167))⟩)
     ·skip
      refine box_step ?hg (N:=4) ?hd (cs:=#[.int .i64 0,.int .i64 0]) (t:=50) ?hr ?_;(case hd=>rfl);(case hg=>rfl);(case hr=>first|(go_simp;done)|(go_simp;rfl))
      intro gb167 hg w26 hbox hb
      have n0_:=Aside0.mk (blk_below (bk BK161.out) hb)
      have n1_:=Aside0.mk (below_step (by repeat (first|with_reducible exact HB.out|exact bl HB|refine bs ?_ GE161)) hb)
      have n2_:=Aside0.mk (hbox)
      have n3_:=Aside0.mk ((by rw [hg];exact(below_size (by repeat (first|with_reducible exact HB.out|exact bl HB|refine bs ?_ GE161))):w.heap.size≤gb167))
      have n4_:=Aside0.mk ((by rw [hg];exact(below_size (by repeat (first|with_reducible exact HB.out|exact bl HB|refine bs ?_ GE161))):w.heap.size≤gb167))
      have n5_:=Aside0.mk ((by rw [hg];exact Nat.ne_of_lt (blk_lt (bk BK161.out)):gb161≠gb167))
      have n6_:=Aside0.mk ((by rw [hg];exact Nat.ne_of_gt (blk_lt (bk BK161.out)):gb167≠gb161))
      clear BK161
      clear HB
      have BK161:=n0_
      have HB:=n1_
      have BK167:=n2_
      have GW167:=n3_
      have GE167:=n4_
      have NB161_167:=n5_
      have NB167_161:=n6_
      clear n0_ n1_ n2_ n3_ n4_ n5_ n6_
      clear hb hbox hg
      refine hK.out _ _ ⟨(blk_cell BK161.out 0).trans rfl,(blk_cell BK161.out 1).trans rfl⟩ (fun hHeld=>?_)
      clear hK K
      refine norm_ (a':=?_) ?_ ?_
      rotate_left
      ·show Act.put _ (some 4) _=_
       simp only [Act.put,List.setIfInBounds_toArray,List.set_cons_zero,List.set_cons_succ,i64_w,i32_w]
       rfl
      refine one_ (i:=2) (N:=some 11) #[tt,tt,tt,ff,ff,ff,tt,ff,ff] rfl rfl (one_of HT_.out (by kernel_rfl)) (by decide) (fun K hK=>?_)
      refine goes_ Try.func63 (by kernel_rfl) rfl #[.agg #[.int .i64 a0_0,.int .i64 a0_1],.agg #[.int .i64 t162,.int .i64 t163]] (by rfl) rfl rfl (by exact mA _ _) ?_
      with_reducible refine(wide_Add.calls a0_0 a0_1 t162 t163 t164 t165 true _ A3.out).mono ?_
      rintro e w27 ⟨rfl,hb⟩
      refine⟨_,rfl,?_⟩
      have n0_:=Aside0.mk (blk_below (bk BK161.out) hb)
      have n1_:=Aside0.mk (blk_below (bk BK167.out) hb)
      have n2_:=Aside0.mk (below_step (by repeat (first|with_reducible exact HB.out|exact bl HB|refine bs ?_ GE161|refine bs ?_ GE167)) hb)
      clear BK161
      clear BK167
      clear HB
      have BK161:=n0_
      have BK167:=n1_
      have HB:=n2_
      clear n0_ n1_ n2_
      (try clear hb)
      (try clear hb2)
      (try clear hk)
      (try clear hi)
      refine hK.out _ _ ⟨(blk_cell BK161.out 0).trans rfl,(blk_cell BK161.out 1).trans rfl⟩ (fun hHeld=>?_)
      clear hK K
      refine norm_ (a':=?_) ?_ ?_
      rotate_left
      ·show Act.put _ (some 11) _=_
       simp only [Act.put,List.setIfInBounds_toArray,List.set_cons_zero,List.set_cons_succ,i64_w,i32_w]
       rfl
      refine pure_ (i:=3) (N:=some 8) (v:=?_) (a':=?_) #[tt,tt,tt,tt,ff,ff,tt,ff,ff] rfl rfl (any_of HT_.out (by kernel_rfl)) (fun _ _ _ h=>h) (Or.inl ⟨by rfl,?_⟩) ?_ ?_
      rotate_left
      ·intro w'
       go_simp
       with_reducible rfl
      rotate_left
      ·simp only [Act.put,List.setIfInBounds_toArray,List.set_cons_zero,List.set_cons_succ,i64_w,i32_w]
       rfl
      refine pure_ (i:=4) (N:=some 12) (v:=?_) (a':=?_) #[tt,tt,tt,tt,tt,ff,tt,ff,ff] rfl rfl (any_of HT_.out (by kernel_rfl)) (fun _ _ _ h=>h) (Or.inl ⟨by rfl,?_⟩) ?_ ?_
      rotate_left
      ·intro w'
       go_simp
       with_reducible rfl
      rotate_left
      ·simp only [Act.put,List.setIfInBounds_toArray,List.set_cons_zero,List.set_cons_succ,i64_w,i32_w]
       rfl
      refine pure_ (i:=5) (N:=some 13) (v:=?_) (a':=?_) #[tt,tt,tt,tt,tt,tt,tt,ff,ff] rfl rfl (any_of HT_.out (by kernel_rfl)) (fun _ _ _ h=>h) (Or.inl ⟨by rfl,?_⟩) ?_ ?_
      rotate_left
      ·intro w'
       go_simp
       with_reducible rfl
      rotate_left
      ·simp only [Act.put,List.setIfInBounds_toArray,List.set_cons_zero,List.set_cons_succ,i64_w,i32_w]
       rfl
      exact norm_ (by simp only [putAll,Act.put,List.setIfInBounds_toArray,List.set_cons_zero,List.set_cons_succ]) (hCont (gb167) _ ⟨hHeld,(bk BK161.out),(bk BK167.out),GW167.out,GE167.out,NB161_167.out,NB167_161.out,(by repeat (first|with_reducible exact HB.out|exact bl HB|refine bs ?_ GE161|refine bs ?_ GE167))⟩)
    ·skip
     refine box_step ?hg (N:=4) ?hd (cs:=#[.int .i64 0,.int .i64 0]) (t:=50) ?hr ?_;(case hd=>rfl);(case hg=>rfl);(case hr=>first|(go_simp;done)|(go_simp;rfl))
     intro gb167 hg w25 hbox hb
     have n0_:=Aside0.mk (blk_below (bk BK161.out) hb)
     have n1_:=Aside0.mk (below_step (by repeat (first|with_reducible exact HB.out|exact bl HB|refine bs ?_ GE161)) hb)
     have n2_:=Aside0.mk (hbox)
     have n3_:=Aside0.mk ((by rw [hg];exact(below_size (by repeat (first|with_reducible exact HB.out|exact bl HB|refine bs ?_ GE161))):w.heap.size≤gb167))
     have n4_:=Aside0.mk ((by rw [hg];exact(below_size (by repeat (first|with_reducible exact HB.out|exact bl HB|refine bs ?_ GE161))):w.heap.size≤gb167))
     have n5_:=Aside0.mk ((by rw [hg];exact Nat.ne_of_lt (blk_lt (bk BK161.out)):gb161≠gb167))
     have n6_:=Aside0.mk ((by rw [hg];exact Nat.ne_of_gt (blk_lt (bk BK161.out)):gb167≠gb161))
     clear BK161
     clear HB
     have BK161:=n0_
     have HB:=n1_
     have BK167:=n2_
     have GW167:=n3_
     have GE167:=n4_
     have NB161_167:=n5_
     have NB167_161:=n6_
     clear n0_ n1_ n2_ n3_ n4_ n5_ n6_
     clear hb hbox hg
     refine hK.out _ _ ⟨(blk_cell BK161.out 0).trans rfl,(blk_cell BK161.out 1).trans rfl⟩ (fun hHeld=>?_)
     clear hK K
     refine norm_ (a':=?_) ?_ ?_
     rotate_left
     ·show Act.put _ (some 4) _=_
      simp only [Act.put,List.setIfInBounds_toArray,List.set_cons_zero,List.set_cons_succ,i64_w,i32_w]
      rfl
     refine one_ (i:=1) (N:=some 10) #[tt,tt,ff,ff,ff,ff,tt,ff,ff] rfl rfl (one_of HT_.out (by kernel_rfl)) (by decide) (fun K hK=>?_)
     refine goes_ Try.func66 (by kernel_rfl) rfl #[.int .i64 2147483648] (by rfl) rfl rfl (by exact mA _ _) ?_
     with_reducible refine(wide_Of.calls 2147483648 t162 t163 _ A2.out).mono ?_
     rintro e w26 ⟨rfl,hb⟩
     refine⟨_,rfl,?_⟩
     have n0_:=Aside0.mk (blk_below (bk BK161.out) hb)
     have n1_:=Aside0.mk (blk_below (bk BK167.out) hb)
     have n2_:=Aside0.mk (below_step (by repeat (first|with_reducible exact HB.out|exact bl HB|refine bs ?_ GE161|refine bs ?_ GE167)) hb)
     clear BK161
     clear BK167
     clear HB
     have BK161:=n0_
     have BK167:=n1_
     have HB:=n2_
     clear n0_ n1_ n2_
     (try clear hb)
     (try clear hb2)
     (try clear hk)
     (try clear hi)
     refine hK.out _ _ ⟨(blk_cell BK161.out 0).trans rfl,(blk_cell BK161.out 1).trans rfl⟩ (fun hHeld=>?_)
     clear hK K
     refine norm_ (a':=?_) ?_ ?_
     rotate_left
     ·show Act.put _ (some 10) _=_
      simp only [Act.put,List.setIfInBounds_toArray,List.set_cons_zero,List.set_cons_succ,i64_w,i32_w]
      rfl
     refine one_ (i:=2) (N:=some 11) #[tt,tt,tt,ff,ff,ff,tt,ff,ff] rfl rfl (one_of HT_.out (by kernel_rfl)) (by decide) (fun K hK=>?_)
     refine goes_ Try.func63 (by kernel_rfl) rfl #[.agg #[.int .i64 a0_0,.int .i64 a0_1],.agg #[.int .i64 t162,.int .i64 t163]] (by rfl) rfl rfl (by exact mA _ _) ?_
     with_reducible refine(wide_Add.calls a0_0 a0_1 t162 t163 t164 t165 true _ A3.out).mono ?_
     rintro e w27 ⟨rfl,hb⟩
     refine⟨_,rfl,?_⟩
     have n0_:=Aside0.mk (blk_below (bk BK161.out) hb)
     have n1_:=Aside0.mk (blk_below (bk BK167.out) hb)
     have n2_:=Aside0.mk (below_step (by repeat (first|with_reducible exact HB.out|exact bl HB|refine bs ?_ GE161|refine bs ?_ GE167)) hb)
     clear BK161
     clear BK167
     clear HB
     have BK161:=n0_
     have BK167:=n1_
     have HB:=n2_
     clear n0_ n1_ n2_
     (try clear hb)
     (try clear hb2)
     (try clear hk)
     (try clear hi)
     refine hK.out _ _ ⟨(blk_cell BK161.out 0).trans rfl,(blk_cell BK161.out 1).trans rfl⟩ (fun hHeld=>?_)
     clear hK K
     refine norm_ (a':=?_) ?_ ?_
     rotate_left
     ·show Act.put _ (some 11) _=_
      simp only [Act.put,List.setIfInBounds_toArray,List.set_cons_zero,List.set_cons_succ,i64_w,i32_w]
      rfl
     refine pure_ (i:=3) (N:=some 8) (v:=?_) (a':=?_) #[tt,tt,tt,tt,ff,ff,tt,ff,ff] rfl rfl (any_of HT_.out (by kernel_rfl)) (fun _ _ _ h=>h) (Or.inl ⟨by rfl,?_⟩) ?_ ?_
     rotate_left
     ·intro w'
      go_simp
      with_reducible rfl
     rotate_left
     ·simp only [Act.put,List.setIfInBounds_toArray,List.set_cons_zero,List.set_cons_succ,i64_w,i32_w]
      rfl
     refine pure_ (i:=4) (N:=some 12) (v:=?_) (a':=?_) #[tt,tt,tt,tt,tt,ff,tt,ff,ff] rfl rfl (any_of HT_.out (by kernel_rfl)) (fun _ _ _ h=>h) (Or.inl ⟨by rfl,?_⟩) ?_ ?_
     rotate_left
     ·intro w'
      go_simp
      with_reducible rfl
     rotate_left
     ·simp only [Act.put,List.setIfInBounds_toArray,List.set_cons_zero,List.set_cons_succ,i64_w,i32_w]
      rfl
     refine pure_ (i:=5) (N:=some 13) (v:=?_) (a':=?_) #[tt,tt,tt,tt,tt,tt,tt,ff,ff] rfl rfl (any_of HT_.out (by kernel_rfl)) (fun _ _ _ h=>h) (Or.inl ⟨by rfl,?_⟩) ?_ ?_
     rotate_left
     ·intro w'
      go_simp
      with_reducible rfl
     rotate_left
     ·simp only [Act.put,List.setIfInBounds_toArray,List.set_cons_zero,List.set_cons_succ,i64_w,i32_w]
      rfl
     exact norm_ (by simp only [putAll,Act.put,List.setIfInBounds_toArray,List.set_cons_zero,List.set_cons_succ]) (hCont (gb167) _ ⟨hHeld,(bk BK161.out),(bk BK167.out),GW167.out,GE167.out,NB161_167.out,NB167_161.out,(by repeat (first|with_reducible exact HB.out|exact bl HB|refine bs ?_ GE161|refine bs ?_ GE167))⟩)
   rintro gb167 w28 ⟨hS_,h0_,h1_,h2_,h3_,h4_,h5_,h6_⟩
   have n0_:Aside0 (w28.heap[gb161]? = some (.cells #[.int .i64 a0_0,.int .i64 a0_1] 50 (0,0))):=⟨h0_⟩
   have n1_:Aside0 (w28.heap[gb167]? = some (.cells #[.int .i64 0,.int .i64 0] 50 (0,0))):=⟨h1_⟩
   have n2_:Aside0 (w.heap.size≤gb167):=⟨h2_⟩
   have n3_:Aside0 (w.heap.size≤gb167):=⟨h3_⟩
   have n4_:Aside0 (gb161≠gb167):=⟨h4_⟩
   have n5_:Aside0 (gb167≠gb161):=⟨h5_⟩
   have n6_:Aside0 (Below w.heap.size w w28):=⟨h6_⟩
   clear BK161
   clear HB
   clear h0_ h1_ h2_ h3_ h4_ h5_ h6_
   have BK161:=n0_
   have BK167:=n1_
   have GW167:=n2_
   have GE167:=n3_
   have NB161_167:=n4_
   have NB167_161:=n5_
   have HB:=n6_
   clear n0_ n1_ n2_ n3_ n4_ n5_ n6_
   have hHeld:w28.cell? ⟨gb161,0,none⟩=some (.int .i64 a0_0)∧w28.cell? ⟨gb161,1,none⟩=some (.int .i64 a0_1):=hS_
   refine norm_ (a':=?_) ?_ ?_
   rotate_left
   ·simp only [putAll,Act.put,List.setIfInBounds_toArray,List.set_cons_zero,List.set_cons_succ]
    rfl
   refine one_ (i:=7) (N:=none) #[tt,tt,tt,tt,tt,tt,tt,tt,ff] rfl rfl (one_of HT_.out (by kernel_rfl)) (by decide) (fun K hK=>?_)
   have hs29:w28.cell? ⟨gb167,0,none⟩=some (.int .i64 0):=(blk_cell BK167.out 0).trans rfl
   have hfs29:=blk_frozen BK167.out 0
   have hns29_0:=NB161_167.out
   have hms29_0:=NB167_161.out
   have hs30:w28.cell? ⟨gb167,1,none⟩=some (.int .i64 0):=(blk_cell BK167.out 1).trans rfl
   have hfs30:=blk_frozen BK167.out 1
   have hns30_0:=NB161_167.out
   have hms30_0:=NB167_161.out
   refine skip_ (w1:=?_) (by rfl) rfl ?_ ?_
   rotate_left
   ·go_simp
    rfl
   refine hK.out _ _ ⟨((cell_far (p:=⟨gb167,_,none⟩) NB161_167.out _).trans (((cell_far (p:=⟨gb167,_,none⟩) NB161_167.out _).trans (hHeld.1)))),((cell_far (p:=⟨gb167,_,none⟩) NB161_167.out _).trans (((cell_far (p:=⟨gb167,_,none⟩) NB161_167.out _).trans (hHeld.2))))⟩ (fun hHeld=>?_)
   clear hK K
   refine pure_ (i:=8) (N:=some 5) (v:=?_) (a':=?_) #[tt,tt,tt,tt,tt,tt,tt,tt,tt] rfl rfl (any_of HT_.out (by kernel_rfl)) (fun _ _ _ h=>h) (Or.inl ⟨by rfl,?_⟩) ?_ ?_
   rotate_left
   ·intro w'
    go_simp
    with_reducible rfl
   rotate_left
   ·simp only [Act.put,List.setIfInBounds_toArray,List.set_cons_zero,List.set_cons_succ,i64_w,i32_w]
    rfl
   refine done_ (done_of HT_.out (by kernel_rfl)) ?_
   have hnb31:=NB167_161.out
   have hnc31:=NB161_167.out
   have hcz32_0:w28.cell? ⟨gb167,0,none⟩=some (.int .i64 0):=(blk_cell BK167.out 0).trans rfl
   have hcz32_1:w28.cell? ⟨gb167,1,none⟩=some (.int .i64 0):=(blk_cell BK167.out 1).trans rfl
   have hfz32_0:=blk_frozen BK167.out 0
   have hfz32_1:=blk_frozen BK167.out 1
   try go_wp2_with (first|((with_reducible refine gate_callee (f:=70) rfl ?_);refine goesL_ (some 18) rfl rfl Try.func70 (by kernel_rfl) rfl #[.agg #[.int .i64 t164,.int .i64 t165],.int .i64 32] rfl (by exact mA _ _) ?_;(with_reducible refine(wide_Down.calls t164 t165 32 t168 t169 _ A5.out).mono ?_);rintro e w33 ⟨rfl,hb⟩;refine⟨_,rfl,?_⟩;have n0_:=Aside0.mk (blk_below (g:=gb161) (o:=.cells #[.int .i64 a0_0,.int .i64 a0_1] 50 (0,0)) (by try refine bk ?_;refine blk_far ?_ NB161_167.out _;try refine bk ?_;refine blk_far ?_ NB161_167.out _;try refine bk ?_;exact BK161.out) hb);have n1_:=Aside0.mk (blk_below (g:=gb167) (o:=.cells #[.int .i64 t164,.int .i64 t165] 50 (0,0)) (by try refine bk ?_;refine blk_put (cs:=#[.int .i64 t164,.int .i64 0]) ?_ 1 _ rfl;try refine bk ?_;refine blk_put (cs:=#[.int .i64 0,.int .i64 0]) ?_ 0 _ rfl;try refine bk ?_;exact BK167.out) hb);have n2_:=Aside0.mk (below_step (by repeat (first|with_reducible exact HB.out|exact bl HB|refine bs ?_ GE161|refine bs ?_ GE167)) hb);clear BK161;clear BK167;clear HB;have BK161:=n0_;have BK167:=n1_;have HB:=n2_;clear n0_ n1_ n2_;(try clear hb);(try clear hb2);(try clear hk);(try clear hi))|((with_reducible refine gate_callee (f:=45) rfl ?_);refine goesL_ (some 19) rfl rfl Try.func45 (by kernel_rfl) rfl #[.agg #[.int .i64 t168,.int .i64 t169]] rfl (by exact mA _ _) ?_;(with_reducible refine(wide_Int.calls k t168 t169 t170 false _ A6.out).mono ?_);rintro e w34 ⟨rfl,hb⟩;refine⟨_,rfl,?_⟩;have n0_:=Aside0.mk (blk_below (bk BK161.out) hb);have n1_:=Aside0.mk (blk_below (bk BK167.out) hb);have n2_:=Aside0.mk (below_step (by repeat (first|with_reducible exact HB.out|exact bl HB|refine bs ?_ GE161|refine bs ?_ GE167)) hb);clear BK161;clear BK167;clear HB;have BK161:=n0_;have BK167:=n1_;have HB:=n2_;clear n0_ n1_ n2_;(try clear hb);(try clear hb2);(try clear hk);(try clear hi)))
   go_ret2
   exact⟨by first|rfl|(simp [errW_none,errW_some]<;>rfl)|(simp [*,errW_none,errW_some]<;>rfl),by repeat (first|with_reducible exact HB.out|exact bl HB|refine bs ?_ GE161|refine bs ?_ GE167)⟩
 ·replace c4:=Bool.eq_false_iff.mpr c4
  subst c4
  have H1:(some (288230376151711744,true))=some (r1,r2):=by rw [if_neg (show ¬(false=true) by decide)] at H;exact H
  clear H
  have H:=H1
  clear H1
  simp only [Option.some.injEq,Prod.mk.injEq] at H
  obtain⟨rfl,rfl⟩:=H
  go_enter Try.func52,Try.ntmps52
  try go_wp2_with (first|((with_reducible refine gate_dst (N:=1) rfl ?_);refine box_event ?hg (N:=1) ?hd (cs:=#[.int .i64 a0_0,.int .i64 a0_1]) (t:=50) ?hr ?_;(case hd=>rfl);(case hg=>rfl);(case hr=>first|(go_simp;done)|(go_simp;rfl));intro gb161 hg w35 hbox hb;have n0_:=Aside0.mk (below_step (by first|with_reducible exact HB.out|exact bl HB) hb);have n1_:=Aside0.mk (hbox);have n2_:=Aside0.mk ((by rw [hg];exact(below_size (by first|with_reducible exact HB.out|exact bl HB)):w.heap.size≤gb161));have n3_:=Aside0.mk ((by rw [hg];exact(below_size (by first|with_reducible exact HB.out|exact bl HB)):w.heap.size≤gb161));clear HB;have HB:=n0_;have BK161:=n1_;have GW161:=n2_;have GE161:=n3_;clear n0_ n1_ n2_ n3_;clear hb hbox hg))
  have n0_:=Aside0.mk (blk_drew BK161.out)
  have n1_:=Aside0.mk (below_drew1 HB.out)
  clear BK161
  clear HB
  have BK161:=n0_
  have HB:=n1_
  clear n0_ n1_
  refine start_ (n:=9) (S:=fun w'=>w'.cell? ⟨gb161,0,none⟩=some (.int .i64 a0_0)∧w'.cell? ⟨gb161,1,none⟩=some (.int .i64 a0_1)) (ds:=[]) #[ff,ff,ff,ff,ff,ff,ff,ff,ff] (by kernel_rfl) rfl rfl ⟨(blk_cell BK161.out 0).trans rfl,(blk_cell BK161.out 1).trans rfl⟩ (fun hHeld=>?_);refine with_tabW scale_Round.tab1 scale_Round.bits1 (fun HT_ HW_=>?_)
  generalize w35.drew=w36 at BK161 HB hHeld ⊢
  refine take_ (i:=0) (N:=some 9) (v:=?_) (a':=?_) #[tt,ff,ff,ff,ff,ff,ff,ff,ff] rfl rfl (take_ofW HT_.out HW_.out (by kernel_rfl)) (fun _ _ _ h=>h) (Or.inl ⟨by rfl,?_⟩) hHeld ?_ ?_
  rotate_left
  ·rintro w' ⟨s0,s1⟩
   go_simp
   with_reducible rfl
  rotate_left
  ·simp only [Act.put,List.setIfInBounds_toArray,List.set_cons_zero,List.set_cons_succ,i64_w,i32_w]
   rfl
  refine join_ (σ:=Nat) 2 #[tt,tt,tt,tt,tt,tt,tt,ff,ff] (fun s_=>[(10,.agg #[.int .i64 t162,.int .i64 t163]),(11,.tuple #[.agg #[.int .i64 t164,.int .i64 t165],.bool false]),(4,.pointer (some ⟨s_,0,none⟩)),(8,.tuple #[.agg #[.int .i64 t164,.int .i64 t165],.bool false]),(12,.agg #[.int .i64 t164,.int .i64 t165]),(13,.bool false)]) (fun s_ w'=>(w'.cell? ⟨gb161,0,none⟩=some (.int .i64 a0_0)∧w'.cell? ⟨gb161,1,none⟩=some (.int .i64 a0_1))∧(w'.heap[gb161]? = some (.cells #[.int .i64 a0_0,.int .i64 a0_1] 50 (0,0)))∧(w'.heap[s_]? = some (.cells #[.int .i64 0,.int .i64 0] 50 (0,0)))∧(w.heap.size≤s_)∧(w.heap.size≤s_)∧(gb161≠s_)∧(s_≠gb161)∧(Below w.heap.size w w')) ?_ ?_
  rotate_left
  ·intro hCont
   refine two_ (i:=1) (j:=6) (Ni:=some 10) (Nj:=some 4) #[tt,tt,ff,ff,ff,ff,ff,ff,ff] #[tt,ff,ff,ff,ff,ff,tt,ff,ff] rfl rfl rfl rfl (two_of HT_.out (by kernel_rfl)) (by decide) (by decide) (fun K hK=>?_) (fun K hK=>?_)
   ·skip
    refine goes_ Try.func66 (by kernel_rfl) rfl #[.int .i64 2147483648] (by rfl) rfl rfl (by exact mA _ _) ?_
    with_reducible refine(wide_Of.calls 2147483648 t162 t163 _ A2.out).mono ?_
    rintro e w37 ⟨rfl,hb⟩
    refine⟨_,rfl,?_⟩
    have n0_:=Aside0.mk (blk_below (bk BK161.out) hb)
    have n1_:=Aside0.mk (below_step (by repeat (first|with_reducible exact HB.out|exact bl HB|refine bs ?_ GE161)) hb)
    clear BK161
    clear HB
    have BK161:=n0_
    have HB:=n1_
    clear n0_ n1_
    (try clear hb)
    (try clear hb2)
    (try clear hk)
    (try clear hi)
    refine hK.out _ _ ⟨(blk_cell BK161.out 0).trans rfl,(blk_cell BK161.out 1).trans rfl⟩ (fun hHeld=>?_)
    clear hK K
    refine norm_ (a':=?_) ?_ ?_
    rotate_left
    ·show Act.put _ (some 10) _=_
     simp only [Act.put,List.setIfInBounds_toArray,List.set_cons_zero,List.set_cons_succ,i64_w,i32_w]
     rfl
    refine two_ (i:=2) (j:=6) (Ni:=some 11) (Nj:=some 4) #[tt,tt,tt,ff,ff,ff,ff,ff,ff] #[tt,tt,ff,ff,ff,ff,tt,ff,ff] rfl rfl rfl rfl (two_of HT_.out (by kernel_rfl)) (by decide) (by decide) (fun K hK=>?_) (fun K hK=>?_)
    ·skip
     refine goes_ Try.func63 (by kernel_rfl) rfl #[.agg #[.int .i64 a0_0,.int .i64 a0_1],.agg #[.int .i64 t162,.int .i64 t163]] (by rfl) rfl rfl (by exact mA _ _) ?_
     with_reducible refine(wide_Add.calls a0_0 a0_1 t162 t163 t164 t165 false _ A3.out).mono ?_
     rintro e w38 ⟨rfl,hb⟩
     refine⟨_,rfl,?_⟩
     have n0_:=Aside0.mk (blk_below (bk BK161.out) hb)
     have n1_:=Aside0.mk (below_step (by repeat (first|with_reducible exact HB.out|exact bl HB|refine bs ?_ GE161)) hb)
     clear BK161
     clear HB
     have BK161:=n0_
     have HB:=n1_
     clear n0_ n1_
     (try clear hb)
     (try clear hb2)
     (try clear hk)
     (try clear hi)
     refine hK.out _ _ ⟨(blk_cell BK161.out 0).trans rfl,(blk_cell BK161.out 1).trans rfl⟩ (fun hHeld=>?_)
     clear hK K
     refine norm_ (a':=?_) ?_ ?_
     rotate_left
     ·show Act.put _ (some 11) _=_
      simp only [Act.put,List.setIfInBounds_toArray,List.set_cons_zero,List.set_cons_succ,i64_w,i32_w]
      rfl
     refine pure_ (i:=3) (N:=some 8) (v:=?_) (a':=?_) #[tt,tt,tt,tt,ff,ff,ff,ff,ff] rfl rfl (any_of HT_.out (by kernel_rfl)) (fun _ _ _ h=>h) (Or.inl ⟨by rfl,?_⟩) ?_ ?_
     rotate_left
     ·intro w'
      go_simp
      with_reducible rfl
     rotate_left
     ·simp only [Act.put,List.setIfInBounds_toArray,List.set_cons_zero,List.set_cons_succ,i64_w,i32_w]
      rfl
     refine pure_ (i:=4) (N:=some 12) (v:=?_) (a':=?_) #[tt,tt,tt,tt,tt,ff,ff,ff,ff] rfl rfl (any_of HT_.out (by kernel_rfl)) (fun _ _ _ h=>h) (Or.inl ⟨by rfl,?_⟩) ?_ ?_
     rotate_left
     ·intro w'
      go_simp
      with_reducible rfl
     rotate_left
     ·simp only [Act.put,List.setIfInBounds_toArray,List.set_cons_zero,List.set_cons_succ,i64_w,i32_w]
      rfl
     refine pure_ (i:=5) (N:=some 13) (v:=?_) (a':=?_) #[tt,tt,tt,tt,tt,tt,ff,ff,ff] rfl rfl (any_of HT_.out (by kernel_rfl)) (fun _ _ _ h=>h) (Or.inl ⟨by rfl,?_⟩) ?_ ?_
     rotate_left
     ·intro w'
      go_simp
      with_reducible rfl
     rotate_left
     ·simp only [Act.put,List.setIfInBounds_toArray,List.set_cons_zero,List.set_cons_succ,i64_w,i32_w]
      rfl
     refine one_ (i:=6) (N:=some 4) #[tt,tt,tt,tt,tt,tt,tt,ff,ff] rfl rfl (one_of HT_.out (by kernel_rfl)) (by decide) (fun K hK=>?_)
     refine box_step ?hg (N:=4) ?hd (cs:=#[.int .i64 0,.int .i64 0]) (t:=50) ?hr ?_;(case hd=>rfl);(case hg=>rfl);(case hr=>first|(go_simp;done)|(go_simp;rfl))
     intro gb167 hg w39 hbox hb
     have n0_:=Aside0.mk (blk_below (bk BK161.out) hb)
     have n1_:=Aside0.mk (below_step (by repeat (first|with_reducible exact HB.out|exact bl HB|refine bs ?_ GE161)) hb)
     have n2_:=Aside0.mk (hbox)
     have n3_:=Aside0.mk ((by rw [hg];exact(below_size (by repeat (first|with_reducible exact HB.out|exact bl HB|refine bs ?_ GE161))):w.heap.size≤gb167))
     have n4_:=Aside0.mk ((by rw [hg];exact(below_size (by repeat (first|with_reducible exact HB.out|exact bl HB|refine bs ?_ GE161))):w.heap.size≤gb167))
     have n5_:=Aside0.mk ((by rw [hg];exact Nat.ne_of_lt (blk_lt (bk BK161.out)):gb161≠gb167))
     have n6_:=Aside0.mk ((by rw [hg];exact Nat.ne_of_gt (blk_lt (bk BK161.out)):gb167≠gb161))
     clear BK161
     clear HB
     have BK161:=n0_
     have HB:=n1_
     have BK167:=n2_
     have GW167:=n3_
     have GE167:=n4_
     have NB161_167:=n5_
     have NB167_161:=n6_
     clear n0_ n1_ n2_ n3_ n4_ n5_ n6_
     clear hb hbox hg
     refine hK.out _ _ ⟨(blk_cell BK161.out 0).trans rfl,(blk_cell BK161.out 1).trans rfl⟩ (fun hHeld=>?_)
     clear hK K
     refine norm_ (a':=?_) ?_ ?_
     rotate_left
     ·show Act.put _ (some 4) _=_
      simp only [Act.put,List.setIfInBounds_toArray,List.set_cons_zero,List.set_cons_succ,i64_w,i32_w]
      rfl
     exact norm_ (by simp only [putAll,Act.put,List.setIfInBounds_toArray,List.set_cons_zero,List.set_cons_succ]) (hCont (gb167) _ ⟨hHeld,(bk BK161.out),(bk BK167.out),GW167.out,GE167.out,NB161_167.out,NB167_161.out,(by repeat (first|with_reducible exact HB.out|exact bl HB|refine bs ?_ GE161|refine bs ?_ GE167))⟩)
    ·skip
     refine box_step ?hg (N:=4) ?hd (cs:=#[.int .i64 0,.int .i64 0]) (t:=50) ?hr ?_;(case hd=>rfl);(case hg=>rfl);(case hr=>first|(go_simp;done)|(go_simp;rfl))
     intro gb167 hg w38 hbox hb
     have n0_:=Aside0.mk (blk_below (bk BK161.out) hb)
     have n1_:=Aside0.mk (below_step (by repeat (first|with_reducible exact HB.out|exact bl HB|refine bs ?_ GE161)) hb)
     have n2_:=Aside0.mk (hbox)
     have n3_:=Aside0.mk ((by rw [hg];exact(below_size (by repeat (first|with_reducible exact HB.out|exact bl HB|refine bs ?_ GE161))):w.heap.size≤gb167))
     have n4_:=Aside0.mk ((by rw [hg];exact(below_size (by repeat (first|with_reducible exact HB.out|exact bl HB|refine bs ?_ GE161))):w.heap.size≤gb167))
     have n5_:=Aside0.mk ((by rw [hg];exact Nat.ne_of_lt (blk_lt (bk BK161.out)):gb161≠gb167))
     have n6_:=Aside0.mk ((by rw [hg];exact Nat.ne_of_gt (blk_lt (bk BK161.out)):gb167≠gb161))
     clear BK161
     clear HB
     have BK161:=n0_
     have HB:=n1_
     have BK167:=n2_
     have GW167:=n3_
     have GE167:=n4_
     have NB161_167:=n5_
     have NB167_161:=n6_
     clear n0_ n1_ n2_ n3_ n4_ n5_ n6_
     clear hb hbox hg
     refine hK.out _ _ ⟨(blk_cell BK161.out 0).trans rfl,(blk_cell BK161.out 1).trans rfl⟩ (fun hHeld=>?_)
     clear hK K
     refine norm_ (a':=?_) ?_ ?_
     rotate_left
     ·show Act.put _ (some 4) _=_
      simp only [Act.put,List.setIfInBounds_toArray,List.set_cons_zero,List.set_cons_succ,i64_w,i32_w]
      rfl
     refine one_ (i:=2) (N:=some 11) #[tt,tt,tt,ff,ff,ff,tt,ff,ff] rfl rfl (one_of HT_.out (by kernel_rfl)) (by decide) (fun K hK=>?_)
     refine goes_ Try.func63 (by kernel_rfl) rfl #[.agg #[.int .i64 a0_0,.int .i64 a0_1],.agg #[.int .i64 t162,.int .i64 t163]] (by rfl) rfl rfl (by exact mA _ _) ?_
     with_reducible refine(wide_Add.calls a0_0 a0_1 t162 t163 t164 t165 false _ A3.out).mono ?_
     rintro e w39 ⟨rfl,hb⟩
     refine⟨_,rfl,?_⟩
     have n0_:=Aside0.mk (blk_below (bk BK161.out) hb)
     have n1_:=Aside0.mk (blk_below (bk BK167.out) hb)
     have n2_:=Aside0.mk (below_step (by repeat (first|with_reducible exact HB.out|exact bl HB|refine bs ?_ GE161|refine bs ?_ GE167)) hb)
     clear BK161
     clear BK167
     clear HB
     have BK161:=n0_
     have BK167:=n1_
     have HB:=n2_
     clear n0_ n1_ n2_
     (try clear hb)
     (try clear hb2)
     (try clear hk)
     (try clear hi)
     refine hK.out _ _ ⟨(blk_cell BK161.out 0).trans rfl,(blk_cell BK161.out 1).trans rfl⟩ (fun hHeld=>?_)
     clear hK K
     refine norm_ (a':=?_) ?_ ?_
     rotate_left
     ·show Act.put _ (some 11) _=_
      simp only [Act.put,List.setIfInBounds_toArray,List.set_cons_zero,List.set_cons_succ,i64_w,i32_w]
      rfl
     refine pure_ (i:=3) (N:=some 8) (v:=?_) (a':=?_) #[tt,tt,tt,tt,ff,ff,tt,ff,ff] rfl rfl (any_of HT_.out (by kernel_rfl)) (fun _ _ _ h=>h) (Or.inl ⟨by rfl,?_⟩) ?_ ?_
     rotate_left
     ·intro w'
      go_simp
      with_reducible rfl
     rotate_left
     ·simp only [Act.put,List.setIfInBounds_toArray,List.set_cons_zero,List.set_cons_succ,i64_w,i32_w]
      rfl
     refine pure_ (i:=4) (N:=some 12) (v:=?_) (a':=?_) #[tt,tt,tt,tt,tt,ff,tt,ff,ff] rfl rfl (any_of HT_.out (by kernel_rfl)) (fun _ _ _ h=>h) (Or.inl ⟨by rfl,?_⟩) ?_ ?_
     rotate_left
     ·intro w'
      go_simp
      with_reducible rfl
     rotate_left
     ·simp only [Act.put,List.setIfInBounds_toArray,List.set_cons_zero,List.set_cons_succ,i64_w,i32_w]
      rfl
     refine pure_ (i:=5) (N:=some 13) (v:=?_) (a':=?_) #[tt,tt,tt,tt,tt,tt,tt,ff,ff] rfl rfl (any_of HT_.out (by kernel_rfl)) (fun _ _ _ h=>h) (Or.inl ⟨by rfl,?_⟩) ?_ ?_
     rotate_left
     ·intro w'
      go_simp
      with_reducible rfl
     rotate_left
     ·simp only [Act.put,List.setIfInBounds_toArray,List.set_cons_zero,List.set_cons_succ,i64_w,i32_w]
      rfl
     exact norm_ (by simp only [putAll,Act.put,List.setIfInBounds_toArray,List.set_cons_zero,List.set_cons_succ]) (hCont (gb167) _ ⟨hHeld,(bk BK161.out),(bk BK167.out),GW167.out,GE167.out,NB161_167.out,NB167_161.out,(by repeat (first|with_reducible exact HB.out|exact bl HB|refine bs ?_ GE161|refine bs ?_ GE167))⟩)
   ·skip
    refine box_step ?hg (N:=4) ?hd (cs:=#[.int .i64 0,.int .i64 0]) (t:=50) ?hr ?_;(case hd=>rfl);(case hg=>rfl);(case hr=>first|(go_simp;done)|(go_simp;rfl))
    intro gb167 hg w37 hbox hb
    have n0_:=Aside0.mk (blk_below (bk BK161.out) hb)
    have n1_:=Aside0.mk (below_step (by repeat (first|with_reducible exact HB.out|exact bl HB|refine bs ?_ GE161)) hb)
    have n2_:=Aside0.mk (hbox)
    have n3_:=Aside0.mk ((by rw [hg];exact(below_size (by repeat (first|with_reducible exact HB.out|exact bl HB|refine bs ?_ GE161))):w.heap.size≤gb167))
    have n4_:=Aside0.mk ((by rw [hg];exact(below_size (by repeat (first|with_reducible exact HB.out|exact bl HB|refine bs ?_ GE161))):w.heap.size≤gb167))
    have n5_:=Aside0.mk ((by rw [hg];exact Nat.ne_of_lt (blk_lt (bk BK161.out)):gb161≠gb167))
    have n6_:=Aside0.mk ((by rw [hg];exact Nat.ne_of_gt (blk_lt (bk BK161.out)):gb167≠gb161))
    clear BK161
    clear HB
    have BK161:=n0_
    have HB:=n1_
    have BK167:=n2_
    have GW167:=n3_
    have GE167:=n4_
    have NB161_167:=n5_
    have NB167_161:=n6_
    clear n0_ n1_ n2_ n3_ n4_ n5_ n6_
    clear hb hbox hg
    refine hK.out _ _ ⟨(blk_cell BK161.out 0).trans rfl,(blk_cell BK161.out 1).trans rfl⟩ (fun hHeld=>?_)
    clear hK K
    refine norm_ (a':=?_) ?_ ?_
    rotate_left
    ·show Act.put _ (some 4) _=_
     simp only [Act.put,List.setIfInBounds_toArray,List.set_cons_zero,List.set_cons_succ,i64_w,i32_w]
     rfl
    refine one_ (i:=1) (N:=some 10) #[tt,tt,ff,ff,ff,ff,tt,ff,ff] rfl rfl (one_of HT_.out (by kernel_rfl)) (by decide) (fun K hK=>?_)
    refine goes_ Try.func66 (by kernel_rfl) rfl #[.int .i64 2147483648] (by rfl) rfl rfl (by exact mA _ _) ?_
    with_reducible refine(wide_Of.calls 2147483648 t162 t163 _ A2.out).mono ?_
    rintro e w38 ⟨rfl,hb⟩
    refine⟨_,rfl,?_⟩
    have n0_:=Aside0.mk (blk_below (bk BK161.out) hb)
    have n1_:=Aside0.mk (blk_below (bk BK167.out) hb)
    have n2_:=Aside0.mk (below_step (by repeat (first|with_reducible exact HB.out|exact bl HB|refine bs ?_ GE161|refine bs ?_ GE167)) hb)
    clear BK161
    clear BK167
    clear HB
    have BK161:=n0_
    have BK167:=n1_
    have HB:=n2_
    clear n0_ n1_ n2_
    (try clear hb)
    (try clear hb2)
    (try clear hk)
    (try clear hi)
    refine hK.out _ _ ⟨(blk_cell BK161.out 0).trans rfl,(blk_cell BK161.out 1).trans rfl⟩ (fun hHeld=>?_)
    clear hK K
    refine norm_ (a':=?_) ?_ ?_
    rotate_left
    ·show Act.put _ (some 10) _=_
     simp only [Act.put,List.setIfInBounds_toArray,List.set_cons_zero,List.set_cons_succ,i64_w,i32_w]
     rfl
    refine one_ (i:=2) (N:=some 11) #[tt,tt,tt,ff,ff,ff,tt,ff,ff] rfl rfl (one_of HT_.out (by kernel_rfl)) (by decide) (fun K hK=>?_)
    refine goes_ Try.func63 (by kernel_rfl) rfl #[.agg #[.int .i64 a0_0,.int .i64 a0_1],.agg #[.int .i64 t162,.int .i64 t163]] (by rfl) rfl rfl (by exact mA _ _) ?_
    with_reducible refine(wide_Add.calls a0_0 a0_1 t162 t163 t164 t165 false _ A3.out).mono ?_
    rintro e w39 ⟨rfl,hb⟩
    refine⟨_,rfl,?_⟩
    have n0_:=Aside0.mk (blk_below (bk BK161.out) hb)
    have n1_:=Aside0.mk (blk_below (bk BK167.out) hb)
    have n2_:=Aside0.mk (below_step (by repeat (first|with_reducible exact HB.out|exact bl HB|refine bs ?_ GE161|refine bs ?_ GE167)) hb)
    clear BK161
    clear BK167
    clear HB
    have BK161:=n0_
    have BK167:=n1_
    have HB:=n2_
    clear n0_ n1_ n2_
    (try clear hb)
    (try clear hb2)
    (try clear hk)
    (try clear hi)
    refine hK.out _ _ ⟨(blk_cell BK161.out 0).trans rfl,(blk_cell BK161.out 1).trans rfl⟩ (fun hHeld=>?_)
    clear hK K
    refine norm_ (a':=?_) ?_ ?_
    rotate_left
    ·show Act.put _ (some 11) _=_
     simp only [Act.put,List.setIfInBounds_toArray,List.set_cons_zero,List.set_cons_succ,i64_w,i32_w]
     rfl
    refine pure_ (i:=3) (N:=some 8) (v:=?_) (a':=?_) #[tt,tt,tt,tt,ff,ff,tt,ff,ff] rfl rfl (any_of HT_.out (by kernel_rfl)) (fun _ _ _ h=>h) (Or.inl ⟨by rfl,?_⟩) ?_ ?_
    rotate_left
    ·intro w'
     go_simp
     with_reducible rfl
    rotate_left
    ·simp only [Act.put,List.setIfInBounds_toArray,List.set_cons_zero,List.set_cons_succ,i64_w,i32_w]
     rfl
    refine pure_ (i:=4) (N:=some 12) (v:=?_) (a':=?_) #[tt,tt,tt,tt,tt,ff,tt,ff,ff] rfl rfl (any_of HT_.out (by kernel_rfl)) (fun _ _ _ h=>h) (Or.inl ⟨by rfl,?_⟩) ?_ ?_
    rotate_left
    ·intro w'
     go_simp
     with_reducible rfl
    rotate_left
    ·simp only [Act.put,List.setIfInBounds_toArray,List.set_cons_zero,List.set_cons_succ,i64_w,i32_w]
     rfl
    refine pure_ (i:=5) (N:=some 13) (v:=?_) (a':=?_) #[tt,tt,tt,tt,tt,tt,tt,ff,ff] rfl rfl (any_of HT_.out (by kernel_rfl)) (fun _ _ _ h=>h) (Or.inl ⟨by rfl,?_⟩) ?_ ?_
    rotate_left
    ·intro w'
     go_simp
     with_reducible rfl
    rotate_left
    ·simp only [Act.put,List.setIfInBounds_toArray,List.set_cons_zero,List.set_cons_succ,i64_w,i32_w]
     rfl
    exact norm_ (by simp only [putAll,Act.put,List.setIfInBounds_toArray,List.set_cons_zero,List.set_cons_succ]) (hCont (gb167) _ ⟨hHeld,(bk BK161.out),(bk BK167.out),GW167.out,GE167.out,NB161_167.out,NB167_161.out,(by repeat (first|with_reducible exact HB.out|exact bl HB|refine bs ?_ GE161|refine bs ?_ GE167))⟩)
  rintro gb167 w40 ⟨hS_,h0_,h1_,h2_,h3_,h4_,h5_,h6_⟩
  have n0_:Aside0 (w40.heap[gb161]? = some (.cells #[.int .i64 a0_0,.int .i64 a0_1] 50 (0,0))):=⟨h0_⟩
  have n1_:Aside0 (w40.heap[gb167]? = some (.cells #[.int .i64 0,.int .i64 0] 50 (0,0))):=⟨h1_⟩
  have n2_:Aside0 (w.heap.size≤gb167):=⟨h2_⟩
  have n3_:Aside0 (w.heap.size≤gb167):=⟨h3_⟩
  have n4_:Aside0 (gb161≠gb167):=⟨h4_⟩
  have n5_:Aside0 (gb167≠gb161):=⟨h5_⟩
  have n6_:Aside0 (Below w.heap.size w w40):=⟨h6_⟩
  clear BK161
  clear HB
  clear h0_ h1_ h2_ h3_ h4_ h5_ h6_
  have BK161:=n0_
  have BK167:=n1_
  have GW167:=n2_
  have GE167:=n3_
  have NB161_167:=n4_
  have NB167_161:=n5_
  have HB:=n6_
  clear n0_ n1_ n2_ n3_ n4_ n5_ n6_
  have hHeld:w40.cell? ⟨gb161,0,none⟩=some (.int .i64 a0_0)∧w40.cell? ⟨gb161,1,none⟩=some (.int .i64 a0_1):=hS_
  refine norm_ (a':=?_) ?_ ?_
  rotate_left
  ·simp only [putAll,Act.put,List.setIfInBounds_toArray,List.set_cons_zero,List.set_cons_succ]
   rfl
  refine one_ (i:=7) (N:=none) #[tt,tt,tt,tt,tt,tt,tt,tt,ff] rfl rfl (one_of HT_.out (by kernel_rfl)) (by decide) (fun K hK=>?_)
  have hs41:w40.cell? ⟨gb167,0,none⟩=some (.int .i64 0):=(blk_cell BK167.out 0).trans rfl
  have hfs41:=blk_frozen BK167.out 0
  have hns41_0:=NB161_167.out
  have hms41_0:=NB167_161.out
  have hs42:w40.cell? ⟨gb167,1,none⟩=some (.int .i64 0):=(blk_cell BK167.out 1).trans rfl
  have hfs42:=blk_frozen BK167.out 1
  have hns42_0:=NB161_167.out
  have hms42_0:=NB167_161.out
  refine skip_ (w1:=?_) (by rfl) rfl ?_ ?_
  rotate_left
  ·go_simp
   rfl
  refine hK.out _ _ ⟨((cell_far (p:=⟨gb167,_,none⟩) NB161_167.out _).trans (((cell_far (p:=⟨gb167,_,none⟩) NB161_167.out _).trans (hHeld.1)))),((cell_far (p:=⟨gb167,_,none⟩) NB161_167.out _).trans (((cell_far (p:=⟨gb167,_,none⟩) NB161_167.out _).trans (hHeld.2))))⟩ (fun hHeld=>?_)
  clear hK K
  refine pure_ (i:=8) (N:=some 5) (v:=?_) (a':=?_) #[tt,tt,tt,tt,tt,tt,tt,tt,tt] rfl rfl (any_of HT_.out (by kernel_rfl)) (fun _ _ _ h=>h) (Or.inl ⟨by rfl,?_⟩) ?_ ?_
  rotate_left
  ·intro w'
   go_simp
   with_reducible rfl
  rotate_left
  ·simp only [Act.put,List.setIfInBounds_toArray,List.set_cons_zero,List.set_cons_succ,i64_w,i32_w]
   rfl
  refine done_ (done_of HT_.out (by kernel_rfl)) ?_
  try go_wp2
  go_ret2
  exact⟨by first|rfl|(simp [errW_none,errW_some]<;>rfl)|(simp [*,errW_none,errW_some]<;>rfl),by repeat (first|with_reducible exact HB.out|exact bl HB|refine bs ?_ GE161|refine bs ?_ GE167)⟩
def bits_Mul64.f (a0:Int) (a1:Int):Option (Int × Int):=some (IntKind.u64.wrap ((IntKind.u64.wrap ((IntKind.u64.wrap ((a0/4294967296)*(a1/4294967296)))+((IntKind.u64.wrap ((IntKind.u64.wrap ((a0/4294967296)*(Go.bits .and .u64 a1 4294967295)))+((IntKind.u64.wrap ((Go.bits .and .u64 a0 4294967295)*(Go.bits .and .u64 a1 4294967295)))/4294967296)))/4294967296)))+((IntKind.u64.wrap ((Go.bits .and .u64 (IntKind.u64.wrap ((IntKind.u64.wrap ((a0/4294967296)*(Go.bits .and .u64 a1 4294967295)))+((IntKind.u64.wrap ((Go.bits .and .u64 a0 4294967295)*(Go.bits .and .u64 a1 4294967295)))/4294967296))) 4294967295)+(IntKind.u64.wrap ((Go.bits .and .u64 a0 4294967295)*(a1/4294967296)))))/4294967296)),IntKind.u64.wrap (a0*a1))
set_option maxHeartbeats 8000000 in
set_option maxRecDepth 100000 in
theorem bits_Mul64.calls (a0:Int) (a1:Int) (r1:Int) (r2:Int) (w:World) (h:bits_Mul64.f a0 a1=some (r1,r2)) :
  Calls Try.prog 82 #[.int .u64 a0,.int .u64 a1] w fun e w'=>e=.returned (.tuple #[.int .u64 r1,.int .u64 r2])∧Drawn0 w w':=by
 have H:(some (IntKind.u64.wrap ((IntKind.u64.wrap ((IntKind.u64.wrap ((a0/4294967296)*(a1/4294967296)))+((IntKind.u64.wrap ((IntKind.u64.wrap ((a0/4294967296)*(Go.bits .and .u64 a1 4294967295)))+((IntKind.u64.wrap ((Go.bits .and .u64 a0 4294967295)*(Go.bits .and .u64 a1 4294967295)))/4294967296)))/4294967296)))+((IntKind.u64.wrap ((Go.bits .and .u64 (IntKind.u64.wrap ((IntKind.u64.wrap ((a0/4294967296)*(Go.bits .and .u64 a1 4294967295)))+((IntKind.u64.wrap ((Go.bits .and .u64 a0 4294967295)*(Go.bits .and .u64 a1 4294967295)))/4294967296))) 4294967295)+(IntKind.u64.wrap ((Go.bits .and .u64 a0 4294967295)*(a1/4294967296)))))/4294967296)),IntKind.u64.wrap (a0*a1)))=some (r1,r2):=h
 clear h
 simp only [Option.some.injEq,Prod.mk.injEq] at H
 obtain⟨rfl,rfl⟩:=H
 go_enter Try.func82,Try.ntmps82
 go_wp2
 go_ret2
 exact⟨by first|rfl|(simp;done)|(simp [*];done),by repeat (first|exact Drawn0.refl _|apply Drawn0.step)⟩
def fix_Abs.f (a0:Int):Option (Int):=(fix_known.f a0).bind fun t173=>((fix_known.f a0).bind fun t174=>(some (mx t173 (wrap64 (-t174)))))
set_option maxHeartbeats 8000000 in
set_option maxRecDepth 100000 in
theorem fix_Abs.calls (a0:Int) (r:Int) (w:World) (h:fix_Abs.f a0=some r) :
  Calls Try.prog 83 #[.int .i64 a0] w fun e w'=>e=.returned (.int .i64 r)∧Below w.heap.size w w':=by
 have HB:=Aside0.mk (Below.refl w.heap.size w)
 have H:((fix_known.f a0).bind fun t173=>((fix_known.f a0).bind fun t174=>(some (mx t173 (wrap64 (-t174))))))=some r:=h
 clear h
 replace H:=Option.bind_eq_some_iff.mp H
 obtain⟨t173,A20,H⟩:=H
 replace H:((fix_known.f a0).bind fun t174=>(some (mx t173 (wrap64 (-t174)))))=some r:=H
 have A2:=Aside0.mk A20
 clear A20
 replace H:=Option.bind_eq_some_iff.mp H
 obtain⟨t174,A30,H⟩:=H
 replace H:(some (mx t173 (wrap64 (-t174))))=some r:=H
 have A3:=Aside0.mk A30
 clear A30
 obtain⟨ji4,hji4⟩:∃ j_:Int,(mx t173 (wrap64 (-t174)))=j_:=⟨_,rfl⟩
 replace H:(some ji4)=some r:=by first|(rw [hji4] at H;exact H)|(simp only [hji4] at H ⊢;exact H)
 (try rw [hji4] at A2)
 (try rw [hji4] at A3)
 have hji4_:(if t173<(wrap64 (-t174)) then (wrap64 (-t174)) else t173)=ji4:=hji4
 obtain rfl:=Option.some.inj H
 go_enter Try.func83,Try.ntmps83
 go_wp2_with (first|((with_reducible refine gate_callee (f:=50) rfl ?_);refine goesL_ (some 4) rfl rfl Try.func50 (by kernel_rfl) rfl #[.int .i64 a0] rfl (by exact mA _ _) ?_;(with_reducible refine(fix_known.calls a0 t173 _ A2.out).mono ?_);rintro e w5 ⟨rfl,hb⟩;refine⟨_,rfl,?_⟩;have n0_:=Aside0.mk (below_step (by first|with_reducible exact HB.out|exact bl HB) hb);clear HB;have HB:=n0_;clear n0_;(try clear hb);(try clear hb2);(try clear hk);(try clear hi))|((with_reducible refine gate_callee (f:=50) rfl ?_);refine goesL_ (some 6) rfl rfl Try.func50 (by kernel_rfl) rfl #[.int .i64 a0] rfl (by exact mA _ _) ?_;(with_reducible refine(fix_known.calls a0 t174 _ A3.out).mono ?_);rintro e w6 ⟨rfl,hb⟩;refine⟨_,rfl,?_⟩;have n0_:=Aside0.mk (below_step (by first|with_reducible exact HB.out|exact bl HB) hb);clear HB;have HB:=n0_;clear n0_;(try clear hb);(try clear hb2);(try clear hk);(try clear hi)))
 go_ret
 exact⟨by first|rfl|(simp [errW_none,errW_some]<;>rfl)|(simp only [←hji4];first|rfl|(simp [errW_none,errW_some]<;>rfl))|(simp [*,errW_none,errW_some]<;>rfl),by first|with_reducible exact HB.out|exact bl HB⟩
def wide_neg.f (a0_0:Int) (a0_1:Int):Option (Int × Int):=if a0_1=0 then (some (wrap64 (-a0_0),0)) else (some (Go.bits .xor .i64 (-1) a0_0,wrap64 (4611686018427387904-a0_1)))
set_option maxHeartbeats 8000000 in
set_option maxRecDepth 100000 in
theorem wide_neg.calls (a0_0:Int) (a0_1:Int) (r1:Int) (r2:Int) (w:World) (h:wide_neg.f a0_0 a0_1=some (r1,r2)) :
  Calls Try.prog 84 #[.agg #[.int .i64 a0_0,.int .i64 a0_1]] w fun e w'=>e=.returned (.agg #[.int .i64 r1,.int .i64 r2])∧Below w.heap.size w w':=by
 have hu50:=Try.underlying50
 have HB:=Aside0.mk (Below.refl w.heap.size w)
 have H:(if a0_1=0 then (some (wrap64 (-a0_0),0)) else (some (Go.bits .xor .i64 (-1) a0_0,wrap64 (4611686018427387904-a0_1))))=some (r1,r2):=h
 clear h
 by_cases c2:a0_1=0
 ·rw [if_pos c2] at H
  have c2b0:(a0_1 == 0)=true:=beq_iff_eq.mpr c2
  have c2b1:(a0_1 != 0)=false:=bne_eq_false_iff_eq.mpr c2
  clear c2
  simp only [Option.some.injEq,Prod.mk.injEq] at H
  obtain⟨rfl,rfl⟩:=H
  go_enter Try.func84,Try.ntmps84
  go_wp2_with (first|((with_reducible refine gate_dst (N:=1) rfl ?_);refine box_event ?hg (N:=1) ?hd (cs:=#[.int .i64 a0_0,.int .i64 a0_1]) (t:=50) ?hr ?_;(case hd=>rfl);(case hg=>rfl);(case hr=>first|(go_simp;done)|(go_simp;rfl));intro gb175 hg w3 hbox hb;have n0_:=Aside0.mk (below_step (by first|with_reducible exact HB.out|exact bl HB) hb);have n1_:=Aside0.mk (hbox);have n2_:=Aside0.mk ((by rw [hg];exact(below_size (by first|with_reducible exact HB.out|exact bl HB)):w.heap.size≤gb175));have n3_:=Aside0.mk ((by rw [hg];exact(below_size (by first|with_reducible exact HB.out|exact bl HB)):w.heap.size≤gb175));clear HB;have HB:=n0_;have BK175:=n1_;have GW175:=n2_;have GE175:=n3_;clear n0_ n1_ n2_ n3_;clear hb hbox hg)|((with_reducible refine gate_dst (N:=2) rfl ?_);refine box_event ?hg (N:=2) ?hd (cs:=#[.int .i64 0,.int .i64 0]) (t:=50) ?hr ?_;(case hd=>rfl);(case hg=>rfl);(case hr=>first|(go_simp;done)|(go_simp;rfl));intro gb176 hg w4 hbox hb;have n0_:=Aside0.mk (blk_below (bk BK175.out) hb);have n1_:=Aside0.mk (below_step (by repeat (first|with_reducible exact HB.out|exact bl HB|refine bs ?_ GE175)) hb);have n2_:=Aside0.mk (hbox);have n3_:=Aside0.mk ((by rw [hg];exact(below_size (by repeat (first|with_reducible exact HB.out|exact bl HB|refine bs ?_ GE175))):w.heap.size≤gb176));have n4_:=Aside0.mk ((by rw [hg];exact(below_size (by repeat (first|with_reducible exact HB.out|exact bl HB|refine bs ?_ GE175))):w.heap.size≤gb176));have n5_:=Aside0.mk ((by rw [hg];exact Nat.ne_of_lt (blk_lt (bk BK175.out)):gb175≠gb176));have n6_:=Aside0.mk ((by rw [hg];exact Nat.ne_of_gt (blk_lt (bk BK175.out)):gb176≠gb175));clear BK175;clear HB;have BK175:=n0_;have HB:=n1_;have BK176:=n2_;have GW176:=n3_;have GE176:=n4_;have NB175_176:=n5_;have NB176_175:=n6_;clear n0_ n1_ n2_ n3_ n4_ n5_ n6_;clear hb hbox hg;have hnb5:=NB175_176.out;have hnc5:=NB176_175.out;have hcz6_0:w4.cell? ⟨gb175,0,none⟩=some (.int .i64 a0_0):=(blk_cell BK175.out 0).trans rfl;have hcz6_1:w4.cell? ⟨gb175,1,none⟩=some (.int .i64 a0_1):=(blk_cell BK175.out 1).trans rfl;have hfz6_0:=blk_frozen BK175.out 0;have hfz6_1:=blk_frozen BK175.out 1;have hcz7_0:w4.cell? ⟨gb176,0,none⟩=some (.int .i64 0):=(blk_cell BK176.out 0).trans rfl;have hcz7_1:w4.cell? ⟨gb176,1,none⟩=some (.int .i64 0):=(blk_cell BK176.out 1).trans rfl;have hfz7_0:=blk_frozen BK176.out 0;have hfz7_1:=blk_frozen BK176.out 1))
  refine bodyPost_ret (results_cell_row rfl _ _ gb176 50 #[.int .i64 (wrap64 (-a0_0)),.int .i64 0] (0,0) _ rfl (by try refine bk ?_;refine blk_put (cs:=#[.int .i64 (wrap64 (-a0_0)),.int .i64 0]) ?_ 1 _ rfl;try refine bk ?_;refine blk_put (cs:=#[.int .i64 0,.int .i64 0]) ?_ 0 _ rfl;try refine bk ?_;exact BK176.out) Try.underlying50 rfl (by kernel_rfl)) rfl ?_
  exact⟨by first|rfl|(simp [errW_none,errW_some]<;>rfl)|(simp [*,errW_none,errW_some]<;>rfl),by repeat (first|with_reducible exact HB.out|exact bl HB|refine bs ?_ GE175|refine bs ?_ GE176)⟩
 ·rw [if_neg c2] at H
  have c2b0:(a0_1 == 0)=false:=beq_eq_false_iff_ne.mpr c2
  have c2b1:(a0_1 != 0)=true:=bne_iff_ne.mpr c2
  simp only [Option.some.injEq,Prod.mk.injEq] at H
  obtain⟨rfl,rfl⟩:=H
  go_enter Try.func84,Try.ntmps84
  go_wp2_with (first|((with_reducible refine gate_dst (N:=1) rfl ?_);refine box_event ?hg (N:=1) ?hd (cs:=#[.int .i64 a0_0,.int .i64 a0_1]) (t:=50) ?hr ?_;(case hd=>rfl);(case hg=>rfl);(case hr=>first|(go_simp;done)|(go_simp;rfl));intro gb175 hg w8 hbox hb;have n0_:=Aside0.mk (below_step (by first|with_reducible exact HB.out|exact bl HB) hb);have n1_:=Aside0.mk (hbox);have n2_:=Aside0.mk ((by rw [hg];exact(below_size (by first|with_reducible exact HB.out|exact bl HB)):w.heap.size≤gb175));have n3_:=Aside0.mk ((by rw [hg];exact(below_size (by first|with_reducible exact HB.out|exact bl HB)):w.heap.size≤gb175));clear HB;have HB:=n0_;have BK175:=n1_;have GW175:=n2_;have GE175:=n3_;clear n0_ n1_ n2_ n3_;clear hb hbox hg)|((with_reducible refine gate_dst (N:=2) rfl ?_);refine box_event ?hg (N:=2) ?hd (cs:=#[.int .i64 0,.int .i64 0]) (t:=50) ?hr ?_;(case hd=>rfl);(case hg=>rfl);(case hr=>first|(go_simp;done)|(go_simp;rfl));intro gb176 hg w9 hbox hb;have n0_:=Aside0.mk (blk_below (bk BK175.out) hb);have n1_:=Aside0.mk (below_step (by repeat (first|with_reducible exact HB.out|exact bl HB|refine bs ?_ GE175)) hb);have n2_:=Aside0.mk (hbox);have n3_:=Aside0.mk ((by rw [hg];exact(below_size (by repeat (first|with_reducible exact HB.out|exact bl HB|refine bs ?_ GE175))):w.heap.size≤gb176));have n4_:=Aside0.mk ((by rw [hg];exact(below_size (by repeat (first|with_reducible exact HB.out|exact bl HB|refine bs ?_ GE175))):w.heap.size≤gb176));have n5_:=Aside0.mk ((by rw [hg];exact Nat.ne_of_lt (blk_lt (bk BK175.out)):gb175≠gb176));have n6_:=Aside0.mk ((by rw [hg];exact Nat.ne_of_gt (blk_lt (bk BK175.out)):gb176≠gb175));clear BK175;clear HB;have BK175:=n0_;have HB:=n1_;have BK176:=n2_;have GW176:=n3_;have GE176:=n4_;have NB175_176:=n5_;have NB176_175:=n6_;clear n0_ n1_ n2_ n3_ n4_ n5_ n6_;clear hb hbox hg;have hnb10:=NB175_176.out;have hnc10:=NB176_175.out;have hcz11_0:w9.cell? ⟨gb175,0,none⟩=some (.int .i64 a0_0):=(blk_cell BK175.out 0).trans rfl;have hcz11_1:w9.cell? ⟨gb175,1,none⟩=some (.int .i64 a0_1):=(blk_cell BK175.out 1).trans rfl;have hfz11_0:=blk_frozen BK175.out 0;have hfz11_1:=blk_frozen BK175.out 1;have hcz12_0:w9.cell? ⟨gb176,0,none⟩=some (.int .i64 0):=(blk_cell BK176.out 0).trans rfl;have hcz12_1:w9.cell? ⟨gb176,1,none⟩=some (.int .i64 0):=(blk_cell BK176.out 1).trans rfl;have hfz12_0:=blk_frozen BK176.out 0;have hfz12_1:=blk_frozen BK176.out 1))
  refine bodyPost_ret (results_cell_row rfl _ _ gb176 50 #[.int .i64 (Go.bits .xor .i64 (-1) a0_0),.int .i64 (wrap64 (4611686018427387904-a0_1))] (0,0) _ rfl (by try refine bk ?_;refine blk_put (cs:=#[.int .i64 (Go.bits .xor .i64 (-1) a0_0),.int .i64 0]) ?_ 1 _ rfl;try refine bk ?_;refine blk_put (cs:=#[.int .i64 0,.int .i64 0]) ?_ 0 _ rfl;try refine bk ?_;exact BK176.out) Try.underlying50 rfl (by kernel_rfl)) rfl ?_
  exact⟨by first|rfl|(simp [errW_none,errW_some]<;>rfl)|(simp [*,errW_none,errW_some]<;>rfl),by repeat (first|with_reducible exact HB.out|exact bl HB|refine bs ?_ GE175|refine bs ?_ GE176)⟩
def wide_Mul.f (a0:Int) (a1:Int):Option (Int × Int):=(fix_Abs.f a0).bind fun t178=>((fix_Abs.f a1).bind fun t179=>((bits_Mul64.f (IntKind.u64.wrap (t178)) (IntKind.u64.wrap (t179))).bind fun bt180=>(if ((decide (a0<0)) != (decide (a1<0)))=true then ((wide_neg.f (wrap64 (Go.bits .or .u64 (IntKind.u64.wrap (bt180.1*4)) (bt180.2/4611686018427387904))) (wrap64 (Go.bits .and .u64 bt180.2 4611686018427387903))).bind fun bt183=>(some (bt183.1,bt183.2))) else (some (wrap64 (Go.bits .or .u64 (IntKind.u64.wrap (bt180.1*4)) (bt180.2/4611686018427387904)),wrap64 (Go.bits .and .u64 bt180.2 4611686018427387903))))))
set_option maxHeartbeats 8000000 in
set_option maxRecDepth 100000 in
theorem wide_Mul.calls (a0:Int) (a1:Int) (r1:Int) (r2:Int) (w:World) (h:wide_Mul.f a0 a1=some (r1,r2)) :
  Calls Try.prog 73 #[.int .i64 a0,.int .i64 a1] w fun e w'=>e=.returned (.agg #[.int .i64 r1,.int .i64 r2])∧Below w.heap.size w w':=by
 have hu50:=Try.underlying50
 have HB:=Aside0.mk (Below.refl w.heap.size w)
 have H:((fix_Abs.f a0).bind fun t178=>((fix_Abs.f a1).bind fun t179=>((bits_Mul64.f (IntKind.u64.wrap (t178)) (IntKind.u64.wrap (t179))).bind fun bt180=>(if ((decide (a0<0)) != (decide (a1<0)))=true then ((wide_neg.f (wrap64 (Go.bits .or .u64 (IntKind.u64.wrap (bt180.1*4)) (bt180.2/4611686018427387904))) (wrap64 (Go.bits .and .u64 bt180.2 4611686018427387903))).bind fun bt183=>(some (bt183.1,bt183.2))) else (some (wrap64 (Go.bits .or .u64 (IntKind.u64.wrap (bt180.1*4)) (bt180.2/4611686018427387904)),wrap64 (Go.bits .and .u64 bt180.2 4611686018427387903)))))))=some (r1,r2):=h
 clear h
 replace H:=Option.bind_eq_some_iff.mp H
 obtain⟨t178,A30,H⟩:=H
 replace H:((fix_Abs.f a1).bind fun t179=>((bits_Mul64.f (IntKind.u64.wrap (t178)) (IntKind.u64.wrap (t179))).bind fun bt180=>(if ((decide (a0<0)) != (decide (a1<0)))=true then ((wide_neg.f (wrap64 (Go.bits .or .u64 (IntKind.u64.wrap (bt180.1*4)) (bt180.2/4611686018427387904))) (wrap64 (Go.bits .and .u64 bt180.2 4611686018427387903))).bind fun bt183=>(some (bt183.1,bt183.2))) else (some (wrap64 (Go.bits .or .u64 (IntKind.u64.wrap (bt180.1*4)) (bt180.2/4611686018427387904)),wrap64 (Go.bits .and .u64 bt180.2 4611686018427387903))))))=some (r1,r2):=H
 have A3:=Aside0.mk A30
 clear A30
 replace H:=Option.bind_eq_some_iff.mp H
 obtain⟨t179,A40,H⟩:=H
 replace H:((bits_Mul64.f (IntKind.u64.wrap (t178)) (IntKind.u64.wrap (t179))).bind fun bt180=>(if ((decide (a0<0)) != (decide (a1<0)))=true then ((wide_neg.f (wrap64 (Go.bits .or .u64 (IntKind.u64.wrap (bt180.1*4)) (bt180.2/4611686018427387904))) (wrap64 (Go.bits .and .u64 bt180.2 4611686018427387903))).bind fun bt183=>(some (bt183.1,bt183.2))) else (some (wrap64 (Go.bits .or .u64 (IntKind.u64.wrap (bt180.1*4)) (bt180.2/4611686018427387904)),wrap64 (Go.bits .and .u64 bt180.2 4611686018427387903)))))=some (r1,r2):=H
 have A4:=Aside0.mk A40
 clear A40
 replace H:=Option.bind_eq_some_iff.mp H
 obtain⟨⟨t180,t181⟩,A50,H⟩:=H
 replace H:(if ((decide (a0<0)) != (decide (a1<0)))=true then ((wide_neg.f (wrap64 (Go.bits .or .u64 (IntKind.u64.wrap (t180*4)) (t181/4611686018427387904))) (wrap64 (Go.bits .and .u64 t181 4611686018427387903))).bind fun bt183=>(some (bt183.1,bt183.2))) else (some (wrap64 (Go.bits .or .u64 (IntKind.u64.wrap (t180*4)) (t181/4611686018427387904)),wrap64 (Go.bits .and .u64 t181 4611686018427387903))))=some (r1,r2):=H
 have A5:=Aside0.mk A50
 clear A50
 by_cases c6:((decide (a0<0)) != (decide (a1<0)))=true
 ·rw [if_pos c6] at H
  have c6b0:((decide (a0<0)) != (decide (a1<0)))=true:=c6
  (try (have c6b1:decide ((decide (a0<0))=(decide (a1<0)))=false:=by simpa using c6))
  (try (have c6b2:((decide (a0<0)) == (decide (a1<0)))=false:=by simpa using c6))
  (try (have c6b3:¬((decide (a0<0))=(decide (a1<0))):=by simpa using c6))
  clear c6
  replace H:=Option.bind_eq_some_iff.mp H
  obtain⟨⟨t183,t184⟩,A70,H⟩:=H
  replace H:(some (t183,t184))=some (r1,r2):=H
  have A7:=Aside0.mk A70
  clear A70
  simp only [Option.some.injEq,Prod.mk.injEq] at H
  obtain⟨rfl,rfl⟩:=H
  go_enter Try.func73,Try.ntmps73
  go_wp2_with (first|((with_reducible refine gate_dst (N:=4) rfl ?_);refine box_event ?hg (N:=4) ?hd (cs:=#[.int .i64 0,.int .i64 0]) (t:=50) ?hr ?_;(case hd=>rfl);(case hg=>rfl);(case hr=>first|(go_simp;done)|(go_simp;rfl));intro gb177 hg w8 hbox hb;have n0_:=Aside0.mk (below_step (by first|with_reducible exact HB.out|exact bl HB) hb);have n1_:=Aside0.mk (hbox);have n2_:=Aside0.mk ((by rw [hg];exact(below_size (by first|with_reducible exact HB.out|exact bl HB)):w.heap.size≤gb177));have n3_:=Aside0.mk ((by rw [hg];exact(below_size (by first|with_reducible exact HB.out|exact bl HB)):w.heap.size≤gb177));clear HB;have HB:=n0_;have BK177:=n1_;have GW177:=n2_;have GE177:=n3_;clear n0_ n1_ n2_ n3_;clear hb hbox hg)|((with_reducible refine gate_callee (f:=83) rfl ?_);refine goesL_ (some 10) rfl rfl Try.func83 (by kernel_rfl) rfl #[.int .i64 a0] rfl (by exact mA _ _) ?_;(with_reducible refine(fix_Abs.calls a0 t178 _ A3.out).mono ?_);rintro e w9 ⟨rfl,hb⟩;refine⟨_,rfl,?_⟩;have n0_:=Aside0.mk (blk_below (bk BK177.out) hb);have n1_:=Aside0.mk (below_step (by repeat (first|with_reducible exact HB.out|exact bl HB|refine bs ?_ GE177)) hb);clear BK177;clear HB;have BK177:=n0_;have HB:=n1_;clear n0_ n1_;(try clear hb);(try clear hb2);(try clear hk);(try clear hi))|((with_reducible refine gate_callee (f:=83) rfl ?_);refine goesL_ (some 13) rfl rfl Try.func83 (by kernel_rfl) rfl #[.int .i64 a1] rfl (by exact mA _ _) ?_;(with_reducible refine(fix_Abs.calls a1 t179 _ A4.out).mono ?_);rintro e w10 ⟨rfl,hb⟩;refine⟨_,rfl,?_⟩;have n0_:=Aside0.mk (blk_below (bk BK177.out) hb);have n1_:=Aside0.mk (below_step (by repeat (first|with_reducible exact HB.out|exact bl HB|refine bs ?_ GE177)) hb);clear BK177;clear HB;have BK177:=n0_;have HB:=n1_;clear n0_ n1_;(try clear hb);(try clear hb2);(try clear hk);(try clear hi))|((with_reducible refine gate_callee (f:=82) rfl ?_);refine goesL_ (some 15) rfl rfl Try.func82 (by kernel_rfl) rfl #[.int .u64 (IntKind.u64.wrap (t178)),.int .u64 (IntKind.u64.wrap (t179))] rfl (by exact mA _ _) ?_;(with_reducible refine(bits_Mul64.calls (IntKind.u64.wrap (t178)) (IntKind.u64.wrap (t179)) t180 t181 _ A5.out).mono ?_);rintro e w' ⟨rfl,⟨nd,rfl⟩⟩;refine⟨_,rfl,?_⟩;(try (rw [drewN_self w10];generalize hq_:World.drewN w10 _=w10;have n0_:Aside0 (w10.heap[gb177]? = some (.cells #[.int .i64 0,.int .i64 0] 50 (0,0))):=⟨by rw [←hq_];exact(bk BK177.out)⟩;have n1_:Aside0 (Below w.heap.size w w10):=⟨by rw [←hq_];exact(by repeat (first|with_reducible exact HB.out|exact bl HB|refine bs ?_ GE177))⟩;clear BK177 HB hq_;have BK177:=n0_;have HB:=n1_;clear n0_ n1_)))|((with_reducible refine gate_dst (N:=7) rfl ?_);refine box_event ?hg (N:=7) ?hd (cs:=#[.int .i64 0,.int .i64 0]) (t:=50) ?hr ?_;(case hd=>rfl);(case hg=>rfl);(case hr=>first|(go_simp;done)|(go_simp;rfl));intro gb182 hg w11 hbox hb;have n0_:=Aside0.mk (blk_below (bk BK177.out) hb);have n1_:=Aside0.mk (below_step (by repeat (first|with_reducible exact HB.out|exact bl HB|refine bs ?_ GE177)) hb);have n2_:=Aside0.mk (hbox);have n3_:=Aside0.mk ((by rw [hg];exact(below_size (by repeat (first|with_reducible exact HB.out|exact bl HB|refine bs ?_ GE177))):w.heap.size≤gb182));have n4_:=Aside0.mk ((by rw [hg];exact(below_size (by repeat (first|with_reducible exact HB.out|exact bl HB|refine bs ?_ GE177))):w.heap.size≤gb182));have n5_:=Aside0.mk ((by rw [hg];exact Nat.ne_of_lt (blk_lt (bk BK177.out)):gb177≠gb182));have n6_:=Aside0.mk ((by rw [hg];exact Nat.ne_of_gt (blk_lt (bk BK177.out)):gb182≠gb177));clear BK177;clear HB;have BK177:=n0_;have HB:=n1_;have BK182:=n2_;have GW182:=n3_;have GE182:=n4_;have NB177_182:=n5_;have NB182_177:=n6_;clear n0_ n1_ n2_ n3_ n4_ n5_ n6_;clear hb hbox hg;have hnb12:=NB182_177.out;have hnc12:=NB177_182.out;have hcz13_0:w11.cell? ⟨gb182,0,none⟩=some (.int .i64 0):=(blk_cell BK182.out 0).trans rfl;have hcz13_1:w11.cell? ⟨gb182,1,none⟩=some (.int .i64 0):=(blk_cell BK182.out 1).trans rfl;have hfz13_0:=blk_frozen BK182.out 0;have hfz13_1:=blk_frozen BK182.out 1)|((with_reducible refine gate_callee (f:=84) rfl ?_);refine goesL_ (some 34) rfl rfl Try.func84 (by kernel_rfl) rfl #[.agg #[.int .i64 (wrap64 (Go.bits .or .u64 (IntKind.u64.wrap (t180*4)) (t181/4611686018427387904))),.int .i64 (wrap64 (Go.bits .and .u64 t181 4611686018427387903))]] rfl (by exact mA _ _) ?_;(with_reducible refine(wide_neg.calls (wrap64 (Go.bits .or .u64 (IntKind.u64.wrap (t180*4)) (t181/4611686018427387904))) (wrap64 (Go.bits .and .u64 t181 4611686018427387903)) t183 t184 _ A7.out).mono ?_);rintro e w14 ⟨rfl,hb⟩;refine⟨_,rfl,?_⟩;have n0_:=Aside0.mk (blk_below (g:=gb177) (o:=.cells #[.int .i64 0,.int .i64 0] 50 (0,0)) (by try refine bk ?_;refine blk_far ?_ NB177_182.out _;try refine bk ?_;refine blk_far ?_ NB177_182.out _;try refine bk ?_;exact BK177.out) hb);have n1_:=Aside0.mk (blk_below (g:=gb182) (o:=.cells #[.int .i64 (wrap64 (Go.bits .or .u64 (IntKind.u64.wrap (t180*4)) (t181/4611686018427387904))),.int .i64 (wrap64 (Go.bits .and .u64 t181 4611686018427387903))] 50 (0,0)) (by try refine bk ?_;refine blk_put (cs:=#[.int .i64 (wrap64 (Go.bits .or .u64 (IntKind.u64.wrap (t180*4)) (t181/4611686018427387904))),.int .i64 0]) ?_ 1 _ rfl;try refine bk ?_;refine blk_put (cs:=#[.int .i64 0,.int .i64 0]) ?_ 0 _ rfl;try refine bk ?_;exact BK182.out) hb);have n2_:=Aside0.mk (below_step (by repeat (first|with_reducible exact HB.out|exact bl HB|refine bs ?_ GE177|refine bs ?_ GE182)) hb);clear BK177;clear BK182;clear HB;have BK177:=n0_;have BK182:=n1_;have HB:=n2_;clear n0_ n1_ n2_;(try clear hb);(try clear hb2);(try clear hk);(try clear hi);have hcz15_0:w14.cell? ⟨gb177,0,none⟩=some (.int .i64 0):=(blk_cell BK177.out 0).trans rfl;have hcz15_1:w14.cell? ⟨gb177,1,none⟩=some (.int .i64 0):=(blk_cell BK177.out 1).trans rfl;have hfz15_0:=blk_frozen BK177.out 0;have hfz15_1:=blk_frozen BK177.out 1))
  refine bodyPost_ret (results_cell_row rfl _ _ gb177 50 #[.int .i64 t183,.int .i64 t184] (0,0) _ rfl (by try refine bk ?_;refine blk_put (cs:=#[.int .i64 t183,.int .i64 0]) ?_ 1 _ rfl;try refine bk ?_;refine blk_put (cs:=#[.int .i64 0,.int .i64 0]) ?_ 0 _ rfl;try refine bk ?_;exact BK177.out) Try.underlying50 rfl (by kernel_rfl)) rfl ?_
  exact⟨by first|rfl|(simp [errW_none,errW_some]<;>rfl)|(simp [*,errW_none,errW_some]<;>rfl),by repeat (first|with_reducible exact HB.out|exact bl HB|refine bs ?_ GE177|refine bs ?_ GE182)⟩
 ·rw [if_neg c6] at H
  have c6b0:((decide (a0<0)) != (decide (a1<0)))=false:=by simpa using c6
  (try (have c6b1:decide ((decide (a0<0))=(decide (a1<0)))=true:=by simpa using c6))
  (try (have c6b2:((decide (a0<0)) == (decide (a1<0)))=true:=by simpa using c6))
  clear c6
  simp only [Option.some.injEq,Prod.mk.injEq] at H
  obtain⟨rfl,rfl⟩:=H
  go_enter Try.func73,Try.ntmps73
  go_wp2_with (first|((with_reducible refine gate_dst (N:=4) rfl ?_);refine box_event ?hg (N:=4) ?hd (cs:=#[.int .i64 0,.int .i64 0]) (t:=50) ?hr ?_;(case hd=>rfl);(case hg=>rfl);(case hr=>first|(go_simp;done)|(go_simp;rfl));intro gb177 hg w16 hbox hb;have n0_:=Aside0.mk (below_step (by first|with_reducible exact HB.out|exact bl HB) hb);have n1_:=Aside0.mk (hbox);have n2_:=Aside0.mk ((by rw [hg];exact(below_size (by first|with_reducible exact HB.out|exact bl HB)):w.heap.size≤gb177));have n3_:=Aside0.mk ((by rw [hg];exact(below_size (by first|with_reducible exact HB.out|exact bl HB)):w.heap.size≤gb177));clear HB;have HB:=n0_;have BK177:=n1_;have GW177:=n2_;have GE177:=n3_;clear n0_ n1_ n2_ n3_;clear hb hbox hg)|((with_reducible refine gate_callee (f:=83) rfl ?_);refine goesL_ (some 10) rfl rfl Try.func83 (by kernel_rfl) rfl #[.int .i64 a0] rfl (by exact mA _ _) ?_;(with_reducible refine(fix_Abs.calls a0 t178 _ A3.out).mono ?_);rintro e w17 ⟨rfl,hb⟩;refine⟨_,rfl,?_⟩;have n0_:=Aside0.mk (blk_below (bk BK177.out) hb);have n1_:=Aside0.mk (below_step (by repeat (first|with_reducible exact HB.out|exact bl HB|refine bs ?_ GE177)) hb);clear BK177;clear HB;have BK177:=n0_;have HB:=n1_;clear n0_ n1_;(try clear hb);(try clear hb2);(try clear hk);(try clear hi))|((with_reducible refine gate_callee (f:=83) rfl ?_);refine goesL_ (some 13) rfl rfl Try.func83 (by kernel_rfl) rfl #[.int .i64 a1] rfl (by exact mA _ _) ?_;(with_reducible refine(fix_Abs.calls a1 t179 _ A4.out).mono ?_);rintro e w18 ⟨rfl,hb⟩;refine⟨_,rfl,?_⟩;have n0_:=Aside0.mk (blk_below (bk BK177.out) hb);have n1_:=Aside0.mk (below_step (by repeat (first|with_reducible exact HB.out|exact bl HB|refine bs ?_ GE177)) hb);clear BK177;clear HB;have BK177:=n0_;have HB:=n1_;clear n0_ n1_;(try clear hb);(try clear hb2);(try clear hk);(try clear hi))|((with_reducible refine gate_callee (f:=82) rfl ?_);refine goesL_ (some 15) rfl rfl Try.func82 (by kernel_rfl) rfl #[.int .u64 (IntKind.u64.wrap (t178)),.int .u64 (IntKind.u64.wrap (t179))] rfl (by exact mA _ _) ?_;(with_reducible refine(bits_Mul64.calls (IntKind.u64.wrap (t178)) (IntKind.u64.wrap (t179)) t180 t181 _ A5.out).mono ?_);rintro e w' ⟨rfl,⟨nd,rfl⟩⟩;refine⟨_,rfl,?_⟩;(try (rw [drewN_self w18];generalize hq_:World.drewN w18 _=w18;have n0_:Aside0 (w18.heap[gb177]? = some (.cells #[.int .i64 0,.int .i64 0] 50 (0,0))):=⟨by rw [←hq_];exact(bk BK177.out)⟩;have n1_:Aside0 (Below w.heap.size w w18):=⟨by rw [←hq_];exact(by repeat (first|with_reducible exact HB.out|exact bl HB|refine bs ?_ GE177))⟩;clear BK177 HB hq_;have BK177:=n0_;have HB:=n1_;clear n0_ n1_)))|((with_reducible refine gate_dst (N:=7) rfl ?_);refine box_event ?hg (N:=7) ?hd (cs:=#[.int .i64 0,.int .i64 0]) (t:=50) ?hr ?_;(case hd=>rfl);(case hg=>rfl);(case hr=>first|(go_simp;done)|(go_simp;rfl));intro gb182 hg w19 hbox hb;have n0_:=Aside0.mk (blk_below (bk BK177.out) hb);have n1_:=Aside0.mk (below_step (by repeat (first|with_reducible exact HB.out|exact bl HB|refine bs ?_ GE177)) hb);have n2_:=Aside0.mk (hbox);have n3_:=Aside0.mk ((by rw [hg];exact(below_size (by repeat (first|with_reducible exact HB.out|exact bl HB|refine bs ?_ GE177))):w.heap.size≤gb182));have n4_:=Aside0.mk ((by rw [hg];exact(below_size (by repeat (first|with_reducible exact HB.out|exact bl HB|refine bs ?_ GE177))):w.heap.size≤gb182));have n5_:=Aside0.mk ((by rw [hg];exact Nat.ne_of_lt (blk_lt (bk BK177.out)):gb177≠gb182));have n6_:=Aside0.mk ((by rw [hg];exact Nat.ne_of_gt (blk_lt (bk BK177.out)):gb182≠gb177));clear BK177;clear HB;have BK177:=n0_;have HB:=n1_;have BK182:=n2_;have GW182:=n3_;have GE182:=n4_;have NB177_182:=n5_;have NB182_177:=n6_;clear n0_ n1_ n2_ n3_ n4_ n5_ n6_;clear hb hbox hg;have hnb20:=NB182_177.out;have hnc20:=NB177_182.out;have hcz21_0:w19.cell? ⟨gb182,0,none⟩=some (.int .i64 0):=(blk_cell BK182.out 0).trans rfl;have hcz21_1:w19.cell? ⟨gb182,1,none⟩=some (.int .i64 0):=(blk_cell BK182.out 1).trans rfl;have hfz21_0:=blk_frozen BK182.out 0;have hfz21_1:=blk_frozen BK182.out 1;have hcz22_0:w19.cell? ⟨gb177,0,none⟩=some (.int .i64 0):=(blk_cell BK177.out 0).trans rfl;have hcz22_1:w19.cell? ⟨gb177,1,none⟩=some (.int .i64 0):=(blk_cell BK177.out 1).trans rfl;have hfz22_0:=blk_frozen BK177.out 0;have hfz22_1:=blk_frozen BK177.out 1))
  refine bodyPost_ret (results_cell_row rfl _ _ gb177 50 #[.int .i64 (wrap64 (Go.bits .or .u64 (IntKind.u64.wrap (t180*4)) (t181/4611686018427387904))),.int .i64 (wrap64 (Go.bits .and .u64 t181 4611686018427387903))] (0,0) _ rfl (by try refine bk ?_;refine blk_put (cs:=#[.int .i64 (wrap64 (Go.bits .or .u64 (IntKind.u64.wrap (t180*4)) (t181/4611686018427387904))),.int .i64 0]) ?_ 1 _ rfl;try refine bk ?_;refine blk_put (cs:=#[.int .i64 0,.int .i64 0]) ?_ 0 _ rfl;try refine bk ?_;refine blk_far ?_ NB177_182.out _;try refine bk ?_;refine blk_far ?_ NB177_182.out _;try refine bk ?_;exact BK177.out) Try.underlying50 rfl (by kernel_rfl)) rfl ?_
  exact⟨by first|rfl|(simp [errW_none,errW_some]<;>rfl)|(simp [*,errW_none,errW_some]<;>rfl),by repeat (first|with_reducible exact HB.out|exact bl HB|refine bs ?_ GE177|refine bs ?_ GE182)⟩
end Go.Proofs.Ytembdogffbcjiaa.B
