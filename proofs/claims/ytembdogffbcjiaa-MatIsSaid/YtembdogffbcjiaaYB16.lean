/- Lemmas of the row, laid by a program. -/
import Derived.Test.YtembdogffbcjiaaYB0
import Derived.Test.YtembdogffbcjiaaYB11
import Derived.Test.YtembdogffbcjiaaYB12
import Derived.Test.YtembdogffbcjiaaYB13
import Derived.Test.YtembdogffbcjiaaYB15
namespace Go.Proofs.Ytembdogffbcjiaa.B
open Go.RowKit Go.Proofs.YtembdogffbcjiaaW.PrintWords Go.Proofs.YtembdogffbcjiaaW.PrintLast Go.Proofs.YtembdogffbcjiaaW.PrintMore
attribute [local go_sem] max2_int min2_int max_two min_two max_three min_three max_four min_four
set_option linter.unusedVariables false
set_option linter.unusedSimpArgs false
mutual
def outriggerref06_Mean.l0:Nat→List Int→Bool→Int→Int→Int→Option (Int × Bool)
  | 0,_,_,_,_,_=>none
  | k+1,x4,x5,x7,x486000,x486001=>if x7<(x4.length:Int) then (if 0≤x7 then ((outriggerref02_Of.f k (rd x4 x7)).bind fun bt487=>((outriggerref02_Add.f k x486000 x486001 bt487.1 bt487.2).bind fun bt489=>(outriggerref06_Mean.l0 k x4 x5 (wrap64 (x7+1)) bt489.1 bt489.2.1))) else (none)) else ((outriggerref02_Add.f k x486000 x486001 x486000 x486001).bind fun bt493=>((outriggerref02_Of.f k (x4.length:Int)).bind fun bt497=>((outriggerref02_Add.f k bt493.1 bt493.2.1 bt497.1 bt497.2).bind fun bt499=>(outriggerref06_Mean.l1 k x4 x5 (-288230376151711744) 288230376151711744 bt499.1 bt499.2.1))))
def outriggerref06_Mean.l1:Nat→List Int→Bool→Int→Int→Int→Int→Option (Int × Bool)
  | 0,_,_,_,_,_,_=>none
  | k+1,x4,x5,x14,x15,x503000,x503001=>if x14<x15 then ((outriggerref02_Mul.f (wrap64 (2*(x4.length:Int))) (wrap64 (x15-(wrap64 (Int.tdiv (wrap64 (x15-x14)) 2))))).bind fun bt503=>((outriggerref02_Compare.f k bt503.1 bt503.2 x503000 x503001).bind fun t505=>(if t505≤0 then (outriggerref06_Mean.l1 k x4 x5 (wrap64 (x15-(wrap64 (Int.tdiv (wrap64 (x15-x14)) 2)))) x15 x503000 x503001) else (outriggerref06_Mean.l1 k x4 x5 x14 (wrap64 ((wrap64 (x15-(wrap64 (Int.tdiv (wrap64 (x15-x14)) 2))))-1)) x503000 x503001)))) else (some (x14,x5))
end
def outriggerref06_Mean.f (k:Nat) (l0:List Int):Option (Int × Bool):=(outriggerref06_cut.f k l0).bind fun bt481=>(if (bt481.1.length:Int)=0 then (some (0,false)) else (outriggerref06_Mean.l0 k bt481.1 bt481.2 0 0 0))
def outriggerref06_Mean.T8:Bool × List (List Nat × List Nat):=(true,[([],[]),([],[]),([],[]),([1,2],[1,2]),([3],[3]),([4],[4]),([0,5,5],[0,5]),([6],[6]),([7],[7]),([7],[7]),([],[]),([10,8,6,0,1,2,3,4,5,6,7,8,10],[8,10]),([9,11,0,1,2,3,4,5,6,7,8,9,10,11],[9])])
def outriggerref06_Mean.B8:List Nat:=[0,0,0,6,14,30,63,127,255,255,0,1535,4095]
theorem outriggerref06_Mean.tab8:rtab .any (opsOf Try.f43 8)=outriggerref06_Mean.T8:=by kernel_rfl
theorem outriggerref06_Mean.bits8:waitsOk outriggerref06_Mean.T8.2 outriggerref06_Mean.B8=true:=by kernel_rfl
def outriggerref06_Mean.T11:Bool × List (List Nat × List Nat):=(true,[([],[]),([],[]),([1],[1]),([2],[2]),([0,3,3],[0,3]),([4],[4]),([5],[5]),([5],[5]),([],[]),([8,6,4,0,1,2,3,4,5,6,8],[6,8]),([7,9,0,1,2,3,4,5,6,7,8,9],[7])])
def outriggerref06_Mean.B11:List Nat:=[0,0,2,6,15,31,63,63,0,383,1023]
theorem outriggerref06_Mean.tab11:rtab .any (opsOf Try.f43 11)=outriggerref06_Mean.T11:=by kernel_rfl
theorem outriggerref06_Mean.bits11:waitsOk outriggerref06_Mean.T11.2 outriggerref06_Mean.B11=true:=by kernel_rfl
def outriggerref06_Mean.T16:Bool × List (List Nat × List Nat):=(true,[([],[]),([0],[0]),([1],[1]),([],[]),([2,3],[2,3]),([],[]),([4,5,4],[4,5]),([6],[6])])
def outriggerref06_Mean.B16:List Nat:=[0,1,3,0,15,0,63,127]
theorem outriggerref06_Mean.tab16:rtab .any (opsOf Try.f43 16)=outriggerref06_Mean.T16:=by kernel_rfl
theorem outriggerref06_Mean.bits16:waitsOk outriggerref06_Mean.T16.2 outriggerref06_Mean.B16=true:=by kernel_rfl
set_option maxHeartbeats 8000000 in
set_option maxRecDepth 100000 in
theorem outriggerref06_Mean.calls (k:Nat) (A0:Option Addr) (c0:Nat) (l0:List Int) (r1:Int) (r2:Bool) (w:World) (hr0:Kd.C (Kd.int .i64) w A0 l0.length l0) (hc0:l0.length≤c0) (h:outriggerref06_Mean.f k l0=some (r1,r2)) :
  Calls Try.prog 43 #[.slice A0 l0.length c0] w fun e w'=>e=.returned (.tuple #[.int .i64 r1,.bool r2])∧Below w.heap.size w w':=by
 have hu50:=Try.underlying50
 have HR0:=Aside0.mk hr0
 have HC0:=Aside0.mk hc0
 clear hr0 hc0
 have HB:=Aside0.mk (Below.refl w.heap.size w)
 have H:((outriggerref06_cut.f k l0).bind fun bt481=>(if (bt481.1.length:Int)=0 then (some (0,false)) else (outriggerref06_Mean.l0 k bt481.1 bt481.2 0 0 0)))=some (r1,r2):=h
 clear h
 replace H:=Option.bind_eq_some_iff.mp H
 obtain⟨⟨t481,t482⟩,A20,H⟩:=H
 replace H:(if (t481.length:Int)=0 then (some (0,false)) else (outriggerref06_Mean.l0 k t481 t482 0 0 0))=some (r1,r2):=H
 have A2:=Aside0.mk A20
 clear A20
 by_cases c3:(t481.length:Int)=0
 ·rw [if_pos c3] at H
  have c3b0:((t481.length:Int) == 0)=true:=beq_iff_eq.mpr c3
  have c3b1:((t481.length:Int) != 0)=false:=bne_eq_false_iff_eq.mpr c3
  clear c3
  simp only [Option.some.injEq,Prod.mk.injEq] at H
  obtain⟨rfl,rfl⟩:=H
  go_enter Try.func43,Try.ntmps43
  go_wp2_with (first|((with_reducible refine gate_callee (f:=54) rfl ?_);refine goesL_ (some 19) rfl rfl Try.func54 (by kernel_rfl) rfl #[.slice A0 l0.length c0] rfl (by exact mA _ _) ?_;(with_reducible refine(outriggerref06_cut.calls k _ _ l0 t481 t482 _ ?side1 ?side2 A2.out).mono ?_);(case side1=>first|exact HR0.out|exact kC HR0.out);(case side2=>exact HC0.out);rintro e w4 ⟨v483,rfl,ho0,hb⟩;refine⟨_,rfl,?_⟩;have n0_:=Aside0.mk (Kd.R_lower ho0 (below_size (by first|with_reducible exact HB.out|exact bl HB)));have n1_:=Aside0.mk (below_step (by first|with_reducible exact HB.out|exact bl HB) hb);clear HB;have HO484:=n0_;have HB:=n1_;clear n0_ n1_;(try clear hb);(try clear hb2);(try clear hk);(try clear hi);(try clear ho0);obtain⟨Ao5,co5,eo5⟩:=Kd.R_slice HO484.out;subst eo5))
  go_ret2
  exact⟨by first|rfl|(simp [errW_none,errW_some]<;>rfl)|(simp [*,errW_none,errW_some]<;>rfl),by first|with_reducible exact HB.out|exact bl HB⟩
 ·rw [if_neg c3] at H
  have c3b0:((t481.length:Int) == 0)=false:=beq_eq_false_iff_ne.mpr c3
  have c3b1:((t481.length:Int) != 0)=true:=bne_iff_ne.mpr c3
  have c3b2:¬(t481=[]):=fun h_=>c3 (by rw [h_];rfl)
  have H':=Aside0.mk H
  clear H
  go_enter Try.func43,Try.ntmps43
  go_wp2_with (first|((with_reducible refine gate_callee (f:=54) rfl ?_);refine goesL_ (some 19) rfl rfl Try.func54 (by kernel_rfl) rfl #[.slice A0 l0.length c0] rfl (by exact mA _ _) ?_;(with_reducible refine(outriggerref06_cut.calls k _ _ l0 t481 t482 _ ?side1 ?side2 A2.out).mono ?_);(case side1=>first|exact HR0.out|exact kC HR0.out);(case side2=>exact HC0.out);rintro e w6 ⟨v483,rfl,ho0,hb⟩;refine⟨_,rfl,?_⟩;have n0_:=Aside0.mk (Kd.R_lower ho0 (below_size (by first|with_reducible exact HB.out|exact bl HB)));have n1_:=Aside0.mk (below_step (by first|with_reducible exact HB.out|exact bl HB) hb);clear HB;have HO484:=n0_;have HB:=n1_;clear n0_ n1_;(try clear hb);(try clear hb2);(try clear hk);(try clear hi);(try clear ho0);obtain⟨Ao7,co7,eo7⟩:=Kd.R_slice HO484.out;subst eo7)|((with_reducible refine gate_dst (N:=6) rfl ?_);refine box_event ?hg (N:=6) ?hd (cs:=#[.int .i64 0,.int .i64 0]) (t:=50) ?hr ?_;(case hd=>rfl);(case hg=>rfl);(case hr=>first|(go_simp;done)|(go_simp;rfl));intro gb485 hg w8 hbox hb;have n0_:=Aside0.mk (Kd.R_below (by first|exact HO484.out|exact kR HO484.out) hb);have n1_:=Aside0.mk (below_step (by first|with_reducible exact HB.out|exact bl HB) hb);have n2_:=Aside0.mk (hbox);have n3_:=Aside0.mk ((by rw [hg];exact(below_size (by first|with_reducible exact HB.out|exact bl HB)):w.heap.size≤gb485));have n4_:=Aside0.mk ((by rw [hg];exact(below_size (by first|with_reducible exact HB.out|exact bl HB)):w.heap.size≤gb485));clear HO484;clear HB;have HO484:=n0_;have HB:=n1_;have BK485:=n2_;have GW485:=n3_;have GE485:=n4_;clear n0_ n1_ n2_ n3_ n4_;clear hb hbox hg;have hcz9_0:w8.cell? ⟨gb485,0,none⟩=some (.int .i64 0):=(blk_cell BK485.out 0).trans rfl;have hcz9_1:w8.cell? ⟨gb485,1,none⟩=some (.int .i64 0):=(blk_cell BK485.out 1).trans rfl;have hfz9_0:=blk_frozen BK485.out 0;have hfz9_1:=blk_frozen BK485.out 1))
  go_loopg [7] k (fun kq v7 w'=>∃ (x7_1:Int) (x486000_1:Int) (x486001_1:Int),v7=.int .i64 x7_1∧Aside0 (outriggerref06_Mean.l0 kq t481 t482 x7_1 x486000_1 x486001_1=some (r1,r2))∧Aside0 (kq≤k)∧Aside0 (Kd.R (Kd.int .i64) 3 w' w.heap.size (fun _=>True) (.slice Ao7 t481.length co7) t481)∧Aside0 (w'.heap[gb485]? = some (.cells #[.int .i64 x486000_1,.int .i64 x486001_1] 50 (0,0)))∧Aside0 (Below w.heap.size w w'))
  case atStart=>exact⟨(0),(0),(0),(by first|rfl|(simp;done)|(simp [*];done)),H',⟨Nat.le_refl _⟩,⟨by (with_reducible repeat (first|apply Kd.R_alloc|apply Kd.R_drewN|apply Kd.R_drew));exact Kd.R_mono (Kd.R_far (p:=⟨gb485,1,none⟩) (Kd.R_far (p:=⟨gb485,0,none⟩) (Kd.R_types HO484.out BK485.out (by decide)) (fun _ hk=>hk.2) (.int .i64 0)) (fun _ hk=>hk.2) (.int .i64 0)) (fun _ hk=>trivial)⟩,⟨by try refine bk ?_;refine blk_put (cs:=#[.int .i64 0,.int .i64 0]) ?_ 1 _ rfl;try refine bk ?_;refine blk_put (cs:=#[.int .i64 0,.int .i64 0]) ?_ 0 _ rfl;try refine bk ?_;exact BK485.out⟩,⟨by repeat (first|with_reducible exact HB.out|exact bl HB|refine bs ?_ GE485)⟩⟩
  case round =>
   clear H'
   try clear p2
   try clear c3
   try clear c3b0
   try clear c3b1
   try clear c3b2
   try clear c4
   try clear c5
   try clear hcz9_0
   try clear hcz9_1
   try clear hfz9_0
   try clear hfz9_1
   obtain⟨x7_1,x486000_1,x486001_1,rfl,HA,HK1,HO_4,BK485,HB⟩:=hrel
   cases gk with
   | zero=>exact absurd HA.out (by simp [outriggerref06_Mean.l0])
   | succ k1 =>
    have H:=HA.out
    clear HA
    simp only [outriggerref06_Mean.l0] at H
    by_cases c10:x7_1<(t481.length:Int)
    ·rw [if_pos c10] at H
     have c10b0:decide (x7_1<(t481.length:Int))=true:=decide_eq_true c10
     clear c10
     by_cases c11:0≤x7_1
     ·rw [if_pos c11] at H
      have c11b0:decide (0≤x7_1)=true:=decide_eq_true c11
      clear c11
      replace H:=Option.bind_eq_some_iff.mp H
      obtain⟨⟨t487,t488⟩,A120,H⟩:=H
      replace H:((outriggerref02_Add.f k1 x486000_1 x486001_1 t487 t488).bind fun bt489=>(outriggerref06_Mean.l0 k1 t481 t482 (wrap64 (x7_1+1)) bt489.1 bt489.2.1))=some (r1,r2):=H
      have A12:=Aside0.mk A120
      clear A120
      replace H:=Option.bind_eq_some_iff.mp H
      obtain⟨⟨t489,t490,t491⟩,A130,H⟩:=H
      replace H:(outriggerref06_Mean.l0 k1 t481 t482 (wrap64 (x7_1+1)) t489 t490)=some (r1,r2):=H
      have A13:=Aside0.mk A130
      clear A130
      have H':=Aside0.mk H
      clear H
      try go_wp2
      have n0_:=Aside0.mk (Kd.R_drew HO_4.out)
      have n1_:=Aside0.mk (blk_drew BK485.out)
      have n2_:=Aside0.mk (below_drew1 HB.out)
      clear HO_4
      clear BK485
      clear HB
      have HO_4:=n0_
      have BK485:=n1_
      have HB:=n2_
      clear n0_ n1_ n2_
      have p486:0≤(x7_1:Int):=of_decide_eq_true (by first|(with_reducible assumption)|assumption)
      have q486:x7_1<(t481.length:Int):=of_decide_eq_true (by first|(with_reducible assumption)|assumption)
      obtain⟨ad486,e486,hx486_0⟩:=Kd.at_int (Kd.R_reads' HO_4.out).2.2 x7_1 p486 q486
      cases e486
      replace p486:=eq_true p486
      replace q486:=eq_true q486
      refine start_ (n:=13) (S:=fun w'=>w'.cell? ⟨gb485,0,none⟩=some (.int .i64 x486000_1)∧w'.cell? ⟨gb485,1,none⟩=some (.int .i64 x486001_1)∧w'.cell? (ad486.add (x7_1).toNat)=some (.int .i64 (rd t481 x7_1))) (ds:=[]) #[ff,ff,ff,ff,ff,ff,ff,ff,ff,ff,ff,ff,ff] (by kernel_rfl) rfl rfl ⟨(blk_cell BK485.out 0).trans rfl,(blk_cell BK485.out 1).trans rfl,hx486_0⟩ (fun hHeld=>?_);refine with_tabW outriggerref06_Mean.tab8 outriggerref06_Mean.bits8 (fun HT_ HW_=>?_)
      generalize wr.drew=w14 at HO_4 BK485 HB hx486_0 hHeld ⊢
      refine pure_ (i:=1) (N:=some 34) (v:=?_) (a':=?_) #[ff,tt,ff,ff,ff,ff,ff,ff,ff,ff,ff,ff,ff] rfl rfl (any_of HT_.out (by kernel_rfl)) (fun _ _ _ h=>h) (Or.inl ⟨by rfl,?_⟩) ?_ ?_
      rotate_left
      ·intro w'
       go_simp
       with_reducible rfl
      rotate_left
      ·simp only [Act.put,List.setIfInBounds_toArray,List.set_cons_zero,List.set_cons_succ,i64_w,i32_w]
       rfl
      refine pure_ (i:=2) (N:=some 35) (v:=?_) (a':=?_) #[ff,tt,tt,ff,ff,ff,ff,ff,ff,ff,ff,ff,ff] rfl rfl (any_of HT_.out (by kernel_rfl)) (fun _ _ _ h=>h) (Or.inl ⟨by rfl,?_⟩) ?_ ?_
      rotate_left
      ·intro w'
       go_simp
       with_reducible rfl
      rotate_left
      ·simp only [Act.put,List.setIfInBounds_toArray,List.set_cons_zero,List.set_cons_succ,i64_w,i32_w]
       rfl
      refine pure_ (i:=3) (N:=some 36) (v:=?_) (a':=?_) #[ff,tt,tt,tt,ff,ff,ff,ff,ff,ff,ff,ff,ff] rfl rfl (any_of HT_.out (by kernel_rfl)) (fun _ _ _ h=>h) (Or.inl ⟨by rfl,?_⟩) ?_ ?_
      rotate_left
      ·intro w'
       go_simp
       with_reducible rfl
      rotate_left
      ·simp only [Act.put,List.setIfInBounds_toArray,List.set_cons_zero,List.set_cons_succ,i64_w,i32_w]
       rfl
      refine take_ (i:=0) (N:=some 33) (v:=?_) (a':=?_) #[tt,tt,tt,tt,ff,ff,ff,ff,ff,ff,ff,ff,ff] rfl rfl (take_ofW HT_.out HW_.out (by kernel_rfl)) (fun _ _ _ h=>h) (Or.inl ⟨by rfl,?_⟩) hHeld ?_ ?_
      rotate_left
      ·rintro w' ⟨s0,s1,s2⟩
       go_simp
       with_reducible rfl
      rotate_left
      ·simp only [Act.put,List.setIfInBounds_toArray,List.set_cons_zero,List.set_cons_succ,i64_w,i32_w]
       rfl
      refine take_ (i:=4) (N:=some 37) (v:=?_) (a':=?_) #[tt,tt,tt,tt,tt,ff,ff,ff,ff,ff,ff,ff,ff] rfl rfl (take_ofW HT_.out HW_.out (by kernel_rfl)) (fun _ _ _ h=>h) (Or.inl ⟨by rfl,?_⟩) hHeld ?_ ?_
      rotate_left
      ·rintro w' ⟨s0,s1,s2⟩
       go_simp
       with_reducible rfl
      rotate_left
      ·simp only [Act.put,List.setIfInBounds_toArray,List.set_cons_zero,List.set_cons_succ,i64_w,i32_w]
       rfl
      refine join_ (σ:=Nat) 2 #[tt,tt,tt,tt,tt,tt,tt,tt,tt,tt,tt,ff,ff] (fun s_=>[(38,.agg #[.int .i64 t487,.int .i64 t488]),(39,.tuple #[.agg #[.int .i64 t489,.int .i64 t490],.bool t491]),(8,.pointer (some ⟨s_,0,none⟩)),(32,.tuple #[.agg #[.int .i64 t489,.int .i64 t490],.bool t491]),(40,.agg #[.int .i64 t489,.int .i64 t490]),(41,.bool t491)]) (fun s_ w'=>(w'.cell? ⟨gb485,0,none⟩=some (.int .i64 x486000_1)∧w'.cell? ⟨gb485,1,none⟩=some (.int .i64 x486001_1)∧w'.cell? (ad486.add (x7_1).toNat)=some (.int .i64 (rd t481 x7_1)))∧(Kd.R (Kd.int .i64) 3 w' w.heap.size (fun _=>True) (.slice (some ad486) t481.length co7) t481)∧(w'.heap[gb485]? = some (.cells #[.int .i64 x486000_1,.int .i64 x486001_1] 50 (0,0)))∧(w'.heap[s_]? = some (.cells #[.int .i64 0,.int .i64 0] 50 (0,0)))∧(w.heap.size≤s_)∧(w.heap.size≤s_)∧(gb485≠s_)∧(s_≠gb485)∧(Below w.heap.size w w')) ?_ ?_
      rotate_left
      ·intro hCont
       refine two_ (i:=5) (j:=10) (Ni:=some 38) (Nj:=some 8) #[tt,tt,tt,tt,tt,tt,ff,ff,ff,ff,ff,ff,ff] #[tt,tt,tt,tt,tt,ff,ff,ff,ff,ff,tt,ff,ff] rfl rfl rfl rfl (two_of HT_.out (by kernel_rfl)) (by decide) (by decide) (fun K hK=>?_) (fun K hK=>?_)
       ·skip
        refine goes_ Try.func59 (by kernel_rfl) rfl #[.int .i64 (rd t481 x7_1)] (by rfl) rfl rfl (by exact mA _ _) ?_
        with_reducible refine(outriggerref02_Of.calls k1 (rd t481 x7_1) t487 t488 _ A12.out).mono ?_
        rintro e w15 ⟨rfl,hb⟩
        have HS2_:=(hb.cell (World.block_lt_of_cell? _ _ (hHeld.2.2))).trans (hHeld.2.2)
        refine⟨_,rfl,?_⟩
        have n0_:=Aside0.mk (Kd.R_below (by first|exact HO_4.out|exact kR HO_4.out) hb)
        have n1_:=Aside0.mk (blk_below (bk BK485.out) hb)
        have n2_:=Aside0.mk (below_step (by repeat (first|with_reducible exact HB.out|exact bl HB|refine bs ?_ GE485)) hb)
        clear HO_4
        clear BK485
        clear HB
        have HO_4:=n0_
        have BK485:=n1_
        have HB:=n2_
        clear n0_ n1_ n2_
        (try clear hb)
        (try clear hb2)
        (try clear hk)
        (try clear hi)
        refine hK.out _ _ ⟨(blk_cell BK485.out 0).trans rfl,(blk_cell BK485.out 1).trans rfl,HS2_⟩ (fun hHeld=>?_)
        clear hK K
        refine norm_ (a':=?_) ?_ ?_
        rotate_left
        ·show Act.put _ (some 38) _=_
         simp only [Act.put,List.setIfInBounds_toArray,List.set_cons_zero,List.set_cons_succ,i64_w,i32_w]
         rfl
        refine two_ (i:=6) (j:=10) (Ni:=some 39) (Nj:=some 8) #[tt,tt,tt,tt,tt,tt,tt,ff,ff,ff,ff,ff,ff] #[tt,tt,tt,tt,tt,tt,ff,ff,ff,ff,tt,ff,ff] rfl rfl rfl rfl (two_of HT_.out (by kernel_rfl)) (by decide) (by decide) (fun K hK=>?_) (fun K hK=>?_)
        ·skip
         refine goes_ Try.func58 (by kernel_rfl) rfl #[.agg #[.int .i64 x486000_1,.int .i64 x486001_1],.agg #[.int .i64 t487,.int .i64 t488]] (by rfl) rfl rfl (by exact mA _ _) ?_
         with_reducible refine(outriggerref02_Add.calls k1 x486000_1 x486001_1 t487 t488 t489 t490 t491 _ A13.out).mono ?_
         rintro e w16 ⟨rfl,hb⟩
         have HS2_:=(hb.cell (World.block_lt_of_cell? _ _ (hHeld.2.2))).trans (hHeld.2.2)
         refine⟨_,rfl,?_⟩
         have n0_:=Aside0.mk (Kd.R_below (by first|exact HO_4.out|exact kR HO_4.out) hb)
         have n1_:=Aside0.mk (blk_below (bk BK485.out) hb)
         have n2_:=Aside0.mk (below_step (by repeat (first|with_reducible exact HB.out|exact bl HB|refine bs ?_ GE485)) hb)
         clear HO_4
         clear BK485
         clear HB
         have HO_4:=n0_
         have BK485:=n1_
         have HB:=n2_
         clear n0_ n1_ n2_
         (try clear hb)
         (try clear hb2)
         (try clear hk)
         (try clear hi)
         refine hK.out _ _ ⟨(blk_cell BK485.out 0).trans rfl,(blk_cell BK485.out 1).trans rfl,HS2_⟩ (fun hHeld=>?_)
         clear hK K
         refine norm_ (a':=?_) ?_ ?_
         rotate_left
         ·show Act.put _ (some 39) _=_
          simp only [Act.put,List.setIfInBounds_toArray,List.set_cons_zero,List.set_cons_succ,i64_w,i32_w]
          rfl
         refine pure_ (i:=7) (N:=some 32) (v:=?_) (a':=?_) #[tt,tt,tt,tt,tt,tt,tt,tt,ff,ff,ff,ff,ff] rfl rfl (any_of HT_.out (by kernel_rfl)) (fun _ _ _ h=>h) (Or.inl ⟨by rfl,?_⟩) ?_ ?_
         rotate_left
         ·intro w'
          go_simp
          with_reducible rfl
         rotate_left
         ·simp only [Act.put,List.setIfInBounds_toArray,List.set_cons_zero,List.set_cons_succ,i64_w,i32_w]
          rfl
         refine pure_ (i:=8) (N:=some 40) (v:=?_) (a':=?_) #[tt,tt,tt,tt,tt,tt,tt,tt,tt,ff,ff,ff,ff] rfl rfl (any_of HT_.out (by kernel_rfl)) (fun _ _ _ h=>h) (Or.inl ⟨by rfl,?_⟩) ?_ ?_
         rotate_left
         ·intro w'
          go_simp
          with_reducible rfl
         rotate_left
         ·simp only [Act.put,List.setIfInBounds_toArray,List.set_cons_zero,List.set_cons_succ,i64_w,i32_w]
          rfl
         refine pure_ (i:=9) (N:=some 41) (v:=?_) (a':=?_) #[tt,tt,tt,tt,tt,tt,tt,tt,tt,tt,ff,ff,ff] rfl rfl (any_of HT_.out (by kernel_rfl)) (fun _ _ _ h=>h) (Or.inl ⟨by rfl,?_⟩) ?_ ?_
         rotate_left
         ·intro w'
          go_simp
          with_reducible rfl
         rotate_left
         ·simp only [Act.put,List.setIfInBounds_toArray,List.set_cons_zero,List.set_cons_succ,i64_w,i32_w]
          rfl
         refine one_ (i:=10) (N:=some 8) #[tt,tt,tt,tt,tt,tt,tt,tt,tt,tt,tt,ff,ff] rfl rfl (one_of HT_.out (by kernel_rfl)) (by decide) (fun K hK=>?_)
         refine box_step ?hg (N:=8) ?hd (cs:=#[.int .i64 0,.int .i64 0]) (t:=50) ?hr ?_;(case hd=>rfl);(case hg=>rfl);(case hr=>first|(go_simp;done)|(go_simp;rfl))
         intro gb492 hg w17 hbox hb
         have HS2_:=(hb.cell (World.block_lt_of_cell? _ _ (hHeld.2.2))).trans (hHeld.2.2)
         have n0_:=Aside0.mk (Kd.R_below (by first|exact HO_4.out|exact kR HO_4.out) hb)
         have n1_:=Aside0.mk (blk_below (bk BK485.out) hb)
         have n2_:=Aside0.mk (below_step (by repeat (first|with_reducible exact HB.out|exact bl HB|refine bs ?_ GE485)) hb)
         have n3_:=Aside0.mk (hbox)
         have n4_:=Aside0.mk ((by rw [hg];exact(below_size (by repeat (first|with_reducible exact HB.out|exact bl HB|refine bs ?_ GE485))):w.heap.size≤gb492))
         have n5_:=Aside0.mk ((by rw [hg];exact(below_size (by repeat (first|with_reducible exact HB.out|exact bl HB|refine bs ?_ GE485))):w.heap.size≤gb492))
         have n6_:=Aside0.mk ((by rw [hg];exact Nat.ne_of_lt (blk_lt (bk BK485.out)):gb485≠gb492))
         have n7_:=Aside0.mk ((by rw [hg];exact Nat.ne_of_gt (blk_lt (bk BK485.out)):gb492≠gb485))
         clear HO_4
         clear BK485
         clear HB
         have HO_4:=n0_
         have BK485:=n1_
         have HB:=n2_
         have BK492:=n3_
         have GW492:=n4_
         have GE492:=n5_
         have NB485_492:=n6_
         have NB492_485:=n7_
         clear n0_ n1_ n2_ n3_ n4_ n5_ n6_ n7_
         clear hb hbox hg
         refine hK.out _ _ ⟨(blk_cell BK485.out 0).trans rfl,(blk_cell BK485.out 1).trans rfl,HS2_⟩ (fun hHeld=>?_)
         clear hK K
         refine norm_ (a':=?_) ?_ ?_
         rotate_left
         ·show Act.put _ (some 8) _=_
          simp only [Act.put,List.setIfInBounds_toArray,List.set_cons_zero,List.set_cons_succ,i64_w,i32_w]
          rfl
         exact norm_ (by simp only [putAll,Act.put,List.setIfInBounds_toArray,List.set_cons_zero,List.set_cons_succ]) (hCont (gb492) _ ⟨hHeld,(by first|exact HO_4.out|exact kR HO_4.out),(bk BK485.out),(bk BK492.out),GW492.out,GE492.out,NB485_492.out,NB492_485.out,(by repeat (first|with_reducible exact HB.out|exact bl HB|refine bs ?_ GE485|refine bs ?_ GE492))⟩)
        ·skip
         refine box_step ?hg (N:=8) ?hd (cs:=#[.int .i64 0,.int .i64 0]) (t:=50) ?hr ?_;(case hd=>rfl);(case hg=>rfl);(case hr=>first|(go_simp;done)|(go_simp;rfl))
         intro gb492 hg w16 hbox hb
         have HS2_:=(hb.cell (World.block_lt_of_cell? _ _ (hHeld.2.2))).trans (hHeld.2.2)
         have n0_:=Aside0.mk (Kd.R_below (by first|exact HO_4.out|exact kR HO_4.out) hb)
         have n1_:=Aside0.mk (blk_below (bk BK485.out) hb)
         have n2_:=Aside0.mk (below_step (by repeat (first|with_reducible exact HB.out|exact bl HB|refine bs ?_ GE485)) hb)
         have n3_:=Aside0.mk (hbox)
         have n4_:=Aside0.mk ((by rw [hg];exact(below_size (by repeat (first|with_reducible exact HB.out|exact bl HB|refine bs ?_ GE485))):w.heap.size≤gb492))
         have n5_:=Aside0.mk ((by rw [hg];exact(below_size (by repeat (first|with_reducible exact HB.out|exact bl HB|refine bs ?_ GE485))):w.heap.size≤gb492))
         have n6_:=Aside0.mk ((by rw [hg];exact Nat.ne_of_lt (blk_lt (bk BK485.out)):gb485≠gb492))
         have n7_:=Aside0.mk ((by rw [hg];exact Nat.ne_of_gt (blk_lt (bk BK485.out)):gb492≠gb485))
         clear HO_4
         clear BK485
         clear HB
         have HO_4:=n0_
         have BK485:=n1_
         have HB:=n2_
         have BK492:=n3_
         have GW492:=n4_
         have GE492:=n5_
         have NB485_492:=n6_
         have NB492_485:=n7_
         clear n0_ n1_ n2_ n3_ n4_ n5_ n6_ n7_
         clear hb hbox hg
         refine hK.out _ _ ⟨(blk_cell BK485.out 0).trans rfl,(blk_cell BK485.out 1).trans rfl,HS2_⟩ (fun hHeld=>?_)
         clear hK K
         refine norm_ (a':=?_) ?_ ?_
         rotate_left
         ·show Act.put _ (some 8) _=_
          simp only [Act.put,List.setIfInBounds_toArray,List.set_cons_zero,List.set_cons_succ,i64_w,i32_w]
          rfl
         refine one_ (i:=6) (N:=some 39) #[tt,tt,tt,tt,tt,tt,tt,ff,ff,ff,tt,ff,ff] rfl rfl (one_of HT_.out (by kernel_rfl)) (by decide) (fun K hK=>?_)
         refine goes_ Try.func58 (by kernel_rfl) rfl #[.agg #[.int .i64 x486000_1,.int .i64 x486001_1],.agg #[.int .i64 t487,.int .i64 t488]] (by rfl) rfl rfl (by exact mA _ _) ?_
         with_reducible refine(outriggerref02_Add.calls k1 x486000_1 x486001_1 t487 t488 t489 t490 t491 _ A13.out).mono ?_
         rintro e w17 ⟨rfl,hb⟩
         have HS2_:=(hb.cell (World.block_lt_of_cell? _ _ (hHeld.2.2))).trans (hHeld.2.2)
         refine⟨_,rfl,?_⟩
         have n0_:=Aside0.mk (Kd.R_below (by first|exact HO_4.out|exact kR HO_4.out) hb)
         have n1_:=Aside0.mk (blk_below (bk BK485.out) hb)
         have n2_:=Aside0.mk (blk_below (bk BK492.out) hb)
         have n3_:=Aside0.mk (below_step (by repeat (first|with_reducible exact HB.out|exact bl HB|refine bs ?_ GE485|refine bs ?_ GE492)) hb)
         clear HO_4
         clear BK485
         clear BK492
         clear HB
         have HO_4:=n0_
         have BK485:=n1_
         have BK492:=n2_
         have HB:=n3_
         clear n0_ n1_ n2_ n3_
         (try clear hb)
         (try clear hb2)
         (try clear hk)
         (try clear hi)
         refine hK.out _ _ ⟨(blk_cell BK485.out 0).trans rfl,(blk_cell BK485.out 1).trans rfl,HS2_⟩ (fun hHeld=>?_)
         clear hK K
         refine norm_ (a':=?_) ?_ ?_
         rotate_left
         ·show Act.put _ (some 39) _=_
          simp only [Act.put,List.setIfInBounds_toArray,List.set_cons_zero,List.set_cons_succ,i64_w,i32_w]
          rfl
         refine pure_ (i:=7) (N:=some 32) (v:=?_) (a':=?_) #[tt,tt,tt,tt,tt,tt,tt,tt,ff,ff,tt,ff,ff] rfl rfl (any_of HT_.out (by kernel_rfl)) (fun _ _ _ h=>h) (Or.inl ⟨by rfl,?_⟩) ?_ ?_
         rotate_left
         ·intro w'
          go_simp
          with_reducible rfl
         rotate_left
         ·simp only [Act.put,List.setIfInBounds_toArray,List.set_cons_zero,List.set_cons_succ,i64_w,i32_w]
          rfl
         refine pure_ (i:=8) (N:=some 40) (v:=?_) (a':=?_) #[tt,tt,tt,tt,tt,tt,tt,tt,tt,ff,tt,ff,ff] rfl rfl (any_of HT_.out (by kernel_rfl)) (fun _ _ _ h=>h) (Or.inl ⟨by rfl,?_⟩) ?_ ?_
         rotate_left
         ·intro w'
          go_simp
          with_reducible rfl
         rotate_left
         ·simp only [Act.put,List.setIfInBounds_toArray,List.set_cons_zero,List.set_cons_succ,i64_w,i32_w]
          rfl
         refine pure_ (i:=9) (N:=some 41) (v:=?_) (a':=?_) #[tt,tt,tt,tt,tt,tt,tt,tt,tt,tt,tt,ff,ff] rfl rfl (any_of HT_.out (by kernel_rfl)) (fun _ _ _ h=>h) (Or.inl ⟨by rfl,?_⟩) ?_ ?_
         rotate_left
         ·intro w'
          go_simp
          with_reducible rfl
         rotate_left
         ·simp only [Act.put,List.setIfInBounds_toArray,List.set_cons_zero,List.set_cons_succ,i64_w,i32_w]
          rfl
         exact norm_ (by simp only [putAll,Act.put,List.setIfInBounds_toArray,List.set_cons_zero,List.set_cons_succ]) (hCont (gb492) _ ⟨hHeld,(by first|exact HO_4.out|exact kR HO_4.out),(bk BK485.out),(bk BK492.out),GW492.out,GE492.out,NB485_492.out,NB492_485.out,(by repeat (first|with_reducible exact HB.out|exact bl HB|refine bs ?_ GE485|refine bs ?_ GE492))⟩)
       ·skip
        refine box_step ?hg (N:=8) ?hd (cs:=#[.int .i64 0,.int .i64 0]) (t:=50) ?hr ?_;(case hd=>rfl);(case hg=>rfl);(case hr=>first|(go_simp;done)|(go_simp;rfl))
        intro gb492 hg w15 hbox hb
        have HS2_:=(hb.cell (World.block_lt_of_cell? _ _ (hHeld.2.2))).trans (hHeld.2.2)
        have n0_:=Aside0.mk (Kd.R_below (by first|exact HO_4.out|exact kR HO_4.out) hb)
        have n1_:=Aside0.mk (blk_below (bk BK485.out) hb)
        have n2_:=Aside0.mk (below_step (by repeat (first|with_reducible exact HB.out|exact bl HB|refine bs ?_ GE485)) hb)
        have n3_:=Aside0.mk (hbox)
        have n4_:=Aside0.mk ((by rw [hg];exact(below_size (by repeat (first|with_reducible exact HB.out|exact bl HB|refine bs ?_ GE485))):w.heap.size≤gb492))
        have n5_:=Aside0.mk ((by rw [hg];exact(below_size (by repeat (first|with_reducible exact HB.out|exact bl HB|refine bs ?_ GE485))):w.heap.size≤gb492))
        have n6_:=Aside0.mk ((by rw [hg];exact Nat.ne_of_lt (blk_lt (bk BK485.out)):gb485≠gb492))
        have n7_:=Aside0.mk ((by rw [hg];exact Nat.ne_of_gt (blk_lt (bk BK485.out)):gb492≠gb485))
        clear HO_4
        clear BK485
        clear HB
        have HO_4:=n0_
        have BK485:=n1_
        have HB:=n2_
        have BK492:=n3_
        have GW492:=n4_
        have GE492:=n5_
        have NB485_492:=n6_
        have NB492_485:=n7_
        clear n0_ n1_ n2_ n3_ n4_ n5_ n6_ n7_
        clear hb hbox hg
        refine hK.out _ _ ⟨(blk_cell BK485.out 0).trans rfl,(blk_cell BK485.out 1).trans rfl,HS2_⟩ (fun hHeld=>?_)
        clear hK K
        refine norm_ (a':=?_) ?_ ?_
        rotate_left
        ·show Act.put _ (some 8) _=_
         simp only [Act.put,List.setIfInBounds_toArray,List.set_cons_zero,List.set_cons_succ,i64_w,i32_w]
         rfl
        refine one_ (i:=5) (N:=some 38) #[tt,tt,tt,tt,tt,tt,ff,ff,ff,ff,tt,ff,ff] rfl rfl (one_of HT_.out (by kernel_rfl)) (by decide) (fun K hK=>?_)
        refine goes_ Try.func59 (by kernel_rfl) rfl #[.int .i64 (rd t481 x7_1)] (by rfl) rfl rfl (by exact mA _ _) ?_
        with_reducible refine(outriggerref02_Of.calls k1 (rd t481 x7_1) t487 t488 _ A12.out).mono ?_
        rintro e w16 ⟨rfl,hb⟩
        have HS2_:=(hb.cell (World.block_lt_of_cell? _ _ (hHeld.2.2))).trans (hHeld.2.2)
        refine⟨_,rfl,?_⟩
        have n0_:=Aside0.mk (Kd.R_below (by first|exact HO_4.out|exact kR HO_4.out) hb)
        have n1_:=Aside0.mk (blk_below (bk BK485.out) hb)
        have n2_:=Aside0.mk (blk_below (bk BK492.out) hb)
        have n3_:=Aside0.mk (below_step (by repeat (first|with_reducible exact HB.out|exact bl HB|refine bs ?_ GE485|refine bs ?_ GE492)) hb)
        clear HO_4
        clear BK485
        clear BK492
        clear HB
        have HO_4:=n0_
        have BK485:=n1_
        have BK492:=n2_
        have HB:=n3_
        clear n0_ n1_ n2_ n3_
        (try clear hb)
        (try clear hb2)
        (try clear hk)
        (try clear hi)
        refine hK.out _ _ ⟨(blk_cell BK485.out 0).trans rfl,(blk_cell BK485.out 1).trans rfl,HS2_⟩ (fun hHeld=>?_)
        clear hK K
        refine norm_ (a':=?_) ?_ ?_
        rotate_left
        ·show Act.put _ (some 38) _=_
         simp only [Act.put,List.setIfInBounds_toArray,List.set_cons_zero,List.set_cons_succ,i64_w,i32_w]
         rfl
        refine one_ (i:=6) (N:=some 39) #[tt,tt,tt,tt,tt,tt,tt,ff,ff,ff,tt,ff,ff] rfl rfl (one_of HT_.out (by kernel_rfl)) (by decide) (fun K hK=>?_)
        refine goes_ Try.func58 (by kernel_rfl) rfl #[.agg #[.int .i64 x486000_1,.int .i64 x486001_1],.agg #[.int .i64 t487,.int .i64 t488]] (by rfl) rfl rfl (by exact mA _ _) ?_
        with_reducible refine(outriggerref02_Add.calls k1 x486000_1 x486001_1 t487 t488 t489 t490 t491 _ A13.out).mono ?_
        rintro e w17 ⟨rfl,hb⟩
        have HS2_:=(hb.cell (World.block_lt_of_cell? _ _ (hHeld.2.2))).trans (hHeld.2.2)
        refine⟨_,rfl,?_⟩
        have n0_:=Aside0.mk (Kd.R_below (by first|exact HO_4.out|exact kR HO_4.out) hb)
        have n1_:=Aside0.mk (blk_below (bk BK485.out) hb)
        have n2_:=Aside0.mk (blk_below (bk BK492.out) hb)
        have n3_:=Aside0.mk (below_step (by repeat (first|with_reducible exact HB.out|exact bl HB|refine bs ?_ GE485|refine bs ?_ GE492)) hb)
        clear HO_4
        clear BK485
        clear BK492
        clear HB
        have HO_4:=n0_
        have BK485:=n1_
        have BK492:=n2_
        have HB:=n3_
        clear n0_ n1_ n2_ n3_
        (try clear hb)
        (try clear hb2)
        (try clear hk)
        (try clear hi)
        refine hK.out _ _ ⟨(blk_cell BK485.out 0).trans rfl,(blk_cell BK485.out 1).trans rfl,HS2_⟩ (fun hHeld=>?_)
        clear hK K
        refine norm_ (a':=?_) ?_ ?_
        rotate_left
        ·show Act.put _ (some 39) _=_
         simp only [Act.put,List.setIfInBounds_toArray,List.set_cons_zero,List.set_cons_succ,i64_w,i32_w]
         rfl
        refine pure_ (i:=7) (N:=some 32) (v:=?_) (a':=?_) #[tt,tt,tt,tt,tt,tt,tt,tt,ff,ff,tt,ff,ff] rfl rfl (any_of HT_.out (by kernel_rfl)) (fun _ _ _ h=>h) (Or.inl ⟨by rfl,?_⟩) ?_ ?_
        rotate_left
        ·intro w'
         go_simp
         with_reducible rfl
        rotate_left
        ·simp only [Act.put,List.setIfInBounds_toArray,List.set_cons_zero,List.set_cons_succ,i64_w,i32_w]
         rfl
        refine pure_ (i:=8) (N:=some 40) (v:=?_) (a':=?_) #[tt,tt,tt,tt,tt,tt,tt,tt,tt,ff,tt,ff,ff] rfl rfl (any_of HT_.out (by kernel_rfl)) (fun _ _ _ h=>h) (Or.inl ⟨by rfl,?_⟩) ?_ ?_
        rotate_left
        ·intro w'
         go_simp
         with_reducible rfl
        rotate_left
        ·simp only [Act.put,List.setIfInBounds_toArray,List.set_cons_zero,List.set_cons_succ,i64_w,i32_w]
         rfl
        refine pure_ (i:=9) (N:=some 41) (v:=?_) (a':=?_) #[tt,tt,tt,tt,tt,tt,tt,tt,tt,tt,tt,ff,ff] rfl rfl (any_of HT_.out (by kernel_rfl)) (fun _ _ _ h=>h) (Or.inl ⟨by rfl,?_⟩) ?_ ?_
        rotate_left
        ·intro w'
         go_simp
         with_reducible rfl
        rotate_left
        ·simp only [Act.put,List.setIfInBounds_toArray,List.set_cons_zero,List.set_cons_succ,i64_w,i32_w]
         rfl
        exact norm_ (by simp only [putAll,Act.put,List.setIfInBounds_toArray,List.set_cons_zero,List.set_cons_succ]) (hCont (gb492) _ ⟨hHeld,(by first|exact HO_4.out|exact kR HO_4.out),(bk BK485.out),(bk BK492.out),GW492.out,GE492.out,NB485_492.out,NB492_485.out,(by repeat (first|with_reducible exact HB.out|exact bl HB|refine bs ?_ GE485|refine bs ?_ GE492))⟩)
      rintro gb492 w18 ⟨hS_,h0_,h1_,h2_,h3_,h4_,h5_,h6_,h7_⟩
      have n0_:Aside0 (Kd.R (Kd.int .i64) 3 w18 w.heap.size (fun _=>True) (.slice (some ad486) t481.length co7) t481):=⟨h0_⟩
      have n1_:Aside0 (w18.heap[gb485]? = some (.cells #[.int .i64 x486000_1,.int .i64 x486001_1] 50 (0,0))):=⟨h1_⟩
      have n2_:Aside0 (w18.heap[gb492]? = some (.cells #[.int .i64 0,.int .i64 0] 50 (0,0))):=⟨h2_⟩
      have n3_:Aside0 (w.heap.size≤gb492):=⟨h3_⟩
      have n4_:Aside0 (w.heap.size≤gb492):=⟨h4_⟩
      have n5_:Aside0 (gb485≠gb492):=⟨h5_⟩
      have n6_:Aside0 (gb492≠gb485):=⟨h6_⟩
      have n7_:Aside0 (Below w.heap.size w w18):=⟨h7_⟩
      clear HO_4
      clear BK485
      clear HB
      clear h0_ h1_ h2_ h3_ h4_ h5_ h6_ h7_
      have HO_4:=n0_
      have BK485:=n1_
      have BK492:=n2_
      have GW492:=n3_
      have GE492:=n4_
      have NB485_492:=n5_
      have NB492_485:=n6_
      have HB:=n7_
      clear n0_ n1_ n2_ n3_ n4_ n5_ n6_ n7_
      have hHeld:w18.cell? ⟨gb485,0,none⟩=some (.int .i64 x486000_1)∧w18.cell? ⟨gb485,1,none⟩=some (.int .i64 x486001_1)∧w18.cell? (ad486.add (x7_1).toNat)=some (.int .i64 (rd t481 x7_1)):=hS_
      refine norm_ (a':=?_) ?_ ?_
      rotate_left
      ·simp only [putAll,Act.put,List.setIfInBounds_toArray,List.set_cons_zero,List.set_cons_succ]
       rfl
      refine one_ (i:=11) (N:=none) #[tt,tt,tt,tt,tt,tt,tt,tt,tt,tt,tt,tt,ff] rfl rfl (one_of HT_.out (by kernel_rfl)) (by decide) (fun K hK=>?_)
      have hs19:w18.cell? ⟨gb492,0,none⟩=some (.int .i64 0):=(blk_cell BK492.out 0).trans rfl
      have hfs19:=blk_frozen BK492.out 0
      have hns19_0:=NB485_492.out
      have hms19_0:=NB492_485.out
      have hs20:w18.cell? ⟨gb492,1,none⟩=some (.int .i64 0):=(blk_cell BK492.out 1).trans rfl
      have hfs20:=blk_frozen BK492.out 1
      have hns20_0:=NB485_492.out
      have hms20_0:=NB492_485.out
      refine skip_ (w1:=?_) (by rfl) rfl ?_ ?_
      rotate_left
      ·go_simp
       rfl
      refine hK.out _ _ ⟨((cell_far (p:=⟨gb492,_,none⟩) NB485_492.out _).trans (((cell_far (p:=⟨gb492,_,none⟩) NB485_492.out _).trans (hHeld.1)))),((cell_far (p:=⟨gb492,_,none⟩) NB485_492.out _).trans (((cell_far (p:=⟨gb492,_,none⟩) NB485_492.out _).trans (hHeld.2.1)))),((cell_far (p:=⟨gb492,_,none⟩) (by first|exact Kd.own_blk (Kd.R_ne HO_4.out BK492.out (by decide))|(rw [add_block];exact Kd.own_blk (Kd.R_ne HO_4.out BK492.out (by decide)))|(show(Addr.add _ _).block≠_;rw [add_block];exact Kd.own_blk (Kd.R_ne HO_4.out BK492.out (by decide)))|(dsimp only;exact Kd.own_blk (Kd.R_ne HO_4.out BK492.out (by decide)))) _).trans (((cell_far (p:=⟨gb492,_,none⟩) (by first|exact Kd.own_blk (Kd.R_ne HO_4.out BK492.out (by decide))|(rw [add_block];exact Kd.own_blk (Kd.R_ne HO_4.out BK492.out (by decide)))|(show(Addr.add _ _).block≠_;rw [add_block];exact Kd.own_blk (Kd.R_ne HO_4.out BK492.out (by decide)))|(dsimp only;exact Kd.own_blk (Kd.R_ne HO_4.out BK492.out (by decide)))) _).trans (hHeld.2.2))))⟩ (fun hHeld=>?_)
      clear hK K
      refine pure_ (i:=12) (N:=some 9) (v:=?_) (a':=?_) #[tt,tt,tt,tt,tt,tt,tt,tt,tt,tt,tt,tt,tt] rfl rfl (any_of HT_.out (by kernel_rfl)) (fun _ _ _ h=>h) (Or.inl ⟨by rfl,?_⟩) ?_ ?_
      rotate_left
      ·intro w'
       go_simp
       with_reducible rfl
      rotate_left
      ·simp only [Act.put,List.setIfInBounds_toArray,List.set_cons_zero,List.set_cons_succ,i64_w,i32_w]
       rfl
      refine done_ (done_of HT_.out (by kernel_rfl)) ?_
      have hnb21:=NB492_485.out
      have hnc21:=NB485_492.out
      have hcz22_0:w18.cell? ⟨gb492,0,none⟩=some (.int .i64 0):=(blk_cell BK492.out 0).trans rfl
      have hcz22_1:w18.cell? ⟨gb492,1,none⟩=some (.int .i64 0):=(blk_cell BK492.out 1).trans rfl
      have hfz22_0:=blk_frozen BK492.out 0
      have hfz22_1:=blk_frozen BK492.out 1
      have hcz23_0:w18.cell? ⟨gb485,0,none⟩=some (.int .i64 x486000_1):=(blk_cell BK485.out 0).trans rfl
      have hcz23_1:w18.cell? ⟨gb485,1,none⟩=some (.int .i64 x486001_1):=(blk_cell BK485.out 1).trans rfl
      have hfz23_0:=blk_frozen BK485.out 0
      have hfz23_1:=blk_frozen BK485.out 1
      try go_wp2
      go_roundg k1
      case measure=>have:=HK1.out;omega
      case rel=>exact⟨(wrap64 (x7_1+1)),(t489),(t490),(by first|rfl|(simp;done)|(simp [*];done)),H',⟨by have:=HK1.out;omega⟩,⟨by (with_reducible repeat (first|apply Kd.R_alloc|apply Kd.R_drewN|apply Kd.R_drew));exact Kd.R_mono (Kd.R_far (p:=⟨gb485,1,none⟩) (Kd.R_far (p:=⟨gb485,0,none⟩) (Kd.R_far (p:=⟨gb492,1,none⟩) (Kd.R_far (p:=⟨gb492,0,none⟩) (Kd.R_types (Kd.R_types HO_4.out BK492.out (by decide)) BK485.out (by decide)) (fun _ hk=>hk.1.2) (.int .i64 t489)) (fun _ hk=>hk.1.2) (.int .i64 t490)) (fun _ hk=>hk.2) (.int .i64 t489)) (fun _ hk=>hk.2) (.int .i64 t490)) (fun _ hk=>trivial)⟩,⟨by try refine bk ?_;refine blk_put (cs:=#[.int .i64 t489,.int .i64 x486001_1]) ?_ 1 _ rfl;try refine bk ?_;refine blk_put (cs:=#[.int .i64 x486000_1,.int .i64 x486001_1]) ?_ 0 _ rfl;try refine bk ?_;refine blk_far ?_ NB485_492.out _;try refine bk ?_;refine blk_far ?_ NB485_492.out _;try refine bk ?_;exact BK485.out⟩,⟨by repeat (first|with_reducible exact HB.out|exact bl HB|refine bs ?_ GE485|refine bs ?_ GE492)⟩⟩
     ·rw [if_neg c11] at H
      exact absurd H (by simp)
    ·rw [if_neg c10] at H
     have c10b0:decide (x7_1<(t481.length:Int))=false:=decide_eq_false c10
     clear c10
     replace H:=Option.bind_eq_some_iff.mp H
     obtain⟨⟨t493,t494,t495⟩,A240,H⟩:=H
     replace H:((outriggerref02_Of.f k1 (t481.length:Int)).bind fun bt497=>((outriggerref02_Add.f k1 t493 t494 bt497.1 bt497.2).bind fun bt499=>(outriggerref06_Mean.l1 k1 t481 t482 (-288230376151711744) 288230376151711744 bt499.1 bt499.2.1)))=some (r1,r2):=H
     have A24:=Aside0.mk A240
     clear A240
     replace H:=Option.bind_eq_some_iff.mp H
     obtain⟨⟨t497,t498⟩,A250,H⟩:=H
     replace H:((outriggerref02_Add.f k1 t493 t494 t497 t498).bind fun bt499=>(outriggerref06_Mean.l1 k1 t481 t482 (-288230376151711744) 288230376151711744 bt499.1 bt499.2.1))=some (r1,r2):=H
     have A25:=Aside0.mk A250
     clear A250
     replace H:=Option.bind_eq_some_iff.mp H
     obtain⟨⟨t499,t500,t501⟩,A260,H⟩:=H
     replace H:(outriggerref06_Mean.l1 k1 t481 t482 (-288230376151711744) 288230376151711744 t499 t500)=some (r1,r2):=H
     have A26:=Aside0.mk A260
     clear A260
     have H':=Aside0.mk H
     clear H
     have hcz27_0:wr.cell? ⟨gb485,0,none⟩=some (.int .i64 x486000_1):=(blk_cell BK485.out 0).trans rfl
     have hcz27_1:wr.cell? ⟨gb485,1,none⟩=some (.int .i64 x486001_1):=(blk_cell BK485.out 1).trans rfl
     have hfz27_0:=blk_frozen BK485.out 0
     have hfz27_1:=blk_frozen BK485.out 1
     try go_wp2_with (first|((with_reducible refine gate_callee (f:=58) rfl ?_);refine goesL_ (some 46) rfl rfl Try.func58 (by kernel_rfl) rfl #[.agg #[.int .i64 x486000_1,.int .i64 x486001_1],.agg #[.int .i64 x486000_1,.int .i64 x486001_1]] rfl (by exact mA _ _) ?_;(with_reducible refine(outriggerref02_Add.calls k1 x486000_1 x486001_1 x486000_1 x486001_1 t493 t494 t495 _ A24.out).mono ?_);rintro e w28 ⟨rfl,hb⟩;refine⟨_,rfl,?_⟩;have n0_:=Aside0.mk (Kd.R_below (by first|exact HO_4.out|exact kR HO_4.out) hb);have n1_:=Aside0.mk (blk_below (bk BK485.out) hb);have n2_:=Aside0.mk (below_step (by repeat (first|with_reducible exact HB.out|exact bl HB|refine bs ?_ GE485)) hb);clear HO_4;clear BK485;clear HB;have HO_4:=n0_;have BK485:=n1_;have HB:=n2_;clear n0_ n1_ n2_;(try clear hb);(try clear hb2);(try clear hk);(try clear hi))|((with_reducible refine gate_dst (N:=10) rfl ?_);refine box_event ?hg (N:=10) ?hd (cs:=#[.int .i64 0,.int .i64 0]) (t:=50) ?hr ?_;(case hd=>rfl);(case hg=>rfl);(case hr=>first|(go_simp;done)|(go_simp;rfl));intro gb496 hg w29 hbox hb;have n0_:=Aside0.mk (Kd.R_below (by first|exact HO_4.out|exact kR HO_4.out) hb);have n1_:=Aside0.mk (blk_below (bk BK485.out) hb);have n2_:=Aside0.mk (below_step (by repeat (first|with_reducible exact HB.out|exact bl HB|refine bs ?_ GE485)) hb);have n3_:=Aside0.mk (hbox);have n4_:=Aside0.mk ((by rw [hg];exact(below_size (by repeat (first|with_reducible exact HB.out|exact bl HB|refine bs ?_ GE485))):w.heap.size≤gb496));have n5_:=Aside0.mk ((by rw [hg];exact(below_size (by repeat (first|with_reducible exact HB.out|exact bl HB|refine bs ?_ GE485))):w.heap.size≤gb496));have n6_:=Aside0.mk ((by rw [hg];exact Nat.ne_of_lt (blk_lt (bk BK485.out)):gb485≠gb496));have n7_:=Aside0.mk ((by rw [hg];exact Nat.ne_of_gt (blk_lt (bk BK485.out)):gb496≠gb485));clear HO_4;clear BK485;clear HB;have HO_4:=n0_;have BK485:=n1_;have HB:=n2_;have BK496:=n3_;have GW496:=n4_;have GE496:=n5_;have NB485_496:=n6_;have NB496_485:=n7_;clear n0_ n1_ n2_ n3_ n4_ n5_ n6_ n7_;clear hb hbox hg;have hnb30:=NB496_485.out;have hnc30:=NB485_496.out;have hcz31_0:w29.cell? ⟨gb496,0,none⟩=some (.int .i64 0):=(blk_cell BK496.out 0).trans rfl;have hcz31_1:w29.cell? ⟨gb496,1,none⟩=some (.int .i64 0):=(blk_cell BK496.out 1).trans rfl;have hfz31_0:=blk_frozen BK496.out 0;have hfz31_1:=blk_frozen BK496.out 1))
     have n0_:Aside0 (Kd.R (Kd.int .i64) 3 ((w29.setCell ⟨gb496,0,none⟩ (.int .i64 t493)).setCell ⟨gb496,1,none⟩ (.int .i64 t494)) w.heap.size (fun _=>True) (.slice Ao7 t481.length co7) t481):=⟨by (with_reducible repeat (first|apply Kd.R_alloc|apply Kd.R_drewN|apply Kd.R_drew));exact Kd.R_mono (Kd.R_far (p:=⟨gb496,1,none⟩) (Kd.R_far (p:=⟨gb496,0,none⟩) (Kd.R_types HO_4.out BK496.out (by decide)) (fun _ hk=>hk.2) (.int .i64 t493)) (fun _ hk=>hk.2) (.int .i64 t494)) (fun _ hk=>trivial)⟩
     have n1_:Aside0 (((w29.setCell ⟨gb496,0,none⟩ (.int .i64 t493)).setCell ⟨gb496,1,none⟩ (.int .i64 t494)).heap[gb485]? = some (.cells #[.int .i64 x486000_1,.int .i64 x486001_1] 50 (0,0))):=⟨by try refine bk ?_;refine blk_far ?_ NB485_496.out _;try refine bk ?_;refine blk_far ?_ NB485_496.out _;try refine bk ?_;exact BK485.out⟩
     have n2_:Aside0 (((w29.setCell ⟨gb496,0,none⟩ (.int .i64 t493)).setCell ⟨gb496,1,none⟩ (.int .i64 t494)).heap[gb496]? = some (.cells #[.int .i64 t493,.int .i64 t494] 50 (0,0))):=⟨by try refine bk ?_;refine blk_put (cs:=#[.int .i64 t493,.int .i64 0]) ?_ 1 _ rfl;try refine bk ?_;refine blk_put (cs:=#[.int .i64 0,.int .i64 0]) ?_ 0 _ rfl;try refine bk ?_;exact BK496.out⟩
     have n3_:Aside0 (Below w.heap.size w ((w29.setCell ⟨gb496,0,none⟩ (.int .i64 t493)).setCell ⟨gb496,1,none⟩ (.int .i64 t494))):=⟨by repeat (first|with_reducible exact HB.out|exact bl HB|refine bs ?_ GE485|refine bs ?_ GE496)⟩
     (try clear HO_4)
     (try clear BK485)
     (try clear BK496)
     (try clear HB)
     generalize ((w29.setCell ⟨gb496,0,none⟩ (.int .i64 t493)).setCell ⟨gb496,1,none⟩ (.int .i64 t494))=w32 at n0_ n1_ n2_ n3_ ⊢
     have HO_4:=n0_
     have BK485:=n1_
     have BK496:=n2_
     have HB:=n3_
     clear n0_ n1_ n2_ n3_
     have n0_:=Aside0.mk (Kd.R_drew HO_4.out)
     have n1_:=Aside0.mk (blk_drew BK485.out)
     have n2_:=Aside0.mk (blk_drew BK496.out)
     have n3_:=Aside0.mk (below_drew1 HB.out)
     clear HO_4
     clear BK485
     clear BK496
     clear HB
     have HO_4:=n0_
     have BK485:=n1_
     have BK496:=n2_
     have HB:=n3_
     clear n0_ n1_ n2_ n3_
     refine start_ (n:=11) (S:=fun w'=>w'.cell? ⟨gb496,0,none⟩=some (.int .i64 t493)∧w'.cell? ⟨gb496,1,none⟩=some (.int .i64 t494)) (ds:=[]) #[ff,ff,ff,ff,ff,ff,ff,ff,ff,ff,ff] (by kernel_rfl) rfl rfl ⟨(blk_cell BK496.out 0).trans rfl,(blk_cell BK496.out 1).trans rfl⟩ (fun hHeld=>?_);refine with_tabW outriggerref06_Mean.tab11 outriggerref06_Mean.bits11 (fun HT_ HW_=>?_)
     generalize w32.drew=w33 at HO_4 BK485 BK496 HB hHeld ⊢
     refine pure_ (i:=1) (N:=some 51) (v:=?_) (a':=?_) #[ff,tt,ff,ff,ff,ff,ff,ff,ff,ff,ff] rfl rfl (any_of HT_.out (by kernel_rfl)) (fun _ _ _ h=>h) (Or.inl ⟨by rfl,?_⟩) ?_ ?_
     rotate_left
     ·intro w'
      go_simp
      with_reducible rfl
     rotate_left
     ·simp only [Act.put,List.setIfInBounds_toArray,List.set_cons_zero,List.set_cons_succ,i64_w,i32_w]
      rfl
     refine pure_ (i:=2) (N:=some 52) (v:=?_) (a':=?_) #[ff,tt,tt,ff,ff,ff,ff,ff,ff,ff,ff] rfl rfl (any_of HT_.out (by kernel_rfl)) (fun _ _ _ h=>h) (Or.inl ⟨by rfl,?_⟩) ?_ ?_
     rotate_left
     ·intro w'
      go_simp
      with_reducible rfl
     rotate_left
     ·simp only [Act.put,List.setIfInBounds_toArray,List.set_cons_zero,List.set_cons_succ,i64_w,i32_w]
      rfl
     refine take_ (i:=0) (N:=some 50) (v:=?_) (a':=?_) #[tt,tt,tt,ff,ff,ff,ff,ff,ff,ff,ff] rfl rfl (take_ofW HT_.out HW_.out (by kernel_rfl)) (fun _ _ _ h=>h) (Or.inl ⟨by rfl,?_⟩) hHeld ?_ ?_
     rotate_left
     ·rintro w' ⟨s0,s1⟩
      go_simp
      with_reducible rfl
     rotate_left
     ·simp only [Act.put,List.setIfInBounds_toArray,List.set_cons_zero,List.set_cons_succ,i64_w,i32_w]
      rfl
     refine join_ (σ:=Nat) 2 #[tt,tt,tt,tt,tt,tt,tt,tt,tt,ff,ff] (fun s_=>[(53,.agg #[.int .i64 t497,.int .i64 t498]),(54,.tuple #[.agg #[.int .i64 t499,.int .i64 t500],.bool t501]),(12,.pointer (some ⟨s_,0,none⟩)),(49,.tuple #[.agg #[.int .i64 t499,.int .i64 t500],.bool t501]),(55,.agg #[.int .i64 t499,.int .i64 t500]),(56,.bool t501)]) (fun s_ w'=>(w'.cell? ⟨gb496,0,none⟩=some (.int .i64 t493)∧w'.cell? ⟨gb496,1,none⟩=some (.int .i64 t494))∧(Kd.R (Kd.int .i64) 3 w' w.heap.size (fun _=>True) (.slice Ao7 t481.length co7) t481)∧(w'.heap[gb485]? = some (.cells #[.int .i64 x486000_1,.int .i64 x486001_1] 50 (0,0)))∧(w'.heap[gb496]? = some (.cells #[.int .i64 t493,.int .i64 t494] 50 (0,0)))∧(w'.heap[s_]? = some (.cells #[.int .i64 0,.int .i64 0] 50 (0,0)))∧(w.heap.size≤s_)∧(w.heap.size≤s_)∧(gb485≠s_)∧(s_≠gb485)∧(gb496≠s_)∧(s_≠gb496)∧(Below w.heap.size w w')) ?_ ?_
     rotate_left
     ·intro hCont
      refine two_ (i:=3) (j:=8) (Ni:=some 53) (Nj:=some 12) #[tt,tt,tt,tt,ff,ff,ff,ff,ff,ff,ff] #[tt,tt,tt,ff,ff,ff,ff,ff,tt,ff,ff] rfl rfl rfl rfl (two_of HT_.out (by kernel_rfl)) (by decide) (by decide) (fun K hK=>?_) (fun K hK=>?_)
      ·skip
       refine goes_ Try.func59 (by kernel_rfl) rfl #[.int .i64 (t481.length:Int)] (by rfl) rfl rfl (by exact mA _ _) ?_
       with_reducible refine(outriggerref02_Of.calls k1 (t481.length:Int) t497 t498 _ A25.out).mono ?_
       rintro e w34 ⟨rfl,hb⟩
       refine⟨_,rfl,?_⟩
       have n0_:=Aside0.mk (Kd.R_below (by first|exact HO_4.out|exact kR HO_4.out) hb)
       have n1_:=Aside0.mk (blk_below (bk BK485.out) hb)
       have n2_:=Aside0.mk (blk_below (bk BK496.out) hb)
       have n3_:=Aside0.mk (below_step (by repeat (first|with_reducible exact HB.out|exact bl HB|refine bs ?_ GE485|refine bs ?_ GE496)) hb)
       clear HO_4
       clear BK485
       clear BK496
       clear HB
       have HO_4:=n0_
       have BK485:=n1_
       have BK496:=n2_
       have HB:=n3_
       clear n0_ n1_ n2_ n3_
       (try clear hb)
       (try clear hb2)
       (try clear hk)
       (try clear hi)
       refine hK.out _ _ ⟨(blk_cell BK496.out 0).trans rfl,(blk_cell BK496.out 1).trans rfl⟩ (fun hHeld=>?_)
       clear hK K
       refine norm_ (a':=?_) ?_ ?_
       rotate_left
       ·show Act.put _ (some 53) _=_
        simp only [Act.put,List.setIfInBounds_toArray,List.set_cons_zero,List.set_cons_succ,i64_w,i32_w]
        rfl
       refine two_ (i:=4) (j:=8) (Ni:=some 54) (Nj:=some 12) #[tt,tt,tt,tt,tt,ff,ff,ff,ff,ff,ff] #[tt,tt,tt,tt,ff,ff,ff,ff,tt,ff,ff] rfl rfl rfl rfl (two_of HT_.out (by kernel_rfl)) (by decide) (by decide) (fun K hK=>?_) (fun K hK=>?_)
       ·skip
        refine goes_ Try.func58 (by kernel_rfl) rfl #[.agg #[.int .i64 t493,.int .i64 t494],.agg #[.int .i64 t497,.int .i64 t498]] (by rfl) rfl rfl (by exact mA _ _) ?_
        with_reducible refine(outriggerref02_Add.calls k1 t493 t494 t497 t498 t499 t500 t501 _ A26.out).mono ?_
        rintro e w35 ⟨rfl,hb⟩
        refine⟨_,rfl,?_⟩
        have n0_:=Aside0.mk (Kd.R_below (by first|exact HO_4.out|exact kR HO_4.out) hb)
        have n1_:=Aside0.mk (blk_below (bk BK485.out) hb)
        have n2_:=Aside0.mk (blk_below (bk BK496.out) hb)
        have n3_:=Aside0.mk (below_step (by repeat (first|with_reducible exact HB.out|exact bl HB|refine bs ?_ GE485|refine bs ?_ GE496)) hb)
        clear HO_4
        clear BK485
        clear BK496
        clear HB
        have HO_4:=n0_
        have BK485:=n1_
        have BK496:=n2_
        have HB:=n3_
        clear n0_ n1_ n2_ n3_
        (try clear hb)
        (try clear hb2)
        (try clear hk)
        (try clear hi)
        refine hK.out _ _ ⟨(blk_cell BK496.out 0).trans rfl,(blk_cell BK496.out 1).trans rfl⟩ (fun hHeld=>?_)
        clear hK K
        refine norm_ (a':=?_) ?_ ?_
        rotate_left
        ·show Act.put _ (some 54) _=_
         simp only [Act.put,List.setIfInBounds_toArray,List.set_cons_zero,List.set_cons_succ,i64_w,i32_w]
         rfl
        refine pure_ (i:=5) (N:=some 49) (v:=?_) (a':=?_) #[tt,tt,tt,tt,tt,tt,ff,ff,ff,ff,ff] rfl rfl (any_of HT_.out (by kernel_rfl)) (fun _ _ _ h=>h) (Or.inl ⟨by rfl,?_⟩) ?_ ?_
        rotate_left
        ·intro w'
         go_simp
         with_reducible rfl
        rotate_left
        ·simp only [Act.put,List.setIfInBounds_toArray,List.set_cons_zero,List.set_cons_succ,i64_w,i32_w]
         rfl
        refine pure_ (i:=6) (N:=some 55) (v:=?_) (a':=?_) #[tt,tt,tt,tt,tt,tt,tt,ff,ff,ff,ff] rfl rfl (any_of HT_.out (by kernel_rfl)) (fun _ _ _ h=>h) (Or.inl ⟨by rfl,?_⟩) ?_ ?_
        rotate_left
        ·intro w'
         go_simp
         with_reducible rfl
        rotate_left
        ·simp only [Act.put,List.setIfInBounds_toArray,List.set_cons_zero,List.set_cons_succ,i64_w,i32_w]
         rfl
        refine pure_ (i:=7) (N:=some 56) (v:=?_) (a':=?_) #[tt,tt,tt,tt,tt,tt,tt,tt,ff,ff,ff] rfl rfl (any_of HT_.out (by kernel_rfl)) (fun _ _ _ h=>h) (Or.inl ⟨by rfl,?_⟩) ?_ ?_
        rotate_left
        ·intro w'
         go_simp
         with_reducible rfl
        rotate_left
        ·simp only [Act.put,List.setIfInBounds_toArray,List.set_cons_zero,List.set_cons_succ,i64_w,i32_w]
         rfl
        refine one_ (i:=8) (N:=some 12) #[tt,tt,tt,tt,tt,tt,tt,tt,tt,ff,ff] rfl rfl (one_of HT_.out (by kernel_rfl)) (by decide) (fun K hK=>?_)
        refine box_step ?hg (N:=12) ?hd (cs:=#[.int .i64 0,.int .i64 0]) (t:=50) ?hr ?_;(case hd=>rfl);(case hg=>rfl);(case hr=>first|(go_simp;done)|(go_simp;rfl))
        intro gb502 hg w36 hbox hb
        have n0_:=Aside0.mk (Kd.R_below (by first|exact HO_4.out|exact kR HO_4.out) hb)
        have n1_:=Aside0.mk (blk_below (bk BK485.out) hb)
        have n2_:=Aside0.mk (blk_below (bk BK496.out) hb)
        have n3_:=Aside0.mk (below_step (by repeat (first|with_reducible exact HB.out|exact bl HB|refine bs ?_ GE485|refine bs ?_ GE496)) hb)
        have n4_:=Aside0.mk (hbox)
        have n5_:=Aside0.mk ((by rw [hg];exact(below_size (by repeat (first|with_reducible exact HB.out|exact bl HB|refine bs ?_ GE485|refine bs ?_ GE496))):w.heap.size≤gb502))
        have n6_:=Aside0.mk ((by rw [hg];exact(below_size (by repeat (first|with_reducible exact HB.out|exact bl HB|refine bs ?_ GE485|refine bs ?_ GE496))):w.heap.size≤gb502))
        have n7_:=Aside0.mk ((by rw [hg];exact Nat.ne_of_lt (blk_lt (bk BK485.out)):gb485≠gb502))
        have n8_:=Aside0.mk ((by rw [hg];exact Nat.ne_of_gt (blk_lt (bk BK485.out)):gb502≠gb485))
        have n9_:=Aside0.mk ((by rw [hg];exact Nat.ne_of_lt (blk_lt (bk BK496.out)):gb496≠gb502))
        have n10_:=Aside0.mk ((by rw [hg];exact Nat.ne_of_gt (blk_lt (bk BK496.out)):gb502≠gb496))
        clear HO_4
        clear BK485
        clear BK496
        clear HB
        have HO_4:=n0_
        have BK485:=n1_
        have BK496:=n2_
        have HB:=n3_
        have BK502:=n4_
        have GW502:=n5_
        have GE502:=n6_
        have NB485_502:=n7_
        have NB502_485:=n8_
        have NB496_502:=n9_
        have NB502_496:=n10_
        clear n0_ n1_ n2_ n3_ n4_ n5_ n6_ n7_ n8_ n9_ n10_
        clear hb hbox hg
        refine hK.out _ _ ⟨(blk_cell BK496.out 0).trans rfl,(blk_cell BK496.out 1).trans rfl⟩ (fun hHeld=>?_)
        clear hK K
        refine norm_ (a':=?_) ?_ ?_
        rotate_left
        ·show Act.put _ (some 12) _=_
         simp only [Act.put,List.setIfInBounds_toArray,List.set_cons_zero,List.set_cons_succ,i64_w,i32_w]
         rfl
        exact norm_ (by simp only [putAll,Act.put,List.setIfInBounds_toArray,List.set_cons_zero,List.set_cons_succ]) (hCont (gb502) _ ⟨hHeld,(by first|exact HO_4.out|exact kR HO_4.out),(bk BK485.out),(bk BK496.out),(bk BK502.out),GW502.out,GE502.out,NB485_502.out,NB502_485.out,NB496_502.out,NB502_496.out,(by repeat (first|with_reducible exact HB.out|exact bl HB|refine bs ?_ GE485|refine bs ?_ GE496|refine bs ?_ GE502))⟩)
       ·skip
        refine box_step ?hg (N:=12) ?hd (cs:=#[.int .i64 0,.int .i64 0]) (t:=50) ?hr ?_;(case hd=>rfl);(case hg=>rfl);(case hr=>first|(go_simp;done)|(go_simp;rfl))
        intro gb502 hg w35 hbox hb
        have n0_:=Aside0.mk (Kd.R_below (by first|exact HO_4.out|exact kR HO_4.out) hb)
        have n1_:=Aside0.mk (blk_below (bk BK485.out) hb)
        have n2_:=Aside0.mk (blk_below (bk BK496.out) hb)
        have n3_:=Aside0.mk (below_step (by repeat (first|with_reducible exact HB.out|exact bl HB|refine bs ?_ GE485|refine bs ?_ GE496)) hb)
        have n4_:=Aside0.mk (hbox)
        have n5_:=Aside0.mk ((by rw [hg];exact(below_size (by repeat (first|with_reducible exact HB.out|exact bl HB|refine bs ?_ GE485|refine bs ?_ GE496))):w.heap.size≤gb502))
        have n6_:=Aside0.mk ((by rw [hg];exact(below_size (by repeat (first|with_reducible exact HB.out|exact bl HB|refine bs ?_ GE485|refine bs ?_ GE496))):w.heap.size≤gb502))
        have n7_:=Aside0.mk ((by rw [hg];exact Nat.ne_of_lt (blk_lt (bk BK485.out)):gb485≠gb502))
        have n8_:=Aside0.mk ((by rw [hg];exact Nat.ne_of_gt (blk_lt (bk BK485.out)):gb502≠gb485))
        have n9_:=Aside0.mk ((by rw [hg];exact Nat.ne_of_lt (blk_lt (bk BK496.out)):gb496≠gb502))
        have n10_:=Aside0.mk ((by rw [hg];exact Nat.ne_of_gt (blk_lt (bk BK496.out)):gb502≠gb496))
        clear HO_4
        clear BK485
        clear BK496
        clear HB
        have HO_4:=n0_
        have BK485:=n1_
        have BK496:=n2_
        have HB:=n3_
        have BK502:=n4_
        have GW502:=n5_
        have GE502:=n6_
        have NB485_502:=n7_
        have NB502_485:=n8_
        have NB496_502:=n9_
        have NB502_496:=n10_
        clear n0_ n1_ n2_ n3_ n4_ n5_ n6_ n7_ n8_ n9_ n10_
        clear hb hbox hg
        refine hK.out _ _ ⟨(blk_cell BK496.out 0).trans rfl,(blk_cell BK496.out 1).trans rfl⟩ (fun hHeld=>?_)
        clear hK K
        refine norm_ (a':=?_) ?_ ?_
        rotate_left
        ·show Act.put _ (some 12) _=_
         simp only [Act.put,List.setIfInBounds_toArray,List.set_cons_zero,List.set_cons_succ,i64_w,i32_w]
         rfl
        refine one_ (i:=4) (N:=some 54) #[tt,tt,tt,tt,tt,ff,ff,ff,tt,ff,ff] rfl rfl (one_of HT_.out (by kernel_rfl)) (by decide) (fun K hK=>?_)
        refine goes_ Try.func58 (by kernel_rfl) rfl #[.agg #[.int .i64 t493,.int .i64 t494],.agg #[.int .i64 t497,.int .i64 t498]] (by rfl) rfl rfl (by exact mA _ _) ?_
        with_reducible refine(outriggerref02_Add.calls k1 t493 t494 t497 t498 t499 t500 t501 _ A26.out).mono ?_
        rintro e w36 ⟨rfl,hb⟩
        refine⟨_,rfl,?_⟩
        have n0_:=Aside0.mk (Kd.R_below (by first|exact HO_4.out|exact kR HO_4.out) hb)
        have n1_:=Aside0.mk (blk_below (bk BK485.out) hb)
        have n2_:=Aside0.mk (blk_below (bk BK496.out) hb)
        have n3_:=Aside0.mk (blk_below (bk BK502.out) hb)
        have n4_:=Aside0.mk (below_step (by repeat (first|with_reducible exact HB.out|exact bl HB|refine bs ?_ GE485|refine bs ?_ GE496|refine bs ?_ GE502)) hb)
        clear HO_4
        clear BK485
        clear BK496
        clear BK502
        clear HB
        have HO_4:=n0_
        have BK485:=n1_
        have BK496:=n2_
        have BK502:=n3_
        have HB:=n4_
        clear n0_ n1_ n2_ n3_ n4_
        (try clear hb)
        (try clear hb2)
        (try clear hk)
        (try clear hi)
        refine hK.out _ _ ⟨(blk_cell BK496.out 0).trans rfl,(blk_cell BK496.out 1).trans rfl⟩ (fun hHeld=>?_)
        clear hK K
        refine norm_ (a':=?_) ?_ ?_
        rotate_left
        ·show Act.put _ (some 54) _=_
         simp only [Act.put,List.setIfInBounds_toArray,List.set_cons_zero,List.set_cons_succ,i64_w,i32_w]
         rfl
        refine pure_ (i:=5) (N:=some 49) (v:=?_) (a':=?_) #[tt,tt,tt,tt,tt,tt,ff,ff,tt,ff,ff] rfl rfl (any_of HT_.out (by kernel_rfl)) (fun _ _ _ h=>h) (Or.inl ⟨by rfl,?_⟩) ?_ ?_
        rotate_left
        ·intro w'
         go_simp
         with_reducible rfl
        rotate_left
        ·simp only [Act.put,List.setIfInBounds_toArray,List.set_cons_zero,List.set_cons_succ,i64_w,i32_w]
         rfl
        refine pure_ (i:=6) (N:=some 55) (v:=?_) (a':=?_) #[tt,tt,tt,tt,tt,tt,tt,ff,tt,ff,ff] rfl rfl (any_of HT_.out (by kernel_rfl)) (fun _ _ _ h=>h) (Or.inl ⟨by rfl,?_⟩) ?_ ?_
        rotate_left
        ·intro w'
         go_simp
         with_reducible rfl
        rotate_left
        ·simp only [Act.put,List.setIfInBounds_toArray,List.set_cons_zero,List.set_cons_succ,i64_w,i32_w]
         rfl
        refine pure_ (i:=7) (N:=some 56) (v:=?_) (a':=?_) #[tt,tt,tt,tt,tt,tt,tt,tt,tt,ff,ff] rfl rfl (any_of HT_.out (by kernel_rfl)) (fun _ _ _ h=>h) (Or.inl ⟨by rfl,?_⟩) ?_ ?_
        rotate_left
        ·intro w'
         go_simp
         with_reducible rfl
        rotate_left
        ·simp only [Act.put,List.setIfInBounds_toArray,List.set_cons_zero,List.set_cons_succ,i64_w,i32_w]
         rfl
        exact norm_ (by simp only [putAll,Act.put,List.setIfInBounds_toArray,List.set_cons_zero,List.set_cons_succ]) (hCont (gb502) _ ⟨hHeld,(by first|exact HO_4.out|exact kR HO_4.out),(bk BK485.out),(bk BK496.out),(bk BK502.out),GW502.out,GE502.out,NB485_502.out,NB502_485.out,NB496_502.out,NB502_496.out,(by repeat (first|with_reducible exact HB.out|exact bl HB|refine bs ?_ GE485|refine bs ?_ GE496|refine bs ?_ GE502))⟩)
      ·skip
       refine box_step ?hg (N:=12) ?hd (cs:=#[.int .i64 0,.int .i64 0]) (t:=50) ?hr ?_;(case hd=>rfl);(case hg=>rfl);(case hr=>first|(go_simp;done)|(go_simp;rfl))
       intro gb502 hg w34 hbox hb
       have n0_:=Aside0.mk (Kd.R_below (by first|exact HO_4.out|exact kR HO_4.out) hb)
       have n1_:=Aside0.mk (blk_below (bk BK485.out) hb)
       have n2_:=Aside0.mk (blk_below (bk BK496.out) hb)
       have n3_:=Aside0.mk (below_step (by repeat (first|with_reducible exact HB.out|exact bl HB|refine bs ?_ GE485|refine bs ?_ GE496)) hb)
       have n4_:=Aside0.mk (hbox)
       have n5_:=Aside0.mk ((by rw [hg];exact(below_size (by repeat (first|with_reducible exact HB.out|exact bl HB|refine bs ?_ GE485|refine bs ?_ GE496))):w.heap.size≤gb502))
       have n6_:=Aside0.mk ((by rw [hg];exact(below_size (by repeat (first|with_reducible exact HB.out|exact bl HB|refine bs ?_ GE485|refine bs ?_ GE496))):w.heap.size≤gb502))
       have n7_:=Aside0.mk ((by rw [hg];exact Nat.ne_of_lt (blk_lt (bk BK485.out)):gb485≠gb502))
       have n8_:=Aside0.mk ((by rw [hg];exact Nat.ne_of_gt (blk_lt (bk BK485.out)):gb502≠gb485))
       have n9_:=Aside0.mk ((by rw [hg];exact Nat.ne_of_lt (blk_lt (bk BK496.out)):gb496≠gb502))
       have n10_:=Aside0.mk ((by rw [hg];exact Nat.ne_of_gt (blk_lt (bk BK496.out)):gb502≠gb496))
       clear HO_4
       clear BK485
       clear BK496
       clear HB
       have HO_4:=n0_
       have BK485:=n1_
       have BK496:=n2_
       have HB:=n3_
       have BK502:=n4_
       have GW502:=n5_
       have GE502:=n6_
       have NB485_502:=n7_
       have NB502_485:=n8_
       have NB496_502:=n9_
       have NB502_496:=n10_
       clear n0_ n1_ n2_ n3_ n4_ n5_ n6_ n7_ n8_ n9_ n10_
       clear hb hbox hg
       refine hK.out _ _ ⟨(blk_cell BK496.out 0).trans rfl,(blk_cell BK496.out 1).trans rfl⟩ (fun hHeld=>?_)
       clear hK K
       refine norm_ (a':=?_) ?_ ?_
       rotate_left
       ·show Act.put _ (some 12) _=_
        simp only [Act.put,List.setIfInBounds_toArray,List.set_cons_zero,List.set_cons_succ,i64_w,i32_w]
        rfl
       refine one_ (i:=3) (N:=some 53) #[tt,tt,tt,tt,ff,ff,ff,ff,tt,ff,ff] rfl rfl (one_of HT_.out (by kernel_rfl)) (by decide) (fun K hK=>?_)
       refine goes_ Try.func59 (by kernel_rfl) rfl #[.int .i64 (t481.length:Int)] (by rfl) rfl rfl (by exact mA _ _) ?_
       with_reducible refine(outriggerref02_Of.calls k1 (t481.length:Int) t497 t498 _ A25.out).mono ?_
       rintro e w35 ⟨rfl,hb⟩
       refine⟨_,rfl,?_⟩
       have n0_:=Aside0.mk (Kd.R_below (by first|exact HO_4.out|exact kR HO_4.out) hb)
       have n1_:=Aside0.mk (blk_below (bk BK485.out) hb)
       have n2_:=Aside0.mk (blk_below (bk BK496.out) hb)
       have n3_:=Aside0.mk (blk_below (bk BK502.out) hb)
       have n4_:=Aside0.mk (below_step (by repeat (first|with_reducible exact HB.out|exact bl HB|refine bs ?_ GE485|refine bs ?_ GE496|refine bs ?_ GE502)) hb)
       clear HO_4
       clear BK485
       clear BK496
       clear BK502
       clear HB
       have HO_4:=n0_
       have BK485:=n1_
       have BK496:=n2_
       have BK502:=n3_
       have HB:=n4_
       clear n0_ n1_ n2_ n3_ n4_
       (try clear hb)
       (try clear hb2)
       (try clear hk)
       (try clear hi)
       refine hK.out _ _ ⟨(blk_cell BK496.out 0).trans rfl,(blk_cell BK496.out 1).trans rfl⟩ (fun hHeld=>?_)
       clear hK K
       refine norm_ (a':=?_) ?_ ?_
       rotate_left
       ·show Act.put _ (some 53) _=_
        simp only [Act.put,List.setIfInBounds_toArray,List.set_cons_zero,List.set_cons_succ,i64_w,i32_w]
        rfl
       refine one_ (i:=4) (N:=some 54) #[tt,tt,tt,tt,tt,ff,ff,ff,tt,ff,ff] rfl rfl (one_of HT_.out (by kernel_rfl)) (by decide) (fun K hK=>?_)
       refine goes_ Try.func58 (by kernel_rfl) rfl #[.agg #[.int .i64 t493,.int .i64 t494],.agg #[.int .i64 t497,.int .i64 t498]] (by rfl) rfl rfl (by exact mA _ _) ?_
       with_reducible refine(outriggerref02_Add.calls k1 t493 t494 t497 t498 t499 t500 t501 _ A26.out).mono ?_
       rintro e w36 ⟨rfl,hb⟩
       refine⟨_,rfl,?_⟩
       have n0_:=Aside0.mk (Kd.R_below (by first|exact HO_4.out|exact kR HO_4.out) hb)
       have n1_:=Aside0.mk (blk_below (bk BK485.out) hb)
       have n2_:=Aside0.mk (blk_below (bk BK496.out) hb)
       have n3_:=Aside0.mk (blk_below (bk BK502.out) hb)
       have n4_:=Aside0.mk (below_step (by repeat (first|with_reducible exact HB.out|exact bl HB|refine bs ?_ GE485|refine bs ?_ GE496|refine bs ?_ GE502)) hb)
       clear HO_4
       clear BK485
       clear BK496
       clear BK502
       clear HB
       have HO_4:=n0_
       have BK485:=n1_
       have BK496:=n2_
       have BK502:=n3_
       have HB:=n4_
       clear n0_ n1_ n2_ n3_ n4_
       (try clear hb)
       (try clear hb2)
       (try clear hk)
       (try clear hi)
       refine hK.out _ _ ⟨(blk_cell BK496.out 0).trans rfl,(blk_cell BK496.out 1).trans rfl⟩ (fun hHeld=>?_)
       clear hK K
       refine norm_ (a':=?_) ?_ ?_
       rotate_left
       ·show Act.put _ (some 54) _=_
        simp only [Act.put,List.setIfInBounds_toArray,List.set_cons_zero,List.set_cons_succ,i64_w,i32_w]
        rfl
       refine pure_ (i:=5) (N:=some 49) (v:=?_) (a':=?_) #[tt,tt,tt,tt,tt,tt,ff,ff,tt,ff,ff] rfl rfl (any_of HT_.out (by kernel_rfl)) (fun _ _ _ h=>h) (Or.inl ⟨by rfl,?_⟩) ?_ ?_
       rotate_left
       ·intro w'
        go_simp
        with_reducible rfl
       rotate_left
       ·simp only [Act.put,List.setIfInBounds_toArray,List.set_cons_zero,List.set_cons_succ,i64_w,i32_w]
        rfl
       refine pure_ (i:=6) (N:=some 55) (v:=?_) (a':=?_) #[tt,tt,tt,tt,tt,tt,tt,ff,tt,ff,ff] rfl rfl (any_of HT_.out (by kernel_rfl)) (fun _ _ _ h=>h) (Or.inl ⟨by rfl,?_⟩) ?_ ?_
       rotate_left
       ·intro w'
        go_simp
        with_reducible rfl
       rotate_left
       ·simp only [Act.put,List.setIfInBounds_toArray,List.set_cons_zero,List.set_cons_succ,i64_w,i32_w]
        rfl
       refine pure_ (i:=7) (N:=some 56) (v:=?_) (a':=?_) #[tt,tt,tt,tt,tt,tt,tt,tt,tt,ff,ff] rfl rfl (any_of HT_.out (by kernel_rfl)) (fun _ _ _ h=>h) (Or.inl ⟨by rfl,?_⟩) ?_ ?_
       rotate_left
       ·intro w'
        go_simp
        with_reducible rfl
       rotate_left
       ·simp only [Act.put,List.setIfInBounds_toArray,List.set_cons_zero,List.set_cons_succ,i64_w,i32_w]
        rfl
       exact norm_ (by simp only [putAll,Act.put,List.setIfInBounds_toArray,List.set_cons_zero,List.set_cons_succ]) (hCont (gb502) _ ⟨hHeld,(by first|exact HO_4.out|exact kR HO_4.out),(bk BK485.out),(bk BK496.out),(bk BK502.out),GW502.out,GE502.out,NB485_502.out,NB502_485.out,NB496_502.out,NB502_496.out,(by repeat (first|with_reducible exact HB.out|exact bl HB|refine bs ?_ GE485|refine bs ?_ GE496|refine bs ?_ GE502))⟩)
     rintro gb502 w37 ⟨hS_,h0_,h1_,h2_,h3_,h4_,h5_,h6_,h7_,h8_,h9_,h10_⟩
     have n0_:Aside0 (Kd.R (Kd.int .i64) 3 w37 w.heap.size (fun _=>True) (.slice Ao7 t481.length co7) t481):=⟨h0_⟩
     have n1_:Aside0 (w37.heap[gb485]? = some (.cells #[.int .i64 x486000_1,.int .i64 x486001_1] 50 (0,0))):=⟨h1_⟩
     have n2_:Aside0 (w37.heap[gb496]? = some (.cells #[.int .i64 t493,.int .i64 t494] 50 (0,0))):=⟨h2_⟩
     have n3_:Aside0 (w37.heap[gb502]? = some (.cells #[.int .i64 0,.int .i64 0] 50 (0,0))):=⟨h3_⟩
     have n4_:Aside0 (w.heap.size≤gb502):=⟨h4_⟩
     have n5_:Aside0 (w.heap.size≤gb502):=⟨h5_⟩
     have n6_:Aside0 (gb485≠gb502):=⟨h6_⟩
     have n7_:Aside0 (gb502≠gb485):=⟨h7_⟩
     have n8_:Aside0 (gb496≠gb502):=⟨h8_⟩
     have n9_:Aside0 (gb502≠gb496):=⟨h9_⟩
     have n10_:Aside0 (Below w.heap.size w w37):=⟨h10_⟩
     clear HO_4
     clear BK485
     clear BK496
     clear HB
     clear h0_ h1_ h2_ h3_ h4_ h5_ h6_ h7_ h8_ h9_ h10_
     have HO_4:=n0_
     have BK485:=n1_
     have BK496:=n2_
     have BK502:=n3_
     have GW502:=n4_
     have GE502:=n5_
     have NB485_502:=n6_
     have NB502_485:=n7_
     have NB496_502:=n8_
     have NB502_496:=n9_
     have HB:=n10_
     clear n0_ n1_ n2_ n3_ n4_ n5_ n6_ n7_ n8_ n9_ n10_
     have hHeld:w37.cell? ⟨gb496,0,none⟩=some (.int .i64 t493)∧w37.cell? ⟨gb496,1,none⟩=some (.int .i64 t494):=hS_
     refine norm_ (a':=?_) ?_ ?_
     rotate_left
     ·simp only [putAll,Act.put,List.setIfInBounds_toArray,List.set_cons_zero,List.set_cons_succ]
      rfl
     refine one_ (i:=9) (N:=none) #[tt,tt,tt,tt,tt,tt,tt,tt,tt,tt,ff] rfl rfl (one_of HT_.out (by kernel_rfl)) (by decide) (fun K hK=>?_)
     have hs38:w37.cell? ⟨gb502,0,none⟩=some (.int .i64 0):=(blk_cell BK502.out 0).trans rfl
     have hfs38:=blk_frozen BK502.out 0
     have hns38_0:=NB485_502.out
     have hns38_1:=NB496_502.out
     have hms38_0:=NB502_485.out
     have hms38_1:=NB502_496.out
     have hs39:w37.cell? ⟨gb502,1,none⟩=some (.int .i64 0):=(blk_cell BK502.out 1).trans rfl
     have hfs39:=blk_frozen BK502.out 1
     have hns39_0:=NB485_502.out
     have hns39_1:=NB496_502.out
     have hms39_0:=NB502_485.out
     have hms39_1:=NB502_496.out
     refine skip_ (w1:=?_) (by rfl) rfl ?_ ?_
     rotate_left
     ·go_simp
      rfl
     refine hK.out _ _ ⟨((cell_far (p:=⟨gb502,_,none⟩) NB496_502.out _).trans (((cell_far (p:=⟨gb502,_,none⟩) NB496_502.out _).trans (hHeld.1)))),((cell_far (p:=⟨gb502,_,none⟩) NB496_502.out _).trans (((cell_far (p:=⟨gb502,_,none⟩) NB496_502.out _).trans (hHeld.2))))⟩ (fun hHeld=>?_)
     clear hK K
     refine pure_ (i:=10) (N:=some 13) (v:=?_) (a':=?_) #[tt,tt,tt,tt,tt,tt,tt,tt,tt,tt,tt] rfl rfl (any_of HT_.out (by kernel_rfl)) (fun _ _ _ h=>h) (Or.inl ⟨by rfl,?_⟩) ?_ ?_
     rotate_left
     ·intro w'
      go_simp
      with_reducible rfl
     rotate_left
     ·simp only [Act.put,List.setIfInBounds_toArray,List.set_cons_zero,List.set_cons_succ,i64_w,i32_w]
      rfl
     refine done_ (done_of HT_.out (by kernel_rfl)) ?_
     try go_wp2
     go_loopg [14,15] k1 (fun kq v14 v15 w'=>∃ (x14_2:Int) (x15_2:Int),v14=.int .i64 x14_2∧v15=.int .i64 x15_2∧Aside0 (outriggerref06_Mean.l1 kq t481 t482 x14_2 x15_2 t499 t500=some (r1,r2))∧Aside0 (kq≤k1)∧Aside0 (Kd.R (Kd.int .i64) 3 w' w.heap.size (fun _=>True) (.slice Ao7 t481.length co7) t481)∧Aside0 (w'.heap[gb485]? = some (.cells #[.int .i64 x486000_1,.int .i64 x486001_1] 50 (0,0)))∧Aside0 (w'.heap[gb496]? = some (.cells #[.int .i64 t493,.int .i64 t494] 50 (0,0)))∧Aside0 (w'.heap[gb502]? = some (.cells #[.int .i64 t499,.int .i64 t500] 50 (0,0)))∧Aside0 (Below w.heap.size w w'))
     case atStart=>exact⟨((-288230376151711744)),(288230376151711744),(by first|rfl|(simp;done)|(simp [*];done)),(by first|rfl|(simp;done)|(simp [*];done)),H',⟨Nat.le_refl _⟩,⟨by (with_reducible repeat (first|apply Kd.R_alloc|apply Kd.R_drewN|apply Kd.R_drew));exact Kd.R_mono (Kd.R_far (p:=⟨gb502,1,none⟩) (Kd.R_far (p:=⟨gb502,0,none⟩) (Kd.R_types HO_4.out BK502.out (by decide)) (fun _ hk=>hk.2) (.int .i64 t499)) (fun _ hk=>hk.2) (.int .i64 t500)) (fun _ hk=>trivial)⟩,⟨by try refine bk ?_;refine blk_far ?_ NB485_502.out _;try refine bk ?_;refine blk_far ?_ NB485_502.out _;try refine bk ?_;exact BK485.out⟩,⟨by try refine bk ?_;refine blk_far ?_ NB496_502.out _;try refine bk ?_;refine blk_far ?_ NB496_502.out _;try refine bk ?_;exact BK496.out⟩,⟨by try refine bk ?_;refine blk_put (cs:=#[.int .i64 t499,.int .i64 0]) ?_ 1 _ rfl;try refine bk ?_;refine blk_put (cs:=#[.int .i64 0,.int .i64 0]) ?_ 0 _ rfl;try refine bk ?_;exact BK502.out⟩,⟨by repeat (first|with_reducible exact HB.out|exact bl HB|refine bs ?_ GE485|refine bs ?_ GE496|refine bs ?_ GE502)⟩⟩
     case round =>
      clear H'
      try clear c1
      try clear c2
      try clear p2
      try clear c3
      try clear c5
      try clear p6
      try clear c10
      try clear c10b0
      try clear c11
      try clear c21
      try clear c30
      try clear hcz22_0
      try clear hcz22_1
      try clear hcz23_0
      try clear hcz23_1
      try clear hcz27_0
      try clear hcz27_1
      try clear hcz31_0
      try clear hcz31_1
      try clear hfz22_0
      try clear hfz22_1
      try clear hfz23_0
      try clear hfz23_1
      try clear hfz27_0
      try clear hfz27_1
      try clear hfz31_0
      try clear hfz31_1
      obtain⟨x14_2,x15_2,rfl,rfl,HA,HK2,HO_4,BK485,BK496,BK502,HB⟩:=hrel
      cases gk with
      | zero=>exact absurd HA.out (by simp [outriggerref06_Mean.l1])
      | succ k2 =>
       have H:=HA.out
       clear HA
       simp only [outriggerref06_Mean.l1] at H
       by_cases c40:x14_2<x15_2
       ·rw [if_pos c40] at H
        have c40b0:decide (x14_2<x15_2)=true:=decide_eq_true c40
        clear c40
        replace H:=Option.bind_eq_some_iff.mp H
        obtain⟨⟨t503,t504⟩,A410,H⟩:=H
        replace H:((outriggerref02_Compare.f k2 t503 t504 t499 t500).bind fun t505=>(if t505≤0 then (outriggerref06_Mean.l1 k2 t481 t482 (wrap64 (x15_2-(wrap64 (Int.tdiv (wrap64 (x15_2-x14_2)) 2)))) x15_2 t499 t500) else (outriggerref06_Mean.l1 k2 t481 t482 x14_2 (wrap64 ((wrap64 (x15_2-(wrap64 (Int.tdiv (wrap64 (x15_2-x14_2)) 2))))-1)) t499 t500)))=some (r1,r2):=H
        have A41:=Aside0.mk A410
        clear A410
        replace H:=Option.bind_eq_some_iff.mp H
        obtain⟨t505,A420,H⟩:=H
        replace H:(if t505≤0 then (outriggerref06_Mean.l1 k2 t481 t482 (wrap64 (x15_2-(wrap64 (Int.tdiv (wrap64 (x15_2-x14_2)) 2)))) x15_2 t499 t500) else (outriggerref06_Mean.l1 k2 t481 t482 x14_2 (wrap64 ((wrap64 (x15_2-(wrap64 (Int.tdiv (wrap64 (x15_2-x14_2)) 2))))-1)) t499 t500))=some (r1,r2):=H
        have A42:=Aside0.mk A420
        clear A420
        by_cases c43:t505≤0
        ·rw [if_pos c43] at H
         have c43b0:decide (t505≤0)=true:=decide_eq_true c43
         clear c43
         have H':=Aside0.mk H
         clear H
         try go_wp2
         have n0_:=Aside0.mk (Kd.R_drew HO_4.out)
         have n1_:=Aside0.mk (blk_drew BK485.out)
         have n2_:=Aside0.mk (blk_drew BK496.out)
         have n3_:=Aside0.mk (blk_drew BK502.out)
         have n4_:=Aside0.mk (below_drew1 HB.out)
         clear HO_4
         clear BK485
         clear BK496
         clear BK502
         clear HB
         have HO_4:=n0_
         have BK485:=n1_
         have BK496:=n2_
         have BK502:=n3_
         have HB:=n4_
         clear n0_ n1_ n2_ n3_ n4_
         refine start_ (n:=8) (S:=fun w'=>w'.cell? ⟨gb502,0,none⟩=some (.int .i64 t499)∧w'.cell? ⟨gb502,1,none⟩=some (.int .i64 t500)) (ds:=[]) #[ff,ff,ff,ff,ff,ff,ff,ff] (by kernel_rfl) rfl rfl ⟨(blk_cell BK502.out 0).trans rfl,(blk_cell BK502.out 1).trans rfl⟩ (fun hHeld=>?_);refine with_tabW outriggerref06_Mean.tab16 outriggerref06_Mean.bits16 (fun HT_ HW_=>?_)
         generalize wr.drew=w44 at HO_4 BK485 BK496 BK502 HB hHeld ⊢
         refine pure_ (i:=0) (N:=some 66) (v:=?_) (a':=?_) #[tt,ff,ff,ff,ff,ff,ff,ff] rfl rfl (any_of HT_.out (by kernel_rfl)) (fun _ _ _ h=>h) (Or.inl ⟨by rfl,?_⟩) ?_ ?_
         rotate_left
         ·intro w'
          go_simp
          with_reducible rfl
         rotate_left
         ·simp only [Act.put,List.setIfInBounds_toArray,List.set_cons_zero,List.set_cons_succ,i64_w,i32_w]
          rfl
         refine pure_ (i:=1) (N:=some 67) (v:=?_) (a':=?_) #[tt,tt,ff,ff,ff,ff,ff,ff] rfl rfl (any_of HT_.out (by kernel_rfl)) (fun _ _ _ h=>h) (Or.inl ⟨by rfl,?_⟩) ?_ ?_
         rotate_left
         ·intro w'
          go_simp
          with_reducible rfl
         rotate_left
         ·simp only [Act.put,List.setIfInBounds_toArray,List.set_cons_zero,List.set_cons_succ,i64_w,i32_w]
          rfl
         refine pure_ (i:=2) (N:=some 68) (v:=?_) (a':=?_) #[tt,tt,tt,ff,ff,ff,ff,ff] rfl rfl (any_of HT_.out (by kernel_rfl)) (fun _ _ _ h=>h) (Or.inl ⟨by rfl,?_⟩) ?_ ?_
         rotate_left
         ·intro w'
          go_simp
          with_reducible rfl
         rotate_left
         ·simp only [Act.put,List.setIfInBounds_toArray,List.set_cons_zero,List.set_cons_succ,i64_w,i32_w]
          rfl
         refine pure_ (i:=3) (N:=some 69) (v:=?_) (a':=?_) #[tt,tt,tt,tt,ff,ff,ff,ff] rfl rfl (any_of HT_.out (by kernel_rfl)) (fun _ _ _ h=>h) (Or.inl ⟨by rfl,?_⟩) ?_ ?_
         rotate_left
         ·intro w'
          go_simp
          with_reducible rfl
         rotate_left
         ·simp only [Act.put,List.setIfInBounds_toArray,List.set_cons_zero,List.set_cons_succ,i64_w,i32_w]
          rfl
         refine take_ (i:=5) (N:=some 71) (v:=?_) (a':=?_) #[tt,tt,tt,tt,ff,tt,ff,ff] rfl rfl (take_ofW HT_.out HW_.out (by kernel_rfl)) (fun _ _ _ h=>h) (Or.inl ⟨by rfl,?_⟩) hHeld ?_ ?_
         rotate_left
         ·rintro w' ⟨s0,s1⟩
          go_simp
          with_reducible rfl
         rotate_left
         ·simp only [Act.put,List.setIfInBounds_toArray,List.set_cons_zero,List.set_cons_succ,i64_w,i32_w]
          rfl
         refine one_ (i:=4) (N:=some 70) #[tt,tt,tt,tt,tt,tt,ff,ff] rfl rfl (one_of HT_.out (by kernel_rfl)) (by decide) (fun K hK=>?_)
         refine goes_ Try.func61 (by kernel_rfl) rfl #[.int .i64 (wrap64 (2*(t481.length:Int))),.int .i64 (wrap64 (x15_2-(wrap64 (Int.tdiv (wrap64 (x15_2-x14_2)) 2))))] (by rfl) rfl rfl (by exact mA _ _) ?_
         with_reducible refine(outriggerref02_Mul.calls (wrap64 (2*(t481.length:Int))) (wrap64 (x15_2-(wrap64 (Int.tdiv (wrap64 (x15_2-x14_2)) 2)))) t503 t504 _ A41.out).mono ?_
         rintro e w45 ⟨rfl,hb⟩
         refine⟨_,rfl,?_⟩
         have n0_:=Aside0.mk (Kd.R_below (by first|exact HO_4.out|exact kR HO_4.out) hb)
         have n1_:=Aside0.mk (blk_below (bk BK485.out) hb)
         have n2_:=Aside0.mk (blk_below (bk BK496.out) hb)
         have n3_:=Aside0.mk (blk_below (bk BK502.out) hb)
         have n4_:=Aside0.mk (below_step (by repeat (first|with_reducible exact HB.out|exact bl HB|refine bs ?_ GE485|refine bs ?_ GE496|refine bs ?_ GE502)) hb)
         clear HO_4
         clear BK485
         clear BK496
         clear BK502
         clear HB
         have HO_4:=n0_
         have BK485:=n1_
         have BK496:=n2_
         have BK502:=n3_
         have HB:=n4_
         clear n0_ n1_ n2_ n3_ n4_
         (try clear hb)
         (try clear hb2)
         (try clear hk)
         (try clear hi)
         refine hK.out _ _ ⟨(blk_cell BK502.out 0).trans rfl,(blk_cell BK502.out 1).trans rfl⟩ (fun hHeld=>?_)
         clear hK K
         refine norm_ (a':=?_) ?_ ?_
         rotate_left
         ·show Act.put _ (some 70) _=_
          simp only [Act.put,List.setIfInBounds_toArray,List.set_cons_zero,List.set_cons_succ,i64_w,i32_w]
          rfl
         refine one_ (i:=6) (N:=some 72) #[tt,tt,tt,tt,tt,tt,tt,ff] rfl rfl (one_of HT_.out (by kernel_rfl)) (by decide) (fun K hK=>?_)
         refine goes_ Try.func60 (by kernel_rfl) rfl #[.agg #[.int .i64 t503,.int .i64 t504],.agg #[.int .i64 t499,.int .i64 t500]] (by rfl) rfl rfl (by exact mA _ _) ?_
         with_reducible refine(outriggerref02_Compare.calls k2 t503 t504 t499 t500 t505 _ A42.out).mono ?_
         rintro e w46 ⟨rfl,hb⟩
         refine⟨_,rfl,?_⟩
         have n0_:=Aside0.mk (Kd.R_below (by first|exact HO_4.out|exact kR HO_4.out) hb)
         have n1_:=Aside0.mk (blk_below (bk BK485.out) hb)
         have n2_:=Aside0.mk (blk_below (bk BK496.out) hb)
         have n3_:=Aside0.mk (blk_below (bk BK502.out) hb)
         have n4_:=Aside0.mk (below_step (by repeat (first|with_reducible exact HB.out|exact bl HB|refine bs ?_ GE485|refine bs ?_ GE496|refine bs ?_ GE502)) hb)
         clear HO_4
         clear BK485
         clear BK496
         clear BK502
         clear HB
         have HO_4:=n0_
         have BK485:=n1_
         have BK496:=n2_
         have BK502:=n3_
         have HB:=n4_
         clear n0_ n1_ n2_ n3_ n4_
         (try clear hb)
         (try clear hb2)
         (try clear hk)
         (try clear hi)
         refine hK.out _ _ ⟨(blk_cell BK502.out 0).trans rfl,(blk_cell BK502.out 1).trans rfl⟩ (fun hHeld=>?_)
         clear hK K
         refine norm_ (a':=?_) ?_ ?_
         rotate_left
         ·show Act.put _ (some 72) _=_
          simp only [Act.put,List.setIfInBounds_toArray,List.set_cons_zero,List.set_cons_succ,i64_w,i32_w]
          rfl
         refine pure_ (i:=7) (N:=some 73) (v:=?_) (a':=?_) #[tt,tt,tt,tt,tt,tt,tt,tt] rfl rfl (any_of HT_.out (by kernel_rfl)) (fun _ _ _ h=>h) (Or.inl ⟨by rfl,?_⟩) ?_ ?_
         rotate_left
         ·intro w'
          go_simp
          with_reducible rfl
         rotate_left
         ·simp only [Act.put,List.setIfInBounds_toArray,List.set_cons_zero,List.set_cons_succ,i64_w,i32_w]
          rfl
         refine done_ (done_of HT_.out (by kernel_rfl)) ?_
         try go_wp2
         go_roundg k2
         case measure=>have:=HK1.out;have:=HK2.out;omega
         case rel=>exact⟨(wrap64 (x15_2-(wrap64 (Int.tdiv (wrap64 (x15_2-x14_2)) 2)))),(x15_2),(by first|rfl|(simp;done)|(simp [*];done)),(by first|rfl|(simp;done)|(simp [*];done)),H',⟨by have:=HK1.out;have:=HK2.out;omega⟩,⟨by first|exact HO_4.out|exact kR HO_4.out⟩,⟨by first|exact BK485.out|exact bk BK485.out⟩,⟨by first|exact BK496.out|exact bk BK496.out⟩,⟨by first|exact BK502.out|exact bk BK502.out⟩,⟨by repeat (first|with_reducible exact HB.out|exact bl HB|refine bs ?_ GE485|refine bs ?_ GE496|refine bs ?_ GE502)⟩⟩
        ·rw [if_neg c43] at H
         have c43b0:decide (t505≤0)=false:=decide_eq_false c43
         clear c43
         have H':=Aside0.mk H
         clear H
         try go_wp2
         have n0_:=Aside0.mk (Kd.R_drew HO_4.out)
         have n1_:=Aside0.mk (blk_drew BK485.out)
         have n2_:=Aside0.mk (blk_drew BK496.out)
         have n3_:=Aside0.mk (blk_drew BK502.out)
         have n4_:=Aside0.mk (below_drew1 HB.out)
         clear HO_4
         clear BK485
         clear BK496
         clear BK502
         clear HB
         have HO_4:=n0_
         have BK485:=n1_
         have BK496:=n2_
         have BK502:=n3_
         have HB:=n4_
         clear n0_ n1_ n2_ n3_ n4_
         refine start_ (n:=8) (S:=fun w'=>w'.cell? ⟨gb502,0,none⟩=some (.int .i64 t499)∧w'.cell? ⟨gb502,1,none⟩=some (.int .i64 t500)) (ds:=[]) #[ff,ff,ff,ff,ff,ff,ff,ff] (by kernel_rfl) rfl rfl ⟨(blk_cell BK502.out 0).trans rfl,(blk_cell BK502.out 1).trans rfl⟩ (fun hHeld=>?_);refine with_tabW outriggerref06_Mean.tab16 outriggerref06_Mean.bits16 (fun HT_ HW_=>?_)
         generalize wr.drew=w47 at HO_4 BK485 BK496 BK502 HB hHeld ⊢
         refine pure_ (i:=0) (N:=some 66) (v:=?_) (a':=?_) #[tt,ff,ff,ff,ff,ff,ff,ff] rfl rfl (any_of HT_.out (by kernel_rfl)) (fun _ _ _ h=>h) (Or.inl ⟨by rfl,?_⟩) ?_ ?_
         rotate_left
         ·intro w'
          go_simp
          with_reducible rfl
         rotate_left
         ·simp only [Act.put,List.setIfInBounds_toArray,List.set_cons_zero,List.set_cons_succ,i64_w,i32_w]
          rfl
         refine pure_ (i:=1) (N:=some 67) (v:=?_) (a':=?_) #[tt,tt,ff,ff,ff,ff,ff,ff] rfl rfl (any_of HT_.out (by kernel_rfl)) (fun _ _ _ h=>h) (Or.inl ⟨by rfl,?_⟩) ?_ ?_
         rotate_left
         ·intro w'
          go_simp
          with_reducible rfl
         rotate_left
         ·simp only [Act.put,List.setIfInBounds_toArray,List.set_cons_zero,List.set_cons_succ,i64_w,i32_w]
          rfl
         refine pure_ (i:=2) (N:=some 68) (v:=?_) (a':=?_) #[tt,tt,tt,ff,ff,ff,ff,ff] rfl rfl (any_of HT_.out (by kernel_rfl)) (fun _ _ _ h=>h) (Or.inl ⟨by rfl,?_⟩) ?_ ?_
         rotate_left
         ·intro w'
          go_simp
          with_reducible rfl
         rotate_left
         ·simp only [Act.put,List.setIfInBounds_toArray,List.set_cons_zero,List.set_cons_succ,i64_w,i32_w]
          rfl
         refine pure_ (i:=3) (N:=some 69) (v:=?_) (a':=?_) #[tt,tt,tt,tt,ff,ff,ff,ff] rfl rfl (any_of HT_.out (by kernel_rfl)) (fun _ _ _ h=>h) (Or.inl ⟨by rfl,?_⟩) ?_ ?_
         rotate_left
         ·intro w'
          go_simp
          with_reducible rfl
         rotate_left
         ·simp only [Act.put,List.setIfInBounds_toArray,List.set_cons_zero,List.set_cons_succ,i64_w,i32_w]
          rfl
         refine take_ (i:=5) (N:=some 71) (v:=?_) (a':=?_) #[tt,tt,tt,tt,ff,tt,ff,ff] rfl rfl (take_ofW HT_.out HW_.out (by kernel_rfl)) (fun _ _ _ h=>h) (Or.inl ⟨by rfl,?_⟩) hHeld ?_ ?_
         rotate_left
         ·rintro w' ⟨s0,s1⟩
          go_simp
          with_reducible rfl
         rotate_left
         ·simp only [Act.put,List.setIfInBounds_toArray,List.set_cons_zero,List.set_cons_succ,i64_w,i32_w]
          rfl
         refine one_ (i:=4) (N:=some 70) #[tt,tt,tt,tt,tt,tt,ff,ff] rfl rfl (one_of HT_.out (by kernel_rfl)) (by decide) (fun K hK=>?_)
         refine goes_ Try.func61 (by kernel_rfl) rfl #[.int .i64 (wrap64 (2*(t481.length:Int))),.int .i64 (wrap64 (x15_2-(wrap64 (Int.tdiv (wrap64 (x15_2-x14_2)) 2))))] (by rfl) rfl rfl (by exact mA _ _) ?_
         with_reducible refine(outriggerref02_Mul.calls (wrap64 (2*(t481.length:Int))) (wrap64 (x15_2-(wrap64 (Int.tdiv (wrap64 (x15_2-x14_2)) 2)))) t503 t504 _ A41.out).mono ?_
         rintro e w48 ⟨rfl,hb⟩
         refine⟨_,rfl,?_⟩
         have n0_:=Aside0.mk (Kd.R_below (by first|exact HO_4.out|exact kR HO_4.out) hb)
         have n1_:=Aside0.mk (blk_below (bk BK485.out) hb)
         have n2_:=Aside0.mk (blk_below (bk BK496.out) hb)
         have n3_:=Aside0.mk (blk_below (bk BK502.out) hb)
         have n4_:=Aside0.mk (below_step (by repeat (first|with_reducible exact HB.out|exact bl HB|refine bs ?_ GE485|refine bs ?_ GE496|refine bs ?_ GE502)) hb)
         clear HO_4
         clear BK485
         clear BK496
         clear BK502
         clear HB
         have HO_4:=n0_
         have BK485:=n1_
         have BK496:=n2_
         have BK502:=n3_
         have HB:=n4_
         clear n0_ n1_ n2_ n3_ n4_
         (try clear hb)
         (try clear hb2)
         (try clear hk)
         (try clear hi)
         refine hK.out _ _ ⟨(blk_cell BK502.out 0).trans rfl,(blk_cell BK502.out 1).trans rfl⟩ (fun hHeld=>?_)
         clear hK K
         refine norm_ (a':=?_) ?_ ?_
         rotate_left
         ·show Act.put _ (some 70) _=_
          simp only [Act.put,List.setIfInBounds_toArray,List.set_cons_zero,List.set_cons_succ,i64_w,i32_w]
          rfl
         refine one_ (i:=6) (N:=some 72) #[tt,tt,tt,tt,tt,tt,tt,ff] rfl rfl (one_of HT_.out (by kernel_rfl)) (by decide) (fun K hK=>?_)
         refine goes_ Try.func60 (by kernel_rfl) rfl #[.agg #[.int .i64 t503,.int .i64 t504],.agg #[.int .i64 t499,.int .i64 t500]] (by rfl) rfl rfl (by exact mA _ _) ?_
         with_reducible refine(outriggerref02_Compare.calls k2 t503 t504 t499 t500 t505 _ A42.out).mono ?_
         rintro e w49 ⟨rfl,hb⟩
         refine⟨_,rfl,?_⟩
         have n0_:=Aside0.mk (Kd.R_below (by first|exact HO_4.out|exact kR HO_4.out) hb)
         have n1_:=Aside0.mk (blk_below (bk BK485.out) hb)
         have n2_:=Aside0.mk (blk_below (bk BK496.out) hb)
         have n3_:=Aside0.mk (blk_below (bk BK502.out) hb)
         have n4_:=Aside0.mk (below_step (by repeat (first|with_reducible exact HB.out|exact bl HB|refine bs ?_ GE485|refine bs ?_ GE496|refine bs ?_ GE502)) hb)
         clear HO_4
         clear BK485
         clear BK496
         clear BK502
         clear HB
         have HO_4:=n0_
         have BK485:=n1_
         have BK496:=n2_
         have BK502:=n3_
         have HB:=n4_
         clear n0_ n1_ n2_ n3_ n4_
         (try clear hb)
         (try clear hb2)
         (try clear hk)
         (try clear hi)
         refine hK.out _ _ ⟨(blk_cell BK502.out 0).trans rfl,(blk_cell BK502.out 1).trans rfl⟩ (fun hHeld=>?_)
         clear hK K
         refine norm_ (a':=?_) ?_ ?_
         rotate_left
         ·show Act.put _ (some 72) _=_
          simp only [Act.put,List.setIfInBounds_toArray,List.set_cons_zero,List.set_cons_succ,i64_w,i32_w]
          rfl
         refine pure_ (i:=7) (N:=some 73) (v:=?_) (a':=?_) #[tt,tt,tt,tt,tt,tt,tt,tt] rfl rfl (any_of HT_.out (by kernel_rfl)) (fun _ _ _ h=>h) (Or.inl ⟨by rfl,?_⟩) ?_ ?_
         rotate_left
         ·intro w'
          go_simp
          with_reducible rfl
         rotate_left
         ·simp only [Act.put,List.setIfInBounds_toArray,List.set_cons_zero,List.set_cons_succ,i64_w,i32_w]
          rfl
         refine done_ (done_of HT_.out (by kernel_rfl)) ?_
         try go_wp2
         go_roundg k2
         case measure=>have:=HK1.out;have:=HK2.out;omega
         case rel=>exact⟨(x14_2),(wrap64 ((wrap64 (x15_2-(wrap64 (Int.tdiv (wrap64 (x15_2-x14_2)) 2))))-1)),(by first|rfl|(simp;done)|(simp [*];done)),(by first|rfl|(simp;done)|(simp [*];done)),H',⟨by have:=HK1.out;have:=HK2.out;omega⟩,⟨by first|exact HO_4.out|exact kR HO_4.out⟩,⟨by first|exact BK485.out|exact bk BK485.out⟩,⟨by first|exact BK496.out|exact bk BK496.out⟩,⟨by first|exact BK502.out|exact bk BK502.out⟩,⟨by repeat (first|with_reducible exact HB.out|exact bl HB|refine bs ?_ GE485|refine bs ?_ GE496|refine bs ?_ GE502)⟩⟩
       ·rw [if_neg c40] at H
        have c40b0:decide (x14_2<x15_2)=false:=decide_eq_false c40
        clear c40
        simp only [Option.some.injEq,Prod.mk.injEq] at H
        obtain⟨rfl,rfl⟩:=H
        go_wp2
        go_ret2
        exact⟨by first|rfl|(simp [errW_none,errW_some]<;>rfl)|(simp [*,errW_none,errW_some]<;>rfl),by repeat (first|with_reducible exact HB.out|exact bl HB|refine bs ?_ GE485|refine bs ?_ GE496|refine bs ?_ GE502)⟩
end Go.Proofs.Ytembdogffbcjiaa.B
