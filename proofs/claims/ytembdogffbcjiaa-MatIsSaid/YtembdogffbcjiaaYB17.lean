/- Lemmas of the row, laid by a program. -/
import Derived.Test.YtembdogffbcjiaaYB0
import Derived.Test.YtembdogffbcjiaaYB14
import Derived.Test.YtembdogffbcjiaaYB16
namespace Go.Proofs.Ytembdogffbcjiaa.B
open Go.RowKit Go.Proofs.YtembdogffbcjiaaW.PrintWords Go.Proofs.YtembdogffbcjiaaW.PrintLast Go.Proofs.YtembdogffbcjiaaW.PrintMore
attribute [local go_sem] max2_int min2_int max_two min_two max_three min_three max_four min_four
set_option linter.unusedVariables false
set_option linter.unusedSimpArgs false
mutual
def outriggerref08_Even.l0:Nat→List (List Int)→List (List Int)→Int→Option ((List (List Int)))
  | 0,_,_,_=>none
  | k+1,x3,x4,x5=>if x5<(x3.length:Int) then (outriggerref08_Even.l1 k x3 x4 x5 ([]:List Int) 0) else (some x4)
def outriggerref08_Even.l1:Nat→List (List Int)→List (List Int)→Int→List Int→Int→Option ((List (List Int)))
  | 0,_,_,_,_,_=>none
  | k+1,x3,x4,x5,x6,x7=>if x7<(x3.length:Int) then (if 0≤x5 then (if x5<(x3.length:Int) then (if 0≤x7 then (if x7<((rd_L1 x3 x5).length:Int) then (if x5<((rd_L1 x3 x7).length:Int) then ((outriggerref06_Mean.f k (([rd (rd_L1 x3 x5) x7,rd (rd_L1 x3 x7) x5]:List Int))).bind fun bt516=>(if x6.length<17592186044416 then (outriggerref08_Even.l1 k x3 x4 x5 (x6++[bt516.1]) (wrap64 (x7+1))) else (none))) else (none)) else (none)) else (none)) else (none)) else (none)) else (if x4.length<5864062014805 then (outriggerref08_Even.l0 k x3 (x4++[x6]) (wrap64 (x5+1))) else (none))
end
def outriggerref08_Even.f (k:Nat) (l0:List (List Int)):Option ((List (List Int))):=(outriggerref08_As.f k l0).bind fun t506=>(outriggerref08_Even.l0 k t506 ([]:List (List Int)) 0)
def outriggerref08_Even.T10:Bool × List (List Nat × List Nat):=(true,[([],[]),([],[]),([0,1],[0,1]),([2],[2]),([],[]),([3,4],[3,4]),([5],[5]),([],[]),([],[]),([7,8],[7,8]),([9],[9]),([],[]),([10,11],[10,11]),([12],[12]),([6,13],[6,13]),([14],[14]),([15],[15]),([16],[16]),([16],[16]),([17,15,0,1,2,3,4,5,6,7,8,9,10,11,12,13,14,15,16,17],[17]),([18,19,0,1,2,3,4,5,6,7,8,9,10,11,12,13,14,15,16,17,18,19],[18])])
def outriggerref08_Even.B10:List Nat:=[0,0,3,7,0,31,63,0,0,384,896,0,3968,8064,16383,32767,65535,131071,131071,262143,1048575]
theorem outriggerref08_Even.tab10:rtab .any (opsOf Try.f25 10)=outriggerref08_Even.T10:=by kernel_rfl
theorem outriggerref08_Even.bits10:waitsOk outriggerref08_Even.T10.2 outriggerref08_Even.B10=true:=by kernel_rfl
set_option maxHeartbeats 8000000 in
set_option maxRecDepth 100000 in
theorem outriggerref08_Even.calls (k:Nat) (A0:Option Addr) (c0:Nat) (l0:List (List Int)) (r:List (List Int)) (w:World) (hr0:Kd.C (Kd.slice 3 (Kd.int .i64)) w A0 l0.length l0) (hc0:l0.length≤c0) (h:outriggerref08_Even.f k l0=some r) :
  Calls Try.prog 25 #[.slice A0 l0.length c0] w fun e w'=>∃ v0_:Value,e=.returned (v0_)∧Kd.S (Kd.slice 3 (Kd.int .i64)) 23 w' w.heap.size (fun _=>True) v0_ r∧Below w.heap.size w w':=by
 have HR0:=Aside0.mk hr0
 have HC0:=Aside0.mk hc0
 clear hr0 hc0
 have HB:=Aside0.mk (Below.refl w.heap.size w)
 have H:((outriggerref08_As.f k l0).bind fun t506=>(outriggerref08_Even.l0 k t506 ([]:List (List Int)) 0))=some r:=h
 clear h
 replace H:=Option.bind_eq_some_iff.mp H
 obtain⟨t506,A20,H⟩:=H
 replace H:(outriggerref08_Even.l0 k t506 ([]:List (List Int)) 0)=some r:=H
 have A2:=Aside0.mk A20
 clear A20
 have H':=Aside0.mk H
 clear H
 go_enter Try.func25,Try.ntmps25
 go_wp2_with (first|((with_reducible refine gate_callee (f:=40) rfl ?_);refine goesL_ (some 11) rfl rfl Try.func40 (by kernel_rfl) rfl #[.slice A0 l0.length c0] rfl (by exact mA _ _) ?_;(with_reducible refine(outriggerref08_As.calls k (fun k_=>k_<w.heap.size) _ _ l0 t506 _ ?side1 A2.out).mono ?_);(case side1=>exact Kd.V_mk HC0.out (Kd.F_below (Kd.C_F (Kd.heap_slice 3 (Kd.heap_int .i64)) HR0.out) (by first|with_reducible exact HB.out|exact bl HB)));rintro e w3 ⟨v507,rfl,ho0,hb⟩;refine⟨_,rfl,?_⟩;have n0_:=Aside0.mk (Kd.V_lower (Kd.V_mono (ok':=fun k_=>True) ho0 (fun k_ hk_=>trivial)) (below_size (by first|with_reducible exact HB.out|exact bl HB)));have n1_:=Aside0.mk (below_step (by first|with_reducible exact HB.out|exact bl HB) hb);clear HB;have HO508:=n0_;have HB:=n1_;clear n0_ n1_;(try clear hb);(try clear hb2);(try clear hk);(try clear hi);(try clear ho0)))
 go_loopg [4,5] k (fun kq v4 v5 w'=>∃ (x4_1:List (List Int)) (x5_1:Int),v5=.int .i64 x5_1∧Aside0 (outriggerref08_Even.l0 kq t506 x4_1 x5_1=some r)∧Aside0 (kq≤k)∧Aside0 (Kd.V (Kd.slice 3 (Kd.int .i64)) 23 w' w.heap.size (fun k_=>some k_≠(v4:Value).ownBlock) v507 t506)∧Aside0 (Kd.S (Kd.slice 3 (Kd.int .i64)) 23 w' w.heap.size (fun _=>True) v4 x4_1)∧Aside0 (Below w.heap.size w w'))
 case atStart=>exact⟨(([]:List (List Int))),(0),(by first|rfl|(simp;done)|(simp [*];done)),H',⟨Nat.le_refl _⟩,⟨by (with_reducible repeat (first|apply Kd.V_alloc|apply Kd.V_drewN|apply Kd.V_drew));exact Kd.V_mono HO508.out (fun _ hk=>(by simp [Value.ownBlock]))⟩,⟨by first|exact Kd.S_nil _ _ _ _ _|exact Kd.N_nil _ _ _ _ _|exact Kd.V_nil _ _ _ _ _|exact Kd.Q_nil _ _ _ _ _|exact Kd.R_nil _ _ _ _ _⟩,⟨by first|with_reducible exact HB.out|exact bl HB⟩⟩
 case round =>
  clear H'
  try clear c2
  try clear p2
  obtain⟨x4_1,x5_1,rfl,HA,HK1,HO_3,HO_4,HB⟩:=hrel
  cases gk with
  | zero=>exact absurd HA.out (by simp [outriggerref08_Even.l0])
  | succ k1 =>
   have H:=HA.out
   clear HA
   simp only [outriggerref08_Even.l0] at H
   by_cases c4:x5_1<(t506.length:Int)
   ·rw [if_pos c4] at H
    have c4b0:decide (x5_1<(t506.length:Int))=true:=decide_eq_true c4
    clear c4
    have H':=Aside0.mk H
    clear H
    obtain⟨Ao5,co5,eo5⟩:=Kd.V_slice HO_3.out
    subst eo5
    go_wp2
    go_loopg [6,7] k1 (fun kq v6 v7 w'=>∃ (x6_2:List Int) (x7_2:Int),v7=.int .i64 x7_2∧Aside0 (outriggerref08_Even.l1 kq t506 x4_1 x5_1 x6_2 x7_2=some r)∧Aside0 (kq≤k1)∧Aside0 (Kd.V (Kd.slice 3 (Kd.int .i64)) 23 w' w.heap.size (fun k_=>some k_≠(u4:Value).ownBlock∧some k_≠(v6:Value).ownBlock) (.slice Ao5 t506.length co5) t506)∧Aside0 (Kd.S (Kd.slice 3 (Kd.int .i64)) 23 w' w.heap.size (fun k_=>some k_≠(v6:Value).ownBlock) u4 x4_1)∧Aside0 (Kd.R (Kd.int .i64) 3 w' w.heap.size (fun _=>True) v6 x6_2)∧Aside0 (Below w.heap.size w w'))
    case atStart=>exact⟨(([]:List Int)),(0),(by first|rfl|(simp;done)|(simp [*];done)),H',⟨Nat.le_refl _⟩,⟨by (with_reducible repeat (first|apply Kd.V_alloc|apply Kd.V_drewN|apply Kd.V_drew));exact Kd.V_mono HO_3.out (fun _ hk=>⟨hk,(by simp [Value.ownBlock])⟩)⟩,⟨by (with_reducible repeat (first|apply Kd.S_alloc|apply Kd.S_drewN|apply Kd.S_drew));exact Kd.S_mono HO_4.out (fun _ hk=>(by simp [Value.ownBlock]))⟩,⟨by first|exact Kd.R_nil _ _ _ _ _|exact Kd.N_nil _ _ _ _ _|exact Kd.V_nil _ _ _ _ _|exact Kd.Q_nil _ _ _ _ _|exact Kd.S_nil _ _ _ _ _⟩,⟨by first|with_reducible exact HB.out|exact bl HB⟩⟩
    case round =>
     clear H'
     try clear c2
     try clear p2
     try clear c4
     try clear c4b0
     try clear p2
     obtain⟨x6_2,x7_2,rfl,HA,HK2,HO_3,HO_4,HO_6,HB⟩:=hrel
     cases gk with
     | zero=>exact absurd HA.out (by simp [outriggerref08_Even.l1])
     | succ k2 =>
      have H:=HA.out
      clear HA
      simp only [outriggerref08_Even.l1] at H
      by_cases c6:x7_2<(t506.length:Int)
      ·rw [if_pos c6] at H
       have c6b0:decide (x7_2<(t506.length:Int))=true:=decide_eq_true c6
       clear c6
       by_cases c7:0≤x5_1
       ·rw [if_pos c7] at H
        have c7b0:decide (0≤x5_1)=true:=decide_eq_true c7
        clear c7
        by_cases c8:x5_1<(t506.length:Int)
        ·rw [if_pos c8] at H
         have c8b0:decide (x5_1<(t506.length:Int))=true:=decide_eq_true c8
         clear c8
         by_cases c9:0≤x7_2
         ·rw [if_pos c9] at H
          have c9b0:decide (0≤x7_2)=true:=decide_eq_true c9
          clear c9
          by_cases c10:x7_2<((rd_L1 t506 x5_1).length:Int)
          ·rw [if_pos c10] at H
           have c10b0:decide (x7_2<((rd_L1 t506 x5_1).length:Int))=true:=decide_eq_true c10
           clear c10
           by_cases c11:x5_1<((rd_L1 t506 x7_2).length:Int)
           ·rw [if_pos c11] at H
            have c11b0:decide (x5_1<((rd_L1 t506 x7_2).length:Int))=true:=decide_eq_true c11
            clear c11
            obtain⟨y513,hy513⟩:∃ y_:List Int,y_=(([rd (rd_L1 t506 x5_1) x7_2,rd (rd_L1 t506 x7_2) x5_1]:List Int)):=⟨_,rfl⟩
            replace H:((outriggerref06_Mean.f k2 y513).bind fun bt516=>(if x6_2.length<17592186044416 then (outriggerref08_Even.l1 k2 t506 x4_1 x5_1 (x6_2++[bt516.1]) (wrap64 (x7_2+1))) else (none)))=some r:=by first|(rw [hy513];with_reducible exact H)|(have H2_:=(Option.bind_some _ _).symm.trans H;rw [hy513];with_reducible exact H2_)|(have H2_:=(Option.bind_some _ _).symm.trans H;with_reducible exact H2_)|with_reducible exact H|(rw [hy513];exact H)|exact H
            have Ny513:=Aside0.mk hy513
            clear hy513
            replace H:=Option.bind_eq_some_iff.mp H
            obtain⟨⟨t516,t517⟩,A120,H⟩:=H
            replace H:(if x6_2.length<17592186044416 then (outriggerref08_Even.l1 k2 t506 x4_1 x5_1 (x6_2++[t516]) (wrap64 (x7_2+1))) else (none))=some r:=H
            have A12:=Aside0.mk A120
            clear A120
            by_cases c13:x6_2.length<17592186044416
            ·rw [if_pos c13] at H
             have LMc13:=Aside0.mk c13
             clear c13
             obtain⟨y518,hy518⟩:∃ y_:List Int,y_=(x6_2++[t516]):=⟨_,rfl⟩
             replace H:(outriggerref08_Even.l1 k2 t506 x4_1 x5_1 y518 (wrap64 (x7_2+1)))=some r:=by first|(rw [hy518];with_reducible exact H)|(have H2_:=(Option.bind_some _ _).symm.trans H;rw [hy518];with_reducible exact H2_)|(have H2_:=(Option.bind_some _ _).symm.trans H;with_reducible exact H2_)|with_reducible exact H|(rw [hy518];exact H)|exact H
             have Ny518:=Aside0.mk hy518
             clear hy518
             have H':=Aside0.mk H
             clear H
             try go_wp2
             have n0_:=Aside0.mk (Kd.V_drew HO_3.out)
             have n1_:=Aside0.mk (Kd.S_drew HO_4.out)
             have n2_:=Aside0.mk (Kd.R_drew HO_6.out)
             have n3_:=Aside0.mk (below_drew1 HB.out)
             clear HO_3
             clear HO_4
             clear HO_6
             clear HB
             have HO_3:=n0_
             have HO_4:=n1_
             have HO_6:=n2_
             have HB:=n3_
             clear n0_ n1_ n2_ n3_
             have p509:0≤(x5_1:Int):=of_decide_eq_true (by first|(with_reducible assumption)|assumption)
             have q509:x5_1<(t506.length:Int):=of_decide_eq_true (by first|(with_reducible assumption)|assumption)
             obtain⟨ad509,A509_0,c509_0,e509,hx509_0,hl509_0,hi509_0⟩:=at_L1 (Kd.V_reads' HO_3.out).2.2 x5_1 p509 q509
             cases e509
             obtain⟨ce509,hce509,hMe509,hcc509⟩:=Kd.V_get HO_3.out [] x5_1 p509 (by first|exact q509|exact of_decide_eq_true (by first|(with_reducible assumption)|assumption)|(have e_:=(Kd.V_reads' HO_3.out).1;omega))
             obtain⟨ua509_0,uc509_0,rfl,ul509_0,ge509_0⟩:=Kd.FK_slice_open hMe509
             have hv509_0:=hcc509 0 _ rfl
             rw [Nat.add_zero,show((Kd.slice 3 (Kd.int .i64))).sz=1 from rfl,Nat.mul_one] at hv509_0
             replace hv509_0:=Option.some.inj (hv509_0.symm.trans hx509_0)
             injection hv509_0 with hva_ hvn_ hvc_
             rw [hva_] at ge509_0
             rw [hvc_] at ul509_0
             have HL509_0:=Aside0.mk (show Kd.V (Kd.int .i64) 3 _ w.heap.size _ _ (rd_L1 t506 x5_1) from Kd.V_mk ul509_0 ge509_0)
             clear hva_ hvn_ hvc_ ge509_0 ul509_0
             clear hcc509 hce509
             have HR509_0:=Aside0.mk hi509_0
             have HC509_0:=Aside0.mk hl509_0
             clear hi509_0 hl509_0
             replace p509:=eq_true p509
             replace q509:=eq_true q509
             have p510:0≤(x7_2:Int):=of_decide_eq_true (by first|(with_reducible assumption)|assumption)
             have q510:x7_2<((rd_L1 t506 x5_1).length:Int):=of_decide_eq_true (by first|(with_reducible assumption)|assumption)
             obtain⟨ad510,e510,hx510_0⟩:=Kd.at_int (by repeat (first|(with_reducible exact HR509_0.out)|(with_reducible refine Kd.C_alloc ?_ _)|(with_reducible refine Kd.C_drewN ?_ _)|(with_reducible refine Kd.C_drew ?_)|exact HR509_0.out)) x7_2 p510 q510
             cases e510
             replace p510:=eq_true p510
             replace q510:=eq_true q510
             have p511:0≤(x7_2:Int):=of_decide_eq_true (by first|(with_reducible assumption)|assumption)
             have q511:x7_2<(t506.length:Int):=of_decide_eq_true (by first|(with_reducible assumption)|assumption)
             obtain⟨ad511,A511_0,c511_0,e511,hx511_0,hl511_0,hi511_0⟩:=at_L1 (Kd.V_reads' HO_3.out).2.2 x7_2 p511 q511
             obtain rfl:ad509=ad511:=(by injection e511)
             obtain⟨ce511,hce511,hMe511,hcc511⟩:=Kd.V_get HO_3.out [] x7_2 p511 (by first|exact q511|exact of_decide_eq_true (by first|(with_reducible assumption)|assumption)|(have e_:=(Kd.V_reads' HO_3.out).1;omega))
             obtain⟨ua511_0,uc511_0,rfl,ul511_0,ge511_0⟩:=Kd.FK_slice_open hMe511
             have hv511_0:=hcc511 0 _ rfl
             rw [Nat.add_zero,show((Kd.slice 3 (Kd.int .i64))).sz=1 from rfl,Nat.mul_one] at hv511_0
             replace hv511_0:=Option.some.inj (hv511_0.symm.trans hx511_0)
             injection hv511_0 with hva_ hvn_ hvc_
             rw [hva_] at ge511_0
             rw [hvc_] at ul511_0
             have HL511_0:=Aside0.mk (show Kd.V (Kd.int .i64) 3 _ w.heap.size _ _ (rd_L1 t506 x7_2) from Kd.V_mk ul511_0 ge511_0)
             clear hva_ hvn_ hvc_ ge511_0 ul511_0
             clear hcc511 hce511
             have HR511_0:=Aside0.mk hi511_0
             have HC511_0:=Aside0.mk hl511_0
             clear hi511_0 hl511_0
             replace p511:=eq_true p511
             replace q511:=eq_true q511
             have p512:0≤(x5_1:Int):=of_decide_eq_true (by first|(with_reducible assumption)|assumption)
             have q512:x5_1<((rd_L1 t506 x7_2).length:Int):=of_decide_eq_true (by first|(with_reducible assumption)|assumption)
             obtain⟨ad512,e512,hx512_0⟩:=Kd.at_int (by repeat (first|(with_reducible exact HR511_0.out)|(with_reducible refine Kd.C_alloc ?_ _)|(with_reducible refine Kd.C_drewN ?_ _)|(with_reducible refine Kd.C_drew ?_)|exact HR511_0.out)) x5_1 p512 q512
             cases e512
             replace p512:=eq_true p512
             replace q512:=eq_true q512
             refine start_ (n:=21) (S:=fun w'=>w'.cell? (ad509.add (x5_1).toNat)=some (.slice (some ad510) (rd_L1 t506 x5_1).length c509_0)∧w'.cell? (ad510.add (x7_2).toNat)=some (.int .i64 (rd (rd_L1 t506 x5_1) x7_2))∧w'.cell? (ad509.add (x7_2).toNat)=some (.slice (some ad512) (rd_L1 t506 x7_2).length c511_0)∧w'.cell? (ad512.add (x5_1).toNat)=some (.int .i64 (rd (rd_L1 t506 x7_2) x5_1))) (ds:=[]) #[ff,ff,ff,ff,ff,ff,ff,ff,ff,ff,ff,ff,ff,ff,ff,ff,ff,ff,ff,ff,ff] (by kernel_rfl) rfl rfl ⟨hx509_0,hx510_0,hx511_0,hx512_0⟩ (fun hHeld=>?_);refine with_tabW outriggerref08_Even.tab10 outriggerref08_Even.bits10 (fun HT_ HW_=>?_)
             generalize wr.drew=w14 at HO_3 HO_4 HO_6 HB HL509_0 HL511_0 HR509_0 HR511_0 hx509_0 hx510_0 hx511_0 hx512_0 hHeld ⊢
             refine pure_ (i:=0) (N:=some 25) (v:=?_) (a':=?_) #[tt,ff,ff,ff,ff,ff,ff,ff,ff,ff,ff,ff,ff,ff,ff,ff,ff,ff,ff,ff,ff] rfl rfl (any_of HT_.out (by kernel_rfl)) (fun _ _ _ h=>h) (Or.inl ⟨by rfl,?_⟩) ?_ ?_
             rotate_left
             ·intro w'
              go_simp
              with_reducible rfl
             rotate_left
             ·simp only [Act.put,List.setIfInBounds_toArray,List.set_cons_zero,List.set_cons_succ,i64_w,i32_w]
              rfl
             refine pure_ (i:=1) (N:=some 26) (v:=?_) (a':=?_) #[tt,tt,ff,ff,ff,ff,ff,ff,ff,ff,ff,ff,ff,ff,ff,ff,ff,ff,ff,ff,ff] rfl rfl (any_of HT_.out (by kernel_rfl)) (fun _ _ _ h=>h) (Or.inl ⟨by rfl,?_⟩) ?_ ?_
             rotate_left
             ·intro w'
              go_simp
              with_reducible rfl
             rotate_left
             ·simp only [Act.put,List.setIfInBounds_toArray,List.set_cons_zero,List.set_cons_succ,i64_w,i32_w]
              rfl
             refine pure_ (i:=2) (N:=some 27) (v:=?_) (a':=?_) #[tt,tt,tt,ff,ff,ff,ff,ff,ff,ff,ff,ff,ff,ff,ff,ff,ff,ff,ff,ff,ff] rfl rfl (any_of HT_.out (by kernel_rfl)) (fun _ _ _ h=>h) (Or.inl ⟨by rfl,?_⟩) ?_ ?_
             rotate_left
             ·intro w'
              go_simp
              with_reducible rfl
             rotate_left
             ·simp only [Act.put,List.setIfInBounds_toArray,List.set_cons_zero,List.set_cons_succ,i64_w,i32_w]
              rfl
             refine pure_ (i:=4) (N:=some 29) (v:=?_) (a':=?_) #[tt,tt,tt,ff,tt,ff,ff,ff,ff,ff,ff,ff,ff,ff,ff,ff,ff,ff,ff,ff,ff] rfl rfl (any_of HT_.out (by kernel_rfl)) (fun _ _ _ h=>h) (Or.inl ⟨by rfl,?_⟩) ?_ ?_
             rotate_left
             ·intro w'
              go_simp
              with_reducible rfl
             rotate_left
             ·simp only [Act.put,List.setIfInBounds_toArray,List.set_cons_zero,List.set_cons_succ,i64_w,i32_w]
              rfl
             refine pure_ (i:=7) (N:=some 32) (v:=?_) (a':=?_) #[tt,tt,tt,ff,tt,ff,ff,tt,ff,ff,ff,ff,ff,ff,ff,ff,ff,ff,ff,ff,ff] rfl rfl (any_of HT_.out (by kernel_rfl)) (fun _ _ _ h=>h) (Or.inl ⟨by rfl,?_⟩) ?_ ?_
             rotate_left
             ·intro w'
              go_simp
              with_reducible rfl
             rotate_left
             ·simp only [Act.put,List.setIfInBounds_toArray,List.set_cons_zero,List.set_cons_succ,i64_w,i32_w]
              rfl
             refine pure_ (i:=8) (N:=some 33) (v:=?_) (a':=?_) #[tt,tt,tt,ff,tt,ff,ff,tt,tt,ff,ff,ff,ff,ff,ff,ff,ff,ff,ff,ff,ff] rfl rfl (any_of HT_.out (by kernel_rfl)) (fun _ _ _ h=>h) (Or.inl ⟨by rfl,?_⟩) ?_ ?_
             rotate_left
             ·intro w'
              go_simp
              with_reducible rfl
             rotate_left
             ·simp only [Act.put,List.setIfInBounds_toArray,List.set_cons_zero,List.set_cons_succ,i64_w,i32_w]
              rfl
             refine pure_ (i:=9) (N:=some 34) (v:=?_) (a':=?_) #[tt,tt,tt,ff,tt,ff,ff,tt,tt,tt,ff,ff,ff,ff,ff,ff,ff,ff,ff,ff,ff] rfl rfl (any_of HT_.out (by kernel_rfl)) (fun _ _ _ h=>h) (Or.inl ⟨by rfl,?_⟩) ?_ ?_
             rotate_left
             ·intro w'
              go_simp
              with_reducible rfl
             rotate_left
             ·simp only [Act.put,List.setIfInBounds_toArray,List.set_cons_zero,List.set_cons_succ,i64_w,i32_w]
              rfl
             refine pure_ (i:=11) (N:=some 36) (v:=?_) (a':=?_) #[tt,tt,tt,ff,tt,ff,ff,tt,tt,tt,ff,tt,ff,ff,ff,ff,ff,ff,ff,ff,ff] rfl rfl (any_of HT_.out (by kernel_rfl)) (fun _ _ _ h=>h) (Or.inl ⟨by rfl,?_⟩) ?_ ?_
             rotate_left
             ·intro w'
              go_simp
              with_reducible rfl
             rotate_left
             ·simp only [Act.put,List.setIfInBounds_toArray,List.set_cons_zero,List.set_cons_succ,i64_w,i32_w]
              rfl
             refine take_ (i:=3) (N:=some 28) (v:=?_) (a':=?_) #[tt,tt,tt,tt,tt,ff,ff,tt,tt,tt,ff,tt,ff,ff,ff,ff,ff,ff,ff,ff,ff] rfl rfl (take_ofW HT_.out HW_.out (by kernel_rfl)) (fun _ _ _ h=>h) (Or.inl ⟨by rfl,?_⟩) hHeld ?_ ?_
             rotate_left
             ·rintro w' ⟨s0,s1,s2,s3⟩
              go_simp
              with_reducible rfl
             rotate_left
             ·simp only [Act.put,List.setIfInBounds_toArray,List.set_cons_zero,List.set_cons_succ,i64_w,i32_w]
              rfl
             refine pure_ (i:=5) (N:=some 30) (v:=?_) (a':=?_) #[tt,tt,tt,tt,tt,tt,ff,tt,tt,tt,ff,tt,ff,ff,ff,ff,ff,ff,ff,ff,ff] rfl rfl (any_of HT_.out (by kernel_rfl)) (fun _ _ _ h=>h) (Or.inl ⟨by rfl,?_⟩) ?_ ?_
             rotate_left
             ·intro w'
              go_simp
              with_reducible rfl
             rotate_left
             ·simp only [Act.put,List.setIfInBounds_toArray,List.set_cons_zero,List.set_cons_succ,i64_w,i32_w]
              rfl
             refine take_ (i:=6) (N:=some 31) (v:=?_) (a':=?_) #[tt,tt,tt,tt,tt,tt,tt,tt,tt,tt,ff,tt,ff,ff,ff,ff,ff,ff,ff,ff,ff] rfl rfl (take_ofW HT_.out HW_.out (by kernel_rfl)) (fun _ _ _ h=>h) (Or.inl ⟨by rfl,?_⟩) hHeld ?_ ?_
             rotate_left
             ·rintro w' ⟨s0,s1,s2,s3⟩
              go_simp
              with_reducible rfl
             rotate_left
             ·simp only [Act.put,List.setIfInBounds_toArray,List.set_cons_zero,List.set_cons_succ,i64_w,i32_w]
              rfl
             refine take_ (i:=10) (N:=some 35) (v:=?_) (a':=?_) #[tt,tt,tt,tt,tt,tt,tt,tt,tt,tt,tt,tt,ff,ff,ff,ff,ff,ff,ff,ff,ff] rfl rfl (take_ofW HT_.out HW_.out (by kernel_rfl)) (fun _ _ _ h=>h) (Or.inl ⟨by rfl,?_⟩) hHeld ?_ ?_
             rotate_left
             ·rintro w' ⟨s0,s1,s2,s3⟩
              go_simp
              with_reducible rfl
             rotate_left
             ·simp only [Act.put,List.setIfInBounds_toArray,List.set_cons_zero,List.set_cons_succ,i64_w,i32_w]
              rfl
             refine pure_ (i:=12) (N:=some 37) (v:=?_) (a':=?_) #[tt,tt,tt,tt,tt,tt,tt,tt,tt,tt,tt,tt,tt,ff,ff,ff,ff,ff,ff,ff,ff] rfl rfl (any_of HT_.out (by kernel_rfl)) (fun _ _ _ h=>h) (Or.inl ⟨by rfl,?_⟩) ?_ ?_
             rotate_left
             ·intro w'
              go_simp
              with_reducible rfl
             rotate_left
             ·simp only [Act.put,List.setIfInBounds_toArray,List.set_cons_zero,List.set_cons_succ,i64_w,i32_w]
              rfl
             refine take_ (i:=13) (N:=some 38) (v:=?_) (a':=?_) #[tt,tt,tt,tt,tt,tt,tt,tt,tt,tt,tt,tt,tt,tt,ff,ff,ff,ff,ff,ff,ff] rfl rfl (take_ofW HT_.out HW_.out (by kernel_rfl)) (fun _ _ _ h=>h) (Or.inl ⟨by rfl,?_⟩) hHeld ?_ ?_
             rotate_left
             ·rintro w' ⟨s0,s1,s2,s3⟩
              go_simp
              with_reducible rfl
             rotate_left
             ·simp only [Act.put,List.setIfInBounds_toArray,List.set_cons_zero,List.set_cons_succ,i64_w,i32_w]
              rfl
             refine one_ (i:=14) (N:=some 39) #[tt,tt,tt,tt,tt,tt,tt,tt,tt,tt,tt,tt,tt,tt,tt,ff,ff,ff,ff,ff,ff] rfl rfl (one_of HT_.out (by kernel_rfl)) (by decide) (fun K hK=>?_)
             refine Kd.R_lit_step (Kd.int .i64) _ 3 ?hg (N:=39) ?hd (xs:=([rd (rd_L1 t506 x5_1) x7_2,rd (rd_L1 t506 x7_2) x5_1]:List Int)) (inner:=[.int .i64 (rd (rd_L1 t506 x5_1) x7_2),.int .i64 (rd (rd_L1 t506 x7_2) x5_1)]) (ok:=fun _=>True) (okp:=fun _=>True) ?hr ?hp (fun _ hk=>hk) trivial (Below.refl _ _) (Nat.le_refl _) (by simp) ?_;(case hd=>rfl);(case hg=>rfl);(case hr=>first|(go_simp;done)|(go_simp;rfl));(case hp=>exact(Reps.one (show Kd.M (Kd.int .i64) _ _ _ (rd (rd_L1 t506 x5_1) x7_2) [.int .i64 (rd (rd_L1 t506 x5_1) x7_2)] from rfl) (Reps.one (show Kd.M (Kd.int .i64) _ _ _ (rd (rd_L1 t506 x7_2) x5_1) [.int .i64 (rd (rd_L1 t506 x7_2) x5_1)] from rfl) (Reps.none _ _))))
             intro v514 w15 ho16 hb hg_ hnew_
             have HS0_:=(hb.cell (World.block_lt_of_cell? _ _ (hHeld.1))).trans (hHeld.1)
             have HS1_:=(hb.cell (World.block_lt_of_cell? _ _ (hHeld.2.1))).trans (hHeld.2.1)
             have HS2_:=(hb.cell (World.block_lt_of_cell? _ _ (hHeld.2.2.1))).trans (hHeld.2.2.1)
             have HS3_:=(hb.cell (World.block_lt_of_cell? _ _ (hHeld.2.2.2))).trans (hHeld.2.2.2)
             clear hg_ hnew_
             (first|rw [←Ny513.out] at ho16|(simp only [Int.reduceToNat] at ho16;rw [←Ny513.out] at ho16))
             have n0_:=Aside0.mk (Kd.V_elder' (by first|exact HO_3.out|exact kV HO_3.out) (Kd.R_base ho16) hb)
             have n1_:=Aside0.mk (Kd.S_elder' (by first|exact HO_4.out|exact kS HO_4.out) (Kd.R_base ho16) hb)
             have n2_:=Aside0.mk (Kd.R_elder' (by first|exact HO_6.out|exact kR HO_6.out) (Kd.R_base ho16) hb)
             have n3_:=Aside0.mk (Kd.V_elder' (by first|exact HL509_0.out|exact kV HL509_0.out) (Kd.R_base ho16) hb)
             have n4_:=Aside0.mk (Kd.V_elder' (by first|exact HL511_0.out|exact kV HL511_0.out) (Kd.R_base ho16) hb)
             have n5_:=Aside0.mk (Kd.R_lower (Kd.R_new' ho16 (Kd.R_lt (by first|exact HO_6.out|exact kR HO_6.out))) (below_size (by first|with_reducible exact HB.out|exact bl HB)))
             have n6_:=Aside0.mk (Kd.C_below (by repeat (first|(with_reducible exact HR509_0.out)|(with_reducible refine Kd.C_alloc ?_ _)|(with_reducible refine Kd.C_drewN ?_ _)|(with_reducible refine Kd.C_drew ?_)|exact HR509_0.out)) hb)
             have n7_:=Aside0.mk (Kd.C_below (by repeat (first|(with_reducible exact HR511_0.out)|(with_reducible refine Kd.C_alloc ?_ _)|(with_reducible refine Kd.C_drewN ?_ _)|(with_reducible refine Kd.C_drew ?_)|exact HR511_0.out)) hb)
             have n8_:=Aside0.mk (below_step (by first|with_reducible exact HB.out|exact bl HB) hb)
             clear HO_3
             clear HO_4
             clear HO_6
             clear HL509_0
             clear HL511_0
             clear HR509_0
             clear HR511_0
             clear HB
             have HO_3:=n0_
             have HO_4:=n1_
             have HO_6:=n2_
             have HL509_0:=n3_
             have HL511_0:=n4_
             have HO515:=n5_
             have HR509_0:=n6_
             have HR511_0:=n7_
             have HB:=n8_
             clear n0_ n1_ n2_ n3_ n4_ n5_ n6_ n7_ n8_
             clear hb ho16
             obtain⟨Ao17,co17,eo17⟩:=Kd.R_slice HO515.out
             (first|subst eo17|(injection eo17 with f1_ f2_ f3_;have f4_:=f1_.symm;have f5_:=f3_.symm;clear f1_ f2_ f3_;subst f4_;subst f5_))
             refine hK.out _ _ ⟨HS0_,HS1_,HS2_,HS3_⟩ (fun hHeld=>?_)
             clear hK K
             refine norm_ (a':=?_) ?_ ?_
             rotate_left
             ·show Act.put _ (some 39) _=_
              simp only [Act.put,List.setIfInBounds_toArray,List.set_cons_zero,List.set_cons_succ,i64_w,i32_w]
              rfl
             refine one_ (i:=15) (N:=some 40) #[tt,tt,tt,tt,tt,tt,tt,tt,tt,tt,tt,tt,tt,tt,tt,tt,ff,ff,ff,ff,ff] rfl rfl (one_of HT_.out (by kernel_rfl)) (by decide) (fun K hK=>?_)
             refine goes_ Try.func43 (by kernel_rfl) rfl #[.slice Ao17 y513.length co17] (by rfl) rfl rfl (by exact mA _ _) ?_
             with_reducible refine(outriggerref06_Mean.calls k2 _ _ y513 t516 t517 _ ?side1 ?side2 A12.out).mono ?_
             (case side1=>first|exact(Kd.R_reads' HO515.out).2.2|exact kC (Kd.R_reads' HO515.out).2.2)
             (case side2=>exact(Kd.R_reads' HO515.out).2.1)
             rintro e w18 ⟨rfl,hb⟩
             have HS0_:=(hb.cell (World.block_lt_of_cell? _ _ (hHeld.1))).trans (hHeld.1)
             have HS1_:=(hb.cell (World.block_lt_of_cell? _ _ (hHeld.2.1))).trans (hHeld.2.1)
             have HS2_:=(hb.cell (World.block_lt_of_cell? _ _ (hHeld.2.2.1))).trans (hHeld.2.2.1)
             have HS3_:=(hb.cell (World.block_lt_of_cell? _ _ (hHeld.2.2.2))).trans (hHeld.2.2.2)
             refine⟨_,rfl,?_⟩
             have n0_:=Aside0.mk (Kd.V_below (by first|exact HO_3.out|exact kV HO_3.out) hb)
             have n1_:=Aside0.mk (Kd.S_below (by first|exact HO_4.out|exact kS HO_4.out) hb)
             have n2_:=Aside0.mk (Kd.R_below (by first|exact HO_6.out|exact kR HO_6.out) hb)
             have n3_:=Aside0.mk (Kd.V_below (by first|exact HL509_0.out|exact kV HL509_0.out) hb)
             have n4_:=Aside0.mk (Kd.V_below (by first|exact HL511_0.out|exact kV HL511_0.out) hb)
             have n5_:=Aside0.mk (Kd.R_below (by first|exact HO515.out|exact kR HO515.out) hb)
             have n6_:=Aside0.mk (Kd.C_below (by repeat (first|(with_reducible exact HR509_0.out)|(with_reducible refine Kd.C_alloc ?_ _)|(with_reducible refine Kd.C_drewN ?_ _)|(with_reducible refine Kd.C_drew ?_)|exact HR509_0.out)) hb)
             have n7_:=Aside0.mk (Kd.C_below (by repeat (first|(with_reducible exact HR511_0.out)|(with_reducible refine Kd.C_alloc ?_ _)|(with_reducible refine Kd.C_drewN ?_ _)|(with_reducible refine Kd.C_drew ?_)|exact HR511_0.out)) hb)
             have n8_:=Aside0.mk (below_step (by first|with_reducible exact HB.out|exact bl HB) hb)
             clear HO_3
             clear HO_4
             clear HO_6
             clear HL509_0
             clear HL511_0
             clear HO515
             clear HR509_0
             clear HR511_0
             clear HB
             have HO_3:=n0_
             have HO_4:=n1_
             have HO_6:=n2_
             have HL509_0:=n3_
             have HL511_0:=n4_
             have HO515:=n5_
             have HR509_0:=n6_
             have HR511_0:=n7_
             have HB:=n8_
             clear n0_ n1_ n2_ n3_ n4_ n5_ n6_ n7_ n8_
             (try clear hb)
             (try clear hb2)
             (try clear hk)
             (try clear hi)
             refine hK.out _ _ ⟨HS0_,HS1_,HS2_,HS3_⟩ (fun hHeld=>?_)
             clear hK K
             refine norm_ (a':=?_) ?_ ?_
             rotate_left
             ·show Act.put _ (some 40) _=_
              simp only [Act.put,List.setIfInBounds_toArray,List.set_cons_zero,List.set_cons_succ,i64_w,i32_w]
              rfl
             refine pure_ (i:=16) (N:=some 24) (v:=?_) (a':=?_) #[tt,tt,tt,tt,tt,tt,tt,tt,tt,tt,tt,tt,tt,tt,tt,tt,tt,ff,ff,ff,ff] rfl rfl (any_of HT_.out (by kernel_rfl)) (fun _ _ _ h=>h) (Or.inl ⟨by rfl,?_⟩) ?_ ?_
             rotate_left
             ·intro w'
              go_simp
              with_reducible rfl
             rotate_left
             ·simp only [Act.put,List.setIfInBounds_toArray,List.set_cons_zero,List.set_cons_succ,i64_w,i32_w]
              rfl
             refine pure_ (i:=17) (N:=some 41) (v:=?_) (a':=?_) #[tt,tt,tt,tt,tt,tt,tt,tt,tt,tt,tt,tt,tt,tt,tt,tt,tt,tt,ff,ff,ff] rfl rfl (any_of HT_.out (by kernel_rfl)) (fun _ _ _ h=>h) (Or.inl ⟨by rfl,?_⟩) ?_ ?_
             rotate_left
             ·intro w'
              go_simp
              with_reducible rfl
             rotate_left
             ·simp only [Act.put,List.setIfInBounds_toArray,List.set_cons_zero,List.set_cons_succ,i64_w,i32_w]
              rfl
             refine pure_ (i:=18) (N:=some 42) (v:=?_) (a':=?_) #[tt,tt,tt,tt,tt,tt,tt,tt,tt,tt,tt,tt,tt,tt,tt,tt,tt,tt,tt,ff,ff] rfl rfl (any_of HT_.out (by kernel_rfl)) (fun _ _ _ h=>h) (Or.inl ⟨by rfl,?_⟩) ?_ ?_
             rotate_left
             ·intro w'
              go_simp
              with_reducible rfl
             rotate_left
             ·simp only [Act.put,List.setIfInBounds_toArray,List.set_cons_zero,List.set_cons_succ,i64_w,i32_w]
              rfl
             refine pure_ (i:=19) (N:=some 8) (v:=?_) (a':=?_) #[tt,tt,tt,tt,tt,tt,tt,tt,tt,tt,tt,tt,tt,tt,tt,tt,tt,tt,tt,tt,ff] rfl rfl (any_of HT_.out (by kernel_rfl)) (fun _ _ _ h=>h) (Or.inl ⟨by rfl,?_⟩) ?_ ?_
             rotate_left
             ·intro w'
              go_simp
              with_reducible rfl
             rotate_left
             ·simp only [Act.put,List.setIfInBounds_toArray,List.set_cons_zero,List.set_cons_succ,i64_w,i32_w]
              rfl
             refine pure_ (i:=20) (N:=some 9) (v:=?_) (a':=?_) #[tt,tt,tt,tt,tt,tt,tt,tt,tt,tt,tt,tt,tt,tt,tt,tt,tt,tt,tt,tt,tt] rfl rfl (any_of HT_.out (by kernel_rfl)) (fun _ _ _ h=>h) (Or.inl ⟨by rfl,?_⟩) ?_ ?_
             rotate_left
             ·intro w'
              go_simp
              with_reducible rfl
             rotate_left
             ·simp only [Act.put,List.setIfInBounds_toArray,List.set_cons_zero,List.set_cons_succ,i64_w,i32_w]
              rfl
             refine done_ (done_of HT_.out (by kernel_rfl)) ?_
             try go_wp2_with (first|((with_reducible refine gate_builtin (b:=.append) (xs:=#[.tmp 43,.tmp 45]) rfl ?_);at_builtin;refine Kd.R_append (Kd.int .i64) (w0:=w) w.heap.size rfl (.tmp 43) (.tmp 45) 23 3 (.int .i64 0) 8 rfl Try.underlying23 info3 rfl (by decide) (by omega) u6 x6_2 t516 [.int .i64 t516] (fun k_=>some k_≠(.slice Ao17 y513.length co17:Value).ownBlock) (fun _=>False) rfl rfl ?aP (fun _ hk=>hk.elim) ?aF ?aO ?aB ?aS ?aL ?_;(case aP=>exact rfl);(case aB=>exact(by first|with_reducible exact HB.out|exact bl HB));(case aF=>exact(fun k_ hk=>Kd.fresh' (Kd.R_lt (by first|exact HO515.out|exact kR HO515.out)) k_ hk));(case aO=>exact(by (with_reducible repeat (first|apply Kd.R_alloc|apply Kd.R_drewN|apply Kd.R_drew));exact Kd.R_mono HO_6.out (fun _ hk=>hk.2)));(case aS=>exact(below_size (by first|with_reducible exact HB.out|exact bl HB)));(case aL=>have:=LMc13.out;omega);intro v519 w19 ho hb hg hat;rw [←Ny518.out] at ho;have n0_:=Aside0.mk (Kd.V_afterv (ok:=(fun k_=>some k_≠(u4:Value).ownBlock∧some k_≠(.slice Ao17 y513.length co17:Value).ownBlock)) (by (with_reducible repeat (first|apply Kd.V_alloc|apply Kd.V_drewN|apply Kd.V_drew));exact Kd.V_mono HO_3.out (fun _ hk=>⟨⟨hk.1.1,hk.2⟩,hk.1.2⟩)) hg hat);have n1_:=Aside0.mk (Kd.S_after (ok:=(fun k_=>some k_≠(.slice Ao17 y513.length co17:Value).ownBlock)) (by (with_reducible repeat (first|apply Kd.S_alloc|apply Kd.S_drewN|apply Kd.S_drew));exact Kd.S_mono HO_4.out (fun _ hk=>⟨hk.2,hk.1⟩)) hg hat);have n2_:=Aside0.mk (Kd.V_afterv (ok:=(fun k_=>some k_≠(u4:Value).ownBlock∧some k_≠(.slice Ao17 y513.length co17:Value).ownBlock)) (by (with_reducible repeat (first|apply Kd.V_alloc|apply Kd.V_drewN|apply Kd.V_drew));exact Kd.V_mono HL509_0.out (fun _ hk=>⟨⟨hk.1.1,hk.2⟩,hk.1.2⟩)) hg hat);have n3_:=Aside0.mk (Kd.V_afterv (ok:=(fun k_=>some k_≠(u4:Value).ownBlock∧some k_≠(.slice Ao17 y513.length co17:Value).ownBlock)) (by (with_reducible repeat (first|apply Kd.V_alloc|apply Kd.V_drewN|apply Kd.V_drew));exact Kd.V_mono HL511_0.out (fun _ hk=>⟨⟨hk.1.1,hk.2⟩,hk.1.2⟩)) hg hat);have n4_:=Aside0.mk (Kd.R_after (ok:=(fun _=>True)) (by first|exact HO515.out|exact kR HO515.out) hg hat);have n5_:=Aside0.mk (hb);have n6_:=Aside0.mk (ho);clear HO_3;clear HO_4;clear HL509_0;clear HL511_0;clear HO515;clear HB;clear HO_6;have HO_3:=n0_;have HO_4:=n1_;have HL509_0:=n2_;have HL511_0:=n3_;have HO515:=n4_;have HB:=n5_;have HO520:=n6_;clear n0_ n1_ n2_ n3_ n4_ n5_ n6_;clear ho hb hg hat))
             go_roundg k2
             case measure=>have:=HK1.out;have:=HK2.out;omega
             case rel=>exact⟨(y518),(wrap64 (x7_2+1)),(by first|rfl|(simp;done)|(simp [*];done)),H',⟨by have:=HK1.out;have:=HK2.out;omega⟩,⟨by (with_reducible repeat (first|apply Kd.V_alloc|apply Kd.V_drewN|apply Kd.V_drew));exact Kd.V_mono HO_3.out (fun _ hk=>⟨hk.1.1,hk.2⟩)⟩,⟨by (with_reducible repeat (first|apply Kd.S_alloc|apply Kd.S_drewN|apply Kd.S_drew));exact Kd.S_mono HO_4.out (fun _ hk=>hk.2)⟩,⟨by (with_reducible repeat (first|apply Kd.R_alloc|apply Kd.R_drewN|apply Kd.R_drew));exact Kd.R_mono HO520.out (fun _ hk=>trivial)⟩,⟨by first|with_reducible exact HB.out|exact bl HB⟩⟩
            ·rw [if_neg c13] at H
             exact absurd H (by simp)
           ·rw [if_neg c11] at H
            exact absurd H (by simp)
          ·rw [if_neg c10] at H
           exact absurd H (by simp)
         ·rw [if_neg c9] at H
          exact absurd H (by simp)
        ·rw [if_neg c8] at H
         exact absurd H (by simp)
       ·rw [if_neg c7] at H
        exact absurd H (by simp)
      ·rw [if_neg c6] at H
       have c6b0:decide (x7_2<(t506.length:Int))=false:=decide_eq_false c6
       clear c6
       by_cases c20:x4_1.length<5864062014805
       ·rw [if_pos c20] at H
        have LMc20:=Aside0.mk c20
        clear c20
        obtain⟨y521,hy521⟩:∃ y_:List (List Int),y_=(x4_1++[x6_2]):=⟨_,rfl⟩
        replace H:(outriggerref08_Even.l0 k2 t506 y521 (wrap64 (x5_1+1)))=some r:=by first|(rw [hy521];with_reducible exact H)|(have H2_:=(Option.bind_some _ _).symm.trans H;rw [hy521];with_reducible exact H2_)|(have H2_:=(Option.bind_some _ _).symm.trans H;with_reducible exact H2_)|with_reducible exact H|(rw [hy521];exact H)|exact H
        have Ny521:=Aside0.mk hy521
        clear hy521
        have H':=Aside0.mk H
        clear H
        obtain⟨Ao22,co22,eo22⟩:=Kd.R_slice HO_6.out
        subst eo22
        go_wp2_with (first|((with_reducible refine gate_builtin (b:=.append) (xs:=#[.tmp 47,.tmp 49]) rfl ?_);at_builtin;refine Kd.S_append (Kd.slice 3 (Kd.int .i64)) (w0:=w) w.heap.size rfl (.tmp 47) (.tmp 49) 22 23 (.slice none 0 0) 24 rfl Try.underlying22 info23 rfl (by decide) (by omega) u4 x4_1 x6_2 [.slice Ao22 x6_2.length co22] (fun _=>True) (fun k_=>some k_=(.slice Ao22 x6_2.length co22:Value).ownBlock) rfl rfl ?aP (fun k_ hk_=>((Kd.R_mono (ok':=fun k_=>((fun _=>True)) k_∧some k_≠(u4:Value).ownBlock) (Kd.R_apart' (HO_6.out) (Kd.S_typed HO_4.out) (by decide)) (fun k_ hk=>⟨trivial,hk.2⟩))).1 k_ hk_.symm) ?aF ?aO ?aB ?aS ?aL ?_;(case aP=>exact Kd.M_row (Kd.R_mono (Kd.R_tight rfl (Kd.R_mono (ok':=fun k_=>((fun _=>True)) k_∧some k_≠(u4:Value).ownBlock) (Kd.R_apart' (HO_6.out) (Kd.S_typed HO_4.out) (by decide)) (fun k_ hk=>⟨trivial,hk.2⟩))) (fun _ h_=>h_)));(case aB=>exact(by first|with_reducible exact HB.out|exact bl HB));(case aF=>exact(fun _ _=>trivial));(case aO=>exact(by (with_reducible repeat (first|apply Kd.S_alloc|apply Kd.S_drewN|apply Kd.S_drew));exact Kd.S_mono HO_4.out (fun k_ hk=>⟨trivial,fun e_=>hk e_⟩)));(case aS=>exact(below_size (by first|with_reducible exact HB.out|exact bl HB)));(case aL=>have:=LMc20.out;omega);intro v522 w21 ho hb hg hat;rw [←Ny521.out] at ho;have n0_:=Aside0.mk (Kd.V_afterv (ok:=(fun k_=>some k_≠(.slice Ao22 x6_2.length co22:Value).ownBlock)) (by (with_reducible repeat (first|apply Kd.V_alloc|apply Kd.V_drewN|apply Kd.V_drew));exact Kd.V_mono HO_3.out (fun _ hk=>⟨hk.2,hk.1⟩)) hg hat);have n1_:=Aside0.mk (hb);have n2_:=Aside0.mk (ho);clear HO_3;clear HB;clear HO_4;clear HO_6;have HO_3:=n0_;have HB:=n1_;have HO523:=n2_;clear n0_ n1_ n2_;clear ho hb hg hat))
        go_roundg k2
        case measure=>have:=HK1.out;have:=HK2.out;omega
        case rel=>exact⟨(y521),(wrap64 (x5_1+1)),(by first|rfl|(simp;done)|(simp [*];done)),H',⟨by have:=HK1.out;have:=HK2.out;omega⟩,⟨by (with_reducible repeat (first|apply Kd.V_alloc|apply Kd.V_drewN|apply Kd.V_drew));exact Kd.V_mono HO_3.out (fun _ hk=>hk.2)⟩,⟨by first|exact HO523.out|exact kS HO523.out⟩,⟨by first|with_reducible exact HB.out|exact bl HB⟩⟩
       ·rw [if_neg c20] at H
        exact absurd H (by simp)
   ·rw [if_neg c4] at H
    have c4b0:decide (x5_1<(t506.length:Int))=false:=decide_eq_false c4
    clear c4
    obtain rfl:=Option.some.inj H
    obtain⟨Ao23,co23,eo23⟩:=Kd.V_slice HO_3.out
    subst eo23
    go_wp2
    go_ret
    exact⟨_,by first|rfl|(simp [errW_none,errW_some]<;>rfl)|(simp [*,errW_none,errW_some]<;>rfl),by first|exact HO_4.out|exact kS HO_4.out,by first|with_reducible exact HB.out|exact bl HB⟩
end Go.Proofs.Ytembdogffbcjiaa.B
