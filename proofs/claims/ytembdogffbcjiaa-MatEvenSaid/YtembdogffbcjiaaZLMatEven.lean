/- Lemmas that the row leans on; laid by a program of this project out of longer texts: what the row does not name is left out. -/
import Derived.Test.YtembdogffbcjiaaZB0
import Derived.Test.YtembdogffbcjiaaZB2
import Derived.Test.YtembdogffbcjiaaZB8
import Derived.Test.YtembdogffbcjiaaZB11
namespace Go.Proofs.Ytembdogffbcjiaa.B
open Go.RowKit Go.Proofs.YtembdogffbcjiaaW.PrintWords Go.Proofs.YtembdogffbcjiaaW.PrintLast Go.Proofs.YtembdogffbcjiaaW.PrintMore
attribute [local go_sem] max2_int min2_int max_two min_two max_three min_three max_four min_four
set_option linter.unusedVariables false
set_option linter.unusedSimpArgs false
mutual
def outriggerlaw08_MatEven.j0:Nat→List (List Int)→Bool→List (List Int)→List (List Int)→Bool→Option (Bool)
  | 0,_,_,_,_,_=>none
  | k+1,x0,x3,x4,x5,x37=>if x37=true then (some false) else (outriggerlaw08_MatEven.l0 k x0 x3 x4 x5 0)
def outriggerlaw08_MatEven.l0:Nat→List (List Int)→Bool→List (List Int)→List (List Int)→Int→Option (Bool)
  | 0,_,_,_,_,_=>none
  | k+1,x0,x3,x4,x5,x6=>if x6<(x4.length:Int) then (outriggerlaw08_MatEven.l1 k x0 x3 x4 x5 x6 0) else (if x3=true then ((mat_Sane.f k x0).bind fun t342=>(if t342=true then (some true) else (if (x4.length:Int)=0 then (some true) else (some false)))) else (some false))
def outriggerlaw08_MatEven.l1:Nat→List (List Int)→Bool→List (List Int)→List (List Int)→Int→Int→Option (Bool)
  | 0,_,_,_,_,_,_=>none
  | k+1,x0,x3,x4,x5,x6,x7=>if x7<(x4.length:Int) then (if 0≤x6 then (if x6<(x5.length:Int) then (if 0≤x7 then (if x7<((rd_L1 x5 x6).length:Int) then (if x7<(x5.length:Int) then (if x6<((rd_L1 x5 x7).length:Int) then (if x6<(x4.length:Int) then (if x7<((rd_L1 x4 x6).length:Int) then (if (rd (rd_L1 x4 x6) x7)<(mn (rd (rd_L1 x5 x6) x7) (rd (rd_L1 x5 x7) x6)) then (some false) else (if (rd (rd_L1 x4 x6) x7) > (mx (rd (rd_L1 x5 x6) x7) (rd (rd_L1 x5 x7) x6)) then (some false) else (outriggerlaw08_MatEven.l1 k x0 x3 x4 x5 x6 (wrap64 (x7+1))))) else (none)) else (none)) else (none)) else (none)) else (none)) else (none)) else (none)) else (none)) else (outriggerlaw08_MatEven.l0 k x0 x3 x4 x5 (wrap64 (x6+1)))
end
def outriggerlaw08_MatEven.f (k:Nat) (l0:List (List Int)):Option (Bool):=(outriggerlaw08_awake.f k).bind fun t326=>((outriggerref08_Few.f k l0).bind fun t327=>(if t327=true then ((mat_Even.f k l0).bind fun t328=>((mat_Turned.f k l0).bind fun t331=>((mat_Turned.f k t328).bind fun t334=>((outriggerref08_Same.f k t334 t328).bind fun t337=>(if t337=true then ((mat_Even.f k t328).bind fun t338=>((outriggerref08_Same.f k t338 t328).bind fun t341=>(if t341=true then (outriggerlaw08_MatEven.j0 k l0 t326 t328 t331 ((t328.length:Int) != (t331.length:Int))) else (outriggerlaw08_MatEven.j0 k l0 t326 t328 t331 true)))) else (outriggerlaw08_MatEven.j0 k l0 t326 t328 t331 true)))))) else (some t326)))
set_option maxHeartbeats 8000000 in
set_option maxRecDepth 100000 in
theorem outriggerlaw08_MatEven.calls (k:Nat) (A0:Option Addr) (c0:Nat) (l0:List (List Int)) (r:Bool) (w:World) (hr0:Kd.C (Kd.slice 3 (Kd.int .i64)) w A0 l0.length l0) (hc0:l0.length≤c0) (h:outriggerlaw08_MatEven.f k l0=some r) (hr:Aside0 (r=true)) :
  Calls Try.prog 5 #[.slice A0 l0.length c0] w fun e w'=>e=.returned (.bool r)∧Below w.heap.size w w':=by
 have HR0:=Aside0.mk hr0
 have HC0:=Aside0.mk hc0
 clear hr0 hc0
 have HB:=Aside0.mk (Below.refl w.heap.size w)
 have H:((outriggerlaw08_awake.f k).bind fun t326=>((outriggerref08_Few.f k l0).bind fun t327=>(if t327=true then ((mat_Even.f k l0).bind fun t328=>((mat_Turned.f k l0).bind fun t331=>((mat_Turned.f k t328).bind fun t334=>((outriggerref08_Same.f k t334 t328).bind fun t337=>(if t337=true then ((mat_Even.f k t328).bind fun t338=>((outriggerref08_Same.f k t338 t328).bind fun t341=>(if t341=true then (outriggerlaw08_MatEven.j0 k l0 t326 t328 t331 ((t328.length:Int) != (t331.length:Int))) else (outriggerlaw08_MatEven.j0 k l0 t326 t328 t331 true)))) else (outriggerlaw08_MatEven.j0 k l0 t326 t328 t331 true)))))) else (some t326))))=some r:=h
 clear h
 replace H:=Option.bind_eq_some_iff.mp H
 obtain⟨t326,A20,H⟩:=H
 replace H:((outriggerref08_Few.f k l0).bind fun t327=>(if t327=true then ((mat_Even.f k l0).bind fun t328=>((mat_Turned.f k l0).bind fun t331=>((mat_Turned.f k t328).bind fun t334=>((outriggerref08_Same.f k t334 t328).bind fun t337=>(if t337=true then ((mat_Even.f k t328).bind fun t338=>((outriggerref08_Same.f k t338 t328).bind fun t341=>(if t341=true then (outriggerlaw08_MatEven.j0 k l0 t326 t328 t331 ((t328.length:Int) != (t331.length:Int))) else (outriggerlaw08_MatEven.j0 k l0 t326 t328 t331 true)))) else (outriggerlaw08_MatEven.j0 k l0 t326 t328 t331 true)))))) else (some t326)))=some r:=H
 have A2:=Aside0.mk A20
 clear A20
 replace H:=Option.bind_eq_some_iff.mp H
 obtain⟨t327,A30,H⟩:=H
 replace H:(if t327=true then ((mat_Even.f k l0).bind fun t328=>((mat_Turned.f k l0).bind fun t331=>((mat_Turned.f k t328).bind fun t334=>((outriggerref08_Same.f k t334 t328).bind fun t337=>(if t337=true then ((mat_Even.f k t328).bind fun t338=>((outriggerref08_Same.f k t338 t328).bind fun t341=>(if t341=true then (outriggerlaw08_MatEven.j0 k l0 t326 t328 t331 ((t328.length:Int) != (t331.length:Int))) else (outriggerlaw08_MatEven.j0 k l0 t326 t328 t331 true)))) else (outriggerlaw08_MatEven.j0 k l0 t326 t328 t331 true)))))) else (some t326))=some r:=H
 have A3:=Aside0.mk A30
 clear A30
 by_cases c4:t327=true
 ·subst c4
  have H1:((mat_Even.f k l0).bind fun t328=>((mat_Turned.f k l0).bind fun t331=>((mat_Turned.f k t328).bind fun t334=>((outriggerref08_Same.f k t334 t328).bind fun t337=>(if t337=true then ((mat_Even.f k t328).bind fun t338=>((outriggerref08_Same.f k t338 t328).bind fun t341=>(if t341=true then (outriggerlaw08_MatEven.j0 k l0 t326 t328 t331 ((t328.length:Int) != (t331.length:Int))) else (outriggerlaw08_MatEven.j0 k l0 t326 t328 t331 true)))) else (outriggerlaw08_MatEven.j0 k l0 t326 t328 t331 true))))))=some r:=by rw [if_pos rfl] at H;exact H
  clear H
  have H:=H1
  clear H1
  replace H:=Option.bind_eq_some_iff.mp H
  obtain⟨t328,A50,H⟩:=H
  replace H:((mat_Turned.f k l0).bind fun t331=>((mat_Turned.f k t328).bind fun t334=>((outriggerref08_Same.f k t334 t328).bind fun t337=>(if t337=true then ((mat_Even.f k t328).bind fun t338=>((outriggerref08_Same.f k t338 t328).bind fun t341=>(if t341=true then (outriggerlaw08_MatEven.j0 k l0 t326 t328 t331 ((t328.length:Int) != (t331.length:Int))) else (outriggerlaw08_MatEven.j0 k l0 t326 t328 t331 true)))) else (outriggerlaw08_MatEven.j0 k l0 t326 t328 t331 true)))))=some r:=H
  have A5:=Aside0.mk A50
  clear A50
  replace H:=Option.bind_eq_some_iff.mp H
  obtain⟨t331,A60,H⟩:=H
  replace H:((mat_Turned.f k t328).bind fun t334=>((outriggerref08_Same.f k t334 t328).bind fun t337=>(if t337=true then ((mat_Even.f k t328).bind fun t338=>((outriggerref08_Same.f k t338 t328).bind fun t341=>(if t341=true then (outriggerlaw08_MatEven.j0 k l0 t326 t328 t331 ((t328.length:Int) != (t331.length:Int))) else (outriggerlaw08_MatEven.j0 k l0 t326 t328 t331 true)))) else (outriggerlaw08_MatEven.j0 k l0 t326 t328 t331 true))))=some r:=H
  have A6:=Aside0.mk A60
  clear A60
  have HC7:=Aside0.mk H
  clear H
  go_enter Try.func5,Try.ntmps5
  go_upto_region 6 with (first|(go_at_call 8;(with_reducible refine(outriggerlaw08_awake.calls k  t326 _ A2.out).mono ?_);rintro e w8 ⟨rfl,hb⟩;have n0_:=Aside0.mk (below_step (by repeat (first|(with_reducible first|exact HB.out|apply below_alloc|apply pw_below_drewN|apply below_drew1)|exact HB.out)) hb);clear HB;have HB:=n0_;clear n0_;(try clear hb);(try clear hb2);(try clear hk);(try clear hi))|(go_at_call 9;(with_reducible refine(outriggerref08_Few.calls k _ _ l0 true _ ?side1 ?side2 A3.out).mono ?_);(case side1=>repeat (first|exact(Kd.C_below HR0.out HB.out)|(with_reducible refine Kd.C_alloc ?_ _)|(with_reducible refine Kd.C_drewN ?_ _)|(with_reducible refine Kd.C_drew ?_)));(case side2=>exact HC0.out);rintro e w' ⟨rfl,⟨nd,rfl⟩⟩;(try first|exact⟨rfl,_,World.drewN_drewN _ _ _⟩|exact⟨rfl,_,Eq.trans (World.drewN_drewN _ _ _) (congrArg (World.drewN _) (Nat.add_assoc _ _ _))⟩))|(go_at_call 24;(with_reducible refine(mat_Even.calls k _ _ l0 t328 _ ?side1 ?side2 A5.out).mono ?_);(case side1=>repeat (first|exact(Kd.C_below HR0.out (by repeat (first|(with_reducible first|exact HB.out|apply below_alloc|apply pw_below_drewN|apply below_drew1)|exact HB.out)))|(with_reducible refine Kd.C_alloc ?_ _)|(with_reducible refine Kd.C_drewN ?_ _)|(with_reducible refine Kd.C_drew ?_)));(case side2=>exact HC0.out);rintro e w9 ⟨v329,rfl,ho0,hb⟩;have n0_:=Aside0.mk (Kd.S_lower ho0 (below_size (by repeat (first|(with_reducible first|exact HB.out|apply below_alloc|apply pw_below_drewN|apply below_drew1)|exact HB.out))));have n1_:=Aside0.mk (below_step (by repeat (first|(with_reducible first|exact HB.out|apply below_alloc|apply pw_below_drewN|apply below_drew1)|exact HB.out)) hb);clear HB;have HO330:=n0_;have HB:=n1_;clear n0_ n1_;(try clear hb);(try clear hb2);(try clear hk);(try clear hi);(try clear ho0))|(go_at_call 22;(with_reducible refine(mat_Turned.calls k _ _ l0 t331 _ ?side1 ?side2 A6.out).mono ?_);(case side1=>repeat (first|exact(Kd.C_below HR0.out HB.out)|(with_reducible refine Kd.C_alloc ?_ _)|(with_reducible refine Kd.C_drewN ?_ _)|(with_reducible refine Kd.C_drew ?_)));(case side2=>exact HC0.out);rintro e w10 ⟨v332,rfl,ho0,hb⟩;have n0_:=Aside0.mk (Kd.S_elder' (by (with_reducible repeat (first|apply Kd.S_alloc|apply Kd.S_drewN|apply Kd.S_drew));exact HO330.out) (Kd.S_base ho0) hb);have n1_:=Aside0.mk (Kd.S_lower (Kd.S_new' ho0 (Kd.S_lt (by (with_reducible repeat (first|apply Kd.S_alloc|apply Kd.S_drewN|apply Kd.S_drew));exact HO330.out))) (below_size (by repeat (first|(with_reducible first|exact HB.out|apply below_alloc|apply pw_below_drewN|apply below_drew1)|exact HB.out))));have n2_:=Aside0.mk (below_step (by repeat (first|(with_reducible first|exact HB.out|apply below_alloc|apply pw_below_drewN|apply below_drew1)|exact HB.out)) hb);clear HO330;clear HB;have HO330:=n0_;have HO333:=n1_;have HB:=n2_;clear n0_ n1_ n2_;(try clear hb);(try clear hb2);(try clear hk);(try clear hi);(try clear ho0)))
  repeat (go_quiet (first|(go_at_call 8;(with_reducible refine(outriggerlaw08_awake.calls k  t326 _ A2.out).mono ?_);rintro e w8 ⟨rfl,hb⟩;have n0_:=Aside0.mk (below_step (by repeat (first|(with_reducible first|exact HB.out|apply below_alloc|apply pw_below_drewN|apply below_drew1)|exact HB.out)) hb);clear HB;have HB:=n0_;clear n0_;(try clear hb);(try clear hb2);(try clear hk);(try clear hi))|(go_at_call 9;(with_reducible refine(outriggerref08_Few.calls k _ _ l0 true _ ?side1 ?side2 A3.out).mono ?_);(case side1=>repeat (first|exact(Kd.C_below HR0.out HB.out)|(with_reducible refine Kd.C_alloc ?_ _)|(with_reducible refine Kd.C_drewN ?_ _)|(with_reducible refine Kd.C_drew ?_)));(case side2=>exact HC0.out);rintro e w' ⟨rfl,⟨nd,rfl⟩⟩;(try first|exact⟨rfl,_,World.drewN_drewN _ _ _⟩|exact⟨rfl,_,Eq.trans (World.drewN_drewN _ _ _) (congrArg (World.drewN _) (Nat.add_assoc _ _ _))⟩))|(go_at_call 24;(with_reducible refine(mat_Even.calls k _ _ l0 t328 _ ?side1 ?side2 A5.out).mono ?_);(case side1=>repeat (first|exact(Kd.C_below HR0.out (by repeat (first|(with_reducible first|exact HB.out|apply below_alloc|apply pw_below_drewN|apply below_drew1)|exact HB.out)))|(with_reducible refine Kd.C_alloc ?_ _)|(with_reducible refine Kd.C_drewN ?_ _)|(with_reducible refine Kd.C_drew ?_)));(case side2=>exact HC0.out);rintro e w9 ⟨v329,rfl,ho0,hb⟩;have n0_:=Aside0.mk (Kd.S_lower ho0 (below_size (by repeat (first|(with_reducible first|exact HB.out|apply below_alloc|apply pw_below_drewN|apply below_drew1)|exact HB.out))));have n1_:=Aside0.mk (below_step (by repeat (first|(with_reducible first|exact HB.out|apply below_alloc|apply pw_below_drewN|apply below_drew1)|exact HB.out)) hb);clear HB;have HO330:=n0_;have HB:=n1_;clear n0_ n1_;(try clear hb);(try clear hb2);(try clear hk);(try clear hi);(try clear ho0))|(go_at_call 22;(with_reducible refine(mat_Turned.calls k _ _ l0 t331 _ ?side1 ?side2 A6.out).mono ?_);(case side1=>repeat (first|exact(Kd.C_below HR0.out HB.out)|(with_reducible refine Kd.C_alloc ?_ _)|(with_reducible refine Kd.C_drewN ?_ _)|(with_reducible refine Kd.C_drew ?_)));(case side2=>exact HC0.out);rintro e w10 ⟨v332,rfl,ho0,hb⟩;have n0_:=Aside0.mk (Kd.S_elder' (by (with_reducible repeat (first|apply Kd.S_alloc|apply Kd.S_drewN|apply Kd.S_drew));exact HO330.out) (Kd.S_base ho0) hb);have n1_:=Aside0.mk (Kd.S_lower (Kd.S_new' ho0 (Kd.S_lt (by (with_reducible repeat (first|apply Kd.S_alloc|apply Kd.S_drewN|apply Kd.S_drew));exact HO330.out))) (below_size (by repeat (first|(with_reducible first|exact HB.out|apply below_alloc|apply pw_below_drewN|apply below_drew1)|exact HB.out))));have n2_:=Aside0.mk (below_step (by repeat (first|(with_reducible first|exact HB.out|apply below_alloc|apply pw_below_drewN|apply below_drew1)|exact HB.out)) hb);clear HO330;clear HB;have HO330:=n0_;have HO333:=n1_;have HB:=n2_;clear n0_ n1_ n2_;(try clear hb);(try clear hb2);(try clear hk);(try clear hi);(try clear ho0)));go_upto_region 6 with (first|(go_at_call 8;(with_reducible refine(outriggerlaw08_awake.calls k  t326 _ A2.out).mono ?_);rintro e w8 ⟨rfl,hb⟩;have n0_:=Aside0.mk (below_step (by repeat (first|(with_reducible first|exact HB.out|apply below_alloc|apply pw_below_drewN|apply below_drew1)|exact HB.out)) hb);clear HB;have HB:=n0_;clear n0_;(try clear hb);(try clear hb2);(try clear hk);(try clear hi))|(go_at_call 9;(with_reducible refine(outriggerref08_Few.calls k _ _ l0 true _ ?side1 ?side2 A3.out).mono ?_);(case side1=>repeat (first|exact(Kd.C_below HR0.out HB.out)|(with_reducible refine Kd.C_alloc ?_ _)|(with_reducible refine Kd.C_drewN ?_ _)|(with_reducible refine Kd.C_drew ?_)));(case side2=>exact HC0.out);rintro e w' ⟨rfl,⟨nd,rfl⟩⟩;(try first|exact⟨rfl,_,World.drewN_drewN _ _ _⟩|exact⟨rfl,_,Eq.trans (World.drewN_drewN _ _ _) (congrArg (World.drewN _) (Nat.add_assoc _ _ _))⟩))|(go_at_call 24;(with_reducible refine(mat_Even.calls k _ _ l0 t328 _ ?side1 ?side2 A5.out).mono ?_);(case side1=>repeat (first|exact(Kd.C_below HR0.out (by repeat (first|(with_reducible first|exact HB.out|apply below_alloc|apply pw_below_drewN|apply below_drew1)|exact HB.out)))|(with_reducible refine Kd.C_alloc ?_ _)|(with_reducible refine Kd.C_drewN ?_ _)|(with_reducible refine Kd.C_drew ?_)));(case side2=>exact HC0.out);rintro e w9 ⟨v329,rfl,ho0,hb⟩;have n0_:=Aside0.mk (Kd.S_lower ho0 (below_size (by repeat (first|(with_reducible first|exact HB.out|apply below_alloc|apply pw_below_drewN|apply below_drew1)|exact HB.out))));have n1_:=Aside0.mk (below_step (by repeat (first|(with_reducible first|exact HB.out|apply below_alloc|apply pw_below_drewN|apply below_drew1)|exact HB.out)) hb);clear HB;have HO330:=n0_;have HB:=n1_;clear n0_ n1_;(try clear hb);(try clear hb2);(try clear hk);(try clear hi);(try clear ho0))|(go_at_call 22;(with_reducible refine(mat_Turned.calls k _ _ l0 t331 _ ?side1 ?side2 A6.out).mono ?_);(case side1=>repeat (first|exact(Kd.C_below HR0.out HB.out)|(with_reducible refine Kd.C_alloc ?_ _)|(with_reducible refine Kd.C_drewN ?_ _)|(with_reducible refine Kd.C_drew ?_)));(case side2=>exact HC0.out);rintro e w10 ⟨v332,rfl,ho0,hb⟩;have n0_:=Aside0.mk (Kd.S_elder' (by (with_reducible repeat (first|apply Kd.S_alloc|apply Kd.S_drewN|apply Kd.S_drew));exact HO330.out) (Kd.S_base ho0) hb);have n1_:=Aside0.mk (Kd.S_lower (Kd.S_new' ho0 (Kd.S_lt (by (with_reducible repeat (first|apply Kd.S_alloc|apply Kd.S_drewN|apply Kd.S_drew));exact HO330.out))) (below_size (by repeat (first|(with_reducible first|exact HB.out|apply below_alloc|apply pw_below_drewN|apply below_drew1)|exact HB.out))));have n2_:=Aside0.mk (below_step (by repeat (first|(with_reducible first|exact HB.out|apply below_alloc|apply pw_below_drewN|apply below_drew1)|exact HB.out)) hb);clear HO330;clear HB;have HO330:=n0_;have HO333:=n1_;have HB:=n2_;clear n0_ n1_ n2_;(try clear hb);(try clear hb2);(try clear hk);(try clear hi);(try clear ho0))))
  (try simp only [Act.put,List.setIfInBounds_toArray,List.set_cons_zero,List.set_cons_succ])
  go_cut [37] (fun v37 wc=>∃ (kq:Nat) (x37_6:Bool),v37=.bool x37_6∧Aside0 (outriggerlaw08_MatEven.j0 kq l0 t326 t328 t331 x37_6=some r)∧Aside0 (kq≤k)∧Aside0 (Kd.S (Kd.slice 3 (Kd.int .i64)) 23 wc w.heap.size (fun k_=>some k_≠(v332:Value).ownBlock) v329 t328)∧Aside0 (Kd.S (Kd.slice 3 (Kd.int .i64)) 23 wc w.heap.size (fun k_=>some k_≠(v329:Value).ownBlock) v332 t331)∧Aside0 (Below w.heap.size w wc))
  case first =>
   have H:=HC7.out
   clear HC7
   replace H:=Option.bind_eq_some_iff.mp H
   obtain⟨t334,A110,H⟩:=H
   replace H:((outriggerref08_Same.f k t334 t328).bind fun t337=>(if t337=true then ((mat_Even.f k t328).bind fun t338=>((outriggerref08_Same.f k t338 t328).bind fun t341=>(if t341=true then (outriggerlaw08_MatEven.j0 k l0 t326 t328 t331 ((t328.length:Int) != (t331.length:Int))) else (outriggerlaw08_MatEven.j0 k l0 t326 t328 t331 true)))) else (outriggerlaw08_MatEven.j0 k l0 t326 t328 t331 true)))=some r:=H
   have A11:=Aside0.mk A110
   clear A110
   replace H:=Option.bind_eq_some_iff.mp H
   obtain⟨t337,A120,H⟩:=H
   replace H:(if t337=true then ((mat_Even.f k t328).bind fun t338=>((outriggerref08_Same.f k t338 t328).bind fun t341=>(if t341=true then (outriggerlaw08_MatEven.j0 k l0 t326 t328 t331 ((t328.length:Int) != (t331.length:Int))) else (outriggerlaw08_MatEven.j0 k l0 t326 t328 t331 true)))) else (outriggerlaw08_MatEven.j0 k l0 t326 t328 t331 true))=some r:=H
   have A12:=Aside0.mk A120
   clear A120
   by_cases c13:t337=true
   ·subst c13
    have H1:((mat_Even.f k t328).bind fun t338=>((outriggerref08_Same.f k t338 t328).bind fun t341=>(if t341=true then (outriggerlaw08_MatEven.j0 k l0 t326 t328 t331 ((t328.length:Int) != (t331.length:Int))) else (outriggerlaw08_MatEven.j0 k l0 t326 t328 t331 true))))=some r:=by rw [if_pos rfl] at H;exact H
    clear H
    have H:=H1
    clear H1
    replace H:=Option.bind_eq_some_iff.mp H
    obtain⟨t338,A140,H⟩:=H
    replace H:((outriggerref08_Same.f k t338 t328).bind fun t341=>(if t341=true then (outriggerlaw08_MatEven.j0 k l0 t326 t328 t331 ((t328.length:Int) != (t331.length:Int))) else (outriggerlaw08_MatEven.j0 k l0 t326 t328 t331 true)))=some r:=H
    have A14:=Aside0.mk A140
    clear A140
    replace H:=Option.bind_eq_some_iff.mp H
    obtain⟨t341,A150,H⟩:=H
    replace H:(if t341=true then (outriggerlaw08_MatEven.j0 k l0 t326 t328 t331 ((t328.length:Int) != (t331.length:Int))) else (outriggerlaw08_MatEven.j0 k l0 t326 t328 t331 true))=some r:=H
    have A15:=Aside0.mk A150
    clear A150
    by_cases c16:t341=true
    ·subst c16
     have H1:(outriggerlaw08_MatEven.j0 k l0 t326 t328 t331 ((t328.length:Int) != (t331.length:Int)))=some r:=by rw [if_pos rfl] at H;exact H
     clear H
     have H:=H1
     clear H1
     have H':=Aside0.mk H
     clear H
     obtain⟨Ao17,co17,eo17⟩:=Kd.S_slice HO330.out
     subst eo17
     go_wp2_with (first|(go_at_call 22;(with_reducible refine(mat_Turned.calls k _ _ t328 t334 _ ?side1 ?side2 A11.out).mono ?_);(case side1=>repeat (first|exact(Kd.S_reads' HO330.out).2.2|(with_reducible refine Kd.C_alloc ?_ _)|(with_reducible refine Kd.C_drewN ?_ _)|(with_reducible refine Kd.C_drew ?_)));(case side2=>exact(Kd.S_reads' HO330.out).2.1);rintro e w18 ⟨v335,rfl,ho0,hb⟩;have n0_:=Aside0.mk (Kd.S_elder' (by (with_reducible repeat (first|apply Kd.S_alloc|apply Kd.S_drewN|apply Kd.S_drew));exact HO330.out) (Kd.S_base ho0) hb);have n1_:=Aside0.mk (Kd.S_elder' (by (with_reducible repeat (first|apply Kd.S_alloc|apply Kd.S_drewN|apply Kd.S_drew));exact HO333.out) (Kd.S_base ho0) hb);have n2_:=Aside0.mk (Kd.S_lower (Kd.S_new' (Kd.S_new' ho0 (Kd.S_lt (by (with_reducible repeat (first|apply Kd.S_alloc|apply Kd.S_drewN|apply Kd.S_drew));exact HO330.out))) (Kd.S_lt (by (with_reducible repeat (first|apply Kd.S_alloc|apply Kd.S_drewN|apply Kd.S_drew));exact HO333.out))) (below_size (by repeat (first|(with_reducible first|exact HB.out|apply below_alloc|apply pw_below_drewN|apply below_drew1)|exact HB.out))));have n3_:=Aside0.mk (below_step (by repeat (first|(with_reducible first|exact HB.out|apply below_alloc|apply pw_below_drewN|apply below_drew1)|exact HB.out)) hb);clear HO330;clear HO333;clear HB;have HO330:=n0_;have HO333:=n1_;have HO336:=n2_;have HB:=n3_;clear n0_ n1_ n2_ n3_;(try clear hb);(try clear hb2);(try clear hk);(try clear hi);(try clear ho0);obtain⟨Ao19,co19,eo19⟩:=Kd.S_slice HO336.out;subst eo19)|(go_at_call 16;(with_reducible refine(outriggerref08_Same.calls k _ _ t334 _ _ t328 true _ ?side1 ?side2 ?side3 ?side4 A12.out).mono ?_);(case side1=>repeat (first|exact(Kd.S_reads' HO336.out).2.2|(with_reducible refine Kd.C_alloc ?_ _)|(with_reducible refine Kd.C_drewN ?_ _)|(with_reducible refine Kd.C_drew ?_)));(case side2=>exact(Kd.S_reads' HO336.out).2.1);(case side3=>repeat (first|exact(Kd.S_reads' HO330.out).2.2|(with_reducible refine Kd.C_alloc ?_ _)|(with_reducible refine Kd.C_drewN ?_ _)|(with_reducible refine Kd.C_drew ?_)));(case side4=>exact(Kd.S_reads' HO330.out).2.1);rintro e w' ⟨rfl,⟨nd,rfl⟩⟩;(try first|exact⟨rfl,_,World.drewN_drewN _ _ _⟩|exact⟨rfl,_,Eq.trans (World.drewN_drewN _ _ _) (congrArg (World.drewN _) (Nat.add_assoc _ _ _))⟩))|(go_at_call 24;(with_reducible refine(mat_Even.calls k _ _ t328 t338 _ ?side1 ?side2 A14.out).mono ?_);(case side1=>repeat (first|exact(Kd.S_reads' HO330.out).2.2|(with_reducible refine Kd.C_alloc ?_ _)|(with_reducible refine Kd.C_drewN ?_ _)|(with_reducible refine Kd.C_drew ?_)));(case side2=>exact(Kd.S_reads' HO330.out).2.1);rintro e w20 ⟨v339,rfl,ho0,hb⟩;have n0_:=Aside0.mk (Kd.S_elder' (by (with_reducible repeat (first|apply Kd.S_alloc|apply Kd.S_drewN|apply Kd.S_drew));exact HO330.out) (Kd.S_base ho0) hb);have n1_:=Aside0.mk (Kd.S_elder' (by (with_reducible repeat (first|apply Kd.S_alloc|apply Kd.S_drewN|apply Kd.S_drew));exact HO333.out) (Kd.S_base ho0) hb);have n2_:=Aside0.mk (Kd.S_elder' (by (with_reducible repeat (first|apply Kd.S_alloc|apply Kd.S_drewN|apply Kd.S_drew));exact HO336.out) (Kd.S_base ho0) hb);have n3_:=Aside0.mk (Kd.S_lower (Kd.S_new' (Kd.S_new' (Kd.S_new' ho0 (Kd.S_lt (by (with_reducible repeat (first|apply Kd.S_alloc|apply Kd.S_drewN|apply Kd.S_drew));exact HO330.out))) (Kd.S_lt (by (with_reducible repeat (first|apply Kd.S_alloc|apply Kd.S_drewN|apply Kd.S_drew));exact HO333.out))) (Kd.S_lt (by (with_reducible repeat (first|apply Kd.S_alloc|apply Kd.S_drewN|apply Kd.S_drew));exact HO336.out))) (below_size (by repeat (first|(with_reducible first|exact HB.out|apply below_alloc|apply pw_below_drewN|apply below_drew1)|exact HB.out))));have n4_:=Aside0.mk (below_step (by repeat (first|(with_reducible first|exact HB.out|apply below_alloc|apply pw_below_drewN|apply below_drew1)|exact HB.out)) hb);clear HO330;clear HO333;clear HO336;clear HB;have HO330:=n0_;have HO333:=n1_;have HO336:=n2_;have HO340:=n3_;have HB:=n4_;clear n0_ n1_ n2_ n3_ n4_;(try clear hb);(try clear hb2);(try clear hk);(try clear hi);(try clear ho0);obtain⟨Ao21,co21,eo21⟩:=Kd.S_slice HO340.out;subst eo21)|(go_at_call 16;(with_reducible refine(outriggerref08_Same.calls k _ _ t338 _ _ t328 true _ ?side1 ?side2 ?side3 ?side4 A15.out).mono ?_);(case side1=>repeat (first|exact(Kd.S_reads' HO340.out).2.2|(with_reducible refine Kd.C_alloc ?_ _)|(with_reducible refine Kd.C_drewN ?_ _)|(with_reducible refine Kd.C_drew ?_)));(case side2=>exact(Kd.S_reads' HO340.out).2.1);(case side3=>repeat (first|exact(Kd.S_reads' HO330.out).2.2|(with_reducible refine Kd.C_alloc ?_ _)|(with_reducible refine Kd.C_drewN ?_ _)|(with_reducible refine Kd.C_drew ?_)));(case side4=>exact(Kd.S_reads' HO330.out).2.1);rintro e w' ⟨rfl,⟨nd,rfl⟩⟩;(try first|exact⟨rfl,_,World.drewN_drewN _ _ _⟩|exact⟨rfl,_,Eq.trans (World.drewN_drewN _ _ _) (congrArg (World.drewN _) (Nat.add_assoc _ _ _))⟩);obtain⟨Ao22,co22,eo22⟩:=Kd.S_slice HO333.out;subst eo22))
     repeat (go_quiet (first|(go_at_call 22;(with_reducible refine(mat_Turned.calls k _ _ t328 t334 _ ?side1 ?side2 A11.out).mono ?_);(case side1=>repeat (first|exact(Kd.S_reads' HO330.out).2.2|(with_reducible refine Kd.C_alloc ?_ _)|(with_reducible refine Kd.C_drewN ?_ _)|(with_reducible refine Kd.C_drew ?_)));(case side2=>exact(Kd.S_reads' HO330.out).2.1);rintro e w18 ⟨v335,rfl,ho0,hb⟩;have n0_:=Aside0.mk (Kd.S_elder' (by (with_reducible repeat (first|apply Kd.S_alloc|apply Kd.S_drewN|apply Kd.S_drew));exact HO330.out) (Kd.S_base ho0) hb);have n1_:=Aside0.mk (Kd.S_elder' (by (with_reducible repeat (first|apply Kd.S_alloc|apply Kd.S_drewN|apply Kd.S_drew));exact HO333.out) (Kd.S_base ho0) hb);have n2_:=Aside0.mk (Kd.S_lower (Kd.S_new' (Kd.S_new' ho0 (Kd.S_lt (by (with_reducible repeat (first|apply Kd.S_alloc|apply Kd.S_drewN|apply Kd.S_drew));exact HO330.out))) (Kd.S_lt (by (with_reducible repeat (first|apply Kd.S_alloc|apply Kd.S_drewN|apply Kd.S_drew));exact HO333.out))) (below_size (by repeat (first|(with_reducible first|exact HB.out|apply below_alloc|apply pw_below_drewN|apply below_drew1)|exact HB.out))));have n3_:=Aside0.mk (below_step (by repeat (first|(with_reducible first|exact HB.out|apply below_alloc|apply pw_below_drewN|apply below_drew1)|exact HB.out)) hb);clear HO330;clear HO333;clear HB;have HO330:=n0_;have HO333:=n1_;have HO336:=n2_;have HB:=n3_;clear n0_ n1_ n2_ n3_;(try clear hb);(try clear hb2);(try clear hk);(try clear hi);(try clear ho0);obtain⟨Ao19,co19,eo19⟩:=Kd.S_slice HO336.out;subst eo19)|(go_at_call 16;(with_reducible refine(outriggerref08_Same.calls k _ _ t334 _ _ t328 true _ ?side1 ?side2 ?side3 ?side4 A12.out).mono ?_);(case side1=>repeat (first|exact(Kd.S_reads' HO336.out).2.2|(with_reducible refine Kd.C_alloc ?_ _)|(with_reducible refine Kd.C_drewN ?_ _)|(with_reducible refine Kd.C_drew ?_)));(case side2=>exact(Kd.S_reads' HO336.out).2.1);(case side3=>repeat (first|exact(Kd.S_reads' HO330.out).2.2|(with_reducible refine Kd.C_alloc ?_ _)|(with_reducible refine Kd.C_drewN ?_ _)|(with_reducible refine Kd.C_drew ?_)));(case side4=>exact(Kd.S_reads' HO330.out).2.1);rintro e w' ⟨rfl,⟨nd,rfl⟩⟩;(try first|exact⟨rfl,_,World.drewN_drewN _ _ _⟩|exact⟨rfl,_,Eq.trans (World.drewN_drewN _ _ _) (congrArg (World.drewN _) (Nat.add_assoc _ _ _))⟩))|(go_at_call 24;(with_reducible refine(mat_Even.calls k _ _ t328 t338 _ ?side1 ?side2 A14.out).mono ?_);(case side1=>repeat (first|exact(Kd.S_reads' HO330.out).2.2|(with_reducible refine Kd.C_alloc ?_ _)|(with_reducible refine Kd.C_drewN ?_ _)|(with_reducible refine Kd.C_drew ?_)));(case side2=>exact(Kd.S_reads' HO330.out).2.1);rintro e w20 ⟨v339,rfl,ho0,hb⟩;have n0_:=Aside0.mk (Kd.S_elder' (by (with_reducible repeat (first|apply Kd.S_alloc|apply Kd.S_drewN|apply Kd.S_drew));exact HO330.out) (Kd.S_base ho0) hb);have n1_:=Aside0.mk (Kd.S_elder' (by (with_reducible repeat (first|apply Kd.S_alloc|apply Kd.S_drewN|apply Kd.S_drew));exact HO333.out) (Kd.S_base ho0) hb);have n2_:=Aside0.mk (Kd.S_elder' (by (with_reducible repeat (first|apply Kd.S_alloc|apply Kd.S_drewN|apply Kd.S_drew));exact HO336.out) (Kd.S_base ho0) hb);have n3_:=Aside0.mk (Kd.S_lower (Kd.S_new' (Kd.S_new' (Kd.S_new' ho0 (Kd.S_lt (by (with_reducible repeat (first|apply Kd.S_alloc|apply Kd.S_drewN|apply Kd.S_drew));exact HO330.out))) (Kd.S_lt (by (with_reducible repeat (first|apply Kd.S_alloc|apply Kd.S_drewN|apply Kd.S_drew));exact HO333.out))) (Kd.S_lt (by (with_reducible repeat (first|apply Kd.S_alloc|apply Kd.S_drewN|apply Kd.S_drew));exact HO336.out))) (below_size (by repeat (first|(with_reducible first|exact HB.out|apply below_alloc|apply pw_below_drewN|apply below_drew1)|exact HB.out))));have n4_:=Aside0.mk (below_step (by repeat (first|(with_reducible first|exact HB.out|apply below_alloc|apply pw_below_drewN|apply below_drew1)|exact HB.out)) hb);clear HO330;clear HO333;clear HO336;clear HB;have HO330:=n0_;have HO333:=n1_;have HO336:=n2_;have HO340:=n3_;have HB:=n4_;clear n0_ n1_ n2_ n3_ n4_;(try clear hb);(try clear hb2);(try clear hk);(try clear hi);(try clear ho0);obtain⟨Ao21,co21,eo21⟩:=Kd.S_slice HO340.out;subst eo21)|(go_at_call 16;(with_reducible refine(outriggerref08_Same.calls k _ _ t338 _ _ t328 true _ ?side1 ?side2 ?side3 ?side4 A15.out).mono ?_);(case side1=>repeat (first|exact(Kd.S_reads' HO340.out).2.2|(with_reducible refine Kd.C_alloc ?_ _)|(with_reducible refine Kd.C_drewN ?_ _)|(with_reducible refine Kd.C_drew ?_)));(case side2=>exact(Kd.S_reads' HO340.out).2.1);(case side3=>repeat (first|exact(Kd.S_reads' HO330.out).2.2|(with_reducible refine Kd.C_alloc ?_ _)|(with_reducible refine Kd.C_drewN ?_ _)|(with_reducible refine Kd.C_drew ?_)));(case side4=>exact(Kd.S_reads' HO330.out).2.1);rintro e w' ⟨rfl,⟨nd,rfl⟩⟩;(try first|exact⟨rfl,_,World.drewN_drewN _ _ _⟩|exact⟨rfl,_,Eq.trans (World.drewN_drewN _ _ _) (congrArg (World.drewN _) (Nat.add_assoc _ _ _))⟩);obtain⟨Ao22,co22,eo22⟩:=Kd.S_slice HO333.out;subst eo22));try go_wp2_with (first|(go_at_call 22;(with_reducible refine(mat_Turned.calls k _ _ t328 t334 _ ?side1 ?side2 A11.out).mono ?_);(case side1=>repeat (first|exact(Kd.S_reads' HO330.out).2.2|(with_reducible refine Kd.C_alloc ?_ _)|(with_reducible refine Kd.C_drewN ?_ _)|(with_reducible refine Kd.C_drew ?_)));(case side2=>exact(Kd.S_reads' HO330.out).2.1);rintro e w18 ⟨v335,rfl,ho0,hb⟩;have n0_:=Aside0.mk (Kd.S_elder' (by (with_reducible repeat (first|apply Kd.S_alloc|apply Kd.S_drewN|apply Kd.S_drew));exact HO330.out) (Kd.S_base ho0) hb);have n1_:=Aside0.mk (Kd.S_elder' (by (with_reducible repeat (first|apply Kd.S_alloc|apply Kd.S_drewN|apply Kd.S_drew));exact HO333.out) (Kd.S_base ho0) hb);have n2_:=Aside0.mk (Kd.S_lower (Kd.S_new' (Kd.S_new' ho0 (Kd.S_lt (by (with_reducible repeat (first|apply Kd.S_alloc|apply Kd.S_drewN|apply Kd.S_drew));exact HO330.out))) (Kd.S_lt (by (with_reducible repeat (first|apply Kd.S_alloc|apply Kd.S_drewN|apply Kd.S_drew));exact HO333.out))) (below_size (by repeat (first|(with_reducible first|exact HB.out|apply below_alloc|apply pw_below_drewN|apply below_drew1)|exact HB.out))));have n3_:=Aside0.mk (below_step (by repeat (first|(with_reducible first|exact HB.out|apply below_alloc|apply pw_below_drewN|apply below_drew1)|exact HB.out)) hb);clear HO330;clear HO333;clear HB;have HO330:=n0_;have HO333:=n1_;have HO336:=n2_;have HB:=n3_;clear n0_ n1_ n2_ n3_;(try clear hb);(try clear hb2);(try clear hk);(try clear hi);(try clear ho0);obtain⟨Ao19,co19,eo19⟩:=Kd.S_slice HO336.out;subst eo19)|(go_at_call 16;(with_reducible refine(outriggerref08_Same.calls k _ _ t334 _ _ t328 true _ ?side1 ?side2 ?side3 ?side4 A12.out).mono ?_);(case side1=>repeat (first|exact(Kd.S_reads' HO336.out).2.2|(with_reducible refine Kd.C_alloc ?_ _)|(with_reducible refine Kd.C_drewN ?_ _)|(with_reducible refine Kd.C_drew ?_)));(case side2=>exact(Kd.S_reads' HO336.out).2.1);(case side3=>repeat (first|exact(Kd.S_reads' HO330.out).2.2|(with_reducible refine Kd.C_alloc ?_ _)|(with_reducible refine Kd.C_drewN ?_ _)|(with_reducible refine Kd.C_drew ?_)));(case side4=>exact(Kd.S_reads' HO330.out).2.1);rintro e w' ⟨rfl,⟨nd,rfl⟩⟩;(try first|exact⟨rfl,_,World.drewN_drewN _ _ _⟩|exact⟨rfl,_,Eq.trans (World.drewN_drewN _ _ _) (congrArg (World.drewN _) (Nat.add_assoc _ _ _))⟩))|(go_at_call 24;(with_reducible refine(mat_Even.calls k _ _ t328 t338 _ ?side1 ?side2 A14.out).mono ?_);(case side1=>repeat (first|exact(Kd.S_reads' HO330.out).2.2|(with_reducible refine Kd.C_alloc ?_ _)|(with_reducible refine Kd.C_drewN ?_ _)|(with_reducible refine Kd.C_drew ?_)));(case side2=>exact(Kd.S_reads' HO330.out).2.1);rintro e w20 ⟨v339,rfl,ho0,hb⟩;have n0_:=Aside0.mk (Kd.S_elder' (by (with_reducible repeat (first|apply Kd.S_alloc|apply Kd.S_drewN|apply Kd.S_drew));exact HO330.out) (Kd.S_base ho0) hb);have n1_:=Aside0.mk (Kd.S_elder' (by (with_reducible repeat (first|apply Kd.S_alloc|apply Kd.S_drewN|apply Kd.S_drew));exact HO333.out) (Kd.S_base ho0) hb);have n2_:=Aside0.mk (Kd.S_elder' (by (with_reducible repeat (first|apply Kd.S_alloc|apply Kd.S_drewN|apply Kd.S_drew));exact HO336.out) (Kd.S_base ho0) hb);have n3_:=Aside0.mk (Kd.S_lower (Kd.S_new' (Kd.S_new' (Kd.S_new' ho0 (Kd.S_lt (by (with_reducible repeat (first|apply Kd.S_alloc|apply Kd.S_drewN|apply Kd.S_drew));exact HO330.out))) (Kd.S_lt (by (with_reducible repeat (first|apply Kd.S_alloc|apply Kd.S_drewN|apply Kd.S_drew));exact HO333.out))) (Kd.S_lt (by (with_reducible repeat (first|apply Kd.S_alloc|apply Kd.S_drewN|apply Kd.S_drew));exact HO336.out))) (below_size (by repeat (first|(with_reducible first|exact HB.out|apply below_alloc|apply pw_below_drewN|apply below_drew1)|exact HB.out))));have n4_:=Aside0.mk (below_step (by repeat (first|(with_reducible first|exact HB.out|apply below_alloc|apply pw_below_drewN|apply below_drew1)|exact HB.out)) hb);clear HO330;clear HO333;clear HO336;clear HB;have HO330:=n0_;have HO333:=n1_;have HO336:=n2_;have HO340:=n3_;have HB:=n4_;clear n0_ n1_ n2_ n3_ n4_;(try clear hb);(try clear hb2);(try clear hk);(try clear hi);(try clear ho0);obtain⟨Ao21,co21,eo21⟩:=Kd.S_slice HO340.out;subst eo21)|(go_at_call 16;(with_reducible refine(outriggerref08_Same.calls k _ _ t338 _ _ t328 true _ ?side1 ?side2 ?side3 ?side4 A15.out).mono ?_);(case side1=>repeat (first|exact(Kd.S_reads' HO340.out).2.2|(with_reducible refine Kd.C_alloc ?_ _)|(with_reducible refine Kd.C_drewN ?_ _)|(with_reducible refine Kd.C_drew ?_)));(case side2=>exact(Kd.S_reads' HO340.out).2.1);(case side3=>repeat (first|exact(Kd.S_reads' HO330.out).2.2|(with_reducible refine Kd.C_alloc ?_ _)|(with_reducible refine Kd.C_drewN ?_ _)|(with_reducible refine Kd.C_drew ?_)));(case side4=>exact(Kd.S_reads' HO330.out).2.1);rintro e w' ⟨rfl,⟨nd,rfl⟩⟩;(try first|exact⟨rfl,_,World.drewN_drewN _ _ _⟩|exact⟨rfl,_,Eq.trans (World.drewN_drewN _ _ _) (congrArg (World.drewN _) (Nat.add_assoc _ _ _))⟩);obtain⟨Ao22,co22,eo22⟩:=Kd.S_slice HO333.out;subst eo22)))
     go_meet
     case rel=>exact⟨_,(((t328.length:Int) != (t331.length:Int))),(by first|rfl|(simp;done)|(simp [*];done)),H',⟨by first|omega|exact Nat.le_refl _⟩,⟨by (with_reducible repeat (first|apply Kd.S_alloc|apply Kd.S_drewN|apply Kd.S_drew));exact Kd.S_mono HO330.out (fun _ hk=>hk.1.1.2)⟩,⟨by (with_reducible repeat (first|apply Kd.S_alloc|apply Kd.S_drewN|apply Kd.S_drew));exact Kd.S_mono HO333.out (fun _ hk=>hk.1.1.2)⟩,⟨by repeat (first|(with_reducible first|exact HB.out|apply below_alloc|apply pw_below_drewN|apply below_drew1)|exact HB.out)⟩⟩
    ·replace c16:=Bool.eq_false_iff.mpr c16
     subst c16
     have H1:(outriggerlaw08_MatEven.j0 k l0 t326 t328 t331 true)=some r:=by rw [if_neg (show ¬(false=true) by decide)] at H;exact H
     clear H
     have H:=H1
     clear H1
     have H':=Aside0.mk H
     clear H
     obtain⟨Ao23,co23,eo23⟩:=Kd.S_slice HO330.out
     subst eo23
     go_wp2_with (first|(go_at_call 22;(with_reducible refine(mat_Turned.calls k _ _ t328 t334 _ ?side1 ?side2 A11.out).mono ?_);(case side1=>repeat (first|exact(Kd.S_reads' HO330.out).2.2|(with_reducible refine Kd.C_alloc ?_ _)|(with_reducible refine Kd.C_drewN ?_ _)|(with_reducible refine Kd.C_drew ?_)));(case side2=>exact(Kd.S_reads' HO330.out).2.1);rintro e w24 ⟨v335,rfl,ho0,hb⟩;have n0_:=Aside0.mk (Kd.S_elder' (by (with_reducible repeat (first|apply Kd.S_alloc|apply Kd.S_drewN|apply Kd.S_drew));exact HO330.out) (Kd.S_base ho0) hb);have n1_:=Aside0.mk (Kd.S_elder' (by (with_reducible repeat (first|apply Kd.S_alloc|apply Kd.S_drewN|apply Kd.S_drew));exact HO333.out) (Kd.S_base ho0) hb);have n2_:=Aside0.mk (Kd.S_lower (Kd.S_new' (Kd.S_new' ho0 (Kd.S_lt (by (with_reducible repeat (first|apply Kd.S_alloc|apply Kd.S_drewN|apply Kd.S_drew));exact HO330.out))) (Kd.S_lt (by (with_reducible repeat (first|apply Kd.S_alloc|apply Kd.S_drewN|apply Kd.S_drew));exact HO333.out))) (below_size (by repeat (first|(with_reducible first|exact HB.out|apply below_alloc|apply pw_below_drewN|apply below_drew1)|exact HB.out))));have n3_:=Aside0.mk (below_step (by repeat (first|(with_reducible first|exact HB.out|apply below_alloc|apply pw_below_drewN|apply below_drew1)|exact HB.out)) hb);clear HO330;clear HO333;clear HB;have HO330:=n0_;have HO333:=n1_;have HO336:=n2_;have HB:=n3_;clear n0_ n1_ n2_ n3_;(try clear hb);(try clear hb2);(try clear hk);(try clear hi);(try clear ho0);obtain⟨Ao25,co25,eo25⟩:=Kd.S_slice HO336.out;subst eo25)|(go_at_call 16;(with_reducible refine(outriggerref08_Same.calls k _ _ t334 _ _ t328 true _ ?side1 ?side2 ?side3 ?side4 A12.out).mono ?_);(case side1=>repeat (first|exact(Kd.S_reads' HO336.out).2.2|(with_reducible refine Kd.C_alloc ?_ _)|(with_reducible refine Kd.C_drewN ?_ _)|(with_reducible refine Kd.C_drew ?_)));(case side2=>exact(Kd.S_reads' HO336.out).2.1);(case side3=>repeat (first|exact(Kd.S_reads' HO330.out).2.2|(with_reducible refine Kd.C_alloc ?_ _)|(with_reducible refine Kd.C_drewN ?_ _)|(with_reducible refine Kd.C_drew ?_)));(case side4=>exact(Kd.S_reads' HO330.out).2.1);rintro e w' ⟨rfl,⟨nd,rfl⟩⟩;(try first|exact⟨rfl,_,World.drewN_drewN _ _ _⟩|exact⟨rfl,_,Eq.trans (World.drewN_drewN _ _ _) (congrArg (World.drewN _) (Nat.add_assoc _ _ _))⟩))|(go_at_call 24;(with_reducible refine(mat_Even.calls k _ _ t328 t338 _ ?side1 ?side2 A14.out).mono ?_);(case side1=>repeat (first|exact(Kd.S_reads' HO330.out).2.2|(with_reducible refine Kd.C_alloc ?_ _)|(with_reducible refine Kd.C_drewN ?_ _)|(with_reducible refine Kd.C_drew ?_)));(case side2=>exact(Kd.S_reads' HO330.out).2.1);rintro e w26 ⟨v339,rfl,ho0,hb⟩;have n0_:=Aside0.mk (Kd.S_elder' (by (with_reducible repeat (first|apply Kd.S_alloc|apply Kd.S_drewN|apply Kd.S_drew));exact HO330.out) (Kd.S_base ho0) hb);have n1_:=Aside0.mk (Kd.S_elder' (by (with_reducible repeat (first|apply Kd.S_alloc|apply Kd.S_drewN|apply Kd.S_drew));exact HO333.out) (Kd.S_base ho0) hb);have n2_:=Aside0.mk (Kd.S_elder' (by (with_reducible repeat (first|apply Kd.S_alloc|apply Kd.S_drewN|apply Kd.S_drew));exact HO336.out) (Kd.S_base ho0) hb);have n3_:=Aside0.mk (Kd.S_lower (Kd.S_new' (Kd.S_new' (Kd.S_new' ho0 (Kd.S_lt (by (with_reducible repeat (first|apply Kd.S_alloc|apply Kd.S_drewN|apply Kd.S_drew));exact HO330.out))) (Kd.S_lt (by (with_reducible repeat (first|apply Kd.S_alloc|apply Kd.S_drewN|apply Kd.S_drew));exact HO333.out))) (Kd.S_lt (by (with_reducible repeat (first|apply Kd.S_alloc|apply Kd.S_drewN|apply Kd.S_drew));exact HO336.out))) (below_size (by repeat (first|(with_reducible first|exact HB.out|apply below_alloc|apply pw_below_drewN|apply below_drew1)|exact HB.out))));have n4_:=Aside0.mk (below_step (by repeat (first|(with_reducible first|exact HB.out|apply below_alloc|apply pw_below_drewN|apply below_drew1)|exact HB.out)) hb);clear HO330;clear HO333;clear HO336;clear HB;have HO330:=n0_;have HO333:=n1_;have HO336:=n2_;have HO340:=n3_;have HB:=n4_;clear n0_ n1_ n2_ n3_ n4_;(try clear hb);(try clear hb2);(try clear hk);(try clear hi);(try clear ho0);obtain⟨Ao27,co27,eo27⟩:=Kd.S_slice HO340.out;subst eo27)|(go_at_call 16;(with_reducible refine(outriggerref08_Same.calls k _ _ t338 _ _ t328 false _ ?side1 ?side2 ?side3 ?side4 A15.out).mono ?_);(case side1=>repeat (first|exact(Kd.S_reads' HO340.out).2.2|(with_reducible refine Kd.C_alloc ?_ _)|(with_reducible refine Kd.C_drewN ?_ _)|(with_reducible refine Kd.C_drew ?_)));(case side2=>exact(Kd.S_reads' HO340.out).2.1);(case side3=>repeat (first|exact(Kd.S_reads' HO330.out).2.2|(with_reducible refine Kd.C_alloc ?_ _)|(with_reducible refine Kd.C_drewN ?_ _)|(with_reducible refine Kd.C_drew ?_)));(case side4=>exact(Kd.S_reads' HO330.out).2.1);rintro e w' ⟨rfl,⟨nd,rfl⟩⟩;(try first|exact⟨rfl,_,World.drewN_drewN _ _ _⟩|exact⟨rfl,_,Eq.trans (World.drewN_drewN _ _ _) (congrArg (World.drewN _) (Nat.add_assoc _ _ _))⟩)))
     repeat (go_quiet (first|(go_at_call 22;(with_reducible refine(mat_Turned.calls k _ _ t328 t334 _ ?side1 ?side2 A11.out).mono ?_);(case side1=>repeat (first|exact(Kd.S_reads' HO330.out).2.2|(with_reducible refine Kd.C_alloc ?_ _)|(with_reducible refine Kd.C_drewN ?_ _)|(with_reducible refine Kd.C_drew ?_)));(case side2=>exact(Kd.S_reads' HO330.out).2.1);rintro e w24 ⟨v335,rfl,ho0,hb⟩;have n0_:=Aside0.mk (Kd.S_elder' (by (with_reducible repeat (first|apply Kd.S_alloc|apply Kd.S_drewN|apply Kd.S_drew));exact HO330.out) (Kd.S_base ho0) hb);have n1_:=Aside0.mk (Kd.S_elder' (by (with_reducible repeat (first|apply Kd.S_alloc|apply Kd.S_drewN|apply Kd.S_drew));exact HO333.out) (Kd.S_base ho0) hb);have n2_:=Aside0.mk (Kd.S_lower (Kd.S_new' (Kd.S_new' ho0 (Kd.S_lt (by (with_reducible repeat (first|apply Kd.S_alloc|apply Kd.S_drewN|apply Kd.S_drew));exact HO330.out))) (Kd.S_lt (by (with_reducible repeat (first|apply Kd.S_alloc|apply Kd.S_drewN|apply Kd.S_drew));exact HO333.out))) (below_size (by repeat (first|(with_reducible first|exact HB.out|apply below_alloc|apply pw_below_drewN|apply below_drew1)|exact HB.out))));have n3_:=Aside0.mk (below_step (by repeat (first|(with_reducible first|exact HB.out|apply below_alloc|apply pw_below_drewN|apply below_drew1)|exact HB.out)) hb);clear HO330;clear HO333;clear HB;have HO330:=n0_;have HO333:=n1_;have HO336:=n2_;have HB:=n3_;clear n0_ n1_ n2_ n3_;(try clear hb);(try clear hb2);(try clear hk);(try clear hi);(try clear ho0);obtain⟨Ao25,co25,eo25⟩:=Kd.S_slice HO336.out;subst eo25)|(go_at_call 16;(with_reducible refine(outriggerref08_Same.calls k _ _ t334 _ _ t328 true _ ?side1 ?side2 ?side3 ?side4 A12.out).mono ?_);(case side1=>repeat (first|exact(Kd.S_reads' HO336.out).2.2|(with_reducible refine Kd.C_alloc ?_ _)|(with_reducible refine Kd.C_drewN ?_ _)|(with_reducible refine Kd.C_drew ?_)));(case side2=>exact(Kd.S_reads' HO336.out).2.1);(case side3=>repeat (first|exact(Kd.S_reads' HO330.out).2.2|(with_reducible refine Kd.C_alloc ?_ _)|(with_reducible refine Kd.C_drewN ?_ _)|(with_reducible refine Kd.C_drew ?_)));(case side4=>exact(Kd.S_reads' HO330.out).2.1);rintro e w' ⟨rfl,⟨nd,rfl⟩⟩;(try first|exact⟨rfl,_,World.drewN_drewN _ _ _⟩|exact⟨rfl,_,Eq.trans (World.drewN_drewN _ _ _) (congrArg (World.drewN _) (Nat.add_assoc _ _ _))⟩))|(go_at_call 24;(with_reducible refine(mat_Even.calls k _ _ t328 t338 _ ?side1 ?side2 A14.out).mono ?_);(case side1=>repeat (first|exact(Kd.S_reads' HO330.out).2.2|(with_reducible refine Kd.C_alloc ?_ _)|(with_reducible refine Kd.C_drewN ?_ _)|(with_reducible refine Kd.C_drew ?_)));(case side2=>exact(Kd.S_reads' HO330.out).2.1);rintro e w26 ⟨v339,rfl,ho0,hb⟩;have n0_:=Aside0.mk (Kd.S_elder' (by (with_reducible repeat (first|apply Kd.S_alloc|apply Kd.S_drewN|apply Kd.S_drew));exact HO330.out) (Kd.S_base ho0) hb);have n1_:=Aside0.mk (Kd.S_elder' (by (with_reducible repeat (first|apply Kd.S_alloc|apply Kd.S_drewN|apply Kd.S_drew));exact HO333.out) (Kd.S_base ho0) hb);have n2_:=Aside0.mk (Kd.S_elder' (by (with_reducible repeat (first|apply Kd.S_alloc|apply Kd.S_drewN|apply Kd.S_drew));exact HO336.out) (Kd.S_base ho0) hb);have n3_:=Aside0.mk (Kd.S_lower (Kd.S_new' (Kd.S_new' (Kd.S_new' ho0 (Kd.S_lt (by (with_reducible repeat (first|apply Kd.S_alloc|apply Kd.S_drewN|apply Kd.S_drew));exact HO330.out))) (Kd.S_lt (by (with_reducible repeat (first|apply Kd.S_alloc|apply Kd.S_drewN|apply Kd.S_drew));exact HO333.out))) (Kd.S_lt (by (with_reducible repeat (first|apply Kd.S_alloc|apply Kd.S_drewN|apply Kd.S_drew));exact HO336.out))) (below_size (by repeat (first|(with_reducible first|exact HB.out|apply below_alloc|apply pw_below_drewN|apply below_drew1)|exact HB.out))));have n4_:=Aside0.mk (below_step (by repeat (first|(with_reducible first|exact HB.out|apply below_alloc|apply pw_below_drewN|apply below_drew1)|exact HB.out)) hb);clear HO330;clear HO333;clear HO336;clear HB;have HO330:=n0_;have HO333:=n1_;have HO336:=n2_;have HO340:=n3_;have HB:=n4_;clear n0_ n1_ n2_ n3_ n4_;(try clear hb);(try clear hb2);(try clear hk);(try clear hi);(try clear ho0);obtain⟨Ao27,co27,eo27⟩:=Kd.S_slice HO340.out;subst eo27)|(go_at_call 16;(with_reducible refine(outriggerref08_Same.calls k _ _ t338 _ _ t328 false _ ?side1 ?side2 ?side3 ?side4 A15.out).mono ?_);(case side1=>repeat (first|exact(Kd.S_reads' HO340.out).2.2|(with_reducible refine Kd.C_alloc ?_ _)|(with_reducible refine Kd.C_drewN ?_ _)|(with_reducible refine Kd.C_drew ?_)));(case side2=>exact(Kd.S_reads' HO340.out).2.1);(case side3=>repeat (first|exact(Kd.S_reads' HO330.out).2.2|(with_reducible refine Kd.C_alloc ?_ _)|(with_reducible refine Kd.C_drewN ?_ _)|(with_reducible refine Kd.C_drew ?_)));(case side4=>exact(Kd.S_reads' HO330.out).2.1);rintro e w' ⟨rfl,⟨nd,rfl⟩⟩;(try first|exact⟨rfl,_,World.drewN_drewN _ _ _⟩|exact⟨rfl,_,Eq.trans (World.drewN_drewN _ _ _) (congrArg (World.drewN _) (Nat.add_assoc _ _ _))⟩)));try go_wp2_with (first|(go_at_call 22;(with_reducible refine(mat_Turned.calls k _ _ t328 t334 _ ?side1 ?side2 A11.out).mono ?_);(case side1=>repeat (first|exact(Kd.S_reads' HO330.out).2.2|(with_reducible refine Kd.C_alloc ?_ _)|(with_reducible refine Kd.C_drewN ?_ _)|(with_reducible refine Kd.C_drew ?_)));(case side2=>exact(Kd.S_reads' HO330.out).2.1);rintro e w24 ⟨v335,rfl,ho0,hb⟩;have n0_:=Aside0.mk (Kd.S_elder' (by (with_reducible repeat (first|apply Kd.S_alloc|apply Kd.S_drewN|apply Kd.S_drew));exact HO330.out) (Kd.S_base ho0) hb);have n1_:=Aside0.mk (Kd.S_elder' (by (with_reducible repeat (first|apply Kd.S_alloc|apply Kd.S_drewN|apply Kd.S_drew));exact HO333.out) (Kd.S_base ho0) hb);have n2_:=Aside0.mk (Kd.S_lower (Kd.S_new' (Kd.S_new' ho0 (Kd.S_lt (by (with_reducible repeat (first|apply Kd.S_alloc|apply Kd.S_drewN|apply Kd.S_drew));exact HO330.out))) (Kd.S_lt (by (with_reducible repeat (first|apply Kd.S_alloc|apply Kd.S_drewN|apply Kd.S_drew));exact HO333.out))) (below_size (by repeat (first|(with_reducible first|exact HB.out|apply below_alloc|apply pw_below_drewN|apply below_drew1)|exact HB.out))));have n3_:=Aside0.mk (below_step (by repeat (first|(with_reducible first|exact HB.out|apply below_alloc|apply pw_below_drewN|apply below_drew1)|exact HB.out)) hb);clear HO330;clear HO333;clear HB;have HO330:=n0_;have HO333:=n1_;have HO336:=n2_;have HB:=n3_;clear n0_ n1_ n2_ n3_;(try clear hb);(try clear hb2);(try clear hk);(try clear hi);(try clear ho0);obtain⟨Ao25,co25,eo25⟩:=Kd.S_slice HO336.out;subst eo25)|(go_at_call 16;(with_reducible refine(outriggerref08_Same.calls k _ _ t334 _ _ t328 true _ ?side1 ?side2 ?side3 ?side4 A12.out).mono ?_);(case side1=>repeat (first|exact(Kd.S_reads' HO336.out).2.2|(with_reducible refine Kd.C_alloc ?_ _)|(with_reducible refine Kd.C_drewN ?_ _)|(with_reducible refine Kd.C_drew ?_)));(case side2=>exact(Kd.S_reads' HO336.out).2.1);(case side3=>repeat (first|exact(Kd.S_reads' HO330.out).2.2|(with_reducible refine Kd.C_alloc ?_ _)|(with_reducible refine Kd.C_drewN ?_ _)|(with_reducible refine Kd.C_drew ?_)));(case side4=>exact(Kd.S_reads' HO330.out).2.1);rintro e w' ⟨rfl,⟨nd,rfl⟩⟩;(try first|exact⟨rfl,_,World.drewN_drewN _ _ _⟩|exact⟨rfl,_,Eq.trans (World.drewN_drewN _ _ _) (congrArg (World.drewN _) (Nat.add_assoc _ _ _))⟩))|(go_at_call 24;(with_reducible refine(mat_Even.calls k _ _ t328 t338 _ ?side1 ?side2 A14.out).mono ?_);(case side1=>repeat (first|exact(Kd.S_reads' HO330.out).2.2|(with_reducible refine Kd.C_alloc ?_ _)|(with_reducible refine Kd.C_drewN ?_ _)|(with_reducible refine Kd.C_drew ?_)));(case side2=>exact(Kd.S_reads' HO330.out).2.1);rintro e w26 ⟨v339,rfl,ho0,hb⟩;have n0_:=Aside0.mk (Kd.S_elder' (by (with_reducible repeat (first|apply Kd.S_alloc|apply Kd.S_drewN|apply Kd.S_drew));exact HO330.out) (Kd.S_base ho0) hb);have n1_:=Aside0.mk (Kd.S_elder' (by (with_reducible repeat (first|apply Kd.S_alloc|apply Kd.S_drewN|apply Kd.S_drew));exact HO333.out) (Kd.S_base ho0) hb);have n2_:=Aside0.mk (Kd.S_elder' (by (with_reducible repeat (first|apply Kd.S_alloc|apply Kd.S_drewN|apply Kd.S_drew));exact HO336.out) (Kd.S_base ho0) hb);have n3_:=Aside0.mk (Kd.S_lower (Kd.S_new' (Kd.S_new' (Kd.S_new' ho0 (Kd.S_lt (by (with_reducible repeat (first|apply Kd.S_alloc|apply Kd.S_drewN|apply Kd.S_drew));exact HO330.out))) (Kd.S_lt (by (with_reducible repeat (first|apply Kd.S_alloc|apply Kd.S_drewN|apply Kd.S_drew));exact HO333.out))) (Kd.S_lt (by (with_reducible repeat (first|apply Kd.S_alloc|apply Kd.S_drewN|apply Kd.S_drew));exact HO336.out))) (below_size (by repeat (first|(with_reducible first|exact HB.out|apply below_alloc|apply pw_below_drewN|apply below_drew1)|exact HB.out))));have n4_:=Aside0.mk (below_step (by repeat (first|(with_reducible first|exact HB.out|apply below_alloc|apply pw_below_drewN|apply below_drew1)|exact HB.out)) hb);clear HO330;clear HO333;clear HO336;clear HB;have HO330:=n0_;have HO333:=n1_;have HO336:=n2_;have HO340:=n3_;have HB:=n4_;clear n0_ n1_ n2_ n3_ n4_;(try clear hb);(try clear hb2);(try clear hk);(try clear hi);(try clear ho0);obtain⟨Ao27,co27,eo27⟩:=Kd.S_slice HO340.out;subst eo27)|(go_at_call 16;(with_reducible refine(outriggerref08_Same.calls k _ _ t338 _ _ t328 false _ ?side1 ?side2 ?side3 ?side4 A15.out).mono ?_);(case side1=>repeat (first|exact(Kd.S_reads' HO340.out).2.2|(with_reducible refine Kd.C_alloc ?_ _)|(with_reducible refine Kd.C_drewN ?_ _)|(with_reducible refine Kd.C_drew ?_)));(case side2=>exact(Kd.S_reads' HO340.out).2.1);(case side3=>repeat (first|exact(Kd.S_reads' HO330.out).2.2|(with_reducible refine Kd.C_alloc ?_ _)|(with_reducible refine Kd.C_drewN ?_ _)|(with_reducible refine Kd.C_drew ?_)));(case side4=>exact(Kd.S_reads' HO330.out).2.1);rintro e w' ⟨rfl,⟨nd,rfl⟩⟩;(try first|exact⟨rfl,_,World.drewN_drewN _ _ _⟩|exact⟨rfl,_,Eq.trans (World.drewN_drewN _ _ _) (congrArg (World.drewN _) (Nat.add_assoc _ _ _))⟩))))
     go_meet
     case rel=>exact⟨_,(true),(by first|rfl|(simp;done)|(simp [*];done)),H',⟨by first|omega|exact Nat.le_refl _⟩,⟨by (with_reducible repeat (first|apply Kd.S_alloc|apply Kd.S_drewN|apply Kd.S_drew));exact Kd.S_mono HO330.out (fun _ hk=>hk.1.1.2)⟩,⟨by (with_reducible repeat (first|apply Kd.S_alloc|apply Kd.S_drewN|apply Kd.S_drew));exact Kd.S_mono HO333.out (fun _ hk=>hk.1.1.2)⟩,⟨by repeat (first|(with_reducible first|exact HB.out|apply below_alloc|apply pw_below_drewN|apply below_drew1)|exact HB.out)⟩⟩
   ·replace c13:=Bool.eq_false_iff.mpr c13
    subst c13
    have H1:(outriggerlaw08_MatEven.j0 k l0 t326 t328 t331 true)=some r:=by rw [if_neg (show ¬(false=true) by decide)] at H;exact H
    clear H
    have H:=H1
    clear H1
    have H':=Aside0.mk H
    clear H
    obtain⟨Ao28,co28,eo28⟩:=Kd.S_slice HO330.out
    subst eo28
    go_wp2_with (first|(go_at_call 22;(with_reducible refine(mat_Turned.calls k _ _ t328 t334 _ ?side1 ?side2 A11.out).mono ?_);(case side1=>repeat (first|exact(Kd.S_reads' HO330.out).2.2|(with_reducible refine Kd.C_alloc ?_ _)|(with_reducible refine Kd.C_drewN ?_ _)|(with_reducible refine Kd.C_drew ?_)));(case side2=>exact(Kd.S_reads' HO330.out).2.1);rintro e w29 ⟨v335,rfl,ho0,hb⟩;have n0_:=Aside0.mk (Kd.S_elder' (by (with_reducible repeat (first|apply Kd.S_alloc|apply Kd.S_drewN|apply Kd.S_drew));exact HO330.out) (Kd.S_base ho0) hb);have n1_:=Aside0.mk (Kd.S_elder' (by (with_reducible repeat (first|apply Kd.S_alloc|apply Kd.S_drewN|apply Kd.S_drew));exact HO333.out) (Kd.S_base ho0) hb);have n2_:=Aside0.mk (Kd.S_lower (Kd.S_new' (Kd.S_new' ho0 (Kd.S_lt (by (with_reducible repeat (first|apply Kd.S_alloc|apply Kd.S_drewN|apply Kd.S_drew));exact HO330.out))) (Kd.S_lt (by (with_reducible repeat (first|apply Kd.S_alloc|apply Kd.S_drewN|apply Kd.S_drew));exact HO333.out))) (below_size (by repeat (first|(with_reducible first|exact HB.out|apply below_alloc|apply pw_below_drewN|apply below_drew1)|exact HB.out))));have n3_:=Aside0.mk (below_step (by repeat (first|(with_reducible first|exact HB.out|apply below_alloc|apply pw_below_drewN|apply below_drew1)|exact HB.out)) hb);clear HO330;clear HO333;clear HB;have HO330:=n0_;have HO333:=n1_;have HO336:=n2_;have HB:=n3_;clear n0_ n1_ n2_ n3_;(try clear hb);(try clear hb2);(try clear hk);(try clear hi);(try clear ho0);obtain⟨Ao30,co30,eo30⟩:=Kd.S_slice HO336.out;subst eo30)|(go_at_call 16;(with_reducible refine(outriggerref08_Same.calls k _ _ t334 _ _ t328 false _ ?side1 ?side2 ?side3 ?side4 A12.out).mono ?_);(case side1=>repeat (first|exact(Kd.S_reads' HO336.out).2.2|(with_reducible refine Kd.C_alloc ?_ _)|(with_reducible refine Kd.C_drewN ?_ _)|(with_reducible refine Kd.C_drew ?_)));(case side2=>exact(Kd.S_reads' HO336.out).2.1);(case side3=>repeat (first|exact(Kd.S_reads' HO330.out).2.2|(with_reducible refine Kd.C_alloc ?_ _)|(with_reducible refine Kd.C_drewN ?_ _)|(with_reducible refine Kd.C_drew ?_)));(case side4=>exact(Kd.S_reads' HO330.out).2.1);rintro e w' ⟨rfl,⟨nd,rfl⟩⟩;(try first|exact⟨rfl,_,World.drewN_drewN _ _ _⟩|exact⟨rfl,_,Eq.trans (World.drewN_drewN _ _ _) (congrArg (World.drewN _) (Nat.add_assoc _ _ _))⟩)))
    repeat (go_quiet (first|(go_at_call 22;(with_reducible refine(mat_Turned.calls k _ _ t328 t334 _ ?side1 ?side2 A11.out).mono ?_);(case side1=>repeat (first|exact(Kd.S_reads' HO330.out).2.2|(with_reducible refine Kd.C_alloc ?_ _)|(with_reducible refine Kd.C_drewN ?_ _)|(with_reducible refine Kd.C_drew ?_)));(case side2=>exact(Kd.S_reads' HO330.out).2.1);rintro e w29 ⟨v335,rfl,ho0,hb⟩;have n0_:=Aside0.mk (Kd.S_elder' (by (with_reducible repeat (first|apply Kd.S_alloc|apply Kd.S_drewN|apply Kd.S_drew));exact HO330.out) (Kd.S_base ho0) hb);have n1_:=Aside0.mk (Kd.S_elder' (by (with_reducible repeat (first|apply Kd.S_alloc|apply Kd.S_drewN|apply Kd.S_drew));exact HO333.out) (Kd.S_base ho0) hb);have n2_:=Aside0.mk (Kd.S_lower (Kd.S_new' (Kd.S_new' ho0 (Kd.S_lt (by (with_reducible repeat (first|apply Kd.S_alloc|apply Kd.S_drewN|apply Kd.S_drew));exact HO330.out))) (Kd.S_lt (by (with_reducible repeat (first|apply Kd.S_alloc|apply Kd.S_drewN|apply Kd.S_drew));exact HO333.out))) (below_size (by repeat (first|(with_reducible first|exact HB.out|apply below_alloc|apply pw_below_drewN|apply below_drew1)|exact HB.out))));have n3_:=Aside0.mk (below_step (by repeat (first|(with_reducible first|exact HB.out|apply below_alloc|apply pw_below_drewN|apply below_drew1)|exact HB.out)) hb);clear HO330;clear HO333;clear HB;have HO330:=n0_;have HO333:=n1_;have HO336:=n2_;have HB:=n3_;clear n0_ n1_ n2_ n3_;(try clear hb);(try clear hb2);(try clear hk);(try clear hi);(try clear ho0);obtain⟨Ao30,co30,eo30⟩:=Kd.S_slice HO336.out;subst eo30)|(go_at_call 16;(with_reducible refine(outriggerref08_Same.calls k _ _ t334 _ _ t328 false _ ?side1 ?side2 ?side3 ?side4 A12.out).mono ?_);(case side1=>repeat (first|exact(Kd.S_reads' HO336.out).2.2|(with_reducible refine Kd.C_alloc ?_ _)|(with_reducible refine Kd.C_drewN ?_ _)|(with_reducible refine Kd.C_drew ?_)));(case side2=>exact(Kd.S_reads' HO336.out).2.1);(case side3=>repeat (first|exact(Kd.S_reads' HO330.out).2.2|(with_reducible refine Kd.C_alloc ?_ _)|(with_reducible refine Kd.C_drewN ?_ _)|(with_reducible refine Kd.C_drew ?_)));(case side4=>exact(Kd.S_reads' HO330.out).2.1);rintro e w' ⟨rfl,⟨nd,rfl⟩⟩;(try first|exact⟨rfl,_,World.drewN_drewN _ _ _⟩|exact⟨rfl,_,Eq.trans (World.drewN_drewN _ _ _) (congrArg (World.drewN _) (Nat.add_assoc _ _ _))⟩)));try go_wp2_with (first|(go_at_call 22;(with_reducible refine(mat_Turned.calls k _ _ t328 t334 _ ?side1 ?side2 A11.out).mono ?_);(case side1=>repeat (first|exact(Kd.S_reads' HO330.out).2.2|(with_reducible refine Kd.C_alloc ?_ _)|(with_reducible refine Kd.C_drewN ?_ _)|(with_reducible refine Kd.C_drew ?_)));(case side2=>exact(Kd.S_reads' HO330.out).2.1);rintro e w29 ⟨v335,rfl,ho0,hb⟩;have n0_:=Aside0.mk (Kd.S_elder' (by (with_reducible repeat (first|apply Kd.S_alloc|apply Kd.S_drewN|apply Kd.S_drew));exact HO330.out) (Kd.S_base ho0) hb);have n1_:=Aside0.mk (Kd.S_elder' (by (with_reducible repeat (first|apply Kd.S_alloc|apply Kd.S_drewN|apply Kd.S_drew));exact HO333.out) (Kd.S_base ho0) hb);have n2_:=Aside0.mk (Kd.S_lower (Kd.S_new' (Kd.S_new' ho0 (Kd.S_lt (by (with_reducible repeat (first|apply Kd.S_alloc|apply Kd.S_drewN|apply Kd.S_drew));exact HO330.out))) (Kd.S_lt (by (with_reducible repeat (first|apply Kd.S_alloc|apply Kd.S_drewN|apply Kd.S_drew));exact HO333.out))) (below_size (by repeat (first|(with_reducible first|exact HB.out|apply below_alloc|apply pw_below_drewN|apply below_drew1)|exact HB.out))));have n3_:=Aside0.mk (below_step (by repeat (first|(with_reducible first|exact HB.out|apply below_alloc|apply pw_below_drewN|apply below_drew1)|exact HB.out)) hb);clear HO330;clear HO333;clear HB;have HO330:=n0_;have HO333:=n1_;have HO336:=n2_;have HB:=n3_;clear n0_ n1_ n2_ n3_;(try clear hb);(try clear hb2);(try clear hk);(try clear hi);(try clear ho0);obtain⟨Ao30,co30,eo30⟩:=Kd.S_slice HO336.out;subst eo30)|(go_at_call 16;(with_reducible refine(outriggerref08_Same.calls k _ _ t334 _ _ t328 false _ ?side1 ?side2 ?side3 ?side4 A12.out).mono ?_);(case side1=>repeat (first|exact(Kd.S_reads' HO336.out).2.2|(with_reducible refine Kd.C_alloc ?_ _)|(with_reducible refine Kd.C_drewN ?_ _)|(with_reducible refine Kd.C_drew ?_)));(case side2=>exact(Kd.S_reads' HO336.out).2.1);(case side3=>repeat (first|exact(Kd.S_reads' HO330.out).2.2|(with_reducible refine Kd.C_alloc ?_ _)|(with_reducible refine Kd.C_drewN ?_ _)|(with_reducible refine Kd.C_drew ?_)));(case side4=>exact(Kd.S_reads' HO330.out).2.1);rintro e w' ⟨rfl,⟨nd,rfl⟩⟩;(try first|exact⟨rfl,_,World.drewN_drewN _ _ _⟩|exact⟨rfl,_,Eq.trans (World.drewN_drewN _ _ _) (congrArg (World.drewN _) (Nat.add_assoc _ _ _))⟩))))
    go_meet
    case rel=>exact⟨_,(true),(by first|rfl|(simp;done)|(simp [*];done)),H',⟨by first|omega|exact Nat.le_refl _⟩,⟨by (with_reducible repeat (first|apply Kd.S_alloc|apply Kd.S_drewN|apply Kd.S_drew));exact Kd.S_mono HO330.out (fun _ hk=>hk.1.2)⟩,⟨by (with_reducible repeat (first|apply Kd.S_alloc|apply Kd.S_drewN|apply Kd.S_drew));exact Kd.S_mono HO333.out (fun _ hk=>hk.1.2)⟩,⟨by repeat (first|(with_reducible first|exact HB.out|apply below_alloc|apply pw_below_drewN|apply below_drew1)|exact HB.out)⟩⟩
  case rest =>
   clear HC7
   try clear c1
   try clear p2
   try clear c4
   try clear c5
   try clear c13
   try clear c16
   obtain⟨kq,x37_6,rfl,HA,HJ6,HO_4,HO_5,HB⟩:=hcut
   cases kq with
   | zero=>exact absurd HA.out (by simp [outriggerlaw08_MatEven.j0])
   | succ kj6 =>
    have H:=HA.out
    clear HA
    simp only [outriggerlaw08_MatEven.j0] at H
    by_cases c31:x37_6=true
    ·subst c31
     have H1:(some false)=some r:=by rw [if_pos rfl] at H;exact H
     clear H
     have H:=H1
     clear H1
     exact absurd ((Option.some.inj H).trans hr.out) (by decide)
    ·replace c31:=Bool.eq_false_iff.mpr c31
     subst c31
     have H1:(outriggerlaw08_MatEven.l0 kj6 l0 t326 t328 t331 0)=some r:=by rw [if_neg (show ¬(false=true) by decide)] at H;exact H
     clear H
     have H:=H1
     clear H1
     have H':=Aside0.mk H
     clear H
     go_wp2
     repeat (go_quiet (fail);try go_wp2)
     go_loopg [6] kj6 (fun kq v6 w'=>∃ (x6_2:Int),v6=.int .i64 x6_2∧Aside0 (outriggerlaw08_MatEven.l0 kq l0 t326 t328 t331 x6_2=some r)∧Aside0 (kq≤kj6)∧Aside0 (Kd.S (Kd.slice 3 (Kd.int .i64)) 23 w' w.heap.size (fun k_=>some k_≠(v332:Value).ownBlock) v329 t328)∧Aside0 (Kd.S (Kd.slice 3 (Kd.int .i64)) 23 w' w.heap.size (fun k_=>some k_≠(v329:Value).ownBlock) v332 t331)∧Aside0 (Below w.heap.size w w'))
     case atStart=>exact⟨(0),(by first|rfl|(simp;done)|(simp [*];done)),H',⟨Nat.le_refl _⟩,⟨by (with_reducible repeat (first|apply Kd.S_alloc|apply Kd.S_drewN|apply Kd.S_drew));exact HO_4.out⟩,⟨by (with_reducible repeat (first|apply Kd.S_alloc|apply Kd.S_drewN|apply Kd.S_drew));exact HO_5.out⟩,⟨by repeat (first|(with_reducible first|exact HB.out|apply below_alloc|apply pw_below_drewN|apply below_drew1)|exact HB.out)⟩⟩
     case round =>
      clear H'
      try clear c1
      try clear p2
      try clear c3
      try clear c4
      try clear c5
      try clear c13
      try clear c16
      try clear c31
      try clear p2
      obtain⟨x6_2,rfl,HA,HK2,HO_4,HO_5,HB⟩:=hrel
      cases gk with
      | zero=>exact absurd HA.out (by simp [outriggerlaw08_MatEven.l0])
      | succ k2 =>
       have H:=HA.out
       clear HA
       simp only [outriggerlaw08_MatEven.l0] at H
       by_cases c32:x6_2<(t328.length:Int)
       ·rw [if_pos c32] at H
        have c32b0:decide (x6_2<(t328.length:Int))=true:=decide_eq_true c32
        clear c32
        have H':=Aside0.mk H
        clear H
        obtain⟨Ao33,co33,eo33⟩:=Kd.S_slice HO_4.out
        subst eo33
        go_wp2
        repeat (go_quiet (fail);try go_wp2)
        go_loopg [7] k2 (fun kq v7 w'=>∃ (x7_3:Int),v7=.int .i64 x7_3∧Aside0 (outriggerlaw08_MatEven.l1 kq l0 t326 t328 t331 x6_2 x7_3=some r)∧Aside0 (kq≤k2)∧Aside0 (Kd.S (Kd.slice 3 (Kd.int .i64)) 23 w' w.heap.size (fun k_=>some k_≠(v332:Value).ownBlock) (.slice Ao33 t328.length co33) t328)∧Aside0 (Kd.S (Kd.slice 3 (Kd.int .i64)) 23 w' w.heap.size (fun k_=>some k_≠((.slice Ao33 t328.length co33):Value).ownBlock) v332 t331)∧Aside0 (Below w.heap.size w w'))
        case atStart=>exact⟨(0),(by first|rfl|(simp;done)|(simp [*];done)),H',⟨Nat.le_refl _⟩,⟨by (with_reducible repeat (first|apply Kd.S_alloc|apply Kd.S_drewN|apply Kd.S_drew));exact HO_4.out⟩,⟨by (with_reducible repeat (first|apply Kd.S_alloc|apply Kd.S_drewN|apply Kd.S_drew));exact HO_5.out⟩,⟨by repeat (first|(with_reducible first|exact HB.out|apply below_alloc|apply pw_below_drewN|apply below_drew1)|exact HB.out)⟩⟩
        case round =>
         clear H'
         try clear c1
         try clear p2
         try clear c3
         try clear c4
         try clear c5
         try clear c13
         try clear c16
         try clear c31
         try clear c32
         try clear c32b0
         try clear p2
         obtain⟨x7_3,rfl,HA,HK3,HO_4,HO_5,HB⟩:=hrel
         cases gk with
         | zero=>exact absurd HA.out (by simp [outriggerlaw08_MatEven.l1])
         | succ k3 =>
          have H:=HA.out
          clear HA
          simp only [outriggerlaw08_MatEven.l1] at H
          by_cases c34:x7_3<(t328.length:Int)
          ·rw [if_pos c34] at H
           have c34b0:decide (x7_3<(t328.length:Int))=true:=decide_eq_true c34
           clear c34
           by_cases c35:0≤x6_2
           ·rw [if_pos c35] at H
            have c35b0:decide (0≤x6_2)=true:=decide_eq_true c35
            clear c35
            by_cases c36:x6_2<(t331.length:Int)
            ·rw [if_pos c36] at H
             have c36b0:decide (x6_2<(t331.length:Int))=true:=decide_eq_true c36
             clear c36
             by_cases c37:0≤x7_3
             ·rw [if_pos c37] at H
              have c37b0:decide (0≤x7_3)=true:=decide_eq_true c37
              clear c37
              by_cases c38:x7_3<((rd_L1 t331 x6_2).length:Int)
              ·rw [if_pos c38] at H
               have c38b0:decide (x7_3<((rd_L1 t331 x6_2).length:Int))=true:=decide_eq_true c38
               clear c38
               by_cases c39:x7_3<(t331.length:Int)
               ·rw [if_pos c39] at H
                have c39b0:decide (x7_3<(t331.length:Int))=true:=decide_eq_true c39
                clear c39
                by_cases c40:x6_2<((rd_L1 t331 x7_3).length:Int)
                ·rw [if_pos c40] at H
                 have c40b0:decide (x6_2<((rd_L1 t331 x7_3).length:Int))=true:=decide_eq_true c40
                 clear c40
                 obtain⟨ji41,hji41⟩:∃ j_:Int,(mn (rd (rd_L1 t331 x6_2) x7_3) (rd (rd_L1 t331 x7_3) x6_2))=j_:=⟨_,rfl⟩
                 replace H:(if x6_2<(t328.length:Int) then (if x7_3<((rd_L1 t328 x6_2).length:Int) then (if (rd (rd_L1 t328 x6_2) x7_3)<(ji41) then (some false) else (if (rd (rd_L1 t328 x6_2) x7_3) > (mx (rd (rd_L1 t331 x6_2) x7_3) (rd (rd_L1 t331 x7_3) x6_2)) then (some false) else (outriggerlaw08_MatEven.l1 k3 l0 t326 t328 t331 x6_2 (wrap64 (x7_3+1))))) else (none)) else (none))=some r:=by first|(rw [hji41] at H;exact H)|(simp only [hji41] at H ⊢;exact H)
                 have hji41_:(if (rd (rd_L1 t331 x7_3) x6_2)<(rd (rd_L1 t331 x6_2) x7_3) then (rd (rd_L1 t331 x7_3) x6_2) else (rd (rd_L1 t331 x6_2) x7_3))=ji41:=hji41
                 obtain⟨ji42,hji42⟩:∃ j_:Int,(mx (rd (rd_L1 t331 x6_2) x7_3) (rd (rd_L1 t331 x7_3) x6_2))=j_:=⟨_,rfl⟩
                 replace H:(if x6_2<(t328.length:Int) then (if x7_3<((rd_L1 t328 x6_2).length:Int) then (if (rd (rd_L1 t328 x6_2) x7_3)<(ji41) then (some false) else (if (rd (rd_L1 t328 x6_2) x7_3) > (ji42) then (some false) else (outriggerlaw08_MatEven.l1 k3 l0 t326 t328 t331 x6_2 (wrap64 (x7_3+1))))) else (none)) else (none))=some r:=by first|(rw [hji42] at H;exact H)|(simp only [hji42] at H ⊢;exact H)
                 have hji42_:(if (rd (rd_L1 t331 x6_2) x7_3)<(rd (rd_L1 t331 x7_3) x6_2) then (rd (rd_L1 t331 x7_3) x6_2) else (rd (rd_L1 t331 x6_2) x7_3))=ji42:=hji42
                 by_cases c43:x6_2<(t328.length:Int)
                 ·rw [if_pos c43] at H
                  have c43b0:decide (x6_2<(t328.length:Int))=true:=decide_eq_true c43
                  clear c43
                  by_cases c44:x7_3<((rd_L1 t328 x6_2).length:Int)
                  ·rw [if_pos c44] at H
                   have c44b0:decide (x7_3<((rd_L1 t328 x6_2).length:Int))=true:=decide_eq_true c44
                   clear c44
                   by_cases c45:(rd (rd_L1 t328 x6_2) x7_3)<(ji41)
                   ·rw [if_pos c45] at H
                    have c45b0:decide ((rd (rd_L1 t328 x6_2) x7_3)<(ji41))=true:=decide_eq_true c45
                    clear c45
                    exact absurd ((Option.some.inj H).trans hr.out) (by decide)
                   ·rw [if_neg c45] at H
                    have c45b0:decide ((rd (rd_L1 t328 x6_2) x7_3)<(ji41))=false:=decide_eq_false c45
                    clear c45
                    by_cases c47:(rd (rd_L1 t328 x6_2) x7_3) > (ji42)
                    ·rw [if_pos c47] at H
                     have c47b0:decide ((ji42)<(rd (rd_L1 t328 x6_2) x7_3))=true:=decide_eq_true c47
                     clear c47
                     exact absurd ((Option.some.inj H).trans hr.out) (by decide)
                    ·rw [if_neg c47] at H
                     have c47b0:decide ((ji42)<(rd (rd_L1 t328 x6_2) x7_3))=false:=decide_eq_false c47
                     clear c47
                     have H':=Aside0.mk H
                     clear H
                     obtain⟨Ao49,co49,eo49⟩:=Kd.S_slice HO_5.out
                     subst eo49
                     have p343:0≤(x6_2:Int):=of_decide_eq_true (by first|(with_reducible assumption)|assumption)
                     have q343:x6_2<(t331.length:Int):=of_decide_eq_true (by first|(with_reducible assumption)|assumption)
                     obtain⟨ad343,A343_0,c343_0,e343,hx343_0,hl343_0,hi343_0⟩:=at_L1 (Kd.S_reads' HO_5.out).2.2 x6_2 p343 q343
                     cases e343
                     obtain⟨ce343,hce343,hMe343,hcc343⟩:=Kd.S_get HO_5.out [] x6_2 p343 (by first|exact q343|exact of_decide_eq_true (by first|(with_reducible assumption)|assumption)|(have e_:=(Kd.S_reads' HO_5.out).1;omega))
                     obtain⟨ve343_0,rfl,ge343_0⟩:=hMe343
                     have hv343_0:=hcc343 0 _ rfl
                     rw [Nat.add_zero,show((Kd.slice 3 (Kd.int .i64))).sz=1 from rfl,Nat.mul_one] at hv343_0
                     replace hv343_0:=Option.some.inj (hv343_0.symm.trans hx343_0)
                     rw [hv343_0] at ge343_0
                     have HL343_0:=Aside0.mk (show Kd.R (Kd.int .i64) 3 _ _ _ _ (rd_L1 t331 x6_2) from ge343_0)
                     clear hv343_0 ge343_0
                     clear hcc343 hce343
                     have HR343_0:=Aside0.mk hi343_0
                     have HC343_0:=Aside0.mk hl343_0
                     clear hi343_0 hl343_0
                     replace p343:=eq_true p343
                     replace q343:=eq_true q343
                     have p344:0≤(x7_3:Int):=of_decide_eq_true (by first|(with_reducible assumption)|assumption)
                     have q344:x7_3<((rd_L1 t331 x6_2).length:Int):=of_decide_eq_true (by first|(with_reducible assumption)|assumption)
                     obtain⟨ad344,e344,hx344_0⟩:=Kd.at_int (by repeat (first|(with_reducible exact HR343_0.out)|(with_reducible refine Kd.C_alloc ?_ _)|(with_reducible refine Kd.C_drewN ?_ _)|(with_reducible refine Kd.C_drew ?_)|exact HR343_0.out)) x7_3 p344 q344
                     cases e344
                     replace p344:=eq_true p344
                     replace q344:=eq_true q344
                     have p345:0≤(x7_3:Int):=of_decide_eq_true (by first|(with_reducible assumption)|assumption)
                     have q345:x7_3<(t331.length:Int):=of_decide_eq_true (by first|(with_reducible assumption)|assumption)
                     obtain⟨ad345,A345_0,c345_0,e345,hx345_0,hl345_0,hi345_0⟩:=at_L1 (Kd.S_reads' HO_5.out).2.2 x7_3 p345 q345
                     obtain rfl:ad343=ad345:=(by injection e345)
                     obtain⟨ce345,hce345,hMe345,hcc345⟩:=Kd.S_get HO_5.out [] x7_3 p345 (by first|exact q345|exact of_decide_eq_true (by first|(with_reducible assumption)|assumption)|(have e_:=(Kd.S_reads' HO_5.out).1;omega))
                     obtain⟨ve345_0,rfl,ge345_0⟩:=hMe345
                     have hv345_0:=hcc345 0 _ rfl
                     rw [Nat.add_zero,show((Kd.slice 3 (Kd.int .i64))).sz=1 from rfl,Nat.mul_one] at hv345_0
                     replace hv345_0:=Option.some.inj (hv345_0.symm.trans hx345_0)
                     rw [hv345_0] at ge345_0
                     have HL345_0:=Aside0.mk (show Kd.R (Kd.int .i64) 3 _ _ _ _ (rd_L1 t331 x7_3) from ge345_0)
                     clear hv345_0 ge345_0
                     clear hcc345 hce345
                     have HR345_0:=Aside0.mk hi345_0
                     have HC345_0:=Aside0.mk hl345_0
                     clear hi345_0 hl345_0
                     replace p345:=eq_true p345
                     replace q345:=eq_true q345
                     have p346:0≤(x6_2:Int):=of_decide_eq_true (by first|(with_reducible assumption)|assumption)
                     have q346:x6_2<((rd_L1 t331 x7_3).length:Int):=of_decide_eq_true (by first|(with_reducible assumption)|assumption)
                     obtain⟨ad346,e346,hx346_0⟩:=Kd.at_int (by repeat (first|(with_reducible exact HR345_0.out)|(with_reducible refine Kd.C_alloc ?_ _)|(with_reducible refine Kd.C_drewN ?_ _)|(with_reducible refine Kd.C_drew ?_)|exact HR345_0.out)) x6_2 p346 q346
                     cases e346
                     replace p346:=eq_true p346
                     replace q346:=eq_true q346
                     have p347:0≤(x6_2:Int):=of_decide_eq_true (by first|(with_reducible assumption)|assumption)
                     have q347:x6_2<(t331.length:Int):=of_decide_eq_true (by first|(with_reducible assumption)|assumption)
                     obtain⟨ad347,A347_0,c347_0,e347,hx347_0,hl347_0,hi347_0⟩:=at_L1 (Kd.S_reads' HO_5.out).2.2 x6_2 p347 q347
                     obtain rfl:ad343=ad347:=(by injection e347)
                     obtain⟨ce347,hce347,hMe347,hcc347⟩:=Kd.S_get HO_5.out [] x6_2 p347 (by first|exact q347|exact of_decide_eq_true (by first|(with_reducible assumption)|assumption)|(have e_:=(Kd.S_reads' HO_5.out).1;omega))
                     obtain⟨ve347_0,rfl,ge347_0⟩:=hMe347
                     have hv347_0:=hcc347 0 _ rfl
                     rw [Nat.add_zero,show((Kd.slice 3 (Kd.int .i64))).sz=1 from rfl,Nat.mul_one] at hv347_0
                     replace hv347_0:=Option.some.inj (hv347_0.symm.trans hx347_0)
                     rw [hv347_0] at ge347_0
                     have HL347_0:=Aside0.mk (show Kd.R (Kd.int .i64) 3 _ _ _ _ (rd_L1 t331 x6_2) from ge347_0)
                     clear hv347_0 ge347_0
                     clear hcc347 hce347
                     have HR347_0:=Aside0.mk hi347_0
                     have HC347_0:=Aside0.mk hl347_0
                     clear hi347_0 hl347_0
                     replace p347:=eq_true p347
                     replace q347:=eq_true q347
                     have ea_:=Option.some.inj (hx343_0.symm.trans hx347_0)
                     injection ea_ with ea_ en_ ec_
                     subst ea_
                     subst ec_
                     clear en_
                     have p348:0≤(x7_3:Int):=of_decide_eq_true (by first|(with_reducible assumption)|assumption)
                     have q348:x7_3<((rd_L1 t331 x6_2).length:Int):=of_decide_eq_true (by first|(with_reducible assumption)|assumption)
                     obtain⟨ad348,e348,hx348_0⟩:=Kd.at_int (by repeat (first|(with_reducible exact HR347_0.out)|(with_reducible refine Kd.C_alloc ?_ _)|(with_reducible refine Kd.C_drewN ?_ _)|(with_reducible refine Kd.C_drew ?_)|exact HR347_0.out)) x7_3 p348 q348
                     cases e348
                     replace p348:=eq_true p348
                     replace q348:=eq_true q348
                     have p349:0≤(x7_3:Int):=of_decide_eq_true (by first|(with_reducible assumption)|assumption)
                     have q349:x7_3<(t331.length:Int):=of_decide_eq_true (by first|(with_reducible assumption)|assumption)
                     obtain⟨ad349,A349_0,c349_0,e349,hx349_0,hl349_0,hi349_0⟩:=at_L1 (Kd.S_reads' HO_5.out).2.2 x7_3 p349 q349
                     obtain rfl:ad343=ad349:=(by injection e349)
                     obtain⟨ce349,hce349,hMe349,hcc349⟩:=Kd.S_get HO_5.out [] x7_3 p349 (by first|exact q349|exact of_decide_eq_true (by first|(with_reducible assumption)|assumption)|(have e_:=(Kd.S_reads' HO_5.out).1;omega))
                     obtain⟨ve349_0,rfl,ge349_0⟩:=hMe349
                     have hv349_0:=hcc349 0 _ rfl
                     rw [Nat.add_zero,show((Kd.slice 3 (Kd.int .i64))).sz=1 from rfl,Nat.mul_one] at hv349_0
                     replace hv349_0:=Option.some.inj (hv349_0.symm.trans hx349_0)
                     rw [hv349_0] at ge349_0
                     have HL349_0:=Aside0.mk (show Kd.R (Kd.int .i64) 3 _ _ _ _ (rd_L1 t331 x7_3) from ge349_0)
                     clear hv349_0 ge349_0
                     clear hcc349 hce349
                     have HR349_0:=Aside0.mk hi349_0
                     have HC349_0:=Aside0.mk hl349_0
                     clear hi349_0 hl349_0
                     replace p349:=eq_true p349
                     replace q349:=eq_true q349
                     have ea_:=Option.some.inj (hx345_0.symm.trans hx349_0)
                     injection ea_ with ea_ en_ ec_
                     subst ea_
                     subst ec_
                     clear en_
                     have p350:0≤(x6_2:Int):=of_decide_eq_true (by first|(with_reducible assumption)|assumption)
                     have q350:x6_2<((rd_L1 t331 x7_3).length:Int):=of_decide_eq_true (by first|(with_reducible assumption)|assumption)
                     obtain⟨ad350,e350,hx350_0⟩:=Kd.at_int (by repeat (first|(with_reducible exact HR349_0.out)|(with_reducible refine Kd.C_alloc ?_ _)|(with_reducible refine Kd.C_drewN ?_ _)|(with_reducible refine Kd.C_drew ?_)|exact HR349_0.out)) x6_2 p350 q350
                     cases e350
                     replace p350:=eq_true p350
                     replace q350:=eq_true q350
                     have p351:0≤(x6_2:Int):=of_decide_eq_true (by first|(with_reducible assumption)|assumption)
                     have q351:x6_2<(t328.length:Int):=of_decide_eq_true (by first|(with_reducible assumption)|assumption)
                     obtain⟨ad351,A351_0,c351_0,e351,hx351_0,hl351_0,hi351_0⟩:=at_L1 (Kd.S_reads' HO_4.out).2.2 x6_2 p351 q351
                     cases e351
                     obtain⟨ce351,hce351,hMe351,hcc351⟩:=Kd.S_get HO_4.out [] x6_2 p351 (by first|exact q351|exact of_decide_eq_true (by first|(with_reducible assumption)|assumption)|(have e_:=(Kd.S_reads' HO_4.out).1;omega))
                     obtain⟨ve351_0,rfl,ge351_0⟩:=hMe351
                     have hv351_0:=hcc351 0 _ rfl
                     rw [Nat.add_zero,show((Kd.slice 3 (Kd.int .i64))).sz=1 from rfl,Nat.mul_one] at hv351_0
                     replace hv351_0:=Option.some.inj (hv351_0.symm.trans hx351_0)
                     rw [hv351_0] at ge351_0
                     have HL351_0:=Aside0.mk (show Kd.R (Kd.int .i64) 3 _ _ _ _ (rd_L1 t328 x6_2) from ge351_0)
                     clear hv351_0 ge351_0
                     clear hcc351 hce351
                     have HR351_0:=Aside0.mk hi351_0
                     have HC351_0:=Aside0.mk hl351_0
                     clear hi351_0 hl351_0
                     replace p351:=eq_true p351
                     replace q351:=eq_true q351
                     have p352:0≤(x7_3:Int):=of_decide_eq_true (by first|(with_reducible assumption)|assumption)
                     have q352:x7_3<((rd_L1 t328 x6_2).length:Int):=of_decide_eq_true (by first|(with_reducible assumption)|assumption)
                     obtain⟨ad352,e352,hx352_0⟩:=Kd.at_int (by repeat (first|(with_reducible exact HR351_0.out)|(with_reducible refine Kd.C_alloc ?_ _)|(with_reducible refine Kd.C_drewN ?_ _)|(with_reducible refine Kd.C_drew ?_)|exact HR351_0.out)) x7_3 p352 q352
                     cases e352
                     replace p352:=eq_true p352
                     replace q352:=eq_true q352
                     have p353:0≤(x6_2:Int):=of_decide_eq_true (by first|(with_reducible assumption)|assumption)
                     have q353:x6_2<(t328.length:Int):=of_decide_eq_true (by first|(with_reducible assumption)|assumption)
                     obtain⟨ad353,A353_0,c353_0,e353,hx353_0,hl353_0,hi353_0⟩:=at_L1 (Kd.S_reads' HO_4.out).2.2 x6_2 p353 q353
                     obtain rfl:ad351=ad353:=(by injection e353)
                     obtain⟨ce353,hce353,hMe353,hcc353⟩:=Kd.S_get HO_4.out [] x6_2 p353 (by first|exact q353|exact of_decide_eq_true (by first|(with_reducible assumption)|assumption)|(have e_:=(Kd.S_reads' HO_4.out).1;omega))
                     obtain⟨ve353_0,rfl,ge353_0⟩:=hMe353
                     have hv353_0:=hcc353 0 _ rfl
                     rw [Nat.add_zero,show((Kd.slice 3 (Kd.int .i64))).sz=1 from rfl,Nat.mul_one] at hv353_0
                     replace hv353_0:=Option.some.inj (hv353_0.symm.trans hx353_0)
                     rw [hv353_0] at ge353_0
                     have HL353_0:=Aside0.mk (show Kd.R (Kd.int .i64) 3 _ _ _ _ (rd_L1 t328 x6_2) from ge353_0)
                     clear hv353_0 ge353_0
                     clear hcc353 hce353
                     have HR353_0:=Aside0.mk hi353_0
                     have HC353_0:=Aside0.mk hl353_0
                     clear hi353_0 hl353_0
                     replace p353:=eq_true p353
                     replace q353:=eq_true q353
                     have ea_:=Option.some.inj (hx351_0.symm.trans hx353_0)
                     injection ea_ with ea_ en_ ec_
                     subst ea_
                     subst ec_
                     clear en_
                     have p354:0≤(x7_3:Int):=of_decide_eq_true (by first|(with_reducible assumption)|assumption)
                     have q354:x7_3<((rd_L1 t328 x6_2).length:Int):=of_decide_eq_true (by first|(with_reducible assumption)|assumption)
                     obtain⟨ad354,e354,hx354_0⟩:=Kd.at_int (by repeat (first|(with_reducible exact HR353_0.out)|(with_reducible refine Kd.C_alloc ?_ _)|(with_reducible refine Kd.C_drewN ?_ _)|(with_reducible refine Kd.C_drew ?_)|exact HR353_0.out)) x7_3 p354 q354
                     cases e354
                     replace p354:=eq_true p354
                     replace q354:=eq_true q354
                     go_wp2
                     repeat (go_quiet (fail);try go_wp2)
                     go_roundg k3
                     case measure=>have:=HJ6.out;have:=HK2.out;have:=HK3.out;omega
                     case rel=>exact⟨(wrap64 (x7_3+1)),(by first|rfl|(simp;done)|(simp [*];done)),H',⟨by have:=HJ6.out;have:=HK2.out;have:=HK3.out;omega⟩,⟨by (with_reducible repeat (first|apply Kd.S_alloc|apply Kd.S_drewN|apply Kd.S_drew));exact HO_4.out⟩,⟨by (with_reducible repeat (first|apply Kd.S_alloc|apply Kd.S_drewN|apply Kd.S_drew));exact HO_5.out⟩,⟨by repeat (first|(with_reducible first|exact HB.out|apply below_alloc|apply pw_below_drewN|apply below_drew1)|exact HB.out)⟩⟩
                  ·rw [if_neg c44] at H
                   exact absurd H (by simp)
                 ·rw [if_neg c43] at H
                  exact absurd H (by simp)
                ·rw [if_neg c40] at H
                 exact absurd H (by simp)
               ·rw [if_neg c39] at H
                exact absurd H (by simp)
              ·rw [if_neg c38] at H
               exact absurd H (by simp)
             ·rw [if_neg c37] at H
              exact absurd H (by simp)
            ·rw [if_neg c36] at H
             exact absurd H (by simp)
           ·rw [if_neg c35] at H
            exact absurd H (by simp)
          ·rw [if_neg c34] at H
           have c34b0:decide (x7_3<(t328.length:Int))=false:=decide_eq_false c34
           clear c34
           have H':=Aside0.mk H
           clear H
           go_wp2
           repeat (go_quiet (fail);try go_wp2)
           go_roundg k3
           case measure=>have:=HJ6.out;have:=HK2.out;have:=HK3.out;omega
           case rel=>exact⟨(wrap64 (x6_2+1)),(by first|rfl|(simp;done)|(simp [*];done)),H',⟨by have:=HJ6.out;have:=HK2.out;have:=HK3.out;omega⟩,⟨by (with_reducible repeat (first|apply Kd.S_alloc|apply Kd.S_drewN|apply Kd.S_drew));exact HO_4.out⟩,⟨by (with_reducible repeat (first|apply Kd.S_alloc|apply Kd.S_drewN|apply Kd.S_drew));exact HO_5.out⟩,⟨by repeat (first|(with_reducible first|exact HB.out|apply below_alloc|apply pw_below_drewN|apply below_drew1)|exact HB.out)⟩⟩
       ·rw [if_neg c32] at H
        have c32b0:decide (x6_2<(t328.length:Int))=false:=decide_eq_false c32
        clear c32
        by_cases c50:t326=true
        ·subst c50
         have H1:((mat_Sane.f k2 l0).bind fun t342=>(if t342=true then (some true) else (if (t328.length:Int)=0 then (some true) else (some false))))=some r:=by rw [if_pos rfl] at H;exact H
         clear H
         have H:=H1
         clear H1
         replace H:=Option.bind_eq_some_iff.mp H
         obtain⟨t342,A510,H⟩:=H
         replace H:(if t342=true then (some true) else (if (t328.length:Int)=0 then (some true) else (some false)))=some r:=H
         have A51:=Aside0.mk A510
         clear A510
         by_cases c52:t342=true
         ·subst c52
          have H1:(some true)=some r:=by rw [if_pos rfl] at H;exact H
          clear H
          have H:=H1
          clear H1
          clear hr
          obtain rfl:=Option.some.inj H
          obtain⟨Ao53,co53,eo53⟩:=Kd.S_slice HO_4.out
          subst eo53
          go_wp2_with (first|(go_at_call 18;(with_reducible refine(mat_Sane.calls k2 _ _ l0 true _ ?side1 ?side2 A51.out).mono ?_);(case side1=>repeat (first|exact(Kd.C_below HR0.out HB.out)|(with_reducible refine Kd.C_alloc ?_ _)|(with_reducible refine Kd.C_drewN ?_ _)|(with_reducible refine Kd.C_drew ?_)));(case side2=>exact HC0.out);rintro e w' ⟨rfl,⟨nd,rfl⟩⟩;(try first|exact⟨rfl,_,World.drewN_drewN _ _ _⟩|exact⟨rfl,_,Eq.trans (World.drewN_drewN _ _ _) (congrArg (World.drewN _) (Nat.add_assoc _ _ _))⟩)))
          repeat (go_quiet (first|(go_at_call 18;(with_reducible refine(mat_Sane.calls k2 _ _ l0 true _ ?side1 ?side2 A51.out).mono ?_);(case side1=>repeat (first|exact(Kd.C_below HR0.out HB.out)|(with_reducible refine Kd.C_alloc ?_ _)|(with_reducible refine Kd.C_drewN ?_ _)|(with_reducible refine Kd.C_drew ?_)));(case side2=>exact HC0.out);rintro e w' ⟨rfl,⟨nd,rfl⟩⟩;(try first|exact⟨rfl,_,World.drewN_drewN _ _ _⟩|exact⟨rfl,_,Eq.trans (World.drewN_drewN _ _ _) (congrArg (World.drewN _) (Nat.add_assoc _ _ _))⟩)));try go_wp2_with (first|(go_at_call 18;(with_reducible refine(mat_Sane.calls k2 _ _ l0 true _ ?side1 ?side2 A51.out).mono ?_);(case side1=>repeat (first|exact(Kd.C_below HR0.out HB.out)|(with_reducible refine Kd.C_alloc ?_ _)|(with_reducible refine Kd.C_drewN ?_ _)|(with_reducible refine Kd.C_drew ?_)));(case side2=>exact HC0.out);rintro e w' ⟨rfl,⟨nd,rfl⟩⟩;(try first|exact⟨rfl,_,World.drewN_drewN _ _ _⟩|exact⟨rfl,_,Eq.trans (World.drewN_drewN _ _ _) (congrArg (World.drewN _) (Nat.add_assoc _ _ _))⟩))))
          go_ret
          exact⟨by first|rfl|(simp [errW_none,errW_some]<;>rfl)|(simp [*,errW_none,errW_some]<;>rfl),by repeat (first|(with_reducible first|exact HB.out|apply below_alloc|apply pw_below_drewN|apply below_drew1)|exact HB.out)⟩
         ·replace c52:=Bool.eq_false_iff.mpr c52
          subst c52
          have H1:(if (t328.length:Int)=0 then (some true) else (some false))=some r:=by rw [if_neg (show ¬(false=true) by decide)] at H;exact H
          clear H
          have H:=H1
          clear H1
          by_cases c54:(t328.length:Int)=0
          ·rw [if_pos c54] at H
           have c54b0:((t328.length:Int) == 0)=true:=beq_iff_eq.mpr c54
           have c54b1:((t328.length:Int) != 0)=false:=bne_eq_false_iff_eq.mpr c54
           clear c54
           clear hr
           obtain rfl:=Option.some.inj H
           obtain⟨Ao55,co55,eo55⟩:=Kd.S_slice HO_4.out
           subst eo55
           go_wp2_with (first|(go_at_call 18;(with_reducible refine(mat_Sane.calls k2 _ _ l0 false _ ?side1 ?side2 A51.out).mono ?_);(case side1=>repeat (first|exact(Kd.C_below HR0.out HB.out)|(with_reducible refine Kd.C_alloc ?_ _)|(with_reducible refine Kd.C_drewN ?_ _)|(with_reducible refine Kd.C_drew ?_)));(case side2=>exact HC0.out);rintro e w' ⟨rfl,⟨nd,rfl⟩⟩;(try first|exact⟨rfl,_,World.drewN_drewN _ _ _⟩|exact⟨rfl,_,Eq.trans (World.drewN_drewN _ _ _) (congrArg (World.drewN _) (Nat.add_assoc _ _ _))⟩)))
           repeat (go_quiet (first|(go_at_call 18;(with_reducible refine(mat_Sane.calls k2 _ _ l0 false _ ?side1 ?side2 A51.out).mono ?_);(case side1=>repeat (first|exact(Kd.C_below HR0.out HB.out)|(with_reducible refine Kd.C_alloc ?_ _)|(with_reducible refine Kd.C_drewN ?_ _)|(with_reducible refine Kd.C_drew ?_)));(case side2=>exact HC0.out);rintro e w' ⟨rfl,⟨nd,rfl⟩⟩;(try first|exact⟨rfl,_,World.drewN_drewN _ _ _⟩|exact⟨rfl,_,Eq.trans (World.drewN_drewN _ _ _) (congrArg (World.drewN _) (Nat.add_assoc _ _ _))⟩)));try go_wp2_with (first|(go_at_call 18;(with_reducible refine(mat_Sane.calls k2 _ _ l0 false _ ?side1 ?side2 A51.out).mono ?_);(case side1=>repeat (first|exact(Kd.C_below HR0.out HB.out)|(with_reducible refine Kd.C_alloc ?_ _)|(with_reducible refine Kd.C_drewN ?_ _)|(with_reducible refine Kd.C_drew ?_)));(case side2=>exact HC0.out);rintro e w' ⟨rfl,⟨nd,rfl⟩⟩;(try first|exact⟨rfl,_,World.drewN_drewN _ _ _⟩|exact⟨rfl,_,Eq.trans (World.drewN_drewN _ _ _) (congrArg (World.drewN _) (Nat.add_assoc _ _ _))⟩))))
           go_ret
           exact⟨by first|rfl|(simp [errW_none,errW_some]<;>rfl)|(simp [*,errW_none,errW_some]<;>rfl),by repeat (first|(with_reducible first|exact HB.out|apply below_alloc|apply pw_below_drewN|apply below_drew1)|exact HB.out)⟩
          ·rw [if_neg c54] at H
           have c54b0:((t328.length:Int) == 0)=false:=beq_eq_false_iff_ne.mpr c54
           have c54b1:((t328.length:Int) != 0)=true:=bne_iff_ne.mpr c54
           have c54b2:¬(t328=[]):=fun h_=>c54 (by rw [h_];rfl)
           exact absurd ((Option.some.inj H).trans hr.out) (by decide)
        ·replace c50:=Bool.eq_false_iff.mpr c50
         subst c50
         have H1:(some false)=some r:=by rw [if_neg (show ¬(false=true) by decide)] at H;exact H
         clear H
         have H:=H1
         clear H1
         exact absurd ((Option.some.inj H).trans hr.out) (by decide)
 ·replace c4:=Bool.eq_false_iff.mpr c4
  subst c4
  have H1:(some t326)=some r:=by rw [if_neg (show ¬(false=true) by decide)] at H;exact H
  clear H
  have H:=H1
  clear H1
  clear hr
  obtain rfl:=Option.some.inj H
  go_enter Try.func5,Try.ntmps5
  go_wp2_with (first|(go_at_call 8;(with_reducible refine(outriggerlaw08_awake.calls k  t326 _ A2.out).mono ?_);rintro e w58 ⟨rfl,hb⟩;have n0_:=Aside0.mk (below_step (by repeat (first|(with_reducible first|exact HB.out|apply below_alloc|apply pw_below_drewN|apply below_drew1)|exact HB.out)) hb);clear HB;have HB:=n0_;clear n0_;(try clear hb);(try clear hb2);(try clear hk);(try clear hi))|(go_at_call 9;(with_reducible refine(outriggerref08_Few.calls k _ _ l0 false _ ?side1 ?side2 A3.out).mono ?_);(case side1=>repeat (first|exact(Kd.C_below HR0.out HB.out)|(with_reducible refine Kd.C_alloc ?_ _)|(with_reducible refine Kd.C_drewN ?_ _)|(with_reducible refine Kd.C_drew ?_)));(case side2=>exact HC0.out);rintro e w' ⟨rfl,⟨nd,rfl⟩⟩;(try first|exact⟨rfl,_,World.drewN_drewN _ _ _⟩|exact⟨rfl,_,Eq.trans (World.drewN_drewN _ _ _) (congrArg (World.drewN _) (Nat.add_assoc _ _ _))⟩)))
  repeat (go_quiet (first|(go_at_call 8;(with_reducible refine(outriggerlaw08_awake.calls k  t326 _ A2.out).mono ?_);rintro e w58 ⟨rfl,hb⟩;have n0_:=Aside0.mk (below_step (by repeat (first|(with_reducible first|exact HB.out|apply below_alloc|apply pw_below_drewN|apply below_drew1)|exact HB.out)) hb);clear HB;have HB:=n0_;clear n0_;(try clear hb);(try clear hb2);(try clear hk);(try clear hi))|(go_at_call 9;(with_reducible refine(outriggerref08_Few.calls k _ _ l0 false _ ?side1 ?side2 A3.out).mono ?_);(case side1=>repeat (first|exact(Kd.C_below HR0.out HB.out)|(with_reducible refine Kd.C_alloc ?_ _)|(with_reducible refine Kd.C_drewN ?_ _)|(with_reducible refine Kd.C_drew ?_)));(case side2=>exact HC0.out);rintro e w' ⟨rfl,⟨nd,rfl⟩⟩;(try first|exact⟨rfl,_,World.drewN_drewN _ _ _⟩|exact⟨rfl,_,Eq.trans (World.drewN_drewN _ _ _) (congrArg (World.drewN _) (Nat.add_assoc _ _ _))⟩)));try go_wp2_with (first|(go_at_call 8;(with_reducible refine(outriggerlaw08_awake.calls k  t326 _ A2.out).mono ?_);rintro e w58 ⟨rfl,hb⟩;have n0_:=Aside0.mk (below_step (by repeat (first|(with_reducible first|exact HB.out|apply below_alloc|apply pw_below_drewN|apply below_drew1)|exact HB.out)) hb);clear HB;have HB:=n0_;clear n0_;(try clear hb);(try clear hb2);(try clear hk);(try clear hi))|(go_at_call 9;(with_reducible refine(outriggerref08_Few.calls k _ _ l0 false _ ?side1 ?side2 A3.out).mono ?_);(case side1=>repeat (first|exact(Kd.C_below HR0.out HB.out)|(with_reducible refine Kd.C_alloc ?_ _)|(with_reducible refine Kd.C_drewN ?_ _)|(with_reducible refine Kd.C_drew ?_)));(case side2=>exact HC0.out);rintro e w' ⟨rfl,⟨nd,rfl⟩⟩;(try first|exact⟨rfl,_,World.drewN_drewN _ _ _⟩|exact⟨rfl,_,Eq.trans (World.drewN_drewN _ _ _) (congrArg (World.drewN _) (Nat.add_assoc _ _ _))⟩))))
  go_ret
  exact⟨by first|rfl|(simp [errW_none,errW_some]<;>rfl)|(simp [*,errW_none,errW_some]<;>rfl),by repeat (first|(with_reducible first|exact HB.out|apply below_alloc|apply pw_below_drewN|apply below_drew1)|exact HB.out)⟩
end Go.Proofs.Ytembdogffbcjiaa.B
