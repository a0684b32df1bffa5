/- Lemmas of the row, laid by a program. -/
import Derived.Test.YtembdogffbcjiaaYB0
import Derived.Test.YtembdogffbcjiaaYB2
import Derived.Test.YtembdogffbcjiaaYB7
import Derived.Test.YtembdogffbcjiaaYB8
import Derived.Test.YtembdogffbcjiaaYB11
import Derived.Test.YtembdogffbcjiaaYB14
import Derived.Test.YtembdogffbcjiaaYB15
import Derived.Test.YtembdogffbcjiaaYB17
namespace Go.Proofs.Ytembdogffbcjiaa.B
open Go.RowKit Go.Proofs.YtembdogffbcjiaaW.PrintWords Go.Proofs.YtembdogffbcjiaaW.PrintLast Go.Proofs.YtembdogffbcjiaaW.PrintMore
attribute [local go_sem] max2_int min2_int max_two min_two max_three min_three max_four min_four
set_option linter.unusedVariables false
set_option linter.unusedSimpArgs false
mutual
def outriggerlaw08_MatIs.j0:Nat→List (List Int)→List (List Int)→List Int→Int→Bool→Bool→Option (Bool)
  | 0,_,_,_,_,_,_=>none
  | k+1,x0,x1,x2,x3,x9,x35=>if x35=true then (some x9) else ((mat_Add.f k x0 x1).bind fun bt527=>((outriggerref08_Add.f k x0 x1).bind fun bt531=>((mat_Mul.f k x0 x1).bind fun bt535=>((outriggerref08_Mul.f k x0 x1).bind fun bt539=>((mat_Apply.f k x0 x2).bind fun bt543=>((outriggerref08_Apply.f k x0 x2).bind fun bt547=>((outriggerref08_Same.f k bt527.1 bt531.1).bind fun t551=>(if t551=true then (if (bt527.2 != bt531.2)=true then (outriggerlaw08_MatIs.j1 k x0 x3 x9 true) else ((outriggerref08_Same.f k bt535.1 bt539.1).bind fun t552=>(if t552=true then (if (bt535.2 != bt539.2)=true then (outriggerlaw08_MatIs.j1 k x0 x3 x9 true) else ((outriggerref08_Ints.f k bt543.1 bt547.1).bind fun t553=>(if t553=true then (outriggerlaw08_MatIs.j1 k x0 x3 x9 (bt543.2 != bt547.2)) else (outriggerlaw08_MatIs.j1 k x0 x3 x9 true)))) else (outriggerlaw08_MatIs.j1 k x0 x3 x9 true)))) else (outriggerlaw08_MatIs.j1 k x0 x3 x9 true)))))))))
def outriggerlaw08_MatIs.j1:Nat→List (List Int)→Int→Bool→Bool→Option (Bool)
  | 0,_,_,_,_=>none
  | k+1,x0,x3,x9,x103=>if x103=true then (some false) else (if x9=true then ((mat_Sane.f k x0).bind fun t554=>((outriggerref08_Sane.f k x0).bind fun t555=>(if (t554 == t555)=true then ((mat_One.f k x3).bind fun t556=>((outriggerref08_One.f k x3).bind fun t559=>((outriggerref08_Same.f k t556 t559).bind fun t562=>(if t562=true then ((mat_Turned.f k x0).bind fun t563=>((outriggerref08_Turned.f k x0).bind fun t566=>((outriggerref08_Same.f k t563 t566).bind fun t569=>(if t569=true then ((mat_Even.f k x0).bind fun t570=>((outriggerref08_Even.f k x0).bind fun t573=>((outriggerref08_Same.f k t570 t573).bind fun t576=>(some t576)))) else (some false))))) else (some false))))) else (some false)))) else (some false))
end
def outriggerlaw08_MatIs.f (k:Nat) (l0:List (List Int)) (l1:List (List Int)) (l2:List Int) (a3:Int):Option (Bool):=(outriggerlaw08_awake.f k).bind fun t524=>((outriggerref08_Few.f k l0).bind fun t525=>(if t525=true then ((outriggerref08_Few.f k l1).bind fun t526=>(if t526=true then (outriggerlaw08_MatIs.j0 k l0 l1 l2 a3 t524 (decide ((l2.length:Int) > 20))) else (outriggerlaw08_MatIs.j0 k l0 l1 l2 a3 t524 true))) else (outriggerlaw08_MatIs.j0 k l0 l1 l2 a3 t524 true)))
set_option maxHeartbeats 8000000 in
set_option maxRecDepth 100000 in
theorem outriggerlaw08_MatIs.calls (k:Nat) (A0:Option Addr) (c0:Nat) (l0:List (List Int)) (A1:Option Addr) (c1:Nat) (l1:List (List Int)) (A2:Option Addr) (c2:Nat) (l2:List Int) (a3:Int) (r:Bool) (w:World) (hr0:Kd.C (Kd.slice 3 (Kd.int .i64)) w A0 l0.length l0) (hc0:l0.length≤c0) (hr1:Kd.C (Kd.slice 3 (Kd.int .i64)) w A1 l1.length l1) (hc1:l1.length≤c1) (hr2:Kd.C (Kd.int .i64) w A2 l2.length l2) (hc2:l2.length≤c2) (h:outriggerlaw08_MatIs.f k l0 l1 l2 a3=some r) (hr:Aside0 (r=true)) :
  Calls Try.prog 3 #[.slice A0 l0.length c0,.slice A1 l1.length c1,.slice A2 l2.length c2,.int .i64 a3] w fun e w'=>e=.returned (.bool r)∧Below w.heap.size w w':=by
 have HR0:=Aside0.mk hr0
 have HC0:=Aside0.mk hc0
 clear hr0 hc0
 have HR1:=Aside0.mk hr1
 have HC1:=Aside0.mk hc1
 clear hr1 hc1
 have HR2:=Aside0.mk hr2
 have HC2:=Aside0.mk hc2
 clear hr2 hc2
 have HB:=Aside0.mk (Below.refl w.heap.size w)
 have H:((outriggerlaw08_awake.f k).bind fun t524=>((outriggerref08_Few.f k l0).bind fun t525=>(if t525=true then ((outriggerref08_Few.f k l1).bind fun t526=>(if t526=true then (outriggerlaw08_MatIs.j0 k l0 l1 l2 a3 t524 (decide ((l2.length:Int) > 20))) else (outriggerlaw08_MatIs.j0 k l0 l1 l2 a3 t524 true))) else (outriggerlaw08_MatIs.j0 k l0 l1 l2 a3 t524 true))))=some r:=h
 clear h
 replace H:=Option.bind_eq_some_iff.mp H
 obtain⟨t524,A50,H⟩:=H
 replace H:((outriggerref08_Few.f k l0).bind fun t525=>(if t525=true then ((outriggerref08_Few.f k l1).bind fun t526=>(if t526=true then (outriggerlaw08_MatIs.j0 k l0 l1 l2 a3 t524 (decide ((l2.length:Int) > 20))) else (outriggerlaw08_MatIs.j0 k l0 l1 l2 a3 t524 true))) else (outriggerlaw08_MatIs.j0 k l0 l1 l2 a3 t524 true)))=some r:=H
 have A5:=Aside0.mk A50
 clear A50
 have HC6:=Aside0.mk H
 clear H
 go_enter Try.func3,Try.ntmps3
 go_upto_region 2 with (first|((with_reducible refine gate_callee (f:=8) rfl ?_);refine goesL_ (some 22) rfl rfl Try.func8 (by kernel_rfl) rfl #[] rfl (by exact mA _ _) ?_;(with_reducible refine(outriggerlaw08_awake.calls k  t524 _ A5.out).mono ?_);rintro e w7 ⟨rfl,hb⟩;refine⟨_,rfl,?_⟩;have n0_:=Aside0.mk (below_step (by first|with_reducible exact HB.out|exact bl HB) hb);clear HB;have HB:=n0_;clear n0_;(try clear hb);(try clear hb2);(try clear hk);(try clear hi)))
 (try simp only [Act.put,List.setIfInBounds_toArray,List.set_cons_zero,List.set_cons_succ])
 go_cut [35] (fun v35 wc=>∃ (kq:Nat) (x35_5:Bool),v35=.bool x35_5∧Aside0 (outriggerlaw08_MatIs.j0 kq l0 l1 l2 a3 t524 x35_5=some r)∧Aside0 (kq≤k)∧Aside0 (Below w.heap.size w wc))
 case first =>
  have H:=HC6.out
  clear HC6
  replace H:=Option.bind_eq_some_iff.mp H
  obtain⟨t525,A80,H⟩:=H
  replace H:(if t525=true then ((outriggerref08_Few.f k l1).bind fun t526=>(if t526=true then (outriggerlaw08_MatIs.j0 k l0 l1 l2 a3 t524 (decide ((l2.length:Int) > 20))) else (outriggerlaw08_MatIs.j0 k l0 l1 l2 a3 t524 true))) else (outriggerlaw08_MatIs.j0 k l0 l1 l2 a3 t524 true))=some r:=H
  have A8:=Aside0.mk A80
  clear A80
  by_cases c9:t525=true
  ·subst c9
   have H1:((outriggerref08_Few.f k l1).bind fun t526=>(if t526=true then (outriggerlaw08_MatIs.j0 k l0 l1 l2 a3 t524 (decide ((l2.length:Int) > 20))) else (outriggerlaw08_MatIs.j0 k l0 l1 l2 a3 t524 true)))=some r:=by rw [if_pos rfl] at H;exact H
   clear H
   have H:=H1
   clear H1
   replace H:=Option.bind_eq_some_iff.mp H
   obtain⟨t526,A100,H⟩:=H
   replace H:(if t526=true then (outriggerlaw08_MatIs.j0 k l0 l1 l2 a3 t524 (decide ((l2.length:Int) > 20))) else (outriggerlaw08_MatIs.j0 k l0 l1 l2 a3 t524 true))=some r:=H
   have A10:=Aside0.mk A100
   clear A100
   by_cases c11:t526=true
   ·subst c11
    have H1:(outriggerlaw08_MatIs.j0 k l0 l1 l2 a3 t524 (decide ((l2.length:Int) > 20)))=some r:=by rw [if_pos rfl] at H;exact H
    clear H
    have H:=H1
    clear H1
    have H':=Aside0.mk H
    clear H
    go_wp2_with (first|((with_reducible refine gate_callee (f:=9) rfl ?_);refine goesL_ (some 24) rfl rfl Try.func9 (by kernel_rfl) rfl #[.slice A0 l0.length c0] rfl (by exact mA _ _) ?_;(with_reducible refine(outriggerref08_Few.calls k _ _ l0 true _ ?side1 ?side2 A8.out).mono ?_);(case side1=>first|exact(Kd.C_below HR0.out HB.out)|exact kC (Kd.C_below HR0.out HB.out));(case side2=>exact HC0.out);rintro e w' ⟨rfl,⟨nd,rfl⟩⟩;refine⟨_,rfl,?_⟩)|(go_at_call 9;(with_reducible refine(outriggerref08_Few.calls k _ _ l1 true _ ?side1 ?side2 A10.out).mono ?_);(case side1=>repeat (first|exact(Kd.C_below HR1.out (by first|with_reducible exact HB.out|exact bl HB))|(with_reducible refine Kd.C_alloc ?_ _)|(with_reducible refine Kd.C_drewN ?_ _)|(with_reducible refine Kd.C_drew ?_)));(case side2=>exact HC1.out);rintro e w' ⟨rfl,⟨nd,rfl⟩⟩))
    go_meet
    case rel=>exact⟨_,(decide ((l2.length:Int) > 20)),(by first|rfl|(simp;done)|(simp [*];done)),H',⟨by first|omega|exact Nat.le_refl _⟩,⟨by first|with_reducible exact HB.out|exact bl HB⟩⟩
   ·replace c11:=Bool.eq_false_iff.mpr c11
    subst c11
    have H1:(outriggerlaw08_MatIs.j0 k l0 l1 l2 a3 t524 true)=some r:=by rw [if_neg (show ¬(false=true) by decide)] at H;exact H
    clear H
    have H:=H1
    clear H1
    have H':=Aside0.mk H
    clear H
    go_wp2_with (first|((with_reducible refine gate_callee (f:=9) rfl ?_);refine goesL_ (some 24) rfl rfl Try.func9 (by kernel_rfl) rfl #[.slice A0 l0.length c0] rfl (by exact mA _ _) ?_;(with_reducible refine(outriggerref08_Few.calls k _ _ l0 true _ ?side1 ?side2 A8.out).mono ?_);(case side1=>first|exact(Kd.C_below HR0.out HB.out)|exact kC (Kd.C_below HR0.out HB.out));(case side2=>exact HC0.out);rintro e w' ⟨rfl,⟨nd,rfl⟩⟩;refine⟨_,rfl,?_⟩)|(go_at_call 9;(with_reducible refine(outriggerref08_Few.calls k _ _ l1 false _ ?side1 ?side2 A10.out).mono ?_);(case side1=>repeat (first|exact(Kd.C_below HR1.out (by first|with_reducible exact HB.out|exact bl HB))|(with_reducible refine Kd.C_alloc ?_ _)|(with_reducible refine Kd.C_drewN ?_ _)|(with_reducible refine Kd.C_drew ?_)));(case side2=>exact HC1.out);rintro e w' ⟨rfl,⟨nd,rfl⟩⟩))
    go_meet
    case rel=>exact⟨_,(true),(by first|rfl|(simp;done)|(simp [*];done)),H',⟨by first|omega|exact Nat.le_refl _⟩,⟨by first|with_reducible exact HB.out|exact bl HB⟩⟩
  ·replace c9:=Bool.eq_false_iff.mpr c9
   subst c9
   have H1:(outriggerlaw08_MatIs.j0 k l0 l1 l2 a3 t524 true)=some r:=by rw [if_neg (show ¬(false=true) by decide)] at H;exact H
   clear H
   have H:=H1
   clear H1
   have H':=Aside0.mk H
   clear H
   go_wp2_with (first|((with_reducible refine gate_callee (f:=9) rfl ?_);refine goesL_ (some 24) rfl rfl Try.func9 (by kernel_rfl) rfl #[.slice A0 l0.length c0] rfl (by exact mA _ _) ?_;(with_reducible refine(outriggerref08_Few.calls k _ _ l0 false _ ?side1 ?side2 A8.out).mono ?_);(case side1=>first|exact(Kd.C_below HR0.out HB.out)|exact kC (Kd.C_below HR0.out HB.out));(case side2=>exact HC0.out);rintro e w' ⟨rfl,⟨nd,rfl⟩⟩;refine⟨_,rfl,?_⟩))
   go_meet
   case rel=>exact⟨_,(true),(by first|rfl|(simp;done)|(simp [*];done)),H',⟨by first|omega|exact Nat.le_refl _⟩,⟨by first|with_reducible exact HB.out|exact bl HB⟩⟩
 case rest =>
  clear HC6
  try clear c1
  try clear c2
  try clear p2
  try clear c3
  try clear c8
  try clear c9
  try clear c11
  obtain⟨kq,x35_5,rfl,HA,HJ5,HB⟩:=hcut
  cases kq with
  | zero=>exact absurd HA.out (by simp [outriggerlaw08_MatIs.j0])
  | succ kj5 =>
   have H:=HA.out
   clear HA
   simp only [outriggerlaw08_MatIs.j0] at H
   by_cases c12:x35_5=true
   ·subst c12
    have H1:(some t524)=some r:=by rw [if_pos rfl] at H;exact H
    clear H
    have H:=H1
    clear H1
    clear hr
    obtain rfl:=Option.some.inj H
    go_wp2
    go_ret
    exact⟨by first|rfl|(simp [errW_none,errW_some]<;>rfl)|(simp [*,errW_none,errW_some]<;>rfl),by first|with_reducible exact HB.out|exact bl HB⟩
   ·replace c12:=Bool.eq_false_iff.mpr c12
    subst c12
    have H1:((mat_Add.f kj5 l0 l1).bind fun bt527=>((outriggerref08_Add.f kj5 l0 l1).bind fun bt531=>((mat_Mul.f kj5 l0 l1).bind fun bt535=>((outriggerref08_Mul.f kj5 l0 l1).bind fun bt539=>((mat_Apply.f kj5 l0 l2).bind fun bt543=>((outriggerref08_Apply.f kj5 l0 l2).bind fun bt547=>((outriggerref08_Same.f kj5 bt527.1 bt531.1).bind fun t551=>(if t551=true then (if (bt527.2 != bt531.2)=true then (outriggerlaw08_MatIs.j1 kj5 l0 a3 t524 true) else ((outriggerref08_Same.f kj5 bt535.1 bt539.1).bind fun t552=>(if t552=true then (if (bt535.2 != bt539.2)=true then (outriggerlaw08_MatIs.j1 kj5 l0 a3 t524 true) else ((outriggerref08_Ints.f kj5 bt543.1 bt547.1).bind fun t553=>(if t553=true then (outriggerlaw08_MatIs.j1 kj5 l0 a3 t524 (bt543.2 != bt547.2)) else (outriggerlaw08_MatIs.j1 kj5 l0 a3 t524 true)))) else (outriggerlaw08_MatIs.j1 kj5 l0 a3 t524 true)))) else (outriggerlaw08_MatIs.j1 kj5 l0 a3 t524 true)))))))))=some r:=by rw [if_neg (show ¬(false=true) by decide)] at H;exact H
    clear H
    have H:=H1
    clear H1
    replace H:=Option.bind_eq_some_iff.mp H
    obtain⟨⟨t527,t528⟩,A130,H⟩:=H
    replace H:((outriggerref08_Add.f kj5 l0 l1).bind fun bt531=>((mat_Mul.f kj5 l0 l1).bind fun bt535=>((outriggerref08_Mul.f kj5 l0 l1).bind fun bt539=>((mat_Apply.f kj5 l0 l2).bind fun bt543=>((outriggerref08_Apply.f kj5 l0 l2).bind fun bt547=>((outriggerref08_Same.f kj5 t527 bt531.1).bind fun t551=>(if t551=true then (if (t528 != bt531.2)=true then (outriggerlaw08_MatIs.j1 kj5 l0 a3 t524 true) else ((outriggerref08_Same.f kj5 bt535.1 bt539.1).bind fun t552=>(if t552=true then (if (bt535.2 != bt539.2)=true then (outriggerlaw08_MatIs.j1 kj5 l0 a3 t524 true) else ((outriggerref08_Ints.f kj5 bt543.1 bt547.1).bind fun t553=>(if t553=true then (outriggerlaw08_MatIs.j1 kj5 l0 a3 t524 (bt543.2 != bt547.2)) else (outriggerlaw08_MatIs.j1 kj5 l0 a3 t524 true)))) else (outriggerlaw08_MatIs.j1 kj5 l0 a3 t524 true)))) else (outriggerlaw08_MatIs.j1 kj5 l0 a3 t524 true))))))))=some r:=H
    have A13:=Aside0.mk A130
    clear A130
    replace H:=Option.bind_eq_some_iff.mp H
    obtain⟨⟨t531,t532⟩,A140,H⟩:=H
    replace H:((mat_Mul.f kj5 l0 l1).bind fun bt535=>((outriggerref08_Mul.f kj5 l0 l1).bind fun bt539=>((mat_Apply.f kj5 l0 l2).bind fun bt543=>((outriggerref08_Apply.f kj5 l0 l2).bind fun bt547=>((outriggerref08_Same.f kj5 t527 t531).bind fun t551=>(if t551=true then (if (t528 != t532)=true then (outriggerlaw08_MatIs.j1 kj5 l0 a3 t524 true) else ((outriggerref08_Same.f kj5 bt535.1 bt539.1).bind fun t552=>(if t552=true then (if (bt535.2 != bt539.2)=true then (outriggerlaw08_MatIs.j1 kj5 l0 a3 t524 true) else ((outriggerref08_Ints.f kj5 bt543.1 bt547.1).bind fun t553=>(if t553=true then (outriggerlaw08_MatIs.j1 kj5 l0 a3 t524 (bt543.2 != bt547.2)) else (outriggerlaw08_MatIs.j1 kj5 l0 a3 t524 true)))) else (outriggerlaw08_MatIs.j1 kj5 l0 a3 t524 true)))) else (outriggerlaw08_MatIs.j1 kj5 l0 a3 t524 true)))))))=some r:=H
    have A14:=Aside0.mk A140
    clear A140
    replace H:=Option.bind_eq_some_iff.mp H
    obtain⟨⟨t535,t536⟩,A150,H⟩:=H
    replace H:((outriggerref08_Mul.f kj5 l0 l1).bind fun bt539=>((mat_Apply.f kj5 l0 l2).bind fun bt543=>((outriggerref08_Apply.f kj5 l0 l2).bind fun bt547=>((outriggerref08_Same.f kj5 t527 t531).bind fun t551=>(if t551=true then (if (t528 != t532)=true then (outriggerlaw08_MatIs.j1 kj5 l0 a3 t524 true) else ((outriggerref08_Same.f kj5 t535 bt539.1).bind fun t552=>(if t552=true then (if (t536 != bt539.2)=true then (outriggerlaw08_MatIs.j1 kj5 l0 a3 t524 true) else ((outriggerref08_Ints.f kj5 bt543.1 bt547.1).bind fun t553=>(if t553=true then (outriggerlaw08_MatIs.j1 kj5 l0 a3 t524 (bt543.2 != bt547.2)) else (outriggerlaw08_MatIs.j1 kj5 l0 a3 t524 true)))) else (outriggerlaw08_MatIs.j1 kj5 l0 a3 t524 true)))) else (outriggerlaw08_MatIs.j1 kj5 l0 a3 t524 true))))))=some r:=H
    have A15:=Aside0.mk A150
    clear A150
    replace H:=Option.bind_eq_some_iff.mp H
    obtain⟨⟨t539,t540⟩,A160,H⟩:=H
    replace H:((mat_Apply.f kj5 l0 l2).bind fun bt543=>((outriggerref08_Apply.f kj5 l0 l2).bind fun bt547=>((outriggerref08_Same.f kj5 t527 t531).bind fun t551=>(if t551=true then (if (t528 != t532)=true then (outriggerlaw08_MatIs.j1 kj5 l0 a3 t524 true) else ((outriggerref08_Same.f kj5 t535 t539).bind fun t552=>(if t552=true then (if (t536 != t540)=true then (outriggerlaw08_MatIs.j1 kj5 l0 a3 t524 true) else ((outriggerref08_Ints.f kj5 bt543.1 bt547.1).bind fun t553=>(if t553=true then (outriggerlaw08_MatIs.j1 kj5 l0 a3 t524 (bt543.2 != bt547.2)) else (outriggerlaw08_MatIs.j1 kj5 l0 a3 t524 true)))) else (outriggerlaw08_MatIs.j1 kj5 l0 a3 t524 true)))) else (outriggerlaw08_MatIs.j1 kj5 l0 a3 t524 true)))))=some r:=H
    have A16:=Aside0.mk A160
    clear A160
    replace H:=Option.bind_eq_some_iff.mp H
    obtain⟨⟨t543,t544⟩,A170,H⟩:=H
    replace H:((outriggerref08_Apply.f kj5 l0 l2).bind fun bt547=>((outriggerref08_Same.f kj5 t527 t531).bind fun t551=>(if t551=true then (if (t528 != t532)=true then (outriggerlaw08_MatIs.j1 kj5 l0 a3 t524 true) else ((outriggerref08_Same.f kj5 t535 t539).bind fun t552=>(if t552=true then (if (t536 != t540)=true then (outriggerlaw08_MatIs.j1 kj5 l0 a3 t524 true) else ((outriggerref08_Ints.f kj5 t543 bt547.1).bind fun t553=>(if t553=true then (outriggerlaw08_MatIs.j1 kj5 l0 a3 t524 (t544 != bt547.2)) else (outriggerlaw08_MatIs.j1 kj5 l0 a3 t524 true)))) else (outriggerlaw08_MatIs.j1 kj5 l0 a3 t524 true)))) else (outriggerlaw08_MatIs.j1 kj5 l0 a3 t524 true))))=some r:=H
    have A17:=Aside0.mk A170
    clear A170
    replace H:=Option.bind_eq_some_iff.mp H
    obtain⟨⟨t547,t548⟩,A180,H⟩:=H
    replace H:((outriggerref08_Same.f kj5 t527 t531).bind fun t551=>(if t551=true then (if (t528 != t532)=true then (outriggerlaw08_MatIs.j1 kj5 l0 a3 t524 true) else ((outriggerref08_Same.f kj5 t535 t539).bind fun t552=>(if t552=true then (if (t536 != t540)=true then (outriggerlaw08_MatIs.j1 kj5 l0 a3 t524 true) else ((outriggerref08_Ints.f kj5 t543 t547).bind fun t553=>(if t553=true then (outriggerlaw08_MatIs.j1 kj5 l0 a3 t524 (t544 != t548)) else (outriggerlaw08_MatIs.j1 kj5 l0 a3 t524 true)))) else (outriggerlaw08_MatIs.j1 kj5 l0 a3 t524 true)))) else (outriggerlaw08_MatIs.j1 kj5 l0 a3 t524 true)))=some r:=H
    have A18:=Aside0.mk A180
    clear A180
    have HC19:=Aside0.mk H
    clear H
    go_upto_region 10 with (first|((with_reducible refine gate_callee (f:=10) rfl ?_);refine goesL_ (some 40) rfl rfl Try.func10 (by kernel_rfl) rfl #[.slice A0 l0.length c0,.slice A1 l1.length c1] rfl (by exact mA _ _) ?_;(with_reducible refine(mat_Add.calls kj5 _ _ l0 _ _ l1 t527 t528 _ ?side1 ?side2 ?side3 ?side4 A13.out).mono ?_);(case side1=>first|exact(Kd.C_below HR0.out HB.out)|exact kC (Kd.C_below HR0.out HB.out));(case side2=>exact HC0.out);(case side3=>first|exact(Kd.C_below HR1.out HB.out)|exact kC (Kd.C_below HR1.out HB.out));(case side4=>exact HC1.out);rintro e w20 ⟨v529,rfl,ho0,hb⟩;refine⟨_,rfl,?_⟩;have n0_:=Aside0.mk (Kd.S_lower ho0 (below_size (by first|with_reducible exact HB.out|exact bl HB)));have n1_:=Aside0.mk (below_step (by first|with_reducible exact HB.out|exact bl HB) hb);clear HB;have HO530:=n0_;have HB:=n1_;clear n0_ n1_;(try clear hb);(try clear hb2);(try clear hk);(try clear hi);(try clear ho0))|((with_reducible refine gate_callee (f:=11) rfl ?_);refine goesL_ (some 46) rfl rfl Try.func11 (by kernel_rfl) rfl #[.slice A0 l0.length c0,.slice A1 l1.length c1] rfl (by exact mA _ _) ?_;(with_reducible refine(outriggerref08_Add.calls kj5 _ _ l0 _ _ l1 t531 t532 _ ?side1 ?side2 ?side3 ?side4 A14.out).mono ?_);(case side1=>first|exact(Kd.C_below HR0.out HB.out)|exact kC (Kd.C_below HR0.out HB.out));(case side2=>exact HC0.out);(case side3=>first|exact(Kd.C_below HR1.out HB.out)|exact kC (Kd.C_below HR1.out HB.out));(case side4=>exact HC1.out);rintro e w21 ⟨v533,rfl,ho0,hb⟩;refine⟨_,rfl,?_⟩;have n0_:=Aside0.mk (Kd.S_elder' (by first|exact HO530.out|exact kS HO530.out) (Kd.S_base ho0) hb);have n1_:=Aside0.mk (Kd.S_lower (Kd.S_new' ho0 (Kd.S_lt (by first|exact HO530.out|exact kS HO530.out))) (below_size (by first|with_reducible exact HB.out|exact bl HB)));have n2_:=Aside0.mk (below_step (by first|with_reducible exact HB.out|exact bl HB) hb);clear HO530;clear HB;have HO530:=n0_;have HO534:=n1_;have HB:=n2_;clear n0_ n1_ n2_;(try clear hb);(try clear hb2);(try clear hk);(try clear hi);(try clear ho0))|((with_reducible refine gate_callee (f:=12) rfl ?_);refine goesL_ (some 52) rfl rfl Try.func12 (by kernel_rfl) rfl #[.slice A0 l0.length c0,.slice A1 l1.length c1] rfl (by exact mA _ _) ?_;(with_reducible refine(mat_Mul.calls kj5 _ _ l0 _ _ l1 t535 t536 _ ?side1 ?side2 ?side3 ?side4 A15.out).mono ?_);(case side1=>first|exact(Kd.C_below HR0.out HB.out)|exact kC (Kd.C_below HR0.out HB.out));(case side2=>exact HC0.out);(case side3=>first|exact(Kd.C_below HR1.out HB.out)|exact kC (Kd.C_below HR1.out HB.out));(case side4=>exact HC1.out);rintro e w22 ⟨v537,rfl,ho0,hb⟩;refine⟨_,rfl,?_⟩;have n0_:=Aside0.mk (Kd.S_elder' (by first|exact HO530.out|exact kS HO530.out) (Kd.S_base ho0) hb);have n1_:=Aside0.mk (Kd.S_elder' (by first|exact HO534.out|exact kS HO534.out) (Kd.S_base ho0) hb);have n2_:=Aside0.mk (Kd.S_lower (Kd.S_new' (Kd.S_new' ho0 (Kd.S_lt (by first|exact HO530.out|exact kS HO530.out))) (Kd.S_lt (by first|exact HO534.out|exact kS HO534.out))) (below_size (by first|with_reducible exact HB.out|exact bl HB)));have n3_:=Aside0.mk (below_step (by first|with_reducible exact HB.out|exact bl HB) hb);clear HO530;clear HO534;clear HB;have HO530:=n0_;have HO534:=n1_;have HO538:=n2_;have HB:=n3_;clear n0_ n1_ n2_ n3_;(try clear hb);(try clear hb2);(try clear hk);(try clear hi);(try clear ho0))|((with_reducible refine gate_callee (f:=13) rfl ?_);refine goesL_ (some 58) rfl rfl Try.func13 (by kernel_rfl) rfl #[.slice A0 l0.length c0,.slice A1 l1.length c1] rfl (by exact mA _ _) ?_;(with_reducible refine(outriggerref08_Mul.calls kj5 _ _ l0 _ _ l1 t539 t540 _ ?side1 ?side2 ?side3 ?side4 A16.out).mono ?_);(case side1=>first|exact(Kd.C_below HR0.out HB.out)|exact kC (Kd.C_below HR0.out HB.out));(case side2=>exact HC0.out);(case side3=>first|exact(Kd.C_below HR1.out HB.out)|exact kC (Kd.C_below HR1.out HB.out));(case side4=>exact HC1.out);rintro e w23 ⟨v541,rfl,ho0,hb⟩;refine⟨_,rfl,?_⟩;have n0_:=Aside0.mk (Kd.S_elder' (by first|exact HO530.out|exact kS HO530.out) (Kd.S_base ho0) hb);have n1_:=Aside0.mk (Kd.S_elder' (by first|exact HO534.out|exact kS HO534.out) (Kd.S_base ho0) hb);have n2_:=Aside0.mk (Kd.S_elder' (by first|exact HO538.out|exact kS HO538.out) (Kd.S_base ho0) hb);have n3_:=Aside0.mk (Kd.S_lower (Kd.S_new' (Kd.S_new' (Kd.S_new' ho0 (Kd.S_lt (by first|exact HO530.out|exact kS HO530.out))) (Kd.S_lt (by first|exact HO534.out|exact kS HO534.out))) (Kd.S_lt (by first|exact HO538.out|exact kS HO538.out))) (below_size (by first|with_reducible exact HB.out|exact bl HB)));have n4_:=Aside0.mk (below_step (by first|with_reducible exact HB.out|exact bl HB) hb);clear HO530;clear HO534;clear HO538;clear HB;have HO530:=n0_;have HO534:=n1_;have HO538:=n2_;have HO542:=n3_;have HB:=n4_;clear n0_ n1_ n2_ n3_ n4_;(try clear hb);(try clear hb2);(try clear hk);(try clear hi);(try clear ho0))|((with_reducible refine gate_callee (f:=14) rfl ?_);refine goesL_ (some 64) rfl rfl Try.func14 (by kernel_rfl) rfl #[.slice A0 l0.length c0,.slice A2 l2.length c2] rfl (by exact mA _ _) ?_;(with_reducible refine(mat_Apply.calls kj5 _ _ l0 _ _ l2 t543 t544 _ ?side1 ?side2 ?side3 ?side4 A17.out).mono ?_);(case side1=>first|exact(Kd.C_below HR0.out HB.out)|exact kC (Kd.C_below HR0.out HB.out));(case side2=>exact HC0.out);(case side3=>first|exact(Kd.C_below HR2.out HB.out)|exact kC (Kd.C_below HR2.out HB.out));(case side4=>exact HC2.out);rintro e w24 ⟨v545,rfl,ho0,hb⟩;refine⟨_,rfl,?_⟩;have n0_:=Aside0.mk (Kd.S_elder' (by first|exact HO530.out|exact kS HO530.out) (Kd.R_base ho0) hb);have n1_:=Aside0.mk (Kd.S_elder' (by first|exact HO534.out|exact kS HO534.out) (Kd.R_base ho0) hb);have n2_:=Aside0.mk (Kd.S_elder' (by first|exact HO538.out|exact kS HO538.out) (Kd.R_base ho0) hb);have n3_:=Aside0.mk (Kd.S_elder' (by first|exact HO542.out|exact kS HO542.out) (Kd.R_base ho0) hb);have n4_:=Aside0.mk (Kd.R_lower ho0 (below_size (by first|with_reducible exact HB.out|exact bl HB)));have n5_:=Aside0.mk (below_step (by first|with_reducible exact HB.out|exact bl HB) hb);clear HO530;clear HO534;clear HO538;clear HO542;clear HB;have HO530:=n0_;have HO534:=n1_;have HO538:=n2_;have HO542:=n3_;have HO546:=n4_;have HB:=n5_;clear n0_ n1_ n2_ n3_ n4_ n5_;(try clear hb);(try clear hb2);(try clear hk);(try clear hi);(try clear ho0))|((with_reducible refine gate_callee (f:=15) rfl ?_);refine goesL_ (some 70) rfl rfl Try.func15 (by kernel_rfl) rfl #[.slice A0 l0.length c0,.slice A2 l2.length c2] rfl (by exact mA _ _) ?_;(with_reducible refine(outriggerref08_Apply.calls kj5 _ _ l0 _ _ l2 t547 t548 _ ?side1 ?side2 ?side3 ?side4 A18.out).mono ?_);(case side1=>first|exact(Kd.C_below HR0.out HB.out)|exact kC (Kd.C_below HR0.out HB.out));(case side2=>exact HC0.out);(case side3=>first|exact(Kd.C_below HR2.out HB.out)|exact kC (Kd.C_below HR2.out HB.out));(case side4=>exact HC2.out);rintro e w25 ⟨v549,rfl,ho0,hb⟩;refine⟨_,rfl,?_⟩;have n0_:=Aside0.mk (Kd.S_elder' (by first|exact HO530.out|exact kS HO530.out) (Kd.R_base ho0) hb);have n1_:=Aside0.mk (Kd.S_elder' (by first|exact HO534.out|exact kS HO534.out) (Kd.R_base ho0) hb);have n2_:=Aside0.mk (Kd.S_elder' (by first|exact HO538.out|exact kS HO538.out) (Kd.R_base ho0) hb);have n3_:=Aside0.mk (Kd.S_elder' (by first|exact HO542.out|exact kS HO542.out) (Kd.R_base ho0) hb);have n4_:=Aside0.mk (Kd.R_elder' (by first|exact HO546.out|exact kR HO546.out) (Kd.R_base ho0) hb);have n5_:=Aside0.mk (Kd.R_lower (Kd.R_new' ho0 (Kd.R_lt (by first|exact HO546.out|exact kR HO546.out))) (below_size (by first|with_reducible exact HB.out|exact bl HB)));have n6_:=Aside0.mk (below_step (by first|with_reducible exact HB.out|exact bl HB) hb);clear HO530;clear HO534;clear HO538;clear HO542;clear HO546;clear HB;have HO530:=n0_;have HO534:=n1_;have HO538:=n2_;have HO542:=n3_;have HO546:=n4_;have HO550:=n5_;have HB:=n6_;clear n0_ n1_ n2_ n3_ n4_ n5_ n6_;(try clear hb);(try clear hb2);(try clear hk);(try clear hi);(try clear ho0)))
    (try simp only [Act.put,List.setIfInBounds_toArray,List.set_cons_zero,List.set_cons_succ])
    go_cut [103] (fun v103 wc=>∃ (kq:Nat) (x103_18:Bool),v103=.bool x103_18∧Aside0 (outriggerlaw08_MatIs.j1 kq l0 a3 t524 x103_18=some r)∧Aside0 (kq≤kj5)∧Aside0 (Below w.heap.size w wc))
    case first =>
     have H:=HC19.out
     clear HC19
     replace H:=Option.bind_eq_some_iff.mp H
     obtain⟨t551,A260,H⟩:=H
     replace H:(if t551=true then (if (t528 != t532)=true then (outriggerlaw08_MatIs.j1 kj5 l0 a3 t524 true) else ((outriggerref08_Same.f kj5 t535 t539).bind fun t552=>(if t552=true then (if (t536 != t540)=true then (outriggerlaw08_MatIs.j1 kj5 l0 a3 t524 true) else ((outriggerref08_Ints.f kj5 t543 t547).bind fun t553=>(if t553=true then (outriggerlaw08_MatIs.j1 kj5 l0 a3 t524 (t544 != t548)) else (outriggerlaw08_MatIs.j1 kj5 l0 a3 t524 true)))) else (outriggerlaw08_MatIs.j1 kj5 l0 a3 t524 true)))) else (outriggerlaw08_MatIs.j1 kj5 l0 a3 t524 true))=some r:=H
     have A26:=Aside0.mk A260
     clear A260
     by_cases c27:t551=true
     ·subst c27
      have H1:(if (t528 != t532)=true then (outriggerlaw08_MatIs.j1 kj5 l0 a3 t524 true) else ((outriggerref08_Same.f kj5 t535 t539).bind fun t552=>(if t552=true then (if (t536 != t540)=true then (outriggerlaw08_MatIs.j1 kj5 l0 a3 t524 true) else ((outriggerref08_Ints.f kj5 t543 t547).bind fun t553=>(if t553=true then (outriggerlaw08_MatIs.j1 kj5 l0 a3 t524 (t544 != t548)) else (outriggerlaw08_MatIs.j1 kj5 l0 a3 t524 true)))) else (outriggerlaw08_MatIs.j1 kj5 l0 a3 t524 true))))=some r:=by rw [if_pos rfl] at H;exact H
      clear H
      have H:=H1
      clear H1
      by_cases c28:(t528 != t532)=true
      ·rw [if_pos c28] at H
       have c28b0:(t528 != t532)=true:=c28
       (try (have c28b1:decide (t528=t532)=false:=by simpa using c28))
       (try (have c28b2:(t528 == t532)=false:=by simpa using c28))
       (try (have c28b3:¬(t528=t532):=by simpa using c28))
       clear c28
       (first|rw [c28b0]|(simp only [i64_w,i32_w];rw [c28b0])|skip)
       have H':=Aside0.mk H
       clear H
       obtain⟨Ao29,co29,eo29⟩:=Kd.S_slice HO530.out
       subst eo29
       obtain⟨Ao30,co30,eo30⟩:=Kd.S_slice HO534.out
       subst eo30
       go_wp2_with (first|((with_reducible refine gate_callee (f:=16) rfl ?_);refine goesL_ (some 75) rfl rfl Try.func16 (by kernel_rfl) rfl #[.slice Ao29 t527.length co29,.slice Ao30 t531.length co30] rfl (by exact mA _ _) ?_;(with_reducible refine(outriggerref08_Same.calls kj5 _ _ t527 _ _ t531 true _ ?side1 ?side2 ?side3 ?side4 A26.out).mono ?_);(case side1=>first|exact(Kd.S_reads' HO530.out).2.2|exact kC (Kd.S_reads' HO530.out).2.2);(case side2=>exact(Kd.S_reads' HO530.out).2.1);(case side3=>first|exact(Kd.S_reads' HO534.out).2.2|exact kC (Kd.S_reads' HO534.out).2.2);(case side4=>exact(Kd.S_reads' HO534.out).2.1);rintro e w' ⟨rfl,⟨nd,rfl⟩⟩;refine⟨_,rfl,?_⟩))
       go_meet
       case rel=>exact⟨_,(true),(by first|rfl|(simp;done)|(simp [*];done)),H',⟨by have:=HJ5.out;first|omega|exact Nat.le_refl _⟩,⟨by first|with_reducible exact HB.out|exact bl HB⟩⟩
      ·rw [if_neg c28] at H
       have c28b0:(t528 != t532)=false:=by simpa using c28
       (try (have c28b1:decide (t528=t532)=true:=by simpa using c28))
       (try (have c28b2:(t528 == t532)=true:=by simpa using c28))
       clear c28
       (first|rw [c28b0]|(simp only [i64_w,i32_w];rw [c28b0])|skip)
       replace H:=Option.bind_eq_some_iff.mp H
       obtain⟨t552,A310,H⟩:=H
       replace H:(if t552=true then (if (t536 != t540)=true then (outriggerlaw08_MatIs.j1 kj5 l0 a3 t524 true) else ((outriggerref08_Ints.f kj5 t543 t547).bind fun t553=>(if t553=true then (outriggerlaw08_MatIs.j1 kj5 l0 a3 t524 (t544 != t548)) else (outriggerlaw08_MatIs.j1 kj5 l0 a3 t524 true)))) else (outriggerlaw08_MatIs.j1 kj5 l0 a3 t524 true))=some r:=H
       have A31:=Aside0.mk A310
       clear A310
       by_cases c32:t552=true
       ·subst c32
        have H1:(if (t536 != t540)=true then (outriggerlaw08_MatIs.j1 kj5 l0 a3 t524 true) else ((outriggerref08_Ints.f kj5 t543 t547).bind fun t553=>(if t553=true then (outriggerlaw08_MatIs.j1 kj5 l0 a3 t524 (t544 != t548)) else (outriggerlaw08_MatIs.j1 kj5 l0 a3 t524 true))))=some r:=by rw [if_pos rfl] at H;exact H
        clear H
        have H:=H1
        clear H1
        by_cases c33:(t536 != t540)=true
        ·rw [if_pos c33] at H
         have c33b0:(t536 != t540)=true:=c33
         (try (have c33b1:decide (t536=t540)=false:=by simpa using c33))
         (try (have c33b2:(t536 == t540)=false:=by simpa using c33))
         (try (have c33b3:¬(t536=t540):=by simpa using c33))
         clear c33
         have H':=Aside0.mk H
         clear H
         obtain⟨Ao34,co34,eo34⟩:=Kd.S_slice HO530.out
         subst eo34
         obtain⟨Ao35,co35,eo35⟩:=Kd.S_slice HO534.out
         subst eo35
         go_wp2_with (first|((with_reducible refine gate_callee (f:=16) rfl ?_);refine goesL_ (some 75) rfl rfl Try.func16 (by kernel_rfl) rfl #[.slice Ao34 t527.length co34,.slice Ao35 t531.length co35] rfl (by exact mA _ _) ?_;(with_reducible refine(outriggerref08_Same.calls kj5 _ _ t527 _ _ t531 true _ ?side1 ?side2 ?side3 ?side4 A26.out).mono ?_);(case side1=>first|exact(Kd.S_reads' HO530.out).2.2|exact kC (Kd.S_reads' HO530.out).2.2);(case side2=>exact(Kd.S_reads' HO530.out).2.1);(case side3=>first|exact(Kd.S_reads' HO534.out).2.2|exact kC (Kd.S_reads' HO534.out).2.2);(case side4=>exact(Kd.S_reads' HO534.out).2.1);rintro e w' ⟨rfl,⟨nd,rfl⟩⟩;refine⟨_,rfl,?_⟩;obtain⟨Ao36,co36,eo36⟩:=Kd.S_slice HO538.out;subst eo36;obtain⟨Ao37,co37,eo37⟩:=Kd.S_slice HO542.out;subst eo37)|(go_at_call 16;(with_reducible refine(outriggerref08_Same.calls kj5 _ _ t535 _ _ t539 true _ ?side1 ?side2 ?side3 ?side4 A31.out).mono ?_);(case side1=>first|exact(Kd.S_reads' HO538.out).2.2|exact kC (Kd.S_reads' HO538.out).2.2);(case side2=>exact(Kd.S_reads' HO538.out).2.1);(case side3=>first|exact(Kd.S_reads' HO542.out).2.2|exact kC (Kd.S_reads' HO542.out).2.2);(case side4=>exact(Kd.S_reads' HO542.out).2.1);rintro e w' ⟨rfl,⟨nd,rfl⟩⟩))
         go_meet
         case rel=>exact⟨_,(true),(by first|rfl|(simp;done)|(simp [*];done)),H',⟨by have:=HJ5.out;first|omega|exact Nat.le_refl _⟩,⟨by first|with_reducible exact HB.out|exact bl HB⟩⟩
        ·rw [if_neg c33] at H
         have c33b0:(t536 != t540)=false:=by simpa using c33
         (try (have c33b1:decide (t536=t540)=true:=by simpa using c33))
         (try (have c33b2:(t536 == t540)=true:=by simpa using c33))
         clear c33
         replace H:=Option.bind_eq_some_iff.mp H
         obtain⟨t553,A380,H⟩:=H
         replace H:(if t553=true then (outriggerlaw08_MatIs.j1 kj5 l0 a3 t524 (t544 != t548)) else (outriggerlaw08_MatIs.j1 kj5 l0 a3 t524 true))=some r:=H
         have A38:=Aside0.mk A380
         clear A380
         by_cases c39:t553=true
         ·subst c39
          have H1:(outriggerlaw08_MatIs.j1 kj5 l0 a3 t524 (t544 != t548))=some r:=by rw [if_pos rfl] at H;exact H
          clear H
          have H:=H1
          clear H1
          have H':=Aside0.mk H
          clear H
          obtain⟨Ao40,co40,eo40⟩:=Kd.S_slice HO530.out
          subst eo40
          obtain⟨Ao41,co41,eo41⟩:=Kd.S_slice HO534.out
          subst eo41
          go_wp2_with (first|((with_reducible refine gate_callee (f:=16) rfl ?_);refine goesL_ (some 75) rfl rfl Try.func16 (by kernel_rfl) rfl #[.slice Ao40 t527.length co40,.slice Ao41 t531.length co41] rfl (by exact mA _ _) ?_;(with_reducible refine(outriggerref08_Same.calls kj5 _ _ t527 _ _ t531 true _ ?side1 ?side2 ?side3 ?side4 A26.out).mono ?_);(case side1=>first|exact(Kd.S_reads' HO530.out).2.2|exact kC (Kd.S_reads' HO530.out).2.2);(case side2=>exact(Kd.S_reads' HO530.out).2.1);(case side3=>first|exact(Kd.S_reads' HO534.out).2.2|exact kC (Kd.S_reads' HO534.out).2.2);(case side4=>exact(Kd.S_reads' HO534.out).2.1);rintro e w' ⟨rfl,⟨nd,rfl⟩⟩;refine⟨_,rfl,?_⟩;obtain⟨Ao42,co42,eo42⟩:=Kd.S_slice HO538.out;subst eo42;obtain⟨Ao43,co43,eo43⟩:=Kd.S_slice HO542.out;subst eo43)|(go_at_call 16;(with_reducible refine(outriggerref08_Same.calls kj5 _ _ t535 _ _ t539 true _ ?side1 ?side2 ?side3 ?side4 A31.out).mono ?_);(case side1=>first|exact(Kd.S_reads' HO538.out).2.2|exact kC (Kd.S_reads' HO538.out).2.2);(case side2=>exact(Kd.S_reads' HO538.out).2.1);(case side3=>first|exact(Kd.S_reads' HO542.out).2.2|exact kC (Kd.S_reads' HO542.out).2.2);(case side4=>exact(Kd.S_reads' HO542.out).2.1);rintro e w' ⟨rfl,⟨nd,rfl⟩⟩;obtain⟨Ao44,co44,eo44⟩:=Kd.R_slice HO546.out;subst eo44;obtain⟨Ao45,co45,eo45⟩:=Kd.R_slice HO550.out;subst eo45)|(go_at_call 17;(with_reducible refine(outriggerref08_Ints.calls kj5 _ _ t543 _ _ t547 true _ ?side1 ?side2 ?side3 ?side4 A38.out).mono ?_);(case side1=>first|exact(Kd.R_reads' HO546.out).2.2|exact kC (Kd.R_reads' HO546.out).2.2);(case side2=>exact(Kd.R_reads' HO546.out).2.1);(case side3=>first|exact(Kd.R_reads' HO550.out).2.2|exact kC (Kd.R_reads' HO550.out).2.2);(case side4=>exact(Kd.R_reads' HO550.out).2.1);rintro e w' ⟨rfl,⟨nd,rfl⟩⟩))
          go_meet
          case rel=>exact⟨_,((t544 != t548)),(by first|rfl|(simp;done)|(simp [*];done)),H',⟨by have:=HJ5.out;first|omega|exact Nat.le_refl _⟩,⟨by first|with_reducible exact HB.out|exact bl HB⟩⟩
         ·replace c39:=Bool.eq_false_iff.mpr c39
          subst c39
          have H1:(outriggerlaw08_MatIs.j1 kj5 l0 a3 t524 true)=some r:=by rw [if_neg (show ¬(false=true) by decide)] at H;exact H
          clear H
          have H:=H1
          clear H1
          have H':=Aside0.mk H
          clear H
          obtain⟨Ao46,co46,eo46⟩:=Kd.S_slice HO530.out
          subst eo46
          obtain⟨Ao47,co47,eo47⟩:=Kd.S_slice HO534.out
          subst eo47
          go_wp2_with (first|((with_reducible refine gate_callee (f:=16) rfl ?_);refine goesL_ (some 75) rfl rfl Try.func16 (by kernel_rfl) rfl #[.slice Ao46 t527.length co46,.slice Ao47 t531.length co47] rfl (by exact mA _ _) ?_;(with_reducible refine(outriggerref08_Same.calls kj5 _ _ t527 _ _ t531 true _ ?side1 ?side2 ?side3 ?side4 A26.out).mono ?_);(case side1=>first|exact(Kd.S_reads' HO530.out).2.2|exact kC (Kd.S_reads' HO530.out).2.2);(case side2=>exact(Kd.S_reads' HO530.out).2.1);(case side3=>first|exact(Kd.S_reads' HO534.out).2.2|exact kC (Kd.S_reads' HO534.out).2.2);(case side4=>exact(Kd.S_reads' HO534.out).2.1);rintro e w' ⟨rfl,⟨nd,rfl⟩⟩;refine⟨_,rfl,?_⟩;obtain⟨Ao48,co48,eo48⟩:=Kd.S_slice HO538.out;subst eo48;obtain⟨Ao49,co49,eo49⟩:=Kd.S_slice HO542.out;subst eo49)|(go_at_call 16;(with_reducible refine(outriggerref08_Same.calls kj5 _ _ t535 _ _ t539 true _ ?side1 ?side2 ?side3 ?side4 A31.out).mono ?_);(case side1=>first|exact(Kd.S_reads' HO538.out).2.2|exact kC (Kd.S_reads' HO538.out).2.2);(case side2=>exact(Kd.S_reads' HO538.out).2.1);(case side3=>first|exact(Kd.S_reads' HO542.out).2.2|exact kC (Kd.S_reads' HO542.out).2.2);(case side4=>exact(Kd.S_reads' HO542.out).2.1);rintro e w' ⟨rfl,⟨nd,rfl⟩⟩;obtain⟨Ao50,co50,eo50⟩:=Kd.R_slice HO546.out;subst eo50;obtain⟨Ao51,co51,eo51⟩:=Kd.R_slice HO550.out;subst eo51)|(go_at_call 17;(with_reducible refine(outriggerref08_Ints.calls kj5 _ _ t543 _ _ t547 false _ ?side1 ?side2 ?side3 ?side4 A38.out).mono ?_);(case side1=>first|exact(Kd.R_reads' HO546.out).2.2|exact kC (Kd.R_reads' HO546.out).2.2);(case side2=>exact(Kd.R_reads' HO546.out).2.1);(case side3=>first|exact(Kd.R_reads' HO550.out).2.2|exact kC (Kd.R_reads' HO550.out).2.2);(case side4=>exact(Kd.R_reads' HO550.out).2.1);rintro e w' ⟨rfl,⟨nd,rfl⟩⟩))
          go_meet
          case rel=>exact⟨_,(true),(by first|rfl|(simp;done)|(simp [*];done)),H',⟨by have:=HJ5.out;first|omega|exact Nat.le_refl _⟩,⟨by first|with_reducible exact HB.out|exact bl HB⟩⟩
       ·replace c32:=Bool.eq_false_iff.mpr c32
        subst c32
        have H1:(outriggerlaw08_MatIs.j1 kj5 l0 a3 t524 true)=some r:=by rw [if_neg (show ¬(false=true) by decide)] at H;exact H
        clear H
        have H:=H1
        clear H1
        have H':=Aside0.mk H
        clear H
        obtain⟨Ao52,co52,eo52⟩:=Kd.S_slice HO530.out
        subst eo52
        obtain⟨Ao53,co53,eo53⟩:=Kd.S_slice HO534.out
        subst eo53
        go_wp2_with (first|((with_reducible refine gate_callee (f:=16) rfl ?_);refine goesL_ (some 75) rfl rfl Try.func16 (by kernel_rfl) rfl #[.slice Ao52 t527.length co52,.slice Ao53 t531.length co53] rfl (by exact mA _ _) ?_;(with_reducible refine(outriggerref08_Same.calls kj5 _ _ t527 _ _ t531 true _ ?side1 ?side2 ?side3 ?side4 A26.out).mono ?_);(case side1=>first|exact(Kd.S_reads' HO530.out).2.2|exact kC (Kd.S_reads' HO530.out).2.2);(case side2=>exact(Kd.S_reads' HO530.out).2.1);(case side3=>first|exact(Kd.S_reads' HO534.out).2.2|exact kC (Kd.S_reads' HO534.out).2.2);(case side4=>exact(Kd.S_reads' HO534.out).2.1);rintro e w' ⟨rfl,⟨nd,rfl⟩⟩;refine⟨_,rfl,?_⟩;obtain⟨Ao54,co54,eo54⟩:=Kd.S_slice HO538.out;subst eo54;obtain⟨Ao55,co55,eo55⟩:=Kd.S_slice HO542.out;subst eo55)|(go_at_call 16;(with_reducible refine(outriggerref08_Same.calls kj5 _ _ t535 _ _ t539 false _ ?side1 ?side2 ?side3 ?side4 A31.out).mono ?_);(case side1=>first|exact(Kd.S_reads' HO538.out).2.2|exact kC (Kd.S_reads' HO538.out).2.2);(case side2=>exact(Kd.S_reads' HO538.out).2.1);(case side3=>first|exact(Kd.S_reads' HO542.out).2.2|exact kC (Kd.S_reads' HO542.out).2.2);(case side4=>exact(Kd.S_reads' HO542.out).2.1);rintro e w' ⟨rfl,⟨nd,rfl⟩⟩))
        go_meet
        case rel=>exact⟨_,(true),(by first|rfl|(simp;done)|(simp [*];done)),H',⟨by have:=HJ5.out;first|omega|exact Nat.le_refl _⟩,⟨by first|with_reducible exact HB.out|exact bl HB⟩⟩
     ·replace c27:=Bool.eq_false_iff.mpr c27
      subst c27
      have H1:(outriggerlaw08_MatIs.j1 kj5 l0 a3 t524 true)=some r:=by rw [if_neg (show ¬(false=true) by decide)] at H;exact H
      clear H
      have H:=H1
      clear H1
      have H':=Aside0.mk H
      clear H
      obtain⟨Ao56,co56,eo56⟩:=Kd.S_slice HO530.out
      subst eo56
      obtain⟨Ao57,co57,eo57⟩:=Kd.S_slice HO534.out
      subst eo57
      go_wp2_with (first|((with_reducible refine gate_callee (f:=16) rfl ?_);refine goesL_ (some 75) rfl rfl Try.func16 (by kernel_rfl) rfl #[.slice Ao56 t527.length co56,.slice Ao57 t531.length co57] rfl (by exact mA _ _) ?_;(with_reducible refine(outriggerref08_Same.calls kj5 _ _ t527 _ _ t531 false _ ?side1 ?side2 ?side3 ?side4 A26.out).mono ?_);(case side1=>first|exact(Kd.S_reads' HO530.out).2.2|exact kC (Kd.S_reads' HO530.out).2.2);(case side2=>exact(Kd.S_reads' HO530.out).2.1);(case side3=>first|exact(Kd.S_reads' HO534.out).2.2|exact kC (Kd.S_reads' HO534.out).2.2);(case side4=>exact(Kd.S_reads' HO534.out).2.1);rintro e w' ⟨rfl,⟨nd,rfl⟩⟩;refine⟨_,rfl,?_⟩))
      go_meet
      case rel=>exact⟨_,(true),(by first|rfl|(simp;done)|(simp [*];done)),H',⟨by have:=HJ5.out;first|omega|exact Nat.le_refl _⟩,⟨by first|with_reducible exact HB.out|exact bl HB⟩⟩
    case rest =>
     clear HC19
     try clear c1
     try clear c2
     try clear p2
     try clear c3
     try clear c8
     try clear c9
     try clear c10
     try clear c11
     try clear c12
     try clear c13
     try clear c14
     try clear c15
     try clear c16
     try clear c27
     try clear c28
     try clear c28b0
     try clear c28b1
     try clear c28b2
     try clear c32
     try clear c33
     try clear c33b0
     try clear c33b1
     try clear c33b2
     try clear c39
     try clear p2
     obtain⟨kq,x103_18,rfl,HA,HJ18,HB⟩:=hcut
     cases kq with
     | zero=>exact absurd HA.out (by simp [outriggerlaw08_MatIs.j1])
     | succ kj18 =>
      have H:=HA.out
      clear HA
      simp only [outriggerlaw08_MatIs.j1] at H
      by_cases c58:x103_18=true
      ·subst c58
       have H1:(some false)=some r:=by rw [if_pos rfl] at H;exact H
       clear H
       have H:=H1
       clear H1
       exact absurd ((Option.some.inj H).trans hr.out) (by decide)
      ·replace c58:=Bool.eq_false_iff.mpr c58
       subst c58
       have H1:(if t524=true then ((mat_Sane.f kj18 l0).bind fun t554=>((outriggerref08_Sane.f kj18 l0).bind fun t555=>(if (t554 == t555)=true then ((mat_One.f kj18 a3).bind fun t556=>((outriggerref08_One.f kj18 a3).bind fun t559=>((outriggerref08_Same.f kj18 t556 t559).bind fun t562=>(if t562=true then ((mat_Turned.f kj18 l0).bind fun t563=>((outriggerref08_Turned.f kj18 l0).bind fun t566=>((outriggerref08_Same.f kj18 t563 t566).bind fun t569=>(if t569=true then ((mat_Even.f kj18 l0).bind fun t570=>((outriggerref08_Even.f kj18 l0).bind fun t573=>((outriggerref08_Same.f kj18 t570 t573).bind fun t576=>(some t576)))) else (some false))))) else (some false))))) else (some false)))) else (some false))=some r:=by rw [if_neg (show ¬(false=true) by decide)] at H;exact H
       clear H
       have H:=H1
       clear H1
       by_cases c59:t524=true
       ·subst c59
        have H1:((mat_Sane.f kj18 l0).bind fun t554=>((outriggerref08_Sane.f kj18 l0).bind fun t555=>(if (t554 == t555)=true then ((mat_One.f kj18 a3).bind fun t556=>((outriggerref08_One.f kj18 a3).bind fun t559=>((outriggerref08_Same.f kj18 t556 t559).bind fun t562=>(if t562=true then ((mat_Turned.f kj18 l0).bind fun t563=>((outriggerref08_Turned.f kj18 l0).bind fun t566=>((outriggerref08_Same.f kj18 t563 t566).bind fun t569=>(if t569=true then ((mat_Even.f kj18 l0).bind fun t570=>((outriggerref08_Even.f kj18 l0).bind fun t573=>((outriggerref08_Same.f kj18 t570 t573).bind fun t576=>(some t576)))) else (some false))))) else (some false))))) else (some false))))=some r:=by rw [if_pos rfl] at H;exact H
        clear H
        have H:=H1
        clear H1
        replace H:=Option.bind_eq_some_iff.mp H
        obtain⟨t554,A600,H⟩:=H
        replace H:((outriggerref08_Sane.f kj18 l0).bind fun t555=>(if (t554 == t555)=true then ((mat_One.f kj18 a3).bind fun t556=>((outriggerref08_One.f kj18 a3).bind fun t559=>((outriggerref08_Same.f kj18 t556 t559).bind fun t562=>(if t562=true then ((mat_Turned.f kj18 l0).bind fun t563=>((outriggerref08_Turned.f kj18 l0).bind fun t566=>((outriggerref08_Same.f kj18 t563 t566).bind fun t569=>(if t569=true then ((mat_Even.f kj18 l0).bind fun t570=>((outriggerref08_Even.f kj18 l0).bind fun t573=>((outriggerref08_Same.f kj18 t570 t573).bind fun t576=>(some t576)))) else (some false))))) else (some false))))) else (some false)))=some r:=H
        have A60:=Aside0.mk A600
        clear A600
        replace H:=Option.bind_eq_some_iff.mp H
        obtain⟨t555,A610,H⟩:=H
        replace H:(if (t554 == t555)=true then ((mat_One.f kj18 a3).bind fun t556=>((outriggerref08_One.f kj18 a3).bind fun t559=>((outriggerref08_Same.f kj18 t556 t559).bind fun t562=>(if t562=true then ((mat_Turned.f kj18 l0).bind fun t563=>((outriggerref08_Turned.f kj18 l0).bind fun t566=>((outriggerref08_Same.f kj18 t563 t566).bind fun t569=>(if t569=true then ((mat_Even.f kj18 l0).bind fun t570=>((outriggerref08_Even.f kj18 l0).bind fun t573=>((outriggerref08_Same.f kj18 t570 t573).bind fun t576=>(some t576)))) else (some false))))) else (some false))))) else (some false))=some r:=H
        have A61:=Aside0.mk A610
        clear A610
        by_cases c62:(t554 == t555)=true
        ·rw [if_pos c62] at H
         have c62b0:(t554 == t555)=true:=c62
         (try (have c62b1:decide (t554=t555)=true:=by simpa using c62))
         (try (have c62b2:(t554 == t555)=true:=by simpa using c62))
         clear c62
         replace H:=Option.bind_eq_some_iff.mp H
         obtain⟨t556,A630,H⟩:=H
         replace H:((outriggerref08_One.f kj18 a3).bind fun t559=>((outriggerref08_Same.f kj18 t556 t559).bind fun t562=>(if t562=true then ((mat_Turned.f kj18 l0).bind fun t563=>((outriggerref08_Turned.f kj18 l0).bind fun t566=>((outriggerref08_Same.f kj18 t563 t566).bind fun t569=>(if t569=true then ((mat_Even.f kj18 l0).bind fun t570=>((outriggerref08_Even.f kj18 l0).bind fun t573=>((outriggerref08_Same.f kj18 t570 t573).bind fun t576=>(some t576)))) else (some false))))) else (some false))))=some r:=H
         have A63:=Aside0.mk A630
         clear A630
         replace H:=Option.bind_eq_some_iff.mp H
         obtain⟨t559,A640,H⟩:=H
         replace H:((outriggerref08_Same.f kj18 t556 t559).bind fun t562=>(if t562=true then ((mat_Turned.f kj18 l0).bind fun t563=>((outriggerref08_Turned.f kj18 l0).bind fun t566=>((outriggerref08_Same.f kj18 t563 t566).bind fun t569=>(if t569=true then ((mat_Even.f kj18 l0).bind fun t570=>((outriggerref08_Even.f kj18 l0).bind fun t573=>((outriggerref08_Same.f kj18 t570 t573).bind fun t576=>(some t576)))) else (some false))))) else (some false)))=some r:=H
         have A64:=Aside0.mk A640
         clear A640
         replace H:=Option.bind_eq_some_iff.mp H
         obtain⟨t562,A650,H⟩:=H
         replace H:(if t562=true then ((mat_Turned.f kj18 l0).bind fun t563=>((outriggerref08_Turned.f kj18 l0).bind fun t566=>((outriggerref08_Same.f kj18 t563 t566).bind fun t569=>(if t569=true then ((mat_Even.f kj18 l0).bind fun t570=>((outriggerref08_Even.f kj18 l0).bind fun t573=>((outriggerref08_Same.f kj18 t570 t573).bind fun t576=>(some t576)))) else (some false))))) else (some false))=some r:=H
         have A65:=Aside0.mk A650
         clear A650
         by_cases c66:t562=true
         ·subst c66
          have H1:((mat_Turned.f kj18 l0).bind fun t563=>((outriggerref08_Turned.f kj18 l0).bind fun t566=>((outriggerref08_Same.f kj18 t563 t566).bind fun t569=>(if t569=true then ((mat_Even.f kj18 l0).bind fun t570=>((outriggerref08_Even.f kj18 l0).bind fun t573=>((outriggerref08_Same.f kj18 t570 t573).bind fun t576=>(some t576)))) else (some false)))))=some r:=by rw [if_pos rfl] at H;exact H
          clear H
          have H:=H1
          clear H1
          replace H:=Option.bind_eq_some_iff.mp H
          obtain⟨t563,A670,H⟩:=H
          replace H:((outriggerref08_Turned.f kj18 l0).bind fun t566=>((outriggerref08_Same.f kj18 t563 t566).bind fun t569=>(if t569=true then ((mat_Even.f kj18 l0).bind fun t570=>((outriggerref08_Even.f kj18 l0).bind fun t573=>((outriggerref08_Same.f kj18 t570 t573).bind fun t576=>(some t576)))) else (some false))))=some r:=H
          have A67:=Aside0.mk A670
          clear A670
          replace H:=Option.bind_eq_some_iff.mp H
          obtain⟨t566,A680,H⟩:=H
          replace H:((outriggerref08_Same.f kj18 t563 t566).bind fun t569=>(if t569=true then ((mat_Even.f kj18 l0).bind fun t570=>((outriggerref08_Even.f kj18 l0).bind fun t573=>((outriggerref08_Same.f kj18 t570 t573).bind fun t576=>(some t576)))) else (some false)))=some r:=H
          have A68:=Aside0.mk A680
          clear A680
          replace H:=Option.bind_eq_some_iff.mp H
          obtain⟨t569,A690,H⟩:=H
          replace H:(if t569=true then ((mat_Even.f kj18 l0).bind fun t570=>((outriggerref08_Even.f kj18 l0).bind fun t573=>((outriggerref08_Same.f kj18 t570 t573).bind fun t576=>(some t576)))) else (some false))=some r:=H
          have A69:=Aside0.mk A690
          clear A690
          by_cases c70:t569=true
          ·subst c70
           have H1:((mat_Even.f kj18 l0).bind fun t570=>((outriggerref08_Even.f kj18 l0).bind fun t573=>((outriggerref08_Same.f kj18 t570 t573).bind fun t576=>(some t576))))=some r:=by rw [if_pos rfl] at H;exact H
           clear H
           have H:=H1
           clear H1
           replace H:=Option.bind_eq_some_iff.mp H
           obtain⟨t570,A710,H⟩:=H
           replace H:((outriggerref08_Even.f kj18 l0).bind fun t573=>((outriggerref08_Same.f kj18 t570 t573).bind fun t576=>(some t576)))=some r:=H
           have A71:=Aside0.mk A710
           clear A710
           replace H:=Option.bind_eq_some_iff.mp H
           obtain⟨t573,A720,H⟩:=H
           replace H:((outriggerref08_Same.f kj18 t570 t573).bind fun t576=>(some t576))=some r:=H
           have A72:=Aside0.mk A720
           clear A720
           replace H:=Option.bind_eq_some_iff.mp H
           obtain⟨t576,A730,H⟩:=H
           replace H:(some t576)=some r:=H
           have A73:=Aside0.mk A730
           clear A730
           clear hr
           obtain rfl:=Option.some.inj H
           go_wp2_with (first|(go_at_call 18;(with_reducible refine(mat_Sane.calls kj18 _ _ l0 t554 _ ?side1 ?side2 A60.out).mono ?_);(case side1=>first|exact(Kd.C_below HR0.out HB.out)|exact kC (Kd.C_below HR0.out HB.out));(case side2=>exact HC0.out);rintro e w' ⟨rfl,⟨nd,rfl⟩⟩)|(go_at_call 19;(with_reducible refine(outriggerref08_Sane.calls kj18 _ _ l0 t555 _ ?side1 ?side2 A61.out).mono ?_);(case side1=>repeat (first|exact(Kd.C_below HR0.out (by first|with_reducible exact HB.out|exact bl HB))|(with_reducible refine Kd.C_alloc ?_ _)|(with_reducible refine Kd.C_drewN ?_ _)|(with_reducible refine Kd.C_drew ?_)));(case side2=>exact HC0.out);rintro e w' ⟨rfl,⟨nd,rfl⟩⟩)|(go_at_call 20;(with_reducible refine(mat_One.calls kj18 a3 t556 _ A63.out).mono ?_);rintro e w74 ⟨v557,rfl,ho0,hb⟩;have n0_:=Aside0.mk (Kd.S_lower ho0 (below_size (by first|with_reducible exact HB.out|exact bl HB)));have n1_:=Aside0.mk (below_step (by first|with_reducible exact HB.out|exact bl HB) hb);clear HB;have HO558:=n0_;have HB:=n1_;clear n0_ n1_;(try clear hb);(try clear hb2);(try clear hk);(try clear hi);(try clear ho0))|(go_at_call 21;(with_reducible refine(outriggerref08_One.calls kj18 a3 t559 _ A64.out).mono ?_);rintro e w75 ⟨v560,rfl,ho0,hb⟩;have n0_:=Aside0.mk (Kd.S_elder' (by first|exact HO558.out|exact kS HO558.out) (Kd.S_base ho0) hb);have n1_:=Aside0.mk (Kd.S_lower (Kd.S_new' ho0 (Kd.S_lt (by first|exact HO558.out|exact kS HO558.out))) (below_size (by first|with_reducible exact HB.out|exact bl HB)));have n2_:=Aside0.mk (below_step (by first|with_reducible exact HB.out|exact bl HB) hb);clear HO558;clear HB;have HO558:=n0_;have HO561:=n1_;have HB:=n2_;clear n0_ n1_ n2_;(try clear hb);(try clear hb2);(try clear hk);(try clear hi);(try clear ho0);obtain⟨Ao76,co76,eo76⟩:=Kd.S_slice HO558.out;subst eo76;obtain⟨Ao77,co77,eo77⟩:=Kd.S_slice HO561.out;subst eo77)|(go_at_call 16;(with_reducible refine(outriggerref08_Same.calls kj18 _ _ t556 _ _ t559 true _ ?side1 ?side2 ?side3 ?side4 A65.out).mono ?_);(case side1=>first|exact(Kd.S_reads' HO558.out).2.2|exact kC (Kd.S_reads' HO558.out).2.2);(case side2=>exact(Kd.S_reads' HO558.out).2.1);(case side3=>first|exact(Kd.S_reads' HO561.out).2.2|exact kC (Kd.S_reads' HO561.out).2.2);(case side4=>exact(Kd.S_reads' HO561.out).2.1);rintro e w' ⟨rfl,⟨nd,rfl⟩⟩)|(go_at_call 22;(with_reducible refine(mat_Turned.calls kj18 _ _ l0 t563 _ ?side1 ?side2 A67.out).mono ?_);(case side1=>repeat (first|exact(Kd.C_below HR0.out (by first|with_reducible exact HB.out|exact bl HB))|(with_reducible refine Kd.C_alloc ?_ _)|(with_reducible refine Kd.C_drewN ?_ _)|(with_reducible refine Kd.C_drew ?_)));(case side2=>exact HC0.out);rintro e w78 ⟨v564,rfl,ho0,hb⟩;have n0_:=Aside0.mk (Kd.S_elder' (by first|exact HO558.out|exact kS HO558.out) (Kd.S_base ho0) hb);have n1_:=Aside0.mk (Kd.S_elder' (by first|exact HO561.out|exact kS HO561.out) (Kd.S_base ho0) hb);have n2_:=Aside0.mk (Kd.S_lower (Kd.S_new' (Kd.S_new' ho0 (Kd.S_lt (by first|exact HO558.out|exact kS HO558.out))) (Kd.S_lt (by first|exact HO561.out|exact kS HO561.out))) (below_size (by first|with_reducible exact HB.out|exact bl HB)));have n3_:=Aside0.mk (below_step (by first|with_reducible exact HB.out|exact bl HB) hb);clear HO558;clear HO561;clear HB;have HO558:=n0_;have HO561:=n1_;have HO565:=n2_;have HB:=n3_;clear n0_ n1_ n2_ n3_;(try clear hb);(try clear hb2);(try clear hk);(try clear hi);(try clear ho0))|(go_at_call 23;(with_reducible refine(outriggerref08_Turned.calls kj18 _ _ l0 t566 _ ?side1 ?side2 A68.out).mono ?_);(case side1=>first|exact(Kd.C_below HR0.out HB.out)|exact kC (Kd.C_below HR0.out HB.out));(case side2=>exact HC0.out);rintro e w79 ⟨v567,rfl,ho0,hb⟩;have n0_:=Aside0.mk (Kd.S_elder' (by first|exact HO558.out|exact kS HO558.out) (Kd.S_base ho0) hb);have n1_:=Aside0.mk (Kd.S_elder' (by first|exact HO561.out|exact kS HO561.out) (Kd.S_base ho0) hb);have n2_:=Aside0.mk (Kd.S_elder' (by first|exact HO565.out|exact kS HO565.out) (Kd.S_base ho0) hb);have n3_:=Aside0.mk (Kd.S_lower (Kd.S_new' (Kd.S_new' (Kd.S_new' ho0 (Kd.S_lt (by first|exact HO558.out|exact kS HO558.out))) (Kd.S_lt (by first|exact HO561.out|exact kS HO561.out))) (Kd.S_lt (by first|exact HO565.out|exact kS HO565.out))) (below_size (by first|with_reducible exact HB.out|exact bl HB)));have n4_:=Aside0.mk (below_step (by first|with_reducible exact HB.out|exact bl HB) hb);clear HO558;clear HO561;clear HO565;clear HB;have HO558:=n0_;have HO561:=n1_;have HO565:=n2_;have HO568:=n3_;have HB:=n4_;clear n0_ n1_ n2_ n3_ n4_;(try clear hb);(try clear hb2);(try clear hk);(try clear hi);(try clear ho0);obtain⟨Ao80,co80,eo80⟩:=Kd.S_slice HO565.out;subst eo80;obtain⟨Ao81,co81,eo81⟩:=Kd.S_slice HO568.out;subst eo81)|(go_at_call 16;(with_reducible refine(outriggerref08_Same.calls kj18 _ _ t563 _ _ t566 true _ ?side1 ?side2 ?side3 ?side4 A69.out).mono ?_);(case side1=>first|exact(Kd.S_reads' HO565.out).2.2|exact kC (Kd.S_reads' HO565.out).2.2);(case side2=>exact(Kd.S_reads' HO565.out).2.1);(case side3=>first|exact(Kd.S_reads' HO568.out).2.2|exact kC (Kd.S_reads' HO568.out).2.2);(case side4=>exact(Kd.S_reads' HO568.out).2.1);rintro e w' ⟨rfl,⟨nd,rfl⟩⟩)|(go_at_call 24;(with_reducible refine(mat_Even.calls kj18 _ _ l0 t570 _ ?side1 ?side2 A71.out).mono ?_);(case side1=>repeat (first|exact(Kd.C_below HR0.out (by first|with_reducible exact HB.out|exact bl HB))|(with_reducible refine Kd.C_alloc ?_ _)|(with_reducible refine Kd.C_drewN ?_ _)|(with_reducible refine Kd.C_drew ?_)));(case side2=>exact HC0.out);rintro e w82 ⟨v571,rfl,ho0,hb⟩;have n0_:=Aside0.mk (Kd.S_elder' (by first|exact HO558.out|exact kS HO558.out) (Kd.S_base ho0) hb);have n1_:=Aside0.mk (Kd.S_elder' (by first|exact HO561.out|exact kS HO561.out) (Kd.S_base ho0) hb);have n2_:=Aside0.mk (Kd.S_elder' (by first|exact HO565.out|exact kS HO565.out) (Kd.S_base ho0) hb);have n3_:=Aside0.mk (Kd.S_elder' (by first|exact HO568.out|exact kS HO568.out) (Kd.S_base ho0) hb);have n4_:=Aside0.mk (Kd.S_lower (Kd.S_new' (Kd.S_new' (Kd.S_new' (Kd.S_new' ho0 (Kd.S_lt (by first|exact HO558.out|exact kS HO558.out))) (Kd.S_lt (by first|exact HO561.out|exact kS HO561.out))) (Kd.S_lt (by first|exact HO565.out|exact kS HO565.out))) (Kd.S_lt (by first|exact HO568.out|exact kS HO568.out))) (below_size (by first|with_reducible exact HB.out|exact bl HB)));have n5_:=Aside0.mk (below_step (by first|with_reducible exact HB.out|exact bl HB) hb);clear HO558;clear HO561;clear HO565;clear HO568;clear HB;have HO558:=n0_;have HO561:=n1_;have HO565:=n2_;have HO568:=n3_;have HO572:=n4_;have HB:=n5_;clear n0_ n1_ n2_ n3_ n4_ n5_;(try clear hb);(try clear hb2);(try clear hk);(try clear hi);(try clear ho0))|(go_at_call 25;(with_reducible refine(outriggerref08_Even.calls kj18 _ _ l0 t573 _ ?side1 ?side2 A72.out).mono ?_);(case side1=>first|exact(Kd.C_below HR0.out HB.out)|exact kC (Kd.C_below HR0.out HB.out));(case side2=>exact HC0.out);rintro e w83 ⟨v574,rfl,ho0,hb⟩;have n0_:=Aside0.mk (Kd.S_elder' (by first|exact HO558.out|exact kS HO558.out) (Kd.S_base ho0) hb);have n1_:=Aside0.mk (Kd.S_elder' (by first|exact HO561.out|exact kS HO561.out) (Kd.S_base ho0) hb);have n2_:=Aside0.mk (Kd.S_elder' (by first|exact HO565.out|exact kS HO565.out) (Kd.S_base ho0) hb);have n3_:=Aside0.mk (Kd.S_elder' (by first|exact HO568.out|exact kS HO568.out) (Kd.S_base ho0) hb);have n4_:=Aside0.mk (Kd.S_elder' (by first|exact HO572.out|exact kS HO572.out) (Kd.S_base ho0) hb);have n5_:=Aside0.mk (Kd.S_lower (Kd.S_new' (Kd.S_new' (Kd.S_new' (Kd.S_new' (Kd.S_new' ho0 (Kd.S_lt (by first|exact HO558.out|exact kS HO558.out))) (Kd.S_lt (by first|exact HO561.out|exact kS HO561.out))) (Kd.S_lt (by first|exact HO565.out|exact kS HO565.out))) (Kd.S_lt (by first|exact HO568.out|exact kS HO568.out))) (Kd.S_lt (by first|exact HO572.out|exact kS HO572.out))) (below_size (by first|with_reducible exact HB.out|exact bl HB)));have n6_:=Aside0.mk (below_step (by first|with_reducible exact HB.out|exact bl HB) hb);clear HO558;clear HO561;clear HO565;clear HO568;clear HO572;clear HB;have HO558:=n0_;have HO561:=n1_;have HO565:=n2_;have HO568:=n3_;have HO572:=n4_;have HO575:=n5_;have HB:=n6_;clear n0_ n1_ n2_ n3_ n4_ n5_ n6_;(try clear hb);(try clear hb2);(try clear hk);(try clear hi);(try clear ho0);obtain⟨Ao84,co84,eo84⟩:=Kd.S_slice HO572.out;subst eo84;obtain⟨Ao85,co85,eo85⟩:=Kd.S_slice HO575.out;subst eo85)|(go_at_call 16;(with_reducible refine(outriggerref08_Same.calls kj18 _ _ t570 _ _ t573 t576 _ ?side1 ?side2 ?side3 ?side4 A73.out).mono ?_);(case side1=>first|exact(Kd.S_reads' HO572.out).2.2|exact kC (Kd.S_reads' HO572.out).2.2);(case side2=>exact(Kd.S_reads' HO572.out).2.1);(case side3=>first|exact(Kd.S_reads' HO575.out).2.2|exact kC (Kd.S_reads' HO575.out).2.2);(case side4=>exact(Kd.S_reads' HO575.out).2.1);rintro e w' ⟨rfl,⟨nd,rfl⟩⟩))
           go_ret
           exact⟨by first|rfl|(simp [errW_none,errW_some]<;>rfl)|(simp [*,errW_none,errW_some]<;>rfl),by first|with_reducible exact HB.out|exact bl HB⟩
          ·replace c70:=Bool.eq_false_iff.mpr c70
           subst c70
           have H1:(some false)=some r:=by rw [if_neg (show ¬(false=true) by decide)] at H;exact H
           clear H
           have H:=H1
           clear H1
           exact absurd ((Option.some.inj H).trans hr.out) (by decide)
         ·replace c66:=Bool.eq_false_iff.mpr c66
          subst c66
          have H1:(some false)=some r:=by rw [if_neg (show ¬(false=true) by decide)] at H;exact H
          clear H
          have H:=H1
          clear H1
          exact absurd ((Option.some.inj H).trans hr.out) (by decide)
        ·rw [if_neg c62] at H
         have c62b0:(t554 == t555)=false:=by simpa using c62
         (try (have c62b1:decide (t554=t555)=false:=by simpa using c62))
         (try (have c62b2:(t554 == t555)=false:=by simpa using c62))
         (try (have c62b3:¬(t554=t555):=by simpa using c62))
         clear c62
         exact absurd ((Option.some.inj H).trans hr.out) (by decide)
       ·replace c59:=Bool.eq_false_iff.mpr c59
        subst c59
        have H1:(some false)=some r:=by rw [if_neg (show ¬(false=true) by decide)] at H;exact H
        clear H
        have H:=H1
        clear H1
        exact absurd ((Option.some.inj H).trans hr.out) (by decide)
end Go.Proofs.Ytembdogffbcjiaa.B
