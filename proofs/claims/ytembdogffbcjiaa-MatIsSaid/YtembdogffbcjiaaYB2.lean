/- Lemmas of the row, laid by a program. -/
import Derived.Test.YtembdogffbcjiaaYB0
import Derived.Test.YtembdogffbcjiaaYB1
import Derived.Test.YtembdogffbcjiaaYSClo
import Derived.RangeFuncBox
import Derived.Shelf.Abstract
namespace Go.Proofs.Ytembdogffbcjiaa.B
open Go.RowKit Go.Proofs.YtembdogffbcjiaaW.PrintWords Go.Proofs.YtembdogffbcjiaaW.PrintLast Go.Proofs.YtembdogffbcjiaaW.PrintMore
attribute [local go_sem] max2_int min2_int max_two min_two max_three min_three max_four min_four
set_option linter.unusedVariables false
set_option linter.unusedSimpArgs false
attribute [local go_sem high] eqA50
def mat_Sane.l0:Nat→List (List Int)→List (List Int)→Int→Int→Option (Bool)
  | 0,_,_,_,_=>none
  | k+1,x0,x5,x6,x7=>if x7<x6 then (if 0≤x7 then (if x7<(x5.length:Int) then (if ((rd_L1 x5 x7).length:Int)=(x0.length:Int) then (mat_Sane.l0 k x0 x5 x6 (wrap64 (x7+1))) else (some false)) else (none)) else (none)) else (if (x0.length:Int) > 0 then (some (decide ((x0.length:Int)≤6))) else (some false))
def mat_Sane.f (k:Nat) (l0:List (List Int)):Option (Bool):=mat_Sane.l0 k l0 l0 (l0.length:Int) 0
theorem mat_Sane.mono_l:∀ k,(∀ y0 y1 y2 y3,LeO (mat_Sane.l0 k y0 y1 y2 y3) (mat_Sane.l0 (k+1) y0 y1 y2 y3))
 | 0=>fun _ _ _ _ r h=>by simp [mat_Sane.l0] at h
 | k+1=>by
  have ih0:=mat_Sane.mono_l k
  ·intro y0 y1 y2 y3
   unfold mat_Sane.l0
   repeat' first
   | (with_reducible exact ih0 _ _ _ _)
   | (with_reducible exact LeO.refl _)
   | (with_reducible exact LeO.none _)
   | (with_reducible refine LeO.ite ?_ ?_)
   | (with_reducible refine LeO.bind ?_ (fun _=>?_))
   | exact ih0 _ _ _ _
   | exact LeO.none _
   | refine LeO.ite ?_ ?_
   | refine LeO.bind ?_ (fun _=>?_)
theorem mat_Sane.mono:∀ a0 k,LeO (mat_Sane.f k a0) (mat_Sane.f (k+1) a0):=by
 intro a0 k
 have ih0:=mat_Sane.mono_l k
 unfold mat_Sane.f
 repeat' first
   | (with_reducible exact ih0 _ _ _ _)
   | (with_reducible exact LeO.refl _)
   | (with_reducible exact LeO.none _)
   | (with_reducible refine LeO.ite ?_ ?_)
   | (with_reducible refine LeO.bind ?_ (fun _=>?_))
   | exact ih0 _ _ _ _
   | exact LeO.none _
   | refine LeO.ite ?_ ?_
   | refine LeO.bind ?_ (fun _=>?_)
set_option maxHeartbeats 8000000 in
set_option maxRecDepth 100000 in
theorem mat_Sane.calls (k:Nat) (A0:Option Addr) (c0:Nat) (l0:List (List Int)) (r:Bool) (w:World) (hr0:Kd.C (Kd.slice 3 (Kd.int .i64)) w A0 l0.length l0) (hc0:l0.length≤c0) (h:mat_Sane.f k l0=some r) :
  Calls Try.prog 18 #[.slice A0 l0.length c0] w fun e w'=>e=.returned (.bool r)∧Drawn0 w w':=by
 have HR0:=Aside0.mk hr0
 have HC0:=Aside0.mk hc0
 clear hr0 hc0
 have H:(mat_Sane.l0 k l0 l0 (l0.length:Int) 0)=some r:=h
 clear h
 have H':=Aside0.mk H
 clear H
 go_enter Try.func18,Try.ntmps18
 go_wp2
 go_loopg [7] k (fun kq v7 w'=>∃ (x7_1:Int),v7=.int .i64 x7_1∧Aside0 (mat_Sane.l0 kq l0 l0 (l0.length:Int) x7_1=some r)∧Aside0 (kq≤k)∧Drawn0 w w')
 case atStart=>exact⟨(0),(by first|rfl|(simp;done)|(simp [*];done)),H',⟨Nat.le_refl _⟩,by repeat (first|exact Drawn0.refl _|apply Drawn0.step)⟩
 case round =>
  clear H'
  try clear c1
  obtain⟨x7_1,rfl,HA,HK1,⟨m1,rfl⟩⟩:=hrel
  cases gk with
  | zero=>exact absurd HA.out (by simp [mat_Sane.l0])
  | succ k1 =>
   have H:=HA.out
   clear HA
   simp only [mat_Sane.l0] at H
   by_cases c2:x7_1<(l0.length:Int)
   ·rw [if_pos c2] at H
    have c2b0:decide (x7_1<(l0.length:Int))=true:=decide_eq_true c2
    clear c2
    by_cases c3:0≤x7_1
    ·rw [if_pos c3] at H
     have c3b0:decide (0≤x7_1)=true:=decide_eq_true c3
     clear c3
     by_cases c4:x7_1<(l0.length:Int)
     ·rw [if_pos c4] at H
      have c4b0:decide (x7_1<(l0.length:Int))=true:=decide_eq_true c4
      clear c4
      by_cases c5:((rd_L1 l0 x7_1).length:Int)=(l0.length:Int)
      ·rw [if_pos c5] at H
       have c5b0:(((rd_L1 l0 x7_1).length:Int) == (l0.length:Int))=true:=beq_iff_eq.mpr c5
       have c5b1:(((rd_L1 l0 x7_1).length:Int) != (l0.length:Int))=false:=bne_eq_false_iff_eq.mpr c5
       have c5b2:((rd_L1 l0 x7_1).length == l0.length)=true:=by first|simpa using c5|(simp at c5 ⊢;omega)
       clear c5
       have H':=Aside0.mk H
       clear H
       have p101:0≤(x7_1:Int):=of_decide_eq_true (by first|(with_reducible assumption)|assumption)
       have q101:x7_1<(l0.length:Int):=of_decide_eq_true (by first|(with_reducible assumption)|assumption)
       obtain⟨ad101,A101_0,c101_0,e101,hx101_0,hl101_0,hi101_0⟩:=at_L1 HR0.out x7_1 p101 q101
       cases e101
       have HR101_0:=Aside0.mk hi101_0
       have HC101_0:=Aside0.mk hl101_0
       clear hi101_0 hl101_0
       replace p101:=eq_true p101
       replace q101:=eq_true q101
       go_wp2
       go_roundg k1
       case measure=>have:=HK1.out;omega
       case rel=>exact⟨(wrap64 (x7_1+1)),(by first|rfl|(simp;done)|(simp [*];done)),H',⟨by have:=HK1.out;omega⟩,by repeat (first|exact Drawn0.refl _|apply Drawn0.step)⟩
      ·rw [if_neg c5] at H
       have c5b0:(((rd_L1 l0 x7_1).length:Int) == (l0.length:Int))=false:=beq_eq_false_iff_ne.mpr c5
       have c5b1:(((rd_L1 l0 x7_1).length:Int) != (l0.length:Int))=true:=bne_iff_ne.mpr c5
       have c5b2:((rd_L1 l0 x7_1).length == l0.length)=false:=by first|simpa using c5|(simp at c5 ⊢;omega)
       obtain rfl:=Option.some.inj H
       have p101:0≤(x7_1:Int):=of_decide_eq_true (by first|(with_reducible assumption)|assumption)
       have q101:x7_1<(l0.length:Int):=of_decide_eq_true (by first|(with_reducible assumption)|assumption)
       obtain⟨ad101,A101_0,c101_0,e101,hx101_0,hl101_0,hi101_0⟩:=at_L1 HR0.out x7_1 p101 q101
       cases e101
       have HR101_0:=Aside0.mk hi101_0
       have HC101_0:=Aside0.mk hl101_0
       clear hi101_0 hl101_0
       replace p101:=eq_true p101
       replace q101:=eq_true q101
       go_wp2
       go_ret
       exact⟨by first|rfl|(simp;done)|(simp [*];done),by repeat (first|exact Drawn0.refl _|apply Drawn0.step)⟩
     ·rw [if_neg c4] at H
      exact absurd H (by simp)
    ·rw [if_neg c3] at H
     exact absurd H (by simp)
   ·rw [if_neg c2] at H
    have c2b0:decide (x7_1<(l0.length:Int))=false:=decide_eq_false c2
    clear c2
    by_cases c6:(l0.length:Int) > 0
    ·rw [if_pos c6] at H
     have c6b0:decide (0<(l0.length:Int))=true:=decide_eq_true c6
     have c6b1:decide (0<l0.length)=true:=decide_eq_true (by omega)
     clear c6
     obtain rfl:=Option.some.inj H
     go_wp2
     go_ret
     exact⟨by first|rfl|(simp;done)|(simp [*];done),by repeat (first|exact Drawn0.refl _|apply Drawn0.step)⟩
    ·rw [if_neg c6] at H
     have c6b0:decide (0<(l0.length:Int))=false:=decide_eq_false c6
     have c6b1:decide (0<l0.length)=false:=decide_eq_false (by omega)
     clear c6
     obtain rfl:=Option.some.inj H
     go_wp2
     go_ret
     exact⟨by first|rfl|(simp;done)|(simp [*];done),by repeat (first|exact Drawn0.refl _|apply Drawn0.step)⟩
def fix_within_int.f (a0:Int) (a1:Int) (a2:Int):Option (Int):=some (mx a1 (mn a0 a2))
set_option maxHeartbeats 8000000 in
set_option maxRecDepth 100000 in
theorem fix_within_int.calls (a0:Int) (a1:Int) (a2:Int) (r:Int) (w:World) (h:fix_within_int.f a0 a1 a2=some r) :
  Calls Try.prog 69 #[.int .i64 a0,.int .i64 a1,.int .i64 a2] w fun e w'=>e=.returned (.int .i64 r)∧Below w.heap.size w w':=by
 have HB:=Aside0.mk (Below.refl w.heap.size w)
 have H:(some (mx a1 (mn a0 a2)))=some r:=h
 clear h
 obtain⟨ji4,hji4⟩:∃ j_:Int,(mn a0 a2)=j_:=⟨_,rfl⟩
 replace H:(some (mx a1 (ji4)))=some r:=by first|(rw [hji4] at H;exact H)|(simp only [hji4] at H ⊢;exact H)
 have hji4_:(if a2<a0 then a2 else a0)=ji4:=hji4
 obtain⟨ji5,hji5⟩:∃ j_:Int,(mx a1 (ji4))=j_:=⟨_,rfl⟩
 replace H:(some ji5)=some r:=by first|(rw [hji5] at H;exact H)|(simp only [hji5] at H ⊢;exact H)
 have hji5_:(if a1<(ji4) then (ji4) else a1)=ji5:=hji5
 obtain rfl:=Option.some.inj H
 go_enter Try.func69,Try.ntmps69
 go_wp2
 go_ret
 exact⟨by first|rfl|(simp [errW_none,errW_some]<;>rfl)|(simp only [←hji4,←hji5];first|rfl|(simp [errW_none,errW_some]<;>rfl))|(simp [*,errW_none,errW_some]<;>rfl),by first|with_reducible exact HB.out|exact bl HB⟩
def fix_Clamp.f (a0:Int):Option (Int × Bool):=(fix_within_int.f a0 (-288230376151711744) 288230376151711744).bind fun t102=>(some (t102,(t102 != a0)))
set_option maxHeartbeats 8000000 in
set_option maxRecDepth 100000 in
theorem fix_Clamp.calls (a0:Int) (r1:Int) (r2:Bool) (w:World) (h:fix_Clamp.f a0=some (r1,r2)) :
  Calls Try.prog 49 #[.int .i64 a0] w fun e w'=>e=.returned (.tuple #[.int .i64 r1,.bool r2])∧Below w.heap.size w w':=by
 have HB:=Aside0.mk (Below.refl w.heap.size w)
 have H:((fix_within_int.f a0 (-288230376151711744) 288230376151711744).bind fun t102=>(some (t102,(t102 != a0))))=some (r1,r2):=h
 clear h
 replace H:=Option.bind_eq_some_iff.mp H
 obtain⟨t102,A20,H⟩:=H
 replace H:(some (t102,(t102 != a0)))=some (r1,r2):=H
 have A2:=Aside0.mk A20
 clear A20
 simp only [Option.some.injEq,Prod.mk.injEq] at H
 obtain⟨rfl,rfl⟩:=H
 go_enter Try.func49,Try.ntmps49
 go_wp2_with (first|((with_reducible refine gate_callee (f:=69) rfl ?_);refine goesL_ (some 6) rfl rfl Try.func69 (by kernel_rfl) rfl #[.int .i64 a0,.int .i64 (-288230376151711744),.int .i64 288230376151711744] rfl (by exact mA _ _) ?_;(with_reducible refine(fix_within_int.calls a0 (-288230376151711744) 288230376151711744 t102 _ A2.out).mono ?_);rintro e w3 ⟨rfl,hb⟩;refine⟨_,rfl,?_⟩;have n0_:=Aside0.mk (below_step (by first|with_reducible exact HB.out|exact bl HB) hb);clear HB;have HB:=n0_;clear n0_;(try clear hb);(try clear hb2);(try clear hk);(try clear hi)))
 go_ret2
 exact⟨by first|rfl|(simp [errW_none,errW_some]<;>rfl)|(simp [*,errW_none,errW_some]<;>rfl),by first|with_reducible exact HB.out|exact bl HB⟩
def fix_known.f (a0:Int):Option (Int):=(fix_within_int.f a0 (-288230376151711744) 288230376151711744).bind fun t103=>(some t103)
set_option maxHeartbeats 8000000 in
set_option maxRecDepth 100000 in
theorem fix_known.calls (a0:Int) (r:Int) (w:World) (h:fix_known.f a0=some r) :
  Calls Try.prog 50 #[.int .i64 a0] w fun e w'=>e=.returned (.int .i64 r)∧Below w.heap.size w w':=by
 have HB:=Aside0.mk (Below.refl w.heap.size w)
 have H:((fix_within_int.f a0 (-288230376151711744) 288230376151711744).bind fun t103=>(some t103))=some r:=h
 clear h
 replace H:=Option.bind_eq_some_iff.mp H
 obtain⟨t103,A20,H⟩:=H
 replace H:(some t103)=some r:=H
 have A2:=Aside0.mk A20
 clear A20
 obtain rfl:=Option.some.inj H
 go_enter Try.func50,Try.ntmps50
 go_wp2_with (first|((with_reducible refine gate_callee (f:=69) rfl ?_);refine goesL_ (some 4) rfl rfl Try.func69 (by kernel_rfl) rfl #[.int .i64 a0,.int .i64 (-288230376151711744),.int .i64 288230376151711744] rfl (by exact mA _ _) ?_;(with_reducible refine(fix_within_int.calls a0 (-288230376151711744) 288230376151711744 t103 _ A2.out).mono ?_);rintro e w3 ⟨rfl,hb⟩;refine⟨_,rfl,?_⟩;have n0_:=Aside0.mk (below_step (by first|with_reducible exact HB.out|exact bl HB) hb);clear HB;have HB:=n0_;clear n0_;(try clear hb);(try clear hb2);(try clear hk);(try clear hi)))
 go_ret
 exact⟨by first|rfl|(simp [errW_none,errW_some]<;>rfl)|(simp [*,errW_none,errW_some]<;>rfl),by first|with_reducible exact HB.out|exact bl HB⟩
def fix_Add.f (a0:Int) (a1:Int):Option (Int × Bool):=(fix_known.f a0).bind fun t104=>((fix_known.f a1).bind fun t105=>((fix_Clamp.f (wrap64 (t104+t105))).bind fun bt106=>(if bt106.2=true then (some (bt106.1,true)) else ((fix_known.f a0).bind fun t108=>(if t108=a0 then ((fix_known.f a1).bind fun t109=>(some (bt106.1,(t109 != a1)))) else (some (bt106.1,true)))))))
set_option maxHeartbeats 8000000 in
set_option maxRecDepth 100000 in
theorem fix_Add.calls (a0:Int) (a1:Int) (r1:Int) (r2:Bool) (w:World) (h:fix_Add.f a0 a1=some (r1,r2)) :
  Calls Try.prog 29 #[.int .i64 a0,.int .i64 a1] w fun e w'=>e=.returned (.tuple #[.int .i64 r1,.bool r2])∧Below w.heap.size w w':=by
 have HB:=Aside0.mk (Below.refl w.heap.size w)
 have H:((fix_known.f a0).bind fun t104=>((fix_known.f a1).bind fun t105=>((fix_Clamp.f (wrap64 (t104+t105))).bind fun bt106=>(if bt106.2=true then (some (bt106.1,true)) else ((fix_known.f a0).bind fun t108=>(if t108=a0 then ((fix_known.f a1).bind fun t109=>(some (bt106.1,(t109 != a1)))) else (some (bt106.1,true))))))))=some (r1,r2):=h
 clear h
 replace H:=Option.bind_eq_some_iff.mp H
 obtain⟨t104,A30,H⟩:=H
 replace H:((fix_known.f a1).bind fun t105=>((fix_Clamp.f (wrap64 (t104+t105))).bind fun bt106=>(if bt106.2=true then (some (bt106.1,true)) else ((fix_known.f a0).bind fun t108=>(if t108=a0 then ((fix_known.f a1).bind fun t109=>(some (bt106.1,(t109 != a1)))) else (some (bt106.1,true)))))))=some (r1,r2):=H
 have A3:=Aside0.mk A30
 clear A30
 replace H:=Option.bind_eq_some_iff.mp H
 obtain⟨t105,A40,H⟩:=H
 replace H:((fix_Clamp.f (wrap64 (t104+t105))).bind fun bt106=>(if bt106.2=true then (some (bt106.1,true)) else ((fix_known.f a0).bind fun t108=>(if t108=a0 then ((fix_known.f a1).bind fun t109=>(some (bt106.1,(t109 != a1)))) else (some (bt106.1,true))))))=some (r1,r2):=H
 have A4:=Aside0.mk A40
 clear A40
 replace H:=Option.bind_eq_some_iff.mp H
 obtain⟨⟨t106,t107⟩,A50,H⟩:=H
 replace H:(if t107=true then (some (t106,true)) else ((fix_known.f a0).bind fun t108=>(if t108=a0 then ((fix_known.f a1).bind fun t109=>(some (t106,(t109 != a1)))) else (some (t106,true)))))=some (r1,r2):=H
 have A5:=Aside0.mk A50
 clear A50
 by_cases c6:t107=true
 ·subst c6
  have H1:(some (t106,true))=some (r1,r2):=by rw [if_pos rfl] at H;exact H
  clear H
  have H:=H1
  clear H1
  simp only [Option.some.injEq,Prod.mk.injEq] at H
  obtain⟨rfl,rfl⟩:=H
  go_enter Try.func29,Try.ntmps29
  go_wp2_with (first|((with_reducible refine gate_callee (f:=50) rfl ?_);refine goesL_ (some 10) rfl rfl Try.func50 (by kernel_rfl) rfl #[.int .i64 a0] rfl (by exact mA _ _) ?_;(with_reducible refine(fix_known.calls a0 t104 _ A3.out).mono ?_);rintro e w7 ⟨rfl,hb⟩;refine⟨_,rfl,?_⟩;have n0_:=Aside0.mk (below_step (by first|with_reducible exact HB.out|exact bl HB) hb);clear HB;have HB:=n0_;clear n0_;(try clear hb);(try clear hb2);(try clear hk);(try clear hi))|((with_reducible refine gate_callee (f:=50) rfl ?_);refine goesL_ (some 12) rfl rfl Try.func50 (by kernel_rfl) rfl #[.int .i64 a1] rfl (by exact mA _ _) ?_;(with_reducible refine(fix_known.calls a1 t105 _ A4.out).mono ?_);rintro e w8 ⟨rfl,hb⟩;refine⟨_,rfl,?_⟩;have n0_:=Aside0.mk (below_step (by first|with_reducible exact HB.out|exact bl HB) hb);clear HB;have HB:=n0_;clear n0_;(try clear hb);(try clear hb2);(try clear hk);(try clear hi))|((with_reducible refine gate_callee (f:=49) rfl ?_);refine goesL_ (some 14) rfl rfl Try.func49 (by kernel_rfl) rfl #[.int .i64 (wrap64 (t104+t105))] rfl (by exact mA _ _) ?_;(with_reducible refine(fix_Clamp.calls (wrap64 (t104+t105)) t106 true _ A5.out).mono ?_);rintro e w9 ⟨rfl,hb⟩;refine⟨_,rfl,?_⟩;have n0_:=Aside0.mk (below_step (by first|with_reducible exact HB.out|exact bl HB) hb);clear HB;have HB:=n0_;clear n0_;(try clear hb);(try clear hb2);(try clear hk);(try clear hi)))
  go_ret2
  exact⟨by first|rfl|(simp [errW_none,errW_some]<;>rfl)|(simp [*,errW_none,errW_some]<;>rfl),by first|with_reducible exact HB.out|exact bl HB⟩
 ·replace c6:=Bool.eq_false_iff.mpr c6
  subst c6
  have H1:((fix_known.f a0).bind fun t108=>(if t108=a0 then ((fix_known.f a1).bind fun t109=>(some (t106,(t109 != a1)))) else (some (t106,true))))=some (r1,r2):=by rw [if_neg (show ¬(false=true) by decide)] at H;exact H
  clear H
  have H:=H1
  clear H1
  replace H:=Option.bind_eq_some_iff.mp H
  obtain⟨t108,A100,H⟩:=H
  replace H:(if t108=a0 then ((fix_known.f a1).bind fun t109=>(some (t106,(t109 != a1)))) else (some (t106,true)))=some (r1,r2):=H
  have A10:=Aside0.mk A100
  clear A100
  by_cases c11:t108=a0
  ·rw [if_pos c11] at H
   have c11b0:(t108 == a0)=true:=beq_iff_eq.mpr c11
   have c11b1:(t108 != a0)=false:=bne_eq_false_iff_eq.mpr c11
   clear c11
   replace H:=Option.bind_eq_some_iff.mp H
   obtain⟨t109,A120,H⟩:=H
   replace H:(some (t106,(t109 != a1)))=some (r1,r2):=H
   have A12:=Aside0.mk A120
   clear A120
   simp only [Option.some.injEq,Prod.mk.injEq] at H
   obtain⟨rfl,rfl⟩:=H
   go_enter Try.func29,Try.ntmps29
   go_wp2_with (first|((with_reducible refine gate_callee (f:=50) rfl ?_);refine goesL_ (some 10) rfl rfl Try.func50 (by kernel_rfl) rfl #[.int .i64 a0] rfl (by exact mA _ _) ?_;(with_reducible refine(fix_known.calls a0 t104 _ A3.out).mono ?_);rintro e w13 ⟨rfl,hb⟩;refine⟨_,rfl,?_⟩;have n0_:=Aside0.mk (below_step (by first|with_reducible exact HB.out|exact bl HB) hb);clear HB;have HB:=n0_;clear n0_;(try clear hb);(try clear hb2);(try clear hk);(try clear hi))|((with_reducible refine gate_callee (f:=50) rfl ?_);refine goesL_ (some 12) rfl rfl Try.func50 (by kernel_rfl) rfl #[.int .i64 a1] rfl (by exact mA _ _) ?_;(with_reducible refine(fix_known.calls a1 t105 _ A4.out).mono ?_);rintro e w14 ⟨rfl,hb⟩;refine⟨_,rfl,?_⟩;have n0_:=Aside0.mk (below_step (by first|with_reducible exact HB.out|exact bl HB) hb);clear HB;have HB:=n0_;clear n0_;(try clear hb);(try clear hb2);(try clear hk);(try clear hi))|((with_reducible refine gate_callee (f:=49) rfl ?_);refine goesL_ (some 14) rfl rfl Try.func49 (by kernel_rfl) rfl #[.int .i64 (wrap64 (t104+t105))] rfl (by exact mA _ _) ?_;(with_reducible refine(fix_Clamp.calls (wrap64 (t104+t105)) t106 false _ A5.out).mono ?_);rintro e w15 ⟨rfl,hb⟩;refine⟨_,rfl,?_⟩;have n0_:=Aside0.mk (below_step (by first|with_reducible exact HB.out|exact bl HB) hb);clear HB;have HB:=n0_;clear n0_;(try clear hb);(try clear hb2);(try clear hk);(try clear hi))|(go_at_call 50;(with_reducible refine(fix_known.calls a0 t108 _ A10.out).mono ?_);rintro e w16 ⟨rfl,hb⟩;have n0_:=Aside0.mk (below_step (by first|with_reducible exact HB.out|exact bl HB) hb);clear HB;have HB:=n0_;clear n0_;(try clear hb);(try clear hb2);(try clear hk);(try clear hi))|(go_at_call 50;(with_reducible refine(fix_known.calls a1 t109 _ A12.out).mono ?_);rintro e w17 ⟨rfl,hb⟩;have n0_:=Aside0.mk (below_step (by first|with_reducible exact HB.out|exact bl HB) hb);clear HB;have HB:=n0_;clear n0_;(try clear hb);(try clear hb2);(try clear hk);(try clear hi)))
   go_ret2
   exact⟨by first|rfl|(simp [errW_none,errW_some]<;>rfl)|(simp [*,errW_none,errW_some]<;>rfl),by first|with_reducible exact HB.out|exact bl HB⟩
  ·rw [if_neg c11] at H
   have c11b0:(t108 == a0)=false:=beq_eq_false_iff_ne.mpr c11
   have c11b1:(t108 != a0)=true:=bne_iff_ne.mpr c11
   simp only [Option.some.injEq,Prod.mk.injEq] at H
   obtain⟨rfl,rfl⟩:=H
   go_enter Try.func29,Try.ntmps29
   go_wp2_with (first|((with_reducible refine gate_callee (f:=50) rfl ?_);refine goesL_ (some 10) rfl rfl Try.func50 (by kernel_rfl) rfl #[.int .i64 a0] rfl (by exact mA _ _) ?_;(with_reducible refine(fix_known.calls a0 t104 _ A3.out).mono ?_);rintro e w18 ⟨rfl,hb⟩;refine⟨_,rfl,?_⟩;have n0_:=Aside0.mk (below_step (by first|with_reducible exact HB.out|exact bl HB) hb);clear HB;have HB:=n0_;clear n0_;(try clear hb);(try clear hb2);(try clear hk);(try clear hi))|((with_reducible refine gate_callee (f:=50) rfl ?_);refine goesL_ (some 12) rfl rfl Try.func50 (by kernel_rfl) rfl #[.int .i64 a1] rfl (by exact mA _ _) ?_;(with_reducible refine(fix_known.calls a1 t105 _ A4.out).mono ?_);rintro e w19 ⟨rfl,hb⟩;refine⟨_,rfl,?_⟩;have n0_:=Aside0.mk (below_step (by first|with_reducible exact HB.out|exact bl HB) hb);clear HB;have HB:=n0_;clear n0_;(try clear hb);(try clear hb2);(try clear hk);(try clear hi))|((with_reducible refine gate_callee (f:=49) rfl ?_);refine goesL_ (some 14) rfl rfl Try.func49 (by kernel_rfl) rfl #[.int .i64 (wrap64 (t104+t105))] rfl (by exact mA _ _) ?_;(with_reducible refine(fix_Clamp.calls (wrap64 (t104+t105)) t106 false _ A5.out).mono ?_);rintro e w20 ⟨rfl,hb⟩;refine⟨_,rfl,?_⟩;have n0_:=Aside0.mk (below_step (by first|with_reducible exact HB.out|exact bl HB) hb);clear HB;have HB:=n0_;clear n0_;(try clear hb);(try clear hb2);(try clear hk);(try clear hi))|(go_at_call 50;(with_reducible refine(fix_known.calls a0 t108 _ A10.out).mono ?_);rintro e w21 ⟨rfl,hb⟩;have n0_:=Aside0.mk (below_step (by first|with_reducible exact HB.out|exact bl HB) hb);clear HB;have HB:=n0_;clear n0_;(try clear hb);(try clear hb2);(try clear hk);(try clear hi)))
   go_ret2
   exact⟨by first|rfl|(simp [errW_none,errW_some]<;>rfl)|(simp [*,errW_none,errW_some]<;>rfl),by first|with_reducible exact HB.out|exact bl HB⟩
mutual
def mat_made.l0 (F:Int→Int→Option (Int × Bool)):Nat→Int→List (List Int)→Bool→Int→Int→Option ((List (List Int)) × Bool)
  | 0,_,_,_,_,_=>none
  | k+1,x0,x6,x7,x13,x14=>if x14<x13 then (if 0≤x0 then (if (x0:Int).toNat≤35184372088832 then ((some (List.replicate (x0:Int).toNat 0:List Int)).bind fun y110=>(mat_made.l1 F k x0 x6 x7 x14 y110 x13 x14 (y110.length:Int) 0)) else (none)) else (none)) else (some (x6,x7))
def mat_made.l1 (F:Int→Int→Option (Int × Bool)):Nat→Int→List (List Int)→Bool→Int→List Int→Int→Int→Int→Int→Option ((List (List Int)) × Bool)
  | 0,_,_,_,_,_,_,_,_,_=>none
  | k+1,x0,x6,x7,x8,x9,x13,x14,x20,x21=>if x21<x20 then ((F x8 x21).bind fun bt113=>(if 0≤x21 then (if x21<(x9.length:Int) then ((some (x9.set (x21:Int).toNat bt113.1:List Int)).bind fun y115=>(if x7=true then (mat_made.l1 F k x0 x6 true x8 y115 x13 x14 x20 (wrap64 (x21+1))) else (mat_made.l1 F k x0 x6 bt113.2 x8 y115 x13 x14 x20 (wrap64 (x21+1))))) else (none)) else (none))) else (if x6.length<5864062014805 then (mat_made.l0 F k x0 (x6++[x9]) x7 x13 (wrap64 (x14+1))) else (none))
end
def mat_made.f (F:Int→Int→Option (Int × Bool)) (k:Nat) (a0:Int):Option ((List (List Int)) × Bool):=mat_made.l0 F k a0 ([]:List (List Int)) false a0 0
theorem mat_made.mono_l {F G:Int→Int→Option (Int × Bool)} (hF:∀ i j,LeO (F i j) (G i j)):∀ k,(∀ y0 y1 y2 y3 y4,LeO (mat_made.l0 F k y0 y1 y2 y3 y4) (mat_made.l0 G (k+1) y0 y1 y2 y3 y4))∧(∀ y0 y1 y2 y3 y4 y5 y6 y7 y8,LeO (mat_made.l1 F k y0 y1 y2 y3 y4 y5 y6 y7 y8) (mat_made.l1 G (k+1) y0 y1 y2 y3 y4 y5 y6 y7 y8))
 | 0=>⟨fun _ _ _ _ _ r h=>by simp [mat_made.l0] at h,fun _ _ _ _ _ _ _ _ _ r h=>by simp [mat_made.l1] at h⟩
 | k+1=>by
  obtain⟨ih0,ih1⟩:=mat_made.mono_l hF k
  refine⟨?_,?_⟩
  ·intro y0 y1 y2 y3 y4
   unfold mat_made.l0
   repeat' first
   | (with_reducible exact hF _ _)
   | (with_reducible exact ih0 _ _ _ _ _)
   | (with_reducible exact ih1 _ _ _ _ _ _ _ _ _)
   | (with_reducible exact LeO.refl _)
   | (with_reducible exact LeO.none _)
   | (with_reducible refine LeO.ite ?_ ?_)
   | (with_reducible refine LeO.bind ?_ (fun _=>?_))
   | exact ih0 _ _ _ _ _
   | exact ih1 _ _ _ _ _ _ _ _ _
   | exact LeO.none _
   | refine LeO.ite ?_ ?_
   | refine LeO.bind ?_ (fun _=>?_)
  ·intro y0 y1 y2 y3 y4 y5 y6 y7 y8
   unfold mat_made.l1
   repeat' first
   | (with_reducible exact hF _ _)
   | (with_reducible exact ih0 _ _ _ _ _)
   | (with_reducible exact ih1 _ _ _ _ _ _ _ _ _)
   | (with_reducible exact LeO.refl _)
   | (with_reducible exact LeO.none _)
   | (with_reducible refine LeO.ite ?_ ?_)
   | (with_reducible refine LeO.bind ?_ (fun _=>?_))
   | exact ih0 _ _ _ _ _
   | exact ih1 _ _ _ _ _ _ _ _ _
   | exact LeO.none _
   | refine LeO.ite ?_ ?_
   | refine LeO.bind ?_ (fun _=>?_)
theorem mat_made.mono {F G:Int→Int→Option (Int × Bool)} (hF:∀ i j,LeO (F i j) (G i j)):∀ a0 k,LeO (mat_made.f F k a0) (mat_made.f G (k+1) a0):=by
 intro a0 k
 obtain⟨ih0,ih1⟩:=mat_made.mono_l hF k
 unfold mat_made.f
 repeat' first
   | (with_reducible exact hF _ _)
   | (with_reducible exact ih0 _ _ _ _ _)
   | (with_reducible exact ih1 _ _ _ _ _ _ _ _ _)
   | (with_reducible exact LeO.refl _)
   | (with_reducible exact LeO.none _)
   | (with_reducible refine LeO.ite ?_ ?_)
   | (with_reducible refine LeO.bind ?_ (fun _=>?_))
   | exact ih0 _ _ _ _ _
   | exact ih1 _ _ _ _ _ _ _ _ _
   | exact LeO.none _
   | refine LeO.ite ?_ ?_
   | refine LeO.bind ?_ (fun _=>?_)
set_option maxHeartbeats 8000000 in
set_option maxRecDepth 100000 in
theorem mat_made.calls (F:Int→Int→Option (Int × Bool)) (g:Nat) (pre lb:Array Value) (k:Nat) (a0:Int) (r1:List (List Int)) (r2:Bool) (w:World) (eg:∀ args w,(callFunc g args).run Try.prog w=.ok (.enter g args) w) (hF:Aside0 (∀ i j r1 r2 W,Below w.heap.size w W→F i j=some (r1,r2)→Calls Try.prog g (pre++(#[.int .i64 i,.int .i64 j]++lb)) W fun e W'=>e=.returned (.tuple #[.int .i64 r1,.bool r2])∧Below W.heap.size W W')) (h:mat_made.f F k a0=some (r1,r2)) :
  Calls Try.prog 27 #[.int .i64 a0,.func (.func g) pre lb] w fun e w'=>∃ v0_:Value,e=.returned (.tuple #[v0_,.bool r2])∧Kd.S (Kd.slice 3 (Kd.int .i64)) 23 w' w.heap.size (fun _=>True) v0_ r1∧Below w.heap.size w w':=by
 have HB:=Aside0.mk (Below.refl w.heap.size w)
 have H:(mat_made.l0 F k a0 ([]:List (List Int)) false a0 0)=some (r1,r2):=h
 clear h
 have H':=Aside0.mk H
 clear H
 go_enter Try.func27,Try.ntmps27
 go_wp2
 go_loopg [6,7,14] k (fun kq v6 v7 v14 w'=>∃ (x6_1:List (List Int)) (x7_1:Bool) (x14_1:Int),v7=.bool x7_1∧v14=.int .i64 x14_1∧Aside0 (mat_made.l0 F kq a0 x6_1 x7_1 a0 x14_1=some (r1,r2))∧Aside0 (kq≤k)∧Aside0 (Kd.S (Kd.slice 3 (Kd.int .i64)) 23 w' w.heap.size (fun _=>True) v6 x6_1)∧Aside0 (Below w.heap.size w w'))
 case atStart=>exact⟨(([]:List (List Int))),(false),(0),(by first|rfl|(simp;done)|(simp [*];done)),(by first|rfl|(simp;done)|(simp [*];done)),H',⟨Nat.le_refl _⟩,⟨by first|exact Kd.S_nil _ _ _ _ _|exact Kd.N_nil _ _ _ _ _|exact Kd.V_nil _ _ _ _ _|exact Kd.Q_nil _ _ _ _ _|exact Kd.R_nil _ _ _ _ _⟩,⟨by first|with_reducible exact HB.out|exact bl HB⟩⟩
 case round =>
  clear H'
  obtain⟨x6_1,x7_1,x14_1,rfl,rfl,HA,HK1,HO_6,HB⟩:=hrel
  cases gk with
  | zero=>exact absurd HA.out (by simp [mat_made.l0])
  | succ k1 =>
   have H:=HA.out
   clear HA
   simp only [mat_made.l0] at H
   by_cases c2:x14_1<a0
   ·rw [if_pos c2] at H
    have c2b0:decide (x14_1<a0)=true:=decide_eq_true c2
    clear c2
    by_cases c3:0≤a0
    ·rw [if_pos c3] at H
     have c3b0:=eq_true c3
     have c3b1:decide (0≤a0)=true:=decide_eq_true c3
     clear c3
     by_cases c4:(a0:Int).toNat≤35184372088832
     ·rw [if_pos c4] at H
      have c4b0:=eq_true c4
      have c4b1:decide ((a0:Int).toNat≤35184372088832)=true:=decide_eq_true c4
      clear c4
      obtain⟨y110,hy110⟩:∃ y_:List Int,y_=(List.replicate (a0:Int).toNat 0):=⟨_,rfl⟩
      replace H:(mat_made.l1 F k1 a0 x6_1 x7_1 x14_1 y110 a0 x14_1 (y110.length:Int) 0)=some (r1,r2):=by first|(rw [hy110];with_reducible exact H)|(have H2_:=(Option.bind_some _ _).symm.trans H;rw [hy110];with_reducible exact H2_)|(have H2_:=(Option.bind_some _ _).symm.trans H;with_reducible exact H2_)|with_reducible exact H|(rw [hy110];exact H)|exact H
      have Ny110:=Aside0.mk hy110
      clear hy110
      have H':=Aside0.mk H
      clear H
      go_wp2_with (first|((with_reducible refine gate_dst (N:=18) rfl ?_);refine Kd.R_make (Kd.int .i64) _ 3 rfl (N:=18) rfl 23 _ _ rfl a0 rfl rfl Try.underlying23 (.int .i64 0) 8 info3 rfl (by decide) (by omega) 0 (ok:=fun _=>True) (okp:=fun _=>True) rfl (fun _ hk=>hk) trivial (of_decide_eq_true (by first|(with_reducible assumption)|assumption)) (Nat.le_trans (Nat.mul_le_mul_right _ (of_decide_eq_true (by first|(with_reducible assumption)|assumption):a0.toNat≤35184372088832)) (by omega)) (Below.refl _ _) (Nat.le_refl _) ?_;intro v111 w5 ho6 hb hg_ hnew_;clear hg_ hnew_;(first|rw [←Ny110.out] at ho6|(simp only [Int.reduceToNat] at ho6;rw [←Ny110.out] at ho6));have n0_:=Aside0.mk (Kd.S_elder' (by first|exact HO_6.out|exact kS HO_6.out) (Kd.R_base ho6) hb);have n1_:=Aside0.mk (Kd.R_lower ho6 (below_size (by first|with_reducible exact HB.out|exact bl HB)));have n2_:=Aside0.mk (below_step (by first|with_reducible exact HB.out|exact bl HB) hb);clear HO_6;clear HB;have HO_6:=n0_;have HO112:=n1_;have HB:=n2_;clear n0_ n1_ n2_;clear hb ho6;obtain⟨Ao7,co7,eo7⟩:=Kd.R_slice HO112.out;subst eo7))
      go_loopg [7,21] k1 (fun kq v7 v21 w'=>∃ (x7_2:Bool) (x9_2:List Int) (x21_2:Int),v7=.bool x7_2∧v21=.int .i64 x21_2∧Aside0 (mat_made.l1 F kq a0 x6_1 x7_2 x14_1 x9_2 a0 x14_1 (y110.length:Int) x21_2=some (r1,r2))∧Aside0 (kq≤k1)∧Aside0 (Kd.S (Kd.slice 3 (Kd.int .i64)) 23 w' w.heap.size (fun k_=>some k_≠((.slice Ao7 y110.length co7):Value).ownBlock) u6 x6_1)∧Aside0 (Kd.R (Kd.int .i64) 3 w' w.heap.size (fun _=>True) (.slice Ao7 y110.length co7) x9_2)∧Aside0 (Below w.heap.size w w'))
      case atStart=>exact⟨(x7_1),(y110),(0),(by first|rfl|(simp;done)|(simp [*];done)),(by first|rfl|(simp;done)|(simp [*];done)),H',⟨Nat.le_refl _⟩,⟨by (with_reducible repeat (first|apply Kd.S_alloc|apply Kd.S_drewN|apply Kd.S_drew));exact Kd.S_mono HO_6.out (fun _ hk=>hk.2)⟩,⟨by first|exact HO112.out|exact kR HO112.out⟩,⟨by first|with_reducible exact HB.out|exact bl HB⟩⟩
      case round =>
       clear H'
       try clear c2
       try clear c2b0
       try clear p2
       try clear c3
       try clear c3b0
       try clear c3b1
       try clear c4
       try clear c4b0
       try clear c4b1
       obtain⟨x7_2,x9_2,x21_2,rfl,rfl,HA,HK2,HO_6,HO_9,HB⟩:=hrel
       have hl9_2:=(Kd.R_reads' HO_9.out).1
       rw [hl9_2] at HO_9
       (try simp only [hl9_2])
       (try simp only [hl9_2] at HO_6)
       cases gk with
       | zero=>exact absurd HA.out (by simp [mat_made.l1])
       | succ k2 =>
        have H:=HA.out
        clear HA
        simp only [mat_made.l1] at H
        by_cases c8:x21_2<(y110.length:Int)
        ·rw [if_pos c8] at H
         have c8b0:decide (x21_2<(y110.length:Int))=true:=decide_eq_true c8
         clear c8
         replace H:=Option.bind_eq_some_iff.mp H
         obtain⟨⟨t113,t114⟩,A90,H⟩:=H
         replace H:(if 0≤x21_2 then (if x21_2<(x9_2.length:Int) then ((some (x9_2.set (x21_2:Int).toNat t113:List Int)).bind fun y115=>(if x7_2=true then (mat_made.l1 F k2 a0 x6_1 true x14_1 y115 a0 x14_1 (y110.length:Int) (wrap64 (x21_2+1))) else (mat_made.l1 F k2 a0 x6_1 t114 x14_1 y115 a0 x14_1 (y110.length:Int) (wrap64 (x21_2+1))))) else (none)) else (none))=some (r1,r2):=H
         have A9:=Aside0.mk A90
         clear A90
         by_cases c10:0≤x21_2
         ·rw [if_pos c10] at H
          have c10b0:decide (0≤x21_2)=true:=decide_eq_true c10
          clear c10
          by_cases c11:x21_2<(x9_2.length:Int)
          ·rw [if_pos c11] at H
           have c11b0:decide (x21_2<(x9_2.length:Int))=true:=decide_eq_true c11
           clear c11
           obtain⟨y115,hy115⟩:∃ y_:List Int,y_=(x9_2.set (x21_2:Int).toNat t113):=⟨_,rfl⟩
           replace H:(if x7_2=true then (mat_made.l1 F k2 a0 x6_1 true x14_1 y115 a0 x14_1 (y110.length:Int) (wrap64 (x21_2+1))) else (mat_made.l1 F k2 a0 x6_1 t114 x14_1 y115 a0 x14_1 (y110.length:Int) (wrap64 (x21_2+1))))=some (r1,r2):=by first|(rw [hy115];with_reducible exact H)|(have H2_:=(Option.bind_some _ _).symm.trans H;rw [hy115];with_reducible exact H2_)|(have H2_:=(Option.bind_some _ _).symm.trans H;with_reducible exact H2_)|with_reducible exact H|(rw [hy115];exact H)|exact H
           have Ny115:=Aside0.mk hy115
           clear hy115
           by_cases c13:x7_2=true
           ·subst c13
            have H1:(mat_made.l1 F k2 a0 x6_1 true x14_1 y115 a0 x14_1 (y110.length:Int) (wrap64 (x21_2+1)))=some (r1,r2):=by rw [if_pos rfl] at H;exact H
            clear H
            have H:=H1
            clear H1
            have H':=Aside0.mk H
            clear H
            go_wp2_with (first|(go_at_fn g;refine(hF.out _ _ _ _ _ (by first|with_reducible exact HB.out|exact bl HB) A9.out).mono ?_;rintro e w14 ⟨rfl,hb⟩;have n0_:=Aside0.mk (Kd.S_below (by first|exact HO_6.out|exact kS HO_6.out) hb);have n1_:=Aside0.mk (Kd.R_below (by first|exact HO_9.out|exact kR HO_9.out) hb);have n2_:=Aside0.mk (below_step (by first|with_reducible exact HB.out|exact bl HB) hb);clear HO_6;clear HO_9;clear HB;have HO_6:=n0_;have HO_9:=n1_;have HB:=n2_;clear n0_ n1_ n2_;(try clear hb);(try clear hb2);(try clear hk);(try clear hi);have p12:0≤(x21_2:Int):=of_decide_eq_true (by first|(with_reducible assumption)|assumption);have q12:(x21_2:Int)<((x9_2.length:Int):Int):=of_decide_eq_true (by first|(with_reducible assumption)|assumption);obtain⟨go12,co12,eo12,gb12,gl12,cl12,HG12⟩:=Kd.R_form HO_9.out (by omega);(first|cases eo12|(injection eo12 with ea_ en_ ec_;(first|subst ea_|(injection ea_ with ea_;subst ea_));subst ec_;clear en_));have GB12:=Aside0.mk gb12;have GG12:=Aside0.mk HG12;clear gb12 gl12 HG12;obtain⟨hx12_0,hf12_0⟩:=Kd.R_celln 0 HO_9.out (x21_2:Int) p12 q12;replace p12:=eq_true p12;replace q12:=eq_true q12;obtain⟨hy15_,hz15_⟩:=Kd.R_celln 0 HO_9.out (x21_2:Int) (of_decide_eq_true (by first|(with_reducible assumption)|assumption)) (of_decide_eq_true (by first|(with_reducible assumption)|assumption));have HP15:=Kd.R_putg HO_9.out (x21_2:Int) t113)|((with_reducible refine gate_store (t:=3) (p:=34) rfl ?_);refine store_event (t:=3) (p:=34) (v:=?vo_w16) (w1:=(w14.setCell ⟨go12,(x21_2:Int).toNat,none⟩ (.int .i64 t113))) ?hg ?ho ?hn ?hr ?_;(case ho=>rfl);(case hg=>rfl);(case hn=>rfl);(case hr=>first|(go_simp;done)|(go_simp;rfl));intro w16 hw;have hg:w14.grownBy w16 (some go12):=(by rw [hw];exact HP15.2);have hp_:Kd.R (Kd.int .i64) 3 w16 w.heap.size (fun _=>True) (.slice (some ⟨go12,0,none⟩) x9_2.length co7) y115:=(by rw [hw,Ny115.out];exact HP15.1);clear HP15;have n0_:=Aside0.mk (Kd.S_after (v:=(.slice (some ⟨go12,0,none⟩) x9_2.length co7)) (v1:=(.slice (some ⟨go12,0,none⟩) x9_2.length co7)) (ok:=(fun _=>True)) (by (with_reducible repeat (first|apply Kd.S_alloc|apply Kd.S_drewN|apply Kd.S_drew));exact Kd.S_mono HO_6.out (fun _ hk=>⟨trivial,hk⟩)) hg (.inl rfl));have n1_:=Aside0.mk (hp_);have n2_:=Aside0.mk ((by rw [hw];exact below_set (HB.out) GB12.out:Below w.heap.size w w16));clear HO_6;clear HO_9;clear HB;have HO_6:=n0_;have HO_9:=n1_;have HB:=n2_;clear n0_ n1_ n2_;clear hg hw hp_))
            (try simp only [←hl9_2])
            go_roundg k2
            case measure=>have:=HK1.out;have:=HK2.out;omega
            case rel=>exact⟨(true),(y115),(wrap64 (x21_2+1)),(by first|rfl|(simp;done)|(simp [*];done)),(by first|rfl|(simp;done)|(simp [*];done)),H',⟨by have:=HK1.out;have:=HK2.out;omega⟩,⟨by (try simp only [hl9_2]);(with_reducible repeat (first|apply Kd.S_alloc|apply Kd.S_drewN|apply Kd.S_drew));exact Kd.S_mono HO_6.out (fun _ hk=>hk.2)⟩,⟨by (try simp only [hl9_2]);(with_reducible repeat (first|apply Kd.R_alloc|apply Kd.R_drewN|apply Kd.R_drew));exact HO_9.out⟩,⟨by first|with_reducible exact HB.out|exact bl HB⟩⟩
           ·replace c13:=Bool.eq_false_iff.mpr c13
            subst c13
            have H1:(mat_made.l1 F k2 a0 x6_1 t114 x14_1 y115 a0 x14_1 (y110.length:Int) (wrap64 (x21_2+1)))=some (r1,r2):=by rw [if_neg (show ¬(false=true) by decide)] at H;exact H
            clear H
            have H:=H1
            clear H1
            have H':=Aside0.mk H
            clear H
            go_wp2_with (first|(go_at_fn g;refine(hF.out _ _ _ _ _ (by first|with_reducible exact HB.out|exact bl HB) A9.out).mono ?_;rintro e w17 ⟨rfl,hb⟩;have n0_:=Aside0.mk (Kd.S_below (by first|exact HO_6.out|exact kS HO_6.out) hb);have n1_:=Aside0.mk (Kd.R_below (by first|exact HO_9.out|exact kR HO_9.out) hb);have n2_:=Aside0.mk (below_step (by first|with_reducible exact HB.out|exact bl HB) hb);clear HO_6;clear HO_9;clear HB;have HO_6:=n0_;have HO_9:=n1_;have HB:=n2_;clear n0_ n1_ n2_;(try clear hb);(try clear hb2);(try clear hk);(try clear hi);have p12:0≤(x21_2:Int):=of_decide_eq_true (by first|(with_reducible assumption)|assumption);have q12:(x21_2:Int)<((x9_2.length:Int):Int):=of_decide_eq_true (by first|(with_reducible assumption)|assumption);obtain⟨go12,co12,eo12,gb12,gl12,cl12,HG12⟩:=Kd.R_form HO_9.out (by omega);(first|cases eo12|(injection eo12 with ea_ en_ ec_;(first|subst ea_|(injection ea_ with ea_;subst ea_));subst ec_;clear en_));have GB12:=Aside0.mk gb12;have GG12:=Aside0.mk HG12;clear gb12 gl12 HG12;obtain⟨hx12_0,hf12_0⟩:=Kd.R_celln 0 HO_9.out (x21_2:Int) p12 q12;replace p12:=eq_true p12;replace q12:=eq_true q12;obtain⟨hy18_,hz18_⟩:=Kd.R_celln 0 HO_9.out (x21_2:Int) (of_decide_eq_true (by first|(with_reducible assumption)|assumption)) (of_decide_eq_true (by first|(with_reducible assumption)|assumption));have HP18:=Kd.R_putg HO_9.out (x21_2:Int) t113)|((with_reducible refine gate_store (t:=3) (p:=34) rfl ?_);refine store_event (t:=3) (p:=34) (v:=?vo_w19) (w1:=(w17.setCell ⟨go12,(x21_2:Int).toNat,none⟩ (.int .i64 t113))) ?hg ?ho ?hn ?hr ?_;(case ho=>rfl);(case hg=>rfl);(case hn=>rfl);(case hr=>first|(go_simp;done)|(go_simp;rfl));intro w19 hw;have hg:w17.grownBy w19 (some go12):=(by rw [hw];exact HP18.2);have hp_:Kd.R (Kd.int .i64) 3 w19 w.heap.size (fun _=>True) (.slice (some ⟨go12,0,none⟩) x9_2.length co7) y115:=(by rw [hw,Ny115.out];exact HP18.1);clear HP18;have n0_:=Aside0.mk (Kd.S_after (v:=(.slice (some ⟨go12,0,none⟩) x9_2.length co7)) (v1:=(.slice (some ⟨go12,0,none⟩) x9_2.length co7)) (ok:=(fun _=>True)) (by (with_reducible repeat (first|apply Kd.S_alloc|apply Kd.S_drewN|apply Kd.S_drew));exact Kd.S_mono HO_6.out (fun _ hk=>⟨trivial,hk⟩)) hg (.inl rfl));have n1_:=Aside0.mk (hp_);have n2_:=Aside0.mk ((by rw [hw];exact below_set (HB.out) GB12.out:Below w.heap.size w w19));clear HO_6;clear HO_9;clear HB;have HO_6:=n0_;have HO_9:=n1_;have HB:=n2_;clear n0_ n1_ n2_;clear hg hw hp_))
            (try simp only [←hl9_2])
            go_roundg k2
            case measure=>have:=HK1.out;have:=HK2.out;omega
            case rel=>exact⟨(t114),(y115),(wrap64 (x21_2+1)),(by first|rfl|(simp;done)|(simp [*];done)),(by first|rfl|(simp;done)|(simp [*];done)),H',⟨by have:=HK1.out;have:=HK2.out;omega⟩,⟨by (try simp only [hl9_2]);(with_reducible repeat (first|apply Kd.S_alloc|apply Kd.S_drewN|apply Kd.S_drew));exact Kd.S_mono HO_6.out (fun _ hk=>hk.2)⟩,⟨by (try simp only [hl9_2]);(with_reducible repeat (first|apply Kd.R_alloc|apply Kd.R_drewN|apply Kd.R_drew));exact HO_9.out⟩,⟨by first|with_reducible exact HB.out|exact bl HB⟩⟩
          ·rw [if_neg c11] at H
           exact absurd H (by simp)
         ·rw [if_neg c10] at H
          exact absurd H (by simp)
        ·rw [if_neg c8] at H
         have c8b0:decide (x21_2<(y110.length:Int))=false:=decide_eq_false c8
         have c8b7:decide (x21_2<(x9_2.length:Int))=false:=by rw [←hl9_2];exact c8b0
         clear c8
         by_cases c20:x6_1.length<5864062014805
         ·rw [if_pos c20] at H
          have LMc20:=Aside0.mk c20
          clear c20
          obtain⟨y116,hy116⟩:∃ y_:List (List Int),y_=(x6_1++[x9_2]):=⟨_,rfl⟩
          replace H:(mat_made.l0 F k2 a0 y116 x7_2 a0 (wrap64 (x14_1+1)))=some (r1,r2):=by first|(rw [hy116];with_reducible exact H)|(have H2_:=(Option.bind_some _ _).symm.trans H;rw [hy116];with_reducible exact H2_)|(have H2_:=(Option.bind_some _ _).symm.trans H;with_reducible exact H2_)|with_reducible exact H|(rw [hy116];exact H)|exact H
          have Ny116:=Aside0.mk hy116
          clear hy116
          have H':=Aside0.mk H
          clear H
          go_wp2_with (first|((with_reducible refine gate_builtin (b:=.append) (xs:=#[.tmp 40,.tmp 42]) rfl ?_);at_builtin;refine Kd.S_append (Kd.slice 3 (Kd.int .i64)) (w0:=w) w.heap.size rfl (.tmp 40) (.tmp 42) 22 23 (.slice none 0 0) 24 rfl Try.underlying22 info23 rfl (by decide) (by omega) u6 x6_1 x9_2 [.slice Ao7 x9_2.length co7] (fun _=>True) (fun k_=>some k_=(.slice Ao7 x9_2.length co7:Value).ownBlock) rfl rfl ?aP (fun k_ hk_=>((Kd.R_mono (ok':=fun k_=>((fun _=>True)) k_∧some k_≠(u6:Value).ownBlock) (Kd.R_apart' (HO_9.out) (Kd.S_typed HO_6.out) (by decide)) (fun k_ hk=>⟨trivial,hk.2⟩))).1 k_ hk_.symm) ?aF ?aO ?aB ?aS ?aL ?_;(case aP=>exact Kd.M_row (Kd.R_mono (Kd.R_tight rfl (Kd.R_mono (ok':=fun k_=>((fun _=>True)) k_∧some k_≠(u6:Value).ownBlock) (Kd.R_apart' (HO_9.out) (Kd.S_typed HO_6.out) (by decide)) (fun k_ hk=>⟨trivial,hk.2⟩))) (fun _ h_=>h_)));(case aB=>exact(by first|with_reducible exact HB.out|exact bl HB));(case aF=>exact(fun _ _=>trivial));(case aO=>exact(by (with_reducible repeat (first|apply Kd.S_alloc|apply Kd.S_drewN|apply Kd.S_drew));exact Kd.S_mono HO_6.out (fun k_ hk=>⟨trivial,fun e_=>hk e_⟩)));(case aS=>exact(below_size (by first|with_reducible exact HB.out|exact bl HB)));(case aL=>have:=LMc20.out;omega);intro v117 w21 ho hb hg hat;rw [←Ny116.out] at ho;have n0_:=Aside0.mk (hb);have n1_:=Aside0.mk (ho);clear HB;clear HO_6;clear HO_9;have HB:=n0_;have HO118:=n1_;clear n0_ n1_;clear ho hb hg hat))
          (try simp only [←hl9_2])
          go_roundg k2
          case measure=>have:=HK1.out;have:=HK2.out;omega
          case rel=>exact⟨(y116),(x7_2),(wrap64 (x14_1+1)),(by first|rfl|(simp;done)|(simp [*];done)),(by first|rfl|(simp;done)|(simp [*];done)),H',⟨by have:=HK1.out;have:=HK2.out;omega⟩,⟨by (try simp only [hl9_2]);(with_reducible repeat (first|apply Kd.S_alloc|apply Kd.S_drewN|apply Kd.S_drew));exact HO118.out⟩,⟨by first|with_reducible exact HB.out|exact bl HB⟩⟩
         ·rw [if_neg c20] at H
          exact absurd H (by simp)
     ·rw [if_neg c4] at H
      exact absurd H (by simp)
    ·rw [if_neg c3] at H
     exact absurd H (by simp)
   ·rw [if_neg c2] at H
    have c2b0:decide (x14_1<a0)=false:=decide_eq_false c2
    clear c2
    simp only [Option.some.injEq,Prod.mk.injEq] at H
    obtain⟨rfl,rfl⟩:=H
    go_wp2
    go_ret2
    exact⟨_,by first|rfl|(simp [errW_none,errW_some]<;>rfl)|(simp [*,errW_none,errW_some]<;>rfl),by first|exact HO_6.out|exact kS HO_6.out,by first|with_reducible exact HB.out|exact bl HB⟩
def mat_Add_1.f (a0:Int) (a1:Int) (l2:List (List Int)) (l3:List (List Int)):Option (Int × Bool):=if 0≤a0 then (if a0<(l2.length:Int) then (if 0≤a1 then (if a1<((rd_L1 l2 a0).length:Int) then (if a0<(l3.length:Int) then (if a1<((rd_L1 l3 a0).length:Int) then ((fix_Add.f (rd (rd_L1 l2 a0) a1) (rd (rd_L1 l3 a0) a1)).bind fun bt123=>(some (bt123.1,bt123.2))) else (none)) else (none)) else (none)) else (none)) else (none)) else (none)
def mat_Add_1.T1:Bool × List (List Nat × List Nat):=(true,[([],[]),([],[]),([0,1],[0,1]),([2],[2]),([],[]),([3,4],[3,4]),([5],[5]),([],[]),([],[]),([7,8],[7,8]),([9],[9]),([],[]),([10,11],[10,11]),([12],[12]),([6,13],[6,13]),([14],[14]),([14],[14]),([15,14,0,1,2,3,4,5,6,7,8,9,10,11,12,13,14,15,16],[15]),([16,17,0,1,2,3,4,5,6,7,8,9,10,11,12,13,14,15,16,17],[16])])
def mat_Add_1.B1:List Nat:=[0,0,3,7,0,31,63,0,0,384,896,0,3968,8064,16383,32767,32767,131071,262143]
theorem mat_Add_1.tab1:rtab .any (opsOf Try.f28 1)=mat_Add_1.T1:=by kernel_rfl
theorem mat_Add_1.bits1:waitsOk mat_Add_1.T1.2 mat_Add_1.B1=true:=by kernel_rfl
set_option maxHeartbeats 8000000 in
set_option maxRecDepth 100000 in
theorem mat_Add_1.calls (a0:Int) (a1:Int) (A2:Option Addr) (c2:Nat) (l2:List (List Int)) (A3:Option Addr) (c3:Nat) (l3:List (List Int)) (r1:Int) (r2:Bool) (w:World) (hr2:Kd.C (Kd.slice 3 (Kd.int .i64)) w A2 l2.length l2) (hc2:l2.length≤c2) (hr3:Kd.C (Kd.slice 3 (Kd.int .i64)) w A3 l3.length l3) (hc3:l3.length≤c3) (g2_:Nat) (HX2:Aside0 (w.cell? ⟨g2_,0,none⟩=some (.slice A2 l2.length c2))) (g3_:Nat) (HX3:Aside0 (w.cell? ⟨g3_,0,none⟩=some (.slice A3 l3.length c3))) (h:mat_Add_1.f a0 a1 l2 l3=some (r1,r2)) :
  Calls Try.prog 28 #[.int .i64 a0,.int .i64 a1,.pointer (some ⟨g2_,0,none⟩),.pointer (some ⟨g3_,0,none⟩)] w fun e w'=>e=.returned (.tuple #[.int .i64 r1,.bool r2])∧Below w.heap.size w w':=by
 have HR2:=Aside0.mk hr2
 have HC2:=Aside0.mk hc2
 clear hr2 hc2
 have HR3:=Aside0.mk hr3
 have HC3:=Aside0.mk hc3
 clear hr3 hc3
 have HB:=Aside0.mk (Below.refl w.heap.size w)
 have H:(if 0≤a0 then (if a0<(l2.length:Int) then (if 0≤a1 then (if a1<((rd_L1 l2 a0).length:Int) then (if a0<(l3.length:Int) then (if a1<((rd_L1 l3 a0).length:Int) then ((fix_Add.f (rd (rd_L1 l2 a0) a1) (rd (rd_L1 l3 a0) a1)).bind fun bt123=>(some (bt123.1,bt123.2))) else (none)) else (none)) else (none)) else (none)) else (none)) else (none))=some (r1,r2):=h
 clear h
 by_cases c5:0≤a0
 ·rw [if_pos c5] at H
  have c5b0:decide (0≤a0)=true:=decide_eq_true c5
  clear c5
  by_cases c6:a0<(l2.length:Int)
  ·rw [if_pos c6] at H
   have c6b0:decide (a0<(l2.length:Int))=true:=decide_eq_true c6
   clear c6
   by_cases c7:0≤a1
   ·rw [if_pos c7] at H
    have c7b0:decide (0≤a1)=true:=decide_eq_true c7
    clear c7
    by_cases c8:a1<((rd_L1 l2 a0).length:Int)
    ·rw [if_pos c8] at H
     have c8b0:decide (a1<((rd_L1 l2 a0).length:Int))=true:=decide_eq_true c8
     clear c8
     by_cases c9:a0<(l3.length:Int)
     ·rw [if_pos c9] at H
      have c9b0:decide (a0<(l3.length:Int))=true:=decide_eq_true c9
      clear c9
      by_cases c10:a1<((rd_L1 l3 a0).length:Int)
      ·rw [if_pos c10] at H
       have c10b0:decide (a1<((rd_L1 l3 a0).length:Int))=true:=decide_eq_true c10
       clear c10
       replace H:=Option.bind_eq_some_iff.mp H
       obtain⟨⟨t123,t124⟩,A110,H⟩:=H
       replace H:(some (t123,t124))=some (r1,r2):=H
       have A11:=Aside0.mk A110
       clear A110
       simp only [Option.some.injEq,Prod.mk.injEq] at H
       obtain⟨rfl,rfl⟩:=H
       go_enter Try.func28,Try.ntmps28
       try go_wp2
       have n0_:=Aside0.mk (below_drew1 HB.out)
       clear HB
       have HB:=n0_
       clear n0_
       have p119:0≤(a0:Int):=of_decide_eq_true (by first|(with_reducible assumption)|assumption)
       have q119:a0<(l2.length:Int):=of_decide_eq_true (by first|(with_reducible assumption)|assumption)
       obtain⟨ad119,A119_0,c119_0,e119,hx119_0,hl119_0,hi119_0⟩:=at_L1 HR2.out a0 p119 q119
       have hw119_0:=hx119_0
       cases e119
       replace hx119_0:=(HB.out.cell (World.block_lt_of_cell? w _ hx119_0)).trans hx119_0
       have HR119_0:=Aside0.mk hi119_0
       have HC119_0:=Aside0.mk hl119_0
       clear hi119_0 hl119_0
       replace p119:=eq_true p119
       replace q119:=eq_true q119
       have p120:0≤(a1:Int):=of_decide_eq_true (by first|(with_reducible assumption)|assumption)
       have q120:a1<((rd_L1 l2 a0).length:Int):=of_decide_eq_true (by first|(with_reducible assumption)|assumption)
       obtain⟨ad120,e120,hx120_0⟩:=Kd.at_int HR119_0.out a1 p120 q120
       have hw120_0:=hx120_0
       cases e120
       replace hx120_0:=(HB.out.cell (World.block_lt_of_cell? w _ hx120_0)).trans hx120_0
       replace p120:=eq_true p120
       replace q120:=eq_true q120
       have p121:0≤(a0:Int):=of_decide_eq_true (by first|(with_reducible assumption)|assumption)
       have q121:a0<(l3.length:Int):=of_decide_eq_true (by first|(with_reducible assumption)|assumption)
       obtain⟨ad121,A121_0,c121_0,e121,hx121_0,hl121_0,hi121_0⟩:=at_L1 HR3.out a0 p121 q121
       have hw121_0:=hx121_0
       cases e121
       replace hx121_0:=(HB.out.cell (World.block_lt_of_cell? w _ hx121_0)).trans hx121_0
       have HR121_0:=Aside0.mk hi121_0
       have HC121_0:=Aside0.mk hl121_0
       clear hi121_0 hl121_0
       replace p121:=eq_true p121
       replace q121:=eq_true q121
       have p122:0≤(a1:Int):=of_decide_eq_true (by first|(with_reducible assumption)|assumption)
       have q122:a1<((rd_L1 l3 a0).length:Int):=of_decide_eq_true (by first|(with_reducible assumption)|assumption)
       obtain⟨ad122,e122,hx122_0⟩:=Kd.at_int HR121_0.out a1 p122 q122
       have hw122_0:=hx122_0
       cases e122
       replace hx122_0:=(HB.out.cell (World.block_lt_of_cell? w _ hx122_0)).trans hx122_0
       replace p122:=eq_true p122
       replace q122:=eq_true q122
       refine start_ (n:=19) (S:=fun w'=>w'.cell? (ad119.add (a0).toNat)=some (.slice (some ad120) (rd_L1 l2 a0).length c119_0)∧w'.cell? (ad120.add (a1).toNat)=some (.int .i64 (rd (rd_L1 l2 a0) a1))∧w'.cell? (ad121.add (a0).toNat)=some (.slice (some ad122) (rd_L1 l3 a0).length c121_0)∧w'.cell? (ad122.add (a1).toNat)=some (.int .i64 (rd (rd_L1 l3 a0) a1))∧w'.cell? ⟨g2_,0,none⟩=some (.slice (some ad119) l2.length c2)∧w'.cell? ⟨g3_,0,none⟩=some (.slice (some ad121) l3.length c3)) (ds:=[]) #[ff,ff,ff,ff,ff,ff,ff,ff,ff,ff,ff,ff,ff,ff,ff,ff,ff,ff,ff] (by kernel_rfl) rfl rfl ⟨((HB.out.cell (World.block_lt_of_cell? w _ hw119_0)).trans hw119_0),((HB.out.cell (World.block_lt_of_cell? w _ hw120_0)).trans hw120_0),((HB.out.cell (World.block_lt_of_cell? w _ hw121_0)).trans hw121_0),((HB.out.cell (World.block_lt_of_cell? w _ hw122_0)).trans hw122_0),((HB.out.cell (World.block_lt_of_cell? w _ HX2.out)).trans HX2.out),((HB.out.cell (World.block_lt_of_cell? w _ HX3.out)).trans HX3.out)⟩ (fun hHeld=>?_);refine with_tabW mat_Add_1.tab1 mat_Add_1.bits1 (fun HT_ HW_=>?_)
       generalize w.drew=w12 at HB HR119_0 HR121_0 hx119_0 hx120_0 hx121_0 hx122_0 hHeld ⊢
       refine take_ (i:=0) (N:=some 8) (v:=?_) (a':=?_) #[tt,ff,ff,ff,ff,ff,ff,ff,ff,ff,ff,ff,ff,ff,ff,ff,ff,ff,ff] rfl rfl (take_ofW HT_.out HW_.out (by kernel_rfl)) (fun _ _ _ h=>h) (Or.inl ⟨by rfl,?_⟩) hHeld ?_ ?_
       rotate_left
       ·rintro w' ⟨s0,s1,s2,s3,s4,s5⟩
        go_simp
        with_reducible rfl
       rotate_left
       ·simp only [Act.put,List.setIfInBounds_toArray,List.set_cons_zero,List.set_cons_succ,i64_w,i32_w]
        rfl
       refine pure_ (i:=1) (N:=some 9) (v:=?_) (a':=?_) #[tt,tt,ff,ff,ff,ff,ff,ff,ff,ff,ff,ff,ff,ff,ff,ff,ff,ff,ff] rfl rfl (any_of HT_.out (by kernel_rfl)) (fun _ _ _ h=>h) (Or.inl ⟨by rfl,?_⟩) ?_ ?_
       rotate_left
       ·intro w'
        go_simp
        with_reducible rfl
       rotate_left
       ·simp only [Act.put,List.setIfInBounds_toArray,List.set_cons_zero,List.set_cons_succ,i64_w,i32_w]
        rfl
       refine pure_ (i:=2) (N:=some 10) (v:=?_) (a':=?_) #[tt,tt,tt,ff,ff,ff,ff,ff,ff,ff,ff,ff,ff,ff,ff,ff,ff,ff,ff] rfl rfl (any_of HT_.out (by kernel_rfl)) (fun _ _ _ h=>h) (Or.inl ⟨by rfl,?_⟩) ?_ ?_
       rotate_left
       ·intro w'
        go_simp
        with_reducible rfl
       rotate_left
       ·simp only [Act.put,List.setIfInBounds_toArray,List.set_cons_zero,List.set_cons_succ,i64_w,i32_w]
        rfl
       refine pure_ (i:=4) (N:=some 12) (v:=?_) (a':=?_) #[tt,tt,tt,ff,tt,ff,ff,ff,ff,ff,ff,ff,ff,ff,ff,ff,ff,ff,ff] rfl rfl (any_of HT_.out (by kernel_rfl)) (fun _ _ _ h=>h) (Or.inl ⟨by rfl,?_⟩) ?_ ?_
       rotate_left
       ·intro w'
        go_simp
        with_reducible rfl
       rotate_left
       ·simp only [Act.put,List.setIfInBounds_toArray,List.set_cons_zero,List.set_cons_succ,i64_w,i32_w]
        rfl
       refine take_ (i:=7) (N:=some 15) (v:=?_) (a':=?_) #[tt,tt,tt,ff,tt,ff,ff,tt,ff,ff,ff,ff,ff,ff,ff,ff,ff,ff,ff] rfl rfl (take_ofW HT_.out HW_.out (by kernel_rfl)) (fun _ _ _ h=>h) (Or.inl ⟨by rfl,?_⟩) hHeld ?_ ?_
       rotate_left
       ·rintro w' ⟨s0,s1,s2,s3,s4,s5⟩
        go_simp
        with_reducible rfl
       rotate_left
       ·simp only [Act.put,List.setIfInBounds_toArray,List.set_cons_zero,List.set_cons_succ,i64_w,i32_w]
        rfl
       refine pure_ (i:=8) (N:=some 16) (v:=?_) (a':=?_) #[tt,tt,tt,ff,tt,ff,ff,tt,tt,ff,ff,ff,ff,ff,ff,ff,ff,ff,ff] rfl rfl (any_of HT_.out (by kernel_rfl)) (fun _ _ _ h=>h) (Or.inl ⟨by rfl,?_⟩) ?_ ?_
       rotate_left
       ·intro w'
        go_simp
        with_reducible rfl
       rotate_left
       ·simp only [Act.put,List.setIfInBounds_toArray,List.set_cons_zero,List.set_cons_succ,i64_w,i32_w]
        rfl
       refine pure_ (i:=9) (N:=some 17) (v:=?_) (a':=?_) #[tt,tt,tt,ff,tt,ff,ff,tt,tt,tt,ff,ff,ff,ff,ff,ff,ff,ff,ff] rfl rfl (any_of HT_.out (by kernel_rfl)) (fun _ _ _ h=>h) (Or.inl ⟨by rfl,?_⟩) ?_ ?_
       rotate_left
       ·intro w'
        go_simp
        with_reducible rfl
       rotate_left
       ·simp only [Act.put,List.setIfInBounds_toArray,List.set_cons_zero,List.set_cons_succ,i64_w,i32_w]
        rfl
       refine pure_ (i:=11) (N:=some 19) (v:=?_) (a':=?_) #[tt,tt,tt,ff,tt,ff,ff,tt,tt,tt,ff,tt,ff,ff,ff,ff,ff,ff,ff] rfl rfl (any_of HT_.out (by kernel_rfl)) (fun _ _ _ h=>h) (Or.inl ⟨by rfl,?_⟩) ?_ ?_
       rotate_left
       ·intro w'
        go_simp
        with_reducible rfl
       rotate_left
       ·simp only [Act.put,List.setIfInBounds_toArray,List.set_cons_zero,List.set_cons_succ,i64_w,i32_w]
        rfl
       refine take_ (i:=3) (N:=some 11) (v:=?_) (a':=?_) #[tt,tt,tt,tt,tt,ff,ff,tt,tt,tt,ff,tt,ff,ff,ff,ff,ff,ff,ff] rfl rfl (take_ofW HT_.out HW_.out (by kernel_rfl)) (fun _ _ _ h=>h) (Or.inl ⟨by rfl,?_⟩) hHeld ?_ ?_
       rotate_left
       ·rintro w' ⟨s0,s1,s2,s3,s4,s5⟩
        go_simp
        with_reducible rfl
       rotate_left
       ·simp only [Act.put,List.setIfInBounds_toArray,List.set_cons_zero,List.set_cons_succ,i64_w,i32_w]
        rfl
       refine pure_ (i:=5) (N:=some 13) (v:=?_) (a':=?_) #[tt,tt,tt,tt,tt,tt,ff,tt,tt,tt,ff,tt,ff,ff,ff,ff,ff,ff,ff] rfl rfl (any_of HT_.out (by kernel_rfl)) (fun _ _ _ h=>h) (Or.inl ⟨by rfl,?_⟩) ?_ ?_
       rotate_left
       ·intro w'
        go_simp
        with_reducible rfl
       rotate_left
       ·simp only [Act.put,List.setIfInBounds_toArray,List.set_cons_zero,List.set_cons_succ,i64_w,i32_w]
        rfl
       refine take_ (i:=6) (N:=some 14) (v:=?_) (a':=?_) #[tt,tt,tt,tt,tt,tt,tt,tt,tt,tt,ff,tt,ff,ff,ff,ff,ff,ff,ff] rfl rfl (take_ofW HT_.out HW_.out (by kernel_rfl)) (fun _ _ _ h=>h) (Or.inl ⟨by rfl,?_⟩) hHeld ?_ ?_
       rotate_left
       ·rintro w' ⟨s0,s1,s2,s3,s4,s5⟩
        go_simp
        with_reducible rfl
       rotate_left
       ·simp only [Act.put,List.setIfInBounds_toArray,List.set_cons_zero,List.set_cons_succ,i64_w,i32_w]
        rfl
       refine take_ (i:=10) (N:=some 18) (v:=?_) (a':=?_) #[tt,tt,tt,tt,tt,tt,tt,tt,tt,tt,tt,tt,ff,ff,ff,ff,ff,ff,ff] rfl rfl (take_ofW HT_.out HW_.out (by kernel_rfl)) (fun _ _ _ h=>h) (Or.inl ⟨by rfl,?_⟩) hHeld ?_ ?_
       rotate_left
       ·rintro w' ⟨s0,s1,s2,s3,s4,s5⟩
        go_simp
        with_reducible rfl
       rotate_left
       ·simp only [Act.put,List.setIfInBounds_toArray,List.set_cons_zero,List.set_cons_succ,i64_w,i32_w]
        rfl
       refine pure_ (i:=12) (N:=some 20) (v:=?_) (a':=?_) #[tt,tt,tt,tt,tt,tt,tt,tt,tt,tt,tt,tt,tt,ff,ff,ff,ff,ff,ff] rfl rfl (any_of HT_.out (by kernel_rfl)) (fun _ _ _ h=>h) (Or.inl ⟨by rfl,?_⟩) ?_ ?_
       rotate_left
       ·intro w'
        go_simp
        with_reducible rfl
       rotate_left
       ·simp only [Act.put,List.setIfInBounds_toArray,List.set_cons_zero,List.set_cons_succ,i64_w,i32_w]
        rfl
       refine take_ (i:=13) (N:=some 21) (v:=?_) (a':=?_) #[tt,tt,tt,tt,tt,tt,tt,tt,tt,tt,tt,tt,tt,tt,ff,ff,ff,ff,ff] rfl rfl (take_ofW HT_.out HW_.out (by kernel_rfl)) (fun _ _ _ h=>h) (Or.inl ⟨by rfl,?_⟩) hHeld ?_ ?_
       rotate_left
       ·rintro w' ⟨s0,s1,s2,s3,s4,s5⟩
        go_simp
        with_reducible rfl
       rotate_left
       ·simp only [Act.put,List.setIfInBounds_toArray,List.set_cons_zero,List.set_cons_succ,i64_w,i32_w]
        rfl
       refine one_ (i:=14) (N:=some 22) #[tt,tt,tt,tt,tt,tt,tt,tt,tt,tt,tt,tt,tt,tt,tt,ff,ff,ff,ff] rfl rfl (one_of HT_.out (by kernel_rfl)) (by decide) (fun K hK=>?_)
       refine goes_ Try.func29 (by kernel_rfl) rfl #[.int .i64 (rd (rd_L1 l2 a0) a1),.int .i64 (rd (rd_L1 l3 a0) a1)] (by rfl) rfl rfl (by exact mA _ _) ?_
       with_reducible refine(fix_Add.calls (rd (rd_L1 l2 a0) a1) (rd (rd_L1 l3 a0) a1) t123 t124 _ A11.out).mono ?_
       rintro e w13 ⟨rfl,hb⟩
       refine⟨_,rfl,?_⟩
       have n0_:=Aside0.mk (below_step (by first|with_reducible exact HB.out|exact bl HB) hb)
       clear HB
       have HB:=n0_
       clear n0_
       (try clear hb)
       (try clear hb2)
       (try clear hk)
       (try clear hi)
       refine hK.out _ _ ⟨((HB.out.cell (World.block_lt_of_cell? w _ hw119_0)).trans hw119_0),((HB.out.cell (World.block_lt_of_cell? w _ hw120_0)).trans hw120_0),((HB.out.cell (World.block_lt_of_cell? w _ hw121_0)).trans hw121_0),((HB.out.cell (World.block_lt_of_cell? w _ hw122_0)).trans hw122_0),((HB.out.cell (World.block_lt_of_cell? w _ HX2.out)).trans HX2.out),((HB.out.cell (World.block_lt_of_cell? w _ HX3.out)).trans HX3.out)⟩ (fun hHeld=>?_)
       clear hK K
       refine norm_ (a':=?_) ?_ ?_
       rotate_left
       ·show Act.put _ (some 22) _=_
        simp only [Act.put,List.setIfInBounds_toArray,List.set_cons_zero,List.set_cons_succ,i64_w,i32_w]
        rfl
       refine pure_ (i:=15) (N:=some 23) (v:=?_) (a':=?_) #[tt,tt,tt,tt,tt,tt,tt,tt,tt,tt,tt,tt,tt,tt,tt,tt,ff,ff,ff] rfl rfl (any_of HT_.out (by kernel_rfl)) (fun _ _ _ h=>h) (Or.inl ⟨by rfl,?_⟩) ?_ ?_
       rotate_left
       ·intro w'
        go_simp
        with_reducible rfl
       rotate_left
       ·simp only [Act.put,List.setIfInBounds_toArray,List.set_cons_zero,List.set_cons_succ,i64_w,i32_w]
        rfl
       refine pure_ (i:=16) (N:=some 24) (v:=?_) (a':=?_) #[tt,tt,tt,tt,tt,tt,tt,tt,tt,tt,tt,tt,tt,tt,tt,tt,tt,ff,ff] rfl rfl (any_of HT_.out (by kernel_rfl)) (fun _ _ _ h=>h) (Or.inl ⟨by rfl,?_⟩) ?_ ?_
       rotate_left
       ·intro w'
        go_simp
        with_reducible rfl
       rotate_left
       ·simp only [Act.put,List.setIfInBounds_toArray,List.set_cons_zero,List.set_cons_succ,i64_w,i32_w]
        rfl
       refine pure_ (i:=17) (N:=some 6) (v:=?_) (a':=?_) #[tt,tt,tt,tt,tt,tt,tt,tt,tt,tt,tt,tt,tt,tt,tt,tt,tt,tt,ff] rfl rfl (any_of HT_.out (by kernel_rfl)) (fun _ _ _ h=>h) (Or.inl ⟨by rfl,?_⟩) ?_ ?_
       rotate_left
       ·intro w'
        go_simp
        with_reducible rfl
       rotate_left
       ·simp only [Act.put,List.setIfInBounds_toArray,List.set_cons_zero,List.set_cons_succ,i64_w,i32_w]
        rfl
       refine pure_ (i:=18) (N:=some 7) (v:=?_) (a':=?_) #[tt,tt,tt,tt,tt,tt,tt,tt,tt,tt,tt,tt,tt,tt,tt,tt,tt,tt,tt] rfl rfl (any_of HT_.out (by kernel_rfl)) (fun _ _ _ h=>h) (Or.inl ⟨by rfl,?_⟩) ?_ ?_
       rotate_left
       ·intro w'
        go_simp
        with_reducible rfl
       rotate_left
       ·simp only [Act.put,List.setIfInBounds_toArray,List.set_cons_zero,List.set_cons_succ,i64_w,i32_w]
        rfl
       refine done_ (done_of HT_.out (by kernel_rfl)) ?_
       try go_wp2
       go_ret2
       exact⟨by first|rfl|(simp [errW_none,errW_some]<;>rfl)|(simp [*,errW_none,errW_some]<;>rfl),by first|with_reducible exact HB.out|exact bl HB⟩
      ·rw [if_neg c10] at H
       exact absurd H (by simp)
     ·rw [if_neg c9] at H
      exact absurd H (by simp)
    ·rw [if_neg c8] at H
     exact absurd H (by simp)
   ·rw [if_neg c7] at H
    exact absurd H (by simp)
  ·rw [if_neg c6] at H
   exact absurd H (by simp)
 ·rw [if_neg c5] at H
  exact absurd H (by simp)
def mat_Add.f (k:Nat) (l0:List (List Int)) (l1:List (List Int)):Option ((List (List Int)) × Bool):=(mat_Sane.f k l0).bind fun t125=>(if t125=true then ((mat_Sane.f k l1).bind fun t126=>(if t126=true then (if (l0.length:Int)=(l1.length:Int) then ((mat_made.f (fun i_ j_=>mat_Add_1.f i_ j_ l0 l1) k (l0.length:Int)).bind fun bt127=>(some (bt127.1,bt127.2))) else (some (([]:List (List Int)),true))) else (some (([]:List (List Int)),true)))) else (some (([]:List (List Int)),true)))
theorem mat_Add.mono:∀ a0 a1 k,LeO (mat_Add.f k a0 a1) (mat_Add.f (k+1) a0 a1):=by
 intro a0 a1 k
 unfold mat_Add.f
 repeat' first
   | (with_reducible exact mat_Sane.mono _ _)
   | exact mat_made.mono (fun _ _=>LeO.refl _) _ _
   | (with_reducible exact LeO.refl _)
   | (with_reducible exact LeO.none _)
   | (with_reducible refine LeO.ite ?_ ?_)
   | (with_reducible refine LeO.bind ?_ (fun _=>?_))
   | exact mat_Sane.mono _ _
   | exact mat_made.mono (fun _ _=>LeO.refl _) _ _
   | exact LeO.none _
   | refine LeO.ite ?_ ?_
   | refine LeO.bind ?_ (fun _=>?_)
set_option maxHeartbeats 8000000 in
set_option maxRecDepth 100000 in
theorem mat_Add.calls (k:Nat) (A0:Option Addr) (c0:Nat) (l0:List (List Int)) (A1:Option Addr) (c1:Nat) (l1:List (List Int)) (r1:List (List Int)) (r2:Bool) (w:World) (hr0:Kd.C (Kd.slice 3 (Kd.int .i64)) w A0 l0.length l0) (hc0:l0.length≤c0) (hr1:Kd.C (Kd.slice 3 (Kd.int .i64)) w A1 l1.length l1) (hc1:l1.length≤c1) (h:mat_Add.f k l0 l1=some (r1,r2)) :
  Calls Try.prog 10 #[.slice A0 l0.length c0,.slice A1 l1.length c1] w fun e w'=>∃ v0_:Value,e=.returned (.tuple #[v0_,.bool r2])∧Kd.S (Kd.slice 3 (Kd.int .i64)) 23 w' w.heap.size (fun _=>True) v0_ r1∧Below w.heap.size w w':=by
 have HR0:=Aside0.mk hr0
 have HC0:=Aside0.mk hc0
 clear hr0 hc0
 have HR1:=Aside0.mk hr1
 have HC1:=Aside0.mk hc1
 clear hr1 hc1
 have HB:=Aside0.mk (Below.refl w.heap.size w)
 have H:((mat_Sane.f k l0).bind fun t125=>(if t125=true then ((mat_Sane.f k l1).bind fun t126=>(if t126=true then (if (l0.length:Int)=(l1.length:Int) then ((mat_made.f (fun i_ j_=>mat_Add_1.f i_ j_ l0 l1) k (l0.length:Int)).bind fun bt127=>(some (bt127.1,bt127.2))) else (some (([]:List (List Int)),true))) else (some (([]:List (List Int)),true)))) else (some (([]:List (List Int)),true))))=some (r1,r2):=h
 clear h
 replace H:=Option.bind_eq_some_iff.mp H
 obtain⟨t125,A30,H⟩:=H
 replace H:(if t125=true then ((mat_Sane.f k l1).bind fun t126=>(if t126=true then (if (l0.length:Int)=(l1.length:Int) then ((mat_made.f (fun i_ j_=>mat_Add_1.f i_ j_ l0 l1) k (l0.length:Int)).bind fun bt127=>(some (bt127.1,bt127.2))) else (some (([]:List (List Int)),true))) else (some (([]:List (List Int)),true)))) else (some (([]:List (List Int)),true)))=some (r1,r2):=H
 have A3:=Aside0.mk A30
 clear A30
 by_cases c4:t125=true
 ·subst c4
  have H1:((mat_Sane.f k l1).bind fun t126=>(if t126=true then (if (l0.length:Int)=(l1.length:Int) then ((mat_made.f (fun i_ j_=>mat_Add_1.f i_ j_ l0 l1) k (l0.length:Int)).bind fun bt127=>(some (bt127.1,bt127.2))) else (some (([]:List (List Int)),true))) else (some (([]:List (List Int)),true))))=some (r1,r2):=by rw [if_pos rfl] at H;exact H
  clear H
  have H:=H1
  clear H1
  replace H:=Option.bind_eq_some_iff.mp H
  obtain⟨t126,A50,H⟩:=H
  replace H:(if t126=true then (if (l0.length:Int)=(l1.length:Int) then ((mat_made.f (fun i_ j_=>mat_Add_1.f i_ j_ l0 l1) k (l0.length:Int)).bind fun bt127=>(some (bt127.1,bt127.2))) else (some (([]:List (List Int)),true))) else (some (([]:List (List Int)),true)))=some (r1,r2):=H
  have A5:=Aside0.mk A50
  clear A50
  by_cases c6:t126=true
  ·subst c6
   have H1:(if (l0.length:Int)=(l1.length:Int) then ((mat_made.f (fun i_ j_=>mat_Add_1.f i_ j_ l0 l1) k (l0.length:Int)).bind fun bt127=>(some (bt127.1,bt127.2))) else (some (([]:List (List Int)),true)))=some (r1,r2):=by rw [if_pos rfl] at H;exact H
   clear H
   have H:=H1
   clear H1
   by_cases c7:(l0.length:Int)=(l1.length:Int)
   ·rw [if_pos c7] at H
    have c7b0:((l0.length:Int) == (l1.length:Int))=true:=beq_iff_eq.mpr c7
    have c7b1:((l0.length:Int) != (l1.length:Int))=false:=bne_eq_false_iff_eq.mpr c7
    have c7b2:(l0.length == l1.length)=true:=by first|simpa using c7|(simp at c7 ⊢;omega)
    clear c7
    replace H:=Option.bind_eq_some_iff.mp H
    obtain⟨⟨t127,t128⟩,A80,H⟩:=H
    replace H:(some (t127,t128))=some (r1,r2):=H
    have A8:=Aside0.mk A80
    clear A80
    simp only [Option.some.injEq,Prod.mk.injEq] at H
    obtain⟨rfl,rfl⟩:=H
    have tok0:True:=trivial
    go_enter Try.func10,Try.ntmps10
    go_wp2_with (first|((with_reducible refine gate_dst (N:=6) rfl ?_);have _t:=tok0;clear tok0 _t;refine gen_w (fun W=>Below w.heap.size w W∧W.cell? ⟨w.heap.size,0,none⟩=some (.slice A0 l0.length c0)∧W.cell? ⟨w.heap.size+1,0,none⟩=some (.slice A1 l1.length c1)) ⟨below_alloc (below_alloc (Below.refl _ _) _) _,((Boxed.new w 22 (.slice A0 l0.length c0)).alloc (.cells #[.slice A1 l1.length c1] 22)).cell,(by have h:=(Boxed.new (w.alloc (.cells #[.slice A0 l0.length c0] 22)) 22 (.slice A1 l1.length c1)).cell;(try simp only [World.size_alloc] at h);exact h)⟩ ?_;rintro w1_ ⟨hb1_,hx0_,hx1_⟩;have q0_:=Aside0.mk (Kd.C_below HR0.out hb1_);have q1_:=Aside0.mk (Kd.C_below HR1.out hb1_);clear HR0 HR1 HB;have HR0:=q0_;have HR1:=q1_;have HB:=Aside0.mk hb1_;clear q0_ q1_ hb1_)|((with_reducible refine gate_callee (f:=18) rfl ?_);refine goesL_ (some 7) rfl rfl Try.func18 (by kernel_rfl) rfl #[.slice A0 l0.length c0] rfl (by exact mA _ _) ?_;(with_reducible refine(mat_Sane.calls k _ _ l0 true _ ?side1 ?side2 A3.out).mono ?_);(case side1=>first|exact HR0.out|exact kC HR0.out);(case side2=>exact HC0.out);rintro e w' ⟨rfl,⟨nd,rfl⟩⟩;refine⟨_,rfl,?_⟩)|(go_at_call 18;(with_reducible refine(mat_Sane.calls k _ _ l1 true _ ?side1 ?side2 A5.out).mono ?_);(case side1=>first|exact HR1.out|exact kC HR1.out);(case side2=>exact HC1.out);rintro e w' ⟨rfl,⟨nd,rfl⟩⟩)|((with_reducible refine gate_callee (f:=27) rfl ?_);refine goesL_ (some 24) rfl rfl Try.func27 (by kernel_rfl) rfl #[.int .i64 (l0.length:Int),.func (.func 28) #[] #[.pointer (some ⟨w.heap.size,0,none⟩),.pointer (some ⟨w.heap.size+1,0,none⟩)]] rfl (by exact mA _ _) ?_;refine(mat_made.calls (fun i_ j_=>mat_Add_1.f i_ j_ l0 l1) 28 #[] #[.pointer (some ⟨w.heap.size,0,none⟩),.pointer (some ⟨w.heap.size+1,0,none⟩)] k (l0.length:Int) t127 t128 _ (enters_of Try.func28 (by kernel_rfl) rfl) ⟨fun i_ j_ r1_ r2_ W_ hb_ hf_=>calls_of_args (by simp) (mat_Add_1.calls i_ j_ _ _ l0 _ _ l1 r1_ r2_ W_ (Kd.C_below (by first|exact HR0.out|exact kC HR0.out) hb_) HC0.out (Kd.C_below (by first|exact HR1.out|exact kC HR1.out) hb_) HC1.out w.heap.size ⟨by exact(hb_.cell (World.block_lt_of_cell? _ _ hx0_)).trans hx0_⟩ (w.heap.size+1) ⟨by exact(hb_.cell (World.block_lt_of_cell? _ _ hx1_)).trans hx1_⟩ hf_)⟩ A8.out).mono ?_;rintro e w9 ⟨v129,rfl,ho0,hb⟩;refine⟨_,rfl,?_⟩;have n0_:=Aside0.mk (Kd.S_lower ho0 (below_size (by first|with_reducible exact HB.out|exact bl HB)));have n1_:=Aside0.mk (below_step (by first|with_reducible exact HB.out|exact bl HB) hb);clear HB;have HO130:=n0_;have HB:=n1_;clear n0_ n1_;(try clear hb);(try clear hb2);(try clear hk);(try clear hi);(try clear ho0)))
    go_ret2
    exact⟨_,by first|rfl|(simp [errW_none,errW_some]<;>rfl)|(simp [*,errW_none,errW_some]<;>rfl),by first|exact HO130.out|exact kS HO130.out,by first|with_reducible exact HB.out|exact bl HB⟩
   ·rw [if_neg c7] at H
    have c7b0:((l0.length:Int) == (l1.length:Int))=false:=beq_eq_false_iff_ne.mpr c7
    have c7b1:((l0.length:Int) != (l1.length:Int))=true:=bne_iff_ne.mpr c7
    have c7b2:(l0.length == l1.length)=false:=by first|simpa using c7|(simp at c7 ⊢;omega)
    simp only [Option.some.injEq,Prod.mk.injEq] at H
    obtain⟨rfl,rfl⟩:=H
    have tok0:True:=trivial
    go_enter Try.func10,Try.ntmps10
    go_wp2_with (first|((with_reducible refine gate_dst (N:=6) rfl ?_);have _t:=tok0;clear tok0 _t;refine gen_w (fun W=>Below w.heap.size w W∧W.cell? ⟨w.heap.size,0,none⟩=some (.slice A0 l0.length c0)∧W.cell? ⟨w.heap.size+1,0,none⟩=some (.slice A1 l1.length c1)) ⟨below_alloc (below_alloc (Below.refl _ _) _) _,((Boxed.new w 22 (.slice A0 l0.length c0)).alloc (.cells #[.slice A1 l1.length c1] 22)).cell,(by have h:=(Boxed.new (w.alloc (.cells #[.slice A0 l0.length c0] 22)) 22 (.slice A1 l1.length c1)).cell;(try simp only [World.size_alloc] at h);exact h)⟩ ?_;rintro w1_ ⟨hb1_,hx0_,hx1_⟩;have q0_:=Aside0.mk (Kd.C_below HR0.out hb1_);have q1_:=Aside0.mk (Kd.C_below HR1.out hb1_);clear HR0 HR1 HB;have HR0:=q0_;have HR1:=q1_;have HB:=Aside0.mk hb1_;clear q0_ q1_ hb1_)|((with_reducible refine gate_callee (f:=18) rfl ?_);refine goesL_ (some 7) rfl rfl Try.func18 (by kernel_rfl) rfl #[.slice A0 l0.length c0] rfl (by exact mA _ _) ?_;(with_reducible refine(mat_Sane.calls k _ _ l0 true _ ?side1 ?side2 A3.out).mono ?_);(case side1=>first|exact HR0.out|exact kC HR0.out);(case side2=>exact HC0.out);rintro e w' ⟨rfl,⟨nd,rfl⟩⟩;refine⟨_,rfl,?_⟩)|(go_at_call 18;(with_reducible refine(mat_Sane.calls k _ _ l1 true _ ?side1 ?side2 A5.out).mono ?_);(case side1=>first|exact HR1.out|exact kC HR1.out);(case side2=>exact HC1.out);rintro e w' ⟨rfl,⟨nd,rfl⟩⟩))
    go_ret2
    exact⟨_,by first|rfl|(simp [errW_none,errW_some]<;>rfl)|(simp [*,errW_none,errW_some]<;>rfl),by first|exact Kd.S_nil _ _ _ _ _|exact Kd.N_nil _ _ _ _ _|exact Kd.V_nil _ _ _ _ _|exact Kd.Q_nil _ _ _ _ _|exact Kd.R_nil _ _ _ _ _,by first|with_reducible exact HB.out|exact bl HB⟩
  ·replace c6:=Bool.eq_false_iff.mpr c6
   subst c6
   have H1:(some (([]:List (List Int)),true))=some (r1,r2):=by rw [if_neg (show ¬(false=true) by decide)] at H;exact H
   clear H
   have H:=H1
   clear H1
   simp only [Option.some.injEq,Prod.mk.injEq] at H
   obtain⟨rfl,rfl⟩:=H
   have tok0:True:=trivial
   go_enter Try.func10,Try.ntmps10
   go_wp2_with (first|((with_reducible refine gate_dst (N:=6) rfl ?_);have _t:=tok0;clear tok0 _t;refine gen_w (fun W=>Below w.heap.size w W∧W.cell? ⟨w.heap.size,0,none⟩=some (.slice A0 l0.length c0)∧W.cell? ⟨w.heap.size+1,0,none⟩=some (.slice A1 l1.length c1)) ⟨below_alloc (below_alloc (Below.refl _ _) _) _,((Boxed.new w 22 (.slice A0 l0.length c0)).alloc (.cells #[.slice A1 l1.length c1] 22)).cell,(by have h:=(Boxed.new (w.alloc (.cells #[.slice A0 l0.length c0] 22)) 22 (.slice A1 l1.length c1)).cell;(try simp only [World.size_alloc] at h);exact h)⟩ ?_;rintro w1_ ⟨hb1_,hx0_,hx1_⟩;have q0_:=Aside0.mk (Kd.C_below HR0.out hb1_);have q1_:=Aside0.mk (Kd.C_below HR1.out hb1_);clear HR0 HR1 HB;have HR0:=q0_;have HR1:=q1_;have HB:=Aside0.mk hb1_;clear q0_ q1_ hb1_)|((with_reducible refine gate_callee (f:=18) rfl ?_);refine goesL_ (some 7) rfl rfl Try.func18 (by kernel_rfl) rfl #[.slice A0 l0.length c0] rfl (by exact mA _ _) ?_;(with_reducible refine(mat_Sane.calls k _ _ l0 true _ ?side1 ?side2 A3.out).mono ?_);(case side1=>first|exact HR0.out|exact kC HR0.out);(case side2=>exact HC0.out);rintro e w' ⟨rfl,⟨nd,rfl⟩⟩;refine⟨_,rfl,?_⟩)|(go_at_call 18;(with_reducible refine(mat_Sane.calls k _ _ l1 false _ ?side1 ?side2 A5.out).mono ?_);(case side1=>first|exact HR1.out|exact kC HR1.out);(case side2=>exact HC1.out);rintro e w' ⟨rfl,⟨nd,rfl⟩⟩))
   go_ret2
   exact⟨_,by first|rfl|(simp [errW_none,errW_some]<;>rfl)|(simp [*,errW_none,errW_some]<;>rfl),by first|exact Kd.S_nil _ _ _ _ _|exact Kd.N_nil _ _ _ _ _|exact Kd.V_nil _ _ _ _ _|exact Kd.Q_nil _ _ _ _ _|exact Kd.R_nil _ _ _ _ _,by first|with_reducible exact HB.out|exact bl HB⟩
 ·replace c4:=Bool.eq_false_iff.mpr c4
  subst c4
  have H1:(some (([]:List (List Int)),true))=some (r1,r2):=by rw [if_neg (show ¬(false=true) by decide)] at H;exact H
  clear H
  have H:=H1
  clear H1
  simp only [Option.some.injEq,Prod.mk.injEq] at H
  obtain⟨rfl,rfl⟩:=H
  have tok0:True:=trivial
  go_enter Try.func10,Try.ntmps10
  go_wp2_with (first|((with_reducible refine gate_dst (N:=6) rfl ?_);have _t:=tok0;clear tok0 _t;refine gen_w (fun W=>Below w.heap.size w W∧W.cell? ⟨w.heap.size,0,none⟩=some (.slice A0 l0.length c0)∧W.cell? ⟨w.heap.size+1,0,none⟩=some (.slice A1 l1.length c1)) ⟨below_alloc (below_alloc (Below.refl _ _) _) _,((Boxed.new w 22 (.slice A0 l0.length c0)).alloc (.cells #[.slice A1 l1.length c1] 22)).cell,(by have h:=(Boxed.new (w.alloc (.cells #[.slice A0 l0.length c0] 22)) 22 (.slice A1 l1.length c1)).cell;(try simp only [World.size_alloc] at h);exact h)⟩ ?_;rintro w1_ ⟨hb1_,hx0_,hx1_⟩;have q0_:=Aside0.mk (Kd.C_below HR0.out hb1_);have q1_:=Aside0.mk (Kd.C_below HR1.out hb1_);clear HR0 HR1 HB;have HR0:=q0_;have HR1:=q1_;have HB:=Aside0.mk hb1_;clear q0_ q1_ hb1_)|((with_reducible refine gate_callee (f:=18) rfl ?_);refine goesL_ (some 7) rfl rfl Try.func18 (by kernel_rfl) rfl #[.slice A0 l0.length c0] rfl (by exact mA _ _) ?_;(with_reducible refine(mat_Sane.calls k _ _ l0 false _ ?side1 ?side2 A3.out).mono ?_);(case side1=>first|exact HR0.out|exact kC HR0.out);(case side2=>exact HC0.out);rintro e w' ⟨rfl,⟨nd,rfl⟩⟩;refine⟨_,rfl,?_⟩))
  go_ret2
  exact⟨_,by first|rfl|(simp [errW_none,errW_some]<;>rfl)|(simp [*,errW_none,errW_some]<;>rfl),by first|exact Kd.S_nil _ _ _ _ _|exact Kd.N_nil _ _ _ _ _|exact Kd.V_nil _ _ _ _ _|exact Kd.Q_nil _ _ _ _ _|exact Kd.R_nil _ _ _ _ _,by first|with_reducible exact HB.out|exact bl HB⟩
def wide_Sane.f (a0_0:Int) (a0_1:Int):Option (Bool):=if a0_1 ≥ 0 then (if a0_1≤4611686018427387903 then (if a0_0 ≥ (-2305843009213693952) then (some (decide (a0_0<2305843009213693952))) else (some false)) else (some false)) else (some false)
set_option maxHeartbeats 8000000 in
set_option maxRecDepth 100000 in
theorem wide_Sane.calls (a0_0:Int) (a0_1:Int) (r:Bool) (w:World) (h:wide_Sane.f a0_0 a0_1=some r) :
  Calls Try.prog 71 #[.agg #[.int .i64 a0_0,.int .i64 a0_1]] w fun e w'=>e=.returned (.bool r)∧Below w.heap.size w w':=by
 have hu50:=Try.underlying50
 have HB:=Aside0.mk (Below.refl w.heap.size w)
 have H:(if a0_1 ≥ 0 then (if a0_1≤4611686018427387903 then (if a0_0 ≥ (-2305843009213693952) then (some (decide (a0_0<2305843009213693952))) else (some false)) else (some false)) else (some false))=some r:=h
 clear h
 by_cases c2:a0_1 ≥ 0
 ·rw [if_pos c2] at H
  have c2b0:decide (0≤a0_1)=true:=decide_eq_true c2
  clear c2
  by_cases c3:a0_1≤4611686018427387903
  ·rw [if_pos c3] at H
   have c3b0:decide (a0_1≤4611686018427387903)=true:=decide_eq_true c3
   clear c3
   by_cases c4:a0_0 ≥ (-2305843009213693952)
   ·rw [if_pos c4] at H
    have c4b0:decide ((-2305843009213693952)≤a0_0)=true:=decide_eq_true c4
    clear c4
    obtain rfl:=Option.some.inj H
    go_enter Try.func71,Try.ntmps71
    go_wp2_with (first|((with_reducible refine gate_dst (N:=1) rfl ?_);refine box_event ?hg (N:=1) ?hd (cs:=#[.int .i64 a0_0,.int .i64 a0_1]) (t:=50) ?hr ?_;(case hd=>rfl);(case hg=>rfl);(case hr=>first|(go_simp;done)|(go_simp;rfl));intro gb131 hg w5 hbox hb;have n0_:=Aside0.mk (below_step (by first|with_reducible exact HB.out|exact bl HB) hb);have n1_:=Aside0.mk (hbox);have n2_:=Aside0.mk ((by rw [hg];exact(below_size (by first|with_reducible exact HB.out|exact bl HB)):w.heap.size≤gb131));have n3_:=Aside0.mk ((by rw [hg];exact(below_size (by first|with_reducible exact HB.out|exact bl HB)):w.heap.size≤gb131));clear HB;have HB:=n0_;have BK131:=n1_;have GW131:=n2_;have GE131:=n3_;clear n0_ n1_ n2_ n3_;clear hb hbox hg;have hcz6_0:w5.cell? ⟨gb131,0,none⟩=some (.int .i64 a0_0):=(blk_cell BK131.out 0).trans rfl;have hcz6_1:w5.cell? ⟨gb131,1,none⟩=some (.int .i64 a0_1):=(blk_cell BK131.out 1).trans rfl;have hfz6_0:=blk_frozen BK131.out 0;have hfz6_1:=blk_frozen BK131.out 1))
    go_ret
    exact⟨by first|rfl|(simp [errW_none,errW_some]<;>rfl)|(simp [*,errW_none,errW_some]<;>rfl),by repeat (first|with_reducible exact HB.out|exact bl HB|refine bs ?_ GE131)⟩
   ·rw [if_neg c4] at H
    have c4b0:decide ((-2305843009213693952)≤a0_0)=false:=decide_eq_false c4
    clear c4
    obtain rfl:=Option.some.inj H
    go_enter Try.func71,Try.ntmps71
    go_wp2_with (first|((with_reducible refine gate_dst (N:=1) rfl ?_);refine box_event ?hg (N:=1) ?hd (cs:=#[.int .i64 a0_0,.int .i64 a0_1]) (t:=50) ?hr ?_;(case hd=>rfl);(case hg=>rfl);(case hr=>first|(go_simp;done)|(go_simp;rfl));intro gb131 hg w7 hbox hb;have n0_:=Aside0.mk (below_step (by first|with_reducible exact HB.out|exact bl HB) hb);have n1_:=Aside0.mk (hbox);have n2_:=Aside0.mk ((by rw [hg];exact(below_size (by first|with_reducible exact HB.out|exact bl HB)):w.heap.size≤gb131));have n3_:=Aside0.mk ((by rw [hg];exact(below_size (by first|with_reducible exact HB.out|exact bl HB)):w.heap.size≤gb131));clear HB;have HB:=n0_;have BK131:=n1_;have GW131:=n2_;have GE131:=n3_;clear n0_ n1_ n2_ n3_;clear hb hbox hg;have hcz8_0:w7.cell? ⟨gb131,0,none⟩=some (.int .i64 a0_0):=(blk_cell BK131.out 0).trans rfl;have hcz8_1:w7.cell? ⟨gb131,1,none⟩=some (.int .i64 a0_1):=(blk_cell BK131.out 1).trans rfl;have hfz8_0:=blk_frozen BK131.out 0;have hfz8_1:=blk_frozen BK131.out 1))
    go_ret
    exact⟨by first|rfl|(simp [errW_none,errW_some]<;>rfl)|(simp [*,errW_none,errW_some]<;>rfl),by repeat (first|with_reducible exact HB.out|exact bl HB|refine bs ?_ GE131)⟩
  ·rw [if_neg c3] at H
   have c3b0:decide (a0_1≤4611686018427387903)=false:=decide_eq_false c3
   clear c3
   obtain rfl:=Option.some.inj H
   go_enter Try.func71,Try.ntmps71
   go_wp2_with (first|((with_reducible refine gate_dst (N:=1) rfl ?_);refine box_event ?hg (N:=1) ?hd (cs:=#[.int .i64 a0_0,.int .i64 a0_1]) (t:=50) ?hr ?_;(case hd=>rfl);(case hg=>rfl);(case hr=>first|(go_simp;done)|(go_simp;rfl));intro gb131 hg w9 hbox hb;have n0_:=Aside0.mk (below_step (by first|with_reducible exact HB.out|exact bl HB) hb);have n1_:=Aside0.mk (hbox);have n2_:=Aside0.mk ((by rw [hg];exact(below_size (by first|with_reducible exact HB.out|exact bl HB)):w.heap.size≤gb131));have n3_:=Aside0.mk ((by rw [hg];exact(below_size (by first|with_reducible exact HB.out|exact bl HB)):w.heap.size≤gb131));clear HB;have HB:=n0_;have BK131:=n1_;have GW131:=n2_;have GE131:=n3_;clear n0_ n1_ n2_ n3_;clear hb hbox hg;have hcz10_0:w9.cell? ⟨gb131,0,none⟩=some (.int .i64 a0_0):=(blk_cell BK131.out 0).trans rfl;have hcz10_1:w9.cell? ⟨gb131,1,none⟩=some (.int .i64 a0_1):=(blk_cell BK131.out 1).trans rfl;have hfz10_0:=blk_frozen BK131.out 0;have hfz10_1:=blk_frozen BK131.out 1))
   go_ret
   exact⟨by first|rfl|(simp [errW_none,errW_some]<;>rfl)|(simp [*,errW_none,errW_some]<;>rfl),by repeat (first|with_reducible exact HB.out|exact bl HB|refine bs ?_ GE131)⟩
 ·rw [if_neg c2] at H
  have c2b0:decide (0≤a0_1)=false:=decide_eq_false c2
  clear c2
  obtain rfl:=Option.some.inj H
  go_enter Try.func71,Try.ntmps71
  go_wp2_with (first|((with_reducible refine gate_dst (N:=1) rfl ?_);refine box_event ?hg (N:=1) ?hd (cs:=#[.int .i64 a0_0,.int .i64 a0_1]) (t:=50) ?hr ?_;(case hd=>rfl);(case hg=>rfl);(case hr=>first|(go_simp;done)|(go_simp;rfl));intro gb131 hg w11 hbox hb;have n0_:=Aside0.mk (below_step (by first|with_reducible exact HB.out|exact bl HB) hb);have n1_:=Aside0.mk (hbox);have n2_:=Aside0.mk ((by rw [hg];exact(below_size (by first|with_reducible exact HB.out|exact bl HB)):w.heap.size≤gb131));have n3_:=Aside0.mk ((by rw [hg];exact(below_size (by first|with_reducible exact HB.out|exact bl HB)):w.heap.size≤gb131));clear HB;have HB:=n0_;have BK131:=n1_;have GW131:=n2_;have GE131:=n3_;clear n0_ n1_ n2_ n3_;clear hb hbox hg;have hcz12_0:w11.cell? ⟨gb131,0,none⟩=some (.int .i64 a0_0):=(blk_cell BK131.out 0).trans rfl;have hcz12_1:w11.cell? ⟨gb131,1,none⟩=some (.int .i64 a0_1):=(blk_cell BK131.out 1).trans rfl;have hfz12_0:=blk_frozen BK131.out 0;have hfz12_1:=blk_frozen BK131.out 1))
  go_ret
  exact⟨by first|rfl|(simp [errW_none,errW_some]<;>rfl)|(simp [*,errW_none,errW_some]<;>rfl),by repeat (first|with_reducible exact HB.out|exact bl HB|refine bs ?_ GE131)⟩
def wide_known.f (a0_0:Int) (a0_1:Int):Option (Int × Int):=(wide_Sane.f a0_0 a0_1).bind fun t134=>(if t134=true then (some (a0_0,a0_1)) else (some (0,0)))
set_option maxHeartbeats 8000000 in
set_option maxRecDepth 100000 in
theorem wide_known.calls (a0_0:Int) (a0_1:Int) (r1:Int) (r2:Int) (w:World) (h:wide_known.f a0_0 a0_1=some (r1,r2)) :
  Calls Try.prog 62 #[.agg #[.int .i64 a0_0,.int .i64 a0_1]] w fun e w'=>e=.returned (.agg #[.int .i64 r1,.int .i64 r2])∧Below w.heap.size w w':=by
 have hu50:=Try.underlying50
 have HB:=Aside0.mk (Below.refl w.heap.size w)
 have H:((wide_Sane.f a0_0 a0_1).bind fun t134=>(if t134=true then (some (a0_0,a0_1)) else (some (0,0))))=some (r1,r2):=h
 clear h
 replace H:=Option.bind_eq_some_iff.mp H
 obtain⟨t134,A20,H⟩:=H
 replace H:(if t134=true then (some (a0_0,a0_1)) else (some (0,0)))=some (r1,r2):=H
 have A2:=Aside0.mk A20
 clear A20
 by_cases c3:t134=true
 ·subst c3
  have H1:(some (a0_0,a0_1))=some (r1,r2):=by rw [if_pos rfl] at H;exact H
  clear H
  have H:=H1
  clear H1
  simp only [Option.some.injEq,Prod.mk.injEq] at H
  obtain⟨rfl,rfl⟩:=H
  go_enter Try.func62,Try.ntmps62
  go_wp2_with (first|((with_reducible refine gate_dst (N:=1) rfl ?_);refine box_event ?hg (N:=1) ?hd (cs:=#[.int .i64 a0_0,.int .i64 a0_1]) (t:=50) ?hr ?_;(case hd=>rfl);(case hg=>rfl);(case hr=>first|(go_simp;done)|(go_simp;rfl));intro gb132 hg w4 hbox hb;have n0_:=Aside0.mk (below_step (by first|with_reducible exact HB.out|exact bl HB) hb);have n1_:=Aside0.mk (hbox);have n2_:=Aside0.mk ((by rw [hg];exact(below_size (by first|with_reducible exact HB.out|exact bl HB)):w.heap.size≤gb132));have n3_:=Aside0.mk ((by rw [hg];exact(below_size (by first|with_reducible exact HB.out|exact bl HB)):w.heap.size≤gb132));clear HB;have HB:=n0_;have BK132:=n1_;have GW132:=n2_;have GE132:=n3_;clear n0_ n1_ n2_ n3_;clear hb hbox hg)|((with_reducible refine gate_dst (N:=2) rfl ?_);refine box_event ?hg (N:=2) ?hd (cs:=#[.int .i64 0,.int .i64 0]) (t:=50) ?hr ?_;(case hd=>rfl);(case hg=>rfl);(case hr=>first|(go_simp;done)|(go_simp;rfl));intro gb133 hg w5 hbox hb;have n0_:=Aside0.mk (blk_below (bk BK132.out) hb);have n1_:=Aside0.mk (below_step (by repeat (first|with_reducible exact HB.out|exact bl HB|refine bs ?_ GE132)) hb);have n2_:=Aside0.mk (hbox);have n3_:=Aside0.mk ((by rw [hg];exact(below_size (by repeat (first|with_reducible exact HB.out|exact bl HB|refine bs ?_ GE132))):w.heap.size≤gb133));have n4_:=Aside0.mk ((by rw [hg];exact(below_size (by repeat (first|with_reducible exact HB.out|exact bl HB|refine bs ?_ GE132))):w.heap.size≤gb133));have n5_:=Aside0.mk ((by rw [hg];exact Nat.ne_of_lt (blk_lt (bk BK132.out)):gb132≠gb133));have n6_:=Aside0.mk ((by rw [hg];exact Nat.ne_of_gt (blk_lt (bk BK132.out)):gb133≠gb132));clear BK132;clear HB;have BK132:=n0_;have HB:=n1_;have BK133:=n2_;have GW133:=n3_;have GE133:=n4_;have NB132_133:=n5_;have NB133_132:=n6_;clear n0_ n1_ n2_ n3_ n4_ n5_ n6_;clear hb hbox hg;have hnb6:=NB132_133.out;have hnc6:=NB133_132.out;have hcz7_0:w5.cell? ⟨gb132,0,none⟩=some (.int .i64 a0_0):=(blk_cell BK132.out 0).trans rfl;have hcz7_1:w5.cell? ⟨gb132,1,none⟩=some (.int .i64 a0_1):=(blk_cell BK132.out 1).trans rfl;have hfz7_0:=blk_frozen BK132.out 0;have hfz7_1:=blk_frozen BK132.out 1)|((with_reducible refine gate_callee (f:=71) rfl ?_);refine goesL_ (some 4) rfl rfl Try.func71 (by kernel_rfl) rfl #[.agg #[.int .i64 a0_0,.int .i64 a0_1]] rfl (by exact mA _ _) ?_;(with_reducible refine(wide_Sane.calls a0_0 a0_1 true _ A2.out).mono ?_);rintro e w8 ⟨rfl,hb⟩;refine⟨_,rfl,?_⟩;have n0_:=Aside0.mk (blk_below (bk BK132.out) hb);have n1_:=Aside0.mk (blk_below (bk BK133.out) hb);have n2_:=Aside0.mk (below_step (by repeat (first|with_reducible exact HB.out|exact bl HB|refine bs ?_ GE132|refine bs ?_ GE133)) hb);clear BK132;clear BK133;clear HB;have BK132:=n0_;have BK133:=n1_;have HB:=n2_;clear n0_ n1_ n2_;(try clear hb);(try clear hb2);(try clear hk);(try clear hi);have hcz9_0:w8.cell? ⟨gb132,0,none⟩=some (.int .i64 a0_0):=(blk_cell BK132.out 0).trans rfl;have hcz9_1:w8.cell? ⟨gb132,1,none⟩=some (.int .i64 a0_1):=(blk_cell BK132.out 1).trans rfl;have hfz9_0:=blk_frozen BK132.out 0;have hfz9_1:=blk_frozen BK132.out 1;have hcz10_0:w8.cell? ⟨gb133,0,none⟩=some (.int .i64 0):=(blk_cell BK133.out 0).trans rfl;have hcz10_1:w8.cell? ⟨gb133,1,none⟩=some (.int .i64 0):=(blk_cell BK133.out 1).trans rfl;have hfz10_0:=blk_frozen BK133.out 0;have hfz10_1:=blk_frozen BK133.out 1))
  refine bodyPost_ret (results_cell_row rfl _ _ gb133 50 #[.int .i64 a0_0,.int .i64 a0_1] (0,0) _ rfl (by try refine bk ?_;refine blk_put (cs:=#[.int .i64 a0_0,.int .i64 0]) ?_ 1 _ rfl;try refine bk ?_;refine blk_put (cs:=#[.int .i64 0,.int .i64 0]) ?_ 0 _ rfl;try refine bk ?_;exact BK133.out) Try.underlying50 rfl (by kernel_rfl)) rfl ?_
  exact⟨by first|rfl|(simp [errW_none,errW_some]<;>rfl)|(simp [*,errW_none,errW_some]<;>rfl),by repeat (first|with_reducible exact HB.out|exact bl HB|refine bs ?_ GE132|refine bs ?_ GE133)⟩
 ·replace c3:=Bool.eq_false_iff.mpr c3
  subst c3
  have H1:(some (0,0))=some (r1,r2):=by rw [if_neg (show ¬(false=true) by decide)] at H;exact H
  clear H
  have H:=H1
  clear H1
  simp only [Option.some.injEq,Prod.mk.injEq] at H
  obtain⟨rfl,rfl⟩:=H
  go_enter Try.func62,Try.ntmps62
  go_wp2_with (first|((with_reducible refine gate_dst (N:=1) rfl ?_);refine box_event ?hg (N:=1) ?hd (cs:=#[.int .i64 a0_0,.int .i64 a0_1]) (t:=50) ?hr ?_;(case hd=>rfl);(case hg=>rfl);(case hr=>first|(go_simp;done)|(go_simp;rfl));intro gb132 hg w11 hbox hb;have n0_:=Aside0.mk (below_step (by first|with_reducible exact HB.out|exact bl HB) hb);have n1_:=Aside0.mk (hbox);have n2_:=Aside0.mk ((by rw [hg];exact(below_size (by first|with_reducible exact HB.out|exact bl HB)):w.heap.size≤gb132));have n3_:=Aside0.mk ((by rw [hg];exact(below_size (by first|with_reducible exact HB.out|exact bl HB)):w.heap.size≤gb132));clear HB;have HB:=n0_;have BK132:=n1_;have GW132:=n2_;have GE132:=n3_;clear n0_ n1_ n2_ n3_;clear hb hbox hg)|((with_reducible refine gate_dst (N:=2) rfl ?_);refine box_event ?hg (N:=2) ?hd (cs:=#[.int .i64 0,.int .i64 0]) (t:=50) ?hr ?_;(case hd=>rfl);(case hg=>rfl);(case hr=>first|(go_simp;done)|(go_simp;rfl));intro gb133 hg w12 hbox hb;have n0_:=Aside0.mk (blk_below (bk BK132.out) hb);have n1_:=Aside0.mk (below_step (by repeat (first|with_reducible exact HB.out|exact bl HB|refine bs ?_ GE132)) hb);have n2_:=Aside0.mk (hbox);have n3_:=Aside0.mk ((by rw [hg];exact(below_size (by repeat (first|with_reducible exact HB.out|exact bl HB|refine bs ?_ GE132))):w.heap.size≤gb133));have n4_:=Aside0.mk ((by rw [hg];exact(below_size (by repeat (first|with_reducible exact HB.out|exact bl HB|refine bs ?_ GE132))):w.heap.size≤gb133));have n5_:=Aside0.mk ((by rw [hg];exact Nat.ne_of_lt (blk_lt (bk BK132.out)):gb132≠gb133));have n6_:=Aside0.mk ((by rw [hg];exact Nat.ne_of_gt (blk_lt (bk BK132.out)):gb133≠gb132));clear BK132;clear HB;have BK132:=n0_;have HB:=n1_;have BK133:=n2_;have GW133:=n3_;have GE133:=n4_;have NB132_133:=n5_;have NB133_132:=n6_;clear n0_ n1_ n2_ n3_ n4_ n5_ n6_;clear hb hbox hg;have hnb13:=NB132_133.out;have hnc13:=NB133_132.out;have hcz14_0:w12.cell? ⟨gb132,0,none⟩=some (.int .i64 a0_0):=(blk_cell BK132.out 0).trans rfl;have hcz14_1:w12.cell? ⟨gb132,1,none⟩=some (.int .i64 a0_1):=(blk_cell BK132.out 1).trans rfl;have hfz14_0:=blk_frozen BK132.out 0;have hfz14_1:=blk_frozen BK132.out 1)|((with_reducible refine gate_callee (f:=71) rfl ?_);refine goesL_ (some 4) rfl rfl Try.func71 (by kernel_rfl) rfl #[.agg #[.int .i64 a0_0,.int .i64 a0_1]] rfl (by exact mA _ _) ?_;(with_reducible refine(wide_Sane.calls a0_0 a0_1 false _ A2.out).mono ?_);rintro e w15 ⟨rfl,hb⟩;refine⟨_,rfl,?_⟩;have n0_:=Aside0.mk (blk_below (bk BK132.out) hb);have n1_:=Aside0.mk (blk_below (bk BK133.out) hb);have n2_:=Aside0.mk (below_step (by repeat (first|with_reducible exact HB.out|exact bl HB|refine bs ?_ GE132|refine bs ?_ GE133)) hb);clear BK132;clear BK133;clear HB;have BK132:=n0_;have BK133:=n1_;have HB:=n2_;clear n0_ n1_ n2_;(try clear hb);(try clear hb2);(try clear hk);(try clear hi);have hcz16_0:w15.cell? ⟨gb133,0,none⟩=some (.int .i64 0):=(blk_cell BK133.out 0).trans rfl;have hcz16_1:w15.cell? ⟨gb133,1,none⟩=some (.int .i64 0):=(blk_cell BK133.out 1).trans rfl;have hfz16_0:=blk_frozen BK133.out 0;have hfz16_1:=blk_frozen BK133.out 1))
  refine bodyPost_ret (results_cell_row rfl _ _ gb133 50 #[.int .i64 0,.int .i64 0] (0,0) _ rfl (by try refine bk ?_;refine blk_put (cs:=#[.int .i64 0,.int .i64 0]) ?_ 1 _ rfl;try refine bk ?_;refine blk_put (cs:=#[.int .i64 0,.int .i64 0]) ?_ 0 _ rfl;try refine bk ?_;exact BK133.out) Try.underlying50 rfl (by kernel_rfl)) rfl ?_
  exact⟨by first|rfl|(simp [errW_none,errW_some]<;>rfl)|(simp [*,errW_none,errW_some]<;>rfl),by repeat (first|with_reducible exact HB.out|exact bl HB|refine bs ?_ GE132|refine bs ?_ GE133)⟩
end Go.Proofs.Ytembdogffbcjiaa.B
