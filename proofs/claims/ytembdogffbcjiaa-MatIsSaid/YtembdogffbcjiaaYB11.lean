/- Lemmas of the row, laid by a program. -/
import Derived.Test.YtembdogffbcjiaaYB0
namespace Go.Proofs.Ytembdogffbcjiaa.B
open Go.RowKit Go.Proofs.YtembdogffbcjiaaW.PrintWords Go.Proofs.YtembdogffbcjiaaW.PrintLast Go.Proofs.YtembdogffbcjiaaW.PrintMore
attribute [local go_sem] max2_int min2_int max_two min_two max_three min_three max_four min_four
set_option linter.unusedVariables false
set_option linter.unusedSimpArgs false
def outriggerref08_Ints.l0:Nat→List Int→List Int→Int→Option (Bool)
  | 0,_,_,_=>none
  | k+1,x0,x1,x5=>if x5<(x0.length:Int) then (if 0≤x5 then (if x5<(x1.length:Int) then (if (rd x0 x5)=(rd x1 x5) then (outriggerref08_Ints.l0 k x0 x1 (wrap64 (x5+1))) else (some false)) else (none)) else (none)) else (some true)
def outriggerref08_Ints.f (k:Nat) (l0:List Int) (l1:List Int):Option (Bool):=if (l0.length:Int)=(l1.length:Int) then (outriggerref08_Ints.l0 k l0 l1 0) else (some false)
theorem outriggerref08_Ints.mono_l:∀ k,(∀ y0 y1 y2,LeO (outriggerref08_Ints.l0 k y0 y1 y2) (outriggerref08_Ints.l0 (k+1) y0 y1 y2))
 | 0=>fun _ _ _ r h=>by simp [outriggerref08_Ints.l0] at h
 | k+1=>by
  have ih0:=outriggerref08_Ints.mono_l k
  ·intro y0 y1 y2
   unfold outriggerref08_Ints.l0
   repeat' first
   | (with_reducible exact ih0 _ _ _)
   | (with_reducible exact LeO.refl _)
   | (with_reducible exact LeO.none _)
   | (with_reducible refine LeO.ite ?_ ?_)
   | (with_reducible refine LeO.bind ?_ (fun _=>?_))
   | exact ih0 _ _ _
   | exact LeO.none _
   | refine LeO.ite ?_ ?_
   | refine LeO.bind ?_ (fun _=>?_)
theorem outriggerref08_Ints.mono:∀ a0 a1 k,LeO (outriggerref08_Ints.f k a0 a1) (outriggerref08_Ints.f (k+1) a0 a1):=by
 intro a0 a1 k
 have ih0:=outriggerref08_Ints.mono_l k
 unfold outriggerref08_Ints.f
 repeat' first
   | (with_reducible exact ih0 _ _ _)
   | (with_reducible exact LeO.refl _)
   | (with_reducible exact LeO.none _)
   | (with_reducible refine LeO.ite ?_ ?_)
   | (with_reducible refine LeO.bind ?_ (fun _=>?_))
   | exact ih0 _ _ _
   | exact LeO.none _
   | refine LeO.ite ?_ ?_
   | refine LeO.bind ?_ (fun _=>?_)
set_option maxHeartbeats 8000000 in
set_option maxRecDepth 100000 in
theorem outriggerref08_Ints.calls (k:Nat) (A0:Option Addr) (c0:Nat) (l0:List Int) (A1:Option Addr) (c1:Nat) (l1:List Int) (r:Bool) (w:World) (hr0:Kd.C (Kd.int .i64) w A0 l0.length l0) (hc0:l0.length≤c0) (hr1:Kd.C (Kd.int .i64) w A1 l1.length l1) (hc1:l1.length≤c1) (h:outriggerref08_Ints.f k l0 l1=some r) :
  Calls Try.prog 17 #[.slice A0 l0.length c0,.slice A1 l1.length c1] w fun e w'=>e=.returned (.bool r)∧Drawn0 w w':=by
 have HR0:=Aside0.mk hr0
 have HC0:=Aside0.mk hc0
 clear hr0 hc0
 have HR1:=Aside0.mk hr1
 have HC1:=Aside0.mk hc1
 clear hr1 hc1
 have H:(if (l0.length:Int)=(l1.length:Int) then (outriggerref08_Ints.l0 k l0 l1 0) else (some false))=some r:=h
 clear h
 by_cases c3:(l0.length:Int)=(l1.length:Int)
 ·rw [if_pos c3] at H
  have c3b0:((l0.length:Int) == (l1.length:Int))=true:=beq_iff_eq.mpr c3
  have c3b1:((l0.length:Int) != (l1.length:Int))=false:=bne_eq_false_iff_eq.mpr c3
  have c3b2:(l0.length == l1.length)=true:=by first|simpa using c3|(simp at c3 ⊢;omega)
  clear c3
  have H':=Aside0.mk H
  clear H
  go_enter Try.func17,Try.ntmps17
  go_wp2
  repeat (go_quiet (fail);try go_wp2)
  go_loopg [5] k (fun kq v5 w'=>∃ (x5_1:Int),v5=.int .i64 x5_1∧Aside0 (outriggerref08_Ints.l0 kq l0 l1 x5_1=some r)∧Aside0 (kq≤k)∧Drawn0 w w')
  case atStart=>exact⟨(0),(by first|rfl|(simp;done)|(simp [*];done)),H',⟨Nat.le_refl _⟩,by repeat (first|exact Drawn0.refl _|apply Drawn0.step)⟩
  case round =>
   clear H'
   try clear c1
   try clear p2
   try clear c3
   try clear c3b0
   try clear c3b1
   try clear c3b2
   obtain⟨x5_1,rfl,HA,HK1,⟨m1,rfl⟩⟩:=hrel
   cases gk with
   | zero=>exact absurd HA.out (by simp [outriggerref08_Ints.l0])
   | succ k1 =>
    have H:=HA.out
    clear HA
    simp only [outriggerref08_Ints.l0] at H
    by_cases c4:x5_1<(l0.length:Int)
    ·rw [if_pos c4] at H
     have c4b0:decide (x5_1<(l0.length:Int))=true:=decide_eq_true c4
     clear c4
     by_cases c5:0≤x5_1
     ·rw [if_pos c5] at H
      have c5b0:decide (0≤x5_1)=true:=decide_eq_true c5
      clear c5
      by_cases c6:x5_1<(l1.length:Int)
      ·rw [if_pos c6] at H
       have c6b0:decide (x5_1<(l1.length:Int))=true:=decide_eq_true c6
       clear c6
       by_cases c7:(rd l0 x5_1)=(rd l1 x5_1)
       ·rw [if_pos c7] at H
        have c7b0:((rd l0 x5_1) == (rd l1 x5_1))=true:=beq_iff_eq.mpr c7
        have c7b1:((rd l0 x5_1) != (rd l1 x5_1))=false:=bne_eq_false_iff_eq.mpr c7
        clear c7
        have H':=Aside0.mk H
        clear H
        have p231:0≤(x5_1:Int):=of_decide_eq_true (by first|(with_reducible assumption)|assumption)
        have q231:x5_1<(l0.length:Int):=of_decide_eq_true (by first|(with_reducible assumption)|assumption)
        obtain⟨ad231,e231,hx231_0⟩:=Kd.at_int HR0.out x5_1 p231 q231
        cases e231
        replace p231:=eq_true p231
        replace q231:=eq_true q231
        have p232:0≤(x5_1:Int):=of_decide_eq_true (by first|(with_reducible assumption)|assumption)
        have q232:x5_1<(l1.length:Int):=of_decide_eq_true (by first|(with_reducible assumption)|assumption)
        obtain⟨ad232,e232,hx232_0⟩:=Kd.at_int HR1.out x5_1 p232 q232
        cases e232
        replace p232:=eq_true p232
        replace q232:=eq_true q232
        go_wp2
        repeat (go_quiet (fail);try go_wp2)
        go_roundg k1
        case measure=>have:=HK1.out;omega
        case rel=>exact⟨(wrap64 (x5_1+1)),(by first|rfl|(simp;done)|(simp [*];done)),H',⟨by have:=HK1.out;omega⟩,by repeat (first|exact Drawn0.refl _|apply Drawn0.step)⟩
       ·rw [if_neg c7] at H
        have c7b0:((rd l0 x5_1) == (rd l1 x5_1))=false:=beq_eq_false_iff_ne.mpr c7
        have c7b1:((rd l0 x5_1) != (rd l1 x5_1))=true:=bne_iff_ne.mpr c7
        obtain rfl:=Option.some.inj H
        have p231:0≤(x5_1:Int):=of_decide_eq_true (by first|(with_reducible assumption)|assumption)
        have q231:x5_1<(l0.length:Int):=of_decide_eq_true (by first|(with_reducible assumption)|assumption)
        obtain⟨ad231,e231,hx231_0⟩:=Kd.at_int HR0.out x5_1 p231 q231
        cases e231
        replace p231:=eq_true p231
        replace q231:=eq_true q231
        have p232:0≤(x5_1:Int):=of_decide_eq_true (by first|(with_reducible assumption)|assumption)
        have q232:x5_1<(l1.length:Int):=of_decide_eq_true (by first|(with_reducible assumption)|assumption)
        obtain⟨ad232,e232,hx232_0⟩:=Kd.at_int HR1.out x5_1 p232 q232
        cases e232
        replace p232:=eq_true p232
        replace q232:=eq_true q232
        go_wp2
        repeat (go_quiet (fail);try go_wp2)
        go_ret
        exact⟨by first|rfl|(simp;done)|(simp [*];done),by repeat (first|exact Drawn0.refl _|apply Drawn0.step)⟩
      ·rw [if_neg c6] at H
       exact absurd H (by simp)
     ·rw [if_neg c5] at H
      exact absurd H (by simp)
    ·rw [if_neg c4] at H
     have c4b0:decide (x5_1<(l0.length:Int))=false:=decide_eq_false c4
     clear c4
     obtain rfl:=Option.some.inj H
     go_wp2
     repeat (go_quiet (fail);try go_wp2)
     go_ret
     exact⟨by first|rfl|(simp;done)|(simp [*];done),by repeat (first|exact Drawn0.refl _|apply Drawn0.step)⟩
 ·rw [if_neg c3] at H
  have c3b0:((l0.length:Int) == (l1.length:Int))=false:=beq_eq_false_iff_ne.mpr c3
  have c3b1:((l0.length:Int) != (l1.length:Int))=true:=bne_iff_ne.mpr c3
  have c3b2:(l0.length == l1.length)=false:=by first|simpa using c3|(simp at c3 ⊢;omega)
  obtain rfl:=Option.some.inj H
  go_enter Try.func17,Try.ntmps17
  go_wp2
  repeat (go_quiet (fail);try go_wp2)
  go_ret
  exact⟨by first|rfl|(simp;done)|(simp [*];done),by repeat (first|exact Drawn0.refl _|apply Drawn0.step)⟩
def outriggerref08_Same.l0:Nat→List (List Int)→List (List Int)→Int→Option (Bool)
  | 0,_,_,_=>none
  | k+1,x0,x1,x5=>if x5<(x0.length:Int) then (if 0≤x5 then (if x5<(x1.length:Int) then ((outriggerref08_Ints.f k (rd_L1 x0 x5) (rd_L1 x1 x5)).bind fun t235=>(if t235=true then (outriggerref08_Same.l0 k x0 x1 (wrap64 (x5+1))) else (some false))) else (none)) else (none)) else (some true)
def outriggerref08_Same.f (k:Nat) (l0:List (List Int)) (l1:List (List Int)):Option (Bool):=if (l0.length:Int)=(l1.length:Int) then (outriggerref08_Same.l0 k l0 l1 0) else (some false)
theorem outriggerref08_Same.mono_l:∀ k,(∀ y0 y1 y2,LeO (outriggerref08_Same.l0 k y0 y1 y2) (outriggerref08_Same.l0 (k+1) y0 y1 y2))
 | 0=>fun _ _ _ r h=>by simp [outriggerref08_Same.l0] at h
 | k+1=>by
  have ih0:=outriggerref08_Same.mono_l k
  ·intro y0 y1 y2
   unfold outriggerref08_Same.l0
   repeat' first
   | (with_reducible exact ih0 _ _ _)
   | (with_reducible exact outriggerref08_Ints.mono _ _ _)
   | (with_reducible exact LeO.refl _)
   | (with_reducible exact LeO.none _)
   | (with_reducible refine LeO.ite ?_ ?_)
   | (with_reducible refine LeO.bind ?_ (fun _=>?_))
   | exact ih0 _ _ _
   | exact outriggerref08_Ints.mono _ _ _
   | exact LeO.none _
   | refine LeO.ite ?_ ?_
   | refine LeO.bind ?_ (fun _=>?_)
theorem outriggerref08_Same.mono:∀ a0 a1 k,LeO (outriggerref08_Same.f k a0 a1) (outriggerref08_Same.f (k+1) a0 a1):=by
 intro a0 a1 k
 have ih0:=outriggerref08_Same.mono_l k
 unfold outriggerref08_Same.f
 repeat' first
   | (with_reducible exact ih0 _ _ _)
   | (with_reducible exact outriggerref08_Ints.mono _ _ _)
   | (with_reducible exact LeO.refl _)
   | (with_reducible exact LeO.none _)
   | (with_reducible refine LeO.ite ?_ ?_)
   | (with_reducible refine LeO.bind ?_ (fun _=>?_))
   | exact ih0 _ _ _
   | exact outriggerref08_Ints.mono _ _ _
   | exact LeO.none _
   | refine LeO.ite ?_ ?_
   | refine LeO.bind ?_ (fun _=>?_)
set_option maxHeartbeats 8000000 in
set_option maxRecDepth 100000 in
theorem outriggerref08_Same.calls (k:Nat) (A0:Option Addr) (c0:Nat) (l0:List (List Int)) (A1:Option Addr) (c1:Nat) (l1:List (List Int)) (r:Bool) (w:World) (hr0:Kd.C (Kd.slice 3 (Kd.int .i64)) w A0 l0.length l0) (hc0:l0.length≤c0) (hr1:Kd.C (Kd.slice 3 (Kd.int .i64)) w A1 l1.length l1) (hc1:l1.length≤c1) (h:outriggerref08_Same.f k l0 l1=some r) :
  Calls Try.prog 16 #[.slice A0 l0.length c0,.slice A1 l1.length c1] w fun e w'=>e=.returned (.bool r)∧Drawn0 w w':=by
 have HR0:=Aside0.mk hr0
 have HC0:=Aside0.mk hc0
 clear hr0 hc0
 have HR1:=Aside0.mk hr1
 have HC1:=Aside0.mk hc1
 clear hr1 hc1
 have H:(if (l0.length:Int)=(l1.length:Int) then (outriggerref08_Same.l0 k l0 l1 0) else (some false))=some r:=h
 clear h
 by_cases c3:(l0.length:Int)=(l1.length:Int)
 ·rw [if_pos c3] at H
  have c3b0:((l0.length:Int) == (l1.length:Int))=true:=beq_iff_eq.mpr c3
  have c3b1:((l0.length:Int) != (l1.length:Int))=false:=bne_eq_false_iff_eq.mpr c3
  have c3b2:(l0.length == l1.length)=true:=by first|simpa using c3|(simp at c3 ⊢;omega)
  clear c3
  have H':=Aside0.mk H
  clear H
  go_enter Try.func16,Try.ntmps16
  go_wp2
  repeat (go_quiet (fail);try go_wp2)
  go_loopg [5] k (fun kq v5 w'=>∃ (x5_1:Int),v5=.int .i64 x5_1∧Aside0 (outriggerref08_Same.l0 kq l0 l1 x5_1=some r)∧Aside0 (kq≤k)∧Drawn0 w w')
  case atStart=>exact⟨(0),(by first|rfl|(simp;done)|(simp [*];done)),H',⟨Nat.le_refl _⟩,by repeat (first|exact Drawn0.refl _|apply Drawn0.step)⟩
  case round =>
   clear H'
   try clear c1
   try clear p2
   try clear c3
   try clear c3b0
   try clear c3b1
   try clear c3b2
   obtain⟨x5_1,rfl,HA,HK1,⟨m1,rfl⟩⟩:=hrel
   cases gk with
   | zero=>exact absurd HA.out (by simp [outriggerref08_Same.l0])
   | succ k1 =>
    have H:=HA.out
    clear HA
    simp only [outriggerref08_Same.l0] at H
    by_cases c4:x5_1<(l0.length:Int)
    ·rw [if_pos c4] at H
     have c4b0:decide (x5_1<(l0.length:Int))=true:=decide_eq_true c4
     clear c4
     by_cases c5:0≤x5_1
     ·rw [if_pos c5] at H
      have c5b0:decide (0≤x5_1)=true:=decide_eq_true c5
      clear c5
      by_cases c6:x5_1<(l1.length:Int)
      ·rw [if_pos c6] at H
       have c6b0:decide (x5_1<(l1.length:Int))=true:=decide_eq_true c6
       clear c6
       replace H:=Option.bind_eq_some_iff.mp H
       obtain⟨t235,A70,H⟩:=H
       replace H:(if t235=true then (outriggerref08_Same.l0 k1 l0 l1 (wrap64 (x5_1+1))) else (some false))=some r:=H
       have A7:=Aside0.mk A70
       clear A70
       by_cases c8:t235=true
       ·subst c8
        have H1:(outriggerref08_Same.l0 k1 l0 l1 (wrap64 (x5_1+1)))=some r:=by rw [if_pos rfl] at H;exact H
        clear H
        have H:=H1
        clear H1
        have H':=Aside0.mk H
        clear H
        have p233:0≤(x5_1:Int):=of_decide_eq_true (by first|(with_reducible assumption)|assumption)
        have q233:x5_1<(l0.length:Int):=of_decide_eq_true (by first|(with_reducible assumption)|assumption)
        obtain⟨ad233,A233_0,c233_0,e233,hx233_0,hl233_0,hi233_0⟩:=at_L1 HR0.out x5_1 p233 q233
        cases e233
        have HR233_0:=Aside0.mk hi233_0
        have HC233_0:=Aside0.mk hl233_0
        clear hi233_0 hl233_0
        replace p233:=eq_true p233
        replace q233:=eq_true q233
        have p234:0≤(x5_1:Int):=of_decide_eq_true (by first|(with_reducible assumption)|assumption)
        have q234:x5_1<(l1.length:Int):=of_decide_eq_true (by first|(with_reducible assumption)|assumption)
        obtain⟨ad234,A234_0,c234_0,e234,hx234_0,hl234_0,hi234_0⟩:=at_L1 HR1.out x5_1 p234 q234
        cases e234
        have HR234_0:=Aside0.mk hi234_0
        have HC234_0:=Aside0.mk hl234_0
        clear hi234_0 hl234_0
        replace p234:=eq_true p234
        replace q234:=eq_true q234
        go_wp2_with (first|(go_at_call 17;(with_reducible refine(outriggerref08_Ints.calls k1 _ _ (rd_L1 l0 x5_1) _ _ (rd_L1 l1 x5_1) true _ ?side1 ?side2 ?side3 ?side4 A7.out).mono ?_);(case side1=>first|exact HR233_0.out|exact kC HR233_0.out);(case side2=>exact HC233_0.out);(case side3=>first|exact HR234_0.out|exact kC HR234_0.out);(case side4=>exact HC234_0.out);rintro e w' ⟨rfl,⟨nd,rfl⟩⟩;(try first|exact⟨rfl,_,World.drewN_drewN _ _ _⟩|exact⟨rfl,_,Eq.trans (World.drewN_drewN _ _ _) (congrArg (World.drewN _) (Nat.add_assoc _ _ _))⟩)))
        repeat (go_quiet (first|(go_at_call 17;(with_reducible refine(outriggerref08_Ints.calls k1 _ _ (rd_L1 l0 x5_1) _ _ (rd_L1 l1 x5_1) true _ ?side1 ?side2 ?side3 ?side4 A7.out).mono ?_);(case side1=>first|exact HR233_0.out|exact kC HR233_0.out);(case side2=>exact HC233_0.out);(case side3=>first|exact HR234_0.out|exact kC HR234_0.out);(case side4=>exact HC234_0.out);rintro e w' ⟨rfl,⟨nd,rfl⟩⟩;(try first|exact⟨rfl,_,World.drewN_drewN _ _ _⟩|exact⟨rfl,_,Eq.trans (World.drewN_drewN _ _ _) (congrArg (World.drewN _) (Nat.add_assoc _ _ _))⟩)));try go_wp2_with (first|(go_at_call 17;(with_reducible refine(outriggerref08_Ints.calls k1 _ _ (rd_L1 l0 x5_1) _ _ (rd_L1 l1 x5_1) true _ ?side1 ?side2 ?side3 ?side4 A7.out).mono ?_);(case side1=>first|exact HR233_0.out|exact kC HR233_0.out);(case side2=>exact HC233_0.out);(case side3=>first|exact HR234_0.out|exact kC HR234_0.out);(case side4=>exact HC234_0.out);rintro e w' ⟨rfl,⟨nd,rfl⟩⟩;(try first|exact⟨rfl,_,World.drewN_drewN _ _ _⟩|exact⟨rfl,_,Eq.trans (World.drewN_drewN _ _ _) (congrArg (World.drewN _) (Nat.add_assoc _ _ _))⟩))))
        go_roundg k1
        case measure=>have:=HK1.out;omega
        case rel=>exact⟨(wrap64 (x5_1+1)),(by first|rfl|(simp;done)|(simp [*];done)),H',⟨by have:=HK1.out;omega⟩,by repeat (first|exact Drawn0.refl _|apply Drawn0.step)⟩
       ·replace c8:=Bool.eq_false_iff.mpr c8
        subst c8
        have H1:(some false)=some r:=by rw [if_neg (show ¬(false=true) by decide)] at H;exact H
        clear H
        have H:=H1
        clear H1
        obtain rfl:=Option.some.inj H
        have p233:0≤(x5_1:Int):=of_decide_eq_true (by first|(with_reducible assumption)|assumption)
        have q233:x5_1<(l0.length:Int):=of_decide_eq_true (by first|(with_reducible assumption)|assumption)
        obtain⟨ad233,A233_0,c233_0,e233,hx233_0,hl233_0,hi233_0⟩:=at_L1 HR0.out x5_1 p233 q233
        cases e233
        have HR233_0:=Aside0.mk hi233_0
        have HC233_0:=Aside0.mk hl233_0
        clear hi233_0 hl233_0
        replace p233:=eq_true p233
        replace q233:=eq_true q233
        have p234:0≤(x5_1:Int):=of_decide_eq_true (by first|(with_reducible assumption)|assumption)
        have q234:x5_1<(l1.length:Int):=of_decide_eq_true (by first|(with_reducible assumption)|assumption)
        obtain⟨ad234,A234_0,c234_0,e234,hx234_0,hl234_0,hi234_0⟩:=at_L1 HR1.out x5_1 p234 q234
        cases e234
        have HR234_0:=Aside0.mk hi234_0
        have HC234_0:=Aside0.mk hl234_0
        clear hi234_0 hl234_0
        replace p234:=eq_true p234
        replace q234:=eq_true q234
        go_wp2_with (first|(go_at_call 17;(with_reducible refine(outriggerref08_Ints.calls k1 _ _ (rd_L1 l0 x5_1) _ _ (rd_L1 l1 x5_1) false _ ?side1 ?side2 ?side3 ?side4 A7.out).mono ?_);(case side1=>first|exact HR233_0.out|exact kC HR233_0.out);(case side2=>exact HC233_0.out);(case side3=>first|exact HR234_0.out|exact kC HR234_0.out);(case side4=>exact HC234_0.out);rintro e w' ⟨rfl,⟨nd,rfl⟩⟩;(try first|exact⟨rfl,_,World.drewN_drewN _ _ _⟩|exact⟨rfl,_,Eq.trans (World.drewN_drewN _ _ _) (congrArg (World.drewN _) (Nat.add_assoc _ _ _))⟩)))
        repeat (go_quiet (first|(go_at_call 17;(with_reducible refine(outriggerref08_Ints.calls k1 _ _ (rd_L1 l0 x5_1) _ _ (rd_L1 l1 x5_1) false _ ?side1 ?side2 ?side3 ?side4 A7.out).mono ?_);(case side1=>first|exact HR233_0.out|exact kC HR233_0.out);(case side2=>exact HC233_0.out);(case side3=>first|exact HR234_0.out|exact kC HR234_0.out);(case side4=>exact HC234_0.out);rintro e w' ⟨rfl,⟨nd,rfl⟩⟩;(try first|exact⟨rfl,_,World.drewN_drewN _ _ _⟩|exact⟨rfl,_,Eq.trans (World.drewN_drewN _ _ _) (congrArg (World.drewN _) (Nat.add_assoc _ _ _))⟩)));try go_wp2_with (first|(go_at_call 17;(with_reducible refine(outriggerref08_Ints.calls k1 _ _ (rd_L1 l0 x5_1) _ _ (rd_L1 l1 x5_1) false _ ?side1 ?side2 ?side3 ?side4 A7.out).mono ?_);(case side1=>first|exact HR233_0.out|exact kC HR233_0.out);(case side2=>exact HC233_0.out);(case side3=>first|exact HR234_0.out|exact kC HR234_0.out);(case side4=>exact HC234_0.out);rintro e w' ⟨rfl,⟨nd,rfl⟩⟩;(try first|exact⟨rfl,_,World.drewN_drewN _ _ _⟩|exact⟨rfl,_,Eq.trans (World.drewN_drewN _ _ _) (congrArg (World.drewN _) (Nat.add_assoc _ _ _))⟩))))
        go_ret
        exact⟨by first|rfl|(simp;done)|(simp [*];done),by repeat (first|exact Drawn0.refl _|apply Drawn0.step)⟩
      ·rw [if_neg c6] at H
       exact absurd H (by simp)
     ·rw [if_neg c5] at H
      exact absurd H (by simp)
    ·rw [if_neg c4] at H
     have c4b0:decide (x5_1<(l0.length:Int))=false:=decide_eq_false c4
     clear c4
     obtain rfl:=Option.some.inj H
     go_wp2
     repeat (go_quiet (fail);try go_wp2)
     go_ret
     exact⟨by first|rfl|(simp;done)|(simp [*];done),by repeat (first|exact Drawn0.refl _|apply Drawn0.step)⟩
 ·rw [if_neg c3] at H
  have c3b0:((l0.length:Int) == (l1.length:Int))=false:=beq_eq_false_iff_ne.mpr c3
  have c3b1:((l0.length:Int) != (l1.length:Int))=true:=bne_iff_ne.mpr c3
  have c3b2:(l0.length == l1.length)=false:=by first|simpa using c3|(simp at c3 ⊢;omega)
  obtain rfl:=Option.some.inj H
  go_enter Try.func16,Try.ntmps16
  go_wp2
  repeat (go_quiet (fail);try go_wp2)
  go_ret
  exact⟨by first|rfl|(simp;done)|(simp [*];done),by repeat (first|exact Drawn0.refl _|apply Drawn0.step)⟩
def outriggerref08_Few.l0:Nat→List (List Int)→Int→Option (Bool)
  | 0,_,_=>none
  | k+1,x0,x3=>if x3<(x0.length:Int) then (if 0≤x3 then (if ((rd_L1 x0 x3).length:Int) > 20 then (some false) else (outriggerref08_Few.l0 k x0 (wrap64 (x3+1)))) else (none)) else (some (decide ((x0.length:Int)≤20)))
def outriggerref08_Few.f (k:Nat) (l0:List (List Int)):Option (Bool):=outriggerref08_Few.l0 k l0 0
set_option maxHeartbeats 8000000 in
set_option maxRecDepth 100000 in
theorem outriggerref08_Few.calls (k:Nat) (A0:Option Addr) (c0:Nat) (l0:List (List Int)) (r:Bool) (w:World) (hr0:Kd.C (Kd.slice 3 (Kd.int .i64)) w A0 l0.length l0) (hc0:l0.length≤c0) (h:outriggerref08_Few.f k l0=some r) :
  Calls Try.prog 9 #[.slice A0 l0.length c0] w fun e w'=>e=.returned (.bool r)∧Drawn0 w w':=by
 have HR0:=Aside0.mk hr0
 have HC0:=Aside0.mk hc0
 clear hr0 hc0
 have H:(outriggerref08_Few.l0 k l0 0)=some r:=h
 clear h
 have H':=Aside0.mk H
 clear H
 go_enter Try.func9,Try.ntmps9
 go_wp2
 go_loopg [3] k (fun kq v3 w'=>∃ (x3_1:Int),v3=.int .i64 x3_1∧Aside0 (outriggerref08_Few.l0 kq l0 x3_1=some r)∧Aside0 (kq≤k)∧Drawn0 w w')
 case atStart=>exact⟨(0),(by first|rfl|(simp;done)|(simp [*];done)),H',⟨Nat.le_refl _⟩,by repeat (first|exact Drawn0.refl _|apply Drawn0.step)⟩
 case round =>
  clear H'
  obtain⟨x3_1,rfl,HA,HK1,⟨m1,rfl⟩⟩:=hrel
  cases gk with
  | zero=>exact absurd HA.out (by simp [outriggerref08_Few.l0])
  | succ k1 =>
   have H:=HA.out
   clear HA
   simp only [outriggerref08_Few.l0] at H
   by_cases c2:x3_1<(l0.length:Int)
   ·rw [if_pos c2] at H
    have c2b0:decide (x3_1<(l0.length:Int))=true:=decide_eq_true c2
    clear c2
    by_cases c3:0≤x3_1
    ·rw [if_pos c3] at H
     have c3b0:decide (0≤x3_1)=true:=decide_eq_true c3
     clear c3
     by_cases c4:((rd_L1 l0 x3_1).length:Int) > 20
     ·rw [if_pos c4] at H
      have c4b0:decide (20<((rd_L1 l0 x3_1).length:Int))=true:=decide_eq_true c4
      have c4b1:decide (20<(rd_L1 l0 x3_1).length)=true:=decide_eq_true (by omega)
      clear c4
      obtain rfl:=Option.some.inj H
      have p325:0≤(x3_1:Int):=of_decide_eq_true (by first|(with_reducible assumption)|assumption)
      have q325:x3_1<(l0.length:Int):=of_decide_eq_true (by first|(with_reducible assumption)|assumption)
      obtain⟨ad325,A325_0,c325_0,e325,hx325_0,hl325_0,hi325_0⟩:=at_L1 HR0.out x3_1 p325 q325
      cases e325
      have HR325_0:=Aside0.mk hi325_0
      have HC325_0:=Aside0.mk hl325_0
      clear hi325_0 hl325_0
      replace p325:=eq_true p325
      replace q325:=eq_true q325
      go_wp2
      go_ret
      exact⟨by first|rfl|(simp;done)|(simp [*];done),by repeat (first|exact Drawn0.refl _|apply Drawn0.step)⟩
     ·rw [if_neg c4] at H
      have c4b0:decide (20<((rd_L1 l0 x3_1).length:Int))=false:=decide_eq_false c4
      have c4b1:decide (20<(rd_L1 l0 x3_1).length)=false:=decide_eq_false (by omega)
      clear c4
      have H':=Aside0.mk H
      clear H
      have p325:0≤(x3_1:Int):=of_decide_eq_true (by first|(with_reducible assumption)|assumption)
      have q325:x3_1<(l0.length:Int):=of_decide_eq_true (by first|(with_reducible assumption)|assumption)
      obtain⟨ad325,A325_0,c325_0,e325,hx325_0,hl325_0,hi325_0⟩:=at_L1 HR0.out x3_1 p325 q325
      cases e325
      have HR325_0:=Aside0.mk hi325_0
      have HC325_0:=Aside0.mk hl325_0
      clear hi325_0 hl325_0
      replace p325:=eq_true p325
      replace q325:=eq_true q325
      go_wp2
      go_roundg k1
      case measure=>have:=HK1.out;omega
      case rel=>exact⟨(wrap64 (x3_1+1)),(by first|rfl|(simp;done)|(simp [*];done)),H',⟨by have:=HK1.out;omega⟩,by repeat (first|exact Drawn0.refl _|apply Drawn0.step)⟩
    ·rw [if_neg c3] at H
     exact absurd H (by simp)
   ·rw [if_neg c2] at H
    have c2b0:decide (x3_1<(l0.length:Int))=false:=decide_eq_false c2
    clear c2
    obtain rfl:=Option.some.inj H
    go_wp2
    go_ret
    exact⟨by first|rfl|(simp;done)|(simp [*];done),by repeat (first|exact Drawn0.refl _|apply Drawn0.step)⟩
def outriggerref08_Sane.l0:Nat→List (List Int)→Int→Option (Bool)
  | 0,_,_=>none
  | k+1,x0,x3=>if x3<(x0.length:Int) then (if 0≤x3 then (if ((rd_L1 x0 x3).length:Int)=(x0.length:Int) then (outriggerref08_Sane.l0 k x0 (wrap64 (x3+1))) else (some false)) else (none)) else (if (x0.length:Int) ≥ 1 then (some (decide ((x0.length:Int)≤6))) else (some false))
def outriggerref08_Sane.f (k:Nat) (l0:List (List Int)):Option (Bool):=outriggerref08_Sane.l0 k l0 0
set_option maxHeartbeats 8000000 in
set_option maxRecDepth 100000 in
theorem outriggerref08_Sane.calls (k:Nat) (A0:Option Addr) (c0:Nat) (l0:List (List Int)) (r:Bool) (w:World) (hr0:Kd.C (Kd.slice 3 (Kd.int .i64)) w A0 l0.length l0) (hc0:l0.length≤c0) (h:outriggerref08_Sane.f k l0=some r) :
  Calls Try.prog 19 #[.slice A0 l0.length c0] w fun e w'=>e=.returned (.bool r)∧Drawn0 w w':=by
 have HR0:=Aside0.mk hr0
 have HC0:=Aside0.mk hc0
 clear hr0 hc0
 have H:(outriggerref08_Sane.l0 k l0 0)=some r:=h
 clear h
 have H':=Aside0.mk H
 clear H
 go_enter Try.func19,Try.ntmps19
 go_wp2
 go_loopg [3] k (fun kq v3 w'=>∃ (x3_1:Int),v3=.int .i64 x3_1∧Aside0 (outriggerref08_Sane.l0 kq l0 x3_1=some r)∧Aside0 (kq≤k)∧Drawn0 w w')
 case atStart=>exact⟨(0),(by first|rfl|(simp;done)|(simp [*];done)),H',⟨Nat.le_refl _⟩,by repeat (first|exact Drawn0.refl _|apply Drawn0.step)⟩
 case round =>
  clear H'
  try clear c1
  obtain⟨x3_1,rfl,HA,HK1,⟨m1,rfl⟩⟩:=hrel
  cases gk with
  | zero=>exact absurd HA.out (by simp [outriggerref08_Sane.l0])
  | succ k1 =>
   have H:=HA.out
   clear HA
   simp only [outriggerref08_Sane.l0] at H
   by_cases c2:x3_1<(l0.length:Int)
   ·rw [if_pos c2] at H
    have c2b0:decide (x3_1<(l0.length:Int))=true:=decide_eq_true c2
    clear c2
    by_cases c3:0≤x3_1
    ·rw [if_pos c3] at H
     have c3b0:decide (0≤x3_1)=true:=decide_eq_true c3
     clear c3
     by_cases c4:((rd_L1 l0 x3_1).length:Int)=(l0.length:Int)
     ·rw [if_pos c4] at H
      have c4b0:(((rd_L1 l0 x3_1).length:Int) == (l0.length:Int))=true:=beq_iff_eq.mpr c4
      have c4b1:(((rd_L1 l0 x3_1).length:Int) != (l0.length:Int))=false:=bne_eq_false_iff_eq.mpr c4
      have c4b2:((rd_L1 l0 x3_1).length == l0.length)=true:=by first|simpa using c4|(simp at c4 ⊢;omega)
      clear c4
      have H':=Aside0.mk H
      clear H
      have p326:0≤(x3_1:Int):=of_decide_eq_true (by first|(with_reducible assumption)|assumption)
      have q326:x3_1<(l0.length:Int):=of_decide_eq_true (by first|(with_reducible assumption)|assumption)
      obtain⟨ad326,A326_0,c326_0,e326,hx326_0,hl326_0,hi326_0⟩:=at_L1 HR0.out x3_1 p326 q326
      cases e326
      have HR326_0:=Aside0.mk hi326_0
      have HC326_0:=Aside0.mk hl326_0
      clear hi326_0 hl326_0
      replace p326:=eq_true p326
      replace q326:=eq_true q326
      go_wp2
      go_roundg k1
      case measure=>have:=HK1.out;omega
      case rel=>exact⟨(wrap64 (x3_1+1)),(by first|rfl|(simp;done)|(simp [*];done)),H',⟨by have:=HK1.out;omega⟩,by repeat (first|exact Drawn0.refl _|apply Drawn0.step)⟩
     ·rw [if_neg c4] at H
      have c4b0:(((rd_L1 l0 x3_1).length:Int) == (l0.length:Int))=false:=beq_eq_false_iff_ne.mpr c4
      have c4b1:(((rd_L1 l0 x3_1).length:Int) != (l0.length:Int))=true:=bne_iff_ne.mpr c4
      have c4b2:((rd_L1 l0 x3_1).length == l0.length)=false:=by first|simpa using c4|(simp at c4 ⊢;omega)
      obtain rfl:=Option.some.inj H
      have p326:0≤(x3_1:Int):=of_decide_eq_true (by first|(with_reducible assumption)|assumption)
      have q326:x3_1<(l0.length:Int):=of_decide_eq_true (by first|(with_reducible assumption)|assumption)
      obtain⟨ad326,A326_0,c326_0,e326,hx326_0,hl326_0,hi326_0⟩:=at_L1 HR0.out x3_1 p326 q326
      cases e326
      have HR326_0:=Aside0.mk hi326_0
      have HC326_0:=Aside0.mk hl326_0
      clear hi326_0 hl326_0
      replace p326:=eq_true p326
      replace q326:=eq_true q326
      go_wp2
      go_ret
      exact⟨by first|rfl|(simp;done)|(simp [*];done),by repeat (first|exact Drawn0.refl _|apply Drawn0.step)⟩
    ·rw [if_neg c3] at H
     exact absurd H (by simp)
   ·rw [if_neg c2] at H
    have c2b0:decide (x3_1<(l0.length:Int))=false:=decide_eq_false c2
    clear c2
    by_cases c5:(l0.length:Int) ≥ 1
    ·rw [if_pos c5] at H
     have c5b0:decide (1≤(l0.length:Int))=true:=decide_eq_true c5
     have c5b1:decide (1≤l0.length)=true:=decide_eq_true (by omega)
     clear c5
     obtain rfl:=Option.some.inj H
     go_wp2
     go_ret
     exact⟨by first|rfl|(simp;done)|(simp [*];done),by repeat (first|exact Drawn0.refl _|apply Drawn0.step)⟩
    ·rw [if_neg c5] at H
     have c5b0:decide (1≤(l0.length:Int))=false:=decide_eq_false c5
     have c5b1:decide (1≤l0.length)=false:=decide_eq_false (by omega)
     clear c5
     obtain rfl:=Option.some.inj H
     go_wp2
     go_ret
     exact⟨by first|rfl|(simp;done)|(simp [*];done),by repeat (first|exact Drawn0.refl _|apply Drawn0.step)⟩
def outriggerref08_both.f (k:Nat) (l0:List (List Int)) (l1:List (List Int)):Option (Bool):=(outriggerref08_Sane.f k l0).bind fun t327=>(if t327=true then ((outriggerref08_Sane.f k l1).bind fun t328=>(if t328=true then (some ((l0.length:Int) == (l1.length:Int))) else (some false))) else (some false))
set_option maxHeartbeats 8000000 in
set_option maxRecDepth 100000 in
theorem outriggerref08_both.calls (k:Nat) (A0:Option Addr) (c0:Nat) (l0:List (List Int)) (A1:Option Addr) (c1:Nat) (l1:List (List Int)) (r:Bool) (w:World) (hr0:Kd.C (Kd.slice 3 (Kd.int .i64)) w A0 l0.length l0) (hc0:l0.length≤c0) (hr1:Kd.C (Kd.slice 3 (Kd.int .i64)) w A1 l1.length l1) (hc1:l1.length≤c1) (h:outriggerref08_both.f k l0 l1=some r) :
  Calls Try.prog 30 #[.slice A0 l0.length c0,.slice A1 l1.length c1] w fun e w'=>e=.returned (.bool r)∧Drawn0 w w':=by
 have HR0:=Aside0.mk hr0
 have HC0:=Aside0.mk hc0
 clear hr0 hc0
 have HR1:=Aside0.mk hr1
 have HC1:=Aside0.mk hc1
 clear hr1 hc1
 have H:((outriggerref08_Sane.f k l0).bind fun t327=>(if t327=true then ((outriggerref08_Sane.f k l1).bind fun t328=>(if t328=true then (some ((l0.length:Int) == (l1.length:Int))) else (some false))) else (some false)))=some r:=h
 clear h
 replace H:=Option.bind_eq_some_iff.mp H
 obtain⟨t327,A30,H⟩:=H
 replace H:(if t327=true then ((outriggerref08_Sane.f k l1).bind fun t328=>(if t328=true then (some ((l0.length:Int) == (l1.length:Int))) else (some false))) else (some false))=some r:=H
 have A3:=Aside0.mk A30
 clear A30
 by_cases c4:t327=true
 ·subst c4
  have H1:((outriggerref08_Sane.f k l1).bind fun t328=>(if t328=true then (some ((l0.length:Int) == (l1.length:Int))) else (some false)))=some r:=by rw [if_pos rfl] at H;exact H
  clear H
  have H:=H1
  clear H1
  replace H:=Option.bind_eq_some_iff.mp H
  obtain⟨t328,A50,H⟩:=H
  replace H:(if t328=true then (some ((l0.length:Int) == (l1.length:Int))) else (some false))=some r:=H
  have A5:=Aside0.mk A50
  clear A50
  by_cases c6:t328=true
  ·subst c6
   have H1:(some ((l0.length:Int) == (l1.length:Int)))=some r:=by rw [if_pos rfl] at H;exact H
   clear H
   have H:=H1
   clear H1
   obtain rfl:=Option.some.inj H
   go_enter Try.func30,Try.ntmps30
   go_wp2_with (first|((with_reducible refine gate_callee (f:=19) rfl ?_);refine goesL_ (some 6) rfl rfl Try.func19 (by kernel_rfl) rfl #[.slice A0 l0.length c0] rfl (by exact mA _ _) ?_;(with_reducible refine(outriggerref08_Sane.calls k _ _ l0 true _ ?side1 ?side2 A3.out).mono ?_);(case side1=>first|exact HR0.out|exact kC HR0.out);(case side2=>exact HC0.out);rintro e w' ⟨rfl,⟨nd,rfl⟩⟩;refine⟨_,rfl,?_⟩)|(go_at_call 19;(with_reducible refine(outriggerref08_Sane.calls k _ _ l1 true _ ?side1 ?side2 A5.out).mono ?_);(case side1=>first|exact HR1.out|exact kC HR1.out);(case side2=>exact HC1.out);rintro e w' ⟨rfl,⟨nd,rfl⟩⟩))
   go_ret
   exact⟨by first|rfl|(simp;done)|(simp [*];done),by repeat (first|exact Drawn0.refl _|apply Drawn0.step)⟩
  ·replace c6:=Bool.eq_false_iff.mpr c6
   subst c6
   have H1:(some false)=some r:=by rw [if_neg (show ¬(false=true) by decide)] at H;exact H
   clear H
   have H:=H1
   clear H1
   obtain rfl:=Option.some.inj H
   go_enter Try.func30,Try.ntmps30
   go_wp2_with (first|((with_reducible refine gate_callee (f:=19) rfl ?_);refine goesL_ (some 6) rfl rfl Try.func19 (by kernel_rfl) rfl #[.slice A0 l0.length c0] rfl (by exact mA _ _) ?_;(with_reducible refine(outriggerref08_Sane.calls k _ _ l0 true _ ?side1 ?side2 A3.out).mono ?_);(case side1=>first|exact HR0.out|exact kC HR0.out);(case side2=>exact HC0.out);rintro e w' ⟨rfl,⟨nd,rfl⟩⟩;refine⟨_,rfl,?_⟩)|(go_at_call 19;(with_reducible refine(outriggerref08_Sane.calls k _ _ l1 false _ ?side1 ?side2 A5.out).mono ?_);(case side1=>first|exact HR1.out|exact kC HR1.out);(case side2=>exact HC1.out);rintro e w' ⟨rfl,⟨nd,rfl⟩⟩))
   go_ret
   exact⟨by first|rfl|(simp;done)|(simp [*];done),by repeat (first|exact Drawn0.refl _|apply Drawn0.step)⟩
 ·replace c4:=Bool.eq_false_iff.mpr c4
  subst c4
  have H1:(some false)=some r:=by rw [if_neg (show ¬(false=true) by decide)] at H;exact H
  clear H
  have H:=H1
  clear H1
  obtain rfl:=Option.some.inj H
  go_enter Try.func30,Try.ntmps30
  go_wp2_with (first|((with_reducible refine gate_callee (f:=19) rfl ?_);refine goesL_ (some 6) rfl rfl Try.func19 (by kernel_rfl) rfl #[.slice A0 l0.length c0] rfl (by exact mA _ _) ?_;(with_reducible refine(outriggerref08_Sane.calls k _ _ l0 false _ ?side1 ?side2 A3.out).mono ?_);(case side1=>first|exact HR0.out|exact kC HR0.out);(case side2=>exact HC0.out);rintro e w' ⟨rfl,⟨nd,rfl⟩⟩;refine⟨_,rfl,?_⟩))
  go_ret
  exact⟨by first|rfl|(simp;done)|(simp [*];done),by repeat (first|exact Drawn0.refl _|apply Drawn0.step)⟩
def outriggerref01_Clamp.f (a0:Int):Option (Int × Bool):=if a0 > 288230376151711744 then (some (288230376151711744,true)) else (if a0<(-288230376151711744) then (some ((-288230376151711744),true)) else (some (a0,false)))
set_option maxHeartbeats 8000000 in
set_option maxRecDepth 100000 in
theorem outriggerref01_Clamp.calls (a0:Int) (r1:Int) (r2:Bool) (w:World) (h:outriggerref01_Clamp.f a0=some (r1,r2)) :
  Calls Try.prog 51 #[.int .i64 a0] w fun e w'=>e=.returned (.tuple #[.int .i64 r1,.bool r2])∧Drawn0 w w':=by
 have H:(if a0 > 288230376151711744 then (some (288230376151711744,true)) else (if a0<(-288230376151711744) then (some ((-288230376151711744),true)) else (some (a0,false))))=some (r1,r2):=h
 clear h
 by_cases c2:a0 > 288230376151711744
 ·rw [if_pos c2] at H
  have c2b0:decide (288230376151711744<a0)=true:=decide_eq_true c2
  clear c2
  simp only [Option.some.injEq,Prod.mk.injEq] at H
  obtain⟨rfl,rfl⟩:=H
  go_enter Try.func51,Try.ntmps51
  go_wp2
  go_ret2
  exact⟨by first|rfl|(simp;done)|(simp [*];done),by repeat (first|exact Drawn0.refl _|apply Drawn0.step)⟩
 ·rw [if_neg c2] at H
  have c2b0:decide (288230376151711744<a0)=false:=decide_eq_false c2
  clear c2
  by_cases c3:a0<(-288230376151711744)
  ·rw [if_pos c3] at H
   have c3b0:decide (a0<(-288230376151711744))=true:=decide_eq_true c3
   clear c3
   simp only [Option.some.injEq,Prod.mk.injEq] at H
   obtain⟨rfl,rfl⟩:=H
   go_enter Try.func51,Try.ntmps51
   go_wp2
   go_ret2
   exact⟨by first|rfl|(simp;done)|(simp [*];done),by repeat (first|exact Drawn0.refl _|apply Drawn0.step)⟩
  ·rw [if_neg c3] at H
   have c3b0:decide (a0<(-288230376151711744))=false:=decide_eq_false c3
   clear c3
   simp only [Option.some.injEq,Prod.mk.injEq] at H
   obtain⟨rfl,rfl⟩:=H
   go_enter Try.func51,Try.ntmps51
   go_wp2
   go_ret2
   exact⟨by first|rfl|(simp;done)|(simp [*];done),by repeat (first|exact Drawn0.refl _|apply Drawn0.step)⟩
def outriggerref01_Add.f (a0:Int) (a1:Int):Option (Int × Bool):=(outriggerref01_Clamp.f a0).bind fun bt329=>((outriggerref01_Clamp.f a1).bind fun bt331=>((outriggerref01_Clamp.f (wrap64 (bt329.1+bt331.1))).bind fun bt333=>(if bt329.2=true then (some (bt333.1,true)) else (if bt331.2=true then (some (bt333.1,true)) else (some (bt333.1,bt333.2))))))
set_option maxHeartbeats 8000000 in
set_option maxRecDepth 100000 in
theorem outriggerref01_Add.calls (a0:Int) (a1:Int) (r1:Int) (r2:Bool) (w:World) (h:outriggerref01_Add.f a0 a1=some (r1,r2)) :
  Calls Try.prog 31 #[.int .i64 a0,.int .i64 a1] w fun e w'=>e=.returned (.tuple #[.int .i64 r1,.bool r2])∧Drawn0 w w':=by
 have H:((outriggerref01_Clamp.f a0).bind fun bt329=>((outriggerref01_Clamp.f a1).bind fun bt331=>((outriggerref01_Clamp.f (wrap64 (bt329.1+bt331.1))).bind fun bt333=>(if bt329.2=true then (some (bt333.1,true)) else (if bt331.2=true then (some (bt333.1,true)) else (some (bt333.1,bt333.2)))))))=some (r1,r2):=h
 clear h
 replace H:=Option.bind_eq_some_iff.mp H
 obtain⟨⟨t329,t330⟩,A30,H⟩:=H
 replace H:((outriggerref01_Clamp.f a1).bind fun bt331=>((outriggerref01_Clamp.f (wrap64 (t329+bt331.1))).bind fun bt333=>(if t330=true then (some (bt333.1,true)) else (if bt331.2=true then (some (bt333.1,true)) else (some (bt333.1,bt333.2))))))=some (r1,r2):=H
 have A3:=Aside0.mk A30
 clear A30
 replace H:=Option.bind_eq_some_iff.mp H
 obtain⟨⟨t331,t332⟩,A40,H⟩:=H
 replace H:((outriggerref01_Clamp.f (wrap64 (t329+t331))).bind fun bt333=>(if t330=true then (some (bt333.1,true)) else (if t332=true then (some (bt333.1,true)) else (some (bt333.1,bt333.2)))))=some (r1,r2):=H
 have A4:=Aside0.mk A40
 clear A40
 replace H:=Option.bind_eq_some_iff.mp H
 obtain⟨⟨t333,t334⟩,A50,H⟩:=H
 replace H:(if t330=true then (some (t333,true)) else (if t332=true then (some (t333,true)) else (some (t333,t334))))=some (r1,r2):=H
 have A5:=Aside0.mk A50
 clear A50
 by_cases c6:t330=true
 ·subst c6
  have H1:(some (t333,true))=some (r1,r2):=by rw [if_pos rfl] at H;exact H
  clear H
  have H:=H1
  clear H1
  simp only [Option.some.injEq,Prod.mk.injEq] at H
  obtain⟨rfl,rfl⟩:=H
  go_enter Try.func31,Try.ntmps31
  go_wp2_with (first|((with_reducible refine gate_callee (f:=51) rfl ?_);refine goesL_ (some 14) rfl rfl Try.func51 (by kernel_rfl) rfl #[.int .i64 a0] rfl (by exact mA _ _) ?_;(with_reducible refine(outriggerref01_Clamp.calls a0 t329 true _ A3.out).mono ?_);rintro e w' ⟨rfl,⟨nd,rfl⟩⟩;refine⟨_,rfl,?_⟩)|((with_reducible refine gate_callee (f:=51) rfl ?_);refine goesL_ (some 19) rfl rfl Try.func51 (by kernel_rfl) rfl #[.int .i64 a1] rfl (by exact mA _ _) ?_;(with_reducible refine(outriggerref01_Clamp.calls a1 t331 t332 _ A4.out).mono ?_);rintro e w' ⟨rfl,⟨nd,rfl⟩⟩;refine⟨_,rfl,?_⟩)|((with_reducible refine gate_callee (f:=51) rfl ?_);refine goesL_ (some 26) rfl rfl Try.func51 (by kernel_rfl) rfl #[.int .i64 (wrap64 (t329+t331))] rfl (by exact mA _ _) ?_;(with_reducible refine(outriggerref01_Clamp.calls (wrap64 (t329+t331)) t333 t334 _ A5.out).mono ?_);rintro e w' ⟨rfl,⟨nd,rfl⟩⟩;refine⟨_,rfl,?_⟩))
  go_ret2
  exact⟨by first|rfl|(simp;done)|(simp [*];done),by repeat (first|exact Drawn0.refl _|apply Drawn0.step)⟩
 ·replace c6:=Bool.eq_false_iff.mpr c6
  subst c6
  have H1:(if t332=true then (some (t333,true)) else (some (t333,t334)))=some (r1,r2):=by rw [if_neg (show ¬(false=true) by decide)] at H;exact H
  clear H
  have H:=H1
  clear H1
  by_cases c7:t332=true
  ·subst c7
   have H1:(some (t333,true))=some (r1,r2):=by rw [if_pos rfl] at H;exact H
   clear H
   have H:=H1
   clear H1
   simp only [Option.some.injEq,Prod.mk.injEq] at H
   obtain⟨rfl,rfl⟩:=H
   go_enter Try.func31,Try.ntmps31
   go_wp2_with (first|((with_reducible refine gate_callee (f:=51) rfl ?_);refine goesL_ (some 14) rfl rfl Try.func51 (by kernel_rfl) rfl #[.int .i64 a0] rfl (by exact mA _ _) ?_;(with_reducible refine(outriggerref01_Clamp.calls a0 t329 false _ A3.out).mono ?_);rintro e w' ⟨rfl,⟨nd,rfl⟩⟩;refine⟨_,rfl,?_⟩)|((with_reducible refine gate_callee (f:=51) rfl ?_);refine goesL_ (some 19) rfl rfl Try.func51 (by kernel_rfl) rfl #[.int .i64 a1] rfl (by exact mA _ _) ?_;(with_reducible refine(outriggerref01_Clamp.calls a1 t331 true _ A4.out).mono ?_);rintro e w' ⟨rfl,⟨nd,rfl⟩⟩;refine⟨_,rfl,?_⟩)|((with_reducible refine gate_callee (f:=51) rfl ?_);refine goesL_ (some 26) rfl rfl Try.func51 (by kernel_rfl) rfl #[.int .i64 (wrap64 (t329+t331))] rfl (by exact mA _ _) ?_;(with_reducible refine(outriggerref01_Clamp.calls (wrap64 (t329+t331)) t333 t334 _ A5.out).mono ?_);rintro e w' ⟨rfl,⟨nd,rfl⟩⟩;refine⟨_,rfl,?_⟩))
   go_ret2
   exact⟨by first|rfl|(simp;done)|(simp [*];done),by repeat (first|exact Drawn0.refl _|apply Drawn0.step)⟩
  ·replace c7:=Bool.eq_false_iff.mpr c7
   subst c7
   have H1:(some (t333,t334))=some (r1,r2):=by rw [if_neg (show ¬(false=true) by decide)] at H;exact H
   clear H
   have H:=H1
   clear H1
   simp only [Option.some.injEq,Prod.mk.injEq] at H
   obtain⟨rfl,rfl⟩:=H
   go_enter Try.func31,Try.ntmps31
   go_wp2_with (first|((with_reducible refine gate_callee (f:=51) rfl ?_);refine goesL_ (some 14) rfl rfl Try.func51 (by kernel_rfl) rfl #[.int .i64 a0] rfl (by exact mA _ _) ?_;(with_reducible refine(outriggerref01_Clamp.calls a0 t329 false _ A3.out).mono ?_);rintro e w' ⟨rfl,⟨nd,rfl⟩⟩;refine⟨_,rfl,?_⟩)|((with_reducible refine gate_callee (f:=51) rfl ?_);refine goesL_ (some 19) rfl rfl Try.func51 (by kernel_rfl) rfl #[.int .i64 a1] rfl (by exact mA _ _) ?_;(with_reducible refine(outriggerref01_Clamp.calls a1 t331 false _ A4.out).mono ?_);rintro e w' ⟨rfl,⟨nd,rfl⟩⟩;refine⟨_,rfl,?_⟩)|((with_reducible refine gate_callee (f:=51) rfl ?_);refine goesL_ (some 26) rfl rfl Try.func51 (by kernel_rfl) rfl #[.int .i64 (wrap64 (t329+t331))] rfl (by exact mA _ _) ?_;(with_reducible refine(outriggerref01_Clamp.calls (wrap64 (t329+t331)) t333 t334 _ A5.out).mono ?_);rintro e w' ⟨rfl,⟨nd,rfl⟩⟩;refine⟨_,rfl,?_⟩))
   go_ret2
   exact⟨by first|rfl|(simp;done)|(simp [*];done),by repeat (first|exact Drawn0.refl _|apply Drawn0.step)⟩
mutual
def outriggerref08_Add.l0:Nat→List (List Int)→List (List Int)→List (List Int)→Bool→Int→Option ((List (List Int)) × Bool)
  | 0,_,_,_,_,_=>none
  | k+1,x0,x1,x6,x7,x8=>if x8<(x0.length:Int) then (outriggerref08_Add.l1 k x0 x1 x6 x7 x8 ([]:List Int) 0) else (some (x6,x7))
def outriggerref08_Add.l1:Nat→List (List Int)→List (List Int)→List (List Int)→Bool→Int→List Int→Int→Option ((List (List Int)) × Bool)
  | 0,_,_,_,_,_,_,_=>none
  | k+1,x0,x1,x6,x7,x8,x9,x10=>if x10<(x0.length:Int) then (if 0≤x8 then (if x8<(x0.length:Int) then (if 0≤x10 then (if x10<((rd_L1 x0 x8).length:Int) then (if x8<(x1.length:Int) then (if x10<((rd_L1 x1 x8).length:Int) then ((outriggerref01_Add.f (rd (rd_L1 x0 x8) x10) (rd (rd_L1 x1 x8) x10)).bind fun bt340=>(if x9.length<17592186044416 then ((some (x9++[bt340.1]:List Int)).bind fun y342=>(if x7=true then (outriggerref08_Add.l1 k x0 x1 x6 true x8 y342 (wrap64 (x10+1))) else (outriggerref08_Add.l1 k x0 x1 x6 bt340.2 x8 y342 (wrap64 (x10+1))))) else (none))) else (none)) else (none)) else (none)) else (none)) else (none)) else (none)) else (if x6.length<5864062014805 then (outriggerref08_Add.l0 k x0 x1 (x6++[x9]) x7 (wrap64 (x8+1))) else (none))
end
def outriggerref08_Add.f (k:Nat) (l0:List (List Int)) (l1:List (List Int)):Option ((List (List Int)) × Bool):=(outriggerref08_both.f k l0 l1).bind fun t335=>(if t335=true then (outriggerref08_Add.l0 k l0 l1 ([]:List (List Int)) false 0) else (some (([]:List (List Int)),true)))
set_option maxHeartbeats 8000000 in
set_option maxRecDepth 100000 in
theorem outriggerref08_Add.calls (k:Nat) (A0:Option Addr) (c0:Nat) (l0:List (List Int)) (A1:Option Addr) (c1:Nat) (l1:List (List Int)) (r1:List (List Int)) (r2:Bool) (w:World) (hr0:Kd.C (Kd.slice 3 (Kd.int .i64)) w A0 l0.length l0) (hc0:l0.length≤c0) (hr1:Kd.C (Kd.slice 3 (Kd.int .i64)) w A1 l1.length l1) (hc1:l1.length≤c1) (h:outriggerref08_Add.f k l0 l1=some (r1,r2)) :
  Calls Try.prog 11 #[.slice A0 l0.length c0,.slice A1 l1.length c1] w fun e w'=>∃ v0_:Value,e=.returned (.tuple #[v0_,.bool r2])∧Kd.S (Kd.slice 3 (Kd.int .i64)) 23 w' w.heap.size (fun _=>True) v0_ r1∧Below w.heap.size w w':=by
 have HR0:=Aside0.mk hr0
 have HC0:=Aside0.mk hc0
 clear hr0 hc0
 have HR1:=Aside0.mk hr1
 have HC1:=Aside0.mk hc1
 clear hr1 hc1
 have HB:=Aside0.mk (Below.refl w.heap.size w)
 have H:((outriggerref08_both.f k l0 l1).bind fun t335=>(if t335=true then (outriggerref08_Add.l0 k l0 l1 ([]:List (List Int)) false 0) else (some (([]:List (List Int)),true))))=some (r1,r2):=h
 clear h
 replace H:=Option.bind_eq_some_iff.mp H
 obtain⟨t335,A30,H⟩:=H
 replace H:(if t335=true then (outriggerref08_Add.l0 k l0 l1 ([]:List (List Int)) false 0) else (some (([]:List (List Int)),true)))=some (r1,r2):=H
 have A3:=Aside0.mk A30
 clear A30
 by_cases c4:t335=true
 ·subst c4
  have H1:(outriggerref08_Add.l0 k l0 l1 ([]:List (List Int)) false 0)=some (r1,r2):=by rw [if_pos rfl] at H;exact H
  clear H
  have H:=H1
  clear H1
  have H':=Aside0.mk H
  clear H
  go_enter Try.func11,Try.ntmps11
  go_wp2_with (first|(go_at_call 30;(with_reducible refine(outriggerref08_both.calls k _ _ l0 _ _ l1 true _ ?side1 ?side2 ?side3 ?side4 A3.out).mono ?_);(case side1=>first|exact HR0.out|exact kC HR0.out);(case side2=>exact HC0.out);(case side3=>first|exact HR1.out|exact kC HR1.out);(case side4=>exact HC1.out);rintro e w' ⟨rfl,⟨nd,rfl⟩⟩;(try first|exact⟨rfl,_,World.drewN_drewN _ _ _⟩|exact⟨rfl,_,Eq.trans (World.drewN_drewN _ _ _) (congrArg (World.drewN _) (Nat.add_assoc _ _ _))⟩)))
  repeat (go_quiet (first|(go_at_call 30;(with_reducible refine(outriggerref08_both.calls k _ _ l0 _ _ l1 true _ ?side1 ?side2 ?side3 ?side4 A3.out).mono ?_);(case side1=>first|exact HR0.out|exact kC HR0.out);(case side2=>exact HC0.out);(case side3=>first|exact HR1.out|exact kC HR1.out);(case side4=>exact HC1.out);rintro e w' ⟨rfl,⟨nd,rfl⟩⟩;(try first|exact⟨rfl,_,World.drewN_drewN _ _ _⟩|exact⟨rfl,_,Eq.trans (World.drewN_drewN _ _ _) (congrArg (World.drewN _) (Nat.add_assoc _ _ _))⟩)));try go_wp2_with (first|(go_at_call 30;(with_reducible refine(outriggerref08_both.calls k _ _ l0 _ _ l1 true _ ?side1 ?side2 ?side3 ?side4 A3.out).mono ?_);(case side1=>first|exact HR0.out|exact kC HR0.out);(case side2=>exact HC0.out);(case side3=>first|exact HR1.out|exact kC HR1.out);(case side4=>exact HC1.out);rintro e w' ⟨rfl,⟨nd,rfl⟩⟩;(try first|exact⟨rfl,_,World.drewN_drewN _ _ _⟩|exact⟨rfl,_,Eq.trans (World.drewN_drewN _ _ _) (congrArg (World.drewN _) (Nat.add_assoc _ _ _))⟩))))
  go_loopg [6,7,8] k (fun kq v6 v7 v8 w'=>∃ (x6_1:List (List Int)) (x7_1:Bool) (x8_1:Int),v7=.bool x7_1∧v8=.int .i64 x8_1∧Aside0 (outriggerref08_Add.l0 kq l0 l1 x6_1 x7_1 x8_1=some (r1,r2))∧Aside0 (kq≤k)∧Aside0 (Kd.S (Kd.slice 3 (Kd.int .i64)) 23 w' w.heap.size (fun _=>True) v6 x6_1)∧Aside0 (Below w.heap.size w w'))
  case atStart=>exact⟨(([]:List (List Int))),(false),(0),(by first|rfl|(simp;done)|(simp [*];done)),(by first|rfl|(simp;done)|(simp [*];done)),H',⟨Nat.le_refl _⟩,⟨by first|exact Kd.S_nil _ _ _ _ _|exact Kd.N_nil _ _ _ _ _|exact Kd.V_nil _ _ _ _ _|exact Kd.Q_nil _ _ _ _ _|exact Kd.R_nil _ _ _ _ _⟩,⟨by first|with_reducible exact HB.out|exact bl HB⟩⟩
  case round =>
   clear H'
   try clear c1
   try clear p2
   try clear c4
   obtain⟨x6_1,x7_1,x8_1,rfl,rfl,HA,HK1,HO_6,HB⟩:=hrel
   cases gk with
   | zero=>exact absurd HA.out (by simp [outriggerref08_Add.l0])
   | succ k1 =>
    have H:=HA.out
    clear HA
    simp only [outriggerref08_Add.l0] at H
    by_cases c5:x8_1<(l0.length:Int)
    ·rw [if_pos c5] at H
     have c5b0:decide (x8_1<(l0.length:Int))=true:=decide_eq_true c5
     clear c5
     have H':=Aside0.mk H
     clear H
     go_wp2
     repeat (go_quiet (fail);try go_wp2)
     go_loopg [7,9,10] k1 (fun kq v7 v9 v10 w'=>∃ (x7_2:Bool) (x9_2:List Int) (x10_2:Int),v7=.bool x7_2∧v10=.int .i64 x10_2∧Aside0 (outriggerref08_Add.l1 kq l0 l1 x6_1 x7_2 x8_1 x9_2 x10_2=some (r1,r2))∧Aside0 (kq≤k1)∧Aside0 (Kd.S (Kd.slice 3 (Kd.int .i64)) 23 w' w.heap.size (fun k_=>some k_≠(v9:Value).ownBlock) u6 x6_1)∧Aside0 (Kd.R (Kd.int .i64) 3 w' w.heap.size (fun _=>True) v9 x9_2)∧Aside0 (Below w.heap.size w w'))
     case atStart=>exact⟨(x7_1),(([]:List Int)),(0),(by first|rfl|(simp;done)|(simp [*];done)),(by first|rfl|(simp;done)|(simp [*];done)),H',⟨Nat.le_refl _⟩,⟨by (with_reducible repeat (first|apply Kd.S_alloc|apply Kd.S_drewN|apply Kd.S_drew));exact Kd.S_mono HO_6.out (fun _ hk=>(by simp [Value.ownBlock]))⟩,⟨by first|exact Kd.R_nil _ _ _ _ _|exact Kd.N_nil _ _ _ _ _|exact Kd.V_nil _ _ _ _ _|exact Kd.Q_nil _ _ _ _ _|exact Kd.S_nil _ _ _ _ _⟩,⟨by first|with_reducible exact HB.out|exact bl HB⟩⟩
     case round =>
      clear H'
      try clear c1
      try clear p2
      try clear c4
      try clear c5
      try clear c5b0
      try clear p2
      obtain⟨x7_2,x9_2,x10_2,rfl,rfl,HA,HK2,HO_6,HO_9,HB⟩:=hrel
      cases gk with
      | zero=>exact absurd HA.out (by simp [outriggerref08_Add.l1])
      | succ k2 =>
       have H:=HA.out
       clear HA
       simp only [outriggerref08_Add.l1] at H
       by_cases c6:x10_2<(l0.length:Int)
       ·rw [if_pos c6] at H
        have c6b0:decide (x10_2<(l0.length:Int))=true:=decide_eq_true c6
        clear c6
        by_cases c7:0≤x8_1
        ·rw [if_pos c7] at H
         have c7b0:decide (0≤x8_1)=true:=decide_eq_true c7
         clear c7
         by_cases c8:x8_1<(l0.length:Int)
         ·rw [if_pos c8] at H
          have c8b0:decide (x8_1<(l0.length:Int))=true:=decide_eq_true c8
          clear c8
          by_cases c9:0≤x10_2
          ·rw [if_pos c9] at H
           have c9b0:decide (0≤x10_2)=true:=decide_eq_true c9
           clear c9
           by_cases c10:x10_2<((rd_L1 l0 x8_1).length:Int)
           ·rw [if_pos c10] at H
            have c10b0:decide (x10_2<((rd_L1 l0 x8_1).length:Int))=true:=decide_eq_true c10
            clear c10
            by_cases c11:x8_1<(l1.length:Int)
            ·rw [if_pos c11] at H
             have c11b0:decide (x8_1<(l1.length:Int))=true:=decide_eq_true c11
             clear c11
             by_cases c12:x10_2<((rd_L1 l1 x8_1).length:Int)
             ·rw [if_pos c12] at H
              have c12b0:decide (x10_2<((rd_L1 l1 x8_1).length:Int))=true:=decide_eq_true c12
              clear c12
              replace H:=Option.bind_eq_some_iff.mp H
              obtain⟨⟨t340,t341⟩,A130,H⟩:=H
              replace H:(if x9_2.length<17592186044416 then ((some (x9_2++[t340]:List Int)).bind fun y342=>(if x7_2=true then (outriggerref08_Add.l1 k2 l0 l1 x6_1 true x8_1 y342 (wrap64 (x10_2+1))) else (outriggerref08_Add.l1 k2 l0 l1 x6_1 t341 x8_1 y342 (wrap64 (x10_2+1))))) else (none))=some (r1,r2):=H
              have A13:=Aside0.mk A130
              clear A130
              by_cases c14:x9_2.length<17592186044416
              ·rw [if_pos c14] at H
               have LMc14:=Aside0.mk c14
               clear c14
               obtain⟨y342,hy342⟩:∃ y_:List Int,y_=(x9_2++[t340]):=⟨_,rfl⟩
               replace H:(if x7_2=true then (outriggerref08_Add.l1 k2 l0 l1 x6_1 true x8_1 y342 (wrap64 (x10_2+1))) else (outriggerref08_Add.l1 k2 l0 l1 x6_1 t341 x8_1 y342 (wrap64 (x10_2+1))))=some (r1,r2):=by first|(rw [hy342];with_reducible exact H)|(have H2_:=(Option.bind_some _ _).symm.trans H;rw [hy342];with_reducible exact H2_)|(have H2_:=(Option.bind_some _ _).symm.trans H;with_reducible exact H2_)|with_reducible exact H|(rw [hy342];exact H)|exact H
               have Ny342:=Aside0.mk hy342
               clear hy342
               by_cases c15:x7_2=true
               ·subst c15
                have H1:(outriggerref08_Add.l1 k2 l0 l1 x6_1 true x8_1 y342 (wrap64 (x10_2+1)))=some (r1,r2):=by rw [if_pos rfl] at H;exact H
                clear H
                have H:=H1
                clear H1
                have H':=Aside0.mk H
                clear H
                have p336:0≤(x8_1:Int):=of_decide_eq_true (by first|(with_reducible assumption)|assumption)
                have q336:x8_1<(l0.length:Int):=of_decide_eq_true (by first|(with_reducible assumption)|assumption)
                obtain⟨ad336,A336_0,c336_0,e336,hx336_0,hl336_0,hi336_0⟩:=at_L1 HR0.out x8_1 p336 q336
                cases e336
                replace hx336_0:=(HB.out.cell (World.block_lt_of_cell? w _ hx336_0)).trans hx336_0
                have HR336_0:=Aside0.mk hi336_0
                have HC336_0:=Aside0.mk hl336_0
                clear hi336_0 hl336_0
                replace p336:=eq_true p336
                replace q336:=eq_true q336
                have p337:0≤(x10_2:Int):=of_decide_eq_true (by first|(with_reducible assumption)|assumption)
                have q337:x10_2<((rd_L1 l0 x8_1).length:Int):=of_decide_eq_true (by first|(with_reducible assumption)|assumption)
                obtain⟨ad337,e337,hx337_0⟩:=Kd.at_int HR336_0.out x10_2 p337 q337
                cases e337
                replace hx337_0:=(HB.out.cell (World.block_lt_of_cell? w _ hx337_0)).trans hx337_0
                replace p337:=eq_true p337
                replace q337:=eq_true q337
                have p338:0≤(x8_1:Int):=of_decide_eq_true (by first|(with_reducible assumption)|assumption)
                have q338:x8_1<(l1.length:Int):=of_decide_eq_true (by first|(with_reducible assumption)|assumption)
                obtain⟨ad338,A338_0,c338_0,e338,hx338_0,hl338_0,hi338_0⟩:=at_L1 HR1.out x8_1 p338 q338
                cases e338
                replace hx338_0:=(HB.out.cell (World.block_lt_of_cell? w _ hx338_0)).trans hx338_0
                have HR338_0:=Aside0.mk hi338_0
                have HC338_0:=Aside0.mk hl338_0
                clear hi338_0 hl338_0
                replace p338:=eq_true p338
                replace q338:=eq_true q338
                have p339:0≤(x10_2:Int):=of_decide_eq_true (by first|(with_reducible assumption)|assumption)
                have q339:x10_2<((rd_L1 l1 x8_1).length:Int):=of_decide_eq_true (by first|(with_reducible assumption)|assumption)
                obtain⟨ad339,e339,hx339_0⟩:=Kd.at_int HR338_0.out x10_2 p339 q339
                cases e339
                replace hx339_0:=(HB.out.cell (World.block_lt_of_cell? w _ hx339_0)).trans hx339_0
                replace p339:=eq_true p339
                replace q339:=eq_true q339
                go_wp2_with (first|(go_at_call 31;(with_reducible refine(outriggerref01_Add.calls (rd (rd_L1 l0 x8_1) x10_2) (rd (rd_L1 l1 x8_1) x10_2) t340 t341 _ A13.out).mono ?_);rintro e w' ⟨rfl,⟨nd,rfl⟩⟩;(try first|exact⟨rfl,_,World.drewN_drewN _ _ _⟩|exact⟨rfl,_,Eq.trans (World.drewN_drewN _ _ _) (congrArg (World.drewN _) (Nat.add_assoc _ _ _))⟩))|((with_reducible refine gate_builtin (b:=.append) (xs:=#[.tmp 47,.tmp 49]) rfl ?_);at_builtin;refine Kd.R_append (Kd.int .i64) (w0:=w) w.heap.size rfl (.tmp 47) (.tmp 49) 23 3 (.int .i64 0) 8 rfl Try.underlying23 info3 rfl (by decide) (by omega) u9 x9_2 t340 [.int .i64 t340] (fun _=>True) (fun _=>False) rfl rfl ?aP (fun _ hk=>hk.elim) ?aF ?aO ?aB ?aS ?aL ?_;(case aP=>exact rfl);(case aB=>exact(by first|with_reducible exact HB.out|exact bl HB));(case aF=>exact(fun _ _=>trivial));(case aO=>exact(by first|exact HO_9.out|exact kR HO_9.out));(case aS=>exact(below_size (by first|with_reducible exact HB.out|exact bl HB)));(case aL=>have:=LMc14.out;omega);intro v343 w16 ho hb hg hat;rw [←Ny342.out] at ho;have n0_:=Aside0.mk (Kd.S_after (ok:=(fun _=>True)) (by (with_reducible repeat (first|apply Kd.S_alloc|apply Kd.S_drewN|apply Kd.S_drew));exact Kd.S_mono HO_6.out (fun _ hk=>⟨trivial,hk⟩)) hg hat);have n1_:=Aside0.mk (hb);have n2_:=Aside0.mk (ho);clear HO_6;clear HB;clear HO_9;have HO_6:=n0_;have HB:=n1_;have HO344:=n2_;clear n0_ n1_ n2_;clear ho hb hg hat))
                repeat (go_quiet (first|(go_at_call 31;(with_reducible refine(outriggerref01_Add.calls (rd (rd_L1 l0 x8_1) x10_2) (rd (rd_L1 l1 x8_1) x10_2) t340 t341 _ A13.out).mono ?_);rintro e w' ⟨rfl,⟨nd,rfl⟩⟩;(try first|exact⟨rfl,_,World.drewN_drewN _ _ _⟩|exact⟨rfl,_,Eq.trans (World.drewN_drewN _ _ _) (congrArg (World.drewN _) (Nat.add_assoc _ _ _))⟩))|((with_reducible refine gate_builtin (b:=.append) (xs:=#[.tmp 47,.tmp 49]) rfl ?_);at_builtin;refine Kd.R_append (Kd.int .i64) (w0:=w) w.heap.size rfl (.tmp 47) (.tmp 49) 23 3 (.int .i64 0) 8 rfl Try.underlying23 info3 rfl (by decide) (by omega) u9 x9_2 t340 [.int .i64 t340] (fun _=>True) (fun _=>False) rfl rfl ?aP (fun _ hk=>hk.elim) ?aF ?aO ?aB ?aS ?aL ?_;(case aP=>exact rfl);(case aB=>exact(by first|with_reducible exact HB.out|exact bl HB));(case aF=>exact(fun _ _=>trivial));(case aO=>exact(by first|exact HO_9.out|exact kR HO_9.out));(case aS=>exact(below_size (by first|with_reducible exact HB.out|exact bl HB)));(case aL=>have:=LMc14.out;omega);intro v343 w16 ho hb hg hat;rw [←Ny342.out] at ho;have n0_:=Aside0.mk (Kd.S_after (ok:=(fun _=>True)) (by (with_reducible repeat (first|apply Kd.S_alloc|apply Kd.S_drewN|apply Kd.S_drew));exact Kd.S_mono HO_6.out (fun _ hk=>⟨trivial,hk⟩)) hg hat);have n1_:=Aside0.mk (hb);have n2_:=Aside0.mk (ho);clear HO_6;clear HB;clear HO_9;have HO_6:=n0_;have HB:=n1_;have HO344:=n2_;clear n0_ n1_ n2_;clear ho hb hg hat));try go_wp2_with (first|(go_at_call 31;(with_reducible refine(outriggerref01_Add.calls (rd (rd_L1 l0 x8_1) x10_2) (rd (rd_L1 l1 x8_1) x10_2) t340 t341 _ A13.out).mono ?_);rintro e w' ⟨rfl,⟨nd,rfl⟩⟩;(try first|exact⟨rfl,_,World.drewN_drewN _ _ _⟩|exact⟨rfl,_,Eq.trans (World.drewN_drewN _ _ _) (congrArg (World.drewN _) (Nat.add_assoc _ _ _))⟩))|((with_reducible refine gate_builtin (b:=.append) (xs:=#[.tmp 47,.tmp 49]) rfl ?_);at_builtin;refine Kd.R_append (Kd.int .i64) (w0:=w) w.heap.size rfl (.tmp 47) (.tmp 49) 23 3 (.int .i64 0) 8 rfl Try.underlying23 info3 rfl (by decide) (by omega) u9 x9_2 t340 [.int .i64 t340] (fun _=>True) (fun _=>False) rfl rfl ?aP (fun _ hk=>hk.elim) ?aF ?aO ?aB ?aS ?aL ?_;(case aP=>exact rfl);(case aB=>exact(by first|with_reducible exact HB.out|exact bl HB));(case aF=>exact(fun _ _=>trivial));(case aO=>exact(by first|exact HO_9.out|exact kR HO_9.out));(case aS=>exact(below_size (by first|with_reducible exact HB.out|exact bl HB)));(case aL=>have:=LMc14.out;omega);intro v343 w16 ho hb hg hat;rw [←Ny342.out] at ho;have n0_:=Aside0.mk (Kd.S_after (ok:=(fun _=>True)) (by (with_reducible repeat (first|apply Kd.S_alloc|apply Kd.S_drewN|apply Kd.S_drew));exact Kd.S_mono HO_6.out (fun _ hk=>⟨trivial,hk⟩)) hg hat);have n1_:=Aside0.mk (hb);have n2_:=Aside0.mk (ho);clear HO_6;clear HB;clear HO_9;have HO_6:=n0_;have HB:=n1_;have HO344:=n2_;clear n0_ n1_ n2_;clear ho hb hg hat)))
                go_roundg k2
                case measure=>have:=HK1.out;have:=HK2.out;omega
                case rel=>exact⟨(true),(y342),(wrap64 (x10_2+1)),(by first|rfl|(simp;done)|(simp [*];done)),(by first|rfl|(simp;done)|(simp [*];done)),H',⟨by have:=HK1.out;have:=HK2.out;omega⟩,⟨by (with_reducible repeat (first|apply Kd.S_alloc|apply Kd.S_drewN|apply Kd.S_drew));exact Kd.S_mono HO_6.out (fun _ hk=>hk.2)⟩,⟨by first|exact HO344.out|exact kR HO344.out⟩,⟨by first|with_reducible exact HB.out|exact bl HB⟩⟩
               ·replace c15:=Bool.eq_false_iff.mpr c15
                subst c15
                have H1:(outriggerref08_Add.l1 k2 l0 l1 x6_1 t341 x8_1 y342 (wrap64 (x10_2+1)))=some (r1,r2):=by rw [if_neg (show ¬(false=true) by decide)] at H;exact H
                clear H
                have H:=H1
                clear H1
                have H':=Aside0.mk H
                clear H
                have p336:0≤(x8_1:Int):=of_decide_eq_true (by first|(with_reducible assumption)|assumption)
                have q336:x8_1<(l0.length:Int):=of_decide_eq_true (by first|(with_reducible assumption)|assumption)
                obtain⟨ad336,A336_0,c336_0,e336,hx336_0,hl336_0,hi336_0⟩:=at_L1 HR0.out x8_1 p336 q336
                cases e336
                replace hx336_0:=(HB.out.cell (World.block_lt_of_cell? w _ hx336_0)).trans hx336_0
                have HR336_0:=Aside0.mk hi336_0
                have HC336_0:=Aside0.mk hl336_0
                clear hi336_0 hl336_0
                replace p336:=eq_true p336
                replace q336:=eq_true q336
                have p337:0≤(x10_2:Int):=of_decide_eq_true (by first|(with_reducible assumption)|assumption)
                have q337:x10_2<((rd_L1 l0 x8_1).length:Int):=of_decide_eq_true (by first|(with_reducible assumption)|assumption)
                obtain⟨ad337,e337,hx337_0⟩:=Kd.at_int HR336_0.out x10_2 p337 q337
                cases e337
                replace hx337_0:=(HB.out.cell (World.block_lt_of_cell? w _ hx337_0)).trans hx337_0
                replace p337:=eq_true p337
                replace q337:=eq_true q337
                have p338:0≤(x8_1:Int):=of_decide_eq_true (by first|(with_reducible assumption)|assumption)
                have q338:x8_1<(l1.length:Int):=of_decide_eq_true (by first|(with_reducible assumption)|assumption)
                obtain⟨ad338,A338_0,c338_0,e338,hx338_0,hl338_0,hi338_0⟩:=at_L1 HR1.out x8_1 p338 q338
                cases e338
                replace hx338_0:=(HB.out.cell (World.block_lt_of_cell? w _ hx338_0)).trans hx338_0
                have HR338_0:=Aside0.mk hi338_0
                have HC338_0:=Aside0.mk hl338_0
                clear hi338_0 hl338_0
                replace p338:=eq_true p338
                replace q338:=eq_true q338
                have p339:0≤(x10_2:Int):=of_decide_eq_true (by first|(with_reducible assumption)|assumption)
                have q339:x10_2<((rd_L1 l1 x8_1).length:Int):=of_decide_eq_true (by first|(with_reducible assumption)|assumption)
                obtain⟨ad339,e339,hx339_0⟩:=Kd.at_int HR338_0.out x10_2 p339 q339
                cases e339
                replace hx339_0:=(HB.out.cell (World.block_lt_of_cell? w _ hx339_0)).trans hx339_0
                replace p339:=eq_true p339
                replace q339:=eq_true q339
                go_wp2_with (first|(go_at_call 31;(with_reducible refine(outriggerref01_Add.calls (rd (rd_L1 l0 x8_1) x10_2) (rd (rd_L1 l1 x8_1) x10_2) t340 t341 _ A13.out).mono ?_);rintro e w' ⟨rfl,⟨nd,rfl⟩⟩;(try first|exact⟨rfl,_,World.drewN_drewN _ _ _⟩|exact⟨rfl,_,Eq.trans (World.drewN_drewN _ _ _) (congrArg (World.drewN _) (Nat.add_assoc _ _ _))⟩))|((with_reducible refine gate_builtin (b:=.append) (xs:=#[.tmp 47,.tmp 49]) rfl ?_);at_builtin;refine Kd.R_append (Kd.int .i64) (w0:=w) w.heap.size rfl (.tmp 47) (.tmp 49) 23 3 (.int .i64 0) 8 rfl Try.underlying23 info3 rfl (by decide) (by omega) u9 x9_2 t340 [.int .i64 t340] (fun _=>True) (fun _=>False) rfl rfl ?aP (fun _ hk=>hk.elim) ?aF ?aO ?aB ?aS ?aL ?_;(case aP=>exact rfl);(case aB=>exact(by first|with_reducible exact HB.out|exact bl HB));(case aF=>exact(fun _ _=>trivial));(case aO=>exact(by first|exact HO_9.out|exact kR HO_9.out));(case aS=>exact(below_size (by first|with_reducible exact HB.out|exact bl HB)));(case aL=>have:=LMc14.out;omega);intro v343 w17 ho hb hg hat;rw [←Ny342.out] at ho;have n0_:=Aside0.mk (Kd.S_after (ok:=(fun _=>True)) (by (with_reducible repeat (first|apply Kd.S_alloc|apply Kd.S_drewN|apply Kd.S_drew));exact Kd.S_mono HO_6.out (fun _ hk=>⟨trivial,hk⟩)) hg hat);have n1_:=Aside0.mk (hb);have n2_:=Aside0.mk (ho);clear HO_6;clear HB;clear HO_9;have HO_6:=n0_;have HB:=n1_;have HO344:=n2_;clear n0_ n1_ n2_;clear ho hb hg hat))
                repeat (go_quiet (first|(go_at_call 31;(with_reducible refine(outriggerref01_Add.calls (rd (rd_L1 l0 x8_1) x10_2) (rd (rd_L1 l1 x8_1) x10_2) t340 t341 _ A13.out).mono ?_);rintro e w' ⟨rfl,⟨nd,rfl⟩⟩;(try first|exact⟨rfl,_,World.drewN_drewN _ _ _⟩|exact⟨rfl,_,Eq.trans (World.drewN_drewN _ _ _) (congrArg (World.drewN _) (Nat.add_assoc _ _ _))⟩))|((with_reducible refine gate_builtin (b:=.append) (xs:=#[.tmp 47,.tmp 49]) rfl ?_);at_builtin;refine Kd.R_append (Kd.int .i64) (w0:=w) w.heap.size rfl (.tmp 47) (.tmp 49) 23 3 (.int .i64 0) 8 rfl Try.underlying23 info3 rfl (by decide) (by omega) u9 x9_2 t340 [.int .i64 t340] (fun _=>True) (fun _=>False) rfl rfl ?aP (fun _ hk=>hk.elim) ?aF ?aO ?aB ?aS ?aL ?_;(case aP=>exact rfl);(case aB=>exact(by first|with_reducible exact HB.out|exact bl HB));(case aF=>exact(fun _ _=>trivial));(case aO=>exact(by first|exact HO_9.out|exact kR HO_9.out));(case aS=>exact(below_size (by first|with_reducible exact HB.out|exact bl HB)));(case aL=>have:=LMc14.out;omega);intro v343 w17 ho hb hg hat;rw [←Ny342.out] at ho;have n0_:=Aside0.mk (Kd.S_after (ok:=(fun _=>True)) (by (with_reducible repeat (first|apply Kd.S_alloc|apply Kd.S_drewN|apply Kd.S_drew));exact Kd.S_mono HO_6.out (fun _ hk=>⟨trivial,hk⟩)) hg hat);have n1_:=Aside0.mk (hb);have n2_:=Aside0.mk (ho);clear HO_6;clear HB;clear HO_9;have HO_6:=n0_;have HB:=n1_;have HO344:=n2_;clear n0_ n1_ n2_;clear ho hb hg hat));try go_wp2_with (first|(go_at_call 31;(with_reducible refine(outriggerref01_Add.calls (rd (rd_L1 l0 x8_1) x10_2) (rd (rd_L1 l1 x8_1) x10_2) t340 t341 _ A13.out).mono ?_);rintro e w' ⟨rfl,⟨nd,rfl⟩⟩;(try first|exact⟨rfl,_,World.drewN_drewN _ _ _⟩|exact⟨rfl,_,Eq.trans (World.drewN_drewN _ _ _) (congrArg (World.drewN _) (Nat.add_assoc _ _ _))⟩))|((with_reducible refine gate_builtin (b:=.append) (xs:=#[.tmp 47,.tmp 49]) rfl ?_);at_builtin;refine Kd.R_append (Kd.int .i64) (w0:=w) w.heap.size rfl (.tmp 47) (.tmp 49) 23 3 (.int .i64 0) 8 rfl Try.underlying23 info3 rfl (by decide) (by omega) u9 x9_2 t340 [.int .i64 t340] (fun _=>True) (fun _=>False) rfl rfl ?aP (fun _ hk=>hk.elim) ?aF ?aO ?aB ?aS ?aL ?_;(case aP=>exact rfl);(case aB=>exact(by first|with_reducible exact HB.out|exact bl HB));(case aF=>exact(fun _ _=>trivial));(case aO=>exact(by first|exact HO_9.out|exact kR HO_9.out));(case aS=>exact(below_size (by first|with_reducible exact HB.out|exact bl HB)));(case aL=>have:=LMc14.out;omega);intro v343 w17 ho hb hg hat;rw [←Ny342.out] at ho;have n0_:=Aside0.mk (Kd.S_after (ok:=(fun _=>True)) (by (with_reducible repeat (first|apply Kd.S_alloc|apply Kd.S_drewN|apply Kd.S_drew));exact Kd.S_mono HO_6.out (fun _ hk=>⟨trivial,hk⟩)) hg hat);have n1_:=Aside0.mk (hb);have n2_:=Aside0.mk (ho);clear HO_6;clear HB;clear HO_9;have HO_6:=n0_;have HB:=n1_;have HO344:=n2_;clear n0_ n1_ n2_;clear ho hb hg hat)))
                go_roundg k2
                case measure=>have:=HK1.out;have:=HK2.out;omega
                case rel=>exact⟨(t341),(y342),(wrap64 (x10_2+1)),(by first|rfl|(simp;done)|(simp [*];done)),(by first|rfl|(simp;done)|(simp [*];done)),H',⟨by have:=HK1.out;have:=HK2.out;omega⟩,⟨by (with_reducible repeat (first|apply Kd.S_alloc|apply Kd.S_drewN|apply Kd.S_drew));exact Kd.S_mono HO_6.out (fun _ hk=>hk.2)⟩,⟨by first|exact HO344.out|exact kR HO344.out⟩,⟨by first|with_reducible exact HB.out|exact bl HB⟩⟩
              ·rw [if_neg c14] at H
               exact absurd H (by simp)
             ·rw [if_neg c12] at H
              exact absurd H (by simp)
            ·rw [if_neg c11] at H
             exact absurd H (by simp)
           ·rw [if_neg c10] at H
            exact absurd H (by simp)
          ·rw [if_neg c9] at H
           exact absurd H (by simp)
         ·rw [if_neg c8] at H
          exact absurd H (by simp)
        ·rw [if_neg c7] at H
         exact absurd H (by simp)
       ·rw [if_neg c6] at H
        have c6b0:decide (x10_2<(l0.length:Int))=false:=decide_eq_false c6
        clear c6
        by_cases c18:x6_1.length<5864062014805
        ·rw [if_pos c18] at H
         have LMc18:=Aside0.mk c18
         clear c18
         obtain⟨y345,hy345⟩:∃ y_:List (List Int),y_=(x6_1++[x9_2]):=⟨_,rfl⟩
         replace H:(outriggerref08_Add.l0 k2 l0 l1 y345 x7_2 (wrap64 (x8_1+1)))=some (r1,r2):=by first|(rw [hy345];with_reducible exact H)|(have H2_:=(Option.bind_some _ _).symm.trans H;rw [hy345];with_reducible exact H2_)|(have H2_:=(Option.bind_some _ _).symm.trans H;with_reducible exact H2_)|with_reducible exact H|(rw [hy345];exact H)|exact H
         have Ny345:=Aside0.mk hy345
         clear hy345
         have H':=Aside0.mk H
         clear H
         obtain⟨Ao20,co20,eo20⟩:=Kd.R_slice HO_9.out
         subst eo20
         go_wp2_with (first|((with_reducible refine gate_builtin (b:=.append) (xs:=#[.tmp 55,.tmp 57]) rfl ?_);at_builtin;refine Kd.S_append (Kd.slice 3 (Kd.int .i64)) (w0:=w) w.heap.size rfl (.tmp 55) (.tmp 57) 22 23 (.slice none 0 0) 24 rfl Try.underlying22 info23 rfl (by decide) (by omega) u6 x6_1 x9_2 [.slice Ao20 x9_2.length co20] (fun _=>True) (fun k_=>some k_=(.slice Ao20 x9_2.length co20:Value).ownBlock) rfl rfl ?aP (fun k_ hk_=>((Kd.R_mono (ok':=fun k_=>((fun _=>True)) k_∧some k_≠(u6:Value).ownBlock) (Kd.R_apart' (HO_9.out) (Kd.S_typed HO_6.out) (by decide)) (fun k_ hk=>⟨trivial,hk.2⟩))).1 k_ hk_.symm) ?aF ?aO ?aB ?aS ?aL ?_;(case aP=>exact Kd.M_row (Kd.R_mono (Kd.R_tight rfl (Kd.R_mono (ok':=fun k_=>((fun _=>True)) k_∧some k_≠(u6:Value).ownBlock) (Kd.R_apart' (HO_9.out) (Kd.S_typed HO_6.out) (by decide)) (fun k_ hk=>⟨trivial,hk.2⟩))) (fun _ h_=>h_)));(case aB=>exact(by first|with_reducible exact HB.out|exact bl HB));(case aF=>exact(fun _ _=>trivial));(case aO=>exact(by (with_reducible repeat (first|apply Kd.S_alloc|apply Kd.S_drewN|apply Kd.S_drew));exact Kd.S_mono HO_6.out (fun k_ hk=>⟨trivial,fun e_=>hk e_⟩)));(case aS=>exact(below_size (by first|with_reducible exact HB.out|exact bl HB)));(case aL=>have:=LMc18.out;omega);intro v346 w19 ho hb hg hat;rw [←Ny345.out] at ho;have n0_:=Aside0.mk (hb);have n1_:=Aside0.mk (ho);clear HB;clear HO_6;clear HO_9;have HB:=n0_;have HO347:=n1_;clear n0_ n1_;clear ho hb hg hat))
         repeat (go_quiet (first|((with_reducible refine gate_builtin (b:=.append) (xs:=#[.tmp 55,.tmp 57]) rfl ?_);at_builtin;refine Kd.S_append (Kd.slice 3 (Kd.int .i64)) (w0:=w) w.heap.size rfl (.tmp 55) (.tmp 57) 22 23 (.slice none 0 0) 24 rfl Try.underlying22 info23 rfl (by decide) (by omega) u6 x6_1 x9_2 [.slice Ao20 x9_2.length co20] (fun _=>True) (fun k_=>some k_=(.slice Ao20 x9_2.length co20:Value).ownBlock) rfl rfl ?aP (fun k_ hk_=>((Kd.R_mono (ok':=fun k_=>((fun _=>True)) k_∧some k_≠(u6:Value).ownBlock) (Kd.R_apart' (HO_9.out) (Kd.S_typed HO_6.out) (by decide)) (fun k_ hk=>⟨trivial,hk.2⟩))).1 k_ hk_.symm) ?aF ?aO ?aB ?aS ?aL ?_;(case aP=>exact Kd.M_row (Kd.R_mono (Kd.R_tight rfl (Kd.R_mono (ok':=fun k_=>((fun _=>True)) k_∧some k_≠(u6:Value).ownBlock) (Kd.R_apart' (HO_9.out) (Kd.S_typed HO_6.out) (by decide)) (fun k_ hk=>⟨trivial,hk.2⟩))) (fun _ h_=>h_)));(case aB=>exact(by first|with_reducible exact HB.out|exact bl HB));(case aF=>exact(fun _ _=>trivial));(case aO=>exact(by (with_reducible repeat (first|apply Kd.S_alloc|apply Kd.S_drewN|apply Kd.S_drew));exact Kd.S_mono HO_6.out (fun k_ hk=>⟨trivial,fun e_=>hk e_⟩)));(case aS=>exact(below_size (by first|with_reducible exact HB.out|exact bl HB)));(case aL=>have:=LMc18.out;omega);intro v346 w19 ho hb hg hat;rw [←Ny345.out] at ho;have n0_:=Aside0.mk (hb);have n1_:=Aside0.mk (ho);clear HB;clear HO_6;clear HO_9;have HB:=n0_;have HO347:=n1_;clear n0_ n1_;clear ho hb hg hat));try go_wp2_with (first|((with_reducible refine gate_builtin (b:=.append) (xs:=#[.tmp 55,.tmp 57]) rfl ?_);at_builtin;refine Kd.S_append (Kd.slice 3 (Kd.int .i64)) (w0:=w) w.heap.size rfl (.tmp 55) (.tmp 57) 22 23 (.slice none 0 0) 24 rfl Try.underlying22 info23 rfl (by decide) (by omega) u6 x6_1 x9_2 [.slice Ao20 x9_2.length co20] (fun _=>True) (fun k_=>some k_=(.slice Ao20 x9_2.length co20:Value).ownBlock) rfl rfl ?aP (fun k_ hk_=>((Kd.R_mono (ok':=fun k_=>((fun _=>True)) k_∧some k_≠(u6:Value).ownBlock) (Kd.R_apart' (HO_9.out) (Kd.S_typed HO_6.out) (by decide)) (fun k_ hk=>⟨trivial,hk.2⟩))).1 k_ hk_.symm) ?aF ?aO ?aB ?aS ?aL ?_;(case aP=>exact Kd.M_row (Kd.R_mono (Kd.R_tight rfl (Kd.R_mono (ok':=fun k_=>((fun _=>True)) k_∧some k_≠(u6:Value).ownBlock) (Kd.R_apart' (HO_9.out) (Kd.S_typed HO_6.out) (by decide)) (fun k_ hk=>⟨trivial,hk.2⟩))) (fun _ h_=>h_)));(case aB=>exact(by first|with_reducible exact HB.out|exact bl HB));(case aF=>exact(fun _ _=>trivial));(case aO=>exact(by (with_reducible repeat (first|apply Kd.S_alloc|apply Kd.S_drewN|apply Kd.S_drew));exact Kd.S_mono HO_6.out (fun k_ hk=>⟨trivial,fun e_=>hk e_⟩)));(case aS=>exact(below_size (by first|with_reducible exact HB.out|exact bl HB)));(case aL=>have:=LMc18.out;omega);intro v346 w19 ho hb hg hat;rw [←Ny345.out] at ho;have n0_:=Aside0.mk (hb);have n1_:=Aside0.mk (ho);clear HB;clear HO_6;clear HO_9;have HB:=n0_;have HO347:=n1_;clear n0_ n1_;clear ho hb hg hat)))
         go_roundg k2
         case measure=>have:=HK1.out;have:=HK2.out;omega
         case rel=>exact⟨(y345),(x7_2),(wrap64 (x8_1+1)),(by first|rfl|(simp;done)|(simp [*];done)),(by first|rfl|(simp;done)|(simp [*];done)),H',⟨by have:=HK1.out;have:=HK2.out;omega⟩,⟨by first|exact HO347.out|exact kS HO347.out⟩,⟨by first|with_reducible exact HB.out|exact bl HB⟩⟩
        ·rw [if_neg c18] at H
         exact absurd H (by simp)
    ·rw [if_neg c5] at H
     have c5b0:decide (x8_1<(l0.length:Int))=false:=decide_eq_false c5
     clear c5
     simp only [Option.some.injEq,Prod.mk.injEq] at H
     obtain⟨rfl,rfl⟩:=H
     go_wp2
     repeat (go_quiet (fail);try go_wp2)
     go_ret2
     exact⟨_,by first|rfl|(simp [errW_none,errW_some]<;>rfl)|(simp [*,errW_none,errW_some]<;>rfl),by first|exact HO_6.out|exact kS HO_6.out,by first|with_reducible exact HB.out|exact bl HB⟩
 ·replace c4:=Bool.eq_false_iff.mpr c4
  subst c4
  have H1:(some (([]:List (List Int)),true))=some (r1,r2):=by rw [if_neg (show ¬(false=true) by decide)] at H;exact H
  clear H
  have H:=H1
  clear H1
  simp only [Option.some.injEq,Prod.mk.injEq] at H
  obtain⟨rfl,rfl⟩:=H
  go_enter Try.func11,Try.ntmps11
  go_wp2_with (first|(go_at_call 30;(with_reducible refine(outriggerref08_both.calls k _ _ l0 _ _ l1 false _ ?side1 ?side2 ?side3 ?side4 A3.out).mono ?_);(case side1=>first|exact HR0.out|exact kC HR0.out);(case side2=>exact HC0.out);(case side3=>first|exact HR1.out|exact kC HR1.out);(case side4=>exact HC1.out);rintro e w' ⟨rfl,⟨nd,rfl⟩⟩;(try first|exact⟨rfl,_,World.drewN_drewN _ _ _⟩|exact⟨rfl,_,Eq.trans (World.drewN_drewN _ _ _) (congrArg (World.drewN _) (Nat.add_assoc _ _ _))⟩)))
  repeat (go_quiet (first|(go_at_call 30;(with_reducible refine(outriggerref08_both.calls k _ _ l0 _ _ l1 false _ ?side1 ?side2 ?side3 ?side4 A3.out).mono ?_);(case side1=>first|exact HR0.out|exact kC HR0.out);(case side2=>exact HC0.out);(case side3=>first|exact HR1.out|exact kC HR1.out);(case side4=>exact HC1.out);rintro e w' ⟨rfl,⟨nd,rfl⟩⟩;(try first|exact⟨rfl,_,World.drewN_drewN _ _ _⟩|exact⟨rfl,_,Eq.trans (World.drewN_drewN _ _ _) (congrArg (World.drewN _) (Nat.add_assoc _ _ _))⟩)));try go_wp2_with (first|(go_at_call 30;(with_reducible refine(outriggerref08_both.calls k _ _ l0 _ _ l1 false _ ?side1 ?side2 ?side3 ?side4 A3.out).mono ?_);(case side1=>first|exact HR0.out|exact kC HR0.out);(case side2=>exact HC0.out);(case side3=>first|exact HR1.out|exact kC HR1.out);(case side4=>exact HC1.out);rintro e w' ⟨rfl,⟨nd,rfl⟩⟩;(try first|exact⟨rfl,_,World.drewN_drewN _ _ _⟩|exact⟨rfl,_,Eq.trans (World.drewN_drewN _ _ _) (congrArg (World.drewN _) (Nat.add_assoc _ _ _))⟩))))
  go_ret2
  exact⟨_,by first|rfl|(simp [errW_none,errW_some]<;>rfl)|(simp [*,errW_none,errW_some]<;>rfl),by first|exact Kd.S_nil _ _ _ _ _|exact Kd.N_nil _ _ _ _ _|exact Kd.V_nil _ _ _ _ _|exact Kd.Q_nil _ _ _ _ _|exact Kd.R_nil _ _ _ _ _,by first|with_reducible exact HB.out|exact bl HB⟩
def outriggerref06_cut.l0:Nat→List Int→List Int→Bool→Int→Option (List Int × Bool)
  | 0,_,_,_,_=>none
  | k+1,x0,x4,x5,x6=>if x6<(x0.length:Int) then (if x6<64 then (if 0≤x6 then ((outriggerref01_Clamp.f (rd x0 x6)).bind fun bt349=>(if x4.length<17592186044416 then ((some (x4++[bt349.1]:List Int)).bind fun y351=>(if x5=true then (outriggerref06_cut.l0 k x0 y351 true (wrap64 (x6+1))) else (outriggerref06_cut.l0 k x0 y351 bt349.2 (wrap64 (x6+1))))) else (none))) else (none)) else (some (x4,x5))) else (some (x4,x5))
def outriggerref06_cut.f (k:Nat) (l0:List Int):Option (List Int × Bool):=outriggerref06_cut.l0 k l0 ([]:List Int) false 0
set_option maxHeartbeats 8000000 in
set_option maxRecDepth 100000 in
theorem outriggerref06_cut.calls (k:Nat) (A0:Option Addr) (c0:Nat) (l0:List Int) (r1:List Int) (r2:Bool) (w:World) (hr0:Kd.C (Kd.int .i64) w A0 l0.length l0) (hc0:l0.length≤c0) (h:outriggerref06_cut.f k l0=some (r1,r2)) :
  Calls Try.prog 54 #[.slice A0 l0.length c0] w fun e w'=>∃ v0_:Value,e=.returned (.tuple #[v0_,.bool r2])∧Kd.R (Kd.int .i64) 3 w' w.heap.size (fun _=>True) v0_ r1∧Below w.heap.size w w':=by
 have HR0:=Aside0.mk hr0
 have HC0:=Aside0.mk hc0
 clear hr0 hc0
 have HB:=Aside0.mk (Below.refl w.heap.size w)
 have H:(outriggerref06_cut.l0 k l0 ([]:List Int) false 0)=some (r1,r2):=h
 clear h
 have H':=Aside0.mk H
 clear H
 go_enter Try.func54,Try.ntmps54
 go_wp2
 go_loopg [4,5,6] k (fun kq v4 v5 v6 w'=>∃ (x4_1:List Int) (x5_1:Bool) (x6_1:Int),v5=.bool x5_1∧v6=.int .i64 x6_1∧Aside0 (outriggerref06_cut.l0 kq l0 x4_1 x5_1 x6_1=some (r1,r2))∧Aside0 (kq≤k)∧Aside0 (Kd.R (Kd.int .i64) 3 w' w.heap.size (fun _=>True) v4 x4_1)∧Aside0 (Below w.heap.size w w'))
 case atStart=>exact⟨(([]:List Int)),(false),(0),(by first|rfl|(simp;done)|(simp [*];done)),(by first|rfl|(simp;done)|(simp [*];done)),H',⟨Nat.le_refl _⟩,⟨by first|exact Kd.R_nil _ _ _ _ _|exact Kd.N_nil _ _ _ _ _|exact Kd.V_nil _ _ _ _ _|exact Kd.Q_nil _ _ _ _ _|exact Kd.S_nil _ _ _ _ _⟩,⟨by first|with_reducible exact HB.out|exact bl HB⟩⟩
 case round =>
  clear H'
  obtain⟨x4_1,x5_1,x6_1,rfl,rfl,HA,HK1,HO_4,HB⟩:=hrel
  cases gk with
  | zero=>exact absurd HA.out (by simp [outriggerref06_cut.l0])
  | succ k1 =>
   have H:=HA.out
   clear HA
   simp only [outriggerref06_cut.l0] at H
   by_cases c2:x6_1<(l0.length:Int)
   ·rw [if_pos c2] at H
    have c2b0:decide (x6_1<(l0.length:Int))=true:=decide_eq_true c2
    clear c2
    by_cases c3:x6_1<64
    ·rw [if_pos c3] at H
     have c3b0:decide (x6_1<64)=true:=decide_eq_true c3
     clear c3
     by_cases c4:0≤x6_1
     ·rw [if_pos c4] at H
      have c4b0:decide (0≤x6_1)=true:=decide_eq_true c4
      clear c4
      replace H:=Option.bind_eq_some_iff.mp H
      obtain⟨⟨t349,t350⟩,A50,H⟩:=H
      replace H:(if x4_1.length<17592186044416 then ((some (x4_1++[t349]:List Int)).bind fun y351=>(if x5_1=true then (outriggerref06_cut.l0 k1 l0 y351 true (wrap64 (x6_1+1))) else (outriggerref06_cut.l0 k1 l0 y351 t350 (wrap64 (x6_1+1))))) else (none))=some (r1,r2):=H
      have A5:=Aside0.mk A50
      clear A50
      by_cases c6:x4_1.length<17592186044416
      ·rw [if_pos c6] at H
       have LMc6:=Aside0.mk c6
       clear c6
       obtain⟨y351,hy351⟩:∃ y_:List Int,y_=(x4_1++[t349]):=⟨_,rfl⟩
       replace H:(if x5_1=true then (outriggerref06_cut.l0 k1 l0 y351 true (wrap64 (x6_1+1))) else (outriggerref06_cut.l0 k1 l0 y351 t350 (wrap64 (x6_1+1))))=some (r1,r2):=by first|(rw [hy351];with_reducible exact H)|(have H2_:=(Option.bind_some _ _).symm.trans H;rw [hy351];with_reducible exact H2_)|(have H2_:=(Option.bind_some _ _).symm.trans H;with_reducible exact H2_)|with_reducible exact H|(rw [hy351];exact H)|exact H
       have Ny351:=Aside0.mk hy351
       clear hy351
       by_cases c7:x5_1=true
       ·subst c7
        have H1:(outriggerref06_cut.l0 k1 l0 y351 true (wrap64 (x6_1+1)))=some (r1,r2):=by rw [if_pos rfl] at H;exact H
        clear H
        have H:=H1
        clear H1
        have H':=Aside0.mk H
        clear H
        have p348:0≤(x6_1:Int):=of_decide_eq_true (by first|(with_reducible assumption)|assumption)
        have q348:x6_1<(l0.length:Int):=of_decide_eq_true (by first|(with_reducible assumption)|assumption)
        obtain⟨ad348,e348,hx348_0⟩:=Kd.at_int HR0.out x6_1 p348 q348
        cases e348
        replace hx348_0:=(HB.out.cell (World.block_lt_of_cell? w _ hx348_0)).trans hx348_0
        replace p348:=eq_true p348
        replace q348:=eq_true q348
        go_wp2_with (first|((with_reducible refine gate_callee (f:=51) rfl ?_);refine goesL_ (some 24) rfl rfl Try.func51 (by kernel_rfl) rfl #[.int .i64 (rd l0 x6_1)] rfl (by exact mA _ _) ?_;(with_reducible refine(outriggerref01_Clamp.calls (rd l0 x6_1) t349 t350 _ A5.out).mono ?_);rintro e w' ⟨rfl,⟨nd,rfl⟩⟩;refine⟨_,rfl,?_⟩)|((with_reducible refine gate_builtin (b:=.append) (xs:=#[.tmp 27,.tmp 29]) rfl ?_);at_builtin;refine Kd.R_append (Kd.int .i64) (w0:=w) w.heap.size rfl (.tmp 27) (.tmp 29) 23 3 (.int .i64 0) 8 rfl Try.underlying23 info3 rfl (by decide) (by omega) u4 x4_1 t349 [.int .i64 t349] (fun _=>True) (fun _=>False) rfl rfl ?aP (fun _ hk=>hk.elim) ?aF ?aO ?aB ?aS ?aL ?_;(case aP=>exact rfl);(case aB=>exact(by first|with_reducible exact HB.out|exact bl HB));(case aF=>exact(fun _ _=>trivial));(case aO=>exact(by first|exact HO_4.out|exact kR HO_4.out));(case aS=>exact(below_size (by first|with_reducible exact HB.out|exact bl HB)));(case aL=>have:=LMc6.out;omega);intro v352 w8 ho hb hg hat;rw [←Ny351.out] at ho;have n0_:=Aside0.mk (hb);have n1_:=Aside0.mk (ho);clear HB;clear HO_4;have HB:=n0_;have HO353:=n1_;clear n0_ n1_;clear ho hb hg hat))
        go_roundg k1
        case measure=>have:=HK1.out;omega
        case rel=>exact⟨(y351),(true),(wrap64 (x6_1+1)),(by first|rfl|(simp;done)|(simp [*];done)),(by first|rfl|(simp;done)|(simp [*];done)),H',⟨by have:=HK1.out;omega⟩,⟨by first|exact HO353.out|exact kR HO353.out⟩,⟨by first|with_reducible exact HB.out|exact bl HB⟩⟩
       ·replace c7:=Bool.eq_false_iff.mpr c7
        subst c7
        have H1:(outriggerref06_cut.l0 k1 l0 y351 t350 (wrap64 (x6_1+1)))=some (r1,r2):=by rw [if_neg (show ¬(false=true) by decide)] at H;exact H
        clear H
        have H:=H1
        clear H1
        have H':=Aside0.mk H
        clear H
        have p348:0≤(x6_1:Int):=of_decide_eq_true (by first|(with_reducible assumption)|assumption)
        have q348:x6_1<(l0.length:Int):=of_decide_eq_true (by first|(with_reducible assumption)|assumption)
        obtain⟨ad348,e348,hx348_0⟩:=Kd.at_int HR0.out x6_1 p348 q348
        cases e348
        replace hx348_0:=(HB.out.cell (World.block_lt_of_cell? w _ hx348_0)).trans hx348_0
        replace p348:=eq_true p348
        replace q348:=eq_true q348
        go_wp2_with (first|((with_reducible refine gate_callee (f:=51) rfl ?_);refine goesL_ (some 24) rfl rfl Try.func51 (by kernel_rfl) rfl #[.int .i64 (rd l0 x6_1)] rfl (by exact mA _ _) ?_;(with_reducible refine(outriggerref01_Clamp.calls (rd l0 x6_1) t349 t350 _ A5.out).mono ?_);rintro e w' ⟨rfl,⟨nd,rfl⟩⟩;refine⟨_,rfl,?_⟩)|((with_reducible refine gate_builtin (b:=.append) (xs:=#[.tmp 27,.tmp 29]) rfl ?_);at_builtin;refine Kd.R_append (Kd.int .i64) (w0:=w) w.heap.size rfl (.tmp 27) (.tmp 29) 23 3 (.int .i64 0) 8 rfl Try.underlying23 info3 rfl (by decide) (by omega) u4 x4_1 t349 [.int .i64 t349] (fun _=>True) (fun _=>False) rfl rfl ?aP (fun _ hk=>hk.elim) ?aF ?aO ?aB ?aS ?aL ?_;(case aP=>exact rfl);(case aB=>exact(by first|with_reducible exact HB.out|exact bl HB));(case aF=>exact(fun _ _=>trivial));(case aO=>exact(by first|exact HO_4.out|exact kR HO_4.out));(case aS=>exact(below_size (by first|with_reducible exact HB.out|exact bl HB)));(case aL=>have:=LMc6.out;omega);intro v352 w9 ho hb hg hat;rw [←Ny351.out] at ho;have n0_:=Aside0.mk (hb);have n1_:=Aside0.mk (ho);clear HB;clear HO_4;have HB:=n0_;have HO353:=n1_;clear n0_ n1_;clear ho hb hg hat))
        go_roundg k1
        case measure=>have:=HK1.out;omega
        case rel=>exact⟨(y351),(t350),(wrap64 (x6_1+1)),(by first|rfl|(simp;done)|(simp [*];done)),(by first|rfl|(simp;done)|(simp [*];done)),H',⟨by have:=HK1.out;omega⟩,⟨by first|exact HO353.out|exact kR HO353.out⟩,⟨by first|with_reducible exact HB.out|exact bl HB⟩⟩
      ·rw [if_neg c6] at H
       exact absurd H (by simp)
     ·rw [if_neg c4] at H
      exact absurd H (by simp)
    ·rw [if_neg c3] at H
     have c3b0:decide (x6_1<64)=false:=decide_eq_false c3
     clear c3
     simp only [Option.some.injEq,Prod.mk.injEq] at H
     obtain⟨rfl,rfl⟩:=H
     go_wp2
     go_ret2
     exact⟨_,by first|rfl|(simp [errW_none,errW_some]<;>rfl)|(simp [*,errW_none,errW_some]<;>rfl),by first|exact HO_4.out|exact kR HO_4.out,by first|with_reducible exact HB.out|exact bl HB⟩
   ·rw [if_neg c2] at H
    have c2b0:decide (x6_1<(l0.length:Int))=false:=decide_eq_false c2
    clear c2
    simp only [Option.some.injEq,Prod.mk.injEq] at H
    obtain⟨rfl,rfl⟩:=H
    go_wp2
    go_ret2
    exact⟨_,by first|rfl|(simp [errW_none,errW_some]<;>rfl)|(simp [*,errW_none,errW_some]<;>rfl),by first|exact HO_4.out|exact kR HO_4.out,by first|with_reducible exact HB.out|exact bl HB⟩
def outriggerref02_Sane.f (a0_0:Int) (a0_1:Int):Option (Bool):=if a0_1 ≥ 0 then (if a0_1<4611686018427387904 then (if a0_0 ≥ (-2305843009213693952) then (some (decide (a0_0<2305843009213693952))) else (some false)) else (some false)) else (some false)
set_option maxHeartbeats 8000000 in
set_option maxRecDepth 100000 in
theorem outriggerref02_Sane.calls (a0_0:Int) (a0_1:Int) (r:Bool) (w:World) (h:outriggerref02_Sane.f a0_0 a0_1=some r) :
  Calls Try.prog 76 #[.agg #[.int .i64 a0_0,.int .i64 a0_1]] w fun e w'=>e=.returned (.bool r)∧Below w.heap.size w w':=by
 have hu50:=Try.underlying50
 have HB:=Aside0.mk (Below.refl w.heap.size w)
 have H:(if a0_1 ≥ 0 then (if a0_1<4611686018427387904 then (if a0_0 ≥ (-2305843009213693952) then (some (decide (a0_0<2305843009213693952))) else (some false)) else (some false)) else (some false))=some r:=h
 clear h
 by_cases c2:a0_1 ≥ 0
 ·rw [if_pos c2] at H
  have c2b0:decide (0≤a0_1)=true:=decide_eq_true c2
  clear c2
  by_cases c3:a0_1<4611686018427387904
  ·rw [if_pos c3] at H
   have c3b0:decide (a0_1<4611686018427387904)=true:=decide_eq_true c3
   clear c3
   by_cases c4:a0_0 ≥ (-2305843009213693952)
   ·rw [if_pos c4] at H
    have c4b0:decide ((-2305843009213693952)≤a0_0)=true:=decide_eq_true c4
    clear c4
    obtain rfl:=Option.some.inj H
    go_enter Try.func76,Try.ntmps76
    go_wp2_with (first|((with_reducible refine gate_dst (N:=1) rfl ?_);refine box_event ?hg (N:=1) ?hd (cs:=#[.int .i64 a0_0,.int .i64 a0_1]) (t:=50) ?hr ?_;(case hd=>rfl);(case hg=>rfl);(case hr=>first|(go_simp;done)|(go_simp;rfl));intro gb354 hg w5 hbox hb;have n0_:=Aside0.mk (below_step (by first|with_reducible exact HB.out|exact bl HB) hb);have n1_:=Aside0.mk (hbox);have n2_:=Aside0.mk ((by rw [hg];exact(below_size (by first|with_reducible exact HB.out|exact bl HB)):w.heap.size≤gb354));have n3_:=Aside0.mk ((by rw [hg];exact(below_size (by first|with_reducible exact HB.out|exact bl HB)):w.heap.size≤gb354));clear HB;have HB:=n0_;have BK354:=n1_;have GW354:=n2_;have GE354:=n3_;clear n0_ n1_ n2_ n3_;clear hb hbox hg;have hcz6_0:w5.cell? ⟨gb354,0,none⟩=some (.int .i64 a0_0):=(blk_cell BK354.out 0).trans rfl;have hcz6_1:w5.cell? ⟨gb354,1,none⟩=some (.int .i64 a0_1):=(blk_cell BK354.out 1).trans rfl;have hfz6_0:=blk_frozen BK354.out 0;have hfz6_1:=blk_frozen BK354.out 1))
    go_ret
    exact⟨by first|rfl|(simp [errW_none,errW_some]<;>rfl)|(simp [*,errW_none,errW_some]<;>rfl),by repeat (first|with_reducible exact HB.out|exact bl HB|refine bs ?_ GE354)⟩
   ·rw [if_neg c4] at H
    have c4b0:decide ((-2305843009213693952)≤a0_0)=false:=decide_eq_false c4
    clear c4
    obtain rfl:=Option.some.inj H
    go_enter Try.func76,Try.ntmps76
    go_wp2_with (first|((with_reducible refine gate_dst (N:=1) rfl ?_);refine box_event ?hg (N:=1) ?hd (cs:=#[.int .i64 a0_0,.int .i64 a0_1]) (t:=50) ?hr ?_;(case hd=>rfl);(case hg=>rfl);(case hr=>first|(go_simp;done)|(go_simp;rfl));intro gb354 hg w7 hbox hb;have n0_:=Aside0.mk (below_step (by first|with_reducible exact HB.out|exact bl HB) hb);have n1_:=Aside0.mk (hbox);have n2_:=Aside0.mk ((by rw [hg];exact(below_size (by first|with_reducible exact HB.out|exact bl HB)):w.heap.size≤gb354));have n3_:=Aside0.mk ((by rw [hg];exact(below_size (by first|with_reducible exact HB.out|exact bl HB)):w.heap.size≤gb354));clear HB;have HB:=n0_;have BK354:=n1_;have GW354:=n2_;have GE354:=n3_;clear n0_ n1_ n2_ n3_;clear hb hbox hg;have hcz8_0:w7.cell? ⟨gb354,0,none⟩=some (.int .i64 a0_0):=(blk_cell BK354.out 0).trans rfl;have hcz8_1:w7.cell? ⟨gb354,1,none⟩=some (.int .i64 a0_1):=(blk_cell BK354.out 1).trans rfl;have hfz8_0:=blk_frozen BK354.out 0;have hfz8_1:=blk_frozen BK354.out 1))
    go_ret
    exact⟨by first|rfl|(simp [errW_none,errW_some]<;>rfl)|(simp [*,errW_none,errW_some]<;>rfl),by repeat (first|with_reducible exact HB.out|exact bl HB|refine bs ?_ GE354)⟩
  ·rw [if_neg c3] at H
   have c3b0:decide (a0_1<4611686018427387904)=false:=decide_eq_false c3
   clear c3
   obtain rfl:=Option.some.inj H
   go_enter Try.func76,Try.ntmps76
   go_wp2_with (first|((with_reducible refine gate_dst (N:=1) rfl ?_);refine box_event ?hg (N:=1) ?hd (cs:=#[.int .i64 a0_0,.int .i64 a0_1]) (t:=50) ?hr ?_;(case hd=>rfl);(case hg=>rfl);(case hr=>first|(go_simp;done)|(go_simp;rfl));intro gb354 hg w9 hbox hb;have n0_:=Aside0.mk (below_step (by first|with_reducible exact HB.out|exact bl HB) hb);have n1_:=Aside0.mk (hbox);have n2_:=Aside0.mk ((by rw [hg];exact(below_size (by first|with_reducible exact HB.out|exact bl HB)):w.heap.size≤gb354));have n3_:=Aside0.mk ((by rw [hg];exact(below_size (by first|with_reducible exact HB.out|exact bl HB)):w.heap.size≤gb354));clear HB;have HB:=n0_;have BK354:=n1_;have GW354:=n2_;have GE354:=n3_;clear n0_ n1_ n2_ n3_;clear hb hbox hg;have hcz10_0:w9.cell? ⟨gb354,0,none⟩=some (.int .i64 a0_0):=(blk_cell BK354.out 0).trans rfl;have hcz10_1:w9.cell? ⟨gb354,1,none⟩=some (.int .i64 a0_1):=(blk_cell BK354.out 1).trans rfl;have hfz10_0:=blk_frozen BK354.out 0;have hfz10_1:=blk_frozen BK354.out 1))
   go_ret
   exact⟨by first|rfl|(simp [errW_none,errW_some]<;>rfl)|(simp [*,errW_none,errW_some]<;>rfl),by repeat (first|with_reducible exact HB.out|exact bl HB|refine bs ?_ GE354)⟩
 ·rw [if_neg c2] at H
  have c2b0:decide (0≤a0_1)=false:=decide_eq_false c2
  clear c2
  obtain rfl:=Option.some.inj H
  go_enter Try.func76,Try.ntmps76
  go_wp2_with (first|((with_reducible refine gate_dst (N:=1) rfl ?_);refine box_event ?hg (N:=1) ?hd (cs:=#[.int .i64 a0_0,.int .i64 a0_1]) (t:=50) ?hr ?_;(case hd=>rfl);(case hg=>rfl);(case hr=>first|(go_simp;done)|(go_simp;rfl));intro gb354 hg w11 hbox hb;have n0_:=Aside0.mk (below_step (by first|with_reducible exact HB.out|exact bl HB) hb);have n1_:=Aside0.mk (hbox);have n2_:=Aside0.mk ((by rw [hg];exact(below_size (by first|with_reducible exact HB.out|exact bl HB)):w.heap.size≤gb354));have n3_:=Aside0.mk ((by rw [hg];exact(below_size (by first|with_reducible exact HB.out|exact bl HB)):w.heap.size≤gb354));clear HB;have HB:=n0_;have BK354:=n1_;have GW354:=n2_;have GE354:=n3_;clear n0_ n1_ n2_ n3_;clear hb hbox hg;have hcz12_0:w11.cell? ⟨gb354,0,none⟩=some (.int .i64 a0_0):=(blk_cell BK354.out 0).trans rfl;have hcz12_1:w11.cell? ⟨gb354,1,none⟩=some (.int .i64 a0_1):=(blk_cell BK354.out 1).trans rfl;have hfz12_0:=blk_frozen BK354.out 0;have hfz12_1:=blk_frozen BK354.out 1))
  go_ret
  exact⟨by first|rfl|(simp [errW_none,errW_some]<;>rfl)|(simp [*,errW_none,errW_some]<;>rfl),by repeat (first|with_reducible exact HB.out|exact bl HB|refine bs ?_ GE354)⟩
def outriggerref02_As.f (a0_0:Int) (a0_1:Int):Option (Int × Int):=(outriggerref02_Sane.f a0_0 a0_1).bind fun t357=>(if t357=true then (some (a0_0,a0_1)) else (some (0,0)))
set_option maxHeartbeats 8000000 in
set_option maxRecDepth 100000 in
theorem outriggerref02_As.calls (a0_0:Int) (a0_1:Int) (r1:Int) (r2:Int) (w:World) (h:outriggerref02_As.f a0_0 a0_1=some (r1,r2)) :
  Calls Try.prog 77 #[.agg #[.int .i64 a0_0,.int .i64 a0_1]] w fun e w'=>e=.returned (.agg #[.int .i64 r1,.int .i64 r2])∧Below w.heap.size w w':=by
 have hu50:=Try.underlying50
 have HB:=Aside0.mk (Below.refl w.heap.size w)
 have H:((outriggerref02_Sane.f a0_0 a0_1).bind fun t357=>(if t357=true then (some (a0_0,a0_1)) else (some (0,0))))=some (r1,r2):=h
 clear h
 replace H:=Option.bind_eq_some_iff.mp H
 obtain⟨t357,A20,H⟩:=H
 replace H:(if t357=true then (some (a0_0,a0_1)) else (some (0,0)))=some (r1,r2):=H
 have A2:=Aside0.mk A20
 clear A20
 by_cases c3:t357=true
 ·subst c3
  have H1:(some (a0_0,a0_1))=some (r1,r2):=by rw [if_pos rfl] at H;exact H
  clear H
  have H:=H1
  clear H1
  simp only [Option.some.injEq,Prod.mk.injEq] at H
  obtain⟨rfl,rfl⟩:=H
  go_enter Try.func77,Try.ntmps77
  go_wp2_with (first|((with_reducible refine gate_dst (N:=1) rfl ?_);refine box_event ?hg (N:=1) ?hd (cs:=#[.int .i64 a0_0,.int .i64 a0_1]) (t:=50) ?hr ?_;(case hd=>rfl);(case hg=>rfl);(case hr=>first|(go_simp;done)|(go_simp;rfl));intro gb355 hg w4 hbox hb;have n0_:=Aside0.mk (below_step (by first|with_reducible exact HB.out|exact bl HB) hb);have n1_:=Aside0.mk (hbox);have n2_:=Aside0.mk ((by rw [hg];exact(below_size (by first|with_reducible exact HB.out|exact bl HB)):w.heap.size≤gb355));have n3_:=Aside0.mk ((by rw [hg];exact(below_size (by first|with_reducible exact HB.out|exact bl HB)):w.heap.size≤gb355));clear HB;have HB:=n0_;have BK355:=n1_;have GW355:=n2_;have GE355:=n3_;clear n0_ n1_ n2_ n3_;clear hb hbox hg)|((with_reducible refine gate_dst (N:=2) rfl ?_);refine box_event ?hg (N:=2) ?hd (cs:=#[.int .i64 0,.int .i64 0]) (t:=50) ?hr ?_;(case hd=>rfl);(case hg=>rfl);(case hr=>first|(go_simp;done)|(go_simp;rfl));intro gb356 hg w5 hbox hb;have n0_:=Aside0.mk (blk_below (bk BK355.out) hb);have n1_:=Aside0.mk (below_step (by repeat (first|with_reducible exact HB.out|exact bl HB|refine bs ?_ GE355)) hb);have n2_:=Aside0.mk (hbox);have n3_:=Aside0.mk ((by rw [hg];exact(below_size (by repeat (first|with_reducible exact HB.out|exact bl HB|refine bs ?_ GE355))):w.heap.size≤gb356));have n4_:=Aside0.mk ((by rw [hg];exact(below_size (by repeat (first|with_reducible exact HB.out|exact bl HB|refine bs ?_ GE355))):w.heap.size≤gb356));have n5_:=Aside0.mk ((by rw [hg];exact Nat.ne_of_lt (blk_lt (bk BK355.out)):gb355≠gb356));have n6_:=Aside0.mk ((by rw [hg];exact Nat.ne_of_gt (blk_lt (bk BK355.out)):gb356≠gb355));clear BK355;clear HB;have BK355:=n0_;have HB:=n1_;have BK356:=n2_;have GW356:=n3_;have GE356:=n4_;have NB355_356:=n5_;have NB356_355:=n6_;clear n0_ n1_ n2_ n3_ n4_ n5_ n6_;clear hb hbox hg;have hnb6:=NB355_356.out;have hnc6:=NB356_355.out;have hcz7_0:w5.cell? ⟨gb355,0,none⟩=some (.int .i64 a0_0):=(blk_cell BK355.out 0).trans rfl;have hcz7_1:w5.cell? ⟨gb355,1,none⟩=some (.int .i64 a0_1):=(blk_cell BK355.out 1).trans rfl;have hfz7_0:=blk_frozen BK355.out 0;have hfz7_1:=blk_frozen BK355.out 1)|((with_reducible refine gate_callee (f:=76) rfl ?_);refine goesL_ (some 4) rfl rfl Try.func76 (by kernel_rfl) rfl #[.agg #[.int .i64 a0_0,.int .i64 a0_1]] rfl (by exact mA _ _) ?_;(with_reducible refine(outriggerref02_Sane.calls a0_0 a0_1 true _ A2.out).mono ?_);rintro e w8 ⟨rfl,hb⟩;refine⟨_,rfl,?_⟩;have n0_:=Aside0.mk (blk_below (bk BK355.out) hb);have n1_:=Aside0.mk (blk_below (bk BK356.out) hb);have n2_:=Aside0.mk (below_step (by repeat (first|with_reducible exact HB.out|exact bl HB|refine bs ?_ GE355|refine bs ?_ GE356)) hb);clear BK355;clear BK356;clear HB;have BK355:=n0_;have BK356:=n1_;have HB:=n2_;clear n0_ n1_ n2_;(try clear hb);(try clear hb2);(try clear hk);(try clear hi);have hcz9_0:w8.cell? ⟨gb355,0,none⟩=some (.int .i64 a0_0):=(blk_cell BK355.out 0).trans rfl;have hcz9_1:w8.cell? ⟨gb355,1,none⟩=some (.int .i64 a0_1):=(blk_cell BK355.out 1).trans rfl;have hfz9_0:=blk_frozen BK355.out 0;have hfz9_1:=blk_frozen BK355.out 1;have hcz10_0:w8.cell? ⟨gb356,0,none⟩=some (.int .i64 0):=(blk_cell BK356.out 0).trans rfl;have hcz10_1:w8.cell? ⟨gb356,1,none⟩=some (.int .i64 0):=(blk_cell BK356.out 1).trans rfl;have hfz10_0:=blk_frozen BK356.out 0;have hfz10_1:=blk_frozen BK356.out 1))
  refine bodyPost_ret (results_cell_row rfl _ _ gb356 50 #[.int .i64 a0_0,.int .i64 a0_1] (0,0) _ rfl (by try refine bk ?_;refine blk_put (cs:=#[.int .i64 a0_0,.int .i64 0]) ?_ 1 _ rfl;try refine bk ?_;refine blk_put (cs:=#[.int .i64 0,.int .i64 0]) ?_ 0 _ rfl;try refine bk ?_;exact BK356.out) Try.underlying50 rfl (by kernel_rfl)) rfl ?_
  exact⟨by first|rfl|(simp [errW_none,errW_some]<;>rfl)|(simp [*,errW_none,errW_some]<;>rfl),by repeat (first|with_reducible exact HB.out|exact bl HB|refine bs ?_ GE355|refine bs ?_ GE356)⟩
 ·replace c3:=Bool.eq_false_iff.mpr c3
  subst c3
  have H1:(some (0,0))=some (r1,r2):=by rw [if_neg (show ¬(false=true) by decide)] at H;exact H
  clear H
  have H:=H1
  clear H1
  simp only [Option.some.injEq,Prod.mk.injEq] at H
  obtain⟨rfl,rfl⟩:=H
  go_enter Try.func77,Try.ntmps77
  go_wp2_with (first|((with_reducible refine gate_dst (N:=1) rfl ?_);refine box_event ?hg (N:=1) ?hd (cs:=#[.int .i64 a0_0,.int .i64 a0_1]) (t:=50) ?hr ?_;(case hd=>rfl);(case hg=>rfl);(case hr=>first|(go_simp;done)|(go_simp;rfl));intro gb355 hg w11 hbox hb;have n0_:=Aside0.mk (below_step (by first|with_reducible exact HB.out|exact bl HB) hb);have n1_:=Aside0.mk (hbox);have n2_:=Aside0.mk ((by rw [hg];exact(below_size (by first|with_reducible exact HB.out|exact bl HB)):w.heap.size≤gb355));have n3_:=Aside0.mk ((by rw [hg];exact(below_size (by first|with_reducible exact HB.out|exact bl HB)):w.heap.size≤gb355));clear HB;have HB:=n0_;have BK355:=n1_;have GW355:=n2_;have GE355:=n3_;clear n0_ n1_ n2_ n3_;clear hb hbox hg)|((with_reducible refine gate_dst (N:=2) rfl ?_);refine box_event ?hg (N:=2) ?hd (cs:=#[.int .i64 0,.int .i64 0]) (t:=50) ?hr ?_;(case hd=>rfl);(case hg=>rfl);(case hr=>first|(go_simp;done)|(go_simp;rfl));intro gb356 hg w12 hbox hb;have n0_:=Aside0.mk (blk_below (bk BK355.out) hb);have n1_:=Aside0.mk (below_step (by repeat (first|with_reducible exact HB.out|exact bl HB|refine bs ?_ GE355)) hb);have n2_:=Aside0.mk (hbox);have n3_:=Aside0.mk ((by rw [hg];exact(below_size (by repeat (first|with_reducible exact HB.out|exact bl HB|refine bs ?_ GE355))):w.heap.size≤gb356));have n4_:=Aside0.mk ((by rw [hg];exact(below_size (by repeat (first|with_reducible exact HB.out|exact bl HB|refine bs ?_ GE355))):w.heap.size≤gb356));have n5_:=Aside0.mk ((by rw [hg];exact Nat.ne_of_lt (blk_lt (bk BK355.out)):gb355≠gb356));have n6_:=Aside0.mk ((by rw [hg];exact Nat.ne_of_gt (blk_lt (bk BK355.out)):gb356≠gb355));clear BK355;clear HB;have BK355:=n0_;have HB:=n1_;have BK356:=n2_;have GW356:=n3_;have GE356:=n4_;have NB355_356:=n5_;have NB356_355:=n6_;clear n0_ n1_ n2_ n3_ n4_ n5_ n6_;clear hb hbox hg;have hnb13:=NB355_356.out;have hnc13:=NB356_355.out;have hcz14_0:w12.cell? ⟨gb355,0,none⟩=some (.int .i64 a0_0):=(blk_cell BK355.out 0).trans rfl;have hcz14_1:w12.cell? ⟨gb355,1,none⟩=some (.int .i64 a0_1):=(blk_cell BK355.out 1).trans rfl;have hfz14_0:=blk_frozen BK355.out 0;have hfz14_1:=blk_frozen BK355.out 1)|((with_reducible refine gate_callee (f:=76) rfl ?_);refine goesL_ (some 4) rfl rfl Try.func76 (by kernel_rfl) rfl #[.agg #[.int .i64 a0_0,.int .i64 a0_1]] rfl (by exact mA _ _) ?_;(with_reducible refine(outriggerref02_Sane.calls a0_0 a0_1 false _ A2.out).mono ?_);rintro e w15 ⟨rfl,hb⟩;refine⟨_,rfl,?_⟩;have n0_:=Aside0.mk (blk_below (bk BK355.out) hb);have n1_:=Aside0.mk (blk_below (bk BK356.out) hb);have n2_:=Aside0.mk (below_step (by repeat (first|with_reducible exact HB.out|exact bl HB|refine bs ?_ GE355|refine bs ?_ GE356)) hb);clear BK355;clear BK356;clear HB;have BK355:=n0_;have BK356:=n1_;have HB:=n2_;clear n0_ n1_ n2_;(try clear hb);(try clear hb2);(try clear hk);(try clear hi);have hcz16_0:w15.cell? ⟨gb356,0,none⟩=some (.int .i64 0):=(blk_cell BK356.out 0).trans rfl;have hcz16_1:w15.cell? ⟨gb356,1,none⟩=some (.int .i64 0):=(blk_cell BK356.out 1).trans rfl;have hfz16_0:=blk_frozen BK356.out 0;have hfz16_1:=blk_frozen BK356.out 1))
  refine bodyPost_ret (results_cell_row rfl _ _ gb356 50 #[.int .i64 0,.int .i64 0] (0,0) _ rfl (by try refine bk ?_;refine blk_put (cs:=#[.int .i64 0,.int .i64 0]) ?_ 1 _ rfl;try refine bk ?_;refine blk_put (cs:=#[.int .i64 0,.int .i64 0]) ?_ 0 _ rfl;try refine bk ?_;exact BK356.out) Try.underlying50 rfl (by kernel_rfl)) rfl ?_
  exact⟨by first|rfl|(simp [errW_none,errW_some]<;>rfl)|(simp [*,errW_none,errW_some]<;>rfl),by repeat (first|with_reducible exact HB.out|exact bl HB|refine bs ?_ GE355|refine bs ?_ GE356)⟩
end Go.Proofs.Ytembdogffbcjiaa.B
