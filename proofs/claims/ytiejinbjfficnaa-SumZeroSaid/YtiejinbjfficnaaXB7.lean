/- Lemmas that the row leans on; laid by a program of this project out of longer texts: what the row does not name is left out. -/
import Derived.Test.YtiejinbjfficnaaXB0
import Derived.Test.YtiejinbjfficnaaXB2
import Derived.Test.YtiejinbjfficnaaXB3
import Derived.Test.YtiejinbjfficnaaXB5
import Derived.Test.YtiejinbjfficnaaXB6
import Derived.WalkMore
import Derived.ScopeJumps
import Derived.Test.YtiejinbjfficnaaXSeqA
namespace Go.Proofs.Ytiejinbjfficnaa.B
open Go.RowKit Go.Proofs.YtiejinbjfficnaaW.PrintWords Go.Proofs.YtiejinbjfficnaaW.PrintLast Go.Proofs.YtiejinbjfficnaaW.PrintMore
attribute [local go_sem] max2_int min2_int max_two min_two max_three min_three max_four min_four
set_option linter.unusedVariables false
set_option linter.unusedSimpArgs false
def cmp_Or_int.l0:Nat→Int→List Int→Int→Int→Option (Int)
  | 0,_,_,_,_=>none
  | k+1,x3,x6,x7,x8=>if x8<x7 then (if 0≤x8 then (if x8<(x6.length:Int) then (if (rd x6 x8)=x3 then (cmp_Or_int.l0 k x3 x6 x7 (wrap64 (x8+1))) else (some (rd x6 x8))) else (none)) else (none)) else (some x3)
def cmp_Or_int.f (k:Nat) (l0:List Int):Option (Int):=cmp_Or_int.l0 k 0 l0 (l0.length:Int) 0
theorem cmp_Or_int.mono_l:∀ k,(∀ y0 y1 y2 y3,LeO (cmp_Or_int.l0 k y0 y1 y2 y3) (cmp_Or_int.l0 (k+1) y0 y1 y2 y3))
 | 0=>fun _ _ _ _ r h=>by simp [cmp_Or_int.l0] at h
 | k+1=>by
  have ih0:=cmp_Or_int.mono_l k
  ·intro y0 y1 y2 y3
   unfold cmp_Or_int.l0
   repeat' first
   | (with_reducible exact ih0 _ _ _ _)
   | (with_reducible exact LeO.refl _)
   | (with_reducible exact LeO.none _)
   | (with_reducible refine LeO.ite ?_ ?_)
   | (with_reducible refine LeO.bind ?_ (fun _=>?_))
   | exact ih0 _ _ _ _
   | exact LeO.none _
   | refine LeO.ite ?_ ?_
   | refine LeO.bind ?_ (fun _=>?_)
theorem cmp_Or_int.mono:∀ a0 k,LeO (cmp_Or_int.f k a0) (cmp_Or_int.f (k+1) a0):=by
 intro a0 k
 have ih0:=cmp_Or_int.mono_l k
 unfold cmp_Or_int.f
 repeat' first
   | (with_reducible exact ih0 _ _ _ _)
   | (with_reducible exact LeO.refl _)
   | (with_reducible exact LeO.none _)
   | (with_reducible refine LeO.ite ?_ ?_)
   | (with_reducible refine LeO.bind ?_ (fun _=>?_))
   | exact ih0 _ _ _ _
   | exact LeO.none _
   | refine LeO.ite ?_ ?_
   | refine LeO.bind ?_ (fun _=>?_)
set_option maxHeartbeats 8000000 in
set_option maxRecDepth 100000 in
theorem cmp_Or_int.calls (k:Nat) (A0:Option Addr) (c0:Nat) (l0:List Int) (r:Int) (w:World) (hr0:Kd.C (Kd.int .i64) w A0 l0.length l0) (hc0:l0.length≤c0) (h:cmp_Or_int.f k l0=some r) :
  Calls Try.prog 65 #[.slice A0 l0.length c0] w fun e w'=>e=.returned (.int .i64 r)∧Drawn0 w w':=by
 have HR0:=Aside0.mk hr0
 have HC0:=Aside0.mk hc0
 clear hr0 hc0
 have H:(cmp_Or_int.l0 k 0 l0 (l0.length:Int) 0)=some r:=h
 clear h
 have H':=Aside0.mk H
 clear H
 go_enter Try.func65,Try.ntmps65
 go_wp2
 go_loopg [8] k (fun kq v8 w'=>∃ (x8_1:Int),v8=.int .i64 x8_1∧Aside0 (cmp_Or_int.l0 kq 0 l0 (l0.length:Int) x8_1=some r)∧Aside0 (kq≤k)∧Drawn0 w w')
 case atStart=>exact⟨(0),(by first|rfl|(simp;done)|(simp [*];done)),H',⟨Nat.le_refl _⟩,by repeat (first|exact Drawn0.refl _|apply Drawn0.step)⟩
 case round =>
  clear H'
  obtain⟨x8_1,rfl,HA,HK1,⟨m1,rfl⟩⟩:=hrel
  cases gk with
  | zero=>exact absurd HA.out (by simp [cmp_Or_int.l0])
  | succ k1 =>
   have H:=HA.out
   clear HA
   simp only [cmp_Or_int.l0] at H
   by_cases c2:x8_1<(l0.length:Int)
   ·rw [if_pos c2] at H
    have c2b0:decide (x8_1<(l0.length:Int))=true:=decide_eq_true c2
    clear c2
    by_cases c3:0≤x8_1
    ·rw [if_pos c3] at H
     have c3b0:decide (0≤x8_1)=true:=decide_eq_true c3
     clear c3
     by_cases c4:x8_1<(l0.length:Int)
     ·rw [if_pos c4] at H
      have c4b0:decide (x8_1<(l0.length:Int))=true:=decide_eq_true c4
      clear c4
      by_cases c5:(rd l0 x8_1)=0
      ·rw [if_pos c5] at H
       have c5b0:((rd l0 x8_1) == 0)=true:=beq_iff_eq.mpr c5
       have c5b1:((rd l0 x8_1) != 0)=false:=bne_eq_false_iff_eq.mpr c5
       clear c5
       have H':=Aside0.mk H
       clear H
       have p205:0≤(x8_1:Int):=of_decide_eq_true (by first|(with_reducible assumption)|assumption)
       have q205:x8_1<(l0.length:Int):=of_decide_eq_true (by first|(with_reducible assumption)|assumption)
       obtain⟨ad205,e205,hx205_0⟩:=Kd.at_int HR0.out x8_1 p205 q205
       cases e205
       replace p205:=eq_true p205
       replace q205:=eq_true q205
       go_wp2
       go_roundg k1
       case measure=>have:=HK1.out;omega
       case rel=>exact⟨(wrap64 (x8_1+1)),(by first|rfl|(simp;done)|(simp [*];done)),H',⟨by have:=HK1.out;omega⟩,by repeat (first|exact Drawn0.refl _|apply Drawn0.step)⟩
      ·rw [if_neg c5] at H
       have c5b0:((rd l0 x8_1) == 0)=false:=beq_eq_false_iff_ne.mpr c5
       have c5b1:((rd l0 x8_1) != 0)=true:=bne_iff_ne.mpr c5
       obtain rfl:=Option.some.inj H
       have p205:0≤(x8_1:Int):=of_decide_eq_true (by first|(with_reducible assumption)|assumption)
       have q205:x8_1<(l0.length:Int):=of_decide_eq_true (by first|(with_reducible assumption)|assumption)
       obtain⟨ad205,e205,hx205_0⟩:=Kd.at_int HR0.out x8_1 p205 q205
       cases e205
       replace p205:=eq_true p205
       replace q205:=eq_true q205
       go_wp2
       go_ret
       exact⟨by first|rfl|(simp;done)|(simp [*];done),by repeat (first|exact Drawn0.refl _|apply Drawn0.step)⟩
     ·rw [if_neg c4] at H
      exact absurd H (by simp)
    ·rw [if_neg c3] at H
     exact absurd H (by simp)
   ·rw [if_neg c2] at H
    have c2b0:decide (x8_1<(l0.length:Int))=false:=decide_eq_false c2
    clear c2
    obtain rfl:=Option.some.inj H
    go_wp2
    go_ret
    exact⟨by first|rfl|(simp;done)|(simp [*];done),by repeat (first|exact Drawn0.refl _|apply Drawn0.step)⟩
def cmp_isNaN_int.f (a0:Int):Option (Bool):=some (a0 != a0)
set_option maxHeartbeats 8000000 in
set_option maxRecDepth 100000 in
theorem cmp_isNaN_int.calls (a0:Int) (r:Bool) (w:World) (h:cmp_isNaN_int.f a0=some r) :
  Calls Try.prog 67 #[.int .i64 a0] w fun e w'=>e=.returned (.bool r)∧Drawn0 w w':=by
 have H:(some (a0 != a0))=some r:=h
 clear h
 obtain rfl:=Option.some.inj H
 go_enter Try.func67,Try.ntmps67
 go_wp2
 go_ret
 exact⟨by first|rfl|(simp;done)|(simp [*];done),by repeat (first|exact Drawn0.refl _|apply Drawn0.step)⟩
def cmp_Compare_int.f (a0:Int) (a1:Int):Option (Int):=(cmp_isNaN_int.f a0).bind fun t206=>((cmp_isNaN_int.f a1).bind fun t207=>(if t206=true then (if t207=true then (some 0) else (some (-1))) else (if t207=true then (some 1) else (if a0<a1 then (some (-1)) else (if a0 > a1 then (some 1) else (some 0))))))
set_option maxHeartbeats 8000000 in
set_option maxRecDepth 100000 in
theorem cmp_Compare_int.calls (a0:Int) (a1:Int) (r:Int) (w:World) (h:cmp_Compare_int.f a0 a1=some r) :
  Calls Try.prog 66 #[.int .i64 a0,.int .i64 a1] w fun e w'=>e=.returned (.int .i64 r)∧Drawn0 w w':=by
 have H:((cmp_isNaN_int.f a0).bind fun t206=>((cmp_isNaN_int.f a1).bind fun t207=>(if t206=true then (if t207=true then (some 0) else (some (-1))) else (if t207=true then (some 1) else (if a0<a1 then (some (-1)) else (if a0 > a1 then (some 1) else (some 0)))))))=some r:=h
 clear h
 replace H:=Option.bind_eq_some_iff.mp H
 obtain⟨t206,A30,H⟩:=H
 replace H:((cmp_isNaN_int.f a1).bind fun t207=>(if t206=true then (if t207=true then (some 0) else (some (-1))) else (if t207=true then (some 1) else (if a0<a1 then (some (-1)) else (if a0 > a1 then (some 1) else (some 0))))))=some r:=H
 have A3:=Aside0.mk A30
 clear A30
 replace H:=Option.bind_eq_some_iff.mp H
 obtain⟨t207,A40,H⟩:=H
 replace H:(if t206=true then (if t207=true then (some 0) else (some (-1))) else (if t207=true then (some 1) else (if a0<a1 then (some (-1)) else (if a0 > a1 then (some 1) else (some 0)))))=some r:=H
 have A4:=Aside0.mk A40
 clear A40
 by_cases c5:t206=true
 ·subst c5
  have H1:(if t207=true then (some 0) else (some (-1)))=some r:=by rw [if_pos rfl] at H;exact H
  clear H
  have H:=H1
  clear H1
  by_cases c6:t207=true
  ·subst c6
   have H1:(some 0)=some r:=by rw [if_pos rfl] at H;exact H
   clear H
   have H:=H1
   clear H1
   obtain rfl:=Option.some.inj H
   go_enter Try.func66,Try.ntmps66
   go_wp2_with (first|((with_reducible refine gate_callee (f:=67) rfl ?_);refine goesL_ (some 8) rfl rfl Try.func67 (by kernel_rfl) rfl #[.int .i64 a0] rfl (by (try simp only [List.map_toArray,List.map_cons,List.map_nil]);first|done|rfl|(simp only [List.length_drop,List.length_take];rfl)) ?_;(with_reducible refine(cmp_isNaN_int.calls a0 true _ A3.out).mono ?_);rintro e w' ⟨rfl,⟨nd,rfl⟩⟩;refine⟨_,rfl,?_⟩)|((with_reducible refine gate_callee (f:=67) rfl ?_);refine goesL_ (some 10) rfl rfl Try.func67 (by kernel_rfl) rfl #[.int .i64 a1] rfl (by (try simp only [List.map_toArray,List.map_cons,List.map_nil]);first|done|rfl|(simp only [List.length_drop,List.length_take];rfl)) ?_;(with_reducible refine(cmp_isNaN_int.calls a1 true _ A4.out).mono ?_);rintro e w' ⟨rfl,⟨nd,rfl⟩⟩;refine⟨_,rfl,?_⟩))
   go_ret
   exact⟨by first|rfl|(simp;done)|(simp [*];done),by repeat (first|exact Drawn0.refl _|apply Drawn0.step)⟩
  ·replace c6:=Bool.eq_false_iff.mpr c6
   subst c6
   have H1:(some (-1))=some r:=by rw [if_neg (show ¬(false=true) by decide)] at H;exact H
   clear H
   have H:=H1
   clear H1
   obtain rfl:=Option.some.inj H
   go_enter Try.func66,Try.ntmps66
   go_wp2_with (first|((with_reducible refine gate_callee (f:=67) rfl ?_);refine goesL_ (some 8) rfl rfl Try.func67 (by kernel_rfl) rfl #[.int .i64 a0] rfl (by (try simp only [List.map_toArray,List.map_cons,List.map_nil]);first|done|rfl|(simp only [List.length_drop,List.length_take];rfl)) ?_;(with_reducible refine(cmp_isNaN_int.calls a0 true _ A3.out).mono ?_);rintro e w' ⟨rfl,⟨nd,rfl⟩⟩;refine⟨_,rfl,?_⟩)|((with_reducible refine gate_callee (f:=67) rfl ?_);refine goesL_ (some 10) rfl rfl Try.func67 (by kernel_rfl) rfl #[.int .i64 a1] rfl (by (try simp only [List.map_toArray,List.map_cons,List.map_nil]);first|done|rfl|(simp only [List.length_drop,List.length_take];rfl)) ?_;(with_reducible refine(cmp_isNaN_int.calls a1 false _ A4.out).mono ?_);rintro e w' ⟨rfl,⟨nd,rfl⟩⟩;refine⟨_,rfl,?_⟩))
   go_ret
   exact⟨by first|rfl|(simp;done)|(simp [*];done),by repeat (first|exact Drawn0.refl _|apply Drawn0.step)⟩
 ·replace c5:=Bool.eq_false_iff.mpr c5
  subst c5
  have H1:(if t207=true then (some 1) else (if a0<a1 then (some (-1)) else (if a0 > a1 then (some 1) else (some 0))))=some r:=by rw [if_neg (show ¬(false=true) by decide)] at H;exact H
  clear H
  have H:=H1
  clear H1
  by_cases c7:t207=true
  ·subst c7
   have H1:(some 1)=some r:=by rw [if_pos rfl] at H;exact H
   clear H
   have H:=H1
   clear H1
   obtain rfl:=Option.some.inj H
   go_enter Try.func66,Try.ntmps66
   go_wp2_with (first|((with_reducible refine gate_callee (f:=67) rfl ?_);refine goesL_ (some 8) rfl rfl Try.func67 (by kernel_rfl) rfl #[.int .i64 a0] rfl (by (try simp only [List.map_toArray,List.map_cons,List.map_nil]);first|done|rfl|(simp only [List.length_drop,List.length_take];rfl)) ?_;(with_reducible refine(cmp_isNaN_int.calls a0 false _ A3.out).mono ?_);rintro e w' ⟨rfl,⟨nd,rfl⟩⟩;refine⟨_,rfl,?_⟩)|((with_reducible refine gate_callee (f:=67) rfl ?_);refine goesL_ (some 10) rfl rfl Try.func67 (by kernel_rfl) rfl #[.int .i64 a1] rfl (by (try simp only [List.map_toArray,List.map_cons,List.map_nil]);first|done|rfl|(simp only [List.length_drop,List.length_take];rfl)) ?_;(with_reducible refine(cmp_isNaN_int.calls a1 true _ A4.out).mono ?_);rintro e w' ⟨rfl,⟨nd,rfl⟩⟩;refine⟨_,rfl,?_⟩))
   go_ret
   exact⟨by first|rfl|(simp;done)|(simp [*];done),by repeat (first|exact Drawn0.refl _|apply Drawn0.step)⟩
  ·replace c7:=Bool.eq_false_iff.mpr c7
   subst c7
   have H1:(if a0<a1 then (some (-1)) else (if a0 > a1 then (some 1) else (some 0)))=some r:=by rw [if_neg (show ¬(false=true) by decide)] at H;exact H
   clear H
   have H:=H1
   clear H1
   by_cases c8:a0<a1
   ·rw [if_pos c8] at H
    have c8b0:decide (a0<a1)=true:=decide_eq_true c8
    clear c8
    obtain rfl:=Option.some.inj H
    go_enter Try.func66,Try.ntmps66
    go_wp2_with (first|((with_reducible refine gate_callee (f:=67) rfl ?_);refine goesL_ (some 8) rfl rfl Try.func67 (by kernel_rfl) rfl #[.int .i64 a0] rfl (by (try simp only [List.map_toArray,List.map_cons,List.map_nil]);first|done|rfl|(simp only [List.length_drop,List.length_take];rfl)) ?_;(with_reducible refine(cmp_isNaN_int.calls a0 false _ A3.out).mono ?_);rintro e w' ⟨rfl,⟨nd,rfl⟩⟩;refine⟨_,rfl,?_⟩)|((with_reducible refine gate_callee (f:=67) rfl ?_);refine goesL_ (some 10) rfl rfl Try.func67 (by kernel_rfl) rfl #[.int .i64 a1] rfl (by (try simp only [List.map_toArray,List.map_cons,List.map_nil]);first|done|rfl|(simp only [List.length_drop,List.length_take];rfl)) ?_;(with_reducible refine(cmp_isNaN_int.calls a1 false _ A4.out).mono ?_);rintro e w' ⟨rfl,⟨nd,rfl⟩⟩;refine⟨_,rfl,?_⟩))
    go_ret
    exact⟨by first|rfl|(simp;done)|(simp [*];done),by repeat (first|exact Drawn0.refl _|apply Drawn0.step)⟩
   ·rw [if_neg c8] at H
    have c8b0:decide (a0<a1)=false:=decide_eq_false c8
    clear c8
    by_cases c9:a0 > a1
    ·rw [if_pos c9] at H
     have c9b0:decide (a1<a0)=true:=decide_eq_true c9
     clear c9
     obtain rfl:=Option.some.inj H
     go_enter Try.func66,Try.ntmps66
     go_wp2_with (first|((with_reducible refine gate_callee (f:=67) rfl ?_);refine goesL_ (some 8) rfl rfl Try.func67 (by kernel_rfl) rfl #[.int .i64 a0] rfl (by (try simp only [List.map_toArray,List.map_cons,List.map_nil]);first|done|rfl|(simp only [List.length_drop,List.length_take];rfl)) ?_;(with_reducible refine(cmp_isNaN_int.calls a0 false _ A3.out).mono ?_);rintro e w' ⟨rfl,⟨nd,rfl⟩⟩;refine⟨_,rfl,?_⟩)|((with_reducible refine gate_callee (f:=67) rfl ?_);refine goesL_ (some 10) rfl rfl Try.func67 (by kernel_rfl) rfl #[.int .i64 a1] rfl (by (try simp only [List.map_toArray,List.map_cons,List.map_nil]);first|done|rfl|(simp only [List.length_drop,List.length_take];rfl)) ?_;(with_reducible refine(cmp_isNaN_int.calls a1 false _ A4.out).mono ?_);rintro e w' ⟨rfl,⟨nd,rfl⟩⟩;refine⟨_,rfl,?_⟩))
     go_ret
     exact⟨by first|rfl|(simp;done)|(simp [*];done),by repeat (first|exact Drawn0.refl _|apply Drawn0.step)⟩
    ·rw [if_neg c9] at H
     have c9b0:decide (a1<a0)=false:=decide_eq_false c9
     clear c9
     obtain rfl:=Option.some.inj H
     go_enter Try.func66,Try.ntmps66
     go_wp2_with (first|((with_reducible refine gate_callee (f:=67) rfl ?_);refine goesL_ (some 8) rfl rfl Try.func67 (by kernel_rfl) rfl #[.int .i64 a0] rfl (by (try simp only [List.map_toArray,List.map_cons,List.map_nil]);first|done|rfl|(simp only [List.length_drop,List.length_take];rfl)) ?_;(with_reducible refine(cmp_isNaN_int.calls a0 false _ A3.out).mono ?_);rintro e w' ⟨rfl,⟨nd,rfl⟩⟩;refine⟨_,rfl,?_⟩)|((with_reducible refine gate_callee (f:=67) rfl ?_);refine goesL_ (some 10) rfl rfl Try.func67 (by kernel_rfl) rfl #[.int .i64 a1] rfl (by (try simp only [List.map_toArray,List.map_cons,List.map_nil]);first|done|rfl|(simp only [List.length_drop,List.length_take];rfl)) ?_;(with_reducible refine(cmp_isNaN_int.calls a1 false _ A4.out).mono ?_);rintro e w' ⟨rfl,⟨nd,rfl⟩⟩;refine⟨_,rfl,?_⟩))
     go_ret
     exact⟨by first|rfl|(simp;done)|(simp [*];done),by repeat (first|exact Drawn0.refl _|apply Drawn0.step)⟩
def wide_Compare.f (k:Nat) (a0_0:Int) (a0_1:Int) (a1_0:Int) (a1_1:Int):Option (Int):=(wide_known.f a0_0 a0_1).bind fun bt210=>((wide_known.f a1_0 a1_1).bind fun bt212=>((cmp_Compare_int.f bt210.1 bt212.1).bind fun t214=>((cmp_Compare_int.f bt210.2 bt212.2).bind fun t215=>((cmp_Or_int.f k (([t214,t215]:List Int))).bind fun t219=>(some t219)))))
theorem wide_Compare.mono:∀ a0 a1 a2 a3 k,LeO (wide_Compare.f k a0 a1 a2 a3) (wide_Compare.f (k+1) a0 a1 a2 a3):=by
 intro a0 a1 a2 a3 k
 unfold wide_Compare.f
 repeat' first
   | (with_reducible exact cmp_Or_int.mono _ _)
   | (with_reducible exact LeO.refl _)
   | (with_reducible exact LeO.none _)
   | (with_reducible refine LeO.ite ?_ ?_)
   | (with_reducible refine LeO.bind ?_ (fun _=>?_))
   | exact cmp_Or_int.mono _ _
   | exact LeO.none _
   | refine LeO.ite ?_ ?_
   | refine LeO.bind ?_ (fun _=>?_)
def wide_Compare.T2:Bool × List (List Nat × List Nat):=(true,[([],[]),([0],[0]),([],[]),([2],[2]),([1,3],[1,3]),([],[]),([5],[5]),([],[]),([7],[7]),([6,8,4],[6,8]),([4,9],[4,9]),([10,9],[10]),([11,11,0,1,2,3,4,5,6,7,8,9,10,11],[11])])
def wide_Compare.B2:List Nat:=[0,1,0,4,15,0,32,0,128,511,1023,2047,4095]
theorem wide_Compare.tab2:rtab .any (opsOf Try.f58 2)=wide_Compare.T2:=by kernel_rfl
theorem wide_Compare.bits2:waitsOk wide_Compare.T2.2 wide_Compare.B2=true:=by kernel_rfl
set_option maxHeartbeats 8000000 in
set_option maxRecDepth 100000 in
theorem wide_Compare.calls (k:Nat) (a0_0:Int) (a0_1:Int) (a1_0:Int) (a1_1:Int) (r:Int) (w:World) (h:wide_Compare.f k a0_0 a0_1 a1_0 a1_1=some r) :
  Calls Try.prog 58 #[.agg #[.int .i64 a0_0,.int .i64 a0_1],.agg #[.int .i64 a1_0,.int .i64 a1_1]] w fun e w'=>e=.returned (.int .i64 r)∧Below w.heap.size w w':=by
 have hu36:=Try.underlying36
 have HB:=Aside0.mk (Below.refl w.heap.size w)
 have H:((wide_known.f a0_0 a0_1).bind fun bt210=>((wide_known.f a1_0 a1_1).bind fun bt212=>((cmp_Compare_int.f bt210.1 bt212.1).bind fun t214=>((cmp_Compare_int.f bt210.2 bt212.2).bind fun t215=>((cmp_Or_int.f k (([t214,t215]:List Int))).bind fun t219=>(some t219))))))=some r:=h
 clear h
 replace H:=Option.bind_eq_some_iff.mp H
 obtain⟨⟨t210,t211⟩,A30,H⟩:=H
 replace H:((wide_known.f a1_0 a1_1).bind fun bt212=>((cmp_Compare_int.f t210 bt212.1).bind fun t214=>((cmp_Compare_int.f t211 bt212.2).bind fun t215=>((cmp_Or_int.f k (([t214,t215]:List Int))).bind fun t219=>(some t219)))))=some r:=H
 have A3:=Aside0.mk A30
 clear A30
 replace H:=Option.bind_eq_some_iff.mp H
 obtain⟨⟨t212,t213⟩,A40,H⟩:=H
 replace H:((cmp_Compare_int.f t210 t212).bind fun t214=>((cmp_Compare_int.f t211 t213).bind fun t215=>((cmp_Or_int.f k (([t214,t215]:List Int))).bind fun t219=>(some t219))))=some r:=H
 have A4:=Aside0.mk A40
 clear A40
 replace H:=Option.bind_eq_some_iff.mp H
 obtain⟨t214,A50,H⟩:=H
 replace H:((cmp_Compare_int.f t211 t213).bind fun t215=>((cmp_Or_int.f k (([t214,t215]:List Int))).bind fun t219=>(some t219)))=some r:=H
 have A5:=Aside0.mk A50
 clear A50
 replace H:=Option.bind_eq_some_iff.mp H
 obtain⟨t215,A60,H⟩:=H
 replace H:((cmp_Or_int.f k (([t214,t215]:List Int))).bind fun t219=>(some t219))=some r:=H
 have A6:=Aside0.mk A60
 clear A60
 obtain⟨y216,hy216⟩:∃ y_:List Int,y_=(([t214,t215]:List Int)):=⟨_,rfl⟩
 replace H:((cmp_Or_int.f k y216).bind fun t219=>(some t219))=some r:=by first|(rw [hy216];with_reducible exact H)|(have H2_:=(Option.bind_some _ _).symm.trans H;rw [hy216];with_reducible exact H2_)|(have H2_:=(Option.bind_some _ _).symm.trans H;with_reducible exact H2_)|with_reducible exact H|(rw [hy216];exact H)|exact H
 have Ny216:=Aside0.mk hy216
 clear hy216
 replace H:=Option.bind_eq_some_iff.mp H
 obtain⟨t219,A70,H⟩:=H
 replace H:(some t219)=some r:=H
 have A7:=Aside0.mk A70
 clear A70
 obtain rfl:=Option.some.inj H
 go_enter Try.func58,Try.ntmps58
 try go_wp2_with (first|((with_reducible refine gate_dst (N:=2) rfl ?_);refine box_event ?hg (N:=2) ?hd (cs:=#[.int .i64 a0_0,.int .i64 a0_1]) (t:=36) ?hr ?_;(case hd=>rfl);(case hg=>rfl);(case hr=>first|(go_simp;done)|(go_simp;rfl));intro gb208 hg w8 hbox hb;have n0_:=Aside0.mk (below_step (by repeat (first|(with_reducible first|exact HB.out|apply below_alloc|apply pw_below_drewN|apply below_drew1)|exact HB.out)) hb);have n1_:=Aside0.mk (hbox);have n2_:=Aside0.mk ((by rw [hg];exact(below_size (by repeat (first|(with_reducible first|exact HB.out|apply below_alloc|apply pw_below_drewN|apply below_drew1)|exact HB.out))):w.heap.size≤gb208));have n3_:=Aside0.mk ((by rw [hg];exact(below_size (by repeat (first|(with_reducible first|exact HB.out|apply below_alloc|apply pw_below_drewN|apply below_drew1)|exact HB.out))):w.heap.size≤gb208));clear HB;have HB:=n0_;have BK208:=n1_;have GW208:=n2_;have GE208:=n3_;clear n0_ n1_ n2_ n3_;clear hb hbox hg)|((with_reducible refine gate_dst (N:=3) rfl ?_);refine box_event ?hg (N:=3) ?hd (cs:=#[.int .i64 a1_0,.int .i64 a1_1]) (t:=36) ?hr ?_;(case hd=>rfl);(case hg=>rfl);(case hr=>first|(go_simp;done)|(go_simp;rfl));intro gb209 hg w9 hbox hb;have n0_:=Aside0.mk (blk_below (g:=gb208) (o:=.cells #[.int .i64 a0_0,.int .i64 a0_1] 36 (0,0)) (by (with_reducible repeat (first|refine blk_drewN ?_ _|refine blk_drew ?_|refine blk_alloc ?_ _));exact BK208.out) hb);have n1_:=Aside0.mk (below_step (by repeat (first|(with_reducible first|exact HB.out|apply below_alloc|apply pw_below_drewN|apply below_drew1|refine below_set ?_ GE208.out)|exact HB.out)) hb);have n2_:=Aside0.mk (hbox);have n3_:=Aside0.mk ((by rw [hg];exact(below_size (by repeat (first|(with_reducible first|exact HB.out|apply below_alloc|apply pw_below_drewN|apply below_drew1|refine below_set ?_ GE208.out)|exact HB.out))):w.heap.size≤gb209));have n4_:=Aside0.mk ((by rw [hg];exact(below_size (by repeat (first|(with_reducible first|exact HB.out|apply below_alloc|apply pw_below_drewN|apply below_drew1|refine below_set ?_ GE208.out)|exact HB.out))):w.heap.size≤gb209));have n5_:=Aside0.mk ((by rw [hg];exact Nat.ne_of_lt (blk_lt (g:=gb208) (o:=.cells #[.int .i64 a0_0,.int .i64 a0_1] 36 (0,0)) (by (with_reducible repeat (first|refine blk_drewN ?_ _|refine blk_drew ?_|refine blk_alloc ?_ _));exact BK208.out)):gb208≠gb209));have n6_:=Aside0.mk ((by rw [hg];exact Nat.ne_of_gt (blk_lt (g:=gb208) (o:=.cells #[.int .i64 a0_0,.int .i64 a0_1] 36 (0,0)) (by (with_reducible repeat (first|refine blk_drewN ?_ _|refine blk_drew ?_|refine blk_alloc ?_ _));exact BK208.out)):gb209≠gb208));clear BK208;clear HB;have BK208:=n0_;have HB:=n1_;have BK209:=n2_;have GW209:=n3_;have GE209:=n4_;have NB208_209:=n5_;have NB209_208:=n6_;clear n0_ n1_ n2_ n3_ n4_ n5_ n6_;clear hb hbox hg))
 have n0_:=Aside0.mk (blk_drew BK208.out)
 have n1_:=Aside0.mk (blk_drew BK209.out)
 have n2_:=Aside0.mk (below_drew1 HB.out)
 clear BK208
 clear BK209
 clear HB
 have BK208:=n0_
 have BK209:=n1_
 have HB:=n2_
 clear n0_ n1_ n2_
 refine start_ (n:=6) (S:=fun w'=>w'.cell? ⟨gb208,0,none⟩=some (.int .i64 a0_0)∧w'.cell? ⟨gb208,1,none⟩=some (.int .i64 a0_1)∧w'.cell? ⟨gb209,0,none⟩=some (.int .i64 a1_0)∧w'.cell? ⟨gb209,1,none⟩=some (.int .i64 a1_1)) (ds:=[4,5]) #[false,false,false,false,false,false] (by kernel_rfl) rfl rfl ⟨(blk_cell BK208.out 0).trans rfl,(blk_cell BK208.out 1).trans rfl,(blk_cell BK209.out 0).trans rfl,(blk_cell BK209.out 1).trans rfl⟩ (fun hHeld=>?_)
 generalize w9.drew=w10 at BK208 BK209 HB hHeld ⊢
 refine take_ (i:=0) (N:=some 5) (v:=?_) (a':=?_) #[true,false,false,false,false,false] rfl rfl (by kernel_rfl) (fun _ _ _ h=>h) (Or.inl ⟨by rfl,?_⟩) hHeld ?_ ?_
 rotate_left
 ·rintro w' ⟨s0,s1,s2,s3⟩
  go_simp
  with_reducible rfl
 rotate_left
 ·simp only [Act.put,List.setIfInBounds_toArray,List.set_cons_zero,List.set_cons_succ,i64_w,i32_w]
  rfl
 refine take_ (i:=2) (N:=some 7) (v:=?_) (a':=?_) #[true,false,true,false,false,false] rfl rfl (by kernel_rfl) (fun _ _ _ h=>h) (Or.inl ⟨by rfl,?_⟩) hHeld ?_ ?_
 rotate_left
 ·rintro w' ⟨s0,s1,s2,s3⟩
  go_simp
  with_reducible rfl
 rotate_left
 ·simp only [Act.put,List.setIfInBounds_toArray,List.set_cons_zero,List.set_cons_succ,i64_w,i32_w]
  rfl
 refine one_ (i:=1) (N:=some 6) #[true,true,true,false,false,false] rfl rfl (by kernel_rfl) (by decide) (fun K hK=>?_)
 refine goes_ Try.func42 (by kernel_rfl) rfl #[.agg #[.int .i64 a0_0,.int .i64 a0_1]] (by rfl) rfl rfl (by (try simp only [List.map_toArray,List.map_cons,List.map_nil]);first|done|rfl|(simp only [List.length_drop,List.length_take];rfl)) ?_
 with_reducible refine(wide_known.calls a0_0 a0_1 t210 t211 _ A3.out).mono ?_
 rintro e w11 ⟨rfl,hb⟩
 refine⟨_,rfl,?_⟩
 have n0_:=Aside0.mk (blk_below (g:=gb208) (o:=.cells #[.int .i64 a0_0,.int .i64 a0_1] 36 (0,0)) (by (with_reducible repeat (first|refine blk_drewN ?_ _|refine blk_drew ?_|refine blk_alloc ?_ _));exact BK208.out) hb)
 have n1_:=Aside0.mk (blk_below (g:=gb209) (o:=.cells #[.int .i64 a1_0,.int .i64 a1_1] 36 (0,0)) (by (with_reducible repeat (first|refine blk_drewN ?_ _|refine blk_drew ?_|refine blk_alloc ?_ _));exact BK209.out) hb)
 have n2_:=Aside0.mk (below_step (by repeat (first|(with_reducible first|exact HB.out|apply below_alloc|apply pw_below_drewN|apply below_drew1|refine below_set ?_ GE208.out|refine below_set ?_ GE209.out)|exact HB.out)) hb)
 clear BK208
 clear BK209
 clear HB
 have BK208:=n0_
 have BK209:=n1_
 have HB:=n2_
 clear n0_ n1_ n2_
 (try clear hb)
 (try clear hb2)
 (try clear hk)
 (try clear hi)
 refine hK.out _ _ ⟨(blk_cell BK208.out 0).trans rfl,(blk_cell BK208.out 1).trans rfl,(blk_cell BK209.out 0).trans rfl,(blk_cell BK209.out 1).trans rfl⟩ (fun hHeld=>?_)
 clear hK K
 refine norm_ (a':=?_) ?_ ?_
 rotate_left
 ·show Act.put _ (some 6) _=_
  simp only [Act.put,List.setIfInBounds_toArray,List.set_cons_zero,List.set_cons_succ,i64_w,i32_w]
  rfl
 refine one_ (i:=3) (N:=some 8) #[true,true,true,true,false,false] rfl rfl (by kernel_rfl) (by decide) (fun K hK=>?_)
 refine goes_ Try.func42 (by kernel_rfl) rfl #[.agg #[.int .i64 a1_0,.int .i64 a1_1]] (by rfl) rfl rfl (by (try simp only [List.map_toArray,List.map_cons,List.map_nil]);first|done|rfl|(simp only [List.length_drop,List.length_take];rfl)) ?_
 with_reducible refine(wide_known.calls a1_0 a1_1 t212 t213 _ A4.out).mono ?_
 rintro e w12 ⟨rfl,hb⟩
 refine⟨_,rfl,?_⟩
 have n0_:=Aside0.mk (blk_below (g:=gb208) (o:=.cells #[.int .i64 a0_0,.int .i64 a0_1] 36 (0,0)) (by (with_reducible repeat (first|refine blk_drewN ?_ _|refine blk_drew ?_|refine blk_alloc ?_ _));exact BK208.out) hb)
 have n1_:=Aside0.mk (blk_below (g:=gb209) (o:=.cells #[.int .i64 a1_0,.int .i64 a1_1] 36 (0,0)) (by (with_reducible repeat (first|refine blk_drewN ?_ _|refine blk_drew ?_|refine blk_alloc ?_ _));exact BK209.out) hb)
 have n2_:=Aside0.mk (below_step (by repeat (first|(with_reducible first|exact HB.out|apply below_alloc|apply pw_below_drewN|apply below_drew1|refine below_set ?_ GE208.out|refine below_set ?_ GE209.out)|exact HB.out)) hb)
 clear BK208
 clear BK209
 clear HB
 have BK208:=n0_
 have BK209:=n1_
 have HB:=n2_
 clear n0_ n1_ n2_
 (try clear hb)
 (try clear hb2)
 (try clear hk)
 (try clear hi)
 refine hK.out _ _ ⟨(blk_cell BK208.out 0).trans rfl,(blk_cell BK208.out 1).trans rfl,(blk_cell BK209.out 0).trans rfl,(blk_cell BK209.out 1).trans rfl⟩ (fun hHeld=>?_)
 clear hK K
 refine norm_ (a':=?_) ?_ ?_
 rotate_left
 ·show Act.put _ (some 8) _=_
  simp only [Act.put,List.setIfInBounds_toArray,List.set_cons_zero,List.set_cons_succ,i64_w,i32_w]
  rfl
 refine last_ (i:=4) (N:=none) #[true,true,true,true,true,false] rfl rfl (by kernel_rfl) (by decide) (fun K hK=>?_)
 have hs13:w12.cell? ⟨gb208,0,none⟩=some (.int .i64 a0_0):=(blk_cell BK208.out 0).trans rfl
 have hfs13:=blk_frozen BK208.out 0
 have hns13_1:=NB209_208.out
 have hms13_1:=NB208_209.out
 have hs14:w12.cell? ⟨gb208,1,none⟩=some (.int .i64 a0_1):=(blk_cell BK208.out 1).trans rfl
 have hfs14:=blk_frozen BK208.out 1
 have hns14_1:=NB209_208.out
 have hms14_1:=NB208_209.out
 refine skip_ (w1:=?_) (by rfl) rfl ?_ ?_
 rotate_left
 ·go_simp
  rfl
 refine hK.out _ _ ?_
 clear hK K
 refine last_ (i:=5) (N:=none) #[true,true,true,true,true,true] rfl rfl (by kernel_rfl) (by decide) (fun K hK=>?_)
 have hs15:w12.cell? ⟨gb209,0,none⟩=some (.int .i64 a1_0):=(blk_cell BK209.out 0).trans rfl
 have hfs15:=blk_frozen BK209.out 0
 have hns15_0:=NB208_209.out
 have hms15_0:=NB209_208.out
 have hs16:w12.cell? ⟨gb209,1,none⟩=some (.int .i64 a1_1):=(blk_cell BK209.out 1).trans rfl
 have hfs16:=blk_frozen BK209.out 1
 have hns16_0:=NB208_209.out
 have hms16_0:=NB209_208.out
 refine skip_ (w1:=?_) (by rfl) rfl ?_ ?_
 rotate_left
 ·go_simp
  rfl
 refine hK.out _ _ ?_
 clear hK K
 refine done_ (by kernel_rfl) ?_
 try go_wp2
 have n0_:Aside0 (((((w12.setCell ⟨gb208,0,none⟩ (.int .i64 t210)).setCell ⟨gb208,1,none⟩ (.int .i64 t211)).setCell ⟨gb209,0,none⟩ (.int .i64 t212)).setCell ⟨gb209,1,none⟩ (.int .i64 t213)).heap[gb208]? = some (.cells #[.int .i64 t210,.int .i64 t211] 36 (0,0))):=⟨by (with_reducible repeat (first|refine blk_drewN ?_ _|refine blk_drew ?_|refine blk_alloc ?_ _));refine blk_far ?_ NB208_209.out _;(with_reducible repeat (first|refine blk_drewN ?_ _|refine blk_drew ?_|refine blk_alloc ?_ _));refine blk_far ?_ NB208_209.out _;(with_reducible repeat (first|refine blk_drewN ?_ _|refine blk_drew ?_|refine blk_alloc ?_ _));refine blk_put (cs:=#[.int .i64 t210,.int .i64 a0_1]) ?_ 1 _ rfl;(with_reducible repeat (first|refine blk_drewN ?_ _|refine blk_drew ?_|refine blk_alloc ?_ _));refine blk_put (cs:=#[.int .i64 a0_0,.int .i64 a0_1]) ?_ 0 _ rfl;(with_reducible repeat (first|refine blk_drewN ?_ _|refine blk_drew ?_|refine blk_alloc ?_ _));exact BK208.out⟩
 have n1_:Aside0 (((((w12.setCell ⟨gb208,0,none⟩ (.int .i64 t210)).setCell ⟨gb208,1,none⟩ (.int .i64 t211)).setCell ⟨gb209,0,none⟩ (.int .i64 t212)).setCell ⟨gb209,1,none⟩ (.int .i64 t213)).heap[gb209]? = some (.cells #[.int .i64 t212,.int .i64 t213] 36 (0,0))):=⟨by (with_reducible repeat (first|refine blk_drewN ?_ _|refine blk_drew ?_|refine blk_alloc ?_ _));refine blk_put (cs:=#[.int .i64 t212,.int .i64 a1_1]) ?_ 1 _ rfl;(with_reducible repeat (first|refine blk_drewN ?_ _|refine blk_drew ?_|refine blk_alloc ?_ _));refine blk_put (cs:=#[.int .i64 a1_0,.int .i64 a1_1]) ?_ 0 _ rfl;(with_reducible repeat (first|refine blk_drewN ?_ _|refine blk_drew ?_|refine blk_alloc ?_ _));refine blk_far ?_ NB209_208.out _;(with_reducible repeat (first|refine blk_drewN ?_ _|refine blk_drew ?_|refine blk_alloc ?_ _));refine blk_far ?_ NB209_208.out _;(with_reducible repeat (first|refine blk_drewN ?_ _|refine blk_drew ?_|refine blk_alloc ?_ _));exact BK209.out⟩
 have n2_:Aside0 (Below w.heap.size w ((((w12.setCell ⟨gb208,0,none⟩ (.int .i64 t210)).setCell ⟨gb208,1,none⟩ (.int .i64 t211)).setCell ⟨gb209,0,none⟩ (.int .i64 t212)).setCell ⟨gb209,1,none⟩ (.int .i64 t213))):=⟨by repeat (first|(with_reducible first|exact HB.out|apply below_alloc|apply pw_below_drewN|apply below_drew1|refine below_set ?_ GE208.out|refine below_set ?_ GE209.out)|exact HB.out)⟩
 (try clear BK208)
 (try clear BK209)
 (try clear HB)
 generalize ((((w12.setCell ⟨gb208,0,none⟩ (.int .i64 t210)).setCell ⟨gb208,1,none⟩ (.int .i64 t211)).setCell ⟨gb209,0,none⟩ (.int .i64 t212)).setCell ⟨gb209,1,none⟩ (.int .i64 t213))=w17 at n0_ n1_ n2_ ⊢
 have BK208:=n0_
 have BK209:=n1_
 have HB:=n2_
 clear n0_ n1_ n2_
 have n0_:=Aside0.mk (blk_drew BK208.out)
 have n1_:=Aside0.mk (blk_drew BK209.out)
 have n2_:=Aside0.mk (below_drew1 HB.out)
 clear BK208
 clear BK209
 clear HB
 have BK208:=n0_
 have BK209:=n1_
 have HB:=n2_
 clear n0_ n1_ n2_
 refine start_ (n:=13) (S:=fun w'=>w'.cell? ⟨gb208,0,none⟩=some (.int .i64 t210)∧w'.cell? ⟨gb208,1,none⟩=some (.int .i64 t211)∧w'.cell? ⟨gb209,0,none⟩=some (.int .i64 t212)∧w'.cell? ⟨gb209,1,none⟩=some (.int .i64 t213)) (ds:=[]) #[false,false,false,false,false,false,false,false,false,false,false,false,false] (by kernel_rfl) rfl rfl ⟨(blk_cell BK208.out 0).trans rfl,(blk_cell BK208.out 1).trans rfl,(blk_cell BK209.out 0).trans rfl,(blk_cell BK209.out 1).trans rfl⟩ (fun hHeld=>?_);refine with_tabW wide_Compare.tab2 wide_Compare.bits2 (fun HT_ HW_=>?_)
 generalize w17.drew=w18 at BK208 BK209 HB hHeld ⊢
 refine pure_ (i:=0) (N:=some 9) (v:=?_) (a':=?_) #[true,false,false,false,false,false,false,false,false,false,false,false,false] rfl rfl (any_of HT_.out (by kernel_rfl)) (fun _ _ _ h=>h) (Or.inl ⟨by rfl,?_⟩) ?_ ?_
 rotate_left
 ·intro w'
  go_simp
  with_reducible rfl
 rotate_left
 ·simp only [Act.put,List.setIfInBounds_toArray,List.set_cons_zero,List.set_cons_succ,i64_w,i32_w]
  rfl
 refine pure_ (i:=2) (N:=some 11) (v:=?_) (a':=?_) #[true,false,true,false,false,false,false,false,false,false,false,false,false] rfl rfl (any_of HT_.out (by kernel_rfl)) (fun _ _ _ h=>h) (Or.inl ⟨by rfl,?_⟩) ?_ ?_
 rotate_left
 ·intro w'
  go_simp
  with_reducible rfl
 rotate_left
 ·simp only [Act.put,List.setIfInBounds_toArray,List.set_cons_zero,List.set_cons_succ,i64_w,i32_w]
  rfl
 refine pure_ (i:=5) (N:=some 14) (v:=?_) (a':=?_) #[true,false,true,false,false,true,false,false,false,false,false,false,false] rfl rfl (any_of HT_.out (by kernel_rfl)) (fun _ _ _ h=>h) (Or.inl ⟨by rfl,?_⟩) ?_ ?_
 rotate_left
 ·intro w'
  go_simp
  with_reducible rfl
 rotate_left
 ·simp only [Act.put,List.setIfInBounds_toArray,List.set_cons_zero,List.set_cons_succ,i64_w,i32_w]
  rfl
 refine pure_ (i:=7) (N:=some 16) (v:=?_) (a':=?_) #[true,false,true,false,false,true,false,true,false,false,false,false,false] rfl rfl (any_of HT_.out (by kernel_rfl)) (fun _ _ _ h=>h) (Or.inl ⟨by rfl,?_⟩) ?_ ?_
 rotate_left
 ·intro w'
  go_simp
  with_reducible rfl
 rotate_left
 ·simp only [Act.put,List.setIfInBounds_toArray,List.set_cons_zero,List.set_cons_succ,i64_w,i32_w]
  rfl
 refine take_ (i:=1) (N:=some 10) (v:=?_) (a':=?_) #[true,true,true,false,false,true,false,true,false,false,false,false,false] rfl rfl (take_ofW HT_.out HW_.out (by kernel_rfl)) (fun _ _ _ h=>h) (Or.inl ⟨by rfl,?_⟩) hHeld ?_ ?_
 rotate_left
 ·rintro w' ⟨s0,s1,s2,s3⟩
  go_simp
  with_reducible rfl
 rotate_left
 ·simp only [Act.put,List.setIfInBounds_toArray,List.set_cons_zero,List.set_cons_succ,i64_w,i32_w]
  rfl
 refine take_ (i:=3) (N:=some 12) (v:=?_) (a':=?_) #[true,true,true,true,false,true,false,true,false,false,false,false,false] rfl rfl (take_ofW HT_.out HW_.out (by kernel_rfl)) (fun _ _ _ h=>h) (Or.inl ⟨by rfl,?_⟩) hHeld ?_ ?_
 rotate_left
 ·rintro w' ⟨s0,s1,s2,s3⟩
  go_simp
  with_reducible rfl
 rotate_left
 ·simp only [Act.put,List.setIfInBounds_toArray,List.set_cons_zero,List.set_cons_succ,i64_w,i32_w]
  rfl
 refine take_ (i:=6) (N:=some 15) (v:=?_) (a':=?_) #[true,true,true,true,false,true,true,true,false,false,false,false,false] rfl rfl (take_ofW HT_.out HW_.out (by kernel_rfl)) (fun _ _ _ h=>h) (Or.inl ⟨by rfl,?_⟩) hHeld ?_ ?_
 rotate_left
 ·rintro w' ⟨s0,s1,s2,s3⟩
  go_simp
  with_reducible rfl
 rotate_left
 ·simp only [Act.put,List.setIfInBounds_toArray,List.set_cons_zero,List.set_cons_succ,i64_w,i32_w]
  rfl
 refine take_ (i:=8) (N:=some 17) (v:=?_) (a':=?_) #[true,true,true,true,false,true,true,true,true,false,false,false,false] rfl rfl (take_ofW HT_.out HW_.out (by kernel_rfl)) (fun _ _ _ h=>h) (Or.inl ⟨by rfl,?_⟩) hHeld ?_ ?_
 rotate_left
 ·rintro w' ⟨s0,s1,s2,s3⟩
  go_simp
  with_reducible rfl
 rotate_left
 ·simp only [Act.put,List.setIfInBounds_toArray,List.set_cons_zero,List.set_cons_succ,i64_w,i32_w]
  rfl
 refine one_ (i:=4) (N:=some 13) #[true,true,true,true,true,true,true,true,true,false,false,false,false] rfl rfl (one_of HT_.out (by kernel_rfl)) (by decide) (fun K hK=>?_)
 refine goes_ Try.func66 (by kernel_rfl) rfl #[.int .i64 t210,.int .i64 t212] (by rfl) rfl rfl (by (try simp only [List.map_toArray,List.map_cons,List.map_nil]);first|done|rfl|(simp only [List.length_drop,List.length_take];rfl)) ?_
 with_reducible refine(cmp_Compare_int.calls t210 t212 t214 _ A5.out).mono ?_
 rintro e w' ⟨rfl,⟨nd,rfl⟩⟩
 refine⟨_,rfl,?_⟩
 refine hK.out _ _ ⟨(blk_cell BK208.out 0).trans rfl,(blk_cell BK208.out 1).trans rfl,(blk_cell BK209.out 0).trans rfl,(blk_cell BK209.out 1).trans rfl⟩ (fun hHeld=>?_)
 clear hK K
 refine norm_ (a':=?_) ?_ ?_
 rotate_left
 ·show Act.put _ (some 13) _=_
  simp only [Act.put,List.setIfInBounds_toArray,List.set_cons_zero,List.set_cons_succ,i64_w,i32_w]
  rfl
 refine one_ (i:=9) (N:=some 18) #[true,true,true,true,true,true,true,true,true,true,false,false,false] rfl rfl (one_of HT_.out (by kernel_rfl)) (by decide) (fun K hK=>?_)
 refine goes_ Try.func66 (by kernel_rfl) rfl #[.int .i64 t211,.int .i64 t213] (by rfl) rfl rfl (by (try simp only [List.map_toArray,List.map_cons,List.map_nil]);first|done|rfl|(simp only [List.length_drop,List.length_take];rfl)) ?_
 with_reducible refine(cmp_Compare_int.calls t211 t213 t215 _ A6.out).mono ?_
 rintro e w' ⟨rfl,⟨nd,rfl⟩⟩
 refine⟨_,rfl,?_⟩
 refine hK.out _ _ ⟨(blk_cell BK208.out 0).trans rfl,(blk_cell BK208.out 1).trans rfl,(blk_cell BK209.out 0).trans rfl,(blk_cell BK209.out 1).trans rfl⟩ (fun hHeld=>?_)
 clear hK K
 refine norm_ (a':=?_) ?_ ?_
 rotate_left
 ·show Act.put _ (some 18) _=_
  simp only [Act.put,List.setIfInBounds_toArray,List.set_cons_zero,List.set_cons_succ,i64_w,i32_w]
  rfl
 refine one_ (i:=10) (N:=some 19) #[true,true,true,true,true,true,true,true,true,true,true,false,false] rfl rfl (one_of HT_.out (by kernel_rfl)) (by decide) (fun K hK=>?_)
 refine Kd.R_lit_step (Kd.int .i64) _ 3 ?hg (N:=19) ?hd (xs:=([t214,t215]:List Int)) (inner:=[.int .i64 t214,.int .i64 t215]) (ok:=fun _=>True) (okp:=fun _=>True) ?hr ?hp (fun _ hk=>hk) trivial (Below.refl _ _) (Nat.le_refl _) (by simp) ?_;(case hd=>rfl);(case hg=>rfl);(case hr=>first|(go_simp;done)|(go_simp;rfl));(case hp=>exact(Reps.one (show Kd.M (Kd.int .i64) _ _ _ t214 [.int .i64 t214] from rfl) (Reps.one (show Kd.M (Kd.int .i64) _ _ _ t215 [.int .i64 t215] from rfl) (Reps.none _ _))))
 intro v217 w19 ho20 hb hg_ hnew_
 clear hg_ hnew_
 (first|rw [←Ny216.out] at ho20|(simp only [Int.reduceToNat] at ho20;rw [←Ny216.out] at ho20))
 have n0_:=Aside0.mk (Kd.R_lower ho20 (below_size (by repeat (first|(with_reducible first|exact HB.out|apply below_alloc|apply pw_below_drewN|apply below_drew1|refine below_set ?_ GE208.out|refine below_set ?_ GE209.out)|exact HB.out))))
 have n1_:=Aside0.mk (blk_below (g:=gb208) (o:=.cells #[.int .i64 t210,.int .i64 t211] 36 (0,0)) (by (with_reducible repeat (first|refine blk_drewN ?_ _|refine blk_drew ?_|refine blk_alloc ?_ _));exact BK208.out) hb)
 have n2_:=Aside0.mk (blk_below (g:=gb209) (o:=.cells #[.int .i64 t212,.int .i64 t213] 36 (0,0)) (by (with_reducible repeat (first|refine blk_drewN ?_ _|refine blk_drew ?_|refine blk_alloc ?_ _));exact BK209.out) hb)
 have n3_:=Aside0.mk (below_step (by repeat (first|(with_reducible first|exact HB.out|apply below_alloc|apply pw_below_drewN|apply below_drew1|refine below_set ?_ GE208.out|refine below_set ?_ GE209.out)|exact HB.out)) hb)
 clear BK208
 clear BK209
 clear HB
 have HO218:=n0_
 have BK208:=n1_
 have BK209:=n2_
 have HB:=n3_
 clear n0_ n1_ n2_ n3_
 clear hb ho20
 obtain⟨Ao21,co21,eo21⟩:=Kd.R_slice HO218.out
 (first|subst eo21|(injection eo21 with f1_ f2_ f3_;have f4_:=f1_.symm;have f5_:=f3_.symm;clear f1_ f2_ f3_;subst f4_;subst f5_))
 refine hK.out _ _ ⟨(blk_cell BK208.out 0).trans rfl,(blk_cell BK208.out 1).trans rfl,(blk_cell BK209.out 0).trans rfl,(blk_cell BK209.out 1).trans rfl⟩ (fun hHeld=>?_)
 clear hK K
 refine norm_ (a':=?_) ?_ ?_
 rotate_left
 ·show Act.put _ (some 19) _=_
  simp only [Act.put,List.setIfInBounds_toArray,List.set_cons_zero,List.set_cons_succ,i64_w,i32_w]
  rfl
 refine one_ (i:=11) (N:=some 20) #[true,true,true,true,true,true,true,true,true,true,true,true,false] rfl rfl (one_of HT_.out (by kernel_rfl)) (by decide) (fun K hK=>?_)
 refine goes_ Try.func65 (by kernel_rfl) rfl #[.slice Ao21 y216.length co21] (by rfl) rfl rfl (by (try simp only [List.map_toArray,List.map_cons,List.map_nil]);first|done|rfl|(simp only [List.length_drop,List.length_take];rfl)) ?_
 with_reducible refine(cmp_Or_int.calls k _ _ y216 t219 _ ?side1 ?side2 A7.out).mono ?_
 (case side1=>repeat (first|exact(Kd.R_reads' HO218.out).2.2|(with_reducible refine Kd.C_alloc ?_ _)|(with_reducible refine Kd.C_drewN ?_ _)|(with_reducible refine Kd.C_drew ?_)))
 (case side2=>exact(Kd.R_reads' HO218.out).2.1)
 rintro e w' ⟨rfl,⟨nd,rfl⟩⟩
 refine⟨_,rfl,?_⟩
 refine hK.out _ _ ⟨(blk_cell BK208.out 0).trans rfl,(blk_cell BK208.out 1).trans rfl,(blk_cell BK209.out 0).trans rfl,(blk_cell BK209.out 1).trans rfl⟩ (fun hHeld=>?_)
 clear hK K
 refine norm_ (a':=?_) ?_ ?_
 rotate_left
 ·show Act.put _ (some 20) _=_
  simp only [Act.put,List.setIfInBounds_toArray,List.set_cons_zero,List.set_cons_succ,i64_w,i32_w]
  rfl
 refine pure_ (i:=12) (N:=some 4) (v:=?_) (a':=?_) #[true,true,true,true,true,true,true,true,true,true,true,true,true] rfl rfl (any_of HT_.out (by kernel_rfl)) (fun _ _ _ h=>h) (Or.inl ⟨by rfl,?_⟩) ?_ ?_
 rotate_left
 ·intro w'
  go_simp
  with_reducible rfl
 rotate_left
 ·simp only [Act.put,List.setIfInBounds_toArray,List.set_cons_zero,List.set_cons_succ,i64_w,i32_w]
  rfl
 refine done_ (done_of HT_.out (by kernel_rfl)) ?_
 try go_wp2
 go_ret
 exact⟨by first|rfl|(simp [errW_none,errW_some]<;>rfl)|(simp [*,errW_none,errW_some]<;>rfl),by repeat (first|(with_reducible first|exact HB.out|apply below_alloc|apply pw_below_drewN|apply below_drew1|refine below_set ?_ GE208.out|refine below_set ?_ GE209.out)|exact HB.out)⟩
mutual
def root_Wide.j0:Nat→Bool→Int→Int→Option (Int × Bool)
  | 0,_,_,_=>none
  | k+1,x4,x221000,x221001=>if x221000<0 then (some (0,true)) else (root_Wide.l0 k x4 0 288230376151711744 x221000 x221001)
def root_Wide.l0:Nat→Bool→Int→Int→Int→Int→Option (Int × Bool)
  | 0,_,_,_,_,_=>none
  | k+1,x4,x5,x6,x221000,x221001=>if x5<x6 then ((wide_Mul.f (wrap64 (x6-(wrap64 (Int.tdiv (wrap64 (x6-x5)) 2)))) (wrap64 (x6-(wrap64 (Int.tdiv (wrap64 (x6-x5)) 2))))).bind fun bt222=>((wide_Compare.f k bt222.1 bt222.2 x221000 x221001).bind fun t224=>(if t224≤0 then (root_Wide.l0 k x4 (wrap64 (x6-(wrap64 (Int.tdiv (wrap64 (x6-x5)) 2)))) x6 x221000 x221001) else (root_Wide.l0 k x4 x5 (wrap64 ((wrap64 (x6-(wrap64 (Int.tdiv (wrap64 (x6-x5)) 2))))-1)) x221000 x221001)))) else (if x5<288230376151711744 then (some (x5,x4)) else ((wide_Mul.f x5 x5).bind fun bt225=>((wide_Of.f 576460752303423489).bind fun bt227=>((wide_Add.f bt225.1 bt225.2 bt227.1 bt227.2).bind fun bt229=>((wide_Compare.f k bt229.1 bt229.2.1 x221000 x221001).bind fun t233=>(some (x5,decide (t233≤0))))))))
end
def root_Wide.f (k:Nat) (a0_0:Int) (a0_1:Int):Option (Int × Bool):=(wide_Sane.f a0_0 a0_1).bind fun t221=>(if t221=true then (root_Wide.j0 k (!t221) a0_0 a0_1) else (root_Wide.j0 k (!t221) 0 0))
theorem root_Wide.mono_l:∀ k,(∀ y0 y1 y2,LeO (root_Wide.j0 k y0 y1 y2) (root_Wide.j0 (k+1) y0 y1 y2))∧(∀ y0 y1 y2 y3 y4,LeO (root_Wide.l0 k y0 y1 y2 y3 y4) (root_Wide.l0 (k+1) y0 y1 y2 y3 y4))
 | 0=>⟨fun _ _ _ r h=>by simp [root_Wide.j0] at h,fun _ _ _ _ _ r h=>by simp [root_Wide.l0] at h⟩
 | k+1=>by
  obtain⟨ih0,ih1⟩:=root_Wide.mono_l k
  refine⟨?_,?_⟩
  ·intro y0 y1 y2
   unfold root_Wide.j0
   repeat' first
   | (with_reducible exact ih0 _ _ _)
   | (with_reducible exact ih1 _ _ _ _ _)
   | (with_reducible exact wide_Compare.mono _ _ _ _ _)
   | (with_reducible exact LeO.refl _)
   | (with_reducible exact LeO.none _)
   | (with_reducible refine LeO.ite ?_ ?_)
   | (with_reducible refine LeO.bind ?_ (fun _=>?_))
   | exact ih0 _ _ _
   | exact ih1 _ _ _ _ _
   | exact wide_Compare.mono _ _ _ _ _
   | exact LeO.none _
   | refine LeO.ite ?_ ?_
   | refine LeO.bind ?_ (fun _=>?_)
  ·intro y0 y1 y2 y3 y4
   unfold root_Wide.l0
   repeat' first
   | (with_reducible exact ih0 _ _ _)
   | (with_reducible exact ih1 _ _ _ _ _)
   | (with_reducible exact wide_Compare.mono _ _ _ _ _)
   | (with_reducible exact LeO.refl _)
   | (with_reducible exact LeO.none _)
   | (with_reducible refine LeO.ite ?_ ?_)
   | (with_reducible refine LeO.bind ?_ (fun _=>?_))
   | exact ih0 _ _ _
   | exact ih1 _ _ _ _ _
   | exact wide_Compare.mono _ _ _ _ _
   | exact LeO.none _
   | refine LeO.ite ?_ ?_
   | refine LeO.bind ?_ (fun _=>?_)
theorem root_Wide.mono:∀ a0 a1 k,LeO (root_Wide.f k a0 a1) (root_Wide.f (k+1) a0 a1):=by
 intro a0 a1 k
 obtain⟨ih0,ih1⟩:=root_Wide.mono_l k
 unfold root_Wide.f
 repeat' first
   | (with_reducible exact ih0 _ _ _)
   | (with_reducible exact ih1 _ _ _ _ _)
   | (with_reducible exact wide_Compare.mono _ _ _ _ _)
   | (with_reducible exact LeO.refl _)
   | (with_reducible exact LeO.none _)
   | (with_reducible refine LeO.ite ?_ ?_)
   | (with_reducible refine LeO.bind ?_ (fun _=>?_))
   | exact ih0 _ _ _
   | exact ih1 _ _ _ _ _
   | exact wide_Compare.mono _ _ _ _ _
   | exact LeO.none _
   | refine LeO.ite ?_ ?_
   | refine LeO.bind ?_ (fun _=>?_)
theorem code_mono {P:Program} {c:Code} {Q Q':Exit→Act→World→Prop} {a:Act} {w:World} (h:c.wp P Q a w) (g:∀ e a w,Q e a w→Q' e a w):c.wp P Q' a w:=by
 intro b k cs
 obtain⟨e,a1,w1,hq,harr⟩:=h b k cs
 exact⟨e,a1,w1,g _ _ _ hq,harr⟩
theorem least_of {p:Nat→Prop}:∀ n,p n→∃ m,p m∧∀ j,p j→m≤j:=by
 intro n
 induction n using Nat.strongRecOn with
 | _ n ih =>
  intro hn
  by_cases h:∃ j,j<n∧p j
  ·obtain⟨j,hj,pj⟩:=h
   exact ih j hj pj
  ·exact⟨n,hn,fun j pj=>Nat.le_of_not_lt fun hlt=>h ⟨j,hlt,pj⟩⟩
open Classical in
noncomputable def leastOf (p:Nat→Prop):Nat:=if h:∃ n,p n then Classical.choose (least_of _ (Classical.choose_spec h)) else 0
theorem leastOf_spec {p:Nat→Prop} (h:∃ n,p n):p (leastOf p)∧∀ j,p j→leastOf p≤j:=by
 unfold leastOf
 rw [dif_pos h]
 exact Classical.choose_spec (least_of _ (Classical.choose_spec h))
theorem wp_scope_ghost {P:Program} {a:Act} {w:World} {Q:Exit→Act→World→Prop} {c rest:Code} (l:Nat) (J:Nat→Act→World→Prop) (hf:findLabel c l=some (Code.skip.seq rest))
  (pass:∀ n a w,J n a w→rest.wp P (Exit.jump l (fun a' w'=>∃ m,m<n∧J m a' w') Q) a w)
  (first:(∀ n a w,J n a w→rest.wp P (Exit.jump l (fun a' w'=>∃ m,J m a' w') Q) a w)→c.wp P (Exit.jump l (fun a' w'=>∃ m,J m a' w') Q) a w):(Code.scope c).wp P Q a w:=by
 refine wp_scope_jumps l (fun a w=>∃ n,J n a w) (fun a w=>leastOf fun n=>J n a w) hf (first fun n a w h=>code_mono (pass n a w h) ?_) (fun a w h=>wp_seq (wp_skip ?_))
 ·intro e a w hq
  cases e<;>first|exact hq|(obtain⟨h1,m,_,h2⟩:=hq;exact⟨h1,m,h2⟩)
 ·obtain⟨h1,h2⟩:=leastOf_spec h
  show rest.wp P _ a w
  refine code_mono (pass _ a w h1) ?_
  intro e a' w' hq
  cases e<;>first|exact hq|skip
  obtain⟨g1,m,hm,g2⟩:=hq
  exact⟨g1,⟨m,g2⟩,Nat.lt_of_le_of_lt ((leastOf_spec ⟨m,g2⟩).2 m g2) hm⟩
def root_Wide.J (a0 a1:Int) (g:Nat) (bad:Bool) (w0:World) (r1:Int) (r2:Bool) (n:Nat) (a:Act) (w:World):Prop :=
  ∃ (x y lo hi:Int) (u7 u8 u9 u10 u11 u12 u13 u14 u15 u16 u17 u18 u19 u20 u21 u22 u23 u24 u25 u26 u27 u28 u29 u30 u31 u32 u33 u34 u35 u36 u37 u38 u39 u40 u41 u42 u43 u44 u45 u46 u47 u48 u49 u50 u51 u52:Value),a={ tmps:=#[.agg #[.int .i64 a0,.int .i64 a1],.pointer (some ⟨g,0,none⟩),.int .i64 0,.bool false,.bool bad,.int .i64 lo,.int .i64 hi,u7,u8,u9,u10,u11,u12,u13,u14,u15,u16,u17,u18,u19,u20,u21,u22,u23,u24,u25,u26,u27,u28,u29,u30,u31,u32,u33,u34,u35,u36,u37,u38,u39,u40,u41,u42,u43,u44,u45,u46,u47,u48,u49,u50,u51,u52],defers:=[] }∧root_Wide.l0 n bad lo hi x y=some (r1,r2)∧w.heap[g]? = some (.cells #[.int .i64 x,.int .i64 y] 36 (0,0))∧Below w0.heap.size w0 w
theorem root_Wide.J_mk {a0 a1:Int} {g:Nat} {bad:Bool} {w0:World} {r1:Int} {r2:Bool} {n:Nat} {w:World} (x y lo hi:Int) {u7 u8 u9 u10 u11 u12 u13 u14 u15 u16 u17 u18 u19 u20 u21 u22 u23 u24 u25 u26 u27 u28 u29 u30 u31 u32 u33 u34 u35 u36 u37 u38 u39 u40 u41 u42 u43 u44 u45 u46 u47 u48 u49 u50 u51 u52:Value} (h:root_Wide.l0 n bad lo hi x y=some (r1,r2))
  (k:w.heap[g]? = some (.cells #[.int .i64 x,.int .i64 y] 36 (0,0))) (b:Below w0.heap.size w0 w):root_Wide.J a0 a1 g bad w0 r1 r2 n { tmps:=#[.agg #[.int .i64 a0,.int .i64 a1],.pointer (some ⟨g,0,none⟩),.int .i64 0,.bool false,.bool bad,.int .i64 lo,.int .i64 hi,u7,u8,u9,u10,u11,u12,u13,u14,u15,u16,u17,u18,u19,u20,u21,u22,u23,u24,u25,u26,u27,u28,u29,u30,u31,u32,u33,u34,u35,u36,u37,u38,u39,u40,u41,u42,u43,u44,u45,u46,u47,u48,u49,u50,u51,u52],defers:=[] } w :=
 ⟨x,y,lo,hi,u7,u8,u9,u10,u11,u12,u13,u14,u15,u16,u17,u18,u19,u20,u21,u22,u23,u24,u25,u26,u27,u28,u29,u30,u31,u32,u33,u34,u35,u36,u37,u38,u39,u40,u41,u42,u43,u44,u45,u46,u47,u48,u49,u50,u51,u52,rfl,h,k,b⟩
set_option maxHeartbeats 8000000 in
set_option maxRecDepth 100000 in
theorem root_Wide.calls (k:Nat) (a0_0:Int) (a0_1:Int) (r1:Int) (r2:Bool) (w:World) (h:root_Wide.f k a0_0 a0_1=some (r1,r2)) :
  Calls Try.prog 36 #[.agg #[.int .i64 a0_0,.int .i64 a0_1]] w fun e w'=>e=.returned (.tuple #[.int .i64 r1,.bool r2])∧Below w.heap.size w w':=by
 have hu36:=Try.underlying36
 have HB:=Aside0.mk (Below.refl w.heap.size w)
 have H:((wide_Sane.f a0_0 a0_1).bind fun t221=>(if t221=true then (root_Wide.j0 k (!t221) a0_0 a0_1) else (root_Wide.j0 k (!t221) 0 0)))=some (r1,r2):=h
 clear h
 replace H:=Option.bind_eq_some_iff.mp H
 obtain⟨t221,A20,H⟩:=H
 replace H:(if t221=true then (root_Wide.j0 k (!t221) a0_0 a0_1) else (root_Wide.j0 k (!t221) 0 0))=some (r1,r2):=H
 have A2:=Aside0.mk A20
 clear A20
 have HC3:=Aside0.mk H
 clear H
 go_enter Try.func36,Try.ntmps36
 go_wp2_with (((with_reducible refine gate_dst (N:=1) rfl ?_);refine box_event ?hg (N:=1) ?hd (cs:=#[.int .i64 a0_0,.int .i64 a0_1]) (t:=36) ?hr ?_;(case hd=>rfl);(case hg=>rfl);(case hr=>first|(go_simp;done)|(go_simp;rfl));intro gb220 hg w4 hbox hb;have n0_:=Aside0.mk (below_step (by repeat (first|(with_reducible first|exact HB.out|apply below_alloc|apply pw_below_drewN|apply below_drew1)|exact HB.out)) hb);have n1_:=Aside0.mk (hbox);have n2_:=Aside0.mk ((by rw [hg];exact(below_size (by repeat (first|(with_reducible first|exact HB.out|apply below_alloc|apply pw_below_drewN|apply below_drew1)|exact HB.out))):w.heap.size≤gb220));have n3_:=Aside0.mk ((by rw [hg];exact(below_size (by repeat (first|(with_reducible first|exact HB.out|apply below_alloc|apply pw_below_drewN|apply below_drew1)|exact HB.out))):w.heap.size≤gb220));clear HB;have HB:=n0_;have BK220:=n1_;have GW220:=n2_;have GE220:=n3_;clear n0_ n1_ n2_ n3_;clear hb hbox hg;have hcz5_0:w4.cell? ⟨gb220,0,none⟩=some (.int .i64 a0_0):=(blk_cell BK220.out 0).trans rfl;have hcz5_1:w4.cell? ⟨gb220,1,none⟩=some (.int .i64 a0_1):=(blk_cell BK220.out 1).trans rfl;have hfz5_0:=blk_frozen BK220.out 0;have hfz5_1:=blk_frozen BK220.out 1))
 refine wp_scope_ghost 0 (root_Wide.J a0_0 a0_1 gb220 (!t221) w r1 r2) rfl ?_ ?_
 ·intro n a' wr hJ
  clear HC3 BK220 HB
  obtain⟨x221000_2,x221001_2,x5_2,x6_2,u7,u8,u9,u10,u11,u12,u13,u14,u15,u16,u17,u18,u19,u20,u21,u22,u23,u24,u25,u26,u27,u28,u29,u30,u31,u32,u33,u34,u35,u36,u37,u38,u39,u40,u41,u42,u43,u44,u45,u46,u47,u48,u49,u50,u51,u52,rfl,HA0,m1,m2⟩:=hJ
  have HA:=Aside0.mk HA0
  have BK220:=Aside0.mk m1
  have HB:=Aside0.mk m2
  clear HA0 m1 m2
  cases n with
  | zero=>exact absurd HA.out (by simp [root_Wide.l0])
  | succ k2 =>
   have H:=HA.out
   clear HA
   simp only [root_Wide.l0] at H
   by_cases c12:x5_2<x6_2
   ·rw [if_pos c12] at H
    have c12b0:decide (x5_2<x6_2)=true:=decide_eq_true c12
    clear c12
    replace H:=Option.bind_eq_some_iff.mp H
    obtain⟨⟨t222,t223⟩,A130,H⟩:=H
    replace H:((wide_Compare.f k2 t222 t223 x221000_2 x221001_2).bind fun t224=>(if t224≤0 then (root_Wide.l0 k2 (!t221) (wrap64 (x6_2-(wrap64 (Int.tdiv (wrap64 (x6_2-x5_2)) 2)))) x6_2 x221000_2 x221001_2) else (root_Wide.l0 k2 (!t221) x5_2 (wrap64 ((wrap64 (x6_2-(wrap64 (Int.tdiv (wrap64 (x6_2-x5_2)) 2))))-1)) x221000_2 x221001_2)))=some (r1,r2):=H
    have A13:=Aside0.mk A130
    clear A130
    replace H:=Option.bind_eq_some_iff.mp H
    obtain⟨t224,A140,H⟩:=H
    replace H:(if t224≤0 then (root_Wide.l0 k2 (!t221) (wrap64 (x6_2-(wrap64 (Int.tdiv (wrap64 (x6_2-x5_2)) 2)))) x6_2 x221000_2 x221001_2) else (root_Wide.l0 k2 (!t221) x5_2 (wrap64 ((wrap64 (x6_2-(wrap64 (Int.tdiv (wrap64 (x6_2-x5_2)) 2))))-1)) x221000_2 x221001_2))=some (r1,r2):=H
    have A14:=Aside0.mk A140
    clear A140
    by_cases c15:t224≤0
    ·rw [if_pos c15] at H
     have c15b0:decide (t224≤0)=true:=decide_eq_true c15
     clear c15
     have H':=Aside0.mk H
     clear H
     try go_wp2
     have n0_:=Aside0.mk (blk_drew BK220.out)
     have n1_:=Aside0.mk (below_drew1 HB.out)
     clear BK220
     clear HB
     have BK220:=n0_
     have HB:=n1_
     clear n0_ n1_
     refine start_ (n:=6) (S:=fun w'=>w'.cell? ⟨gb220,0,none⟩=some (.int .i64 x221000_2)∧w'.cell? ⟨gb220,1,none⟩=some (.int .i64 x221001_2)) (ds:=[]) #[false,false,false,false,false,false] (by kernel_rfl) rfl rfl ⟨(blk_cell BK220.out 0).trans rfl,(blk_cell BK220.out 1).trans rfl⟩ (fun hHeld=>?_)
     generalize wr.drew=w16 at BK220 HB hHeld ⊢
     refine pure_ (i:=0) (N:=some 27) (v:=?_) (a':=?_) #[true,false,false,false,false,false] rfl rfl (by kernel_rfl) (fun _ _ _ h=>h) (Or.inl ⟨by rfl,?_⟩) ?_ ?_
     rotate_left
     ·intro w'
      go_simp
      with_reducible rfl
     rotate_left
     ·simp only [Act.put,List.setIfInBounds_toArray,List.set_cons_zero,List.set_cons_succ,i64_w,i32_w]
      rfl
     refine pure_ (i:=1) (N:=some 28) (v:=?_) (a':=?_) #[true,true,false,false,false,false] rfl rfl (by kernel_rfl) (fun _ _ _ h=>h) (Or.inl ⟨by rfl,?_⟩) ?_ ?_
     rotate_left
     ·intro w'
      go_simp
      with_reducible rfl
     rotate_left
     ·simp only [Act.put,List.setIfInBounds_toArray,List.set_cons_zero,List.set_cons_succ,i64_w,i32_w]
      rfl
     refine take_ (i:=3) (N:=some 30) (v:=?_) (a':=?_) #[true,true,false,true,false,false] rfl rfl (by kernel_rfl) (fun _ _ _ h=>h) (Or.inl ⟨by rfl,?_⟩) hHeld ?_ ?_
     rotate_left
     ·rintro w' ⟨s0,s1⟩
      go_simp
      with_reducible rfl
     rotate_left
     ·simp only [Act.put,List.setIfInBounds_toArray,List.set_cons_zero,List.set_cons_succ,i64_w,i32_w]
      rfl
     refine one_ (i:=2) (N:=some 29) #[true,true,true,true,false,false] rfl rfl (by kernel_rfl) (by decide) (fun K hK=>?_)
     refine goes_ Try.func40 (by kernel_rfl) rfl #[.int .i64 (wrap64 (x6_2-(wrap64 (Int.tdiv (wrap64 (x6_2-x5_2)) 2)))),.int .i64 (wrap64 (x6_2-(wrap64 (Int.tdiv (wrap64 (x6_2-x5_2)) 2))))] (by rfl) rfl rfl (by (try simp only [List.map_toArray,List.map_cons,List.map_nil]);first|done|rfl|(simp only [List.length_drop,List.length_take];rfl)) ?_
     with_reducible refine(wide_Mul.calls (wrap64 (x6_2-(wrap64 (Int.tdiv (wrap64 (x6_2-x5_2)) 2)))) (wrap64 (x6_2-(wrap64 (Int.tdiv (wrap64 (x6_2-x5_2)) 2)))) t222 t223 _ A13.out).mono ?_
     rintro e w17 ⟨rfl,hb⟩
     refine⟨_,rfl,?_⟩
     have n0_:=Aside0.mk (blk_below (g:=gb220) (o:=.cells #[.int .i64 x221000_2,.int .i64 x221001_2] 36 (0,0)) (by (with_reducible repeat (first|refine blk_drewN ?_ _|refine blk_drew ?_|refine blk_alloc ?_ _));exact BK220.out) hb)
     have n1_:=Aside0.mk (below_step (by repeat (first|(with_reducible first|exact HB.out|apply below_alloc|apply pw_below_drewN|apply below_drew1|refine below_set ?_ GE220.out)|exact HB.out)) hb)
     clear BK220
     clear HB
     have BK220:=n0_
     have HB:=n1_
     clear n0_ n1_
     (try clear hb)
     (try clear hb2)
     (try clear hk)
     (try clear hi)
     refine hK.out _ _ ⟨(blk_cell BK220.out 0).trans rfl,(blk_cell BK220.out 1).trans rfl⟩ (fun hHeld=>?_)
     clear hK K
     refine norm_ (a':=?_) ?_ ?_
     rotate_left
     ·show Act.put _ (some 29) _=_
      simp only [Act.put,List.setIfInBounds_toArray,List.set_cons_zero,List.set_cons_succ,i64_w,i32_w]
      rfl
     refine one_ (i:=4) (N:=some 31) #[true,true,true,true,true,false] rfl rfl (by kernel_rfl) (by decide) (fun K hK=>?_)
     refine goes_ Try.func58 (by kernel_rfl) rfl #[.agg #[.int .i64 t222,.int .i64 t223],.agg #[.int .i64 x221000_2,.int .i64 x221001_2]] (by rfl) rfl rfl (by (try simp only [List.map_toArray,List.map_cons,List.map_nil]);first|done|rfl|(simp only [List.length_drop,List.length_take];rfl)) ?_
     with_reducible refine(wide_Compare.calls k2 t222 t223 x221000_2 x221001_2 t224 _ A14.out).mono ?_
     rintro e w18 ⟨rfl,hb⟩
     refine⟨_,rfl,?_⟩
     have n0_:=Aside0.mk (blk_below (g:=gb220) (o:=.cells #[.int .i64 x221000_2,.int .i64 x221001_2] 36 (0,0)) (by (with_reducible repeat (first|refine blk_drewN ?_ _|refine blk_drew ?_|refine blk_alloc ?_ _));exact BK220.out) hb)
     have n1_:=Aside0.mk (below_step (by repeat (first|(with_reducible first|exact HB.out|apply below_alloc|apply pw_below_drewN|apply below_drew1|refine below_set ?_ GE220.out)|exact HB.out)) hb)
     clear BK220
     clear HB
     have BK220:=n0_
     have HB:=n1_
     clear n0_ n1_
     (try clear hb)
     (try clear hb2)
     (try clear hk)
     (try clear hi)
     refine hK.out _ _ ⟨(blk_cell BK220.out 0).trans rfl,(blk_cell BK220.out 1).trans rfl⟩ (fun hHeld=>?_)
     clear hK K
     refine norm_ (a':=?_) ?_ ?_
     rotate_left
     ·show Act.put _ (some 31) _=_
      simp only [Act.put,List.setIfInBounds_toArray,List.set_cons_zero,List.set_cons_succ,i64_w,i32_w]
      rfl
     refine pure_ (i:=5) (N:=some 32) (v:=?_) (a':=?_) #[true,true,true,true,true,true] rfl rfl (by kernel_rfl) (fun _ _ _ h=>h) (Or.inl ⟨by rfl,?_⟩) ?_ ?_
     rotate_left
     ·intro w'
      go_simp
      with_reducible rfl
     rotate_left
     ·simp only [Act.put,List.setIfInBounds_toArray,List.set_cons_zero,List.set_cons_succ,i64_w,i32_w]
      rfl
     refine done_ (by kernel_rfl) ?_
     try go_wp2
     go_step3
     refine⟨rfl,k2,Nat.lt_succ_self _,root_Wide.J_mk x221000_2 x221001_2 (wrap64 (x6_2-(wrap64 (Int.tdiv (wrap64 (x6_2-x5_2)) 2)))) (x6_2) H'.out ?_ ?_⟩
     ·(with_reducible repeat (first|refine blk_drewN ?_ _|refine blk_drew ?_|refine blk_alloc ?_ _));exact BK220.out
     ·repeat (first|(with_reducible first|exact HB.out|apply below_alloc|apply pw_below_drewN|apply below_drew1|refine below_set ?_ GE220.out)|exact HB.out)
    ·rw [if_neg c15] at H
     have c15b0:decide (t224≤0)=false:=decide_eq_false c15
     clear c15
     have H':=Aside0.mk H
     clear H
     try go_wp2
     have n0_:=Aside0.mk (blk_drew BK220.out)
     have n1_:=Aside0.mk (below_drew1 HB.out)
     clear BK220
     clear HB
     have BK220:=n0_
     have HB:=n1_
     clear n0_ n1_
     refine start_ (n:=6) (S:=fun w'=>w'.cell? ⟨gb220,0,none⟩=some (.int .i64 x221000_2)∧w'.cell? ⟨gb220,1,none⟩=some (.int .i64 x221001_2)) (ds:=[]) #[false,false,false,false,false,false] (by kernel_rfl) rfl rfl ⟨(blk_cell BK220.out 0).trans rfl,(blk_cell BK220.out 1).trans rfl⟩ (fun hHeld=>?_)
     generalize wr.drew=w19 at BK220 HB hHeld ⊢
     refine pure_ (i:=0) (N:=some 27) (v:=?_) (a':=?_) #[true,false,false,false,false,false] rfl rfl (by kernel_rfl) (fun _ _ _ h=>h) (Or.inl ⟨by rfl,?_⟩) ?_ ?_
     rotate_left
     ·intro w'
      go_simp
      with_reducible rfl
     rotate_left
     ·simp only [Act.put,List.setIfInBounds_toArray,List.set_cons_zero,List.set_cons_succ,i64_w,i32_w]
      rfl
     refine pure_ (i:=1) (N:=some 28) (v:=?_) (a':=?_) #[true,true,false,false,false,false] rfl rfl (by kernel_rfl) (fun _ _ _ h=>h) (Or.inl ⟨by rfl,?_⟩) ?_ ?_
     rotate_left
     ·intro w'
      go_simp
      with_reducible rfl
     rotate_left
     ·simp only [Act.put,List.setIfInBounds_toArray,List.set_cons_zero,List.set_cons_succ,i64_w,i32_w]
      rfl
     refine take_ (i:=3) (N:=some 30) (v:=?_) (a':=?_) #[true,true,false,true,false,false] rfl rfl (by kernel_rfl) (fun _ _ _ h=>h) (Or.inl ⟨by rfl,?_⟩) hHeld ?_ ?_
     rotate_left
     ·rintro w' ⟨s0,s1⟩
      go_simp
      with_reducible rfl
     rotate_left
     ·simp only [Act.put,List.setIfInBounds_toArray,List.set_cons_zero,List.set_cons_succ,i64_w,i32_w]
      rfl
     refine one_ (i:=2) (N:=some 29) #[true,true,true,true,false,false] rfl rfl (by kernel_rfl) (by decide) (fun K hK=>?_)
     refine goes_ Try.func40 (by kernel_rfl) rfl #[.int .i64 (wrap64 (x6_2-(wrap64 (Int.tdiv (wrap64 (x6_2-x5_2)) 2)))),.int .i64 (wrap64 (x6_2-(wrap64 (Int.tdiv (wrap64 (x6_2-x5_2)) 2))))] (by rfl) rfl rfl (by (try simp only [List.map_toArray,List.map_cons,List.map_nil]);first|done|rfl|(simp only [List.length_drop,List.length_take];rfl)) ?_
     with_reducible refine(wide_Mul.calls (wrap64 (x6_2-(wrap64 (Int.tdiv (wrap64 (x6_2-x5_2)) 2)))) (wrap64 (x6_2-(wrap64 (Int.tdiv (wrap64 (x6_2-x5_2)) 2)))) t222 t223 _ A13.out).mono ?_
     rintro e w20 ⟨rfl,hb⟩
     refine⟨_,rfl,?_⟩
     have n0_:=Aside0.mk (blk_below (g:=gb220) (o:=.cells #[.int .i64 x221000_2,.int .i64 x221001_2] 36 (0,0)) (by (with_reducible repeat (first|refine blk_drewN ?_ _|refine blk_drew ?_|refine blk_alloc ?_ _));exact BK220.out) hb)
     have n1_:=Aside0.mk (below_step (by repeat (first|(with_reducible first|exact HB.out|apply below_alloc|apply pw_below_drewN|apply below_drew1|refine below_set ?_ GE220.out)|exact HB.out)) hb)
     clear BK220
     clear HB
     have BK220:=n0_
     have HB:=n1_
     clear n0_ n1_
     (try clear hb)
     (try clear hb2)
     (try clear hk)
     (try clear hi)
     refine hK.out _ _ ⟨(blk_cell BK220.out 0).trans rfl,(blk_cell BK220.out 1).trans rfl⟩ (fun hHeld=>?_)
     clear hK K
     refine norm_ (a':=?_) ?_ ?_
     rotate_left
     ·show Act.put _ (some 29) _=_
      simp only [Act.put,List.setIfInBounds_toArray,List.set_cons_zero,List.set_cons_succ,i64_w,i32_w]
      rfl
     refine one_ (i:=4) (N:=some 31) #[true,true,true,true,true,false] rfl rfl (by kernel_rfl) (by decide) (fun K hK=>?_)
     refine goes_ Try.func58 (by kernel_rfl) rfl #[.agg #[.int .i64 t222,.int .i64 t223],.agg #[.int .i64 x221000_2,.int .i64 x221001_2]] (by rfl) rfl rfl (by (try simp only [List.map_toArray,List.map_cons,List.map_nil]);first|done|rfl|(simp only [List.length_drop,List.length_take];rfl)) ?_
     with_reducible refine(wide_Compare.calls k2 t222 t223 x221000_2 x221001_2 t224 _ A14.out).mono ?_
     rintro e w21 ⟨rfl,hb⟩
     refine⟨_,rfl,?_⟩
     have n0_:=Aside0.mk (blk_below (g:=gb220) (o:=.cells #[.int .i64 x221000_2,.int .i64 x221001_2] 36 (0,0)) (by (with_reducible repeat (first|refine blk_drewN ?_ _|refine blk_drew ?_|refine blk_alloc ?_ _));exact BK220.out) hb)
     have n1_:=Aside0.mk (below_step (by repeat (first|(with_reducible first|exact HB.out|apply below_alloc|apply pw_below_drewN|apply below_drew1|refine below_set ?_ GE220.out)|exact HB.out)) hb)
     clear BK220
     clear HB
     have BK220:=n0_
     have HB:=n1_
     clear n0_ n1_
     (try clear hb)
     (try clear hb2)
     (try clear hk)
     (try clear hi)
     refine hK.out _ _ ⟨(blk_cell BK220.out 0).trans rfl,(blk_cell BK220.out 1).trans rfl⟩ (fun hHeld=>?_)
     clear hK K
     refine norm_ (a':=?_) ?_ ?_
     rotate_left
     ·show Act.put _ (some 31) _=_
      simp only [Act.put,List.setIfInBounds_toArray,List.set_cons_zero,List.set_cons_succ,i64_w,i32_w]
      rfl
     refine pure_ (i:=5) (N:=some 32) (v:=?_) (a':=?_) #[true,true,true,true,true,true] rfl rfl (by kernel_rfl) (fun _ _ _ h=>h) (Or.inl ⟨by rfl,?_⟩) ?_ ?_
     rotate_left
     ·intro w'
      go_simp
      with_reducible rfl
     rotate_left
     ·simp only [Act.put,List.setIfInBounds_toArray,List.set_cons_zero,List.set_cons_succ,i64_w,i32_w]
      rfl
     refine done_ (by kernel_rfl) ?_
     try go_wp2
     go_step3
     refine⟨rfl,k2,Nat.lt_succ_self _,root_Wide.J_mk x221000_2 x221001_2 (x5_2) (wrap64 ((wrap64 (x6_2-(wrap64 (Int.tdiv (wrap64 (x6_2-x5_2)) 2))))-1)) H'.out ?_ ?_⟩
     ·(with_reducible repeat (first|refine blk_drewN ?_ _|refine blk_drew ?_|refine blk_alloc ?_ _));exact BK220.out
     ·repeat (first|(with_reducible first|exact HB.out|apply below_alloc|apply pw_below_drewN|apply below_drew1|refine below_set ?_ GE220.out)|exact HB.out)
   ·rw [if_neg c12] at H
    have c12b0:decide (x5_2<x6_2)=false:=decide_eq_false c12
    clear c12
    by_cases c22:x5_2<288230376151711744
    ·rw [if_pos c22] at H
     have c22b0:decide (x5_2<288230376151711744)=true:=decide_eq_true c22
     clear c22
     simp only [Option.some.injEq,Prod.mk.injEq] at H
     obtain⟨rfl,rfl⟩:=H
     go_wp2
     simp only [Exit.jump]
     go_ret2
     exact⟨by first|rfl|(simp [errW_none,errW_some]<;>rfl)|(simp [*,errW_none,errW_some]<;>rfl),by repeat (first|(with_reducible first|exact HB.out|apply below_alloc|apply pw_below_drewN|apply below_drew1|refine below_set ?_ GE220.out)|exact HB.out)⟩
    ·rw [if_neg c22] at H
     have c22b0:decide (x5_2<288230376151711744)=false:=decide_eq_false c22
     clear c22
     replace H:=Option.bind_eq_some_iff.mp H
     obtain⟨⟨t225,t226⟩,A230,H⟩:=H
     replace H:((wide_Of.f 576460752303423489).bind fun bt227=>((wide_Add.f t225 t226 bt227.1 bt227.2).bind fun bt229=>((wide_Compare.f k2 bt229.1 bt229.2.1 x221000_2 x221001_2).bind fun t233=>(some (x5_2,decide (t233≤0))))))=some (r1,r2):=H
     have A23:=Aside0.mk A230
     clear A230
     replace H:=Option.bind_eq_some_iff.mp H
     obtain⟨⟨t227,t228⟩,A240,H⟩:=H
     replace H:((wide_Add.f t225 t226 t227 t228).bind fun bt229=>((wide_Compare.f k2 bt229.1 bt229.2.1 x221000_2 x221001_2).bind fun t233=>(some (x5_2,decide (t233≤0)))))=some (r1,r2):=H
     have A24:=Aside0.mk A240
     clear A240
     replace H:=Option.bind_eq_some_iff.mp H
     obtain⟨⟨t229,t230,t231⟩,A250,H⟩:=H
     replace H:((wide_Compare.f k2 t229 t230 x221000_2 x221001_2).bind fun t233=>(some (x5_2,decide (t233≤0))))=some (r1,r2):=H
     have A25:=Aside0.mk A250
     clear A250
     replace H:=Option.bind_eq_some_iff.mp H
     obtain⟨t233,A260,H⟩:=H
     replace H:(some (x5_2,decide (t233≤0)))=some (r1,r2):=H
     have A26:=Aside0.mk A260
     clear A260
     simp only [Option.some.injEq,Prod.mk.injEq] at H
     obtain⟨rfl,rfl⟩:=H
     go_wp2_with (first|((with_reducible refine gate_callee (f:=40) rfl ?_);refine goesL_ (some 43) rfl rfl Try.func40 (by kernel_rfl) rfl #[.int .i64 x5_2,.int .i64 x5_2] rfl (by (try simp only [List.map_toArray,List.map_cons,List.map_nil]);first|done|rfl|(simp only [List.length_drop,List.length_take];rfl)) ?_;(with_reducible refine(wide_Mul.calls x5_2 x5_2 t225 t226 _ A23.out).mono ?_);rintro e w27 ⟨rfl,hb⟩;refine⟨_,rfl,?_⟩;have n0_:=Aside0.mk (blk_below (g:=gb220) (o:=.cells #[.int .i64 x221000_2,.int .i64 x221001_2] 36 (0,0)) (by (with_reducible repeat (first|refine blk_drewN ?_ _|refine blk_drew ?_|refine blk_alloc ?_ _));exact BK220.out) hb);have n1_:=Aside0.mk (below_step (by repeat (first|(with_reducible first|exact HB.out|apply below_alloc|apply pw_below_drewN|apply below_drew1|refine below_set ?_ GE220.out)|exact HB.out)) hb);clear BK220;clear HB;have BK220:=n0_;have HB:=n1_;clear n0_ n1_;(try clear hb);(try clear hb2);(try clear hk);(try clear hi))|((with_reducible refine gate_callee (f:=46) rfl ?_);refine goesL_ (some 44) rfl rfl Try.func46 (by kernel_rfl) rfl #[.int .i64 576460752303423489] rfl (by (try simp only [List.map_toArray,List.map_cons,List.map_nil]);first|done|rfl|(simp only [List.length_drop,List.length_take];rfl)) ?_;(with_reducible refine(wide_Of.calls 576460752303423489 t227 t228 _ A24.out).mono ?_);rintro e w28 ⟨rfl,hb⟩;refine⟨_,rfl,?_⟩;have n0_:=Aside0.mk (blk_below (g:=gb220) (o:=.cells #[.int .i64 x221000_2,.int .i64 x221001_2] 36 (0,0)) (by (with_reducible repeat (first|refine blk_drewN ?_ _|refine blk_drew ?_|refine blk_alloc ?_ _));exact BK220.out) hb);have n1_:=Aside0.mk (below_step (by repeat (first|(with_reducible first|exact HB.out|apply below_alloc|apply pw_below_drewN|apply below_drew1|refine below_set ?_ GE220.out)|exact HB.out)) hb);clear BK220;clear HB;have BK220:=n0_;have HB:=n1_;clear n0_ n1_;(try clear hb);(try clear hb2);(try clear hk);(try clear hi))|((with_reducible refine gate_callee (f:=43) rfl ?_);refine goesL_ (some 45) rfl rfl Try.func43 (by kernel_rfl) rfl #[.agg #[.int .i64 t225,.int .i64 t226],.agg #[.int .i64 t227,.int .i64 t228]] rfl (by (try simp only [List.map_toArray,List.map_cons,List.map_nil]);first|done|rfl|(simp only [List.length_drop,List.length_take];rfl)) ?_;(with_reducible refine(wide_Add.calls t225 t226 t227 t228 t229 t230 t231 _ A25.out).mono ?_);rintro e w29 ⟨rfl,hb⟩;refine⟨_,rfl,?_⟩;have n0_:=Aside0.mk (blk_below (g:=gb220) (o:=.cells #[.int .i64 x221000_2,.int .i64 x221001_2] 36 (0,0)) (by (with_reducible repeat (first|refine blk_drewN ?_ _|refine blk_drew ?_|refine blk_alloc ?_ _));exact BK220.out) hb);have n1_:=Aside0.mk (below_step (by repeat (first|(with_reducible first|exact HB.out|apply below_alloc|apply pw_below_drewN|apply below_drew1|refine below_set ?_ GE220.out)|exact HB.out)) hb);clear BK220;clear HB;have BK220:=n0_;have HB:=n1_;clear n0_ n1_;(try clear hb);(try clear hb2);(try clear hk);(try clear hi))|((with_reducible refine gate_dst (N:=8) rfl ?_);refine box_event ?hg (N:=8) ?hd (cs:=#[.int .i64 0,.int .i64 0]) (t:=36) ?hr ?_;(case hd=>rfl);(case hg=>rfl);(case hr=>first|(go_simp;done)|(go_simp;rfl));intro gb232 hg w30 hbox hb;have n0_:=Aside0.mk (blk_below (g:=gb220) (o:=.cells #[.int .i64 x221000_2,.int .i64 x221001_2] 36 (0,0)) (by (with_reducible repeat (first|refine blk_drewN ?_ _|refine blk_drew ?_|refine blk_alloc ?_ _));exact BK220.out) hb);have n1_:=Aside0.mk (below_step (by repeat (first|(with_reducible first|exact HB.out|apply below_alloc|apply pw_below_drewN|apply below_drew1|refine below_set ?_ GE220.out)|exact HB.out)) hb);have n2_:=Aside0.mk (hbox);have n3_:=Aside0.mk ((by rw [hg];exact(below_size (by repeat (first|(with_reducible first|exact HB.out|apply below_alloc|apply pw_below_drewN|apply below_drew1|refine below_set ?_ GE220.out)|exact HB.out))):w.heap.size≤gb232));have n4_:=Aside0.mk ((by rw [hg];exact(below_size (by repeat (first|(with_reducible first|exact HB.out|apply below_alloc|apply pw_below_drewN|apply below_drew1|refine below_set ?_ GE220.out)|exact HB.out))):w.heap.size≤gb232));have n5_:=Aside0.mk ((by rw [hg];exact Nat.ne_of_lt (blk_lt (g:=gb220) (o:=.cells #[.int .i64 x221000_2,.int .i64 x221001_2] 36 (0,0)) (by (with_reducible repeat (first|refine blk_drewN ?_ _|refine blk_drew ?_|refine blk_alloc ?_ _));exact BK220.out)):gb220≠gb232));have n6_:=Aside0.mk ((by rw [hg];exact Nat.ne_of_gt (blk_lt (g:=gb220) (o:=.cells #[.int .i64 x221000_2,.int .i64 x221001_2] 36 (0,0)) (by (with_reducible repeat (first|refine blk_drewN ?_ _|refine blk_drew ?_|refine blk_alloc ?_ _));exact BK220.out)):gb232≠gb220));clear BK220;clear HB;have BK220:=n0_;have HB:=n1_;have BK232:=n2_;have GW232:=n3_;have GE232:=n4_;have NB220_232:=n5_;have NB232_220:=n6_;clear n0_ n1_ n2_ n3_ n4_ n5_ n6_;clear hb hbox hg;have hnb31:=NB232_220.out;have hnc31:=NB220_232.out;have hcz32_0:w30.cell? ⟨gb232,0,none⟩=some (.int .i64 0):=(blk_cell BK232.out 0).trans rfl;have hcz32_1:w30.cell? ⟨gb232,1,none⟩=some (.int .i64 0):=(blk_cell BK232.out 1).trans rfl;have hfz32_0:=blk_frozen BK232.out 0;have hfz32_1:=blk_frozen BK232.out 1;have hcz33_0:w30.cell? ⟨gb220,0,none⟩=some (.int .i64 x221000_2):=(blk_cell BK220.out 0).trans rfl;have hcz33_1:w30.cell? ⟨gb220,1,none⟩=some (.int .i64 x221001_2):=(blk_cell BK220.out 1).trans rfl;have hfz33_0:=blk_frozen BK220.out 0;have hfz33_1:=blk_frozen BK220.out 1)|((with_reducible refine gate_callee (f:=58) rfl ?_);refine goesL_ (some 51) rfl rfl Try.func58 (by kernel_rfl) rfl #[.agg #[.int .i64 t229,.int .i64 t230],.agg #[.int .i64 x221000_2,.int .i64 x221001_2]] rfl (by (try simp only [List.map_toArray,List.map_cons,List.map_nil]);first|done|rfl|(simp only [List.length_drop,List.length_take];rfl)) ?_;(with_reducible refine(wide_Compare.calls k2 t229 t230 x221000_2 x221001_2 t233 _ A26.out).mono ?_);rintro e w34 ⟨rfl,hb⟩;refine⟨_,rfl,?_⟩;have n0_:=Aside0.mk (blk_below (g:=gb220) (o:=.cells #[.int .i64 x221000_2,.int .i64 x221001_2] 36 (0,0)) (by (with_reducible repeat (first|refine blk_drewN ?_ _|refine blk_drew ?_|refine blk_alloc ?_ _));refine blk_far ?_ NB220_232.out _;(with_reducible repeat (first|refine blk_drewN ?_ _|refine blk_drew ?_|refine blk_alloc ?_ _));refine blk_far ?_ NB220_232.out _;(with_reducible repeat (first|refine blk_drewN ?_ _|refine blk_drew ?_|refine blk_alloc ?_ _));exact BK220.out) hb);have n1_:=Aside0.mk (blk_below (g:=gb232) (o:=.cells #[.int .i64 t229,.int .i64 t230] 36 (0,0)) (by (with_reducible repeat (first|refine blk_drewN ?_ _|refine blk_drew ?_|refine blk_alloc ?_ _));refine blk_put (cs:=#[.int .i64 t229,.int .i64 0]) ?_ 1 _ rfl;(with_reducible repeat (first|refine blk_drewN ?_ _|refine blk_drew ?_|refine blk_alloc ?_ _));refine blk_put (cs:=#[.int .i64 0,.int .i64 0]) ?_ 0 _ rfl;(with_reducible repeat (first|refine blk_drewN ?_ _|refine blk_drew ?_|refine blk_alloc ?_ _));exact BK232.out) hb);have n2_:=Aside0.mk (below_step (by repeat (first|(with_reducible first|exact HB.out|apply below_alloc|apply pw_below_drewN|apply below_drew1|refine below_set ?_ GE220.out|refine below_set ?_ GE232.out)|exact HB.out)) hb);clear BK220;clear BK232;clear HB;have BK220:=n0_;have BK232:=n1_;have HB:=n2_;clear n0_ n1_ n2_;(try clear hb);(try clear hb2);(try clear hk);(try clear hi)))
     simp only [Exit.jump]
     go_ret2
     exact⟨by first|rfl|(simp [errW_none,errW_some]<;>rfl)|(simp [*,errW_none,errW_some]<;>rfl),by repeat (first|(with_reducible first|exact HB.out|apply below_alloc|apply pw_below_drewN|apply below_drew1|refine below_set ?_ GE220.out|refine below_set ?_ GE232.out)|exact HB.out)⟩
 ·intro K0
  have K:=Aside0.mk K0
  clear K0
  go_upto_if 13 with (first|((with_reducible refine gate_callee (f:=55) rfl ?_);refine goesL_ (some 11) rfl rfl Try.func55 (by kernel_rfl) rfl #[.agg #[.int .i64 a0_0,.int .i64 a0_1]] rfl (by (try simp only [List.map_toArray,List.map_cons,List.map_nil]);first|done|rfl|(simp only [List.length_drop,List.length_take];rfl)) ?_;(with_reducible refine(wide_Sane.calls a0_0 a0_1 t221 _ A2.out).mono ?_);rintro e w6 ⟨rfl,hb⟩;refine⟨_,rfl,?_⟩;have n0_:=Aside0.mk (blk_below (g:=gb220) (o:=.cells #[.int .i64 a0_0,.int .i64 a0_1] 36 (0,0)) (by (with_reducible repeat (first|refine blk_drewN ?_ _|refine blk_drew ?_|refine blk_alloc ?_ _));exact BK220.out) hb);have n1_:=Aside0.mk (below_step (by repeat (first|(with_reducible first|exact HB.out|apply below_alloc|apply pw_below_drewN|apply below_drew1|refine below_set ?_ GE220.out)|exact HB.out)) hb);clear BK220;clear HB;have BK220:=n0_;have HB:=n1_;clear n0_ n1_;(try clear hb);(try clear hb2);(try clear hk);(try clear hi)))
  (try simp only [Act.put,List.setIfInBounds_toArray,List.set_cons_zero,List.set_cons_succ])
  go_cut [] (fun wc=>∃ (kq:Nat) (x221000_2:Int) (x221001_2:Int),Aside0 (root_Wide.j0 kq (!t221) x221000_2 x221001_2=some (r1,r2))∧Aside0 (kq≤k)∧Aside0 (wc.heap[gb220]? = some (.cells #[.int .i64 x221000_2,.int .i64 x221001_2] 36 (0,0)))∧Aside0 (Below w.heap.size w wc))
  case first =>
   have H:=HC3.out
   clear HC3
   by_cases c7:t221=true
   ·subst c7
    have H1:(root_Wide.j0 k (!true) a0_0 a0_1)=some (r1,r2):=by rw [if_pos rfl] at H;exact H
    clear H
    have H:=H1
    clear H1
    have H':=Aside0.mk H
    clear H
    go_wp2
    go_meet
    case rel=>exact⟨_,(a0_0),(a0_1),H',⟨by first|omega|exact Nat.le_refl _⟩,⟨by (with_reducible repeat (first|refine blk_drewN ?_ _|refine blk_drew ?_|refine blk_alloc ?_ _));exact BK220.out⟩,⟨by repeat (first|(with_reducible first|exact HB.out|apply below_alloc|apply pw_below_drewN|apply below_drew1|refine below_set ?_ GE220.out)|exact HB.out)⟩⟩
   ·replace c7:=Bool.eq_false_iff.mpr c7
    subst c7
    have H1:(root_Wide.j0 k (!false) 0 0)=some (r1,r2):=by rw [if_neg (show ¬(false=true) by decide)] at H;exact H
    clear H
    have H:=H1
    clear H1
    have H':=Aside0.mk H
    clear H
    have hcz8_0:w6.cell? ⟨gb220,0,none⟩=some (.int .i64 a0_0):=(blk_cell BK220.out 0).trans rfl
    have hcz8_1:w6.cell? ⟨gb220,1,none⟩=some (.int .i64 a0_1):=(blk_cell BK220.out 1).trans rfl
    have hfz8_0:=blk_frozen BK220.out 0
    have hfz8_1:=blk_frozen BK220.out 1
    go_wp2
    go_meet
    case rel=>exact⟨_,(0),(0),H',⟨by first|omega|exact Nat.le_refl _⟩,⟨by (with_reducible repeat (first|refine blk_drewN ?_ _|refine blk_drew ?_|refine blk_alloc ?_ _));refine blk_put (cs:=#[.int .i64 0,.int .i64 a0_1]) ?_ 1 _ rfl;(with_reducible repeat (first|refine blk_drewN ?_ _|refine blk_drew ?_|refine blk_alloc ?_ _));refine blk_put (cs:=#[.int .i64 a0_0,.int .i64 a0_1]) ?_ 0 _ rfl;(with_reducible repeat (first|refine blk_drewN ?_ _|refine blk_drew ?_|refine blk_alloc ?_ _));exact BK220.out⟩,⟨by repeat (first|(with_reducible first|exact HB.out|apply below_alloc|apply pw_below_drewN|apply below_drew1|refine below_set ?_ GE220.out)|exact HB.out)⟩⟩
  case rest =>
   clear HC3
   try clear p2
   try clear c3
   try clear c5
   try clear c7
   try clear hcz5_0
   try clear hcz5_1
   try clear hcz8_0
   try clear hcz8_1
   try clear hfz5_0
   try clear hfz5_1
   try clear hfz8_0
   try clear hfz8_1
   obtain⟨kq,x221000_2,x221001_2,HA,HJ2,BK220,HB⟩:=hcut
   cases kq with
   | zero=>exact absurd HA.out (by simp [root_Wide.j0])
   | succ kj2 =>
    have H:=HA.out
    clear HA
    simp only [root_Wide.j0] at H
    by_cases c9:x221000_2<0
    ·rw [if_pos c9] at H
     have c9b0:decide (x221000_2<0)=true:=decide_eq_true c9
     clear c9
     simp only [Option.some.injEq,Prod.mk.injEq] at H
     obtain⟨rfl,rfl⟩:=H
     have hcz10_0:wc.cell? ⟨gb220,0,none⟩=some (.int .i64 x221000_2):=(blk_cell BK220.out 0).trans rfl
     have hcz10_1:wc.cell? ⟨gb220,1,none⟩=some (.int .i64 x221001_2):=(blk_cell BK220.out 1).trans rfl
     have hfz10_0:=blk_frozen BK220.out 0
     have hfz10_1:=blk_frozen BK220.out 1
     go_wp2
     simp only [Exit.jump]
     go_ret2
     exact⟨by first|rfl|(simp [errW_none,errW_some]<;>rfl)|(simp [*,errW_none,errW_some]<;>rfl),by repeat (first|(with_reducible first|exact HB.out|apply below_alloc|apply pw_below_drewN|apply below_drew1|refine below_set ?_ GE220.out)|exact HB.out)⟩
    ·rw [if_neg c9] at H
     have c9b0:decide (x221000_2<0)=false:=decide_eq_false c9
     clear c9
     have H':=Aside0.mk H
     clear H
     have hcz11_0:wc.cell? ⟨gb220,0,none⟩=some (.int .i64 x221000_2):=(blk_cell BK220.out 0).trans rfl
     have hcz11_1:wc.cell? ⟨gb220,1,none⟩=some (.int .i64 x221001_2):=(blk_cell BK220.out 1).trans rfl
     have hfz11_0:=blk_frozen BK220.out 0
     have hfz11_1:=blk_frozen BK220.out 1
     go_wp2
     go_step3
     rename_i hK
     refine hK _ _ ?_
     exact K.out kj2 _ _ (root_Wide.J_mk x221000_2 x221001_2 0 288230376151711744 H'.out (by (with_reducible repeat (first|refine blk_drewN ?_ _|refine blk_drew ?_|refine blk_alloc ?_ _));exact BK220.out) (by repeat (first|(with_reducible first|exact HB.out|apply below_alloc|apply pw_below_drewN|apply below_drew1)|exact HB.out)))
def sum_Norm.f (k:Nat) (l0:List Int):Option (Int × Bool):=if 0≤(mn (l0.length:Int) 64) then (if (mn (l0.length:Int) 64)≤(l0.length:Int) then ((sum_products.f k (l0.take ((mn (l0.length:Int) 64):Int).toNat) (l0.take ((mn (l0.length:Int) 64):Int).toNat)).bind fun bt235=>((root_Wide.f k bt235.1 bt235.2).bind fun bt237=>(if bt237.2=true then (some (bt237.1,true)) else ((sum_changed.f k (l0.take ((mn (l0.length:Int) 64):Int).toNat)).bind fun t239=>(some (bt237.1,t239)))))) else (none)) else (none)
theorem sum_Norm.mono:∀ a0 k,LeO (sum_Norm.f k a0) (sum_Norm.f (k+1) a0):=by
 intro a0 k
 unfold sum_Norm.f
 repeat' first
   | (with_reducible exact root_Wide.mono _ _ _)
   | (with_reducible exact sum_changed.mono _ _)
   | (with_reducible exact sum_products.mono _ _ _)
   | (with_reducible exact LeO.refl _)
   | (with_reducible exact LeO.none _)
   | (with_reducible refine LeO.ite ?_ ?_)
   | (with_reducible refine LeO.bind ?_ (fun _=>?_))
   | exact root_Wide.mono _ _ _
   | exact sum_changed.mono _ _
   | exact sum_products.mono _ _ _
   | exact LeO.none _
   | refine LeO.ite ?_ ?_
   | refine LeO.bind ?_ (fun _=>?_)
set_option maxHeartbeats 8000000 in
set_option maxRecDepth 100000 in
theorem sum_Norm.calls (k:Nat) (A0:Option Addr) (c0:Nat) (l0:List Int) (r1:Int) (r2:Bool) (w:World) (hr0:Kd.C (Kd.int .i64) w A0 l0.length l0) (hc0:l0.length≤c0) (h:sum_Norm.f k l0=some (r1,r2)) :
  Calls Try.prog 15 #[.slice A0 l0.length c0] w fun e w'=>e=.returned (.tuple #[.int .i64 r1,.bool r2])∧Below w.heap.size w w':=by
 have HR0:=Aside0.mk hr0
 have HC0:=Aside0.mk hc0
 clear hr0 hc0
 have HB:=Aside0.mk (Below.refl w.heap.size w)
 have H:(if 0≤(mn (l0.length:Int) 64) then (if (mn (l0.length:Int) 64)≤(l0.length:Int) then ((sum_products.f k (l0.take ((mn (l0.length:Int) 64):Int).toNat) (l0.take ((mn (l0.length:Int) 64):Int).toNat)).bind fun bt235=>((root_Wide.f k bt235.1 bt235.2).bind fun bt237=>(if bt237.2=true then (some (bt237.1,true)) else ((sum_changed.f k (l0.take ((mn (l0.length:Int) 64):Int).toNat)).bind fun t239=>(some (bt237.1,t239)))))) else (none)) else (none))=some (r1,r2):=h
 clear h
 obtain⟨ji2,hji2⟩:∃ j_:Int,(mn (l0.length:Int) 64)=j_:=⟨_,rfl⟩
 replace H:(if 0≤(ji2) then (if (ji2)≤(l0.length:Int) then ((sum_products.f k (l0.take ((ji2):Int).toNat) (l0.take ((ji2):Int).toNat)).bind fun bt235=>((root_Wide.f k bt235.1 bt235.2).bind fun bt237=>(if bt237.2=true then (some (bt237.1,true)) else ((sum_changed.f k (l0.take ((ji2):Int).toNat)).bind fun t239=>(some (bt237.1,t239)))))) else (none)) else (none))=some (r1,r2):=by first|(rw [hji2] at H;exact H)|(simp only [hji2] at H ⊢;exact H)
 (try (have hji2h:ji2≤64:=by (rw [←hji2];unfold mn;(repeat' split)<;>omega)))
 (try (have hji2g:ji2≤64:=by omega))
 (try (have hji2l:0≤ji2:=by (rw [←hji2];unfold mn;(repeat' split)<;>omega)))
 (try (have hji2m:0≤ji2:=by omega))
 have hji2_:(if 64<(l0.length:Int) then 64 else (l0.length:Int))=ji2:=hji2
 obtain⟨m0,hm0⟩:∃ m_:List Int,(l0.take ((ji2):Int).toNat)=m_:=⟨_,rfl⟩
 rw [hm0] at H
 have hm9:=Aside0.mk (show m0.length≤64 by rw [←hm0,List.length_take];omega)
 by_cases c3:0≤(ji2)
 ·rw [if_pos c3] at H
  have c3b0:=eq_true c3
  have c3b1:decide (0≤(ji2))=true:=decide_eq_true c3
  clear c3
  by_cases c4:(ji2)≤(l0.length:Int)
  ·rw [if_pos c4] at H
   have c4b0:=eq_true c4
   have c4b1:decide ((ji2)≤(l0.length:Int))=true:=decide_eq_true c4
   clear c4
   replace H:=Option.bind_eq_some_iff.mp H
   obtain⟨⟨t235,t236⟩,A50,H⟩:=H
   replace H:((root_Wide.f k t235 t236).bind fun bt237=>(if bt237.2=true then (some (bt237.1,true)) else ((sum_changed.f k m0).bind fun t239=>(some (bt237.1,t239)))))=some (r1,r2):=H
   have A5:=Aside0.mk A50
   clear A50
   replace H:=Option.bind_eq_some_iff.mp H
   obtain⟨⟨t237,t238⟩,A60,H⟩:=H
   replace H:(if t238=true then (some (t237,true)) else ((sum_changed.f k m0).bind fun t239=>(some (t237,t239))))=some (r1,r2):=H
   have A6:=Aside0.mk A60
   clear A60
   by_cases c7:t238=true
   ·subst c7
    have H1:(some (t237,true))=some (r1,r2):=by rw [if_pos rfl] at H;exact H
    clear H
    have H:=H1
    clear H1
    simp only [Option.some.injEq,Prod.mk.injEq] at H
    obtain⟨rfl,rfl⟩:=H
    obtain⟨i08,hi08,_,hsz8,_⟩:=info_parts info3
    obtain⟨hcut8,hA8,hC8⟩:=print_take_of (P:=Try.prog) (Value.int .i64) 0 22 3 .i64 Try.underlying22 hi08 hsz8 A0 c0 l0 (ji2) (of_decide_eq_true (by first|(with_reducible assumption)|assumption)) (of_decide_eq_true (by first|(with_reducible assumption)|assumption)) HC0.out
    rw [hm0] at hA8 hC8
    clear hcut8
    have HR234:=Aside0.mk (Kd.C_of_reads (h1:=fun _=>rfl) (hA8 _ (Kd.reads_of_C HR0.out)))
    have HC234:=Aside0.mk hC8
    clear hA8 hC8 hi08 hsz8
    go_enter Try.func15,Try.ntmps15
    go_wp2_with (first|((with_reducible refine gate_callee (f:=21) rfl ?_);refine goesL_ (some 7) rfl rfl Try.func21 (by kernel_rfl) rfl #[.slice A0 l0.length c0] rfl (by (try simp only [List.map_toArray,List.map_cons,List.map_nil]);first|done|rfl) ?_;(refine(sum_cut.own A0 c0 l0 m0 _ hm0 hji2_ HC0.out _).mono ?_);rintro e w21_ ⟨rfl,rfl⟩;refine⟨_,rfl,?_⟩)|((with_reducible refine gate_callee (f:=33) rfl ?_);refine goesL_ (some 11) rfl rfl Try.func33 (by kernel_rfl) rfl #[.slice A0 m0.length c0,.slice A0 m0.length c0] rfl (by (try simp only [List.map_toArray,List.map_cons,List.map_nil]);first|done|(rw [show m0.length=(ji2).toNat from (by rw [List.length_take];have h_:((ji2):Int)≤(l0.length:Int):=of_decide_eq_true (by first|(with_reducible assumption)|assumption);omega)]<;>rfl)|(rw [show m0.length=(ji2).toNat from (by rw [List.length_take];have h_:((ji2):Int)≤(l0.length:Int):=of_decide_eq_true (by first|(with_reducible assumption)|assumption);omega)]<;>rfl)|(simp only [hji2];rfl)|rfl|(simp only [List.length_drop,List.length_take];rfl)) ?_;(with_reducible refine(sum_products.calls k _ _ m0 _ _ m0 t235 t236 _ ?side1 ?side2 ?side3 ?side4 ?side9 A5.out).mono ?_);(case side1=>repeat (first|exact HR234.out|(with_reducible refine Kd.C_alloc ?_ _)|(with_reducible refine Kd.C_drewN ?_ _)|(with_reducible refine Kd.C_drew ?_)));(case side2=>exact HC234.out);(case side3=>repeat (first|exact HR234.out|(with_reducible refine Kd.C_alloc ?_ _)|(with_reducible refine Kd.C_drewN ?_ _)|(with_reducible refine Kd.C_drew ?_)));(case side4=>exact HC234.out);(case side9=>first|exact hm9.out|exact hm8.out|(rw [List.length_take];omega));rintro e w9 ⟨B1_,B2_,rfl,hG_,hb⟩;refine⟨_,rfl,?_⟩;have n0_:=Aside0.mk (below_step (by repeat (first|(with_reducible first|exact HB.out|apply below_alloc|apply pw_below_drewN|apply below_drew1)|exact HB.out)) hb);clear HB;have HB:=n0_;clear n0_;(try clear hb);(try clear hb2);(try clear hk);(try clear hi))|((with_reducible refine gate_callee (f:=23) rfl ?_);refine goesL_ (some 12) rfl rfl Try.func23 (by kernel_rfl) rfl #[.func (.func 62) #[] #[.pointer (some ⟨B1_,0,none⟩),.pointer (some ⟨B2_,0,none⟩)]] rfl (by (try simp only [List.map_toArray,List.map_cons,List.map_nil]);first|done|rfl) ?_;(with_reducible refine(sum_add.calls _ _ t235 t236 _ ?sideG).mono ?_);(case sideG=>first|exact hG_|exact hG_.later (by repeat (first|exact Below.refl _ _|apply below_alloc|apply pw_below_drewN|apply below_drew1)));rintro e w9_ ⟨rfl,hb⟩;refine⟨_,rfl,?_⟩;have n0_:=Aside0.mk (below_step (by repeat (first|(with_reducible first|exact HB.out|apply below_alloc|apply pw_below_drewN|apply below_drew1)|exact HB.out)) hb);clear HB;have HB:=n0_;clear n0_;(try clear hb);(try clear hb2);(try clear hk);(try clear hi))|((with_reducible refine gate_callee (f:=36) rfl ?_);refine goesL_ (some 13) rfl rfl Try.func36 (by kernel_rfl) rfl #[.agg #[.int .i64 t235,.int .i64 t236]] rfl (by (try simp only [List.map_toArray,List.map_cons,List.map_nil]);first|done|rfl|(simp only [List.length_drop,List.length_take];rfl)) ?_;(with_reducible refine(root_Wide.calls k t235 t236 t237 true _ A6.out).mono ?_);rintro e w10 ⟨rfl,hb⟩;refine⟨_,rfl,?_⟩;have n0_:=Aside0.mk (below_step (by repeat (first|(with_reducible first|exact HB.out|apply below_alloc|apply pw_below_drewN|apply below_drew1)|exact HB.out)) hb);clear HB;have HB:=n0_;clear n0_;(try clear hb);(try clear hb2);(try clear hk);(try clear hi)))
    go_ret2
    exact⟨by first|rfl|(simp [errW_none,errW_some]<;>rfl)|(simp only [←hji2];first|rfl|(simp [errW_none,errW_some]<;>rfl))|(simp [*,errW_none,errW_some]<;>rfl),by repeat (first|(with_reducible first|exact HB.out|apply below_alloc|apply pw_below_drewN|apply below_drew1)|exact HB.out)⟩
   ·replace c7:=Bool.eq_false_iff.mpr c7
    subst c7
    have H1:((sum_changed.f k m0).bind fun t239=>(some (t237,t239)))=some (r1,r2):=by rw [if_neg (show ¬(false=true) by decide)] at H;exact H
    clear H
    have H:=H1
    clear H1
    replace H:=Option.bind_eq_some_iff.mp H
    obtain⟨t239,A110,H⟩:=H
    replace H:(some (t237,t239))=some (r1,r2):=H
    have A11:=Aside0.mk A110
    clear A110
    simp only [Option.some.injEq,Prod.mk.injEq] at H
    obtain⟨rfl,rfl⟩:=H
    obtain⟨i012,hi012,_,hsz12,_⟩:=info_parts info3
    obtain⟨hcut12,hA12,hC12⟩:=print_take_of (P:=Try.prog) (Value.int .i64) 0 22 3 .i64 Try.underlying22 hi012 hsz12 A0 c0 l0 (ji2) (of_decide_eq_true (by first|(with_reducible assumption)|assumption)) (of_decide_eq_true (by first|(with_reducible assumption)|assumption)) HC0.out
    rw [hm0] at hA12 hC12
    clear hcut12
    have HR234:=Aside0.mk (Kd.C_of_reads (h1:=fun _=>rfl) (hA12 _ (Kd.reads_of_C HR0.out)))
    have HC234:=Aside0.mk hC12
    clear hA12 hC12 hi012 hsz12
    go_enter Try.func15,Try.ntmps15
    go_wp2_with (first|((with_reducible refine gate_callee (f:=21) rfl ?_);refine goesL_ (some 7) rfl rfl Try.func21 (by kernel_rfl) rfl #[.slice A0 l0.length c0] rfl (by (try simp only [List.map_toArray,List.map_cons,List.map_nil]);first|done|rfl) ?_;(refine(sum_cut.own A0 c0 l0 m0 _ hm0 hji2_ HC0.out _).mono ?_);rintro e w21_ ⟨rfl,rfl⟩;refine⟨_,rfl,?_⟩)|((with_reducible refine gate_callee (f:=33) rfl ?_);refine goesL_ (some 11) rfl rfl Try.func33 (by kernel_rfl) rfl #[.slice A0 m0.length c0,.slice A0 m0.length c0] rfl (by (try simp only [List.map_toArray,List.map_cons,List.map_nil]);first|done|(rw [show m0.length=(ji2).toNat from (by rw [List.length_take];have h_:((ji2):Int)≤(l0.length:Int):=of_decide_eq_true (by first|(with_reducible assumption)|assumption);omega)]<;>rfl)|(rw [show m0.length=(ji2).toNat from (by rw [List.length_take];have h_:((ji2):Int)≤(l0.length:Int):=of_decide_eq_true (by first|(with_reducible assumption)|assumption);omega)]<;>rfl)|(simp only [hji2];rfl)|rfl|(simp only [List.length_drop,List.length_take];rfl)) ?_;(with_reducible refine(sum_products.calls k _ _ m0 _ _ m0 t235 t236 _ ?side1 ?side2 ?side3 ?side4 ?side9 A5.out).mono ?_);(case side1=>repeat (first|exact HR234.out|(with_reducible refine Kd.C_alloc ?_ _)|(with_reducible refine Kd.C_drewN ?_ _)|(with_reducible refine Kd.C_drew ?_)));(case side2=>exact HC234.out);(case side3=>repeat (first|exact HR234.out|(with_reducible refine Kd.C_alloc ?_ _)|(with_reducible refine Kd.C_drewN ?_ _)|(with_reducible refine Kd.C_drew ?_)));(case side4=>exact HC234.out);(case side9=>first|exact hm9.out|exact hm8.out|(rw [List.length_take];omega));rintro e w13 ⟨B1_,B2_,rfl,hG_,hb⟩;refine⟨_,rfl,?_⟩;have n0_:=Aside0.mk (below_step (by repeat (first|(with_reducible first|exact HB.out|apply below_alloc|apply pw_below_drewN|apply below_drew1)|exact HB.out)) hb);clear HB;have HB:=n0_;clear n0_;(try clear hb);(try clear hb2);(try clear hk);(try clear hi))|((with_reducible refine gate_callee (f:=23) rfl ?_);refine goesL_ (some 12) rfl rfl Try.func23 (by kernel_rfl) rfl #[.func (.func 62) #[] #[.pointer (some ⟨B1_,0,none⟩),.pointer (some ⟨B2_,0,none⟩)]] rfl (by (try simp only [List.map_toArray,List.map_cons,List.map_nil]);first|done|rfl) ?_;(with_reducible refine(sum_add.calls _ _ t235 t236 _ ?sideG).mono ?_);(case sideG=>first|exact hG_|exact hG_.later (by repeat (first|exact Below.refl _ _|apply below_alloc|apply pw_below_drewN|apply below_drew1)));rintro e w13_ ⟨rfl,hb⟩;refine⟨_,rfl,?_⟩;have n0_:=Aside0.mk (below_step (by repeat (first|(with_reducible first|exact HB.out|apply below_alloc|apply pw_below_drewN|apply below_drew1)|exact HB.out)) hb);clear HB;have HB:=n0_;clear n0_;(try clear hb);(try clear hb2);(try clear hk);(try clear hi))|((with_reducible refine gate_callee (f:=36) rfl ?_);refine goesL_ (some 13) rfl rfl Try.func36 (by kernel_rfl) rfl #[.agg #[.int .i64 t235,.int .i64 t236]] rfl (by (try simp only [List.map_toArray,List.map_cons,List.map_nil]);first|done|rfl|(simp only [List.length_drop,List.length_take];rfl)) ?_;(with_reducible refine(root_Wide.calls k t235 t236 t237 false _ A6.out).mono ?_);rintro e w14 ⟨rfl,hb⟩;refine⟨_,rfl,?_⟩;have n0_:=Aside0.mk (below_step (by repeat (first|(with_reducible first|exact HB.out|apply below_alloc|apply pw_below_drewN|apply below_drew1)|exact HB.out)) hb);clear HB;have HB:=n0_;clear n0_;(try clear hb);(try clear hb2);(try clear hk);(try clear hi))|(go_at_call 25;(with_reducible refine(sum_changed.calls k _ _ m0 t239 _ ?side1 ?side2 ?side9 A11.out).mono ?_);(case side1=>repeat (first|exact(Kd.C_below HR234.out HB.out)|(with_reducible refine Kd.C_alloc ?_ _)|(with_reducible refine Kd.C_drewN ?_ _)|(with_reducible refine Kd.C_drew ?_)));(case side2=>exact HC234.out);(case side9=>first|exact hm9.out|exact hm8.out|(rw [List.length_take];omega));rintro e w15 ⟨rfl,hb⟩;have n0_:=Aside0.mk (below_step (by repeat (first|(with_reducible first|exact HB.out|apply below_alloc|apply pw_below_drewN|apply below_drew1)|exact HB.out)) hb);clear HB;have HB:=n0_;clear n0_;(try clear hb);(try clear hb2);(try clear hk);(try clear hi)))
    go_ret2
    exact⟨by first|rfl|(simp [errW_none,errW_some]<;>rfl)|(simp only [←hji2];first|rfl|(simp [errW_none,errW_some]<;>rfl))|(simp [*,errW_none,errW_some]<;>rfl),by repeat (first|(with_reducible first|exact HB.out|apply below_alloc|apply pw_below_drewN|apply below_drew1)|exact HB.out)⟩
  ·rw [if_neg c4] at H
   exact absurd H (by simp)
 ·rw [if_neg c3] at H
  exact absurd H (by simp)
def outriggerlaw06_awake.f (k:Nat)  : Option (Bool):=(sum_Dot.f k (([4294967296,8589934592]:List Int)) (([12884901888,17179869184]:List Int))).bind fun bt246=>((sum_Mean.f k (([1,2]:List Int))).bind fun bt251=>((sum_Total.f k (([1,2,3]:List Int))).bind fun bt256=>((sum_Norm.f k (([2,3,6]:List Int))).bind fun bt261=>(if bt246.1=47244640256 then (if bt246.2=true then (some false) else (if bt251.1=2 then (if bt256.1=6 then (some (bt261.1 == 7)) else (some false)) else (some false))) else (some false)))))
theorem outriggerlaw06_awake.mono:∀ k,LeO (outriggerlaw06_awake.f k ) (outriggerlaw06_awake.f (k+1) ):=by
 intro  k
 unfold outriggerlaw06_awake.f
 repeat' first
   | (with_reducible exact sum_Dot.mono _ _ _)
   | (with_reducible exact sum_Mean.mono _ _)
   | (with_reducible exact sum_Norm.mono _ _)
   | (with_reducible exact sum_Total.mono _ _)
   | (with_reducible exact LeO.refl _)
   | (with_reducible exact LeO.none _)
   | (with_reducible refine LeO.ite ?_ ?_)
   | (with_reducible refine LeO.bind ?_ (fun _=>?_))
   | exact sum_Dot.mono _ _ _
   | exact sum_Mean.mono _ _
   | exact sum_Norm.mono _ _
   | exact sum_Total.mono _ _
   | exact LeO.none _
   | refine LeO.ite ?_ ?_
   | refine LeO.bind ?_ (fun _=>?_)
set_option maxHeartbeats 8000000 in
set_option maxRecDepth 100000 in
theorem outriggerlaw06_awake.calls1 (k:Nat)  (r:Bool) (w:World) (h:outriggerlaw06_awake.f k  = some r) (hr:Aside0 (r=true)) :
  Calls Try.prog 8 #[] w fun e w'=>e=.returned (.bool r)∧Below w.heap.size w w':=by
 have HB:=Aside0.mk (Below.refl w.heap.size w)
 have H:((sum_Dot.f k (([4294967296,8589934592]:List Int)) (([12884901888,17179869184]:List Int))).bind fun bt246=>((sum_Mean.f k (([1,2]:List Int))).bind fun bt251=>((sum_Total.f k (([1,2,3]:List Int))).bind fun bt256=>((sum_Norm.f k (([2,3,6]:List Int))).bind fun bt261=>(if bt246.1=47244640256 then (if bt246.2=true then (some false) else (if bt251.1=2 then (if bt256.1=6 then (some (bt261.1 == 7)) else (some false)) else (some false))) else (some false))))))=some r:=h
 clear h
 obtain⟨y240,hy240⟩:∃ y_:List Int,y_=(([4294967296,8589934592]:List Int)):=⟨_,rfl⟩
 replace H:((sum_Dot.f k y240 (([12884901888,17179869184]:List Int))).bind fun bt246=>((sum_Mean.f k (([1,2]:List Int))).bind fun bt251=>((sum_Total.f k (([1,2,3]:List Int))).bind fun bt256=>((sum_Norm.f k (([2,3,6]:List Int))).bind fun bt261=>(if bt246.1=47244640256 then (if bt246.2=true then (some false) else (if bt251.1=2 then (if bt256.1=6 then (some (bt261.1 == 7)) else (some false)) else (some false))) else (some false))))))=some r:=by first|(rw [hy240];with_reducible exact H)|(have H2_:=(Option.bind_some _ _).symm.trans H;rw [hy240];with_reducible exact H2_)|(have H2_:=(Option.bind_some _ _).symm.trans H;with_reducible exact H2_)|with_reducible exact H|(rw [hy240];exact H)|exact H
 have Ny240:=Aside0.mk hy240
 clear hy240
 obtain⟨y243,hy243⟩:∃ y_:List Int,y_=(([12884901888,17179869184]:List Int)):=⟨_,rfl⟩
 replace H:((sum_Dot.f k y240 y243).bind fun bt246=>((sum_Mean.f k (([1,2]:List Int))).bind fun bt251=>((sum_Total.f k (([1,2,3]:List Int))).bind fun bt256=>((sum_Norm.f k (([2,3,6]:List Int))).bind fun bt261=>(if bt246.1=47244640256 then (if bt246.2=true then (some false) else (if bt251.1=2 then (if bt256.1=6 then (some (bt261.1 == 7)) else (some false)) else (some false))) else (some false))))))=some r:=by first|(rw [hy243];with_reducible exact H)|(have H2_:=(Option.bind_some _ _).symm.trans H;rw [hy243];with_reducible exact H2_)|(have H2_:=(Option.bind_some _ _).symm.trans H;with_reducible exact H2_)|with_reducible exact H|(rw [hy243];exact H)|exact H
 have Ny243:=Aside0.mk hy243
 clear hy243
 replace H:=Option.bind_eq_some_iff.mp H
 obtain⟨⟨t246,t247⟩,A10,H⟩:=H
 replace H:((sum_Mean.f k (([1,2]:List Int))).bind fun bt251=>((sum_Total.f k (([1,2,3]:List Int))).bind fun bt256=>((sum_Norm.f k (([2,3,6]:List Int))).bind fun bt261=>(if t246=47244640256 then (if t247=true then (some false) else (if bt251.1=2 then (if bt256.1=6 then (some (bt261.1 == 7)) else (some false)) else (some false))) else (some false)))))=some r:=H
 have A1:=Aside0.mk A10
 clear A10
 obtain⟨y248,hy248⟩:∃ y_:List Int,y_=(([1,2]:List Int)):=⟨_,rfl⟩
 replace H:((sum_Mean.f k y248).bind fun bt251=>((sum_Total.f k (([1,2,3]:List Int))).bind fun bt256=>((sum_Norm.f k (([2,3,6]:List Int))).bind fun bt261=>(if t246=47244640256 then (if t247=true then (some false) else (if bt251.1=2 then (if bt256.1=6 then (some (bt261.1 == 7)) else (some false)) else (some false))) else (some false)))))=some r:=by first|(rw [hy248];with_reducible exact H)|(have H2_:=(Option.bind_some _ _).symm.trans H;rw [hy248];with_reducible exact H2_)|(have H2_:=(Option.bind_some _ _).symm.trans H;with_reducible exact H2_)|with_reducible exact H|(rw [hy248];exact H)|exact H
 have Ny248:=Aside0.mk hy248
 clear hy248
 replace H:=Option.bind_eq_some_iff.mp H
 obtain⟨⟨t251,t252⟩,A20,H⟩:=H
 replace H:((sum_Total.f k (([1,2,3]:List Int))).bind fun bt256=>((sum_Norm.f k (([2,3,6]:List Int))).bind fun bt261=>(if t246=47244640256 then (if t247=true then (some false) else (if t251=2 then (if bt256.1=6 then (some (bt261.1 == 7)) else (some false)) else (some false))) else (some false))))=some r:=H
 have A2:=Aside0.mk A20
 clear A20
 obtain⟨y253,hy253⟩:∃ y_:List Int,y_=(([1,2,3]:List Int)):=⟨_,rfl⟩
 replace H:((sum_Total.f k y253).bind fun bt256=>((sum_Norm.f k (([2,3,6]:List Int))).bind fun bt261=>(if t246=47244640256 then (if t247=true then (some false) else (if t251=2 then (if bt256.1=6 then (some (bt261.1 == 7)) else (some false)) else (some false))) else (some false))))=some r:=by first|(rw [hy253];with_reducible exact H)|(have H2_:=(Option.bind_some _ _).symm.trans H;rw [hy253];with_reducible exact H2_)|(have H2_:=(Option.bind_some _ _).symm.trans H;with_reducible exact H2_)|with_reducible exact H|(rw [hy253];exact H)|exact H
 have Ny253:=Aside0.mk hy253
 clear hy253
 replace H:=Option.bind_eq_some_iff.mp H
 obtain⟨⟨t256,t257⟩,A30,H⟩:=H
 replace H:((sum_Norm.f k (([2,3,6]:List Int))).bind fun bt261=>(if t246=47244640256 then (if t247=true then (some false) else (if t251=2 then (if t256=6 then (some (bt261.1 == 7)) else (some false)) else (some false))) else (some false)))=some r:=H
 have A3:=Aside0.mk A30
 clear A30
 obtain⟨y258,hy258⟩:∃ y_:List Int,y_=(([2,3,6]:List Int)):=⟨_,rfl⟩
 replace H:((sum_Norm.f k y258).bind fun bt261=>(if t246=47244640256 then (if t247=true then (some false) else (if t251=2 then (if t256=6 then (some (bt261.1 == 7)) else (some false)) else (some false))) else (some false)))=some r:=by first|(rw [hy258];with_reducible exact H)|(have H2_:=(Option.bind_some _ _).symm.trans H;rw [hy258];with_reducible exact H2_)|(have H2_:=(Option.bind_some _ _).symm.trans H;with_reducible exact H2_)|with_reducible exact H|(rw [hy258];exact H)|exact H
 have Ny258:=Aside0.mk hy258
 clear hy258
 replace H:=Option.bind_eq_some_iff.mp H
 obtain⟨⟨t261,t262⟩,A40,H⟩:=H
 replace H:(if t246=47244640256 then (if t247=true then (some false) else (if t251=2 then (if t256=6 then (some (t261 == 7)) else (some false)) else (some false))) else (some false))=some r:=H
 have A4:=Aside0.mk A40
 clear A40
 by_cases c5:t246=47244640256
 ·rw [if_pos c5] at H
  have c5b0:(t246 == 47244640256)=true:=beq_iff_eq.mpr c5
  have c5b1:(t246 != 47244640256)=false:=bne_eq_false_iff_eq.mpr c5
  clear c5
  by_cases c6:t247=true
  ·subst c6
   have H1:(some false)=some r:=by rw [if_pos rfl] at H;exact H
   clear H
   have H:=H1
   clear H1
   exact absurd ((Option.some.inj H).trans hr.out) (by decide)
  ·replace c6:=Bool.eq_false_iff.mpr c6
   subst c6
   have H1:(if t251=2 then (if t256=6 then (some (t261 == 7)) else (some false)) else (some false))=some r:=by rw [if_neg (show ¬(false=true) by decide)] at H;exact H
   clear H
   have H:=H1
   clear H1
   by_cases c26:t251=2
   ·rw [if_pos c26] at H
    have c26b0:(t251 == 2)=true:=beq_iff_eq.mpr c26
    have c26b1:(t251 != 2)=false:=bne_eq_false_iff_eq.mpr c26
    clear c26
    by_cases c27:t256=6
    ·rw [if_pos c27] at H
     have c27b0:(t256 == 6)=true:=beq_iff_eq.mpr c27
     have c27b1:(t256 != 6)=false:=bne_eq_false_iff_eq.mpr c27
     clear c27
     clear hr
     obtain rfl:=Option.some.inj H
     go_enter Try.func8,Try.ntmps8
     go_wp2_with (first|((with_reducible refine gate_dst (N:=10) rfl ?_);refine Kd.R_lit (Kd.int .i64) _ 3 ?hg (N:=10) ?hd (xs:=([4294967296,8589934592]:List Int)) (inner:=[.int .i64 4294967296,.int .i64 8589934592]) (ok:=fun _=>True) (okp:=fun _=>True) ?hr ?hp (fun _ hk=>hk) trivial (Below.refl _ _) (Nat.le_refl _) (by simp) ?_;(case hd=>rfl);(case hg=>rfl);(case hr=>first|(go_simp;done)|(go_simp;rfl));(case hp=>exact(Reps.one (show Kd.M (Kd.int .i64) _ _ _ 4294967296 [.int .i64 4294967296] from rfl) (Reps.one (show Kd.M (Kd.int .i64) _ _ _ 8589934592 [.int .i64 8589934592] from rfl) (Reps.none _ _))));intro v241 w28 ho29 hb hg_ hnew_;clear hg_ hnew_;(first|rw [←Ny240.out] at ho29|(simp only [Int.reduceToNat] at ho29;rw [←Ny240.out] at ho29));have n0_:=Aside0.mk (Kd.R_lower ho29 (below_size (by repeat (first|(with_reducible first|exact HB.out|apply below_alloc|apply pw_below_drewN|apply below_drew1)|exact HB.out))));have n1_:=Aside0.mk (below_step (by repeat (first|(with_reducible first|exact HB.out|apply below_alloc|apply pw_below_drewN|apply below_drew1)|exact HB.out)) hb);clear HB;have HO242:=n0_;have HB:=n1_;clear n0_ n1_;clear hb ho29)|((with_reducible refine gate_dst (N:=11) rfl ?_);refine Kd.R_lit (Kd.int .i64) _ 3 ?hg (N:=11) ?hd (xs:=([12884901888,17179869184]:List Int)) (inner:=[.int .i64 12884901888,.int .i64 17179869184]) (ok:=fun _=>True) (okp:=fun _=>True) ?hr ?hp (fun _ hk=>hk) trivial (Below.refl _ _) (Nat.le_refl _) (by simp) ?_;(case hd=>rfl);(case hg=>rfl);(case hr=>first|(go_simp;done)|(go_simp;rfl));(case hp=>exact(Reps.one (show Kd.M (Kd.int .i64) _ _ _ 12884901888 [.int .i64 12884901888] from rfl) (Reps.one (show Kd.M (Kd.int .i64) _ _ _ 17179869184 [.int .i64 17179869184] from rfl) (Reps.none _ _))));intro v244 w30 ho31 hb hg_ hnew_;clear hg_ hnew_;(first|rw [←Ny243.out] at ho31|(simp only [Int.reduceToNat] at ho31;rw [←Ny243.out] at ho31));have n0_:=Aside0.mk (Kd.R_elder' (by (with_reducible repeat (first|apply Kd.R_alloc|apply Kd.R_drewN|apply Kd.R_drew));exact HO242.out) (Kd.R_base ho31) hb);have n1_:=Aside0.mk (Kd.R_lower (Kd.R_new' ho31 (Kd.R_lt (by (with_reducible repeat (first|apply Kd.R_alloc|apply Kd.R_drewN|apply Kd.R_drew));exact HO242.out))) (below_size (by repeat (first|(with_reducible first|exact HB.out|apply below_alloc|apply pw_below_drewN|apply below_drew1)|exact HB.out))));have n2_:=Aside0.mk (below_step (by repeat (first|(with_reducible first|exact HB.out|apply below_alloc|apply pw_below_drewN|apply below_drew1)|exact HB.out)) hb);clear HO242;clear HB;have HO242:=n0_;have HO245:=n1_;have HB:=n2_;clear n0_ n1_ n2_;clear hb ho31;obtain⟨Ao32,co32,eo32⟩:=Kd.R_slice HO242.out;subst eo32;obtain⟨Ao33,co33,eo33⟩:=Kd.R_slice HO245.out;subst eo33)|((with_reducible refine gate_callee (f:=13) rfl ?_);refine goesL_ (some 12) rfl rfl Try.func13 (by kernel_rfl) rfl #[.slice Ao32 y240.length co32,.slice Ao33 y243.length co33] rfl (by (try simp only [List.map_toArray,List.map_cons,List.map_nil]);first|done|rfl|(simp only [List.length_drop,List.length_take];rfl)) ?_;(with_reducible refine(sum_Dot.calls k _ _ y240 _ _ y243 t246 false _ ?side1 ?side2 ?side3 ?side4 A1.out).mono ?_);(case side1=>repeat (first|exact(Kd.R_reads' HO242.out).2.2|(with_reducible refine Kd.C_alloc ?_ _)|(with_reducible refine Kd.C_drewN ?_ _)|(with_reducible refine Kd.C_drew ?_)));(case side2=>exact(Kd.R_reads' HO242.out).2.1);(case side3=>repeat (first|exact(Kd.R_reads' HO245.out).2.2|(with_reducible refine Kd.C_alloc ?_ _)|(with_reducible refine Kd.C_drewN ?_ _)|(with_reducible refine Kd.C_drew ?_)));(case side4=>exact(Kd.R_reads' HO245.out).2.1);rintro e w34 ⟨rfl,hb⟩;refine⟨_,rfl,?_⟩;have n0_:=Aside0.mk (Kd.R_below (by (with_reducible repeat (first|apply Kd.R_alloc|apply Kd.R_drewN|apply Kd.R_drew));exact HO242.out) hb);have n1_:=Aside0.mk (Kd.R_below (by (with_reducible repeat (first|apply Kd.R_alloc|apply Kd.R_drewN|apply Kd.R_drew));exact HO245.out) hb);have n2_:=Aside0.mk (below_step (by repeat (first|(with_reducible first|exact HB.out|apply below_alloc|apply pw_below_drewN|apply below_drew1)|exact HB.out)) hb);clear HO242;clear HO245;clear HB;have HO242:=n0_;have HO245:=n1_;have HB:=n2_;clear n0_ n1_ n2_;(try clear hb);(try clear hb2);(try clear hk);(try clear hi))|((with_reducible refine gate_dst (N:=16) rfl ?_);refine Kd.R_lit (Kd.int .i64) _ 3 ?hg (N:=16) ?hd (xs:=([1,2]:List Int)) (inner:=[.int .i64 1,.int .i64 2]) (ok:=fun _=>True) (okp:=fun _=>True) ?hr ?hp (fun _ hk=>hk) trivial (Below.refl _ _) (Nat.le_refl _) (by simp) ?_;(case hd=>rfl);(case hg=>rfl);(case hr=>first|(go_simp;done)|(go_simp;rfl));(case hp=>exact(Reps.one (show Kd.M (Kd.int .i64) _ _ _ 1 [.int .i64 1] from rfl) (Reps.one (show Kd.M (Kd.int .i64) _ _ _ 2 [.int .i64 2] from rfl) (Reps.none _ _))));intro v249 w35 ho36 hb hg_ hnew_;clear hg_ hnew_;(first|rw [←Ny248.out] at ho36|(simp only [Int.reduceToNat] at ho36;rw [←Ny248.out] at ho36));have n0_:=Aside0.mk (Kd.R_elder' (by (with_reducible repeat (first|apply Kd.R_alloc|apply Kd.R_drewN|apply Kd.R_drew));exact HO242.out) (Kd.R_base ho36) hb);have n1_:=Aside0.mk (Kd.R_elder' (by (with_reducible repeat (first|apply Kd.R_alloc|apply Kd.R_drewN|apply Kd.R_drew));exact HO245.out) (Kd.R_base ho36) hb);have n2_:=Aside0.mk (Kd.R_lower (Kd.R_new' (Kd.R_new' ho36 (Kd.R_lt (by (with_reducible repeat (first|apply Kd.R_alloc|apply Kd.R_drewN|apply Kd.R_drew));exact HO242.out))) (Kd.R_lt (by (with_reducible repeat (first|apply Kd.R_alloc|apply Kd.R_drewN|apply Kd.R_drew));exact HO245.out))) (below_size (by repeat (first|(with_reducible first|exact HB.out|apply below_alloc|apply pw_below_drewN|apply below_drew1)|exact HB.out))));have n3_:=Aside0.mk (below_step (by repeat (first|(with_reducible first|exact HB.out|apply below_alloc|apply pw_below_drewN|apply below_drew1)|exact HB.out)) hb);clear HO242;clear HO245;clear HB;have HO242:=n0_;have HO245:=n1_;have HO250:=n2_;have HB:=n3_;clear n0_ n1_ n2_ n3_;clear hb ho36;obtain⟨Ao37,co37,eo37⟩:=Kd.R_slice HO250.out;subst eo37)|((with_reducible refine gate_callee (f:=11) rfl ?_);refine goesL_ (some 17) rfl rfl Try.func11 (by kernel_rfl) rfl #[.slice Ao37 y248.length co37] rfl (by (try simp only [List.map_toArray,List.map_cons,List.map_nil]);first|done|rfl|(simp only [List.length_drop,List.length_take];rfl)) ?_;(with_reducible refine(sum_Mean.calls k _ _ y248 t251 t252 _ ?side1 ?side2 A2.out).mono ?_);(case side1=>repeat (first|exact(Kd.R_reads' HO250.out).2.2|(with_reducible refine Kd.C_alloc ?_ _)|(with_reducible refine Kd.C_drewN ?_ _)|(with_reducible refine Kd.C_drew ?_)));(case side2=>exact(Kd.R_reads' HO250.out).2.1);rintro e w38 ⟨rfl,hb⟩;refine⟨_,rfl,?_⟩;have n0_:=Aside0.mk (Kd.R_below (by (with_reducible repeat (first|apply Kd.R_alloc|apply Kd.R_drewN|apply Kd.R_drew));exact HO242.out) hb);have n1_:=Aside0.mk (Kd.R_below (by (with_reducible repeat (first|apply Kd.R_alloc|apply Kd.R_drewN|apply Kd.R_drew));exact HO245.out) hb);have n2_:=Aside0.mk (Kd.R_below (by (with_reducible repeat (first|apply Kd.R_alloc|apply Kd.R_drewN|apply Kd.R_drew));exact HO250.out) hb);have n3_:=Aside0.mk (below_step (by repeat (first|(with_reducible first|exact HB.out|apply below_alloc|apply pw_below_drewN|apply below_drew1)|exact HB.out)) hb);clear HO242;clear HO245;clear HO250;clear HB;have HO242:=n0_;have HO245:=n1_;have HO250:=n2_;have HB:=n3_;clear n0_ n1_ n2_ n3_;(try clear hb);(try clear hb2);(try clear hk);(try clear hi))|((with_reducible refine gate_dst (N:=21) rfl ?_);refine Kd.R_lit (Kd.int .i64) _ 3 ?hg (N:=21) ?hd (xs:=([1,2,3]:List Int)) (inner:=[.int .i64 1,.int .i64 2,.int .i64 3]) (ok:=fun _=>True) (okp:=fun _=>True) ?hr ?hp (fun _ hk=>hk) trivial (Below.refl _ _) (Nat.le_refl _) (by simp) ?_;(case hd=>rfl);(case hg=>rfl);(case hr=>first|(go_simp;done)|(go_simp;rfl));(case hp=>exact(Reps.one (show Kd.M (Kd.int .i64) _ _ _ 1 [.int .i64 1] from rfl) (Reps.one (show Kd.M (Kd.int .i64) _ _ _ 2 [.int .i64 2] from rfl) (Reps.one (show Kd.M (Kd.int .i64) _ _ _ 3 [.int .i64 3] from rfl) (Reps.none _ _)))));intro v254 w39 ho40 hb hg_ hnew_;clear hg_ hnew_;(first|rw [←Ny253.out] at ho40|(simp only [Int.reduceToNat] at ho40;rw [←Ny253.out] at ho40));have n0_:=Aside0.mk (Kd.R_elder' (by (with_reducible repeat (first|apply Kd.R_alloc|apply Kd.R_drewN|apply Kd.R_drew));exact HO242.out) (Kd.R_base ho40) hb);have n1_:=Aside0.mk (Kd.R_elder' (by (with_reducible repeat (first|apply Kd.R_alloc|apply Kd.R_drewN|apply Kd.R_drew));exact HO245.out) (Kd.R_base ho40) hb);have n2_:=Aside0.mk (Kd.R_elder' (by (with_reducible repeat (first|apply Kd.R_alloc|apply Kd.R_drewN|apply Kd.R_drew));exact HO250.out) (Kd.R_base ho40) hb);have n3_:=Aside0.mk (Kd.R_lower (Kd.R_new' (Kd.R_new' (Kd.R_new' ho40 (Kd.R_lt (by (with_reducible repeat (first|apply Kd.R_alloc|apply Kd.R_drewN|apply Kd.R_drew));exact HO242.out))) (Kd.R_lt (by (with_reducible repeat (first|apply Kd.R_alloc|apply Kd.R_drewN|apply Kd.R_drew));exact HO245.out))) (Kd.R_lt (by (with_reducible repeat (first|apply Kd.R_alloc|apply Kd.R_drewN|apply Kd.R_drew));exact HO250.out))) (below_size (by repeat (first|(with_reducible first|exact HB.out|apply below_alloc|apply pw_below_drewN|apply below_drew1)|exact HB.out))));have n4_:=Aside0.mk (below_step (by repeat (first|(with_reducible first|exact HB.out|apply below_alloc|apply pw_below_drewN|apply below_drew1)|exact HB.out)) hb);clear HO242;clear HO245;clear HO250;clear HB;have HO242:=n0_;have HO245:=n1_;have HO250:=n2_;have HO255:=n3_;have HB:=n4_;clear n0_ n1_ n2_ n3_ n4_;clear hb ho40;obtain⟨Ao41,co41,eo41⟩:=Kd.R_slice HO255.out;subst eo41)|((with_reducible refine gate_callee (f:=9) rfl ?_);refine goesL_ (some 22) rfl rfl Try.func9 (by kernel_rfl) rfl #[.slice Ao41 y253.length co41] rfl (by (try simp only [List.map_toArray,List.map_cons,List.map_nil]);first|done|rfl|(simp only [List.length_drop,List.length_take];rfl)) ?_;(with_reducible refine(sum_Total.calls k _ _ y253 t256 t257 _ ?side1 ?side2 A3.out).mono ?_);(case side1=>repeat (first|exact(Kd.R_reads' HO255.out).2.2|(with_reducible refine Kd.C_alloc ?_ _)|(with_reducible refine Kd.C_drewN ?_ _)|(with_reducible refine Kd.C_drew ?_)));(case side2=>exact(Kd.R_reads' HO255.out).2.1);rintro e w42 ⟨rfl,hb⟩;refine⟨_,rfl,?_⟩;have n0_:=Aside0.mk (Kd.R_below (by (with_reducible repeat (first|apply Kd.R_alloc|apply Kd.R_drewN|apply Kd.R_drew));exact HO242.out) hb);have n1_:=Aside0.mk (Kd.R_below (by (with_reducible repeat (first|apply Kd.R_alloc|apply Kd.R_drewN|apply Kd.R_drew));exact HO245.out) hb);have n2_:=Aside0.mk (Kd.R_below (by (with_reducible repeat (first|apply Kd.R_alloc|apply Kd.R_drewN|apply Kd.R_drew));exact HO250.out) hb);have n3_:=Aside0.mk (Kd.R_below (by (with_reducible repeat (first|apply Kd.R_alloc|apply Kd.R_drewN|apply Kd.R_drew));exact HO255.out) hb);have n4_:=Aside0.mk (below_step (by repeat (first|(with_reducible first|exact HB.out|apply below_alloc|apply pw_below_drewN|apply below_drew1)|exact HB.out)) hb);clear HO242;clear HO245;clear HO250;clear HO255;clear HB;have HO242:=n0_;have HO245:=n1_;have HO250:=n2_;have HO255:=n3_;have HB:=n4_;clear n0_ n1_ n2_ n3_ n4_;(try clear hb);(try clear hb2);(try clear hk);(try clear hi))|((with_reducible refine gate_dst (N:=26) rfl ?_);refine Kd.R_lit (Kd.int .i64) _ 3 ?hg (N:=26) ?hd (xs:=([2,3,6]:List Int)) (inner:=[.int .i64 2,.int .i64 3,.int .i64 6]) (ok:=fun _=>True) (okp:=fun _=>True) ?hr ?hp (fun _ hk=>hk) trivial (Below.refl _ _) (Nat.le_refl _) (by simp) ?_;(case hd=>rfl);(case hg=>rfl);(case hr=>first|(go_simp;done)|(go_simp;rfl));(case hp=>exact(Reps.one (show Kd.M (Kd.int .i64) _ _ _ 2 [.int .i64 2] from rfl) (Reps.one (show Kd.M (Kd.int .i64) _ _ _ 3 [.int .i64 3] from rfl) (Reps.one (show Kd.M (Kd.int .i64) _ _ _ 6 [.int .i64 6] from rfl) (Reps.none _ _)))));intro v259 w43 ho44 hb hg_ hnew_;clear hg_ hnew_;(first|rw [←Ny258.out] at ho44|(simp only [Int.reduceToNat] at ho44;rw [←Ny258.out] at ho44));have n0_:=Aside0.mk (Kd.R_elder' (by (with_reducible repeat (first|apply Kd.R_alloc|apply Kd.R_drewN|apply Kd.R_drew));exact HO242.out) (Kd.R_base ho44) hb);have n1_:=Aside0.mk (Kd.R_elder' (by (with_reducible repeat (first|apply Kd.R_alloc|apply Kd.R_drewN|apply Kd.R_drew));exact HO245.out) (Kd.R_base ho44) hb);have n2_:=Aside0.mk (Kd.R_elder' (by (with_reducible repeat (first|apply Kd.R_alloc|apply Kd.R_drewN|apply Kd.R_drew));exact HO250.out) (Kd.R_base ho44) hb);have n3_:=Aside0.mk (Kd.R_elder' (by (with_reducible repeat (first|apply Kd.R_alloc|apply Kd.R_drewN|apply Kd.R_drew));exact HO255.out) (Kd.R_base ho44) hb);have n4_:=Aside0.mk (Kd.R_lower (Kd.R_new' (Kd.R_new' (Kd.R_new' (Kd.R_new' ho44 (Kd.R_lt (by (with_reducible repeat (first|apply Kd.R_alloc|apply Kd.R_drewN|apply Kd.R_drew));exact HO242.out))) (Kd.R_lt (by (with_reducible repeat (first|apply Kd.R_alloc|apply Kd.R_drewN|apply Kd.R_drew));exact HO245.out))) (Kd.R_lt (by (with_reducible repeat (first|apply Kd.R_alloc|apply Kd.R_drewN|apply Kd.R_drew));exact HO250.out))) (Kd.R_lt (by (with_reducible repeat (first|apply Kd.R_alloc|apply Kd.R_drewN|apply Kd.R_drew));exact HO255.out))) (below_size (by repeat (first|(with_reducible first|exact HB.out|apply below_alloc|apply pw_below_drewN|apply below_drew1)|exact HB.out))));have n5_:=Aside0.mk (below_step (by repeat (first|(with_reducible first|exact HB.out|apply below_alloc|apply pw_below_drewN|apply below_drew1)|exact HB.out)) hb);clear HO242;clear HO245;clear HO250;clear HO255;clear HB;have HO242:=n0_;have HO245:=n1_;have HO250:=n2_;have HO255:=n3_;have HO260:=n4_;have HB:=n5_;clear n0_ n1_ n2_ n3_ n4_ n5_;clear hb ho44;obtain⟨Ao45,co45,eo45⟩:=Kd.R_slice HO260.out;subst eo45)|((with_reducible refine gate_callee (f:=15) rfl ?_);refine goesL_ (some 27) rfl rfl Try.func15 (by kernel_rfl) rfl #[.slice Ao45 y258.length co45] rfl (by (try simp only [List.map_toArray,List.map_cons,List.map_nil]);first|done|rfl|(simp only [List.length_drop,List.length_take];rfl)) ?_;(with_reducible refine(sum_Norm.calls k _ _ y258 t261 t262 _ ?side1 ?side2 A4.out).mono ?_);(case side1=>repeat (first|exact(Kd.R_reads' HO260.out).2.2|(with_reducible refine Kd.C_alloc ?_ _)|(with_reducible refine Kd.C_drewN ?_ _)|(with_reducible refine Kd.C_drew ?_)));(case side2=>exact(Kd.R_reads' HO260.out).2.1);rintro e w46 ⟨rfl,hb⟩;refine⟨_,rfl,?_⟩;have n0_:=Aside0.mk (Kd.R_below (by (with_reducible repeat (first|apply Kd.R_alloc|apply Kd.R_drewN|apply Kd.R_drew));exact HO242.out) hb);have n1_:=Aside0.mk (Kd.R_below (by (with_reducible repeat (first|apply Kd.R_alloc|apply Kd.R_drewN|apply Kd.R_drew));exact HO245.out) hb);have n2_:=Aside0.mk (Kd.R_below (by (with_reducible repeat (first|apply Kd.R_alloc|apply Kd.R_drewN|apply Kd.R_drew));exact HO250.out) hb);have n3_:=Aside0.mk (Kd.R_below (by (with_reducible repeat (first|apply Kd.R_alloc|apply Kd.R_drewN|apply Kd.R_drew));exact HO255.out) hb);have n4_:=Aside0.mk (Kd.R_below (by (with_reducible repeat (first|apply Kd.R_alloc|apply Kd.R_drewN|apply Kd.R_drew));exact HO260.out) hb);have n5_:=Aside0.mk (below_step (by repeat (first|(with_reducible first|exact HB.out|apply below_alloc|apply pw_below_drewN|apply below_drew1)|exact HB.out)) hb);clear HO242;clear HO245;clear HO250;clear HO255;clear HO260;clear HB;have HO242:=n0_;have HO245:=n1_;have HO250:=n2_;have HO255:=n3_;have HO260:=n4_;have HB:=n5_;clear n0_ n1_ n2_ n3_ n4_ n5_;(try clear hb);(try clear hb2);(try clear hk);(try clear hi)))
     go_ret
     exact⟨by first|rfl|(simp [errW_none,errW_some]<;>rfl)|(simp [*,errW_none,errW_some]<;>rfl),by repeat (first|(with_reducible first|exact HB.out|apply below_alloc|apply pw_below_drewN|apply below_drew1)|exact HB.out)⟩
    ·rw [if_neg c27] at H
     have c27b0:(t256 == 6)=false:=beq_eq_false_iff_ne.mpr c27
     have c27b1:(t256 != 6)=true:=bne_iff_ne.mpr c27
     exact absurd ((Option.some.inj H).trans hr.out) (by decide)
   ·rw [if_neg c26] at H
    have c26b0:(t251 == 2)=false:=beq_eq_false_iff_ne.mpr c26
    have c26b1:(t251 != 2)=true:=bne_iff_ne.mpr c26
    exact absurd ((Option.some.inj H).trans hr.out) (by decide)
 ·rw [if_neg c5] at H
  have c5b0:(t246 == 47244640256)=false:=beq_eq_false_iff_ne.mpr c5
  have c5b1:(t246 != 47244640256)=true:=bne_iff_ne.mpr c5
  exact absurd ((Option.some.inj H).trans hr.out) (by decide)
theorem outriggerlaw06_awake.known:outriggerlaw06_awake.f 100=some true:=by decide +kernel
theorem outriggerlaw06_awake.tells {k:Nat} {r:Bool} (h:outriggerlaw06_awake.f k=some r):r=true:=by
 have h1:=at_rounds outriggerlaw06_awake.mono (Nat.le_max_left k 100) h
 have h2:=at_rounds outriggerlaw06_awake.mono (Nat.le_max_right k 100) outriggerlaw06_awake.known
 exact Option.some.inj (h1.symm.trans h2)
theorem outriggerlaw06_awake.calls (k:Nat) (r:Bool) (w:World) (h:outriggerlaw06_awake.f k=some r) :
  Calls Try.prog 8 #[] w fun e w'=>e=.returned (.bool r)∧Below w.heap.size w w':=outriggerlaw06_awake.calls1 k r w h ⟨outriggerlaw06_awake.tells h⟩
def fix_Add.f (a0:Int) (a1:Int):Option (Int × Bool):=(fix_known.f a0).bind fun t263=>((fix_known.f a1).bind fun t264=>((fix_Clamp.f (wrap64 (t263+t264))).bind fun bt265=>(if bt265.2=true then (some (bt265.1,true)) else ((fix_known.f a0).bind fun t267=>(if t267=a0 then ((fix_known.f a1).bind fun t268=>(some (bt265.1,(t268 != a1)))) else (some (bt265.1,true)))))))
set_option maxHeartbeats 8000000 in
set_option maxRecDepth 100000 in
theorem fix_Add.calls (a0:Int) (a1:Int) (r1:Int) (r2:Bool) (w:World) (h:fix_Add.f a0 a1=some (r1,r2)) :
  Calls Try.prog 17 #[.int .i64 a0,.int .i64 a1] w fun e w'=>e=.returned (.tuple #[.int .i64 r1,.bool r2])∧Below w.heap.size w w':=by
 have HB:=Aside0.mk (Below.refl w.heap.size w)
 have H:((fix_known.f a0).bind fun t263=>((fix_known.f a1).bind fun t264=>((fix_Clamp.f (wrap64 (t263+t264))).bind fun bt265=>(if bt265.2=true then (some (bt265.1,true)) else ((fix_known.f a0).bind fun t267=>(if t267=a0 then ((fix_known.f a1).bind fun t268=>(some (bt265.1,(t268 != a1)))) else (some (bt265.1,true))))))))=some (r1,r2):=h
 clear h
 replace H:=Option.bind_eq_some_iff.mp H
 obtain⟨t263,A30,H⟩:=H
 replace H:((fix_known.f a1).bind fun t264=>((fix_Clamp.f (wrap64 (t263+t264))).bind fun bt265=>(if bt265.2=true then (some (bt265.1,true)) else ((fix_known.f a0).bind fun t267=>(if t267=a0 then ((fix_known.f a1).bind fun t268=>(some (bt265.1,(t268 != a1)))) else (some (bt265.1,true)))))))=some (r1,r2):=H
 have A3:=Aside0.mk A30
 clear A30
 replace H:=Option.bind_eq_some_iff.mp H
 obtain⟨t264,A40,H⟩:=H
 replace H:((fix_Clamp.f (wrap64 (t263+t264))).bind fun bt265=>(if bt265.2=true then (some (bt265.1,true)) else ((fix_known.f a0).bind fun t267=>(if t267=a0 then ((fix_known.f a1).bind fun t268=>(some (bt265.1,(t268 != a1)))) else (some (bt265.1,true))))))=some (r1,r2):=H
 have A4:=Aside0.mk A40
 clear A40
 replace H:=Option.bind_eq_some_iff.mp H
 obtain⟨⟨t265,t266⟩,A50,H⟩:=H
 replace H:(if t266=true then (some (t265,true)) else ((fix_known.f a0).bind fun t267=>(if t267=a0 then ((fix_known.f a1).bind fun t268=>(some (t265,(t268 != a1)))) else (some (t265,true)))))=some (r1,r2):=H
 have A5:=Aside0.mk A50
 clear A50
 by_cases c6:t266=true
 ·subst c6
  have H1:(some (t265,true))=some (r1,r2):=by rw [if_pos rfl] at H;exact H
  clear H
  have H:=H1
  clear H1
  simp only [Option.some.injEq,Prod.mk.injEq] at H
  obtain⟨rfl,rfl⟩:=H
  go_enter Try.func17,Try.ntmps17
  go_wp2_with (first|((with_reducible refine gate_callee (f:=38) rfl ?_);refine goesL_ (some 10) rfl rfl Try.func38 (by kernel_rfl) rfl #[.int .i64 a0] rfl (by (try simp only [List.map_toArray,List.map_cons,List.map_nil]);first|done|rfl|(simp only [List.length_drop,List.length_take];rfl)) ?_;(with_reducible refine(fix_known.calls a0 t263 _ A3.out).mono ?_);rintro e w7 ⟨rfl,hb⟩;refine⟨_,rfl,?_⟩;have n0_:=Aside0.mk (below_step (by repeat (first|(with_reducible first|exact HB.out|apply below_alloc|apply pw_below_drewN|apply below_drew1)|exact HB.out)) hb);clear HB;have HB:=n0_;clear n0_;(try clear hb);(try clear hb2);(try clear hk);(try clear hi))|((with_reducible refine gate_callee (f:=38) rfl ?_);refine goesL_ (some 12) rfl rfl Try.func38 (by kernel_rfl) rfl #[.int .i64 a1] rfl (by (try simp only [List.map_toArray,List.map_cons,List.map_nil]);first|done|rfl|(simp only [List.length_drop,List.length_take];rfl)) ?_;(with_reducible refine(fix_known.calls a1 t264 _ A4.out).mono ?_);rintro e w8 ⟨rfl,hb⟩;refine⟨_,rfl,?_⟩;have n0_:=Aside0.mk (below_step (by repeat (first|(with_reducible first|exact HB.out|apply below_alloc|apply pw_below_drewN|apply below_drew1)|exact HB.out)) hb);clear HB;have HB:=n0_;clear n0_;(try clear hb);(try clear hb2);(try clear hk);(try clear hi))|((with_reducible refine gate_callee (f:=18) rfl ?_);refine goesL_ (some 14) rfl rfl Try.func18 (by kernel_rfl) rfl #[.int .i64 (wrap64 (t263+t264))] rfl (by (try simp only [List.map_toArray,List.map_cons,List.map_nil]);first|done|rfl|(simp only [List.length_drop,List.length_take];rfl)) ?_;(with_reducible refine(fix_Clamp.calls (wrap64 (t263+t264)) t265 true _ A5.out).mono ?_);rintro e w9 ⟨rfl,hb⟩;refine⟨_,rfl,?_⟩;have n0_:=Aside0.mk (below_step (by repeat (first|(with_reducible first|exact HB.out|apply below_alloc|apply pw_below_drewN|apply below_drew1)|exact HB.out)) hb);clear HB;have HB:=n0_;clear n0_;(try clear hb);(try clear hb2);(try clear hk);(try clear hi)))
  go_ret2
  exact⟨by first|rfl|(simp [errW_none,errW_some]<;>rfl)|(simp [*,errW_none,errW_some]<;>rfl),by repeat (first|(with_reducible first|exact HB.out|apply below_alloc|apply pw_below_drewN|apply below_drew1)|exact HB.out)⟩
 ·replace c6:=Bool.eq_false_iff.mpr c6
  subst c6
  have H1:((fix_known.f a0).bind fun t267=>(if t267=a0 then ((fix_known.f a1).bind fun t268=>(some (t265,(t268 != a1)))) else (some (t265,true))))=some (r1,r2):=by rw [if_neg (show ¬(false=true) by decide)] at H;exact H
  clear H
  have H:=H1
  clear H1
  replace H:=Option.bind_eq_some_iff.mp H
  obtain⟨t267,A100,H⟩:=H
  replace H:(if t267=a0 then ((fix_known.f a1).bind fun t268=>(some (t265,(t268 != a1)))) else (some (t265,true)))=some (r1,r2):=H
  have A10:=Aside0.mk A100
  clear A100
  by_cases c11:t267=a0
  ·rw [if_pos c11] at H
   have c11b0:(t267 == a0)=true:=beq_iff_eq.mpr c11
   have c11b1:(t267 != a0)=false:=bne_eq_false_iff_eq.mpr c11
   clear c11
   replace H:=Option.bind_eq_some_iff.mp H
   obtain⟨t268,A120,H⟩:=H
   replace H:(some (t265,(t268 != a1)))=some (r1,r2):=H
   have A12:=Aside0.mk A120
   clear A120
   simp only [Option.some.injEq,Prod.mk.injEq] at H
   obtain⟨rfl,rfl⟩:=H
   go_enter Try.func17,Try.ntmps17
   go_wp2_with (first|((with_reducible refine gate_callee (f:=38) rfl ?_);refine goesL_ (some 10) rfl rfl Try.func38 (by kernel_rfl) rfl #[.int .i64 a0] rfl (by (try simp only [List.map_toArray,List.map_cons,List.map_nil]);first|done|rfl|(simp only [List.length_drop,List.length_take];rfl)) ?_;(with_reducible refine(fix_known.calls a0 t263 _ A3.out).mono ?_);rintro e w13 ⟨rfl,hb⟩;refine⟨_,rfl,?_⟩;have n0_:=Aside0.mk (below_step (by repeat (first|(with_reducible first|exact HB.out|apply below_alloc|apply pw_below_drewN|apply below_drew1)|exact HB.out)) hb);clear HB;have HB:=n0_;clear n0_;(try clear hb);(try clear hb2);(try clear hk);(try clear hi))|((with_reducible refine gate_callee (f:=38) rfl ?_);refine goesL_ (some 12) rfl rfl Try.func38 (by kernel_rfl) rfl #[.int .i64 a1] rfl (by (try simp only [List.map_toArray,List.map_cons,List.map_nil]);first|done|rfl|(simp only [List.length_drop,List.length_take];rfl)) ?_;(with_reducible refine(fix_known.calls a1 t264 _ A4.out).mono ?_);rintro e w14 ⟨rfl,hb⟩;refine⟨_,rfl,?_⟩;have n0_:=Aside0.mk (below_step (by repeat (first|(with_reducible first|exact HB.out|apply below_alloc|apply pw_below_drewN|apply below_drew1)|exact HB.out)) hb);clear HB;have HB:=n0_;clear n0_;(try clear hb);(try clear hb2);(try clear hk);(try clear hi))|((with_reducible refine gate_callee (f:=18) rfl ?_);refine goesL_ (some 14) rfl rfl Try.func18 (by kernel_rfl) rfl #[.int .i64 (wrap64 (t263+t264))] rfl (by (try simp only [List.map_toArray,List.map_cons,List.map_nil]);first|done|rfl|(simp only [List.length_drop,List.length_take];rfl)) ?_;(with_reducible refine(fix_Clamp.calls (wrap64 (t263+t264)) t265 false _ A5.out).mono ?_);rintro e w15 ⟨rfl,hb⟩;refine⟨_,rfl,?_⟩;have n0_:=Aside0.mk (below_step (by repeat (first|(with_reducible first|exact HB.out|apply below_alloc|apply pw_below_drewN|apply below_drew1)|exact HB.out)) hb);clear HB;have HB:=n0_;clear n0_;(try clear hb);(try clear hb2);(try clear hk);(try clear hi))|(go_at_call 38;(with_reducible refine(fix_known.calls a0 t267 _ A10.out).mono ?_);rintro e w16 ⟨rfl,hb⟩;have n0_:=Aside0.mk (below_step (by repeat (first|(with_reducible first|exact HB.out|apply below_alloc|apply pw_below_drewN|apply below_drew1)|exact HB.out)) hb);clear HB;have HB:=n0_;clear n0_;(try clear hb);(try clear hb2);(try clear hk);(try clear hi))|(go_at_call 38;(with_reducible refine(fix_known.calls a1 t268 _ A12.out).mono ?_);rintro e w17 ⟨rfl,hb⟩;have n0_:=Aside0.mk (below_step (by repeat (first|(with_reducible first|exact HB.out|apply below_alloc|apply pw_below_drewN|apply below_drew1)|exact HB.out)) hb);clear HB;have HB:=n0_;clear n0_;(try clear hb);(try clear hb2);(try clear hk);(try clear hi)))
   go_ret2
   exact⟨by first|rfl|(simp [errW_none,errW_some]<;>rfl)|(simp [*,errW_none,errW_some]<;>rfl),by repeat (first|(with_reducible first|exact HB.out|apply below_alloc|apply pw_below_drewN|apply below_drew1)|exact HB.out)⟩
  ·rw [if_neg c11] at H
   have c11b0:(t267 == a0)=false:=beq_eq_false_iff_ne.mpr c11
   have c11b1:(t267 != a0)=true:=bne_iff_ne.mpr c11
   simp only [Option.some.injEq,Prod.mk.injEq] at H
   obtain⟨rfl,rfl⟩:=H
   go_enter Try.func17,Try.ntmps17
   go_wp2_with (first|((with_reducible refine gate_callee (f:=38) rfl ?_);refine goesL_ (some 10) rfl rfl Try.func38 (by kernel_rfl) rfl #[.int .i64 a0] rfl (by (try simp only [List.map_toArray,List.map_cons,List.map_nil]);first|done|rfl|(simp only [List.length_drop,List.length_take];rfl)) ?_;(with_reducible refine(fix_known.calls a0 t263 _ A3.out).mono ?_);rintro e w18 ⟨rfl,hb⟩;refine⟨_,rfl,?_⟩;have n0_:=Aside0.mk (below_step (by repeat (first|(with_reducible first|exact HB.out|apply below_alloc|apply pw_below_drewN|apply below_drew1)|exact HB.out)) hb);clear HB;have HB:=n0_;clear n0_;(try clear hb);(try clear hb2);(try clear hk);(try clear hi))|((with_reducible refine gate_callee (f:=38) rfl ?_);refine goesL_ (some 12) rfl rfl Try.func38 (by kernel_rfl) rfl #[.int .i64 a1] rfl (by (try simp only [List.map_toArray,List.map_cons,List.map_nil]);first|done|rfl|(simp only [List.length_drop,List.length_take];rfl)) ?_;(with_reducible refine(fix_known.calls a1 t264 _ A4.out).mono ?_);rintro e w19 ⟨rfl,hb⟩;refine⟨_,rfl,?_⟩;have n0_:=Aside0.mk (below_step (by repeat (first|(with_reducible first|exact HB.out|apply below_alloc|apply pw_below_drewN|apply below_drew1)|exact HB.out)) hb);clear HB;have HB:=n0_;clear n0_;(try clear hb);(try clear hb2);(try clear hk);(try clear hi))|((with_reducible refine gate_callee (f:=18) rfl ?_);refine goesL_ (some 14) rfl rfl Try.func18 (by kernel_rfl) rfl #[.int .i64 (wrap64 (t263+t264))] rfl (by (try simp only [List.map_toArray,List.map_cons,List.map_nil]);first|done|rfl|(simp only [List.length_drop,List.length_take];rfl)) ?_;(with_reducible refine(fix_Clamp.calls (wrap64 (t263+t264)) t265 false _ A5.out).mono ?_);rintro e w20 ⟨rfl,hb⟩;refine⟨_,rfl,?_⟩;have n0_:=Aside0.mk (below_step (by repeat (first|(with_reducible first|exact HB.out|apply below_alloc|apply pw_below_drewN|apply below_drew1)|exact HB.out)) hb);clear HB;have HB:=n0_;clear n0_;(try clear hb);(try clear hb2);(try clear hk);(try clear hi))|(go_at_call 38;(with_reducible refine(fix_known.calls a0 t267 _ A10.out).mono ?_);rintro e w21 ⟨rfl,hb⟩;have n0_:=Aside0.mk (below_step (by repeat (first|(with_reducible first|exact HB.out|apply below_alloc|apply pw_below_drewN|apply below_drew1)|exact HB.out)) hb);clear HB;have HB:=n0_;clear n0_;(try clear hb);(try clear hb2);(try clear hk);(try clear hi)))
   go_ret2
   exact⟨by first|rfl|(simp [errW_none,errW_some]<;>rfl)|(simp [*,errW_none,errW_some]<;>rfl),by repeat (first|(with_reducible first|exact HB.out|apply below_alloc|apply pw_below_drewN|apply below_drew1)|exact HB.out)⟩
end Go.Proofs.Ytiejinbjfficnaa.B
