/- Lemmas of the rows, laid by a program. -/
import Derived.Test.YtonfobdknnlbjaaYM1
import Derived.Test.YtonfobdknnlbjaaYM2
import Derived.Test.YtonfobdknnlbjaaYM3
import Derived.Shelf.Abstract
section
set_option linter.unusedVariables false
set_option linter.unusedSimpArgs false
namespace Go.Proofs.Ytonfobdknnlbjaa.B
open Go.RowKit Go.Proofs.YtonfobdknnlbjaaW.PrintWords Go.Proofs.YtonfobdknnlbjaaW.PrintLast Go.Proofs.YtonfobdknnlbjaaW.PrintMore
attribute [local go_sem] max2_int min2_int max_two min_two max_three min_three max_four min_four
set_option linter.unusedVariables false
set_option linter.unusedSimpArgs false
def scale_changed.l0:Nat→List Int→Int→Int→Option (Bool)
  | 0,_,_,_=>none
  | k+1,x7,x8,x9=>if x9<x8 then (if 0≤x9 then (if x9<(x7.length:Int) then ((fix_Clamp.f (rd x7 x9)).bind fun bt198=>(if bt198.2=true then (some true) else (scale_changed.l0 k x7 x8 (wrap64 (x9+1))))) else (none)) else (none)) else (some false)
def scale_changed.f (k:Nat) (l0:List Int):Option (Bool):=scale_changed.l0 k l0 (l0.length:Int) 0
theorem scale_changed.mono_l:∀ k,(∀ y0 y1 y2,LeO (scale_changed.l0 k y0 y1 y2) (scale_changed.l0 (k+1) y0 y1 y2))
 | 0=>fun _ _ _ r h=>by simp [scale_changed.l0] at h
 | k+1=>by
  have ih0:=scale_changed.mono_l k
  ·intro y0 y1 y2
   unfold scale_changed.l0
   repeat' first
   | (with_reducible exact ih0 _ _ _)
   | (with_reducible exact LeO.refl _)
   | (with_reducible exact LeO.none _)
   | (with_reducible refine LeO.ite ?_ ?_)
   | (with_reducible refine LeO.bind ?_ (fun _=>?_))
   | exact ih0 _ _ _
   | exact LeO.none _
   | refine LeO.ite ?_ ?_
   | refine LeO.bind ?_ (fun _=>?_)
theorem scale_changed.mono:∀ a0 k,LeO (scale_changed.f k a0) (scale_changed.f (k+1) a0):=by
 intro a0 k
 have ih0:=scale_changed.mono_l k
 unfold scale_changed.f
 repeat' first
   | (with_reducible exact ih0 _ _ _)
   | (with_reducible exact LeO.refl _)
   | (with_reducible exact LeO.none _)
   | (with_reducible refine LeO.ite ?_ ?_)
   | (with_reducible refine LeO.bind ?_ (fun _=>?_))
   | exact ih0 _ _ _
   | exact LeO.none _
   | refine LeO.ite ?_ ?_
   | refine LeO.bind ?_ (fun _=>?_)
set_option maxHeartbeats 8000000 in
set_option maxRecDepth 100000 in
theorem scale_changed.calls (k:Nat) (A0:Option Addr) (c0:Nat) (l0:List Int) (r:Bool) (w:World) (hr0:Kd.C (Kd.int .i64) w A0 l0.length l0) (hc0:l0.length≤c0) (h:scale_changed.f k l0=some r) :
  Calls Try.prog 67 #[.slice A0 l0.length c0] w fun e w'=>e=.returned (.bool r)∧Below w.heap.size w w':=by
 have HR0:=Aside0.mk hr0
 have HC0:=Aside0.mk hc0
 clear hr0 hc0
 have HB:=Aside0.mk (Below.refl w.heap.size w)
 have H:(scale_changed.l0 k l0 (l0.length:Int) 0)=some r:=h
 clear h
 have H':=Aside0.mk H
 clear H
 go_enter Try.func67,Try.ntmps67
 go_wp2
 go_loopg [9] k (fun kq v9 w'=>∃ (x9_1:Int),v9=.int .i64 x9_1∧Aside0 (scale_changed.l0 kq l0 (l0.length:Int) x9_1=some r)∧Aside0 (kq≤k)∧Aside0 (Below w.heap.size w w'))
 case atStart=>exact⟨(0),(by first|rfl|(simp;done)|(simp [*];done)),H',⟨Nat.le_refl _⟩,⟨by first|with_reducible exact HB.out|exact bl HB⟩⟩
 case round =>
  clear H'
  obtain⟨x9_1,rfl,HA,HK1,HB⟩:=hrel
  cases gk with
  | zero=>exact absurd HA.out (by simp [scale_changed.l0])
  | succ k1 =>
   have H:=HA.out
   clear HA
   simp only [scale_changed.l0] at H
   by_cases c2:x9_1<(l0.length:Int)
   ·rw [if_pos c2] at H
    have c2b0:decide (x9_1<(l0.length:Int))=true:=decide_eq_true c2
    clear c2
    by_cases c3:0≤x9_1
    ·rw [if_pos c3] at H
     have c3b0:decide (0≤x9_1)=true:=decide_eq_true c3
     clear c3
     by_cases c4:x9_1<(l0.length:Int)
     ·rw [if_pos c4] at H
      have c4b0:decide (x9_1<(l0.length:Int))=true:=decide_eq_true c4
      clear c4
      replace H:=Option.bind_eq_some_iff.mp H
      obtain⟨⟨t198,t199⟩,A50,H⟩:=H
      replace H:(if t199=true then (some true) else (scale_changed.l0 k1 l0 (l0.length:Int) (wrap64 (x9_1+1))))=some r:=H
      have A5:=Aside0.mk A50
      clear A50
      by_cases c6:t199=true
      ·subst c6
       have H1:(some true)=some r:=by rw [if_pos rfl] at H;exact H
       clear H
       have H:=H1
       clear H1
       obtain rfl:=Option.some.inj H
       have p197:0≤(x9_1:Int):=of_decide_eq_true (by first|(with_reducible assumption)|assumption)
       have q197:x9_1<(l0.length:Int):=of_decide_eq_true (by first|(with_reducible assumption)|assumption)
       obtain⟨ad197,e197,hx197_0⟩:=Kd.at_int HR0.out x9_1 p197 q197
       cases e197
       replace hx197_0:=(HB.out.cell (World.block_lt_of_cell? w _ hx197_0)).trans hx197_0
       replace p197:=eq_true p197
       replace q197:=eq_true q197
       go_wp2_with (first|((with_reducible refine gate_callee (f:=19) rfl ?_);refine goesL_ (some 15) rfl rfl Try.func19 (by kernel_rfl) rfl #[.int .i64 (rd l0 x9_1)] rfl (by exact mA _ _) ?_;(with_reducible refine(fix_Clamp.calls (rd l0 x9_1) t198 true _ A5.out).mono ?_);rintro e w7 ⟨rfl,hb⟩;refine⟨_,rfl,?_⟩;have n0_:=Aside0.mk (below_step (by first|with_reducible exact HB.out|exact bl HB) hb);clear HB;have HB:=n0_;clear n0_;(try clear hb);(try clear hb2);(try clear hk);(try clear hi)))
       go_ret
       exact⟨by first|rfl|(simp [errW_none,errW_some]<;>rfl)|(simp [*,errW_none,errW_some]<;>rfl),by first|with_reducible exact HB.out|exact bl HB⟩
      ·replace c6:=Bool.eq_false_iff.mpr c6
       subst c6
       have H1:(scale_changed.l0 k1 l0 (l0.length:Int) (wrap64 (x9_1+1)))=some r:=by rw [if_neg (show ¬(false=true) by decide)] at H;exact H
       clear H
       have H:=H1
       clear H1
       have H':=Aside0.mk H
       clear H
       have p197:0≤(x9_1:Int):=of_decide_eq_true (by first|(with_reducible assumption)|assumption)
       have q197:x9_1<(l0.length:Int):=of_decide_eq_true (by first|(with_reducible assumption)|assumption)
       obtain⟨ad197,e197,hx197_0⟩:=Kd.at_int HR0.out x9_1 p197 q197
       cases e197
       replace hx197_0:=(HB.out.cell (World.block_lt_of_cell? w _ hx197_0)).trans hx197_0
       replace p197:=eq_true p197
       replace q197:=eq_true q197
       go_wp2_with (first|((with_reducible refine gate_callee (f:=19) rfl ?_);refine goesL_ (some 15) rfl rfl Try.func19 (by kernel_rfl) rfl #[.int .i64 (rd l0 x9_1)] rfl (by exact mA _ _) ?_;(with_reducible refine(fix_Clamp.calls (rd l0 x9_1) t198 false _ A5.out).mono ?_);rintro e w8 ⟨rfl,hb⟩;refine⟨_,rfl,?_⟩;have n0_:=Aside0.mk (below_step (by first|with_reducible exact HB.out|exact bl HB) hb);clear HB;have HB:=n0_;clear n0_;(try clear hb);(try clear hb2);(try clear hk);(try clear hi)))
       go_roundg k1
       case measure=>have:=HK1.out;omega
       case rel=>exact⟨(wrap64 (x9_1+1)),(by first|rfl|(simp;done)|(simp [*];done)),H',⟨by have:=HK1.out;omega⟩,⟨by first|with_reducible exact HB.out|exact bl HB⟩⟩
     ·rw [if_neg c4] at H
      exact absurd H (by simp)
    ·rw [if_neg c3] at H
     exact absurd H (by simp)
   ·rw [if_neg c2] at H
    have c2b0:decide (x9_1<(l0.length:Int))=false:=decide_eq_false c2
    clear c2
    obtain rfl:=Option.some.inj H
    go_wp2
    go_ret
    exact⟨by first|rfl|(simp [errW_none,errW_some]<;>rfl)|(simp [*,errW_none,errW_some]<;>rfl),by first|with_reducible exact HB.out|exact bl HB⟩
def scale_Times.f (k:Nat) (a0:Int) (a1:Int):Option (Int × Bool):=(wide_Mul.f a0 a1).bind fun bt200=>((scale_Round.f k bt200.1 bt200.2).bind fun bt202=>(if bt202.2=true then (some (bt202.1,true)) else ((scale_changed.f k (([a0,a1]:List Int))).bind fun t207=>(some (bt202.1,t207)))))
theorem scale_Times.mono:∀ a0 a1 k,LeO (scale_Times.f k a0 a1) (scale_Times.f (k+1) a0 a1):=by
 intro a0 a1 k
 unfold scale_Times.f
 repeat' first
   | (with_reducible exact scale_Round.mono _ _ _)
   | (with_reducible exact scale_changed.mono _ _)
   | (with_reducible exact LeO.refl _)
   | (with_reducible exact LeO.none _)
   | (with_reducible refine LeO.ite ?_ ?_)
   | (with_reducible refine LeO.bind ?_ (fun _=>?_))
   | exact scale_Round.mono _ _ _
   | exact scale_changed.mono _ _
   | exact LeO.none _
   | refine LeO.ite ?_ ?_
   | refine LeO.bind ?_ (fun _=>?_)
set_option maxHeartbeats 8000000 in
set_option maxRecDepth 100000 in
theorem scale_Times.calls (k:Nat) (a0:Int) (a1:Int) (r1:Int) (r2:Bool) (w:World) (h:scale_Times.f k a0 a1=some (r1,r2)) :
  Calls Try.prog 43 #[.int .i64 a0,.int .i64 a1] w fun e w'=>e=.returned (.tuple #[.int .i64 r1,.bool r2])∧Below w.heap.size w w':=by
 have HB:=Aside0.mk (Below.refl w.heap.size w)
 have H:((wide_Mul.f a0 a1).bind fun bt200=>((scale_Round.f k bt200.1 bt200.2).bind fun bt202=>(if bt202.2=true then (some (bt202.1,true)) else ((scale_changed.f k (([a0,a1]:List Int))).bind fun t207=>(some (bt202.1,t207))))))=some (r1,r2):=h
 clear h
 replace H:=Option.bind_eq_some_iff.mp H
 obtain⟨⟨t200,t201⟩,A30,H⟩:=H
 replace H:((scale_Round.f k t200 t201).bind fun bt202=>(if bt202.2=true then (some (bt202.1,true)) else ((scale_changed.f k (([a0,a1]:List Int))).bind fun t207=>(some (bt202.1,t207)))))=some (r1,r2):=H
 have A3:=Aside0.mk A30
 clear A30
 replace H:=Option.bind_eq_some_iff.mp H
 obtain⟨⟨t202,t203⟩,A40,H⟩:=H
 replace H:(if t203=true then (some (t202,true)) else ((scale_changed.f k (([a0,a1]:List Int))).bind fun t207=>(some (t202,t207))))=some (r1,r2):=H
 have A4:=Aside0.mk A40
 clear A40
 by_cases c5:t203=true
 ·subst c5
  have H1:(some (t202,true))=some (r1,r2):=by rw [if_pos rfl] at H;exact H
  clear H
  have H:=H1
  clear H1
  simp only [Option.some.injEq,Prod.mk.injEq] at H
  obtain⟨rfl,rfl⟩:=H
  go_enter Try.func43,Try.ntmps43
  go_wp2_with (first|((with_reducible refine gate_callee (f:=66) rfl ?_);refine goesL_ (some 11) rfl rfl Try.func66 (by kernel_rfl) rfl #[.int .i64 a0,.int .i64 a1] rfl (by exact mA _ _) ?_;(with_reducible refine(wide_Mul.calls a0 a1 t200 t201 _ A3.out).mono ?_);rintro e w6 ⟨rfl,hb⟩;refine⟨_,rfl,?_⟩;have n0_:=Aside0.mk (below_step (by first|with_reducible exact HB.out|exact bl HB) hb);clear HB;have HB:=n0_;clear n0_;(try clear hb);(try clear hb2);(try clear hk);(try clear hi))|((with_reducible refine gate_callee (f:=65) rfl ?_);refine goesL_ (some 12) rfl rfl Try.func65 (by kernel_rfl) rfl #[.agg #[.int .i64 t200,.int .i64 t201]] rfl (by exact mA _ _) ?_;(with_reducible refine(scale_Round.calls k t200 t201 t202 true _ A4.out).mono ?_);rintro e w7 ⟨rfl,hb⟩;refine⟨_,rfl,?_⟩;have n0_:=Aside0.mk (below_step (by first|with_reducible exact HB.out|exact bl HB) hb);clear HB;have HB:=n0_;clear n0_;(try clear hb);(try clear hb2);(try clear hk);(try clear hi)))
  go_ret2
  exact⟨by first|rfl|(simp [errW_none,errW_some]<;>rfl)|(simp [*,errW_none,errW_some]<;>rfl),by first|with_reducible exact HB.out|exact bl HB⟩
 ·replace c5:=Bool.eq_false_iff.mpr c5
  subst c5
  have H1:((scale_changed.f k (([a0,a1]:List Int))).bind fun t207=>(some (t202,t207)))=some (r1,r2):=by rw [if_neg (show ¬(false=true) by decide)] at H;exact H
  clear H
  have H:=H1
  clear H1
  obtain⟨y204,hy204⟩:∃ y_:List Int,y_=(([a0,a1]:List Int)):=⟨_,rfl⟩
  replace H:((scale_changed.f k y204).bind fun t207=>(some (t202,t207)))=some (r1,r2):=by first|(rw [hy204];with_reducible exact H)|(have H2_:=(Option.bind_some _ _).symm.trans H;rw [hy204];with_reducible exact H2_)|(have H2_:=(Option.bind_some _ _).symm.trans H;with_reducible exact H2_)|with_reducible exact H|(rw [hy204];exact H)|exact H
  have Ny204:=Aside0.mk hy204
  clear hy204
  replace H:=Option.bind_eq_some_iff.mp H
  obtain⟨t207,A80,H⟩:=H
  replace H:(some (t202,t207))=some (r1,r2):=H
  have A8:=Aside0.mk A80
  clear A80
  simp only [Option.some.injEq,Prod.mk.injEq] at H
  obtain⟨rfl,rfl⟩:=H
  go_enter Try.func43,Try.ntmps43
  go_wp2_with (first|((with_reducible refine gate_callee (f:=66) rfl ?_);refine goesL_ (some 11) rfl rfl Try.func66 (by kernel_rfl) rfl #[.int .i64 a0,.int .i64 a1] rfl (by exact mA _ _) ?_;(with_reducible refine(wide_Mul.calls a0 a1 t200 t201 _ A3.out).mono ?_);rintro e w9 ⟨rfl,hb⟩;refine⟨_,rfl,?_⟩;have n0_:=Aside0.mk (below_step (by first|with_reducible exact HB.out|exact bl HB) hb);clear HB;have HB:=n0_;clear n0_;(try clear hb);(try clear hb2);(try clear hk);(try clear hi))|((with_reducible refine gate_callee (f:=65) rfl ?_);refine goesL_ (some 12) rfl rfl Try.func65 (by kernel_rfl) rfl #[.agg #[.int .i64 t200,.int .i64 t201]] rfl (by exact mA _ _) ?_;(with_reducible refine(scale_Round.calls k t200 t201 t202 false _ A4.out).mono ?_);rintro e w10 ⟨rfl,hb⟩;refine⟨_,rfl,?_⟩;have n0_:=Aside0.mk (below_step (by first|with_reducible exact HB.out|exact bl HB) hb);clear HB;have HB:=n0_;clear n0_;(try clear hb);(try clear hb2);(try clear hk);(try clear hi))|((with_reducible refine gate_dst (N:=20) rfl ?_);(try (refine gate_guard (by rfl) ?_;dsimp only));refine Kd.R_lit (Kd.int .i64) _ 3 ?hg (N:=20) ?hd (xs:=([a0,a1]:List Int)) (inner:=[.int .i64 a0,.int .i64 a1]) (ok:=fun _=>True) (okp:=fun _=>True) ?hr ?hp (fun _ hk=>hk) trivial (Below.refl _ _) (Nat.le_refl _) (by simp) ?_;(case hd=>rfl);(case hg=>rfl);(case hr=>first|(go_simp;done)|(go_simp;rfl));(case hp=>exact(Reps.one (show Kd.M (Kd.int .i64) _ _ _ a0 [.int .i64 a0] from rfl) (Reps.one (show Kd.M (Kd.int .i64) _ _ _ a1 [.int .i64 a1] from rfl) (Reps.none _ _))));intro v205 w11 ho12 hb hg_ hnew_;clear hg_ hnew_;(first|rw [←Ny204.out] at ho12|(simp only [Int.reduceToNat] at ho12;rw [←Ny204.out] at ho12));have n0_:=Aside0.mk (Kd.R_lower ho12 (below_size (by first|with_reducible exact HB.out|exact bl HB)));have n1_:=Aside0.mk (below_step (by first|with_reducible exact HB.out|exact bl HB) hb);clear HB;have HO206:=n0_;have HB:=n1_;clear n0_ n1_;clear hb ho12;obtain⟨Ao13,co13,eo13⟩:=Kd.R_slice HO206.out;subst eo13)|(go_at_call 67;(with_reducible refine(scale_changed.calls k _ _ y204 t207 _ ?side1 ?side2 A8.out).mono ?_);(case side1=>first|exact(Kd.R_reads' HO206.out).2.2|exact kC (Kd.R_reads' HO206.out).2.2);(case side2=>exact(Kd.R_reads' HO206.out).2.1);rintro e w14 ⟨rfl,hb⟩;have n0_:=Aside0.mk (Kd.R_below (by first|exact HO206.out|exact kR HO206.out) hb);have n1_:=Aside0.mk (below_step (by first|with_reducible exact HB.out|exact bl HB) hb);clear HO206;clear HB;have HO206:=n0_;have HB:=n1_;clear n0_ n1_;(try clear hb);(try clear hb2);(try clear hk);(try clear hi)))
  go_ret2
  exact⟨by first|rfl|(simp [errW_none,errW_some]<;>rfl)|(simp [*,errW_none,errW_some]<;>rfl),by first|with_reducible exact HB.out|exact bl HB⟩
def vec_Scale_1.f (k:Nat) (a0:Int) (a1_0:Int) (a1_1:Int) (a1_2:Int) (a2:Int):Option (Int × Bool):=if a0=0 then ((scale_Times.f k a1_0 a2).bind fun bt208=>(some (bt208.1,bt208.2))) else (if a0=1 then ((scale_Times.f k a1_1 a2).bind fun bt210=>(some (bt210.1,bt210.2))) else (if a0=2 then ((scale_Times.f k a1_2 a2).bind fun bt212=>(some (bt212.1,bt212.2))) else (if 0=0 then (none) else (some (0,false)))))
theorem vec_Scale_1.mono:∀ a0 a1 a2 a3 a4 k,LeO (vec_Scale_1.f k a0 a1 a2 a3 a4) (vec_Scale_1.f (k+1) a0 a1 a2 a3 a4):=by
 intro a0 a1 a2 a3 a4 k
 unfold vec_Scale_1.f
 repeat' first
   | (with_reducible exact scale_Times.mono _ _ _)
   | (with_reducible exact LeO.refl _)
   | (with_reducible exact LeO.none _)
   | (with_reducible refine LeO.ite ?_ ?_)
   | (with_reducible refine LeO.bind ?_ (fun _=>?_))
   | exact scale_Times.mono _ _ _
   | exact LeO.none _
   | refine LeO.ite ?_ ?_
   | refine LeO.bind ?_ (fun _=>?_)
def vec_Scale_1.T1:Bool × List (List Nat × List Nat):=(true,[([],[]),([0],[0]),([1],[1]),([],[]),([2,3],[2,3]),([4],[4]),([4],[4]),([5,4,0,1,2,3,4,5,6],[5]),([6,7,0,1,2,3,4,5,6,7],[6])])
def vec_Scale_1.B1:List Nat:=[0,1,3,0,15,31,31,127,255]
theorem vec_Scale_1.tab1:rtab .any (opsOf Try.f42 1)=vec_Scale_1.T1:=by kernel_rfl
theorem vec_Scale_1.bits1:waitsOk vec_Scale_1.T1.2 vec_Scale_1.B1=true:=by kernel_rfl
set_option maxHeartbeats 8000000 in
set_option maxRecDepth 100000 in
theorem vec_Scale_1.calls (k:Nat) (a0:Int) (a1_0:Int) (a1_1:Int) (a1_2:Int) (a2:Int) (r1:Int) (r2:Bool) (w:World) (g1_ g2_:Nat) (Hg1_:Aside0 (w.heap[g1_]? = some (.cells #[.int .i64 a1_0,.int .i64 a1_1,.int .i64 a1_2] 22 (0,0)))) (Hg2_:Aside0 (w.heap[g2_]? = some (.cells #[.int .i64 a2] 3 (0,0)))) (h:vec_Scale_1.f k a0 a1_0 a1_1 a1_2 a2=some (r1,r2)) :
  Calls Try.prog 42 #[.int .i64 a0,.pointer (some ⟨g1_,0,none⟩),.pointer (some ⟨g2_,0,none⟩)] w fun e w'=>e=.returned (.tuple #[.int .i64 r1,.bool r2])∧Below w.heap.size w w':=by
 have HB:=Aside0.mk (Below.refl w.heap.size w)
 have H:(if a0=0 then ((scale_Times.f k a1_0 a2).bind fun bt208=>(some (bt208.1,bt208.2))) else (if a0=1 then ((scale_Times.f k a1_1 a2).bind fun bt210=>(some (bt210.1,bt210.2))) else (if a0=2 then ((scale_Times.f k a1_2 a2).bind fun bt212=>(some (bt212.1,bt212.2))) else (if 0=0 then (none) else (some (0,false))))))=some (r1,r2):=h
 clear h
 by_cases c4:a0=0
 ·rw [if_pos c4] at H
  subst c4
  replace H:=Option.bind_eq_some_iff.mp H
  obtain⟨⟨t208,t209⟩,A50,H⟩:=H
  replace H:(some (t208,t209))=some (r1,r2):=H
  have A5:=Aside0.mk A50
  clear A50
  simp only [Option.some.injEq,Prod.mk.injEq] at H
  obtain⟨rfl,rfl⟩:=H
  go_enter Try.func42,Try.ntmps42
  try go_wp2
  have n0_:=Aside0.mk (below_drew1 HB.out)
  clear HB
  have HB:=n0_
  clear n0_
  refine start_ (n:=9) (S:=fun w'=>w'.cell? ⟨g1_,0,none⟩=some (.int .i64 a1_0)∧w'.cell? ⟨g2_,0,none⟩=some (.int .i64 a2)) (ds:=[]) #[ff,ff,ff,ff,ff,ff,ff,ff,ff] (by kernel_rfl) rfl rfl ⟨((HB.out.cell (World.block_lt_of_cell? w _ ((blk_cell Hg1_.out 0).trans rfl))).trans ((blk_cell Hg1_.out 0).trans rfl)),((HB.out.cell (World.block_lt_of_cell? w _ ((blk_cell Hg2_.out 0).trans rfl))).trans ((blk_cell Hg2_.out 0).trans rfl))⟩ (fun hHeld=>?_);refine with_tabW vec_Scale_1.tab1 vec_Scale_1.bits1 (fun HT_ HW_=>?_)
  generalize w.drew=w6 at HB hHeld ⊢
  refine pure_ (i:=0) (N:=some 6) (v:=?_) (a':=?_) #[tt,ff,ff,ff,ff,ff,ff,ff,ff] rfl rfl (any_of HT_.out (by kernel_rfl)) (fun _ _ _ h=>h) (Or.inl ⟨by rfl,?_⟩) ?_ ?_
  rotate_left
  ·intro w'
   go_simp
   with_reducible rfl
  rotate_left
  ·simp only [Act.put,List.setIfInBounds_toArray,List.set_cons_zero,List.set_cons_succ,i64_w,i32_w]
   rfl
  refine pure_ (i:=1) (N:=some 7) (v:=?_) (a':=?_) #[tt,tt,ff,ff,ff,ff,ff,ff,ff] rfl rfl (any_of HT_.out (by kernel_rfl)) (fun _ _ _ h=>h) (Or.inl ⟨by rfl,?_⟩) ?_ ?_
  rotate_left
  ·intro w'
   go_simp
   with_reducible rfl
  rotate_left
  ·simp only [Act.put,List.setIfInBounds_toArray,List.set_cons_zero,List.set_cons_succ,i64_w,i32_w]
   rfl
  refine take_ (i:=2) (N:=some 8) (v:=?_) (a':=?_) #[tt,tt,tt,ff,ff,ff,ff,ff,ff] rfl rfl (take_ofW HT_.out HW_.out (by kernel_rfl)) (fun _ _ _ h=>h) (Or.inl ⟨by rfl,?_⟩) hHeld ?_ ?_
  rotate_left
  ·rintro w' ⟨s0,s1⟩
   go_simp
   with_reducible rfl
  rotate_left
  ·simp only [Act.put,List.setIfInBounds_toArray,List.set_cons_zero,List.set_cons_succ,i64_w,i32_w]
   rfl
  refine take_ (i:=3) (N:=some 9) (v:=?_) (a':=?_) #[tt,tt,tt,tt,ff,ff,ff,ff,ff] rfl rfl (take_ofW HT_.out HW_.out (by kernel_rfl)) (fun _ _ _ h=>h) (Or.inl ⟨by rfl,?_⟩) hHeld ?_ ?_
  rotate_left
  ·rintro w' ⟨s0,s1⟩
   go_simp
   with_reducible rfl
  rotate_left
  ·simp only [Act.put,List.setIfInBounds_toArray,List.set_cons_zero,List.set_cons_succ,i64_w,i32_w]
   rfl
  refine one_ (i:=4) (N:=some 10) #[tt,tt,tt,tt,tt,ff,ff,ff,ff] rfl rfl (one_of HT_.out (by kernel_rfl)) (by decide) (fun K hK=>?_)
  refine goes_ Try.func43 (by kernel_rfl) rfl #[.int .i64 a1_0,.int .i64 a2] (by rfl) rfl rfl (by exact mA _ _) ?_
  with_reducible refine(scale_Times.calls k a1_0 a2 t208 t209 _ A5.out).mono ?_
  rintro e w7 ⟨rfl,hb⟩
  refine⟨_,rfl,?_⟩
  have n0_:=Aside0.mk (below_step (by first|with_reducible exact HB.out|exact bl HB) hb)
  clear HB
  have HB:=n0_
  clear n0_
  (try clear hb)
  (try clear hb2)
  (try clear hk)
  (try clear hi)
  refine hK.out _ _ ⟨((HB.out.cell (World.block_lt_of_cell? w _ ((blk_cell Hg1_.out 0).trans rfl))).trans ((blk_cell Hg1_.out 0).trans rfl)),((HB.out.cell (World.block_lt_of_cell? w _ ((blk_cell Hg2_.out 0).trans rfl))).trans ((blk_cell Hg2_.out 0).trans rfl))⟩ (fun hHeld=>?_)
  clear hK K
  refine norm_ (a':=?_) ?_ ?_
  rotate_left
  ·show Act.put _ (some 10) _=_
   simp only [Act.put,List.setIfInBounds_toArray,List.set_cons_zero,List.set_cons_succ,i64_w,i32_w]
   rfl
  refine pure_ (i:=5) (N:=some 11) (v:=?_) (a':=?_) #[tt,tt,tt,tt,tt,tt,ff,ff,ff] rfl rfl (any_of HT_.out (by kernel_rfl)) (fun _ _ _ h=>h) (Or.inl ⟨by rfl,?_⟩) ?_ ?_
  rotate_left
  ·intro w'
   go_simp
   with_reducible rfl
  rotate_left
  ·simp only [Act.put,List.setIfInBounds_toArray,List.set_cons_zero,List.set_cons_succ,i64_w,i32_w]
   rfl
  refine pure_ (i:=6) (N:=some 12) (v:=?_) (a':=?_) #[tt,tt,tt,tt,tt,tt,tt,ff,ff] rfl rfl (any_of HT_.out (by kernel_rfl)) (fun _ _ _ h=>h) (Or.inl ⟨by rfl,?_⟩) ?_ ?_
  rotate_left
  ·intro w'
   go_simp
   with_reducible rfl
  rotate_left
  ·simp only [Act.put,List.setIfInBounds_toArray,List.set_cons_zero,List.set_cons_succ,i64_w,i32_w]
   rfl
  refine pure_ (i:=7) (N:=some 4) (v:=?_) (a':=?_) #[tt,tt,tt,tt,tt,tt,tt,tt,ff] rfl rfl (any_of HT_.out (by kernel_rfl)) (fun _ _ _ h=>h) (Or.inl ⟨by rfl,?_⟩) ?_ ?_
  rotate_left
  ·intro w'
   go_simp
   with_reducible rfl
  rotate_left
  ·simp only [Act.put,List.setIfInBounds_toArray,List.set_cons_zero,List.set_cons_succ,i64_w,i32_w]
   rfl
  refine pure_ (i:=8) (N:=some 5) (v:=?_) (a':=?_) #[tt,tt,tt,tt,tt,tt,tt,tt,tt] rfl rfl (any_of HT_.out (by kernel_rfl)) (fun _ _ _ h=>h) (Or.inl ⟨by rfl,?_⟩) ?_ ?_
  rotate_left
  ·intro w'
   go_simp
   with_reducible rfl
  rotate_left
  ·simp only [Act.put,List.setIfInBounds_toArray,List.set_cons_zero,List.set_cons_succ,i64_w,i32_w]
   rfl
  refine done_ (done_of HT_.out (by kernel_rfl)) ?_
  try go_wp2
  go_ret2
  exact⟨by first|rfl|(simp [errW_none,errW_some]<;>rfl)|(simp [*,errW_none,errW_some]<;>rfl),by first|with_reducible exact HB.out|exact bl HB⟩
 ·rw [if_neg c4] at H
  have c4b0:(a0 == 0)=false:=beq_eq_false_iff_ne.mpr c4
  have c4b1:(a0 != 0)=true:=bne_iff_ne.mpr c4
  by_cases c8:a0=1
  ·rw [if_pos c8] at H
   subst c8
   replace H:=Option.bind_eq_some_iff.mp H
   obtain⟨⟨t210,t211⟩,A90,H⟩:=H
   replace H:(some (t210,t211))=some (r1,r2):=H
   have A9:=Aside0.mk A90
   clear A90
   simp only [Option.some.injEq,Prod.mk.injEq] at H
   obtain⟨rfl,rfl⟩:=H
   go_enter Try.func42,Try.ntmps42
   try go_wp2
   have n0_:=Aside0.mk (below_drew1 HB.out)
   clear HB
   have HB:=n0_
   clear n0_
   refine start_ (n:=9) (S:=fun w'=>w'.cell? ⟨g1_,1,none⟩=some (.int .i64 a1_1)∧w'.cell? ⟨g2_,0,none⟩=some (.int .i64 a2)) (ds:=[]) #[ff,ff,ff,ff,ff,ff,ff,ff,ff] (by kernel_rfl) rfl rfl ⟨((HB.out.cell (World.block_lt_of_cell? w _ ((blk_cell Hg1_.out 1).trans rfl))).trans ((blk_cell Hg1_.out 1).trans rfl)),((HB.out.cell (World.block_lt_of_cell? w _ ((blk_cell Hg2_.out 0).trans rfl))).trans ((blk_cell Hg2_.out 0).trans rfl))⟩ (fun hHeld=>?_);refine with_tabW vec_Scale_1.tab1 vec_Scale_1.bits1 (fun HT_ HW_=>?_)
   generalize w.drew=w10 at HB hHeld ⊢
   refine pure_ (i:=0) (N:=some 6) (v:=?_) (a':=?_) #[tt,ff,ff,ff,ff,ff,ff,ff,ff] rfl rfl (any_of HT_.out (by kernel_rfl)) (fun _ _ _ h=>h) (Or.inl ⟨by rfl,?_⟩) ?_ ?_
   rotate_left
   ·intro w'
    go_simp
    with_reducible rfl
   rotate_left
   ·simp only [Act.put,List.setIfInBounds_toArray,List.set_cons_zero,List.set_cons_succ,i64_w,i32_w]
    rfl
   refine pure_ (i:=1) (N:=some 7) (v:=?_) (a':=?_) #[tt,tt,ff,ff,ff,ff,ff,ff,ff] rfl rfl (any_of HT_.out (by kernel_rfl)) (fun _ _ _ h=>h) (Or.inl ⟨by rfl,?_⟩) ?_ ?_
   rotate_left
   ·intro w'
    go_simp
    with_reducible rfl
   rotate_left
   ·simp only [Act.put,List.setIfInBounds_toArray,List.set_cons_zero,List.set_cons_succ,i64_w,i32_w]
    rfl
   refine take_ (i:=2) (N:=some 8) (v:=?_) (a':=?_) #[tt,tt,tt,ff,ff,ff,ff,ff,ff] rfl rfl (take_ofW HT_.out HW_.out (by kernel_rfl)) (fun _ _ _ h=>h) (Or.inl ⟨by rfl,?_⟩) hHeld ?_ ?_
   rotate_left
   ·rintro w' ⟨s0,s1⟩
    go_simp
    with_reducible rfl
   rotate_left
   ·simp only [Act.put,List.setIfInBounds_toArray,List.set_cons_zero,List.set_cons_succ,i64_w,i32_w]
    rfl
   refine take_ (i:=3) (N:=some 9) (v:=?_) (a':=?_) #[tt,tt,tt,tt,ff,ff,ff,ff,ff] rfl rfl (take_ofW HT_.out HW_.out (by kernel_rfl)) (fun _ _ _ h=>h) (Or.inl ⟨by rfl,?_⟩) hHeld ?_ ?_
   rotate_left
   ·rintro w' ⟨s0,s1⟩
    go_simp
    with_reducible rfl
   rotate_left
   ·simp only [Act.put,List.setIfInBounds_toArray,List.set_cons_zero,List.set_cons_succ,i64_w,i32_w]
    rfl
   refine one_ (i:=4) (N:=some 10) #[tt,tt,tt,tt,tt,ff,ff,ff,ff] rfl rfl (one_of HT_.out (by kernel_rfl)) (by decide) (fun K hK=>?_)
   refine goes_ Try.func43 (by kernel_rfl) rfl #[.int .i64 a1_1,.int .i64 a2] (by rfl) rfl rfl (by exact mA _ _) ?_
   with_reducible refine(scale_Times.calls k a1_1 a2 t210 t211 _ A9.out).mono ?_
   rintro e w11 ⟨rfl,hb⟩
   refine⟨_,rfl,?_⟩
   have n0_:=Aside0.mk (below_step (by first|with_reducible exact HB.out|exact bl HB) hb)
   clear HB
   have HB:=n0_
   clear n0_
   (try clear hb)
   (try clear hb2)
   (try clear hk)
   (try clear hi)
   refine hK.out _ _ ⟨((HB.out.cell (World.block_lt_of_cell? w _ ((blk_cell Hg1_.out 1).trans rfl))).trans ((blk_cell Hg1_.out 1).trans rfl)),((HB.out.cell (World.block_lt_of_cell? w _ ((blk_cell Hg2_.out 0).trans rfl))).trans ((blk_cell Hg2_.out 0).trans rfl))⟩ (fun hHeld=>?_)
   clear hK K
   refine norm_ (a':=?_) ?_ ?_
   rotate_left
   ·show Act.put _ (some 10) _=_
    simp only [Act.put,List.setIfInBounds_toArray,List.set_cons_zero,List.set_cons_succ,i64_w,i32_w]
    rfl
   refine pure_ (i:=5) (N:=some 11) (v:=?_) (a':=?_) #[tt,tt,tt,tt,tt,tt,ff,ff,ff] rfl rfl (any_of HT_.out (by kernel_rfl)) (fun _ _ _ h=>h) (Or.inl ⟨by rfl,?_⟩) ?_ ?_
   rotate_left
   ·intro w'
    go_simp
    with_reducible rfl
   rotate_left
   ·simp only [Act.put,List.setIfInBounds_toArray,List.set_cons_zero,List.set_cons_succ,i64_w,i32_w]
    rfl
   refine pure_ (i:=6) (N:=some 12) (v:=?_) (a':=?_) #[tt,tt,tt,tt,tt,tt,tt,ff,ff] rfl rfl (any_of HT_.out (by kernel_rfl)) (fun _ _ _ h=>h) (Or.inl ⟨by rfl,?_⟩) ?_ ?_
   rotate_left
   ·intro w'
    go_simp
    with_reducible rfl
   rotate_left
   ·simp only [Act.put,List.setIfInBounds_toArray,List.set_cons_zero,List.set_cons_succ,i64_w,i32_w]
    rfl
   refine pure_ (i:=7) (N:=some 4) (v:=?_) (a':=?_) #[tt,tt,tt,tt,tt,tt,tt,tt,ff] rfl rfl (any_of HT_.out (by kernel_rfl)) (fun _ _ _ h=>h) (Or.inl ⟨by rfl,?_⟩) ?_ ?_
   rotate_left
   ·intro w'
    go_simp
    with_reducible rfl
   rotate_left
   ·simp only [Act.put,List.setIfInBounds_toArray,List.set_cons_zero,List.set_cons_succ,i64_w,i32_w]
    rfl
   refine pure_ (i:=8) (N:=some 5) (v:=?_) (a':=?_) #[tt,tt,tt,tt,tt,tt,tt,tt,tt] rfl rfl (any_of HT_.out (by kernel_rfl)) (fun _ _ _ h=>h) (Or.inl ⟨by rfl,?_⟩) ?_ ?_
   rotate_left
   ·intro w'
    go_simp
    with_reducible rfl
   rotate_left
   ·simp only [Act.put,List.setIfInBounds_toArray,List.set_cons_zero,List.set_cons_succ,i64_w,i32_w]
    rfl
   refine done_ (done_of HT_.out (by kernel_rfl)) ?_
   try go_wp2
   go_ret2
   exact⟨by first|rfl|(simp [errW_none,errW_some]<;>rfl)|(simp [*,errW_none,errW_some]<;>rfl),by first|with_reducible exact HB.out|exact bl HB⟩
  ·rw [if_neg c8] at H
   have c8b0:(a0 == 1)=false:=beq_eq_false_iff_ne.mpr c8
   have c8b1:(a0 != 1)=true:=bne_iff_ne.mpr c8
   by_cases c12:a0=2
   ·rw [if_pos c12] at H
    subst c12
    replace H:=Option.bind_eq_some_iff.mp H
    obtain⟨⟨t212,t213⟩,A130,H⟩:=H
    replace H:(some (t212,t213))=some (r1,r2):=H
    have A13:=Aside0.mk A130
    clear A130
    simp only [Option.some.injEq,Prod.mk.injEq] at H
    obtain⟨rfl,rfl⟩:=H
    go_enter Try.func42,Try.ntmps42
    try go_wp2
    have n0_:=Aside0.mk (below_drew1 HB.out)
    clear HB
    have HB:=n0_
    clear n0_
    refine start_ (n:=9) (S:=fun w'=>w'.cell? ⟨g1_,2,none⟩=some (.int .i64 a1_2)∧w'.cell? ⟨g2_,0,none⟩=some (.int .i64 a2)) (ds:=[]) #[ff,ff,ff,ff,ff,ff,ff,ff,ff] (by kernel_rfl) rfl rfl ⟨((HB.out.cell (World.block_lt_of_cell? w _ ((blk_cell Hg1_.out 2).trans rfl))).trans ((blk_cell Hg1_.out 2).trans rfl)),((HB.out.cell (World.block_lt_of_cell? w _ ((blk_cell Hg2_.out 0).trans rfl))).trans ((blk_cell Hg2_.out 0).trans rfl))⟩ (fun hHeld=>?_);refine with_tabW vec_Scale_1.tab1 vec_Scale_1.bits1 (fun HT_ HW_=>?_)
    generalize w.drew=w14 at HB hHeld ⊢
    refine pure_ (i:=0) (N:=some 6) (v:=?_) (a':=?_) #[tt,ff,ff,ff,ff,ff,ff,ff,ff] rfl rfl (any_of HT_.out (by kernel_rfl)) (fun _ _ _ h=>h) (Or.inl ⟨by rfl,?_⟩) ?_ ?_
    rotate_left
    ·intro w'
     go_simp
     with_reducible rfl
    rotate_left
    ·simp only [Act.put,List.setIfInBounds_toArray,List.set_cons_zero,List.set_cons_succ,i64_w,i32_w]
     rfl
    refine pure_ (i:=1) (N:=some 7) (v:=?_) (a':=?_) #[tt,tt,ff,ff,ff,ff,ff,ff,ff] rfl rfl (any_of HT_.out (by kernel_rfl)) (fun _ _ _ h=>h) (Or.inl ⟨by rfl,?_⟩) ?_ ?_
    rotate_left
    ·intro w'
     go_simp
     with_reducible rfl
    rotate_left
    ·simp only [Act.put,List.setIfInBounds_toArray,List.set_cons_zero,List.set_cons_succ,i64_w,i32_w]
     rfl
    refine take_ (i:=2) (N:=some 8) (v:=?_) (a':=?_) #[tt,tt,tt,ff,ff,ff,ff,ff,ff] rfl rfl (take_ofW HT_.out HW_.out (by kernel_rfl)) (fun _ _ _ h=>h) (Or.inl ⟨by rfl,?_⟩) hHeld ?_ ?_
    rotate_left
    ·rintro w' ⟨s0,s1⟩
     go_simp
     with_reducible rfl
    rotate_left
    ·simp only [Act.put,List.setIfInBounds_toArray,List.set_cons_zero,List.set_cons_succ,i64_w,i32_w]
     rfl
    refine take_ (i:=3) (N:=some 9) (v:=?_) (a':=?_) #[tt,tt,tt,tt,ff,ff,ff,ff,ff] rfl rfl (take_ofW HT_.out HW_.out (by kernel_rfl)) (fun _ _ _ h=>h) (Or.inl ⟨by rfl,?_⟩) hHeld ?_ ?_
    rotate_left
    ·rintro w' ⟨s0,s1⟩
     go_simp
     with_reducible rfl
    rotate_left
    ·simp only [Act.put,List.setIfInBounds_toArray,List.set_cons_zero,List.set_cons_succ,i64_w,i32_w]
     rfl
    refine one_ (i:=4) (N:=some 10) #[tt,tt,tt,tt,tt,ff,ff,ff,ff] rfl rfl (one_of HT_.out (by kernel_rfl)) (by decide) (fun K hK=>?_)
    refine goes_ Try.func43 (by kernel_rfl) rfl #[.int .i64 a1_2,.int .i64 a2] (by rfl) rfl rfl (by exact mA _ _) ?_
    with_reducible refine(scale_Times.calls k a1_2 a2 t212 t213 _ A13.out).mono ?_
    rintro e w15 ⟨rfl,hb⟩
    refine⟨_,rfl,?_⟩
    have n0_:=Aside0.mk (below_step (by first|with_reducible exact HB.out|exact bl HB) hb)
    clear HB
    have HB:=n0_
    clear n0_
    (try clear hb)
    (try clear hb2)
    (try clear hk)
    (try clear hi)
    refine hK.out _ _ ⟨((HB.out.cell (World.block_lt_of_cell? w _ ((blk_cell Hg1_.out 2).trans rfl))).trans ((blk_cell Hg1_.out 2).trans rfl)),((HB.out.cell (World.block_lt_of_cell? w _ ((blk_cell Hg2_.out 0).trans rfl))).trans ((blk_cell Hg2_.out 0).trans rfl))⟩ (fun hHeld=>?_)
    clear hK K
    refine norm_ (a':=?_) ?_ ?_
    rotate_left
    ·show Act.put _ (some 10) _=_
     simp only [Act.put,List.setIfInBounds_toArray,List.set_cons_zero,List.set_cons_succ,i64_w,i32_w]
     rfl
    refine pure_ (i:=5) (N:=some 11) (v:=?_) (a':=?_) #[tt,tt,tt,tt,tt,tt,ff,ff,ff] rfl rfl (any_of HT_.out (by kernel_rfl)) (fun _ _ _ h=>h) (Or.inl ⟨by rfl,?_⟩) ?_ ?_
    rotate_left
    ·intro w'
     go_simp
     with_reducible rfl
    rotate_left
    ·simp only [Act.put,List.setIfInBounds_toArray,List.set_cons_zero,List.set_cons_succ,i64_w,i32_w]
     rfl
    refine pure_ (i:=6) (N:=some 12) (v:=?_) (a':=?_) #[tt,tt,tt,tt,tt,tt,tt,ff,ff] rfl rfl (any_of HT_.out (by kernel_rfl)) (fun _ _ _ h=>h) (Or.inl ⟨by rfl,?_⟩) ?_ ?_
    rotate_left
    ·intro w'
     go_simp
     with_reducible rfl
    rotate_left
    ·simp only [Act.put,List.setIfInBounds_toArray,List.set_cons_zero,List.set_cons_succ,i64_w,i32_w]
     rfl
    refine pure_ (i:=7) (N:=some 4) (v:=?_) (a':=?_) #[tt,tt,tt,tt,tt,tt,tt,tt,ff] rfl rfl (any_of HT_.out (by kernel_rfl)) (fun _ _ _ h=>h) (Or.inl ⟨by rfl,?_⟩) ?_ ?_
    rotate_left
    ·intro w'
     go_simp
     with_reducible rfl
    rotate_left
    ·simp only [Act.put,List.setIfInBounds_toArray,List.set_cons_zero,List.set_cons_succ,i64_w,i32_w]
     rfl
    refine pure_ (i:=8) (N:=some 5) (v:=?_) (a':=?_) #[tt,tt,tt,tt,tt,tt,tt,tt,tt] rfl rfl (any_of HT_.out (by kernel_rfl)) (fun _ _ _ h=>h) (Or.inl ⟨by rfl,?_⟩) ?_ ?_
    rotate_left
    ·intro w'
     go_simp
     with_reducible rfl
    rotate_left
    ·simp only [Act.put,List.setIfInBounds_toArray,List.set_cons_zero,List.set_cons_succ,i64_w,i32_w]
     rfl
    refine done_ (done_of HT_.out (by kernel_rfl)) ?_
    try go_wp2
    go_ret2
    exact⟨by first|rfl|(simp [errW_none,errW_some]<;>rfl)|(simp [*,errW_none,errW_some]<;>rfl),by first|with_reducible exact HB.out|exact bl HB⟩
   ·rw [if_neg c12] at H
    have c12b0:(a0 == 2)=false:=beq_eq_false_iff_ne.mpr c12
    have c12b1:(a0 != 2)=true:=bne_iff_ne.mpr c12
    by_cases c16:0=0
    ·rw [if_pos c16] at H
     exact absurd H (by simp)
    ·exact absurd rfl c16
def vec_Scale.f (k:Nat) (a0_0:Int) (a0_1:Int) (a0_2:Int) (a1:Int):Option (Int × Int × Int × Bool):=(vec_Scale_1.f k 0 a0_0 a0_1 a0_2 a1).bind fun bt217=>((vec_each.f (fun i_=>vec_Scale_1.f k i_ a0_0 a0_1 a0_2 a1)).bind fun bt219=>(some (bt219.1,bt219.2.1,bt219.2.2.1,bt219.2.2.2)))
theorem vec_Scale.mono:∀ a0 a1 a2 a3 k,LeO (vec_Scale.f k a0 a1 a2 a3) (vec_Scale.f (k+1) a0 a1 a2 a3):=by
 intro a0 a1 a2 a3 k
 unfold vec_Scale.f
 repeat' first
   | (with_reducible exact vec_Scale_1.mono _ _ _ _ _ _)
   | (with_reducible exact vec_each.mono (fun _=>vec_Scale_1.mono _ _ _ _ _ _))
   | (with_reducible exact LeO.refl _)
   | (with_reducible exact LeO.none _)
   | (with_reducible refine LeO.ite ?_ ?_)
   | (with_reducible refine LeO.bind ?_ (fun _=>?_))
   | exact vec_Scale_1.mono _ _ _ _ _ _
   | exact LeO.none _
   | refine LeO.ite ?_ ?_
   | refine LeO.bind ?_ (fun _=>?_)
set_option maxHeartbeats 8000000 in
set_option maxRecDepth 100000 in
theorem vec_Scale.calls (k:Nat) (a0_0:Int) (a0_1:Int) (a0_2:Int) (a1:Int) (r1:Int) (r2:Int) (r3:Int) (r4:Bool) (w:World) (h:vec_Scale.f k a0_0 a0_1 a0_2 a1=some (r1,r2,r3,r4)) :
  Calls Try.prog 21 #[.agg #[.int .i64 a0_0,.int .i64 a0_1,.int .i64 a0_2],.int .i64 a1] w fun e w'=>e=.returned (.tuple #[.agg #[.int .i64 r1,.int .i64 r2,.int .i64 r3],.bool r4])∧Below w.heap.size w w':=by
 have hu22:=Try.underlying22
 have HB:=Aside0.mk (Below.refl w.heap.size w)
 have H:((vec_Scale_1.f k 0 a0_0 a0_1 a0_2 a1).bind fun bt217=>((vec_each.f (fun i_=>vec_Scale_1.f k i_ a0_0 a0_1 a0_2 a1)).bind fun bt219=>(some (bt219.1,bt219.2.1,bt219.2.2.1,bt219.2.2.2))))=some (r1,r2,r3,r4):=h
 clear h
 replace H:=Option.bind_eq_some_iff.mp H
 obtain⟨⟨t217,t218⟩,A30,H⟩:=H
 replace H:((vec_each.f (fun i_=>vec_Scale_1.f k i_ a0_0 a0_1 a0_2 a1)).bind fun bt219=>(some (bt219.1,bt219.2.1,bt219.2.2.1,bt219.2.2.2)))=some (r1,r2,r3,r4):=H
 have A3:=Aside0.mk A30
 clear A30
 replace H:=Option.bind_eq_some_iff.mp H
 obtain⟨⟨t219,t220,t221,t222⟩,A40,H⟩:=H
 replace H:(some (t219,t220,t221,t222))=some (r1,r2,r3,r4):=H
 have A4:=Aside0.mk A40
 clear A40
 simp only [Option.some.injEq,Prod.mk.injEq] at H
 obtain⟨rfl,rfl,rfl,rfl⟩:=H
 go_enter Try.func21,Try.ntmps21
 go_wp2_with (first|((with_reducible refine gate_dst (N:=2) rfl ?_);refine box_event ?hg (N:=2) ?hd (cs:=#[.int .i64 a0_0,.int .i64 a0_1,.int .i64 a0_2]) (t:=22) ?hr ?_;(case hd=>rfl);(case hg=>rfl);(case hr=>first|(go_simp;done)|(go_simp;rfl));intro gb214 hg w5 hbox hb;have n0_:=Aside0.mk (below_step (by first|with_reducible exact HB.out|exact bl HB) hb);have n1_:=Aside0.mk (hbox);have n2_:=Aside0.mk ((by rw [hg];exact(below_size (by first|with_reducible exact HB.out|exact bl HB)):w.heap.size≤gb214));have n3_:=Aside0.mk ((by rw [hg];exact(below_size (by first|with_reducible exact HB.out|exact bl HB)):w.heap.size≤gb214));clear HB;have HB:=n0_;have BK214:=n1_;have GW214:=n2_;have GE214:=n3_;clear n0_ n1_ n2_ n3_;clear hb hbox hg)|((with_reducible refine gate_dst (N:=3) rfl ?_);refine box_event ?hg (N:=3) ?hd (cs:=#[.int .i64 a1]) (t:=3) ?hr ?_;(case hd=>rfl);(case hg=>rfl);(case hr=>first|(go_simp;done)|(go_simp;rfl));intro gb215 hg w6 hbox hb;have n0_:=Aside0.mk (blk_below (bk BK214.out) hb);have n1_:=Aside0.mk (below_step (by repeat (first|with_reducible exact HB.out|exact bl HB|refine bs ?_ GE214)) hb);have n2_:=Aside0.mk (hbox);have n3_:=Aside0.mk ((by rw [hg];exact(below_size (by repeat (first|with_reducible exact HB.out|exact bl HB|refine bs ?_ GE214))):w.heap.size≤gb215));have n4_:=Aside0.mk ((by rw [hg];exact(below_size (by repeat (first|with_reducible exact HB.out|exact bl HB|refine bs ?_ GE214))):w.heap.size≤gb215));have n5_:=Aside0.mk ((by rw [hg];exact Nat.ne_of_lt (blk_lt (bk BK214.out)):gb214≠gb215));have n6_:=Aside0.mk ((by rw [hg];exact Nat.ne_of_gt (blk_lt (bk BK214.out)):gb215≠gb214));clear BK214;clear HB;have BK214:=n0_;have HB:=n1_;have BK215:=n2_;have GW215:=n3_;have GE215:=n4_;have NB214_215:=n5_;have NB215_214:=n6_;clear n0_ n1_ n2_ n3_ n4_ n5_ n6_;clear hb hbox hg)|((with_reducible refine gate_dst (N:=4) rfl ?_);refine box_event ?hg (N:=4) ?hd (cs:=#[.int .i64 0,.int .i64 0,.int .i64 0]) (t:=22) ?hr ?_;(case hd=>rfl);(case hg=>rfl);(case hr=>first|(go_simp;done)|(go_simp;rfl));intro gb216 hg w7 hbox hb;have n0_:=Aside0.mk (blk_below (bk BK214.out) hb);have n1_:=Aside0.mk (blk_below (bk BK215.out) hb);have n2_:=Aside0.mk (below_step (by repeat (first|with_reducible exact HB.out|exact bl HB|refine bs ?_ GE214|refine bs ?_ GE215)) hb);have n3_:=Aside0.mk (hbox);have n4_:=Aside0.mk ((by rw [hg];exact(below_size (by repeat (first|with_reducible exact HB.out|exact bl HB|refine bs ?_ GE214|refine bs ?_ GE215))):w.heap.size≤gb216));have n5_:=Aside0.mk ((by rw [hg];exact(below_size (by repeat (first|with_reducible exact HB.out|exact bl HB|refine bs ?_ GE214|refine bs ?_ GE215))):w.heap.size≤gb216));have n6_:=Aside0.mk ((by rw [hg];exact Nat.ne_of_lt (blk_lt (bk BK214.out)):gb214≠gb216));have n7_:=Aside0.mk ((by rw [hg];exact Nat.ne_of_gt (blk_lt (bk BK214.out)):gb216≠gb214));have n8_:=Aside0.mk ((by rw [hg];exact Nat.ne_of_lt (blk_lt (bk BK215.out)):gb215≠gb216));have n9_:=Aside0.mk ((by rw [hg];exact Nat.ne_of_gt (blk_lt (bk BK215.out)):gb216≠gb215));clear BK214;clear BK215;clear HB;have BK214:=n0_;have BK215:=n1_;have HB:=n2_;have BK216:=n3_;have GW216:=n4_;have GE216:=n5_;have NB214_216:=n6_;have NB216_214:=n7_;have NB215_216:=n8_;have NB216_215:=n9_;clear n0_ n1_ n2_ n3_ n4_ n5_ n6_ n7_ n8_ n9_;clear hb hbox hg)|((with_reducible refine gate_callee (f:=42) rfl ?_);refine goesL_ (some 92) rfl rfl Try.func42 (by kernel_rfl) rfl #[.int .i64 0,.agg #[.int .i64 a0_0,.int .i64 a0_1,.int .i64 a0_2],.int .i64 a1] rfl (by exact mA _ _) ?_;(with_reducible refine(vec_Scale_1.calls k 0 a0_0 a0_1 a0_2 a1 t217 t218 _ A3.out).mono ?_);rintro e w8 ⟨rfl,hb⟩;refine⟨_,rfl,?_⟩;have n0_:=Aside0.mk (blk_below (bk BK214.out) hb);have n1_:=Aside0.mk (blk_below (bk BK215.out) hb);have n2_:=Aside0.mk (blk_below (bk BK216.out) hb);have n3_:=Aside0.mk (below_step (by repeat (first|with_reducible exact HB.out|exact bl HB|refine bs ?_ GE214|refine bs ?_ GE215|refine bs ?_ GE216)) hb);clear BK214;clear BK215;clear BK216;clear HB;have BK214:=n0_;have BK215:=n1_;have BK216:=n2_;have HB:=n3_;clear n0_ n1_ n2_ n3_;(try clear hb);(try clear hb2);(try clear hk);(try clear hi))|((with_reducible refine gate_callee (f:=40) rfl ?_);refine goesL_ (some 7) rfl rfl Try.func40 (by kernel_rfl) rfl #[.func (.func 42) #[] #[.pointer (some ⟨gb214,0,none⟩),.pointer (some ⟨gb215,0,none⟩)]] rfl (by exact mA _ _) ?_;(refine(vec_each.calls (fun i_=>vec_Scale_1.f k i_ a0_0 a0_1 a0_2 a1) 42 #[] #[.pointer (some ⟨gb214,0,none⟩),.pointer (some ⟨gb215,0,none⟩)]  t219 t220 t221 t222 _ (enters_of Try.func42 (by kernel_rfl) rfl) ⟨fun i_ r1_ r2_ W_ hb_ hf_=>calls_of_args (by simp) (vec_Scale_1.calls k i_ a0_0 a0_1 a0_2 a1 r1_ r2_ W_ gb214 gb215 ⟨blk_below (bk BK214.out) hb_⟩ ⟨blk_below (bk BK215.out) hb_⟩ hf_)⟩ A4.out).mono ?_);rintro e w9 ⟨rfl,hb⟩;refine⟨_,rfl,?_⟩;have n0_:=Aside0.mk (blk_below (bk BK214.out) hb);have n1_:=Aside0.mk (blk_below (bk BK215.out) hb);have n2_:=Aside0.mk (blk_below (bk BK216.out) hb);have n3_:=Aside0.mk (below_step (by repeat (first|with_reducible exact HB.out|exact bl HB|refine bs ?_ GE214|refine bs ?_ GE215|refine bs ?_ GE216)) hb);clear BK214;clear BK215;clear BK216;clear HB;have BK214:=n0_;have BK215:=n1_;have BK216:=n2_;have HB:=n3_;clear n0_ n1_ n2_ n3_;(try clear hb);(try clear hb2);(try clear hk);(try clear hi);have hnb10:=NB216_214.out;have hnc10:=NB214_216.out;have hnb11:=NB216_215.out;have hnc11:=NB215_216.out;have hcz12_0:w9.cell? ⟨gb216,0,none⟩=some (.int .i64 0):=(blk_cell BK216.out 0).trans rfl;have hcz12_1:w9.cell? ⟨gb216,1,none⟩=some (.int .i64 0):=(blk_cell BK216.out 1).trans rfl;have hcz12_2:w9.cell? ⟨gb216,2,none⟩=some (.int .i64 0):=(blk_cell BK216.out 2).trans rfl;have hfz12_0:=blk_frozen BK216.out 0;have hfz12_1:=blk_frozen BK216.out 1;have hfz12_2:=blk_frozen BK216.out 2))
 refine bodyPost_ret (results_ct rfl _ _ gb216 22 #[.int .i64 t219,.int .i64 t220,.int .i64 t221] (0,0) _ rfl (by try refine bk ?_;refine blk_put (cs:=#[.int .i64 t219,.int .i64 t220,.int .i64 0]) ?_ 2 _ rfl;try refine bk ?_;refine blk_put (cs:=#[.int .i64 t219,.int .i64 0,.int .i64 0]) ?_ 1 _ rfl;try refine bk ?_;refine blk_put (cs:=#[.int .i64 0,.int .i64 0,.int .i64 0]) ?_ 0 _ rfl;try refine bk ?_;exact BK216.out) Try.underlying22 rfl (by kernel_rfl)) rfl ?_
 exact⟨by first|rfl|(simp [errW_none,errW_some]<;>rfl)|(simp [*,errW_none,errW_some]<;>rfl),by repeat (first|with_reducible exact HB.out|exact bl HB|refine bs ?_ GE214|refine bs ?_ GE215|refine bs ?_ GE216)⟩
def sense_cal_far.f (a0_0:Int) (a0_1:Int) (a0_2:Int) (a0_3:Int) (a0_4:Int) (a1:Int):Option (Bool):=if a1 > a0_4 then (some true) else (some (decide (a1<(wrap64 (-a0_4)))))
set_option maxHeartbeats 8000000 in
set_option maxRecDepth 100000 in
theorem sense_cal_far.calls (a0_0:Int) (a0_1:Int) (a0_2:Int) (a0_3:Int) (a0_4:Int) (a1:Int) (r:Bool) (w:World) (h:sense_cal_far.f a0_0 a0_1 a0_2 a0_3 a0_4 a1=some r) :
  Calls Try.prog 23 #[.agg #[.int .i64 a0_0,.int .i64 a0_1,.int .i64 a0_2,.int .i64 a0_3,.int .i64 a0_4],.int .i64 a1] w fun e w'=>e=.returned (.bool r)∧Below w.heap.size w w':=by
 have hu44:=Try.underlying44
 have HB:=Aside0.mk (Below.refl w.heap.size w)
 have H:(if a1 > a0_4 then (some true) else (some (decide (a1<(wrap64 (-a0_4))))))=some r:=h
 clear h
 by_cases c3:a1 > a0_4
 ·rw [if_pos c3] at H
  have c3b0:decide (a0_4<a1)=true:=decide_eq_true c3
  clear c3
  obtain rfl:=Option.some.inj H
  go_enter Try.func23,Try.ntmps23
  go_wp2_with (first|((with_reducible refine gate_dst (N:=2) rfl ?_);refine box_event ?hg (N:=2) ?hd (cs:=#[.int .i64 a0_0,.int .i64 a0_1,.int .i64 a0_2,.int .i64 a0_3,.int .i64 a0_4]) (t:=44) ?hr ?_;(case hd=>rfl);(case hg=>rfl);(case hr=>first|(go_simp;done)|(go_simp;rfl));intro gb223 hg w4 hbox hb;have n0_:=Aside0.mk (below_step (by first|with_reducible exact HB.out|exact bl HB) hb);have n1_:=Aside0.mk (hbox);have n2_:=Aside0.mk ((by rw [hg];exact(below_size (by first|with_reducible exact HB.out|exact bl HB)):w.heap.size≤gb223));have n3_:=Aside0.mk ((by rw [hg];exact(below_size (by first|with_reducible exact HB.out|exact bl HB)):w.heap.size≤gb223));clear HB;have HB:=n0_;have BK223:=n1_;have GW223:=n2_;have GE223:=n3_;clear n0_ n1_ n2_ n3_;clear hb hbox hg;have hcz5_0:w4.cell? ⟨gb223,0,none⟩=some (.int .i64 a0_0):=(blk_cell BK223.out 0).trans rfl;have hcz5_1:w4.cell? ⟨gb223,1,none⟩=some (.int .i64 a0_1):=(blk_cell BK223.out 1).trans rfl;have hcz5_2:w4.cell? ⟨gb223,2,none⟩=some (.int .i64 a0_2):=(blk_cell BK223.out 2).trans rfl;have hcz5_3:w4.cell? ⟨gb223,3,none⟩=some (.int .i64 a0_3):=(blk_cell BK223.out 3).trans rfl;have hcz5_4:w4.cell? ⟨gb223,4,none⟩=some (.int .i64 a0_4):=(blk_cell BK223.out 4).trans rfl;have hfz5_0:=blk_frozen BK223.out 0;have hfz5_1:=blk_frozen BK223.out 1;have hfz5_2:=blk_frozen BK223.out 2;have hfz5_3:=blk_frozen BK223.out 3;have hfz5_4:=blk_frozen BK223.out 4))
  go_ret
  exact⟨by first|rfl|(simp [errW_none,errW_some]<;>rfl)|(simp [*,errW_none,errW_some]<;>rfl),by repeat (first|with_reducible exact HB.out|exact bl HB|refine bs ?_ GE223)⟩
 ·rw [if_neg c3] at H
  have c3b0:decide (a0_4<a1)=false:=decide_eq_false c3
  clear c3
  obtain rfl:=Option.some.inj H
  go_enter Try.func23,Try.ntmps23
  go_wp2_with (first|((with_reducible refine gate_dst (N:=2) rfl ?_);refine box_event ?hg (N:=2) ?hd (cs:=#[.int .i64 a0_0,.int .i64 a0_1,.int .i64 a0_2,.int .i64 a0_3,.int .i64 a0_4]) (t:=44) ?hr ?_;(case hd=>rfl);(case hg=>rfl);(case hr=>first|(go_simp;done)|(go_simp;rfl));intro gb223 hg w6 hbox hb;have n0_:=Aside0.mk (below_step (by first|with_reducible exact HB.out|exact bl HB) hb);have n1_:=Aside0.mk (hbox);have n2_:=Aside0.mk ((by rw [hg];exact(below_size (by first|with_reducible exact HB.out|exact bl HB)):w.heap.size≤gb223));have n3_:=Aside0.mk ((by rw [hg];exact(below_size (by first|with_reducible exact HB.out|exact bl HB)):w.heap.size≤gb223));clear HB;have HB:=n0_;have BK223:=n1_;have GW223:=n2_;have GE223:=n3_;clear n0_ n1_ n2_ n3_;clear hb hbox hg;have hcz7_0:w6.cell? ⟨gb223,0,none⟩=some (.int .i64 a0_0):=(blk_cell BK223.out 0).trans rfl;have hcz7_1:w6.cell? ⟨gb223,1,none⟩=some (.int .i64 a0_1):=(blk_cell BK223.out 1).trans rfl;have hcz7_2:w6.cell? ⟨gb223,2,none⟩=some (.int .i64 a0_2):=(blk_cell BK223.out 2).trans rfl;have hcz7_3:w6.cell? ⟨gb223,3,none⟩=some (.int .i64 a0_3):=(blk_cell BK223.out 3).trans rfl;have hcz7_4:w6.cell? ⟨gb223,4,none⟩=some (.int .i64 a0_4):=(blk_cell BK223.out 4).trans rfl;have hfz7_0:=blk_frozen BK223.out 0;have hfz7_1:=blk_frozen BK223.out 1;have hfz7_2:=blk_frozen BK223.out 2;have hfz7_3:=blk_frozen BK223.out 3;have hfz7_4:=blk_frozen BK223.out 4))
  go_ret
  exact⟨by first|rfl|(simp [errW_none,errW_some]<;>rfl)|(simp [*,errW_none,errW_some]<;>rfl),by repeat (first|with_reducible exact HB.out|exact bl HB|refine bs ?_ GE223)⟩
def sense_Read.T3:Bool × List (List Nat × List Nat):=(true,[([],[]),([0],[0]),([1],[1]),([2,1],[2]),([3],[3]),([3,4],[3,4]),([5,3],[5]),([6],[6]),([6,7],[6,7]),([8,6],[8]),([9],[9]),([9],[9]),([11,9],[9,11]),([10,12,9,9],[9,10,12]),([9,13],[9,13])])
def sense_Read.B3:List Nat:=[0,1,3,7,15,31,63,127,255,511,1023,1023,3071,8191,16383]
theorem sense_Read.tab3:rtab .any (opsOf Try.f9 3)=sense_Read.T3:=by kernel_rfl
theorem sense_Read.bits3:waitsOk sense_Read.T3.2 sense_Read.B3=true:=by kernel_rfl
def sense_Read.f (k:Nat) (a0_0 a0_1 a0_2 a0_3 a0_4 a1_0 a1_1 a1_2:Int):Option (Int × Int × Int × Bool) :=
  (vec_Sub.f a1_0 a1_1 a1_2 a0_0 a0_1 a0_2).bind fun d=>(vec_Scale.f k d.1 d.2.1 d.2.2.1 a0_3).bind fun r=>(sense_Sane.f k a0_0 a0_1 a0_2 a0_3 a0_4).bind fun s =>
    if (s && !d.2.2.2 && !r.2.2.2)=true then (slices_ContainsFunc_int_int.f (sense_cal_far.f a0_0 a0_1 a0_2 a0_3 a0_4) k [r.1,r.2.1,r.2.2.1]).bind fun c=>(if c=true then some (0,0,0,false) else some (r.1,r.2.1,r.2.2.1,true)) else some (0,0,0,false)
theorem sense_Read.mono:∀ a0 a1 a2 a3 a4 a5 a6 a7 k,LeO (sense_Read.f k a0 a1 a2 a3 a4 a5 a6 a7) (sense_Read.f (k+1) a0 a1 a2 a3 a4 a5 a6 a7):=by
 intro a0 a1 a2 a3 a4 a5 a6 a7 k
 unfold sense_Read.f
 repeat' first
   | (with_reducible exact LeO.refl _)
   | (with_reducible exact vec_Scale.mono _ _ _ _ _)
   | (with_reducible exact sense_Sane.mono _ _ _ _ _ _)
   | (with_reducible exact slices_ContainsFunc_int_int.mono (fun _=>LeO.refl _) _ _)
   | (with_reducible refine LeO.ite ?_ ?_)
   | (with_reducible refine LeO.bind ?_ (fun _=>?_))
set_option maxRecDepth 100000 in
set_option maxHeartbeats 4000000 in
theorem sense_Read.calls (k:Nat) (a0_0 a0_1 a0_2 a0_3 a0_4 a1_0 a1_1 a1_2 r1 r2 r3:Int) (r4:Bool) (w:World) (h:sense_Read.f k a0_0 a0_1 a0_2 a0_3 a0_4 a1_0 a1_1 a1_2=some (r1,r2,r3,r4)) :
  Calls Try.prog 9 #[.agg #[.int .i64 a0_0,.int .i64 a0_1,.int .i64 a0_2,.int .i64 a0_3,.int .i64 a0_4],.agg #[.int .i64 a1_0,.int .i64 a1_1,.int .i64 a1_2]] w fun e w'=>e=.returned (.tuple #[.agg #[.int .i64 r1,.int .i64 r2,.int .i64 r3],.bool r4])∧Below w.heap.size w w':=by
 have hu24:=Try.underlying24
 have hu22:=Try.underlying22
 have HB:=Aside0.mk (Below.refl w.heap.size w)
 unfold sense_Read.f at h
 obtain⟨⟨t227,t228,t229,t230⟩,A30,h⟩:=Option.bind_eq_some_iff.mp h
 obtain⟨⟨t232,t233,t234,t235⟩,A40,h⟩:=Option.bind_eq_some_iff.mp h
 obtain⟨t237,A50,h⟩:=Option.bind_eq_some_iff.mp h
 have A3:=Aside0.mk A30
 have A4:=Aside0.mk A40
 have A5:=Aside0.mk A50
 have H:=Aside0.mk h
 clear A30 A40 A50 h
 go_enter Try.func9,Try.ntmps9
 go_wp2_with (first|((with_reducible refine gate_dst (N:=2) rfl ?_);refine box_event ?hg (N:=2) ?hd (cs:=#[.int .i64 a0_0,.int .i64 a0_1,.int .i64 a0_2,.int .i64 a0_3,.int .i64 a0_4]) (t:=24) ?hr ?_;(case hd=>rfl);(case hg=>rfl);(case hr=>first|(go_simp;done)|(go_simp;rfl));intro gb224 hg w9 hbox hb;have n0_:=Aside0.mk (below_step (by first|with_reducible exact HB.out|exact bl HB) hb);have n1_:=Aside0.mk (hbox);have n2_:=Aside0.mk ((by rw [hg];exact(below_size (by first|with_reducible exact HB.out|exact bl HB)):w.heap.size≤gb224));have n3_:=Aside0.mk ((by rw [hg];exact(below_size (by first|with_reducible exact HB.out|exact bl HB)):w.heap.size≤gb224));clear HB;have HB:=n0_;have BK224:=n1_;have GW224:=n2_;have GE224:=n3_;clear n0_ n1_ n2_ n3_;clear hb hbox hg)|((with_reducible refine gate_dst (N:=3) rfl ?_);refine box_event ?hg (N:=3) ?hd (cs:=#[.int .i64 a1_0,.int .i64 a1_1,.int .i64 a1_2]) (t:=22) ?hr ?_;(case hd=>rfl);(case hg=>rfl);(case hr=>first|(go_simp;done)|(go_simp;rfl));intro gb225 hg w10 hbox hb;have n0_:=Aside0.mk (blk_below (bk BK224.out) hb);have n1_:=Aside0.mk (below_step (by repeat (first|with_reducible exact HB.out|exact bl HB|refine bs ?_ GE224)) hb);have n2_:=Aside0.mk (hbox);have n3_:=Aside0.mk ((by rw [hg];exact(below_size (by repeat (first|with_reducible exact HB.out|exact bl HB|refine bs ?_ GE224))):w.heap.size≤gb225));have n4_:=Aside0.mk ((by rw [hg];exact(below_size (by repeat (first|with_reducible exact HB.out|exact bl HB|refine bs ?_ GE224))):w.heap.size≤gb225));have n5_:=Aside0.mk ((by rw [hg];exact Nat.ne_of_lt (blk_lt (bk BK224.out)):gb224≠gb225));have n6_:=Aside0.mk ((by rw [hg];exact Nat.ne_of_gt (blk_lt (bk BK224.out)):gb225≠gb224));clear BK224;clear HB;have BK224:=n0_;have HB:=n1_;have BK225:=n2_;have GW225:=n3_;have GE225:=n4_;have NB224_225:=n5_;have NB225_224:=n6_;clear n0_ n1_ n2_ n3_ n4_ n5_ n6_;clear hb hbox hg)|((with_reducible refine gate_dst (N:=4) rfl ?_);refine box_event ?hg (N:=4) ?hd (cs:=#[.int .i64 0,.int .i64 0,.int .i64 0]) (t:=22) ?hr ?_;(case hd=>rfl);(case hg=>rfl);(case hr=>first|(go_simp;done)|(go_simp;rfl));intro gb226 hg w11 hbox hb;have n0_:=Aside0.mk (blk_below (bk BK224.out) hb);have n1_:=Aside0.mk (blk_below (bk BK225.out) hb);have n2_:=Aside0.mk (below_step (by repeat (first|with_reducible exact HB.out|exact bl HB|refine bs ?_ GE224|refine bs ?_ GE225)) hb);have n3_:=Aside0.mk (hbox);have n4_:=Aside0.mk ((by rw [hg];exact(below_size (by repeat (first|with_reducible exact HB.out|exact bl HB|refine bs ?_ GE224|refine bs ?_ GE225))):w.heap.size≤gb226));have n5_:=Aside0.mk ((by rw [hg];exact(below_size (by repeat (first|with_reducible exact HB.out|exact bl HB|refine bs ?_ GE224|refine bs ?_ GE225))):w.heap.size≤gb226));have n6_:=Aside0.mk ((by rw [hg];exact Nat.ne_of_lt (blk_lt (bk BK224.out)):gb224≠gb226));have n7_:=Aside0.mk ((by rw [hg];exact Nat.ne_of_gt (blk_lt (bk BK224.out)):gb226≠gb224));have n8_:=Aside0.mk ((by rw [hg];exact Nat.ne_of_lt (blk_lt (bk BK225.out)):gb225≠gb226));have n9_:=Aside0.mk ((by rw [hg];exact Nat.ne_of_gt (blk_lt (bk BK225.out)):gb226≠gb225));clear BK224;clear BK225;clear HB;have BK224:=n0_;have BK225:=n1_;have HB:=n2_;have BK226:=n3_;have GW226:=n4_;have GE226:=n5_;have NB224_226:=n6_;have NB226_224:=n7_;have NB225_226:=n8_;have NB226_225:=n9_;clear n0_ n1_ n2_ n3_ n4_ n5_ n6_ n7_ n8_ n9_;clear hb hbox hg;have hnb12:=NB225_224.out;have hnc12:=NB224_225.out;have hnb13:=NB225_226.out;have hnc13:=NB226_225.out;have hcz14_0:w11.cell? ⟨gb225,0,none⟩=some (.int .i64 a1_0):=(blk_cell BK225.out 0).trans rfl;have hcz14_1:w11.cell? ⟨gb225,1,none⟩=some (.int .i64 a1_1):=(blk_cell BK225.out 1).trans rfl;have hcz14_2:w11.cell? ⟨gb225,2,none⟩=some (.int .i64 a1_2):=(blk_cell BK225.out 2).trans rfl;have hfz14_0:=blk_frozen BK225.out 0;have hfz14_1:=blk_frozen BK225.out 1;have hfz14_2:=blk_frozen BK225.out 2;have hnb15:=NB224_226.out;have hnc15:=NB226_224.out;have hcz16_0:w11.cell? ⟨gb224,0,none⟩=some (.int .i64 a0_0):=(blk_cell BK224.out 0).trans rfl;have hcz16_1:w11.cell? ⟨gb224,1,none⟩=some (.int .i64 a0_1):=(blk_cell BK224.out 1).trans rfl;have hcz16_2:w11.cell? ⟨gb224,2,none⟩=some (.int .i64 a0_2):=(blk_cell BK224.out 2).trans rfl;have hcz16_3:w11.cell? ⟨gb224,3,none⟩=some (.int .i64 a0_3):=(blk_cell BK224.out 3).trans rfl;have hcz16_4:w11.cell? ⟨gb224,4,none⟩=some (.int .i64 a0_4):=(blk_cell BK224.out 4).trans rfl;have hfz16_0:=blk_frozen BK224.out 0;have hfz16_1:=blk_frozen BK224.out 1;have hfz16_2:=blk_frozen BK224.out 2;have hfz16_3:=blk_frozen BK224.out 3;have hfz16_4:=blk_frozen BK224.out 4)|((with_reducible refine gate_callee (f:=20) rfl ?_);refine goesL_ (some 14) rfl rfl Try.func20 (by kernel_rfl) rfl #[.agg #[.int .i64 a1_0,.int .i64 a1_1,.int .i64 a1_2],.agg #[.int .i64 a0_0,.int .i64 a0_1,.int .i64 a0_2]] rfl (by exact mA _ _) ?_;(with_reducible refine(vec_Sub.calls a1_0 a1_1 a1_2 a0_0 a0_1 a0_2 t227 t228 t229 t230 _ A3.out).mono ?_);rintro e w17 ⟨rfl,hb⟩;refine⟨_,rfl,?_⟩;have n0_:=Aside0.mk (blk_below (bk BK224.out) hb);have n1_:=Aside0.mk (blk_below (bk BK225.out) hb);have n2_:=Aside0.mk (blk_below (bk BK226.out) hb);have n3_:=Aside0.mk (below_step (by repeat (first|with_reducible exact HB.out|exact bl HB|refine bs ?_ GE224|refine bs ?_ GE225|refine bs ?_ GE226)) hb);clear BK224;clear BK225;clear BK226;clear HB;have BK224:=n0_;have BK225:=n1_;have BK226:=n2_;have HB:=n3_;clear n0_ n1_ n2_ n3_;(try clear hb);(try clear hb2);(try clear hk);(try clear hi))|((with_reducible refine gate_dst (N:=6) rfl ?_);refine box_event ?hg (N:=6) ?hd (cs:=#[.int .i64 0,.int .i64 0,.int .i64 0]) (t:=22) ?hr ?_;(case hd=>rfl);(case hg=>rfl);(case hr=>first|(go_simp;done)|(go_simp;rfl));intro gb231 hg w18 hbox hb;have n0_:=Aside0.mk (blk_below (bk BK224.out) hb);have n1_:=Aside0.mk (blk_below (bk BK225.out) hb);have n2_:=Aside0.mk (blk_below (bk BK226.out) hb);have n3_:=Aside0.mk (below_step (by repeat (first|with_reducible exact HB.out|exact bl HB|refine bs ?_ GE224|refine bs ?_ GE225|refine bs ?_ GE226)) hb);have n4_:=Aside0.mk (hbox);have n5_:=Aside0.mk ((by rw [hg];exact(below_size (by repeat (first|with_reducible exact HB.out|exact bl HB|refine bs ?_ GE224|refine bs ?_ GE225|refine bs ?_ GE226))):w.heap.size≤gb231));have n6_:=Aside0.mk ((by rw [hg];exact(below_size (by repeat (first|with_reducible exact HB.out|exact bl HB|refine bs ?_ GE224|refine bs ?_ GE225|refine bs ?_ GE226))):w.heap.size≤gb231));have n7_:=Aside0.mk ((by rw [hg];exact Nat.ne_of_lt (blk_lt (bk BK224.out)):gb224≠gb231));have n8_:=Aside0.mk ((by rw [hg];exact Nat.ne_of_gt (blk_lt (bk BK224.out)):gb231≠gb224));have n9_:=Aside0.mk ((by rw [hg];exact Nat.ne_of_lt (blk_lt (bk BK225.out)):gb225≠gb231));have n10_:=Aside0.mk ((by rw [hg];exact Nat.ne_of_gt (blk_lt (bk BK225.out)):gb231≠gb225));have n11_:=Aside0.mk ((by rw [hg];exact Nat.ne_of_lt (blk_lt (bk BK226.out)):gb226≠gb231));have n12_:=Aside0.mk ((by rw [hg];exact Nat.ne_of_gt (blk_lt (bk BK226.out)):gb231≠gb226));clear BK224;clear BK225;clear BK226;clear HB;have BK224:=n0_;have BK225:=n1_;have BK226:=n2_;have HB:=n3_;have BK231:=n4_;have GW231:=n5_;have GE231:=n6_;have NB224_231:=n7_;have NB231_224:=n8_;have NB225_231:=n9_;have NB231_225:=n10_;have NB226_231:=n11_;have NB231_226:=n12_;clear n0_ n1_ n2_ n3_ n4_ n5_ n6_ n7_ n8_ n9_ n10_ n11_ n12_;clear hb hbox hg;have hnb19:=NB231_224.out;have hnc19:=NB224_231.out;have hnb20:=NB231_225.out;have hnc20:=NB225_231.out;have hnb21:=NB231_226.out;have hnc21:=NB226_231.out;have hcz22_0:w18.cell? ⟨gb231,0,none⟩=some (.int .i64 0):=(blk_cell BK231.out 0).trans rfl;have hcz22_1:w18.cell? ⟨gb231,1,none⟩=some (.int .i64 0):=(blk_cell BK231.out 1).trans rfl;have hcz22_2:w18.cell? ⟨gb231,2,none⟩=some (.int .i64 0):=(blk_cell BK231.out 2).trans rfl;have hfz22_0:=blk_frozen BK231.out 0;have hfz22_1:=blk_frozen BK231.out 1;have hfz22_2:=blk_frozen BK231.out 2;have hcz23_0:w18.cell? ⟨gb224,0,none⟩=some (.int .i64 a0_0):=(blk_cell BK224.out 0).trans rfl;have hcz23_1:w18.cell? ⟨gb224,1,none⟩=some (.int .i64 a0_1):=(blk_cell BK224.out 1).trans rfl;have hcz23_2:w18.cell? ⟨gb224,2,none⟩=some (.int .i64 a0_2):=(blk_cell BK224.out 2).trans rfl;have hcz23_3:w18.cell? ⟨gb224,3,none⟩=some (.int .i64 a0_3):=(blk_cell BK224.out 3).trans rfl;have hcz23_4:w18.cell? ⟨gb224,4,none⟩=some (.int .i64 a0_4):=(blk_cell BK224.out 4).trans rfl;have hfz23_0:=blk_frozen BK224.out 0;have hfz23_1:=blk_frozen BK224.out 1;have hfz23_2:=blk_frozen BK224.out 2;have hfz23_3:=blk_frozen BK224.out 3;have hfz23_4:=blk_frozen BK224.out 4)|((with_reducible refine gate_callee (f:=21) rfl ?_);refine goesL_ (some 21) rfl rfl Try.func21 (by kernel_rfl) rfl #[.agg #[.int .i64 t227,.int .i64 t228,.int .i64 t229],.int .i64 a0_3] rfl (by exact mA _ _) ?_;(with_reducible refine(vec_Scale.calls k t227 t228 t229 a0_3 t232 t233 t234 t235 _ A4.out).mono ?_);rintro e w24 ⟨rfl,hb⟩;refine⟨_,rfl,?_⟩;have n0_:=Aside0.mk (blk_below (g:=gb224) (o:=.cells #[.int .i64 a0_0,.int .i64 a0_1,.int .i64 a0_2,.int .i64 a0_3,.int .i64 a0_4] 24 (0,0)) (by try refine bk ?_;refine blk_far ?_ NB224_231.out _;try refine bk ?_;refine blk_far ?_ NB224_231.out _;try refine bk ?_;refine blk_far ?_ NB224_231.out _;try refine bk ?_;exact BK224.out) hb);have n1_:=Aside0.mk (blk_below (g:=gb225) (o:=.cells #[.int .i64 a1_0,.int .i64 a1_1,.int .i64 a1_2] 22 (0,0)) (by try refine bk ?_;refine blk_far ?_ NB225_231.out _;try refine bk ?_;refine blk_far ?_ NB225_231.out _;try refine bk ?_;refine blk_far ?_ NB225_231.out _;try refine bk ?_;exact BK225.out) hb);have n2_:=Aside0.mk (blk_below (g:=gb226) (o:=.cells #[.int .i64 0,.int .i64 0,.int .i64 0] 22 (0,0)) (by try refine bk ?_;refine blk_far ?_ NB226_231.out _;try refine bk ?_;refine blk_far ?_ NB226_231.out _;try refine bk ?_;refine blk_far ?_ NB226_231.out _;try refine bk ?_;exact BK226.out) hb);have n3_:=Aside0.mk (blk_below (g:=gb231) (o:=.cells #[.int .i64 t227,.int .i64 t228,.int .i64 t229] 22 (0,0)) (by try refine bk ?_;refine blk_put (cs:=#[.int .i64 t227,.int .i64 t228,.int .i64 0]) ?_ 2 _ rfl;try refine bk ?_;refine blk_put (cs:=#[.int .i64 t227,.int .i64 0,.int .i64 0]) ?_ 1 _ rfl;try refine bk ?_;refine blk_put (cs:=#[.int .i64 0,.int .i64 0,.int .i64 0]) ?_ 0 _ rfl;try refine bk ?_;exact BK231.out) hb);have n4_:=Aside0.mk (below_step (by repeat (first|with_reducible exact HB.out|exact bl HB|refine bs ?_ GE224|refine bs ?_ GE225|refine bs ?_ GE226|refine bs ?_ GE231)) hb);clear BK224;clear BK225;clear BK226;clear BK231;clear HB;have BK224:=n0_;have BK225:=n1_;have BK226:=n2_;have BK231:=n3_;have HB:=n4_;clear n0_ n1_ n2_ n3_ n4_;(try clear hb);(try clear hb2);(try clear hk);(try clear hi))|((with_reducible refine gate_dst (N:=8) rfl ?_);refine box_event ?hg (N:=8) ?hd (cs:=#[.int .i64 0,.int .i64 0,.int .i64 0]) (t:=22) ?hr ?_;(case hd=>rfl);(case hg=>rfl);(case hr=>first|(go_simp;done)|(go_simp;rfl));intro gb236 hg w25 hbox hb;have n0_:=Aside0.mk (blk_below (bk BK224.out) hb);have n1_:=Aside0.mk (blk_below (bk BK225.out) hb);have n2_:=Aside0.mk (blk_below (bk BK226.out) hb);have n3_:=Aside0.mk (blk_below (bk BK231.out) hb);have n4_:=Aside0.mk (below_step (by repeat (first|with_reducible exact HB.out|exact bl HB|refine bs ?_ GE224|refine bs ?_ GE225|refine bs ?_ GE226|refine bs ?_ GE231)) hb);have n5_:=Aside0.mk (hbox);have n6_:=Aside0.mk ((by rw [hg];exact(below_size (by repeat (first|with_reducible exact HB.out|exact bl HB|refine bs ?_ GE224|refine bs ?_ GE225|refine bs ?_ GE226|refine bs ?_ GE231))):w.heap.size≤gb236));have n7_:=Aside0.mk ((by rw [hg];exact(below_size (by repeat (first|with_reducible exact HB.out|exact bl HB|refine bs ?_ GE224|refine bs ?_ GE225|refine bs ?_ GE226|refine bs ?_ GE231))):w.heap.size≤gb236));have n8_:=Aside0.mk ((by rw [hg];exact Nat.ne_of_lt (blk_lt (bk BK224.out)):gb224≠gb236));have n9_:=Aside0.mk ((by rw [hg];exact Nat.ne_of_gt (blk_lt (bk BK224.out)):gb236≠gb224));have n10_:=Aside0.mk ((by rw [hg];exact Nat.ne_of_lt (blk_lt (bk BK225.out)):gb225≠gb236));have n11_:=Aside0.mk ((by rw [hg];exact Nat.ne_of_gt (blk_lt (bk BK225.out)):gb236≠gb225));have n12_:=Aside0.mk ((by rw [hg];exact Nat.ne_of_lt (blk_lt (bk BK226.out)):gb226≠gb236));have n13_:=Aside0.mk ((by rw [hg];exact Nat.ne_of_gt (blk_lt (bk BK226.out)):gb236≠gb226));have n14_:=Aside0.mk ((by rw [hg];exact Nat.ne_of_lt (blk_lt (bk BK231.out)):gb231≠gb236));have n15_:=Aside0.mk ((by rw [hg];exact Nat.ne_of_gt (blk_lt (bk BK231.out)):gb236≠gb231));clear BK224;clear BK225;clear BK226;clear BK231;clear HB;have BK224:=n0_;have BK225:=n1_;have BK226:=n2_;have BK231:=n3_;have HB:=n4_;have BK236:=n5_;have GW236:=n6_;have GE236:=n7_;have NB224_236:=n8_;have NB236_224:=n9_;have NB225_236:=n10_;have NB236_225:=n11_;have NB226_236:=n12_;have NB236_226:=n13_;have NB231_236:=n14_;have NB236_231:=n15_;clear n0_ n1_ n2_ n3_ n4_ n5_ n6_ n7_ n8_ n9_ n10_ n11_ n12_ n13_ n14_ n15_;clear hb hbox hg;have hnb26:=NB236_224.out;have hnc26:=NB224_236.out;have hnb27:=NB236_225.out;have hnc27:=NB225_236.out;have hnb28:=NB236_226.out;have hnc28:=NB226_236.out;have hnb29:=NB236_231.out;have hnc29:=NB231_236.out;have hcz30_0:w25.cell? ⟨gb236,0,none⟩=some (.int .i64 0):=(blk_cell BK236.out 0).trans rfl;have hcz30_1:w25.cell? ⟨gb236,1,none⟩=some (.int .i64 0):=(blk_cell BK236.out 1).trans rfl;have hcz30_2:w25.cell? ⟨gb236,2,none⟩=some (.int .i64 0):=(blk_cell BK236.out 2).trans rfl;have hfz30_0:=blk_frozen BK236.out 0;have hfz30_1:=blk_frozen BK236.out 1;have hfz30_2:=blk_frozen BK236.out 2;have hcz31_0:w25.cell? ⟨gb224,0,none⟩=some (.int .i64 a0_0):=(blk_cell BK224.out 0).trans rfl;have hcz31_1:w25.cell? ⟨gb224,1,none⟩=some (.int .i64 a0_1):=(blk_cell BK224.out 1).trans rfl;have hcz31_2:w25.cell? ⟨gb224,2,none⟩=some (.int .i64 a0_2):=(blk_cell BK224.out 2).trans rfl;have hcz31_3:w25.cell? ⟨gb224,3,none⟩=some (.int .i64 a0_3):=(blk_cell BK224.out 3).trans rfl;have hcz31_4:w25.cell? ⟨gb224,4,none⟩=some (.int .i64 a0_4):=(blk_cell BK224.out 4).trans rfl;have hfz31_0:=blk_frozen BK224.out 0;have hfz31_1:=blk_frozen BK224.out 1;have hfz31_2:=blk_frozen BK224.out 2;have hfz31_3:=blk_frozen BK224.out 3;have hfz31_4:=blk_frozen BK224.out 4))
 refine gen_c (fun W'=>W'.heap[gb224]? = some (.cells #[.int .i64 a0_0,.int .i64 a0_1,.int .i64 a0_2,.int .i64 a0_3,.int .i64 a0_4] 24 (0,0))∧W'.heap[gb225]? = some (.cells #[.int .i64 a1_0,.int .i64 a1_1,.int .i64 a1_2] 22 (0,0))∧W'.heap[gb226]? = some (.cells #[.int .i64 0,.int .i64 0,.int .i64 0] 22 (0,0))∧W'.heap[gb231]? = some (.cells #[.int .i64 t227,.int .i64 t228,.int .i64 t229] 22 (0,0))∧W'.heap[gb236]? = some (.cells #[.int .i64 t232,.int .i64 t233,.int .i64 t234] 22 (0,0))∧Below w.heap.size w W') ⟨(by try refine bk ?_;refine blk_far ?_ NB224_236.out _;try refine bk ?_;refine blk_far ?_ NB224_236.out _;try refine bk ?_;refine blk_far ?_ NB224_236.out _;try refine bk ?_;exact BK224.out),(by try refine bk ?_;refine blk_far ?_ NB225_236.out _;try refine bk ?_;refine blk_far ?_ NB225_236.out _;try refine bk ?_;refine blk_far ?_ NB225_236.out _;try refine bk ?_;exact BK225.out),(by try refine bk ?_;refine blk_far ?_ NB226_236.out _;try refine bk ?_;refine blk_far ?_ NB226_236.out _;try refine bk ?_;refine blk_far ?_ NB226_236.out _;try refine bk ?_;exact BK226.out),(by try refine bk ?_;refine blk_far ?_ NB231_236.out _;try refine bk ?_;refine blk_far ?_ NB231_236.out _;try refine bk ?_;refine blk_far ?_ NB231_236.out _;try refine bk ?_;exact BK231.out),(by try refine bk ?_;refine blk_put (cs:=#[.int .i64 t232,.int .i64 t233,.int .i64 0]) ?_ 2 _ rfl;try refine bk ?_;refine blk_put (cs:=#[.int .i64 t232,.int .i64 0,.int .i64 0]) ?_ 1 _ rfl;try refine bk ?_;refine blk_put (cs:=#[.int .i64 0,.int .i64 0,.int .i64 0]) ?_ 0 _ rfl;try refine bk ?_;exact BK236.out),(by repeat (first|with_reducible exact HB.out|exact bl HB|refine bs ?_ GE224|refine bs ?_ GE225|refine bs ?_ GE226|refine bs ?_ GE231|refine bs ?_ GE236))⟩ ?_
 rintro W ⟨b2,b3,b4,b6,b8,hB⟩
 clear BK224 BK225 BK226 BK231 BK236 HB
 rcases t237 with _|_
 ·clear A3 A4
  have H1:=H.out
  simp only [Bool.false_and,Bool.true_and,Bool.and_false,Bool.not_true,Bool.not_false,Bool.false_eq_true,if_false] at H1
  simp only [Option.some.injEq,Prod.mk.injEq] at H1
  obtain⟨rfl,rfl,rfl,rfl⟩:=H1
  refine start_ (n:=15) (S:=fun w'=>w'.heap[gb224]? = some (.cells #[.int .i64 a0_0,.int .i64 a0_1,.int .i64 a0_2,.int .i64 a0_3,.int .i64 a0_4] 24 (0,0))∧w'.heap[gb226]? = some (.cells #[.int .i64 0,.int .i64 0,.int .i64 0] 22 (0,0))∧w'.heap[gb236]? = some (.cells #[.int .i64 t232,.int .i64 t233,.int .i64 t234] 22 (0,0))∧Below w.heap.size w w') (ds:=[]) #[ff,ff,ff,ff,ff,ff,ff,ff,ff,ff,ff,ff,ff,ff,ff] (by kernel_rfl) rfl rfl ⟨blk_drew b2,blk_drew b4,blk_drew b8,below_drew hB⟩ (fun hHeld=>?_);refine with_tabW sense_Read.tab3 sense_Read.bits3 (fun HT_ HW_=>?_)
  refine take_ (i:=0) (N:=some 24) (v:=?_) (a':=?_) #[tt,ff,ff,ff,ff,ff,ff,ff,ff,ff,ff,ff,ff,ff,ff] rfl rfl (take_ofW HT_.out HW_.out (by kernel_rfl)) (fun _ _ _ h=>h) (Or.inl ⟨by rfl,?_⟩) hHeld ?_ ?_
  rotate_left
  ·rintro w' ⟨s0,s1,s2,s3⟩
   have c0_s0:=(blk_cell s0 0).trans rfl
   have c1_s0:=(blk_cell s0 1).trans rfl
   have c2_s0:=(blk_cell s0 2).trans rfl
   have c3_s0:=(blk_cell s0 3).trans rfl
   have c4_s0:=(blk_cell s0 4).trans rfl
   go_simp
   with_reducible rfl
  rotate_left
  ·simp only [Act.put,List.setIfInBounds_toArray,List.set_cons_zero,List.set_cons_succ]
   rfl
  refine one_ (i:=1) (N:=some 25) #[tt,tt,ff,ff,ff,ff,ff,ff,ff,ff,ff,ff,ff,ff,ff] rfl rfl (one_of HT_.out (by kernel_rfl)) (by decide) (fun K hK=>?_)
  obtain⟨s0,s1,s2,s3⟩:=hHeld
  refine goes_ (N:=some 25) Try.func13 (by kernel_rfl) rfl #[.agg #[.int .i64 a0_0,.int .i64 a0_1,.int .i64 a0_2,.int .i64 a0_3,.int .i64 a0_4]] (by rfl) rfl rfl (by (try simp only [List.map_toArray,List.map_cons,List.map_nil]);first|done|rfl) ?_
  refine(sense_Sane.calls k a0_0 a0_1 a0_2 a0_3 a0_4 false _ A5.out).mono ?_
  rintro e w2 ⟨rfl,hb⟩
  refine⟨_,rfl,?_⟩
  refine hK.out _ _ ⟨blk_below s0 hb,blk_below s1 hb,blk_below s2 hb,below_step s3 hb⟩ (fun hHeld=>?_)
  clear hK K
  refine norm_ (a':=?_) ?_ ?_
  rotate_left
  ·simp only [Act.put,List.setIfInBounds_toArray,List.set_cons_zero,List.set_cons_succ]
   rfl
  refine pure_ (i:=2) (N:=some 26) (v:=?_) (a':=?_) #[tt,tt,tt,ff,ff,ff,ff,ff,ff,ff,ff,ff,ff,ff,ff] rfl rfl (any_of HT_.out (by kernel_rfl)) (fun _ _ _ h=>h) (Or.inl ⟨by rfl,?_⟩) ?_ ?_
  rotate_left
  ·intro w'
   go_simp
   with_reducible rfl
  rotate_left
  ·simp only [Act.put,List.setIfInBounds_toArray,List.set_cons_zero,List.set_cons_succ]
   rfl
  refine pure_ (i:=3) (N:=some 27) (v:=?_) (a':=?_) #[tt,tt,tt,tt,ff,ff,ff,ff,ff,ff,ff,ff,ff,ff,ff] rfl rfl (any_of HT_.out (by kernel_rfl)) (fun _ _ _ h=>h) (Or.inl ⟨by rfl,?_⟩) ?_ ?_
  rotate_left
  ·intro w'
   go_simp
   with_reducible rfl
  rotate_left
  ·simp only [Act.put,List.setIfInBounds_toArray,List.set_cons_zero,List.set_cons_succ]
   rfl
  refine pure_ (i:=4) (N:=some 28) (v:=undef) (a':=?_) #[tt,tt,tt,tt,tt,ff,ff,ff,ff,ff,ff,ff,ff,ff,ff] rfl rfl (any_of HT_.out (by kernel_rfl)) (fun _ _ _ h=>h) (Or.inr ⟨by rfl,rfl⟩) ?_ ?_
  rotate_left
  ·simp only [Act.put,List.setIfInBounds_toArray,List.set_cons_zero,List.set_cons_succ]
   rfl
  refine pure_ (i:=5) (N:=some 29) (v:=?_) (a':=?_) #[tt,tt,tt,tt,tt,tt,ff,ff,ff,ff,ff,ff,ff,ff,ff] rfl rfl (any_of HT_.out (by kernel_rfl)) (fun _ _ _ h=>h) (Or.inl ⟨by rfl,?_⟩) ?_ ?_
  rotate_left
  ·intro w'
   go_simp
   with_reducible rfl
  rotate_left
  ·simp only [Act.put,List.setIfInBounds_toArray,List.set_cons_zero,List.set_cons_succ]
   rfl
  refine pure_ (i:=6) (N:=some 30) (v:=?_) (a':=?_) #[tt,tt,tt,tt,tt,tt,tt,ff,ff,ff,ff,ff,ff,ff,ff] rfl rfl (any_of HT_.out (by kernel_rfl)) (fun _ _ _ h=>h) (Or.inl ⟨by rfl,?_⟩) ?_ ?_
  rotate_left
  ·intro w'
   go_simp
   with_reducible rfl
  rotate_left
  ·simp only [Act.put,List.setIfInBounds_toArray,List.set_cons_zero,List.set_cons_succ]
   rfl
  refine pure_ (i:=7) (N:=some 31) (v:=undef) (a':=?_) #[tt,tt,tt,tt,tt,tt,tt,tt,ff,ff,ff,ff,ff,ff,ff] rfl rfl (any_of HT_.out (by kernel_rfl)) (fun _ _ _ h=>h) (Or.inr ⟨by rfl,rfl⟩) ?_ ?_
  rotate_left
  ·simp only [Act.put,List.setIfInBounds_toArray,List.set_cons_zero,List.set_cons_succ]
   rfl
  refine pure_ (i:=8) (N:=some 32) (v:=?_) (a':=?_) #[tt,tt,tt,tt,tt,tt,tt,tt,tt,ff,ff,ff,ff,ff,ff] rfl rfl (any_of HT_.out (by kernel_rfl)) (fun _ _ _ h=>h) (Or.inl ⟨by rfl,?_⟩) ?_ ?_
  rotate_left
  ·intro w'
   go_simp
   with_reducible rfl
  rotate_left
  ·simp only [Act.put,List.setIfInBounds_toArray,List.set_cons_zero,List.set_cons_succ]
   rfl
  refine pure_ (i:=9) (N:=some 33) (v:=?_) (a':=?_) #[tt,tt,tt,tt,tt,tt,tt,tt,tt,tt,ff,ff,ff,ff,ff] rfl rfl (any_of HT_.out (by kernel_rfl)) (fun _ _ _ h=>h) (Or.inl ⟨by rfl,?_⟩) ?_ ?_
  rotate_left
  ·intro w'
   go_simp
   with_reducible rfl
  rotate_left
  ·simp only [Act.put,List.setIfInBounds_toArray,List.set_cons_zero,List.set_cons_succ]
   rfl
  refine pure_ (i:=10) (N:=some 34) (v:=undef) (a':=?_) #[tt,tt,tt,tt,tt,tt,tt,tt,tt,tt,tt,ff,ff,ff,ff] rfl rfl (any_of HT_.out (by kernel_rfl)) (fun _ _ _ h=>h) (Or.inr ⟨by rfl,rfl⟩) ?_ ?_
  rotate_left
  ·simp only [Act.put,List.setIfInBounds_toArray,List.set_cons_zero,List.set_cons_succ]
   rfl
  refine pure_ (i:=11) (N:=some 35) (v:=undef) (a':=?_) #[tt,tt,tt,tt,tt,tt,tt,tt,tt,tt,tt,tt,ff,ff,ff] rfl rfl (any_of HT_.out (by kernel_rfl)) (fun _ _ _ h=>h) (Or.inr ⟨by rfl,rfl⟩) ?_ ?_
  rotate_left
  ·simp only [Act.put,List.setIfInBounds_toArray,List.set_cons_zero,List.set_cons_succ]
   rfl
  refine pure_ (i:=12) (N:=some 36) (v:=undef) (a':=?_) #[tt,tt,tt,tt,tt,tt,tt,tt,tt,tt,tt,tt,tt,ff,ff] rfl rfl (any_of HT_.out (by kernel_rfl)) (fun _ _ _ h=>h) (Or.inr ⟨by rfl,rfl⟩) ?_ ?_
  rotate_left
  ·simp only [Act.put,List.setIfInBounds_toArray,List.set_cons_zero,List.set_cons_succ]
   rfl
  refine pure_ (i:=13) (N:=some 37) (v:=undef) (a':=?_) #[tt,tt,tt,tt,tt,tt,tt,tt,tt,tt,tt,tt,tt,tt,ff] rfl rfl (any_of HT_.out (by kernel_rfl)) (fun _ _ _ h=>h) (Or.inr ⟨by rfl,rfl⟩) ?_ ?_
  rotate_left
  ·simp only [Act.put,List.setIfInBounds_toArray,List.set_cons_zero,List.set_cons_succ]
   rfl
  refine pure_ (i:=14) (N:=some 38) (v:=?_) (a':=?_) #[tt,tt,tt,tt,tt,tt,tt,tt,tt,tt,tt,tt,tt,tt,tt] rfl rfl (any_of HT_.out (by kernel_rfl)) (fun _ _ _ h=>h) (Or.inl ⟨by rfl,?_⟩) ?_ ?_
  rotate_left
  ·intro w'
   go_simp
   with_reducible rfl
  rotate_left
  ·simp only [Act.put,List.setIfInBounds_toArray,List.set_cons_zero,List.set_cons_succ]
   rfl
  refine done_ (done_of HT_.out (by kernel_rfl)) ?_
  obtain⟨s0,s1,s2,s3⟩:=hHeld
  have c0_s1:=(blk_cell s1 0).trans rfl
  have c1_s1:=(blk_cell s1 1).trans rfl
  have c2_s1:=(blk_cell s1 2).trans rfl
  have f0_:=blk_frozen s1 0
  have f1_:=blk_frozen s1 1
  have f2_:=blk_frozen s1 2
  have d0_s2:=(blk_cell s2 0).trans rfl
  have d1_s2:=(blk_cell s2 1).trans rfl
  have d2_s2:=(blk_cell s2 2).trans rfl
  go_wp2
  refine bodyPost_ret (results_ct rfl _ _ gb226 22 #[.int .i64 0,.int .i64 0,.int .i64 0] (0,0) _ rfl (blk_put (blk_put (blk_put s1 0 (.int .i64 0) rfl) 1 (.int .i64 0) rfl) 2 (.int .i64 0) rfl) Try.underlying22 rfl (by kernel_rfl)) rfl ?_
  exact⟨rfl,below_set (below_set (below_set s3 GE226.out) GE226.out) GE226.out⟩
 ·rcases t230 with _|_
  ·rcases t235 with _|_
   ·clear A3 A4
    have H1:=H.out
    simp only [Bool.not_false,Bool.and_self,if_true] at H1
    obtain⟨c,hc,H1⟩:=Option.bind_eq_some_iff.mp H1
    clear H
    refine start_ (n:=15) (S:=fun w'=>w'.heap[gb224]? = some (.cells #[.int .i64 a0_0,.int .i64 a0_1,.int .i64 a0_2,.int .i64 a0_3,.int .i64 a0_4] 24 (0,0))∧w'.heap[gb226]? = some (.cells #[.int .i64 0,.int .i64 0,.int .i64 0] 22 (0,0))∧w'.heap[gb236]? = some (.cells #[.int .i64 t232,.int .i64 t233,.int .i64 t234] 22 (0,0))∧Below w.heap.size w w') (ds:=[]) #[ff,ff,ff,ff,ff,ff,ff,ff,ff,ff,ff,ff,ff,ff,ff] (by kernel_rfl) rfl rfl ⟨blk_drew b2,blk_drew b4,blk_drew b8,below_drew hB⟩ (fun hHeld=>?_);refine with_tabW sense_Read.tab3 sense_Read.bits3 (fun HT_ HW_=>?_)
    refine take_ (i:=0) (N:=some 24) (v:=?_) (a':=?_) #[tt,ff,ff,ff,ff,ff,ff,ff,ff,ff,ff,ff,ff,ff,ff] rfl rfl (take_ofW HT_.out HW_.out (by kernel_rfl)) (fun _ _ _ h=>h) (Or.inl ⟨by rfl,?_⟩) hHeld ?_ ?_
    rotate_left
    ·rintro w' ⟨s0,s1,s2,s3⟩
     have c0_s0:=(blk_cell s0 0).trans rfl
     have c1_s0:=(blk_cell s0 1).trans rfl
     have c2_s0:=(blk_cell s0 2).trans rfl
     have c3_s0:=(blk_cell s0 3).trans rfl
     have c4_s0:=(blk_cell s0 4).trans rfl
     go_simp
     with_reducible rfl
    rotate_left
    ·simp only [Act.put,List.setIfInBounds_toArray,List.set_cons_zero,List.set_cons_succ]
     rfl
    refine one_ (i:=1) (N:=some 25) #[tt,tt,ff,ff,ff,ff,ff,ff,ff,ff,ff,ff,ff,ff,ff] rfl rfl (one_of HT_.out (by kernel_rfl)) (by decide) (fun K hK=>?_)
    obtain⟨s0,s1,s2,s3⟩:=hHeld
    refine goes_ (N:=some 25) Try.func13 (by kernel_rfl) rfl #[.agg #[.int .i64 a0_0,.int .i64 a0_1,.int .i64 a0_2,.int .i64 a0_3,.int .i64 a0_4]] (by rfl) rfl rfl (by (try simp only [List.map_toArray,List.map_cons,List.map_nil]);first|done|rfl) ?_
    refine(sense_Sane.calls k a0_0 a0_1 a0_2 a0_3 a0_4 true _ A5.out).mono ?_
    rintro e w2 ⟨rfl,hb⟩
    refine⟨_,rfl,?_⟩
    refine hK.out _ _ ⟨blk_below s0 hb,blk_below s1 hb,blk_below s2 hb,below_step s3 hb⟩ (fun hHeld=>?_)
    clear hK K
    refine norm_ (a':=?_) ?_ ?_
    rotate_left
    ·simp only [Act.put,List.setIfInBounds_toArray,List.set_cons_zero,List.set_cons_succ]
     rfl
    refine pure_ (i:=2) (N:=some 26) (v:=?_) (a':=?_) #[tt,tt,tt,ff,ff,ff,ff,ff,ff,ff,ff,ff,ff,ff,ff] rfl rfl (any_of HT_.out (by kernel_rfl)) (fun _ _ _ h=>h) (Or.inl ⟨by rfl,?_⟩) ?_ ?_
    rotate_left
    ·intro w'
     go_simp
     with_reducible rfl
    rotate_left
    ·simp only [Act.put,List.setIfInBounds_toArray,List.set_cons_zero,List.set_cons_succ]
     rfl
    refine pure_ (i:=3) (N:=some 27) (v:=?_) (a':=?_) #[tt,tt,tt,tt,ff,ff,ff,ff,ff,ff,ff,ff,ff,ff,ff] rfl rfl (any_of HT_.out (by kernel_rfl)) (fun _ _ _ h=>h) (Or.inl ⟨by rfl,?_⟩) ?_ ?_
    rotate_left
    ·intro w'
     go_simp
     with_reducible rfl
    rotate_left
    ·simp only [Act.put,List.setIfInBounds_toArray,List.set_cons_zero,List.set_cons_succ]
     rfl
    refine pure_ (i:=4) (N:=some 28) (v:=?_) (a':=?_) #[tt,tt,tt,tt,tt,ff,ff,ff,ff,ff,ff,ff,ff,ff,ff] rfl rfl (any_of HT_.out (by kernel_rfl)) (fun _ _ _ h=>h) (Or.inl ⟨by rfl,?_⟩) ?_ ?_
    rotate_left
    ·intro w'
     go_simp
     with_reducible rfl
    rotate_left
    ·simp only [Act.put,List.setIfInBounds_toArray,List.set_cons_zero,List.set_cons_succ]
     rfl
    refine pure_ (i:=5) (N:=some 29) (v:=?_) (a':=?_) #[tt,tt,tt,tt,tt,tt,ff,ff,ff,ff,ff,ff,ff,ff,ff] rfl rfl (any_of HT_.out (by kernel_rfl)) (fun _ _ _ h=>h) (Or.inl ⟨by rfl,?_⟩) ?_ ?_
    rotate_left
    ·intro w'
     go_simp
     with_reducible rfl
    rotate_left
    ·simp only [Act.put,List.setIfInBounds_toArray,List.set_cons_zero,List.set_cons_succ]
     rfl
    refine pure_ (i:=6) (N:=some 30) (v:=?_) (a':=?_) #[tt,tt,tt,tt,tt,tt,tt,ff,ff,ff,ff,ff,ff,ff,ff] rfl rfl (any_of HT_.out (by kernel_rfl)) (fun _ _ _ h=>h) (Or.inl ⟨by rfl,?_⟩) ?_ ?_
    rotate_left
    ·intro w'
     go_simp
     with_reducible rfl
    rotate_left
    ·simp only [Act.put,List.setIfInBounds_toArray,List.set_cons_zero,List.set_cons_succ]
     rfl
    refine pure_ (i:=7) (N:=some 31) (v:=?_) (a':=?_) #[tt,tt,tt,tt,tt,tt,tt,tt,ff,ff,ff,ff,ff,ff,ff] rfl rfl (any_of HT_.out (by kernel_rfl)) (fun _ _ _ h=>h) (Or.inl ⟨by rfl,?_⟩) ?_ ?_
    rotate_left
    ·intro w'
     go_simp
     with_reducible rfl
    rotate_left
    ·simp only [Act.put,List.setIfInBounds_toArray,List.set_cons_zero,List.set_cons_succ]
     rfl
    refine pure_ (i:=8) (N:=some 32) (v:=?_) (a':=?_) #[tt,tt,tt,tt,tt,tt,tt,tt,tt,ff,ff,ff,ff,ff,ff] rfl rfl (any_of HT_.out (by kernel_rfl)) (fun _ _ _ h=>h) (Or.inl ⟨by rfl,?_⟩) ?_ ?_
    rotate_left
    ·intro w'
     go_simp
     with_reducible rfl
    rotate_left
    ·simp only [Act.put,List.setIfInBounds_toArray,List.set_cons_zero,List.set_cons_succ]
     rfl
    refine pure_ (i:=9) (N:=some 33) (v:=?_) (a':=?_) #[tt,tt,tt,tt,tt,tt,tt,tt,tt,tt,ff,ff,ff,ff,ff] rfl rfl (any_of HT_.out (by kernel_rfl)) (fun _ _ _ h=>h) (Or.inl ⟨by rfl,?_⟩) ?_ ?_
    rotate_left
    ·intro w'
     go_simp
     with_reducible rfl
    rotate_left
    ·simp only [Act.put,List.setIfInBounds_toArray,List.set_cons_zero,List.set_cons_succ]
     rfl
    refine pure_ (i:=10) (N:=some 34) (v:=?_) (a':=?_) #[tt,tt,tt,tt,tt,tt,tt,tt,tt,tt,tt,ff,ff,ff,ff] rfl rfl (any_of HT_.out (by kernel_rfl)) (fun _ _ _ h=>h) (Or.inl ⟨by rfl,?_⟩) ?_ ?_
    rotate_left
    ·intro w'
     go_simp
     with_reducible rfl
    rotate_left
    ·simp only [Act.put,List.setIfInBounds_toArray,List.set_cons_zero,List.set_cons_succ]
     rfl
    refine take_ (i:=11) (N:=some 35) (v:=?_) (a':=?_) #[tt,tt,tt,tt,tt,tt,tt,tt,tt,tt,tt,tt,ff,ff,ff] rfl rfl (take_ofW HT_.out HW_.out (by kernel_rfl)) (fun _ _ _ h=>h) (Or.inl ⟨by rfl,?_⟩) hHeld ?_ ?_
    rotate_left
    ·rintro w' ⟨s0,s1,s2,s3⟩
     have c0_s0:=(blk_cell s0 0).trans rfl
     have c1_s0:=(blk_cell s0 1).trans rfl
     have c2_s0:=(blk_cell s0 2).trans rfl
     have c3_s0:=(blk_cell s0 3).trans rfl
     have c4_s0:=(blk_cell s0 4).trans rfl
     go_simp
     with_reducible rfl
    rotate_left
    ·simp only [Act.put,List.setIfInBounds_toArray,List.set_cons_zero,List.set_cons_succ]
     rfl
    refine pure_ (i:=12) (N:=some 36) (v:=?_) (a':=?_) #[tt,tt,tt,tt,tt,tt,tt,tt,tt,tt,tt,tt,tt,ff,ff] rfl rfl (any_of HT_.out (by kernel_rfl)) (fun _ _ _ h=>h) (Or.inl ⟨by rfl,?_⟩) ?_ ?_
    rotate_left
    ·intro w'
     go_simp
     with_reducible rfl
    rotate_left
    ·simp only [Act.put,List.setIfInBounds_toArray,List.set_cons_zero,List.set_cons_succ]
     rfl
    refine one_ (i:=13) (N:=some 37) #[tt,tt,tt,tt,tt,tt,tt,tt,tt,tt,tt,tt,tt,tt,ff] rfl rfl (one_of HT_.out (by kernel_rfl)) (by decide) (fun K hK=>?_)
    obtain⟨s0,s1,s2,s3⟩:=hHeld
    refine goes_ (N:=some 37) Try.func22 (by kernel_rfl) rfl #[.slice (some ⟨gb236,0,none⟩) 3 3,.func (.func 23) #[.agg #[.int .i64 a0_0,.int .i64 a0_1,.int .i64 a0_2,.int .i64 a0_3,.int .i64 a0_4]] #[]] (by rfl) rfl rfl (by (try simp only [List.map_toArray,List.map_cons,List.map_nil]);first|done|rfl) ?_
    refine(slices_ContainsFunc_int_int.calls (sense_cal_far.f a0_0 a0_1 a0_2 a0_3 a0_4) 23 #[.agg #[.int .i64 a0_0,.int .i64 a0_1,.int .i64 a0_2,.int .i64 a0_3,.int .i64 a0_4]] #[] k (some ⟨gb236,0,none⟩) 3 [t232,t233,t234] c _ (enters_of Try.func23 (by kernel_rfl) rfl) ⟨fun i_ r_ W_ hb_ hf_=>calls_of_args (by simp) (sense_cal_far.calls a0_0 a0_1 a0_2 a0_3 a0_4 i_ r_ W_ hf_)⟩ (C_of_blk3 s2) (Nat.le_refl 3) hc).mono ?_
    rintro e w3 ⟨rfl,hb⟩
    refine⟨_,rfl,?_⟩
    refine hK.out _ _ ⟨blk_below s0 hb,blk_below s1 hb,blk_below s2 hb,below_step s3 hb⟩ (fun hHeld=>?_)
    clear hK K
    refine norm_ (a':=?_) ?_ ?_
    rotate_left
    ·simp only [Act.put,List.setIfInBounds_toArray,List.set_cons_zero,List.set_cons_succ]
     rfl
    refine pure_ (i:=14) (N:=some 38) (v:=?_) (a':=?_) #[tt,tt,tt,tt,tt,tt,tt,tt,tt,tt,tt,tt,tt,tt,tt] rfl rfl (any_of HT_.out (by kernel_rfl)) (fun _ _ _ h=>h) (Or.inl ⟨by rfl,?_⟩) ?_ ?_
    rotate_left
    ·intro w'
     go_simp
     with_reducible rfl
    rotate_left
    ·simp only [Act.put,List.setIfInBounds_toArray,List.set_cons_zero,List.set_cons_succ]
     rfl
    refine done_ (done_of HT_.out (by kernel_rfl)) ?_
    obtain⟨s0,s1,s2,s3⟩:=hHeld
    rcases c with _|_
    ·simp only [Bool.false_eq_true,if_false,Option.some.injEq,Prod.mk.injEq] at H1
     obtain⟨rfl,rfl,rfl,rfl⟩:=H1
     have c0_s1:=(blk_cell s1 0).trans rfl
     have c1_s1:=(blk_cell s1 1).trans rfl
     have c2_s1:=(blk_cell s1 2).trans rfl
     have f0_:=blk_frozen s1 0
     have f1_:=blk_frozen s1 1
     have f2_:=blk_frozen s1 2
     have d0_s2:=(blk_cell s2 0).trans rfl
     have d1_s2:=(blk_cell s2 1).trans rfl
     have d2_s2:=(blk_cell s2 2).trans rfl
     go_wp2
     refine bodyPost_ret (results_ct rfl _ _ gb226 22 #[.int .i64 t232,.int .i64 t233,.int .i64 t234] (0,0) _ rfl (blk_put (blk_put (blk_put s1 0 (.int .i64 t232) rfl) 1 (.int .i64 t233) rfl) 2 (.int .i64 t234) rfl) Try.underlying22 rfl (by kernel_rfl)) rfl ?_
     exact⟨rfl,below_set (below_set (below_set s3 GE226.out) GE226.out) GE226.out⟩
    ·simp only [if_true,Option.some.injEq,Prod.mk.injEq] at H1
     obtain⟨rfl,rfl,rfl,rfl⟩:=H1
     have c0_s1:=(blk_cell s1 0).trans rfl
     have c1_s1:=(blk_cell s1 1).trans rfl
     have c2_s1:=(blk_cell s1 2).trans rfl
     have f0_:=blk_frozen s1 0
     have f1_:=blk_frozen s1 1
     have f2_:=blk_frozen s1 2
     have d0_s2:=(blk_cell s2 0).trans rfl
     have d1_s2:=(blk_cell s2 1).trans rfl
     have d2_s2:=(blk_cell s2 2).trans rfl
     go_wp2
     refine bodyPost_ret (results_ct rfl _ _ gb226 22 #[.int .i64 0,.int .i64 0,.int .i64 0] (0,0) _ rfl (blk_put (blk_put (blk_put s1 0 (.int .i64 0) rfl) 1 (.int .i64 0) rfl) 2 (.int .i64 0) rfl) Try.underlying22 rfl (by kernel_rfl)) rfl ?_
     exact⟨rfl,below_set (below_set (below_set s3 GE226.out) GE226.out) GE226.out⟩
   ·clear A3 A4
    have H1:=H.out
    simp only [Bool.false_and,Bool.true_and,Bool.and_false,Bool.not_true,Bool.not_false,Bool.false_eq_true,if_false] at H1
    simp only [Option.some.injEq,Prod.mk.injEq] at H1
    obtain⟨rfl,rfl,rfl,rfl⟩:=H1
    refine start_ (n:=15) (S:=fun w'=>w'.heap[gb224]? = some (.cells #[.int .i64 a0_0,.int .i64 a0_1,.int .i64 a0_2,.int .i64 a0_3,.int .i64 a0_4] 24 (0,0))∧w'.heap[gb226]? = some (.cells #[.int .i64 0,.int .i64 0,.int .i64 0] 22 (0,0))∧w'.heap[gb236]? = some (.cells #[.int .i64 t232,.int .i64 t233,.int .i64 t234] 22 (0,0))∧Below w.heap.size w w') (ds:=[]) #[ff,ff,ff,ff,ff,ff,ff,ff,ff,ff,ff,ff,ff,ff,ff] (by kernel_rfl) rfl rfl ⟨blk_drew b2,blk_drew b4,blk_drew b8,below_drew hB⟩ (fun hHeld=>?_);refine with_tabW sense_Read.tab3 sense_Read.bits3 (fun HT_ HW_=>?_)
    refine take_ (i:=0) (N:=some 24) (v:=?_) (a':=?_) #[tt,ff,ff,ff,ff,ff,ff,ff,ff,ff,ff,ff,ff,ff,ff] rfl rfl (take_ofW HT_.out HW_.out (by kernel_rfl)) (fun _ _ _ h=>h) (Or.inl ⟨by rfl,?_⟩) hHeld ?_ ?_
    rotate_left
    ·rintro w' ⟨s0,s1,s2,s3⟩
     have c0_s0:=(blk_cell s0 0).trans rfl
     have c1_s0:=(blk_cell s0 1).trans rfl
     have c2_s0:=(blk_cell s0 2).trans rfl
     have c3_s0:=(blk_cell s0 3).trans rfl
     have c4_s0:=(blk_cell s0 4).trans rfl
     go_simp
     with_reducible rfl
    rotate_left
    ·simp only [Act.put,List.setIfInBounds_toArray,List.set_cons_zero,List.set_cons_succ]
     rfl
    refine one_ (i:=1) (N:=some 25) #[tt,tt,ff,ff,ff,ff,ff,ff,ff,ff,ff,ff,ff,ff,ff] rfl rfl (one_of HT_.out (by kernel_rfl)) (by decide) (fun K hK=>?_)
    obtain⟨s0,s1,s2,s3⟩:=hHeld
    refine goes_ (N:=some 25) Try.func13 (by kernel_rfl) rfl #[.agg #[.int .i64 a0_0,.int .i64 a0_1,.int .i64 a0_2,.int .i64 a0_3,.int .i64 a0_4]] (by rfl) rfl rfl (by (try simp only [List.map_toArray,List.map_cons,List.map_nil]);first|done|rfl) ?_
    refine(sense_Sane.calls k a0_0 a0_1 a0_2 a0_3 a0_4 true _ A5.out).mono ?_
    rintro e w2 ⟨rfl,hb⟩
    refine⟨_,rfl,?_⟩
    refine hK.out _ _ ⟨blk_below s0 hb,blk_below s1 hb,blk_below s2 hb,below_step s3 hb⟩ (fun hHeld=>?_)
    clear hK K
    refine norm_ (a':=?_) ?_ ?_
    rotate_left
    ·simp only [Act.put,List.setIfInBounds_toArray,List.set_cons_zero,List.set_cons_succ]
     rfl
    refine pure_ (i:=2) (N:=some 26) (v:=?_) (a':=?_) #[tt,tt,tt,ff,ff,ff,ff,ff,ff,ff,ff,ff,ff,ff,ff] rfl rfl (any_of HT_.out (by kernel_rfl)) (fun _ _ _ h=>h) (Or.inl ⟨by rfl,?_⟩) ?_ ?_
    rotate_left
    ·intro w'
     go_simp
     with_reducible rfl
    rotate_left
    ·simp only [Act.put,List.setIfInBounds_toArray,List.set_cons_zero,List.set_cons_succ]
     rfl
    refine pure_ (i:=3) (N:=some 27) (v:=?_) (a':=?_) #[tt,tt,tt,tt,ff,ff,ff,ff,ff,ff,ff,ff,ff,ff,ff] rfl rfl (any_of HT_.out (by kernel_rfl)) (fun _ _ _ h=>h) (Or.inl ⟨by rfl,?_⟩) ?_ ?_
    rotate_left
    ·intro w'
     go_simp
     with_reducible rfl
    rotate_left
    ·simp only [Act.put,List.setIfInBounds_toArray,List.set_cons_zero,List.set_cons_succ]
     rfl
    refine pure_ (i:=4) (N:=some 28) (v:=?_) (a':=?_) #[tt,tt,tt,tt,tt,ff,ff,ff,ff,ff,ff,ff,ff,ff,ff] rfl rfl (any_of HT_.out (by kernel_rfl)) (fun _ _ _ h=>h) (Or.inl ⟨by rfl,?_⟩) ?_ ?_
    rotate_left
    ·intro w'
     go_simp
     with_reducible rfl
    rotate_left
    ·simp only [Act.put,List.setIfInBounds_toArray,List.set_cons_zero,List.set_cons_succ]
     rfl
    refine pure_ (i:=5) (N:=some 29) (v:=?_) (a':=?_) #[tt,tt,tt,tt,tt,tt,ff,ff,ff,ff,ff,ff,ff,ff,ff] rfl rfl (any_of HT_.out (by kernel_rfl)) (fun _ _ _ h=>h) (Or.inl ⟨by rfl,?_⟩) ?_ ?_
    rotate_left
    ·intro w'
     go_simp
     with_reducible rfl
    rotate_left
    ·simp only [Act.put,List.setIfInBounds_toArray,List.set_cons_zero,List.set_cons_succ]
     rfl
    refine pure_ (i:=6) (N:=some 30) (v:=?_) (a':=?_) #[tt,tt,tt,tt,tt,tt,tt,ff,ff,ff,ff,ff,ff,ff,ff] rfl rfl (any_of HT_.out (by kernel_rfl)) (fun _ _ _ h=>h) (Or.inl ⟨by rfl,?_⟩) ?_ ?_
    rotate_left
    ·intro w'
     go_simp
     with_reducible rfl
    rotate_left
    ·simp only [Act.put,List.setIfInBounds_toArray,List.set_cons_zero,List.set_cons_succ]
     rfl
    refine pure_ (i:=7) (N:=some 31) (v:=?_) (a':=?_) #[tt,tt,tt,tt,tt,tt,tt,tt,ff,ff,ff,ff,ff,ff,ff] rfl rfl (any_of HT_.out (by kernel_rfl)) (fun _ _ _ h=>h) (Or.inl ⟨by rfl,?_⟩) ?_ ?_
    rotate_left
    ·intro w'
     go_simp
     with_reducible rfl
    rotate_left
    ·simp only [Act.put,List.setIfInBounds_toArray,List.set_cons_zero,List.set_cons_succ]
     rfl
    refine pure_ (i:=8) (N:=some 32) (v:=?_) (a':=?_) #[tt,tt,tt,tt,tt,tt,tt,tt,tt,ff,ff,ff,ff,ff,ff] rfl rfl (any_of HT_.out (by kernel_rfl)) (fun _ _ _ h=>h) (Or.inl ⟨by rfl,?_⟩) ?_ ?_
    rotate_left
    ·intro w'
     go_simp
     with_reducible rfl
    rotate_left
    ·simp only [Act.put,List.setIfInBounds_toArray,List.set_cons_zero,List.set_cons_succ]
     rfl
    refine pure_ (i:=9) (N:=some 33) (v:=?_) (a':=?_) #[tt,tt,tt,tt,tt,tt,tt,tt,tt,tt,ff,ff,ff,ff,ff] rfl rfl (any_of HT_.out (by kernel_rfl)) (fun _ _ _ h=>h) (Or.inl ⟨by rfl,?_⟩) ?_ ?_
    rotate_left
    ·intro w'
     go_simp
     with_reducible rfl
    rotate_left
    ·simp only [Act.put,List.setIfInBounds_toArray,List.set_cons_zero,List.set_cons_succ]
     rfl
    refine pure_ (i:=10) (N:=some 34) (v:=undef) (a':=?_) #[tt,tt,tt,tt,tt,tt,tt,tt,tt,tt,tt,ff,ff,ff,ff] rfl rfl (any_of HT_.out (by kernel_rfl)) (fun _ _ _ h=>h) (Or.inr ⟨by rfl,rfl⟩) ?_ ?_
    rotate_left
    ·simp only [Act.put,List.setIfInBounds_toArray,List.set_cons_zero,List.set_cons_succ]
     rfl
    refine pure_ (i:=11) (N:=some 35) (v:=undef) (a':=?_) #[tt,tt,tt,tt,tt,tt,tt,tt,tt,tt,tt,tt,ff,ff,ff] rfl rfl (any_of HT_.out (by kernel_rfl)) (fun _ _ _ h=>h) (Or.inr ⟨by rfl,rfl⟩) ?_ ?_
    rotate_left
    ·simp only [Act.put,List.setIfInBounds_toArray,List.set_cons_zero,List.set_cons_succ]
     rfl
    refine pure_ (i:=12) (N:=some 36) (v:=undef) (a':=?_) #[tt,tt,tt,tt,tt,tt,tt,tt,tt,tt,tt,tt,tt,ff,ff] rfl rfl (any_of HT_.out (by kernel_rfl)) (fun _ _ _ h=>h) (Or.inr ⟨by rfl,rfl⟩) ?_ ?_
    rotate_left
    ·simp only [Act.put,List.setIfInBounds_toArray,List.set_cons_zero,List.set_cons_succ]
     rfl
    refine pure_ (i:=13) (N:=some 37) (v:=undef) (a':=?_) #[tt,tt,tt,tt,tt,tt,tt,tt,tt,tt,tt,tt,tt,tt,ff] rfl rfl (any_of HT_.out (by kernel_rfl)) (fun _ _ _ h=>h) (Or.inr ⟨by rfl,rfl⟩) ?_ ?_
    rotate_left
    ·simp only [Act.put,List.setIfInBounds_toArray,List.set_cons_zero,List.set_cons_succ]
     rfl
    refine pure_ (i:=14) (N:=some 38) (v:=?_) (a':=?_) #[tt,tt,tt,tt,tt,tt,tt,tt,tt,tt,tt,tt,tt,tt,tt] rfl rfl (any_of HT_.out (by kernel_rfl)) (fun _ _ _ h=>h) (Or.inl ⟨by rfl,?_⟩) ?_ ?_
    rotate_left
    ·intro w'
     go_simp
     with_reducible rfl
    rotate_left
    ·simp only [Act.put,List.setIfInBounds_toArray,List.set_cons_zero,List.set_cons_succ]
     rfl
    refine done_ (done_of HT_.out (by kernel_rfl)) ?_
    obtain⟨s0,s1,s2,s3⟩:=hHeld
    have c0_s1:=(blk_cell s1 0).trans rfl
    have c1_s1:=(blk_cell s1 1).trans rfl
    have c2_s1:=(blk_cell s1 2).trans rfl
    have f0_:=blk_frozen s1 0
    have f1_:=blk_frozen s1 1
    have f2_:=blk_frozen s1 2
    have d0_s2:=(blk_cell s2 0).trans rfl
    have d1_s2:=(blk_cell s2 1).trans rfl
    have d2_s2:=(blk_cell s2 2).trans rfl
    go_wp2
    refine bodyPost_ret (results_ct rfl _ _ gb226 22 #[.int .i64 0,.int .i64 0,.int .i64 0] (0,0) _ rfl (blk_put (blk_put (blk_put s1 0 (.int .i64 0) rfl) 1 (.int .i64 0) rfl) 2 (.int .i64 0) rfl) Try.underlying22 rfl (by kernel_rfl)) rfl ?_
    exact⟨rfl,below_set (below_set (below_set s3 GE226.out) GE226.out) GE226.out⟩
  ·clear A3 A4
   have H1:=H.out
   simp only [Bool.false_and,Bool.true_and,Bool.and_false,Bool.not_true,Bool.not_false,Bool.false_eq_true,if_false] at H1
   simp only [Option.some.injEq,Prod.mk.injEq] at H1
   obtain⟨rfl,rfl,rfl,rfl⟩:=H1
   refine start_ (n:=15) (S:=fun w'=>w'.heap[gb224]? = some (.cells #[.int .i64 a0_0,.int .i64 a0_1,.int .i64 a0_2,.int .i64 a0_3,.int .i64 a0_4] 24 (0,0))∧w'.heap[gb226]? = some (.cells #[.int .i64 0,.int .i64 0,.int .i64 0] 22 (0,0))∧w'.heap[gb236]? = some (.cells #[.int .i64 t232,.int .i64 t233,.int .i64 t234] 22 (0,0))∧Below w.heap.size w w') (ds:=[]) #[ff,ff,ff,ff,ff,ff,ff,ff,ff,ff,ff,ff,ff,ff,ff] (by kernel_rfl) rfl rfl ⟨blk_drew b2,blk_drew b4,blk_drew b8,below_drew hB⟩ (fun hHeld=>?_);refine with_tabW sense_Read.tab3 sense_Read.bits3 (fun HT_ HW_=>?_)
   refine take_ (i:=0) (N:=some 24) (v:=?_) (a':=?_) #[tt,ff,ff,ff,ff,ff,ff,ff,ff,ff,ff,ff,ff,ff,ff] rfl rfl (take_ofW HT_.out HW_.out (by kernel_rfl)) (fun _ _ _ h=>h) (Or.inl ⟨by rfl,?_⟩) hHeld ?_ ?_
   rotate_left
   ·rintro w' ⟨s0,s1,s2,s3⟩
    have c0_s0:=(blk_cell s0 0).trans rfl
    have c1_s0:=(blk_cell s0 1).trans rfl
    have c2_s0:=(blk_cell s0 2).trans rfl
    have c3_s0:=(blk_cell s0 3).trans rfl
    have c4_s0:=(blk_cell s0 4).trans rfl
    go_simp
    with_reducible rfl
   rotate_left
   ·simp only [Act.put,List.setIfInBounds_toArray,List.set_cons_zero,List.set_cons_succ]
    rfl
   refine one_ (i:=1) (N:=some 25) #[tt,tt,ff,ff,ff,ff,ff,ff,ff,ff,ff,ff,ff,ff,ff] rfl rfl (one_of HT_.out (by kernel_rfl)) (by decide) (fun K hK=>?_)
   obtain⟨s0,s1,s2,s3⟩:=hHeld
   refine goes_ (N:=some 25) Try.func13 (by kernel_rfl) rfl #[.agg #[.int .i64 a0_0,.int .i64 a0_1,.int .i64 a0_2,.int .i64 a0_3,.int .i64 a0_4]] (by rfl) rfl rfl (by (try simp only [List.map_toArray,List.map_cons,List.map_nil]);first|done|rfl) ?_
   refine(sense_Sane.calls k a0_0 a0_1 a0_2 a0_3 a0_4 true _ A5.out).mono ?_
   rintro e w2 ⟨rfl,hb⟩
   refine⟨_,rfl,?_⟩
   refine hK.out _ _ ⟨blk_below s0 hb,blk_below s1 hb,blk_below s2 hb,below_step s3 hb⟩ (fun hHeld=>?_)
   clear hK K
   refine norm_ (a':=?_) ?_ ?_
   rotate_left
   ·simp only [Act.put,List.setIfInBounds_toArray,List.set_cons_zero,List.set_cons_succ]
    rfl
   refine pure_ (i:=2) (N:=some 26) (v:=?_) (a':=?_) #[tt,tt,tt,ff,ff,ff,ff,ff,ff,ff,ff,ff,ff,ff,ff] rfl rfl (any_of HT_.out (by kernel_rfl)) (fun _ _ _ h=>h) (Or.inl ⟨by rfl,?_⟩) ?_ ?_
   rotate_left
   ·intro w'
    go_simp
    with_reducible rfl
   rotate_left
   ·simp only [Act.put,List.setIfInBounds_toArray,List.set_cons_zero,List.set_cons_succ]
    rfl
   refine pure_ (i:=3) (N:=some 27) (v:=?_) (a':=?_) #[tt,tt,tt,tt,ff,ff,ff,ff,ff,ff,ff,ff,ff,ff,ff] rfl rfl (any_of HT_.out (by kernel_rfl)) (fun _ _ _ h=>h) (Or.inl ⟨by rfl,?_⟩) ?_ ?_
   rotate_left
   ·intro w'
    go_simp
    with_reducible rfl
   rotate_left
   ·simp only [Act.put,List.setIfInBounds_toArray,List.set_cons_zero,List.set_cons_succ]
    rfl
   refine pure_ (i:=4) (N:=some 28) (v:=?_) (a':=?_) #[tt,tt,tt,tt,tt,ff,ff,ff,ff,ff,ff,ff,ff,ff,ff] rfl rfl (any_of HT_.out (by kernel_rfl)) (fun _ _ _ h=>h) (Or.inl ⟨by rfl,?_⟩) ?_ ?_
   rotate_left
   ·intro w'
    go_simp
    with_reducible rfl
   rotate_left
   ·simp only [Act.put,List.setIfInBounds_toArray,List.set_cons_zero,List.set_cons_succ]
    rfl
   refine pure_ (i:=5) (N:=some 29) (v:=?_) (a':=?_) #[tt,tt,tt,tt,tt,tt,ff,ff,ff,ff,ff,ff,ff,ff,ff] rfl rfl (any_of HT_.out (by kernel_rfl)) (fun _ _ _ h=>h) (Or.inl ⟨by rfl,?_⟩) ?_ ?_
   rotate_left
   ·intro w'
    go_simp
    with_reducible rfl
   rotate_left
   ·simp only [Act.put,List.setIfInBounds_toArray,List.set_cons_zero,List.set_cons_succ]
    rfl
   refine pure_ (i:=6) (N:=some 30) (v:=?_) (a':=?_) #[tt,tt,tt,tt,tt,tt,tt,ff,ff,ff,ff,ff,ff,ff,ff] rfl rfl (any_of HT_.out (by kernel_rfl)) (fun _ _ _ h=>h) (Or.inl ⟨by rfl,?_⟩) ?_ ?_
   rotate_left
   ·intro w'
    go_simp
    with_reducible rfl
   rotate_left
   ·simp only [Act.put,List.setIfInBounds_toArray,List.set_cons_zero,List.set_cons_succ]
    rfl
   refine pure_ (i:=7) (N:=some 31) (v:=undef) (a':=?_) #[tt,tt,tt,tt,tt,tt,tt,tt,ff,ff,ff,ff,ff,ff,ff] rfl rfl (any_of HT_.out (by kernel_rfl)) (fun _ _ _ h=>h) (Or.inr ⟨by rfl,rfl⟩) ?_ ?_
   rotate_left
   ·simp only [Act.put,List.setIfInBounds_toArray,List.set_cons_zero,List.set_cons_succ]
    rfl
   refine pure_ (i:=8) (N:=some 32) (v:=?_) (a':=?_) #[tt,tt,tt,tt,tt,tt,tt,tt,tt,ff,ff,ff,ff,ff,ff] rfl rfl (any_of HT_.out (by kernel_rfl)) (fun _ _ _ h=>h) (Or.inl ⟨by rfl,?_⟩) ?_ ?_
   rotate_left
   ·intro w'
    go_simp
    with_reducible rfl
   rotate_left
   ·simp only [Act.put,List.setIfInBounds_toArray,List.set_cons_zero,List.set_cons_succ]
    rfl
   refine pure_ (i:=9) (N:=some 33) (v:=?_) (a':=?_) #[tt,tt,tt,tt,tt,tt,tt,tt,tt,tt,ff,ff,ff,ff,ff] rfl rfl (any_of HT_.out (by kernel_rfl)) (fun _ _ _ h=>h) (Or.inl ⟨by rfl,?_⟩) ?_ ?_
   rotate_left
   ·intro w'
    go_simp
    with_reducible rfl
   rotate_left
   ·simp only [Act.put,List.setIfInBounds_toArray,List.set_cons_zero,List.set_cons_succ]
    rfl
   refine pure_ (i:=10) (N:=some 34) (v:=undef) (a':=?_) #[tt,tt,tt,tt,tt,tt,tt,tt,tt,tt,tt,ff,ff,ff,ff] rfl rfl (any_of HT_.out (by kernel_rfl)) (fun _ _ _ h=>h) (Or.inr ⟨by rfl,rfl⟩) ?_ ?_
   rotate_left
   ·simp only [Act.put,List.setIfInBounds_toArray,List.set_cons_zero,List.set_cons_succ]
    rfl
   refine pure_ (i:=11) (N:=some 35) (v:=undef) (a':=?_) #[tt,tt,tt,tt,tt,tt,tt,tt,tt,tt,tt,tt,ff,ff,ff] rfl rfl (any_of HT_.out (by kernel_rfl)) (fun _ _ _ h=>h) (Or.inr ⟨by rfl,rfl⟩) ?_ ?_
   rotate_left
   ·simp only [Act.put,List.setIfInBounds_toArray,List.set_cons_zero,List.set_cons_succ]
    rfl
   refine pure_ (i:=12) (N:=some 36) (v:=undef) (a':=?_) #[tt,tt,tt,tt,tt,tt,tt,tt,tt,tt,tt,tt,tt,ff,ff] rfl rfl (any_of HT_.out (by kernel_rfl)) (fun _ _ _ h=>h) (Or.inr ⟨by rfl,rfl⟩) ?_ ?_
   rotate_left
   ·simp only [Act.put,List.setIfInBounds_toArray,List.set_cons_zero,List.set_cons_succ]
    rfl
   refine pure_ (i:=13) (N:=some 37) (v:=undef) (a':=?_) #[tt,tt,tt,tt,tt,tt,tt,tt,tt,tt,tt,tt,tt,tt,ff] rfl rfl (any_of HT_.out (by kernel_rfl)) (fun _ _ _ h=>h) (Or.inr ⟨by rfl,rfl⟩) ?_ ?_
   rotate_left
   ·simp only [Act.put,List.setIfInBounds_toArray,List.set_cons_zero,List.set_cons_succ]
    rfl
   refine pure_ (i:=14) (N:=some 38) (v:=?_) (a':=?_) #[tt,tt,tt,tt,tt,tt,tt,tt,tt,tt,tt,tt,tt,tt,tt] rfl rfl (any_of HT_.out (by kernel_rfl)) (fun _ _ _ h=>h) (Or.inl ⟨by rfl,?_⟩) ?_ ?_
   rotate_left
   ·intro w'
    go_simp
    with_reducible rfl
   rotate_left
   ·simp only [Act.put,List.setIfInBounds_toArray,List.set_cons_zero,List.set_cons_succ]
    rfl
   refine done_ (done_of HT_.out (by kernel_rfl)) ?_
   obtain⟨s0,s1,s2,s3⟩:=hHeld
   have c0_s1:=(blk_cell s1 0).trans rfl
   have c1_s1:=(blk_cell s1 1).trans rfl
   have c2_s1:=(blk_cell s1 2).trans rfl
   have f0_:=blk_frozen s1 0
   have f1_:=blk_frozen s1 1
   have f2_:=blk_frozen s1 2
   have d0_s2:=(blk_cell s2 0).trans rfl
   have d1_s2:=(blk_cell s2 1).trans rfl
   have d2_s2:=(blk_cell s2 2).trans rfl
   go_wp2
   refine bodyPost_ret (results_ct rfl _ _ gb226 22 #[.int .i64 0,.int .i64 0,.int .i64 0] (0,0) _ rfl (blk_put (blk_put (blk_put s1 0 (.int .i64 0) rfl) 1 (.int .i64 0) rfl) 2 (.int .i64 0) rfl) Try.underlying22 rfl (by kernel_rfl)) rfl ?_
   exact⟨rfl,below_set (below_set (below_set s3 GE226.out) GE226.out) GE226.out⟩
end Go.Proofs.Ytonfobdknnlbjaa.B
end
