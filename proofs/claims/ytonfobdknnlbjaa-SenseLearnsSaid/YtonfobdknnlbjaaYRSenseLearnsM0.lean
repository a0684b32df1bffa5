/- Lemmas of the rows, laid by a program. -/
import Derived.Test.YtonfobdknnlbjaaYM1
import Derived.Test.YtonfobdknnlbjaaYM4
import Derived.Test.YtonfobdknnlbjaaYM8
import Derived.Test.YtonfobdknnlbjaaYM9
import Derived.Test.YtonfobdknnlbjaaYM10
import Derived.Test.YtonfobdknnlbjaaYM2
import Derived.Test.YtonfobdknnlbjaaYM3
import Derived.Test.YtonfobdknnlbjaaYM5
import Derived.Test.YtonfobdknnlbjaaYM6
import Derived.Test.YtonfobdknnlbjaaYM7
import Derived.Test.YtonfobdknnlbjaaProg
import Derived.Laws.IdiomArrays
import Derived.Lib.SmallJoins
import Derived.Deep.Strs
import Derived.WideOpen
import Derived.ProofKit
import Derived.OpenShut
import Derived.KernelRfl
import Derived.Deep.Slices
section
namespace Go.Proofs.Ytonfobdknnlbjaa.B
open Go.RowKit Go.Proofs.YtonfobdknnlbjaaW.PrintWords Go.Proofs.YtonfobdknnlbjaaW.PrintLast Go.Proofs.YtonfobdknnlbjaaW.PrintMore
attribute [local go_sem] max2_int min2_int max_two min_two max_three min_three max_four min_four
set_option linter.unusedVariables false
set_option linter.unusedSimpArgs false
attribute [local go_sem high] eqA22 eqA24
mutual
def outriggerlaw18_SenseLearns.j0:Nat→Int→List (S22)→Bool→Bool→Int→Int→Int→Int→Int→Int→Int→Int→Option (Bool)
  | 0,_,_,_,_,_,_,_,_,_,_,_,_=>none
  | k+1,x2,x3,x9,x31,x387000,x387001,x387002,x387003,x387004,x388000,x388001,x388002=>if x31=true then (some x9) else ((sense_Sane.f k x387000 x387001 x387002 x387003 x387004).bind fun t389=>(outriggerlaw18_SenseLearns.l0 k x2 x3 x9 ([]:List (S22)) t389 0 x387000 x387001 x387002 x387003 x387004 x388000 x388001 x388002))
def outriggerlaw18_SenseLearns.l0:Nat→Int→List (S22)→Bool→List (S22)→Bool→Int→Int→Int→Int→Int→Int→Int→Int→Int→Option (Bool)
  | 0,_,_,_,_,_,_,_,_,_,_,_,_,_,_=>none
  | k+1,x2,x3,x9,x10,x11,x12,x387000,x387001,x387002,x387003,x387004,x388000,x388001,x388002=>if x12<x2 then (if x10.length<5864062014805 then (outriggerlaw18_SenseLearns.l0 k x2 x3 x9 (x10++[(⟨x388000,x388001,x388002⟩:S22)]) x11 (wrap64 (x12+1)) x387000 x387001 x387002 x387003 x387004 x388000 x388001 x388002) else (none)) else ((fix_Clamp.f x388000).bind fun bt393=>(if x11=true then ((fix_Clamp.f x388001).bind fun bt395=>(if bt393.2=true then ((fix_Clamp.f x388002).bind fun bt397=>(outriggerlaw18_SenseLearns.j2 k x3 x9 x10 false x387000 x387001 x387002 x387003 x387004 x388000 x388001 x388002)) else ((fix_Clamp.f x388002).bind fun bt399=>(if bt395.2=true then (outriggerlaw18_SenseLearns.j2 k x3 x9 x10 false x387000 x387001 x387002 x387003 x387004 x388000 x388001 x388002) else (outriggerlaw18_SenseLearns.j2 k x3 x9 x10 (!bt399.2) x387000 x387001 x387002 x387003 x387004 x388000 x388001 x388002))))) else ((fix_Clamp.f x388001).bind fun bt401=>((fix_Clamp.f x388002).bind fun bt403=>(outriggerlaw18_SenseLearns.j2 k x3 x9 x10 false x387000 x387001 x387002 x387003 x387004 x388000 x388001 x388002)))))
def outriggerlaw18_SenseLearns.j2:Nat→List (S22)→Bool→List (S22)→Bool→Int→Int→Int→Int→Int→Int→Int→Int→Option (Bool)
  | 0,_,_,_,_,_,_,_,_,_,_,_,_=>none
  | k+1,x3,x9,x10,x11,x387000,x387001,x387002,x387003,x387004,x388000,x388001,x388002=>(sense_Learn.f k x387000 x387001 x387002 x387003 x387004 x10).bind fun bt405=>((sense_Learn.f k x387000 x387001 x387002 x387003 x387004 x3).bind fun bt411=>((sense_Sane.f k bt411.1 bt411.2.1 bt411.2.2.1 bt411.2.2.2.1 bt411.2.2.2.2).bind fun t417=>((sense_Sane.f k x387000 x387001 x387002 x387003 x387004).bind fun t418=>(if (t417 != t418)=true then (outriggerlaw18_SenseLearns.j3 k x9 x11 true x387000 x387001 x387002 x387003 x387004 x388000 x388001 x388002 bt405.1 bt405.2.1 bt405.2.2.1 bt405.2.2.2.1 bt405.2.2.2.2) else (if bt411.2.2.2.1=x387003 then (outriggerlaw18_SenseLearns.j3 k x9 x11 (bt411.2.2.2.2 != x387004) x387000 x387001 x387002 x387003 x387004 x388000 x388001 x388002 bt405.1 bt405.2.1 bt405.2.2.1 bt405.2.2.2.1 bt405.2.2.2.2) else (outriggerlaw18_SenseLearns.j3 k x9 x11 true x387000 x387001 x387002 x387003 x387004 x388000 x388001 x388002 bt405.1 bt405.2.1 bt405.2.2.1 bt405.2.2.2.1 bt405.2.2.2.2))))))
def outriggerlaw18_SenseLearns.j3:Nat→Bool→Bool→Bool→Int→Int→Int→Int→Int→Int→Int→Int→Int→Int→Int→Int→Int→Option (Bool)
  | 0,_,_,_,_,_,_,_,_,_,_,_,_,_,_,_,_=>none
  | k+1,x9,x11,x84,x387000,x387001,x387002,x387003,x387004,x388000,x388001,x388002,x411000,x411001,x411002,x411003,x411004=>if x84=true then (some false) else (if x11=true then ((sense_Read.f k x411000 x411001 x411002 x411003 x411004 x388000 x388001 x388002).bind fun bt419=>(if x9=true then (if (x411000 == x388000 && (x411001 == x388001 && (x411002 == x388002)))=true then (if bt419.2.2.2=true then (some (bt419.1 == 0 && (bt419.2.1 == 0 && (bt419.2.2.1 == 0)))) else (some false)) else (some false)) else (some false))) else (if x9=true then (some ((x411000 == x387000 && (x411001 == x387001 && (x411002 == x387002))) && (x411003 == x387003 && (x411004 == x387004)))) else (some false)))
end
def outriggerlaw18_SenseLearns.f (k:Nat) (a0_0:Int) (a0_1:Int) (a0_2:Int) (a0_3:Int) (a0_4:Int) (a1_0:Int) (a1_1:Int) (a1_2:Int) (a2:Int) (l3:List (S22)):Option (Bool):=(outriggerlaw18_awake.f k).bind fun t388=>(if (l3.length:Int) > 100 then (outriggerlaw18_SenseLearns.j0 k a2 l3 t388 true a0_0 a0_1 a0_2 a0_3 a0_4 a1_0 a1_1 a1_2) else (if a2<1 then (outriggerlaw18_SenseLearns.j0 k a2 l3 t388 true a0_0 a0_1 a0_2 a0_3 a0_4 a1_0 a1_1 a1_2) else (outriggerlaw18_SenseLearns.j0 k a2 l3 t388 (decide (a2 > 64)) a0_0 a0_1 a0_2 a0_3 a0_4 a1_0 a1_1 a1_2)))
def outriggerlaw18_SenseLearns.T17:Bool × List (List Nat × List Nat):=(true,[([],[]),([0],[0]),([],[]),([2,1],[2]),([1,3],[1,3]),([4,3],[4]),([5],[5]),([6,5],[5,6]),([5],[5]),([8,5],[5,8]),([7,9,5],[5,7,9]),([5,10],[5,10]),([11,5],[11]),([12],[12]),([13,12],[12,13]),([12],[12]),([15,12],[12,15]),([14,16,12],[12,14,16]),([12,17],[12,17])])
def outriggerlaw18_SenseLearns.B17:List Nat:=[0,1,0,7,15,31,63,127,63,319,1023,2047,4095,8191,16383,8191,40959,131071,262143]
theorem outriggerlaw18_SenseLearns.tab17:rtab .any (opsOf Try.f6 17)=outriggerlaw18_SenseLearns.T17:=by kernel_rfl
theorem outriggerlaw18_SenseLearns.bits17:waitsOk outriggerlaw18_SenseLearns.T17.2 outriggerlaw18_SenseLearns.B17=true:=by kernel_rfl
set_option maxHeartbeats 8000000 in
set_option maxRecDepth 100000 in
theorem outriggerlaw18_SenseLearns.calls (k:Nat) (a0_0:Int) (a0_1:Int) (a0_2:Int) (a0_3:Int) (a0_4:Int) (a1_0:Int) (a1_1:Int) (a1_2:Int) (a2:Int) (A3:Option Addr) (c3:Nat) (l3:List (S22)) (r:Bool) (w:World) (hr3:Kd.C k22 w A3 l3.length l3) (hc3:l3.length≤c3) (h:outriggerlaw18_SenseLearns.f k a0_0 a0_1 a0_2 a0_3 a0_4 a1_0 a1_1 a1_2 a2 l3=some r) (hr:Aside0 (r=true)) :
  Calls Try.prog 6 #[.agg #[.int .i64 a0_0,.int .i64 a0_1,.int .i64 a0_2,.int .i64 a0_3,.int .i64 a0_4],.agg #[.int .i64 a1_0,.int .i64 a1_1,.int .i64 a1_2],.int .i64 a2,.slice A3 l3.length c3] w fun e w'=>e=.returned (.bool r)∧Below w.heap.size w w':=by
 have hu24:=Try.underlying24
 have hu22:=Try.underlying22
 have HR3:=Aside0.mk hr3
 have HC3:=Aside0.mk hc3
 clear hr3 hc3
 have HB:=Aside0.mk (Below.refl w.heap.size w)
 have H:((outriggerlaw18_awake.f k).bind fun t388=>(if (l3.length:Int) > 100 then (outriggerlaw18_SenseLearns.j0 k a2 l3 t388 true a0_0 a0_1 a0_2 a0_3 a0_4 a1_0 a1_1 a1_2) else (if a2<1 then (outriggerlaw18_SenseLearns.j0 k a2 l3 t388 true a0_0 a0_1 a0_2 a0_3 a0_4 a1_0 a1_1 a1_2) else (outriggerlaw18_SenseLearns.j0 k a2 l3 t388 (decide (a2 > 64)) a0_0 a0_1 a0_2 a0_3 a0_4 a1_0 a1_1 a1_2))))=some r:=h
 clear h
 replace H:=Option.bind_eq_some_iff.mp H
 obtain⟨t388,A50,H⟩:=H
 replace H:(if (l3.length:Int) > 100 then (outriggerlaw18_SenseLearns.j0 k a2 l3 t388 true a0_0 a0_1 a0_2 a0_3 a0_4 a1_0 a1_1 a1_2) else (if a2<1 then (outriggerlaw18_SenseLearns.j0 k a2 l3 t388 true a0_0 a0_1 a0_2 a0_3 a0_4 a1_0 a1_1 a1_2) else (outriggerlaw18_SenseLearns.j0 k a2 l3 t388 (decide (a2 > 64)) a0_0 a0_1 a0_2 a0_3 a0_4 a1_0 a1_1 a1_2)))=some r:=H
 have A5:=Aside0.mk A50
 clear A50
 have HC6:=Aside0.mk H
 clear H
 go_enter Try.func6,Try.ntmps6
 go_upto_region 2 with (first|((with_reducible refine gate_dst (N:=4) rfl ?_);refine box_event ?hg (N:=4) ?hd (cs:=#[.int .i64 a0_0,.int .i64 a0_1,.int .i64 a0_2,.int .i64 a0_3,.int .i64 a0_4]) (t:=24) ?hr ?_;(case hd=>rfl);(case hg=>rfl);(case hr=>first|(go_simp;done)|(go_simp;rfl));intro gb386 hg w7 hbox hb;have n0_:=Aside0.mk (below_step (by first|with_reducible exact HB.out|exact bl HB) hb);have n1_:=Aside0.mk (hbox);have n2_:=Aside0.mk ((by rw [hg];exact(below_size (by first|with_reducible exact HB.out|exact bl HB)):w.heap.size≤gb386));have n3_:=Aside0.mk ((by rw [hg];exact(below_size (by first|with_reducible exact HB.out|exact bl HB)):w.heap.size≤gb386));clear HB;have HB:=n0_;have BK386:=n1_;have GW386:=n2_;have GE386:=n3_;clear n0_ n1_ n2_ n3_;clear hb hbox hg)|((with_reducible refine gate_dst (N:=5) rfl ?_);refine box_event ?hg (N:=5) ?hd (cs:=#[.int .i64 a1_0,.int .i64 a1_1,.int .i64 a1_2]) (t:=22) ?hr ?_;(case hd=>rfl);(case hg=>rfl);(case hr=>first|(go_simp;done)|(go_simp;rfl));intro gb387 hg w8 hbox hb;have n0_:=Aside0.mk (blk_below (bk BK386.out) hb);have n1_:=Aside0.mk (below_step (by repeat (first|with_reducible exact HB.out|exact bl HB|refine bs ?_ GE386)) hb);have n2_:=Aside0.mk (hbox);have n3_:=Aside0.mk ((by rw [hg];exact(below_size (by repeat (first|with_reducible exact HB.out|exact bl HB|refine bs ?_ GE386))):w.heap.size≤gb387));have n4_:=Aside0.mk ((by rw [hg];exact(below_size (by repeat (first|with_reducible exact HB.out|exact bl HB|refine bs ?_ GE386))):w.heap.size≤gb387));have n5_:=Aside0.mk ((by rw [hg];exact Nat.ne_of_lt (blk_lt (bk BK386.out)):gb386≠gb387));have n6_:=Aside0.mk ((by rw [hg];exact Nat.ne_of_gt (blk_lt (bk BK386.out)):gb387≠gb386));clear BK386;clear HB;have BK386:=n0_;have HB:=n1_;have BK387:=n2_;have GW387:=n3_;have GE387:=n4_;have NB386_387:=n5_;have NB387_386:=n6_;clear n0_ n1_ n2_ n3_ n4_ n5_ n6_;clear hb hbox hg)|((with_reducible refine gate_callee (f:=8) rfl ?_);refine goesL_ (some 20) rfl rfl Try.func8 (by kernel_rfl) rfl #[] rfl (by exact mA _ _) ?_;(with_reducible refine(outriggerlaw18_awake.calls k  t388 _ A5.out).mono ?_);rintro e w9 ⟨rfl,hb⟩;refine⟨_,rfl,?_⟩;have n0_:=Aside0.mk (blk_below (bk BK386.out) hb);have n1_:=Aside0.mk (blk_below (bk BK387.out) hb);have n2_:=Aside0.mk (below_step (by repeat (first|with_reducible exact HB.out|exact bl HB|refine bs ?_ GE386|refine bs ?_ GE387)) hb);clear BK386;clear BK387;clear HB;have BK386:=n0_;have BK387:=n1_;have HB:=n2_;clear n0_ n1_ n2_;(try clear hb);(try clear hb2);(try clear hk);(try clear hi)))
 (try simp only [Act.put,List.setIfInBounds_toArray,List.set_cons_zero,List.set_cons_succ])
 go_cut [31] (fun v31 wc=>∃ (kq:Nat) (x31_5:Bool),v31=.bool x31_5∧Aside0 (outriggerlaw18_SenseLearns.j0 kq a2 l3 t388 x31_5 a0_0 a0_1 a0_2 a0_3 a0_4 a1_0 a1_1 a1_2=some r)∧Aside0 (kq≤k)∧Aside0 (wc.heap[gb386]? = some (.cells #[.int .i64 a0_0,.int .i64 a0_1,.int .i64 a0_2,.int .i64 a0_3,.int .i64 a0_4] 24 (0,0)))∧Aside0 (wc.heap[gb387]? = some (.cells #[.int .i64 a1_0,.int .i64 a1_1,.int .i64 a1_2] 22 (0,0)))∧Aside0 (Below w.heap.size w wc))
 case first =>
  have H:=HC6.out
  clear HC6
  by_cases c10:(l3.length:Int) > 100
  ·rw [if_pos c10] at H
   have c10b0:decide (100<(l3.length:Int))=true:=decide_eq_true c10
   have c10b1:decide (100<l3.length)=true:=decide_eq_true (by omega)
   clear c10
   (first|rw [c10b0]|(simp only [i64_w,i32_w];rw [c10b0])|skip)
   have H':=Aside0.mk H
   clear H
   go_wp2
   try (refine wp_loop_rounds 4 ?_)
   repeat (rw [rounds_succ];try go_wp2)
   go_meet
   case rel=>exact⟨_,(true),(by first|rfl|(simp;done)|(simp [*];done)),H',⟨by first|omega|exact Nat.le_refl _⟩,⟨by first|exact BK386.out|exact bk BK386.out⟩,⟨by first|exact BK387.out|exact bk BK387.out⟩,⟨by repeat (first|with_reducible exact HB.out|exact bl HB|refine bs ?_ GE386|refine bs ?_ GE387)⟩⟩
  ·rw [if_neg c10] at H
   have c10b0:decide (100<(l3.length:Int))=false:=decide_eq_false c10
   have c10b1:decide (100<l3.length)=false:=decide_eq_false (by omega)
   clear c10
   (first|rw [c10b0]|(simp only [i64_w,i32_w];rw [c10b0])|skip)
   by_cases c11:a2<1
   ·rw [if_pos c11] at H
    have c11b0:decide (a2<1)=true:=decide_eq_true c11
    clear c11
    have H':=Aside0.mk H
    clear H
    go_wp2
    try (refine wp_loop_rounds 4 ?_)
    repeat (rw [rounds_succ];try go_wp2)
    go_meet
    case rel=>exact⟨_,(true),(by first|rfl|(simp;done)|(simp [*];done)),H',⟨by first|omega|exact Nat.le_refl _⟩,⟨by first|exact BK386.out|exact bk BK386.out⟩,⟨by first|exact BK387.out|exact bk BK387.out⟩,⟨by repeat (first|with_reducible exact HB.out|exact bl HB|refine bs ?_ GE386|refine bs ?_ GE387)⟩⟩
   ·rw [if_neg c11] at H
    have c11b0:decide (a2<1)=false:=decide_eq_false c11
    clear c11
    have H':=Aside0.mk H
    clear H
    go_wp2
    try (refine wp_loop_rounds 4 ?_)
    repeat (rw [rounds_succ];try go_wp2)
    go_meet
    case rel=>exact⟨_,(decide (a2 > 64)),(by first|rfl|(simp;done)|(simp [*];done)),H',⟨by first|omega|exact Nat.le_refl _⟩,⟨by first|exact BK386.out|exact bk BK386.out⟩,⟨by first|exact BK387.out|exact bk BK387.out⟩,⟨by repeat (first|with_reducible exact HB.out|exact bl HB|refine bs ?_ GE386|refine bs ?_ GE387)⟩⟩
 case rest =>
  clear HC6
  try clear c1
  try clear p2
  try clear c3
  try clear c6
  try clear c8
  try clear c10
  try clear c10b0
  try clear c10b1
  try clear c11
  try clear c11b0
  obtain⟨kq,x31_5,rfl,HA,HJ5,BK386,BK387,HB⟩:=hcut
  cases kq with
  | zero=>exact absurd HA.out (by simp [outriggerlaw18_SenseLearns.j0])
  | succ kj5 =>
   have H:=HA.out
   clear HA
   simp only [outriggerlaw18_SenseLearns.j0] at H
   by_cases c12:x31_5=true
   ·subst c12
    have H1:(some t388)=some r:=by rw [if_pos rfl] at H;exact H
    clear H
    have H:=H1
    clear H1
    clear hr
    obtain rfl:=Option.some.inj H
    go_wp2
    try (refine wp_loop_rounds 4 ?_)
    repeat (rw [rounds_succ];try go_wp2)
    go_ret
    exact⟨by first|rfl|(simp [errW_none,errW_some]<;>rfl)|(simp [*,errW_none,errW_some]<;>rfl),by repeat (first|with_reducible exact HB.out|exact bl HB|refine bs ?_ GE386|refine bs ?_ GE387)⟩
   ·replace c12:=Bool.eq_false_iff.mpr c12
    subst c12
    have H1:((sense_Sane.f kj5 a0_0 a0_1 a0_2 a0_3 a0_4).bind fun t389=>(outriggerlaw18_SenseLearns.l0 kj5 a2 l3 t388 ([]:List (S22)) t389 0 a0_0 a0_1 a0_2 a0_3 a0_4 a1_0 a1_1 a1_2))=some r:=by rw [if_neg (show ¬(false=true) by decide)] at H;exact H
    clear H
    have H:=H1
    clear H1
    replace H:=Option.bind_eq_some_iff.mp H
    obtain⟨t389,A130,H⟩:=H
    replace H:(outriggerlaw18_SenseLearns.l0 kj5 a2 l3 t388 ([]:List (S22)) t389 0 a0_0 a0_1 a0_2 a0_3 a0_4 a1_0 a1_1 a1_2)=some r:=H
    have A13:=Aside0.mk A130
    clear A130
    have H':=Aside0.mk H
    clear H
    have hnb14:=NB386_387.out
    have hnc14:=NB387_386.out
    have hcz15_0:wc.cell? ⟨gb386,0,none⟩=some (.int .i64 a0_0):=(blk_cell BK386.out 0).trans rfl
    have hcz15_1:wc.cell? ⟨gb386,1,none⟩=some (.int .i64 a0_1):=(blk_cell BK386.out 1).trans rfl
    have hcz15_2:wc.cell? ⟨gb386,2,none⟩=some (.int .i64 a0_2):=(blk_cell BK386.out 2).trans rfl
    have hcz15_3:wc.cell? ⟨gb386,3,none⟩=some (.int .i64 a0_3):=(blk_cell BK386.out 3).trans rfl
    have hcz15_4:wc.cell? ⟨gb386,4,none⟩=some (.int .i64 a0_4):=(blk_cell BK386.out 4).trans rfl
    have hfz15_0:=blk_frozen BK386.out 0
    have hfz15_1:=blk_frozen BK386.out 1
    have hfz15_2:=blk_frozen BK386.out 2
    have hfz15_3:=blk_frozen BK386.out 3
    have hfz15_4:=blk_frozen BK386.out 4
    go_wp2_with (first|((with_reducible refine gate_callee (f:=13) rfl ?_);refine goesL_ (some 34) rfl rfl Try.func13 (by kernel_rfl) rfl #[.agg #[.int .i64 a0_0,.int .i64 a0_1,.int .i64 a0_2,.int .i64 a0_3,.int .i64 a0_4]] rfl (by exact mA _ _) ?_;(with_reducible refine(sense_Sane.calls kj5 a0_0 a0_1 a0_2 a0_3 a0_4 t389 _ A13.out).mono ?_);rintro e w16 ⟨rfl,hb⟩;refine⟨_,rfl,?_⟩;have n0_:=Aside0.mk (blk_below (bk BK386.out) hb);have n1_:=Aside0.mk (blk_below (bk BK387.out) hb);have n2_:=Aside0.mk (below_step (by repeat (first|with_reducible exact HB.out|exact bl HB|refine bs ?_ GE386|refine bs ?_ GE387)) hb);clear BK386;clear BK387;clear HB;have BK386:=n0_;have BK387:=n1_;have HB:=n2_;clear n0_ n1_ n2_;(try clear hb);(try clear hb2);(try clear hk);(try clear hi)))
    go_loopg [10,12] kj5 (fun kq v10 v12 w'=>∃ (x10_2:List (S22)) (x12_2:Int),v12=.int .i64 x12_2∧Aside0 (outriggerlaw18_SenseLearns.l0 kq a2 l3 t388 x10_2 t389 x12_2 a0_0 a0_1 a0_2 a0_3 a0_4 a1_0 a1_1 a1_2=some r)∧Aside0 (kq≤kj5)∧Aside0 (Kd.R k22 22 w' w.heap.size (fun k_=>k_≠gb387) v10 x10_2)∧Aside0 (w'.heap[gb386]? = some (.cells #[.int .i64 a0_0,.int .i64 a0_1,.int .i64 a0_2,.int .i64 a0_3,.int .i64 a0_4] 24 (0,0)))∧Aside0 (w'.heap[gb387]? = some (.cells #[.int .i64 a1_0,.int .i64 a1_1,.int .i64 a1_2] 22 (0,0)))∧Aside0 (Below w.heap.size w w'))
    case atStart=>exact⟨(([]:List (S22))),(0),(by first|rfl|(simp;done)|(simp [*];done)),H',⟨Nat.le_refl _⟩,⟨by first|exact Kd.R_nil _ _ _ _ _|exact Kd.N_nil _ _ _ _ _|exact Kd.V_nil _ _ _ _ _|exact Kd.Q_nil _ _ _ _ _|exact Kd.S_nil _ _ _ _ _⟩,⟨by first|exact BK386.out|exact bk BK386.out⟩,⟨by first|exact BK387.out|exact bk BK387.out⟩,⟨by repeat (first|with_reducible exact HB.out|exact bl HB|refine bs ?_ GE386|refine bs ?_ GE387)⟩⟩
    case round =>
     clear H'
     try clear c1
     try clear p2
     try clear c3
     try clear c6
     try clear c8
     try clear c10
     try clear c10b0
     try clear c10b1
     try clear c11
     try clear c11b0
     try clear c12
     try clear c13
     try clear c14
     try clear hcz15_0
     try clear hcz15_1
     try clear hcz15_2
     try clear hcz15_3
     try clear hcz15_4
     try clear hfz15_0
     try clear hfz15_1
     try clear hfz15_2
     try clear hfz15_3
     try clear hfz15_4
     try clear p2
     obtain⟨x10_2,x12_2,rfl,HA,HK2,HO_10,BK386,BK387,HB⟩:=hrel
     cases gk with
     | zero=>exact absurd HA.out (by simp [outriggerlaw18_SenseLearns.l0])
     | succ k2 =>
      have H:=HA.out
      clear HA
      simp only [outriggerlaw18_SenseLearns.l0] at H
      by_cases c17:x12_2<a2
      ·rw [if_pos c17] at H
       have c17b0:decide (x12_2<a2)=true:=decide_eq_true c17
       clear c17
       by_cases c18:x10_2.length<5864062014805
       ·rw [if_pos c18] at H
        have LMc18:=Aside0.mk c18
        clear c18
        obtain⟨y390,hy390⟩:∃ y_:List (S22),y_=(x10_2++[(⟨a1_0,a1_1,a1_2⟩:S22)]):=⟨_,rfl⟩
        replace H:(outriggerlaw18_SenseLearns.l0 k2 a2 l3 t388 y390 t389 (wrap64 (x12_2+1)) a0_0 a0_1 a0_2 a0_3 a0_4 a1_0 a1_1 a1_2)=some r:=by first|(rw [hy390];with_reducible exact H)|(have H2_:=(Option.bind_some _ _).symm.trans H;rw [hy390];with_reducible exact H2_)|(have H2_:=(Option.bind_some _ _).symm.trans H;with_reducible exact H2_)|with_reducible exact H|(rw [hy390];exact H)|exact H
        have Ny390:=Aside0.mk hy390
        clear hy390
        have H':=Aside0.mk H
        clear H
        have hnb19:=NB387_386.out
        have hnc19:=NB386_387.out
        have hcz20_0:wr.cell? ⟨gb387,0,none⟩=some (.int .i64 a1_0):=(blk_cell BK387.out 0).trans rfl
        have hcz20_1:wr.cell? ⟨gb387,1,none⟩=some (.int .i64 a1_1):=(blk_cell BK387.out 1).trans rfl
        have hcz20_2:wr.cell? ⟨gb387,2,none⟩=some (.int .i64 a1_2):=(blk_cell BK387.out 2).trans rfl
        have hfz20_0:=blk_frozen BK387.out 0
        have hfz20_1:=blk_frozen BK387.out 1
        have hfz20_2:=blk_frozen BK387.out 2
        go_wp2_with (first|((with_reducible refine gate_builtin (b:=.append) (xs:=#[.tmp 40,.tmp 42]) rfl ?_);at_builtin;refine Kd.R_append k22 (w0:=w) w.heap.size rfl (.tmp 40) (.tmp 42) 25 22 (.agg #[(.int .i64 0),(.int .i64 0),(.int .i64 0)]) 24 rfl Try.underlying25 info22 rfl (by decide) (by omega) u10 x10_2 (⟨a1_0,a1_1,a1_2⟩:S22) [.int .i64 a1_0,.int .i64 a1_1,.int .i64 a1_2] (fun k_=>k_≠gb387) (fun _=>False) rfl rfl ?aP (fun _ hk=>hk.elim) ?aF ?aO ?aB ?aS ?aL ?_;(case aP=>exact k22_mkM _ _ _ (⟨a1_0,a1_1,a1_2⟩:S22));(case aB=>exact(by repeat (first|with_reducible exact HB.out|exact bl HB|refine bs ?_ GE386|refine bs ?_ GE387)));(case aF=>exact(fun k_ hk=>Kd.freshB (bk BK387.out) k_ hk));(case aO=>exact(by first|exact HO_10.out|exact kR HO_10.out));(case aS=>exact(below_size (by repeat (first|with_reducible exact HB.out|exact bl HB|refine bs ?_ GE386|refine bs ?_ GE387))));(case aL=>have:=LMc18.out;omega);intro v391 w21 ho hb hg hat;rw [←Ny390.out] at ho;have n0_:=Aside0.mk (blk_grown (bk BK386.out) hg (Kd.R_ne HO_10.out BK386.out (by decide)));have n1_:=Aside0.mk (blk_grown (bk BK387.out) hg (Kd.R_away HO_10.out (fun _ hk=>hk)));have n2_:=Aside0.mk (hb);have n3_:=Aside0.mk (ho);clear BK386;clear BK387;clear HB;clear HO_10;have BK386:=n0_;have BK387:=n1_;have HB:=n2_;have HO392:=n3_;clear n0_ n1_ n2_ n3_;clear ho hb hg hat))
        try (refine wp_loop_rounds 4 ?_)
        repeat (rw [rounds_succ];try go_wp2_with (first|((with_reducible refine gate_builtin (b:=.append) (xs:=#[.tmp 40,.tmp 42]) rfl ?_);at_builtin;refine Kd.R_append k22 (w0:=w) w.heap.size rfl (.tmp 40) (.tmp 42) 25 22 (.agg #[(.int .i64 0),(.int .i64 0),(.int .i64 0)]) 24 rfl Try.underlying25 info22 rfl (by decide) (by omega) u10 x10_2 (⟨a1_0,a1_1,a1_2⟩:S22) [.int .i64 a1_0,.int .i64 a1_1,.int .i64 a1_2] (fun k_=>k_≠gb387) (fun _=>False) rfl rfl ?aP (fun _ hk=>hk.elim) ?aF ?aO ?aB ?aS ?aL ?_;(case aP=>exact k22_mkM _ _ _ (⟨a1_0,a1_1,a1_2⟩:S22));(case aB=>exact(by repeat (first|with_reducible exact HB.out|exact bl HB|refine bs ?_ GE386|refine bs ?_ GE387)));(case aF=>exact(fun k_ hk=>Kd.freshB (bk BK387.out) k_ hk));(case aO=>exact(by first|exact HO_10.out|exact kR HO_10.out));(case aS=>exact(below_size (by repeat (first|with_reducible exact HB.out|exact bl HB|refine bs ?_ GE386|refine bs ?_ GE387))));(case aL=>have:=LMc18.out;omega);intro v391 w21 ho hb hg hat;rw [←Ny390.out] at ho;have n0_:=Aside0.mk (blk_grown (bk BK386.out) hg (Kd.R_ne HO_10.out BK386.out (by decide)));have n1_:=Aside0.mk (blk_grown (bk BK387.out) hg (Kd.R_away HO_10.out (fun _ hk=>hk)));have n2_:=Aside0.mk (hb);have n3_:=Aside0.mk (ho);clear BK386;clear BK387;clear HB;clear HO_10;have BK386:=n0_;have BK387:=n1_;have HB:=n2_;have HO392:=n3_;clear n0_ n1_ n2_ n3_;clear ho hb hg hat)))
        go_roundg k2
        case measure=>have:=HJ5.out;have:=HK2.out;omega
        case rel=>exact⟨(y390),(wrap64 (x12_2+1)),(by first|rfl|(simp;done)|(simp [*];done)),H',⟨by have:=HJ5.out;have:=HK2.out;omega⟩,⟨by first|exact HO392.out|exact kR HO392.out⟩,⟨by first|exact BK386.out|exact bk BK386.out⟩,⟨by first|exact BK387.out|exact bk BK387.out⟩,⟨by repeat (first|with_reducible exact HB.out|exact bl HB|refine bs ?_ GE386|refine bs ?_ GE387)⟩⟩
       ·rw [if_neg c18] at H
        exact absurd H (by simp)
      ·rw [if_neg c17] at H
       have c17b0:decide (x12_2<a2)=false:=decide_eq_false c17
       clear c17
       have HC22:=Aside0.mk H
       clear H
       go_upto_block 2 with (fail)
       go_cut [11] (fun v11 wc=>∃ (kq:Nat) (x11_21:Bool),v11=.bool x11_21∧Aside0 (outriggerlaw18_SenseLearns.j2 kq l3 t388 x10_2 x11_21 a0_0 a0_1 a0_2 a0_3 a0_4 a1_0 a1_1 a1_2=some r)∧Aside0 (kq≤k2)∧Aside0 (Kd.R k22 22 wc w.heap.size (fun k_=>k_≠gb387) u10 x10_2)∧Aside0 (wc.heap[gb386]? = some (.cells #[.int .i64 a0_0,.int .i64 a0_1,.int .i64 a0_2,.int .i64 a0_3,.int .i64 a0_4] 24 (0,0)))∧Aside0 (wc.heap[gb387]? = some (.cells #[.int .i64 a1_0,.int .i64 a1_1,.int .i64 a1_2] 22 (0,0)))∧Aside0 (Below w.heap.size w wc))
       case first =>
        have H:=HC22.out
        clear HC22
        replace H:=Option.bind_eq_some_iff.mp H
        obtain⟨⟨t393,t394⟩,A230,H⟩:=H
        replace H:(if t389=true then ((fix_Clamp.f a1_1).bind fun bt395=>(if t394=true then ((fix_Clamp.f a1_2).bind fun bt397=>(outriggerlaw18_SenseLearns.j2 k2 l3 t388 x10_2 false a0_0 a0_1 a0_2 a0_3 a0_4 a1_0 a1_1 a1_2)) else ((fix_Clamp.f a1_2).bind fun bt399=>(if bt395.2=true then (outriggerlaw18_SenseLearns.j2 k2 l3 t388 x10_2 false a0_0 a0_1 a0_2 a0_3 a0_4 a1_0 a1_1 a1_2) else (outriggerlaw18_SenseLearns.j2 k2 l3 t388 x10_2 (!bt399.2) a0_0 a0_1 a0_2 a0_3 a0_4 a1_0 a1_1 a1_2))))) else ((fix_Clamp.f a1_1).bind fun bt401=>((fix_Clamp.f a1_2).bind fun bt403=>(outriggerlaw18_SenseLearns.j2 k2 l3 t388 x10_2 false a0_0 a0_1 a0_2 a0_3 a0_4 a1_0 a1_1 a1_2))))=some r:=H
        have A23:=Aside0.mk A230
        clear A230
        by_cases c24:t389=true
        ·subst c24
         have H1:((fix_Clamp.f a1_1).bind fun bt395=>(if t394=true then ((fix_Clamp.f a1_2).bind fun bt397=>(outriggerlaw18_SenseLearns.j2 k2 l3 t388 x10_2 false a0_0 a0_1 a0_2 a0_3 a0_4 a1_0 a1_1 a1_2)) else ((fix_Clamp.f a1_2).bind fun bt399=>(if bt395.2=true then (outriggerlaw18_SenseLearns.j2 k2 l3 t388 x10_2 false a0_0 a0_1 a0_2 a0_3 a0_4 a1_0 a1_1 a1_2) else (outriggerlaw18_SenseLearns.j2 k2 l3 t388 x10_2 (!bt399.2) a0_0 a0_1 a0_2 a0_3 a0_4 a1_0 a1_1 a1_2)))))=some r:=by rw [if_pos rfl] at H;exact H
         clear H
         have H:=H1
         clear H1
         replace H:=Option.bind_eq_some_iff.mp H
         obtain⟨⟨t395,t396⟩,A250,H⟩:=H
         replace H:(if t394=true then ((fix_Clamp.f a1_2).bind fun bt397=>(outriggerlaw18_SenseLearns.j2 k2 l3 t388 x10_2 false a0_0 a0_1 a0_2 a0_3 a0_4 a1_0 a1_1 a1_2)) else ((fix_Clamp.f a1_2).bind fun bt399=>(if t396=true then (outriggerlaw18_SenseLearns.j2 k2 l3 t388 x10_2 false a0_0 a0_1 a0_2 a0_3 a0_4 a1_0 a1_1 a1_2) else (outriggerlaw18_SenseLearns.j2 k2 l3 t388 x10_2 (!bt399.2) a0_0 a0_1 a0_2 a0_3 a0_4 a1_0 a1_1 a1_2))))=some r:=H
         have A25:=Aside0.mk A250
         clear A250
         by_cases c26:t394=true
         ·subst c26
          have H1:((fix_Clamp.f a1_2).bind fun bt397=>(outriggerlaw18_SenseLearns.j2 k2 l3 t388 x10_2 false a0_0 a0_1 a0_2 a0_3 a0_4 a1_0 a1_1 a1_2))=some r:=by rw [if_pos rfl] at H;exact H
          clear H
          have H:=H1
          clear H1
          replace H:=Option.bind_eq_some_iff.mp H
          obtain⟨⟨t397,t398⟩,A270,H⟩:=H
          replace H:(outriggerlaw18_SenseLearns.j2 k2 l3 t388 x10_2 false a0_0 a0_1 a0_2 a0_3 a0_4 a1_0 a1_1 a1_2)=some r:=H
          have A27:=Aside0.mk A270
          clear A270
          have H':=Aside0.mk H
          clear H
          have hnb28:=NB387_386.out
          have hnc28:=NB386_387.out
          have hcz29_0:wr.cell? ⟨gb387,0,none⟩=some (.int .i64 a1_0):=(blk_cell BK387.out 0).trans rfl
          have hcz29_1:wr.cell? ⟨gb387,1,none⟩=some (.int .i64 a1_1):=(blk_cell BK387.out 1).trans rfl
          have hcz29_2:wr.cell? ⟨gb387,2,none⟩=some (.int .i64 a1_2):=(blk_cell BK387.out 2).trans rfl
          have hfz29_0:=blk_frozen BK387.out 0
          have hfz29_1:=blk_frozen BK387.out 1
          have hfz29_2:=blk_frozen BK387.out 2
          go_wp2_with (first|((with_reducible refine gate_callee (f:=19) rfl ?_);refine goesL_ (some 52) rfl rfl Try.func19 (by kernel_rfl) rfl #[.int .i64 a1_0] rfl (by exact mA _ _) ?_;(with_reducible refine(fix_Clamp.calls a1_0 t393 true _ A23.out).mono ?_);rintro e w30 ⟨rfl,hb⟩;refine⟨_,rfl,?_⟩;have n0_:=Aside0.mk (Kd.R_below (by first|exact HO_10.out|exact kR HO_10.out) hb);have n1_:=Aside0.mk (blk_below (bk BK386.out) hb);have n2_:=Aside0.mk (blk_below (bk BK387.out) hb);have n3_:=Aside0.mk (below_step (by repeat (first|with_reducible exact HB.out|exact bl HB|refine bs ?_ GE386|refine bs ?_ GE387)) hb);clear HO_10;clear BK386;clear BK387;clear HB;have HO_10:=n0_;have BK386:=n1_;have BK387:=n2_;have HB:=n3_;clear n0_ n1_ n2_ n3_;(try clear hb);(try clear hb2);(try clear hk);(try clear hi);have hcz31_0:w30.cell? ⟨gb387,0,none⟩=some (.int .i64 a1_0):=(blk_cell BK387.out 0).trans rfl;have hcz31_1:w30.cell? ⟨gb387,1,none⟩=some (.int .i64 a1_1):=(blk_cell BK387.out 1).trans rfl;have hcz31_2:w30.cell? ⟨gb387,2,none⟩=some (.int .i64 a1_2):=(blk_cell BK387.out 2).trans rfl;have hfz31_0:=blk_frozen BK387.out 0;have hfz31_1:=blk_frozen BK387.out 1;have hfz31_2:=blk_frozen BK387.out 2)|((with_reducible refine gate_callee (f:=19) rfl ?_);refine goesL_ (some 52) rfl rfl Try.func19 (by kernel_rfl) rfl #[.int .i64 a1_1] rfl (by exact mA _ _) ?_;(with_reducible refine(fix_Clamp.calls a1_1 t395 t396 _ A25.out).mono ?_);rintro e w32 ⟨rfl,hb⟩;refine⟨_,rfl,?_⟩;have n0_:=Aside0.mk (Kd.R_below (by first|exact HO_10.out|exact kR HO_10.out) hb);have n1_:=Aside0.mk (blk_below (bk BK386.out) hb);have n2_:=Aside0.mk (blk_below (bk BK387.out) hb);have n3_:=Aside0.mk (below_step (by repeat (first|with_reducible exact HB.out|exact bl HB|refine bs ?_ GE386|refine bs ?_ GE387)) hb);clear HO_10;clear BK386;clear BK387;clear HB;have HO_10:=n0_;have BK386:=n1_;have BK387:=n2_;have HB:=n3_;clear n0_ n1_ n2_ n3_;(try clear hb);(try clear hb2);(try clear hk);(try clear hi);have hcz33_0:w32.cell? ⟨gb387,0,none⟩=some (.int .i64 a1_0):=(blk_cell BK387.out 0).trans rfl;have hcz33_1:w32.cell? ⟨gb387,1,none⟩=some (.int .i64 a1_1):=(blk_cell BK387.out 1).trans rfl;have hcz33_2:w32.cell? ⟨gb387,2,none⟩=some (.int .i64 a1_2):=(blk_cell BK387.out 2).trans rfl;have hfz33_0:=blk_frozen BK387.out 0;have hfz33_1:=blk_frozen BK387.out 1;have hfz33_2:=blk_frozen BK387.out 2)|((with_reducible refine gate_callee (f:=19) rfl ?_);refine goesL_ (some 52) rfl rfl Try.func19 (by kernel_rfl) rfl #[.int .i64 a1_2] rfl (by exact mA _ _) ?_;(with_reducible refine(fix_Clamp.calls a1_2 t397 t398 _ A27.out).mono ?_);rintro e w34 ⟨rfl,hb⟩;refine⟨_,rfl,?_⟩;have n0_:=Aside0.mk (Kd.R_below (by first|exact HO_10.out|exact kR HO_10.out) hb);have n1_:=Aside0.mk (blk_below (bk BK386.out) hb);have n2_:=Aside0.mk (blk_below (bk BK387.out) hb);have n3_:=Aside0.mk (below_step (by repeat (first|with_reducible exact HB.out|exact bl HB|refine bs ?_ GE386|refine bs ?_ GE387)) hb);clear HO_10;clear BK386;clear BK387;clear HB;have HO_10:=n0_;have BK386:=n1_;have BK387:=n2_;have HB:=n3_;clear n0_ n1_ n2_ n3_;(try clear hb);(try clear hb2);(try clear hk);(try clear hi)))
          try (refine wp_loop_rounds 4 ?_)
          repeat (rw [rounds_succ];try go_wp2_with (first|((with_reducible refine gate_callee (f:=19) rfl ?_);refine goesL_ (some 52) rfl rfl Try.func19 (by kernel_rfl) rfl #[.int .i64 a1_0] rfl (by exact mA _ _) ?_;(with_reducible refine(fix_Clamp.calls a1_0 t393 true _ A23.out).mono ?_);rintro e w30 ⟨rfl,hb⟩;refine⟨_,rfl,?_⟩;have n0_:=Aside0.mk (Kd.R_below (by first|exact HO_10.out|exact kR HO_10.out) hb);have n1_:=Aside0.mk (blk_below (bk BK386.out) hb);have n2_:=Aside0.mk (blk_below (bk BK387.out) hb);have n3_:=Aside0.mk (below_step (by repeat (first|with_reducible exact HB.out|exact bl HB|refine bs ?_ GE386|refine bs ?_ GE387)) hb);clear HO_10;clear BK386;clear BK387;clear HB;have HO_10:=n0_;have BK386:=n1_;have BK387:=n2_;have HB:=n3_;clear n0_ n1_ n2_ n3_;(try clear hb);(try clear hb2);(try clear hk);(try clear hi);have hcz31_0:w30.cell? ⟨gb387,0,none⟩=some (.int .i64 a1_0):=(blk_cell BK387.out 0).trans rfl;have hcz31_1:w30.cell? ⟨gb387,1,none⟩=some (.int .i64 a1_1):=(blk_cell BK387.out 1).trans rfl;have hcz31_2:w30.cell? ⟨gb387,2,none⟩=some (.int .i64 a1_2):=(blk_cell BK387.out 2).trans rfl;have hfz31_0:=blk_frozen BK387.out 0;have hfz31_1:=blk_frozen BK387.out 1;have hfz31_2:=blk_frozen BK387.out 2)|((with_reducible refine gate_callee (f:=19) rfl ?_);refine goesL_ (some 52) rfl rfl Try.func19 (by kernel_rfl) rfl #[.int .i64 a1_1] rfl (by exact mA _ _) ?_;(with_reducible refine(fix_Clamp.calls a1_1 t395 t396 _ A25.out).mono ?_);rintro e w32 ⟨rfl,hb⟩;refine⟨_,rfl,?_⟩;have n0_:=Aside0.mk (Kd.R_below (by first|exact HO_10.out|exact kR HO_10.out) hb);have n1_:=Aside0.mk (blk_below (bk BK386.out) hb);have n2_:=Aside0.mk (blk_below (bk BK387.out) hb);have n3_:=Aside0.mk (below_step (by repeat (first|with_reducible exact HB.out|exact bl HB|refine bs ?_ GE386|refine bs ?_ GE387)) hb);clear HO_10;clear BK386;clear BK387;clear HB;have HO_10:=n0_;have BK386:=n1_;have BK387:=n2_;have HB:=n3_;clear n0_ n1_ n2_ n3_;(try clear hb);(try clear hb2);(try clear hk);(try clear hi);have hcz33_0:w32.cell? ⟨gb387,0,none⟩=some (.int .i64 a1_0):=(blk_cell BK387.out 0).trans rfl;have hcz33_1:w32.cell? ⟨gb387,1,none⟩=some (.int .i64 a1_1):=(blk_cell BK387.out 1).trans rfl;have hcz33_2:w32.cell? ⟨gb387,2,none⟩=some (.int .i64 a1_2):=(blk_cell BK387.out 2).trans rfl;have hfz33_0:=blk_frozen BK387.out 0;have hfz33_1:=blk_frozen BK387.out 1;have hfz33_2:=blk_frozen BK387.out 2)|((with_reducible refine gate_callee (f:=19) rfl ?_);refine goesL_ (some 52) rfl rfl Try.func19 (by kernel_rfl) rfl #[.int .i64 a1_2] rfl (by exact mA _ _) ?_;(with_reducible refine(fix_Clamp.calls a1_2 t397 t398 _ A27.out).mono ?_);rintro e w34 ⟨rfl,hb⟩;refine⟨_,rfl,?_⟩;have n0_:=Aside0.mk (Kd.R_below (by first|exact HO_10.out|exact kR HO_10.out) hb);have n1_:=Aside0.mk (blk_below (bk BK386.out) hb);have n2_:=Aside0.mk (blk_below (bk BK387.out) hb);have n3_:=Aside0.mk (below_step (by repeat (first|with_reducible exact HB.out|exact bl HB|refine bs ?_ GE386|refine bs ?_ GE387)) hb);clear HO_10;clear BK386;clear BK387;clear HB;have HO_10:=n0_;have BK386:=n1_;have BK387:=n2_;have HB:=n3_;clear n0_ n1_ n2_ n3_;(try clear hb);(try clear hb2);(try clear hk);(try clear hi))))
          go_meet
          case rel=>exact⟨_,(false),(by first|rfl|(simp;done)|(simp [*];done)),H',⟨by have:=HJ5.out;have:=HK2.out;first|omega|exact Nat.le_refl _⟩,⟨by first|exact HO_10.out|exact kR HO_10.out⟩,⟨by first|exact BK386.out|exact bk BK386.out⟩,⟨by first|exact BK387.out|exact bk BK387.out⟩,⟨by repeat (first|with_reducible exact HB.out|exact bl HB|refine bs ?_ GE386|refine bs ?_ GE387)⟩⟩
         ·replace c26:=Bool.eq_false_iff.mpr c26
          subst c26
          have H1:((fix_Clamp.f a1_2).bind fun bt399=>(if t396=true then (outriggerlaw18_SenseLearns.j2 k2 l3 t388 x10_2 false a0_0 a0_1 a0_2 a0_3 a0_4 a1_0 a1_1 a1_2) else (outriggerlaw18_SenseLearns.j2 k2 l3 t388 x10_2 (!bt399.2) a0_0 a0_1 a0_2 a0_3 a0_4 a1_0 a1_1 a1_2)))=some r:=by rw [if_neg (show ¬(false=true) by decide)] at H;exact H
          clear H
          have H:=H1
          clear H1
          replace H:=Option.bind_eq_some_iff.mp H
          obtain⟨⟨t399,t400⟩,A350,H⟩:=H
          replace H:(if t396=true then (outriggerlaw18_SenseLearns.j2 k2 l3 t388 x10_2 false a0_0 a0_1 a0_2 a0_3 a0_4 a1_0 a1_1 a1_2) else (outriggerlaw18_SenseLearns.j2 k2 l3 t388 x10_2 (!t400) a0_0 a0_1 a0_2 a0_3 a0_4 a1_0 a1_1 a1_2))=some r:=H
          have A35:=Aside0.mk A350
          clear A350
          by_cases c36:t396=true
          ·subst c36
           have H1:(outriggerlaw18_SenseLearns.j2 k2 l3 t388 x10_2 false a0_0 a0_1 a0_2 a0_3 a0_4 a1_0 a1_1 a1_2)=some r:=by rw [if_pos rfl] at H;exact H
           clear H
           have H:=H1
           clear H1
           have H':=Aside0.mk H
           clear H
           have hnb37:=NB387_386.out
           have hnc37:=NB386_387.out
           have hcz38_0:wr.cell? ⟨gb387,0,none⟩=some (.int .i64 a1_0):=(blk_cell BK387.out 0).trans rfl
           have hcz38_1:wr.cell? ⟨gb387,1,none⟩=some (.int .i64 a1_1):=(blk_cell BK387.out 1).trans rfl
           have hcz38_2:wr.cell? ⟨gb387,2,none⟩=some (.int .i64 a1_2):=(blk_cell BK387.out 2).trans rfl
           have hfz38_0:=blk_frozen BK387.out 0
           have hfz38_1:=blk_frozen BK387.out 1
           have hfz38_2:=blk_frozen BK387.out 2
           go_wp2_with (first|((with_reducible refine gate_callee (f:=19) rfl ?_);refine goesL_ (some 52) rfl rfl Try.func19 (by kernel_rfl) rfl #[.int .i64 a1_0] rfl (by exact mA _ _) ?_;(with_reducible refine(fix_Clamp.calls a1_0 t393 false _ A23.out).mono ?_);rintro e w39 ⟨rfl,hb⟩;refine⟨_,rfl,?_⟩;have n0_:=Aside0.mk (Kd.R_below (by first|exact HO_10.out|exact kR HO_10.out) hb);have n1_:=Aside0.mk (blk_below (bk BK386.out) hb);have n2_:=Aside0.mk (blk_below (bk BK387.out) hb);have n3_:=Aside0.mk (below_step (by repeat (first|with_reducible exact HB.out|exact bl HB|refine bs ?_ GE386|refine bs ?_ GE387)) hb);clear HO_10;clear BK386;clear BK387;clear HB;have HO_10:=n0_;have BK386:=n1_;have BK387:=n2_;have HB:=n3_;clear n0_ n1_ n2_ n3_;(try clear hb);(try clear hb2);(try clear hk);(try clear hi);have hcz40_0:w39.cell? ⟨gb387,0,none⟩=some (.int .i64 a1_0):=(blk_cell BK387.out 0).trans rfl;have hcz40_1:w39.cell? ⟨gb387,1,none⟩=some (.int .i64 a1_1):=(blk_cell BK387.out 1).trans rfl;have hcz40_2:w39.cell? ⟨gb387,2,none⟩=some (.int .i64 a1_2):=(blk_cell BK387.out 2).trans rfl;have hfz40_0:=blk_frozen BK387.out 0;have hfz40_1:=blk_frozen BK387.out 1;have hfz40_2:=blk_frozen BK387.out 2)|((with_reducible refine gate_callee (f:=19) rfl ?_);refine goesL_ (some 52) rfl rfl Try.func19 (by kernel_rfl) rfl #[.int .i64 a1_1] rfl (by exact mA _ _) ?_;(with_reducible refine(fix_Clamp.calls a1_1 t395 true _ A25.out).mono ?_);rintro e w41 ⟨rfl,hb⟩;refine⟨_,rfl,?_⟩;have n0_:=Aside0.mk (Kd.R_below (by first|exact HO_10.out|exact kR HO_10.out) hb);have n1_:=Aside0.mk (blk_below (bk BK386.out) hb);have n2_:=Aside0.mk (blk_below (bk BK387.out) hb);have n3_:=Aside0.mk (below_step (by repeat (first|with_reducible exact HB.out|exact bl HB|refine bs ?_ GE386|refine bs ?_ GE387)) hb);clear HO_10;clear BK386;clear BK387;clear HB;have HO_10:=n0_;have BK386:=n1_;have BK387:=n2_;have HB:=n3_;clear n0_ n1_ n2_ n3_;(try clear hb);(try clear hb2);(try clear hk);(try clear hi);have hcz42_0:w41.cell? ⟨gb387,0,none⟩=some (.int .i64 a1_0):=(blk_cell BK387.out 0).trans rfl;have hcz42_1:w41.cell? ⟨gb387,1,none⟩=some (.int .i64 a1_1):=(blk_cell BK387.out 1).trans rfl;have hcz42_2:w41.cell? ⟨gb387,2,none⟩=some (.int .i64 a1_2):=(blk_cell BK387.out 2).trans rfl;have hfz42_0:=blk_frozen BK387.out 0;have hfz42_1:=blk_frozen BK387.out 1;have hfz42_2:=blk_frozen BK387.out 2)|((with_reducible refine gate_callee (f:=19) rfl ?_);refine goesL_ (some 52) rfl rfl Try.func19 (by kernel_rfl) rfl #[.int .i64 a1_2] rfl (by exact mA _ _) ?_;(with_reducible refine(fix_Clamp.calls a1_2 t399 t400 _ A35.out).mono ?_);rintro e w43 ⟨rfl,hb⟩;refine⟨_,rfl,?_⟩;have n0_:=Aside0.mk (Kd.R_below (by first|exact HO_10.out|exact kR HO_10.out) hb);have n1_:=Aside0.mk (blk_below (bk BK386.out) hb);have n2_:=Aside0.mk (blk_below (bk BK387.out) hb);have n3_:=Aside0.mk (below_step (by repeat (first|with_reducible exact HB.out|exact bl HB|refine bs ?_ GE386|refine bs ?_ GE387)) hb);clear HO_10;clear BK386;clear BK387;clear HB;have HO_10:=n0_;have BK386:=n1_;have BK387:=n2_;have HB:=n3_;clear n0_ n1_ n2_ n3_;(try clear hb);(try clear hb2);(try clear hk);(try clear hi)))
           try (refine wp_loop_rounds 4 ?_)
           repeat (rw [rounds_succ];try go_wp2_with (first|((with_reducible refine gate_callee (f:=19) rfl ?_);refine goesL_ (some 52) rfl rfl Try.func19 (by kernel_rfl) rfl #[.int .i64 a1_0] rfl (by exact mA _ _) ?_;(with_reducible refine(fix_Clamp.calls a1_0 t393 false _ A23.out).mono ?_);rintro e w39 ⟨rfl,hb⟩;refine⟨_,rfl,?_⟩;have n0_:=Aside0.mk (Kd.R_below (by first|exact HO_10.out|exact kR HO_10.out) hb);have n1_:=Aside0.mk (blk_below (bk BK386.out) hb);have n2_:=Aside0.mk (blk_below (bk BK387.out) hb);have n3_:=Aside0.mk (below_step (by repeat (first|with_reducible exact HB.out|exact bl HB|refine bs ?_ GE386|refine bs ?_ GE387)) hb);clear HO_10;clear BK386;clear BK387;clear HB;have HO_10:=n0_;have BK386:=n1_;have BK387:=n2_;have HB:=n3_;clear n0_ n1_ n2_ n3_;(try clear hb);(try clear hb2);(try clear hk);(try clear hi);have hcz40_0:w39.cell? ⟨gb387,0,none⟩=some (.int .i64 a1_0):=(blk_cell BK387.out 0).trans rfl;have hcz40_1:w39.cell? ⟨gb387,1,none⟩=some (.int .i64 a1_1):=(blk_cell BK387.out 1).trans rfl;have hcz40_2:w39.cell? ⟨gb387,2,none⟩=some (.int .i64 a1_2):=(blk_cell BK387.out 2).trans rfl;have hfz40_0:=blk_frozen BK387.out 0;have hfz40_1:=blk_frozen BK387.out 1;have hfz40_2:=blk_frozen BK387.out 2)|((with_reducible refine gate_callee (f:=19) rfl ?_);refine goesL_ (some 52) rfl rfl Try.func19 (by kernel_rfl) rfl #[.int .i64 a1_1] rfl (by exact mA _ _) ?_;(with_reducible refine(fix_Clamp.calls a1_1 t395 true _ A25.out).mono ?_);rintro e w41 ⟨rfl,hb⟩;refine⟨_,rfl,?_⟩;have n0_:=Aside0.mk (Kd.R_below (by first|exact HO_10.out|exact kR HO_10.out) hb);have n1_:=Aside0.mk (blk_below (bk BK386.out) hb);have n2_:=Aside0.mk (blk_below (bk BK387.out) hb);have n3_:=Aside0.mk (below_step (by repeat (first|with_reducible exact HB.out|exact bl HB|refine bs ?_ GE386|refine bs ?_ GE387)) hb);clear HO_10;clear BK386;clear BK387;clear HB;have HO_10:=n0_;have BK386:=n1_;have BK387:=n2_;have HB:=n3_;clear n0_ n1_ n2_ n3_;(try clear hb);(try clear hb2);(try clear hk);(try clear hi);have hcz42_0:w41.cell? ⟨gb387,0,none⟩=some (.int .i64 a1_0):=(blk_cell BK387.out 0).trans rfl;have hcz42_1:w41.cell? ⟨gb387,1,none⟩=some (.int .i64 a1_1):=(blk_cell BK387.out 1).trans rfl;have hcz42_2:w41.cell? ⟨gb387,2,none⟩=some (.int .i64 a1_2):=(blk_cell BK387.out 2).trans rfl;have hfz42_0:=blk_frozen BK387.out 0;have hfz42_1:=blk_frozen BK387.out 1;have hfz42_2:=blk_frozen BK387.out 2)|((with_reducible refine gate_callee (f:=19) rfl ?_);refine goesL_ (some 52) rfl rfl Try.func19 (by kernel_rfl) rfl #[.int .i64 a1_2] rfl (by exact mA _ _) ?_;(with_reducible refine(fix_Clamp.calls a1_2 t399 t400 _ A35.out).mono ?_);rintro e w43 ⟨rfl,hb⟩;refine⟨_,rfl,?_⟩;have n0_:=Aside0.mk (Kd.R_below (by first|exact HO_10.out|exact kR HO_10.out) hb);have n1_:=Aside0.mk (blk_below (bk BK386.out) hb);have n2_:=Aside0.mk (blk_below (bk BK387.out) hb);have n3_:=Aside0.mk (below_step (by repeat (first|with_reducible exact HB.out|exact bl HB|refine bs ?_ GE386|refine bs ?_ GE387)) hb);clear HO_10;clear BK386;clear BK387;clear HB;have HO_10:=n0_;have BK386:=n1_;have BK387:=n2_;have HB:=n3_;clear n0_ n1_ n2_ n3_;(try clear hb);(try clear hb2);(try clear hk);(try clear hi))))
           go_meet
           case rel=>exact⟨_,(false),(by first|rfl|(simp;done)|(simp [*];done)),H',⟨by have:=HJ5.out;have:=HK2.out;first|omega|exact Nat.le_refl _⟩,⟨by first|exact HO_10.out|exact kR HO_10.out⟩,⟨by first|exact BK386.out|exact bk BK386.out⟩,⟨by first|exact BK387.out|exact bk BK387.out⟩,⟨by repeat (first|with_reducible exact HB.out|exact bl HB|refine bs ?_ GE386|refine bs ?_ GE387)⟩⟩
          ·replace c36:=Bool.eq_false_iff.mpr c36
           subst c36
           have H1:(outriggerlaw18_SenseLearns.j2 k2 l3 t388 x10_2 (!t400) a0_0 a0_1 a0_2 a0_3 a0_4 a1_0 a1_1 a1_2)=some r:=by rw [if_neg (show ¬(false=true) by decide)] at H;exact H
           clear H
           have H:=H1
           clear H1
           have H':=Aside0.mk H
           clear H
           have hnb44:=NB387_386.out
           have hnc44:=NB386_387.out
           have hcz45_0:wr.cell? ⟨gb387,0,none⟩=some (.int .i64 a1_0):=(blk_cell BK387.out 0).trans rfl
           have hcz45_1:wr.cell? ⟨gb387,1,none⟩=some (.int .i64 a1_1):=(blk_cell BK387.out 1).trans rfl
           have hcz45_2:wr.cell? ⟨gb387,2,none⟩=some (.int .i64 a1_2):=(blk_cell BK387.out 2).trans rfl
           have hfz45_0:=blk_frozen BK387.out 0
           have hfz45_1:=blk_frozen BK387.out 1
           have hfz45_2:=blk_frozen BK387.out 2
           go_wp2_with (first|((with_reducible refine gate_callee (f:=19) rfl ?_);refine goesL_ (some 52) rfl rfl Try.func19 (by kernel_rfl) rfl #[.int .i64 a1_0] rfl (by exact mA _ _) ?_;(with_reducible refine(fix_Clamp.calls a1_0 t393 false _ A23.out).mono ?_);rintro e w46 ⟨rfl,hb⟩;refine⟨_,rfl,?_⟩;have n0_:=Aside0.mk (Kd.R_below (by first|exact HO_10.out|exact kR HO_10.out) hb);have n1_:=Aside0.mk (blk_below (bk BK386.out) hb);have n2_:=Aside0.mk (blk_below (bk BK387.out) hb);have n3_:=Aside0.mk (below_step (by repeat (first|with_reducible exact HB.out|exact bl HB|refine bs ?_ GE386|refine bs ?_ GE387)) hb);clear HO_10;clear BK386;clear BK387;clear HB;have HO_10:=n0_;have BK386:=n1_;have BK387:=n2_;have HB:=n3_;clear n0_ n1_ n2_ n3_;(try clear hb);(try clear hb2);(try clear hk);(try clear hi);have hcz47_0:w46.cell? ⟨gb387,0,none⟩=some (.int .i64 a1_0):=(blk_cell BK387.out 0).trans rfl;have hcz47_1:w46.cell? ⟨gb387,1,none⟩=some (.int .i64 a1_1):=(blk_cell BK387.out 1).trans rfl;have hcz47_2:w46.cell? ⟨gb387,2,none⟩=some (.int .i64 a1_2):=(blk_cell BK387.out 2).trans rfl;have hfz47_0:=blk_frozen BK387.out 0;have hfz47_1:=blk_frozen BK387.out 1;have hfz47_2:=blk_frozen BK387.out 2)|((with_reducible refine gate_callee (f:=19) rfl ?_);refine goesL_ (some 52) rfl rfl Try.func19 (by kernel_rfl) rfl #[.int .i64 a1_1] rfl (by exact mA _ _) ?_;(with_reducible refine(fix_Clamp.calls a1_1 t395 false _ A25.out).mono ?_);rintro e w48 ⟨rfl,hb⟩;refine⟨_,rfl,?_⟩;have n0_:=Aside0.mk (Kd.R_below (by first|exact HO_10.out|exact kR HO_10.out) hb);have n1_:=Aside0.mk (blk_below (bk BK386.out) hb);have n2_:=Aside0.mk (blk_below (bk BK387.out) hb);have n3_:=Aside0.mk (below_step (by repeat (first|with_reducible exact HB.out|exact bl HB|refine bs ?_ GE386|refine bs ?_ GE387)) hb);clear HO_10;clear BK386;clear BK387;clear HB;have HO_10:=n0_;have BK386:=n1_;have BK387:=n2_;have HB:=n3_;clear n0_ n1_ n2_ n3_;(try clear hb);(try clear hb2);(try clear hk);(try clear hi);have hcz49_0:w48.cell? ⟨gb387,0,none⟩=some (.int .i64 a1_0):=(blk_cell BK387.out 0).trans rfl;have hcz49_1:w48.cell? ⟨gb387,1,none⟩=some (.int .i64 a1_1):=(blk_cell BK387.out 1).trans rfl;have hcz49_2:w48.cell? ⟨gb387,2,none⟩=some (.int .i64 a1_2):=(blk_cell BK387.out 2).trans rfl;have hfz49_0:=blk_frozen BK387.out 0;have hfz49_1:=blk_frozen BK387.out 1;have hfz49_2:=blk_frozen BK387.out 2)|((with_reducible refine gate_callee (f:=19) rfl ?_);refine goesL_ (some 52) rfl rfl Try.func19 (by kernel_rfl) rfl #[.int .i64 a1_2] rfl (by exact mA _ _) ?_;(with_reducible refine(fix_Clamp.calls a1_2 t399 t400 _ A35.out).mono ?_);rintro e w50 ⟨rfl,hb⟩;refine⟨_,rfl,?_⟩;have n0_:=Aside0.mk (Kd.R_below (by first|exact HO_10.out|exact kR HO_10.out) hb);have n1_:=Aside0.mk (blk_below (bk BK386.out) hb);have n2_:=Aside0.mk (blk_below (bk BK387.out) hb);have n3_:=Aside0.mk (below_step (by repeat (first|with_reducible exact HB.out|exact bl HB|refine bs ?_ GE386|refine bs ?_ GE387)) hb);clear HO_10;clear BK386;clear BK387;clear HB;have HO_10:=n0_;have BK386:=n1_;have BK387:=n2_;have HB:=n3_;clear n0_ n1_ n2_ n3_;(try clear hb);(try clear hb2);(try clear hk);(try clear hi)))
           try (refine wp_loop_rounds 4 ?_)
           repeat (rw [rounds_succ];try go_wp2_with (first|((with_reducible refine gate_callee (f:=19) rfl ?_);refine goesL_ (some 52) rfl rfl Try.func19 (by kernel_rfl) rfl #[.int .i64 a1_0] rfl (by exact mA _ _) ?_;(with_reducible refine(fix_Clamp.calls a1_0 t393 false _ A23.out).mono ?_);rintro e w46 ⟨rfl,hb⟩;refine⟨_,rfl,?_⟩;have n0_:=Aside0.mk (Kd.R_below (by first|exact HO_10.out|exact kR HO_10.out) hb);have n1_:=Aside0.mk (blk_below (bk BK386.out) hb);have n2_:=Aside0.mk (blk_below (bk BK387.out) hb);have n3_:=Aside0.mk (below_step (by repeat (first|with_reducible exact HB.out|exact bl HB|refine bs ?_ GE386|refine bs ?_ GE387)) hb);clear HO_10;clear BK386;clear BK387;clear HB;have HO_10:=n0_;have BK386:=n1_;have BK387:=n2_;have HB:=n3_;clear n0_ n1_ n2_ n3_;(try clear hb);(try clear hb2);(try clear hk);(try clear hi);have hcz47_0:w46.cell? ⟨gb387,0,none⟩=some (.int .i64 a1_0):=(blk_cell BK387.out 0).trans rfl;have hcz47_1:w46.cell? ⟨gb387,1,none⟩=some (.int .i64 a1_1):=(blk_cell BK387.out 1).trans rfl;have hcz47_2:w46.cell? ⟨gb387,2,none⟩=some (.int .i64 a1_2):=(blk_cell BK387.out 2).trans rfl;have hfz47_0:=blk_frozen BK387.out 0;have hfz47_1:=blk_frozen BK387.out 1;have hfz47_2:=blk_frozen BK387.out 2)|((with_reducible refine gate_callee (f:=19) rfl ?_);refine goesL_ (some 52) rfl rfl Try.func19 (by kernel_rfl) rfl #[.int .i64 a1_1] rfl (by exact mA _ _) ?_;(with_reducible refine(fix_Clamp.calls a1_1 t395 false _ A25.out).mono ?_);rintro e w48 ⟨rfl,hb⟩;refine⟨_,rfl,?_⟩;have n0_:=Aside0.mk (Kd.R_below (by first|exact HO_10.out|exact kR HO_10.out) hb);have n1_:=Aside0.mk (blk_below (bk BK386.out) hb);have n2_:=Aside0.mk (blk_below (bk BK387.out) hb);have n3_:=Aside0.mk (below_step (by repeat (first|with_reducible exact HB.out|exact bl HB|refine bs ?_ GE386|refine bs ?_ GE387)) hb);clear HO_10;clear BK386;clear BK387;clear HB;have HO_10:=n0_;have BK386:=n1_;have BK387:=n2_;have HB:=n3_;clear n0_ n1_ n2_ n3_;(try clear hb);(try clear hb2);(try clear hk);(try clear hi);have hcz49_0:w48.cell? ⟨gb387,0,none⟩=some (.int .i64 a1_0):=(blk_cell BK387.out 0).trans rfl;have hcz49_1:w48.cell? ⟨gb387,1,none⟩=some (.int .i64 a1_1):=(blk_cell BK387.out 1).trans rfl;have hcz49_2:w48.cell? ⟨gb387,2,none⟩=some (.int .i64 a1_2):=(blk_cell BK387.out 2).trans rfl;have hfz49_0:=blk_frozen BK387.out 0;have hfz49_1:=blk_frozen BK387.out 1;have hfz49_2:=blk_frozen BK387.out 2)|((with_reducible refine gate_callee (f:=19) rfl ?_);refine goesL_ (some 52) rfl rfl Try.func19 (by kernel_rfl) rfl #[.int .i64 a1_2] rfl (by exact mA _ _) ?_;(with_reducible refine(fix_Clamp.calls a1_2 t399 t400 _ A35.out).mono ?_);rintro e w50 ⟨rfl,hb⟩;refine⟨_,rfl,?_⟩;have n0_:=Aside0.mk (Kd.R_below (by first|exact HO_10.out|exact kR HO_10.out) hb);have n1_:=Aside0.mk (blk_below (bk BK386.out) hb);have n2_:=Aside0.mk (blk_below (bk BK387.out) hb);have n3_:=Aside0.mk (below_step (by repeat (first|with_reducible exact HB.out|exact bl HB|refine bs ?_ GE386|refine bs ?_ GE387)) hb);clear HO_10;clear BK386;clear BK387;clear HB;have HO_10:=n0_;have BK386:=n1_;have BK387:=n2_;have HB:=n3_;clear n0_ n1_ n2_ n3_;(try clear hb);(try clear hb2);(try clear hk);(try clear hi))))
           go_meet
           case rel=>exact⟨_,(!t400),(by first|rfl|(simp;done)|(simp [*];done)),H',⟨by have:=HJ5.out;have:=HK2.out;first|omega|exact Nat.le_refl _⟩,⟨by first|exact HO_10.out|exact kR HO_10.out⟩,⟨by first|exact BK386.out|exact bk BK386.out⟩,⟨by first|exact BK387.out|exact bk BK387.out⟩,⟨by repeat (first|with_reducible exact HB.out|exact bl HB|refine bs ?_ GE386|refine bs ?_ GE387)⟩⟩
        ·replace c24:=Bool.eq_false_iff.mpr c24
         subst c24
         have H1:((fix_Clamp.f a1_1).bind fun bt401=>((fix_Clamp.f a1_2).bind fun bt403=>(outriggerlaw18_SenseLearns.j2 k2 l3 t388 x10_2 false a0_0 a0_1 a0_2 a0_3 a0_4 a1_0 a1_1 a1_2)))=some r:=by rw [if_neg (show ¬(false=true) by decide)] at H;exact H
         clear H
         have H:=H1
         clear H1
         replace H:=Option.bind_eq_some_iff.mp H
         obtain⟨⟨t401,t402⟩,A510,H⟩:=H
         replace H:((fix_Clamp.f a1_2).bind fun bt403=>(outriggerlaw18_SenseLearns.j2 k2 l3 t388 x10_2 false a0_0 a0_1 a0_2 a0_3 a0_4 a1_0 a1_1 a1_2))=some r:=H
         have A51:=Aside0.mk A510
         clear A510
         replace H:=Option.bind_eq_some_iff.mp H
         obtain⟨⟨t403,t404⟩,A520,H⟩:=H
         replace H:(outriggerlaw18_SenseLearns.j2 k2 l3 t388 x10_2 false a0_0 a0_1 a0_2 a0_3 a0_4 a1_0 a1_1 a1_2)=some r:=H
         have A52:=Aside0.mk A520
         clear A520
         have H':=Aside0.mk H
         clear H
         have hnb53:=NB387_386.out
         have hnc53:=NB386_387.out
         have hcz54_0:wr.cell? ⟨gb387,0,none⟩=some (.int .i64 a1_0):=(blk_cell BK387.out 0).trans rfl
         have hcz54_1:wr.cell? ⟨gb387,1,none⟩=some (.int .i64 a1_1):=(blk_cell BK387.out 1).trans rfl
         have hcz54_2:wr.cell? ⟨gb387,2,none⟩=some (.int .i64 a1_2):=(blk_cell BK387.out 2).trans rfl
         have hfz54_0:=blk_frozen BK387.out 0
         have hfz54_1:=blk_frozen BK387.out 1
         have hfz54_2:=blk_frozen BK387.out 2
         go_wp2_with (first|((with_reducible refine gate_callee (f:=19) rfl ?_);refine goesL_ (some 52) rfl rfl Try.func19 (by kernel_rfl) rfl #[.int .i64 a1_0] rfl (by exact mA _ _) ?_;(with_reducible refine(fix_Clamp.calls a1_0 t393 t394 _ A23.out).mono ?_);rintro e w55 ⟨rfl,hb⟩;refine⟨_,rfl,?_⟩;have n0_:=Aside0.mk (Kd.R_below (by first|exact HO_10.out|exact kR HO_10.out) hb);have n1_:=Aside0.mk (blk_below (bk BK386.out) hb);have n2_:=Aside0.mk (blk_below (bk BK387.out) hb);have n3_:=Aside0.mk (below_step (by repeat (first|with_reducible exact HB.out|exact bl HB|refine bs ?_ GE386|refine bs ?_ GE387)) hb);clear HO_10;clear BK386;clear BK387;clear HB;have HO_10:=n0_;have BK386:=n1_;have BK387:=n2_;have HB:=n3_;clear n0_ n1_ n2_ n3_;(try clear hb);(try clear hb2);(try clear hk);(try clear hi);have hcz56_0:w55.cell? ⟨gb387,0,none⟩=some (.int .i64 a1_0):=(blk_cell BK387.out 0).trans rfl;have hcz56_1:w55.cell? ⟨gb387,1,none⟩=some (.int .i64 a1_1):=(blk_cell BK387.out 1).trans rfl;have hcz56_2:w55.cell? ⟨gb387,2,none⟩=some (.int .i64 a1_2):=(blk_cell BK387.out 2).trans rfl;have hfz56_0:=blk_frozen BK387.out 0;have hfz56_1:=blk_frozen BK387.out 1;have hfz56_2:=blk_frozen BK387.out 2)|((with_reducible refine gate_callee (f:=19) rfl ?_);refine goesL_ (some 52) rfl rfl Try.func19 (by kernel_rfl) rfl #[.int .i64 a1_1] rfl (by exact mA _ _) ?_;(with_reducible refine(fix_Clamp.calls a1_1 t401 t402 _ A51.out).mono ?_);rintro e w57 ⟨rfl,hb⟩;refine⟨_,rfl,?_⟩;have n0_:=Aside0.mk (Kd.R_below (by first|exact HO_10.out|exact kR HO_10.out) hb);have n1_:=Aside0.mk (blk_below (bk BK386.out) hb);have n2_:=Aside0.mk (blk_below (bk BK387.out) hb);have n3_:=Aside0.mk (below_step (by repeat (first|with_reducible exact HB.out|exact bl HB|refine bs ?_ GE386|refine bs ?_ GE387)) hb);clear HO_10;clear BK386;clear BK387;clear HB;have HO_10:=n0_;have BK386:=n1_;have BK387:=n2_;have HB:=n3_;clear n0_ n1_ n2_ n3_;(try clear hb);(try clear hb2);(try clear hk);(try clear hi);have hcz58_0:w57.cell? ⟨gb387,0,none⟩=some (.int .i64 a1_0):=(blk_cell BK387.out 0).trans rfl;have hcz58_1:w57.cell? ⟨gb387,1,none⟩=some (.int .i64 a1_1):=(blk_cell BK387.out 1).trans rfl;have hcz58_2:w57.cell? ⟨gb387,2,none⟩=some (.int .i64 a1_2):=(blk_cell BK387.out 2).trans rfl;have hfz58_0:=blk_frozen BK387.out 0;have hfz58_1:=blk_frozen BK387.out 1;have hfz58_2:=blk_frozen BK387.out 2)|((with_reducible refine gate_callee (f:=19) rfl ?_);refine goesL_ (some 52) rfl rfl Try.func19 (by kernel_rfl) rfl #[.int .i64 a1_2] rfl (by exact mA _ _) ?_;(with_reducible refine(fix_Clamp.calls a1_2 t403 t404 _ A52.out).mono ?_);rintro e w59 ⟨rfl,hb⟩;refine⟨_,rfl,?_⟩;have n0_:=Aside0.mk (Kd.R_below (by first|exact HO_10.out|exact kR HO_10.out) hb);have n1_:=Aside0.mk (blk_below (bk BK386.out) hb);have n2_:=Aside0.mk (blk_below (bk BK387.out) hb);have n3_:=Aside0.mk (below_step (by repeat (first|with_reducible exact HB.out|exact bl HB|refine bs ?_ GE386|refine bs ?_ GE387)) hb);clear HO_10;clear BK386;clear BK387;clear HB;have HO_10:=n0_;have BK386:=n1_;have BK387:=n2_;have HB:=n3_;clear n0_ n1_ n2_ n3_;(try clear hb);(try clear hb2);(try clear hk);(try clear hi)))
         try (refine wp_loop_rounds 4 ?_)
         repeat (rw [rounds_succ];try go_wp2_with (first|((with_reducible refine gate_callee (f:=19) rfl ?_);refine goesL_ (some 52) rfl rfl Try.func19 (by kernel_rfl) rfl #[.int .i64 a1_0] rfl (by exact mA _ _) ?_;(with_reducible refine(fix_Clamp.calls a1_0 t393 t394 _ A23.out).mono ?_);rintro e w55 ⟨rfl,hb⟩;refine⟨_,rfl,?_⟩;have n0_:=Aside0.mk (Kd.R_below (by first|exact HO_10.out|exact kR HO_10.out) hb);have n1_:=Aside0.mk (blk_below (bk BK386.out) hb);have n2_:=Aside0.mk (blk_below (bk BK387.out) hb);have n3_:=Aside0.mk (below_step (by repeat (first|with_reducible exact HB.out|exact bl HB|refine bs ?_ GE386|refine bs ?_ GE387)) hb);clear HO_10;clear BK386;clear BK387;clear HB;have HO_10:=n0_;have BK386:=n1_;have BK387:=n2_;have HB:=n3_;clear n0_ n1_ n2_ n3_;(try clear hb);(try clear hb2);(try clear hk);(try clear hi);have hcz56_0:w55.cell? ⟨gb387,0,none⟩=some (.int .i64 a1_0):=(blk_cell BK387.out 0).trans rfl;have hcz56_1:w55.cell? ⟨gb387,1,none⟩=some (.int .i64 a1_1):=(blk_cell BK387.out 1).trans rfl;have hcz56_2:w55.cell? ⟨gb387,2,none⟩=some (.int .i64 a1_2):=(blk_cell BK387.out 2).trans rfl;have hfz56_0:=blk_frozen BK387.out 0;have hfz56_1:=blk_frozen BK387.out 1;have hfz56_2:=blk_frozen BK387.out 2)|((with_reducible refine gate_callee (f:=19) rfl ?_);refine goesL_ (some 52) rfl rfl Try.func19 (by kernel_rfl) rfl #[.int .i64 a1_1] rfl (by exact mA _ _) ?_;(with_reducible refine(fix_Clamp.calls a1_1 t401 t402 _ A51.out).mono ?_);rintro e w57 ⟨rfl,hb⟩;refine⟨_,rfl,?_⟩;have n0_:=Aside0.mk (Kd.R_below (by first|exact HO_10.out|exact kR HO_10.out) hb);have n1_:=Aside0.mk (blk_below (bk BK386.out) hb);have n2_:=Aside0.mk (blk_below (bk BK387.out) hb);have n3_:=Aside0.mk (below_step (by repeat (first|with_reducible exact HB.out|exact bl HB|refine bs ?_ GE386|refine bs ?_ GE387)) hb);clear HO_10;clear BK386;clear BK387;clear HB;have HO_10:=n0_;have BK386:=n1_;have BK387:=n2_;have HB:=n3_;clear n0_ n1_ n2_ n3_;(try clear hb);(try clear hb2);(try clear hk);(try clear hi);have hcz58_0:w57.cell? ⟨gb387,0,none⟩=some (.int .i64 a1_0):=(blk_cell BK387.out 0).trans rfl;have hcz58_1:w57.cell? ⟨gb387,1,none⟩=some (.int .i64 a1_1):=(blk_cell BK387.out 1).trans rfl;have hcz58_2:w57.cell? ⟨gb387,2,none⟩=some (.int .i64 a1_2):=(blk_cell BK387.out 2).trans rfl;have hfz58_0:=blk_frozen BK387.out 0;have hfz58_1:=blk_frozen BK387.out 1;have hfz58_2:=blk_frozen BK387.out 2)|((with_reducible refine gate_callee (f:=19) rfl ?_);refine goesL_ (some 52) rfl rfl Try.func19 (by kernel_rfl) rfl #[.int .i64 a1_2] rfl (by exact mA _ _) ?_;(with_reducible refine(fix_Clamp.calls a1_2 t403 t404 _ A52.out).mono ?_);rintro e w59 ⟨rfl,hb⟩;refine⟨_,rfl,?_⟩;have n0_:=Aside0.mk (Kd.R_below (by first|exact HO_10.out|exact kR HO_10.out) hb);have n1_:=Aside0.mk (blk_below (bk BK386.out) hb);have n2_:=Aside0.mk (blk_below (bk BK387.out) hb);have n3_:=Aside0.mk (below_step (by repeat (first|with_reducible exact HB.out|exact bl HB|refine bs ?_ GE386|refine bs ?_ GE387)) hb);clear HO_10;clear BK386;clear BK387;clear HB;have HO_10:=n0_;have BK386:=n1_;have BK387:=n2_;have HB:=n3_;clear n0_ n1_ n2_ n3_;(try clear hb);(try clear hb2);(try clear hk);(try clear hi))))
         go_meet
         case rel=>exact⟨_,(false),(by first|rfl|(simp;done)|(simp [*];done)),H',⟨by have:=HJ5.out;have:=HK2.out;first|omega|exact Nat.le_refl _⟩,⟨by first|exact HO_10.out|exact kR HO_10.out⟩,⟨by first|exact BK386.out|exact bk BK386.out⟩,⟨by first|exact BK387.out|exact bk BK387.out⟩,⟨by repeat (first|with_reducible exact HB.out|exact bl HB|refine bs ?_ GE386|refine bs ?_ GE387)⟩⟩
       case rest =>
        clear HC22
        try clear c1
        try clear c2
        try clear p2
        try clear c3
        try clear c4
        try clear c5
        try clear c6
        try clear p6
        try clear c8
        try clear c10
        try clear c10b0
        try clear c10b1
        try clear c11
        try clear c11b0
        try clear c12
        try clear c13
        try clear c14
        try clear c17
        try clear c17b0
        try clear c18
        try clear c19
        try clear c24
        try clear c26
        try clear c28
        try clear c36
        try clear c37
        try clear c44
        try clear c53
        try clear hcz15_0
        try clear hcz15_1
        try clear hcz15_2
        try clear hcz15_3
        try clear hcz15_4
        try clear hcz20_0
        try clear hcz20_1
        try clear hcz20_2
        try clear hcz29_0
        try clear hcz29_1
        try clear hcz29_2
        try clear hcz31_0
        try clear hcz31_1
        try clear hcz31_2
        try clear hcz33_0
        try clear hcz33_1
        try clear hcz33_2
        try clear hcz38_0
        try clear hcz38_1
        try clear hcz38_2
        try clear hcz40_0
        try clear hcz40_1
        try clear hcz40_2
        try clear hcz42_0
        try clear hcz42_1
        try clear hcz42_2
        try clear hcz45_0
        try clear hcz45_1
        try clear hcz45_2
        try clear hcz47_0
        try clear hcz47_1
        try clear hcz47_2
        try clear hcz49_0
        try clear hcz49_1
        try clear hcz49_2
        try clear hcz54_0
        try clear hcz54_1
        try clear hcz54_2
        try clear hcz56_0
        try clear hcz56_1
        try clear hcz56_2
        try clear hcz58_0
        try clear hcz58_1
        try clear hcz58_2
        try clear hfz15_0
        try clear hfz15_1
        try clear hfz15_2
        try clear hfz15_3
        try clear hfz15_4
        try clear hfz20_0
        try clear hfz20_1
        try clear hfz20_2
        try clear hfz29_0
        try clear hfz29_1
        try clear hfz29_2
        try clear hfz31_0
        try clear hfz31_1
        try clear hfz31_2
        try clear hfz33_0
        try clear hfz33_1
        try clear hfz33_2
        try clear hfz38_0
        try clear hfz38_1
        try clear hfz38_2
        try clear hfz40_0
        try clear hfz40_1
        try clear hfz40_2
        try clear hfz42_0
        try clear hfz42_1
        try clear hfz42_2
        try clear hfz45_0
        try clear hfz45_1
        try clear hfz45_2
        try clear hfz47_0
        try clear hfz47_1
        try clear hfz47_2
        try clear hfz49_0
        try clear hfz49_1
        try clear hfz49_2
        try clear hfz54_0
        try clear hfz54_1
        try clear hfz54_2
        try clear hfz56_0
        try clear hfz56_1
        try clear hfz56_2
        try clear hfz58_0
        try clear hfz58_1
        try clear hfz58_2
        try clear p2
        obtain⟨kq,x11_21,rfl,HA,HJ21,HO_10,BK386,BK387,HB⟩:=hcut
        cases kq with
        | zero=>exact absurd HA.out (by simp [outriggerlaw18_SenseLearns.j2])
        | succ kj21 =>
         have H:=HA.out
         clear HA
         simp only [outriggerlaw18_SenseLearns.j2] at H
         replace H:=Option.bind_eq_some_iff.mp H
         obtain⟨⟨t405,t406,t407,t408,t409⟩,A600,H⟩:=H
         replace H:((sense_Learn.f kj21 a0_0 a0_1 a0_2 a0_3 a0_4 l3).bind fun bt411=>((sense_Sane.f kj21 bt411.1 bt411.2.1 bt411.2.2.1 bt411.2.2.2.1 bt411.2.2.2.2).bind fun t417=>((sense_Sane.f kj21 a0_0 a0_1 a0_2 a0_3 a0_4).bind fun t418=>(if (t417 != t418)=true then (outriggerlaw18_SenseLearns.j3 kj21 t388 x11_21 true a0_0 a0_1 a0_2 a0_3 a0_4 a1_0 a1_1 a1_2 t405 t406 t407 t408 t409) else (if bt411.2.2.2.1=a0_3 then (outriggerlaw18_SenseLearns.j3 kj21 t388 x11_21 (bt411.2.2.2.2 != a0_4) a0_0 a0_1 a0_2 a0_3 a0_4 a1_0 a1_1 a1_2 t405 t406 t407 t408 t409) else (outriggerlaw18_SenseLearns.j3 kj21 t388 x11_21 true a0_0 a0_1 a0_2 a0_3 a0_4 a1_0 a1_1 a1_2 t405 t406 t407 t408 t409))))))=some r:=H
         have A60:=Aside0.mk A600
         clear A600
         replace H:=Option.bind_eq_some_iff.mp H
         obtain⟨⟨t411,t412,t413,t414,t415⟩,A610,H⟩:=H
         replace H:((sense_Sane.f kj21 t411 t412 t413 t414 t415).bind fun t417=>((sense_Sane.f kj21 a0_0 a0_1 a0_2 a0_3 a0_4).bind fun t418=>(if (t417 != t418)=true then (outriggerlaw18_SenseLearns.j3 kj21 t388 x11_21 true a0_0 a0_1 a0_2 a0_3 a0_4 a1_0 a1_1 a1_2 t405 t406 t407 t408 t409) else (if t414=a0_3 then (outriggerlaw18_SenseLearns.j3 kj21 t388 x11_21 (t415 != a0_4) a0_0 a0_1 a0_2 a0_3 a0_4 a1_0 a1_1 a1_2 t405 t406 t407 t408 t409) else (outriggerlaw18_SenseLearns.j3 kj21 t388 x11_21 true a0_0 a0_1 a0_2 a0_3 a0_4 a1_0 a1_1 a1_2 t405 t406 t407 t408 t409)))))=some r:=H
         have A61:=Aside0.mk A610
         clear A610
         have HC62:=Aside0.mk H
         clear H
         have hnb63:=NB386_387.out
         have hnc63:=NB387_386.out
         have hcz64_0:wc.cell? ⟨gb386,0,none⟩=some (.int .i64 a0_0):=(blk_cell BK386.out 0).trans rfl
         have hcz64_1:wc.cell? ⟨gb386,1,none⟩=some (.int .i64 a0_1):=(blk_cell BK386.out 1).trans rfl
         have hcz64_2:wc.cell? ⟨gb386,2,none⟩=some (.int .i64 a0_2):=(blk_cell BK386.out 2).trans rfl
         have hcz64_3:wc.cell? ⟨gb386,3,none⟩=some (.int .i64 a0_3):=(blk_cell BK386.out 3).trans rfl
         have hcz64_4:wc.cell? ⟨gb386,4,none⟩=some (.int .i64 a0_4):=(blk_cell BK386.out 4).trans rfl
         have hfz64_0:=blk_frozen BK386.out 0
         have hfz64_1:=blk_frozen BK386.out 1
         have hfz64_2:=blk_frozen BK386.out 2
         have hfz64_3:=blk_frozen BK386.out 3
         have hfz64_4:=blk_frozen BK386.out 4
         obtain⟨Ao65,co65,eo65⟩:=Kd.R_slice HO_10.out
         subst eo65
         go_upto_region 17 with (first|((with_reducible refine gate_callee (f:=15) rfl ?_);refine goesL_ (some 62) rfl rfl Try.func15 (by kernel_rfl) rfl #[.agg #[.int .i64 a0_0,.int .i64 a0_1,.int .i64 a0_2,.int .i64 a0_3,.int .i64 a0_4],.slice Ao65 x10_2.length co65] rfl (by exact mA _ _) ?_;(with_reducible refine(sense_Learn.calls kj21 a0_0 a0_1 a0_2 a0_3 a0_4 _ _ x10_2 t405 t406 t407 t408 t409 _ ?side1 ?side2 A60.out).mono ?_);(case side1=>first|exact(Kd.R_reads' HO_10.out).2.2|exact kC (Kd.R_reads' HO_10.out).2.2);(case side2=>exact(Kd.R_reads' HO_10.out).2.1);rintro e w66 ⟨rfl,hb⟩;refine⟨_,rfl,?_⟩;have n0_:=Aside0.mk (Kd.R_below (by first|exact HO_10.out|exact kR HO_10.out) hb);have n1_:=Aside0.mk (blk_below (bk BK386.out) hb);have n2_:=Aside0.mk (blk_below (bk BK387.out) hb);have n3_:=Aside0.mk (below_step (by repeat (first|with_reducible exact HB.out|exact bl HB|refine bs ?_ GE386|refine bs ?_ GE387)) hb);clear HO_10;clear BK386;clear BK387;clear HB;have HO_10:=n0_;have BK386:=n1_;have BK387:=n2_;have HB:=n3_;clear n0_ n1_ n2_ n3_;(try clear hb);(try clear hb2);(try clear hk);(try clear hi))|((with_reducible refine gate_dst (N:=16) rfl ?_);refine box_event ?hg (N:=16) ?hd (cs:=#[.int .i64 0,.int .i64 0,.int .i64 0,.int .i64 0,.int .i64 0]) (t:=24) ?hr ?_;(case hd=>rfl);(case hg=>rfl);(case hr=>first|(go_simp;done)|(go_simp;rfl));intro gb410 hg w67 hbox hb;have n0_:=Aside0.mk (Kd.R_below (by first|exact HO_10.out|exact kR HO_10.out) hb);have n1_:=Aside0.mk (blk_below (bk BK386.out) hb);have n2_:=Aside0.mk (blk_below (bk BK387.out) hb);have n3_:=Aside0.mk (below_step (by repeat (first|with_reducible exact HB.out|exact bl HB|refine bs ?_ GE386|refine bs ?_ GE387)) hb);have n4_:=Aside0.mk (hbox);have n5_:=Aside0.mk ((by rw [hg];exact(below_size (by repeat (first|with_reducible exact HB.out|exact bl HB|refine bs ?_ GE386|refine bs ?_ GE387))):w.heap.size≤gb410));have n6_:=Aside0.mk ((by rw [hg];exact(below_size (by repeat (first|with_reducible exact HB.out|exact bl HB|refine bs ?_ GE386|refine bs ?_ GE387))):w.heap.size≤gb410));have n7_:=Aside0.mk ((by rw [hg];exact Nat.ne_of_lt (blk_lt (bk BK386.out)):gb386≠gb410));have n8_:=Aside0.mk ((by rw [hg];exact Nat.ne_of_gt (blk_lt (bk BK386.out)):gb410≠gb386));have n9_:=Aside0.mk ((by rw [hg];exact Nat.ne_of_lt (blk_lt (bk BK387.out)):gb387≠gb410));have n10_:=Aside0.mk ((by rw [hg];exact Nat.ne_of_gt (blk_lt (bk BK387.out)):gb410≠gb387));clear HO_10;clear BK386;clear BK387;clear HB;have HO_10:=n0_;have BK386:=n1_;have BK387:=n2_;have HB:=n3_;have BK410:=n4_;have GW410:=n5_;have GE410:=n6_;have NB386_410:=n7_;have NB410_386:=n8_;have NB387_410:=n9_;have NB410_387:=n10_;clear n0_ n1_ n2_ n3_ n4_ n5_ n6_ n7_ n8_ n9_ n10_;clear hb hbox hg;have hnb68:=NB410_386.out;have hnc68:=NB386_410.out;have hnb69:=NB410_387.out;have hnc69:=NB387_410.out;have hcz70_0:w67.cell? ⟨gb410,0,none⟩=some (.int .i64 0):=(blk_cell BK410.out 0).trans rfl;have hcz70_1:w67.cell? ⟨gb410,1,none⟩=some (.int .i64 0):=(blk_cell BK410.out 1).trans rfl;have hcz70_2:w67.cell? ⟨gb410,2,none⟩=some (.int .i64 0):=(blk_cell BK410.out 2).trans rfl;have hcz70_3:w67.cell? ⟨gb410,3,none⟩=some (.int .i64 0):=(blk_cell BK410.out 3).trans rfl;have hcz70_4:w67.cell? ⟨gb410,4,none⟩=some (.int .i64 0):=(blk_cell BK410.out 4).trans rfl;have hfz70_0:=blk_frozen BK410.out 0;have hfz70_1:=blk_frozen BK410.out 1;have hfz70_2:=blk_frozen BK410.out 2;have hfz70_3:=blk_frozen BK410.out 3;have hfz70_4:=blk_frozen BK410.out 4;have hcz71_0:w67.cell? ⟨gb386,0,none⟩=some (.int .i64 a0_0):=(blk_cell BK386.out 0).trans rfl;have hcz71_1:w67.cell? ⟨gb386,1,none⟩=some (.int .i64 a0_1):=(blk_cell BK386.out 1).trans rfl;have hcz71_2:w67.cell? ⟨gb386,2,none⟩=some (.int .i64 a0_2):=(blk_cell BK386.out 2).trans rfl;have hcz71_3:w67.cell? ⟨gb386,3,none⟩=some (.int .i64 a0_3):=(blk_cell BK386.out 3).trans rfl;have hcz71_4:w67.cell? ⟨gb386,4,none⟩=some (.int .i64 a0_4):=(blk_cell BK386.out 4).trans rfl;have hfz71_0:=blk_frozen BK386.out 0;have hfz71_1:=blk_frozen BK386.out 1;have hfz71_2:=blk_frozen BK386.out 2;have hfz71_3:=blk_frozen BK386.out 3;have hfz71_4:=blk_frozen BK386.out 4)|((with_reducible refine gate_callee (f:=15) rfl ?_);refine goesL_ (some 65) rfl rfl Try.func15 (by kernel_rfl) rfl #[.agg #[.int .i64 a0_0,.int .i64 a0_1,.int .i64 a0_2,.int .i64 a0_3,.int .i64 a0_4],.slice A3 l3.length c3] rfl (by exact mA _ _) ?_;(with_reducible refine(sense_Learn.calls kj21 a0_0 a0_1 a0_2 a0_3 a0_4 _ _ l3 t411 t412 t413 t414 t415 _ ?side1 ?side2 A61.out).mono ?_);(case side1=>exact Kd.C_below HR3.out (by repeat (first|with_reducible exact HB.out|exact bl HB|refine bs ?_ GE386|refine bs ?_ GE387|refine bs ?_ GE410)));(case side2=>exact HC3.out);rintro e w72 ⟨rfl,hb⟩;refine⟨_,rfl,?_⟩;have n0_:=Aside0.mk (Kd.R_below (by (with_reducible repeat (first|apply Kd.R_alloc|apply Kd.R_drewN|apply Kd.R_drew));exact(Kd.R_mono (Kd.R_far (p:=⟨gb410,4,none⟩) (Kd.R_far (p:=⟨gb410,3,none⟩) (Kd.R_far (p:=⟨gb410,2,none⟩) (Kd.R_far (p:=⟨gb410,1,none⟩) (Kd.R_far (p:=⟨gb410,0,none⟩) (Kd.R_types HO_10.out BK410.out (by decide)) (fun _ hk=>hk.2) (.int .i64 t405)) (fun _ hk=>hk.2) (.int .i64 t406)) (fun _ hk=>hk.2) (.int .i64 t407)) (fun _ hk=>hk.2) (.int .i64 t408)) (fun _ hk=>hk.2) (.int .i64 t409)) (fun _ h_=>h_.1))) hb);have n1_:=Aside0.mk (blk_below (g:=gb386) (o:=.cells #[.int .i64 a0_0,.int .i64 a0_1,.int .i64 a0_2,.int .i64 a0_3,.int .i64 a0_4] 24 (0,0)) (by try refine bk ?_;refine blk_far ?_ NB386_410.out _;try refine bk ?_;refine blk_far ?_ NB386_410.out _;try refine bk ?_;refine blk_far ?_ NB386_410.out _;try refine bk ?_;refine blk_far ?_ NB386_410.out _;try refine bk ?_;refine blk_far ?_ NB386_410.out _;try refine bk ?_;exact BK386.out) hb);have n2_:=Aside0.mk (blk_below (g:=gb387) (o:=.cells #[.int .i64 a1_0,.int .i64 a1_1,.int .i64 a1_2] 22 (0,0)) (by try refine bk ?_;refine blk_far ?_ NB387_410.out _;try refine bk ?_;refine blk_far ?_ NB387_410.out _;try refine bk ?_;refine blk_far ?_ NB387_410.out _;try refine bk ?_;refine blk_far ?_ NB387_410.out _;try refine bk ?_;refine blk_far ?_ NB387_410.out _;try refine bk ?_;exact BK387.out) hb);have n3_:=Aside0.mk (blk_below (g:=gb410) (o:=.cells #[.int .i64 t405,.int .i64 t406,.int .i64 t407,.int .i64 t408,.int .i64 t409] 24 (0,0)) (by try refine bk ?_;refine blk_put (cs:=#[.int .i64 t405,.int .i64 t406,.int .i64 t407,.int .i64 t408,.int .i64 0]) ?_ 4 _ rfl;try refine bk ?_;refine blk_put (cs:=#[.int .i64 t405,.int .i64 t406,.int .i64 t407,.int .i64 0,.int .i64 0]) ?_ 3 _ rfl;try refine bk ?_;refine blk_put (cs:=#[.int .i64 t405,.int .i64 t406,.int .i64 0,.int .i64 0,.int .i64 0]) ?_ 2 _ rfl;try refine bk ?_;refine blk_put (cs:=#[.int .i64 t405,.int .i64 0,.int .i64 0,.int .i64 0,.int .i64 0]) ?_ 1 _ rfl;try refine bk ?_;refine blk_put (cs:=#[.int .i64 0,.int .i64 0,.int .i64 0,.int .i64 0,.int .i64 0]) ?_ 0 _ rfl;try refine bk ?_;exact BK410.out) hb);have n4_:=Aside0.mk (below_step (by repeat (first|with_reducible exact HB.out|exact bl HB|refine bs ?_ GE386|refine bs ?_ GE387|refine bs ?_ GE410)) hb);clear HO_10;clear BK386;clear BK387;clear BK410;clear HB;have HO_10:=n0_;have BK386:=n1_;have BK387:=n2_;have BK410:=n3_;have HB:=n4_;clear n0_ n1_ n2_ n3_ n4_;(try clear hb);(try clear hb2);(try clear hk);(try clear hi))|((with_reducible refine gate_dst (N:=17) rfl ?_);refine box_event ?hg (N:=17) ?hd (cs:=#[.int .i64 0,.int .i64 0,.int .i64 0,.int .i64 0,.int .i64 0]) (t:=24) ?hr ?_;(case hd=>rfl);(case hg=>rfl);(case hr=>first|(go_simp;done)|(go_simp;rfl));intro gb416 hg w73 hbox hb;have n0_:=Aside0.mk (Kd.R_below (by first|exact HO_10.out|exact kR HO_10.out) hb);have n1_:=Aside0.mk (blk_below (bk BK386.out) hb);have n2_:=Aside0.mk (blk_below (bk BK387.out) hb);have n3_:=Aside0.mk (blk_below (bk BK410.out) hb);have n4_:=Aside0.mk (below_step (by repeat (first|with_reducible exact HB.out|exact bl HB|refine bs ?_ GE386|refine bs ?_ GE387|refine bs ?_ GE410)) hb);have n5_:=Aside0.mk (hbox);have n6_:=Aside0.mk ((by rw [hg];exact(below_size (by repeat (first|with_reducible exact HB.out|exact bl HB|refine bs ?_ GE386|refine bs ?_ GE387|refine bs ?_ GE410))):w.heap.size≤gb416));have n7_:=Aside0.mk ((by rw [hg];exact(below_size (by repeat (first|with_reducible exact HB.out|exact bl HB|refine bs ?_ GE386|refine bs ?_ GE387|refine bs ?_ GE410))):w.heap.size≤gb416));have n8_:=Aside0.mk ((by rw [hg];exact Nat.ne_of_lt (blk_lt (bk BK386.out)):gb386≠gb416));have n9_:=Aside0.mk ((by rw [hg];exact Nat.ne_of_gt (blk_lt (bk BK386.out)):gb416≠gb386));have n10_:=Aside0.mk ((by rw [hg];exact Nat.ne_of_lt (blk_lt (bk BK387.out)):gb387≠gb416));have n11_:=Aside0.mk ((by rw [hg];exact Nat.ne_of_gt (blk_lt (bk BK387.out)):gb416≠gb387));have n12_:=Aside0.mk ((by rw [hg];exact Nat.ne_of_lt (blk_lt (bk BK410.out)):gb410≠gb416));have n13_:=Aside0.mk ((by rw [hg];exact Nat.ne_of_gt (blk_lt (bk BK410.out)):gb416≠gb410));clear HO_10;clear BK386;clear BK387;clear BK410;clear HB;have HO_10:=n0_;have BK386:=n1_;have BK387:=n2_;have BK410:=n3_;have HB:=n4_;have BK416:=n5_;have GW416:=n6_;have GE416:=n7_;have NB386_416:=n8_;have NB416_386:=n9_;have NB387_416:=n10_;have NB416_387:=n11_;have NB410_416:=n12_;have NB416_410:=n13_;clear n0_ n1_ n2_ n3_ n4_ n5_ n6_ n7_ n8_ n9_ n10_ n11_ n12_ n13_;clear hb hbox hg;have hnb74:=NB416_386.out;have hnc74:=NB386_416.out;have hnb75:=NB416_387.out;have hnc75:=NB387_416.out;have hnb76:=NB416_410.out;have hnc76:=NB410_416.out;have hcz77_0:w73.cell? ⟨gb416,0,none⟩=some (.int .i64 0):=(blk_cell BK416.out 0).trans rfl;have hcz77_1:w73.cell? ⟨gb416,1,none⟩=some (.int .i64 0):=(blk_cell BK416.out 1).trans rfl;have hcz77_2:w73.cell? ⟨gb416,2,none⟩=some (.int .i64 0):=(blk_cell BK416.out 2).trans rfl;have hcz77_3:w73.cell? ⟨gb416,3,none⟩=some (.int .i64 0):=(blk_cell BK416.out 3).trans rfl;have hcz77_4:w73.cell? ⟨gb416,4,none⟩=some (.int .i64 0):=(blk_cell BK416.out 4).trans rfl;have hfz77_0:=blk_frozen BK416.out 0;have hfz77_1:=blk_frozen BK416.out 1;have hfz77_2:=blk_frozen BK416.out 2;have hfz77_3:=blk_frozen BK416.out 3;have hfz77_4:=blk_frozen BK416.out 4))
         (try simp only [Act.put,List.setIfInBounds_toArray,List.set_cons_zero,List.set_cons_succ])
         go_cut [84] (fun v84 wc=>∃ (kq:Nat) (x84_61:Bool),v84=.bool x84_61∧Aside0 (outriggerlaw18_SenseLearns.j3 kq t388 x11_21 x84_61 a0_0 a0_1 a0_2 a0_3 a0_4 a1_0 a1_1 a1_2 t405 t406 t407 t408 t409=some r)∧Aside0 (kq≤kj21)∧Aside0 (wc.heap[gb386]? = some (.cells #[.int .i64 a0_0,.int .i64 a0_1,.int .i64 a0_2,.int .i64 a0_3,.int .i64 a0_4] 24 (0,0)))∧Aside0 (wc.heap[gb387]? = some (.cells #[.int .i64 a1_0,.int .i64 a1_1,.int .i64 a1_2] 22 (0,0)))∧Aside0 (wc.heap[gb410]? = some (.cells #[.int .i64 t405,.int .i64 t406,.int .i64 t407,.int .i64 t408,.int .i64 t409] 24 (0,0)))∧Aside0 (wc.heap[gb416]? = some (.cells #[.int .i64 t411,.int .i64 t412,.int .i64 t413,.int .i64 t414,.int .i64 t415] 24 (0,0)))∧Aside0 (Below w.heap.size w wc))
         case first =>
          have H:=HC62.out
          clear HC62
          replace H:=Option.bind_eq_some_iff.mp H
          obtain⟨t417,A780,H⟩:=H
          replace H:((sense_Sane.f kj21 a0_0 a0_1 a0_2 a0_3 a0_4).bind fun t418=>(if (t417 != t418)=true then (outriggerlaw18_SenseLearns.j3 kj21 t388 x11_21 true a0_0 a0_1 a0_2 a0_3 a0_4 a1_0 a1_1 a1_2 t405 t406 t407 t408 t409) else (if t414=a0_3 then (outriggerlaw18_SenseLearns.j3 kj21 t388 x11_21 (t415 != a0_4) a0_0 a0_1 a0_2 a0_3 a0_4 a1_0 a1_1 a1_2 t405 t406 t407 t408 t409) else (outriggerlaw18_SenseLearns.j3 kj21 t388 x11_21 true a0_0 a0_1 a0_2 a0_3 a0_4 a1_0 a1_1 a1_2 t405 t406 t407 t408 t409))))=some r:=H
          have A78:=Aside0.mk A780
          clear A780
          replace H:=Option.bind_eq_some_iff.mp H
          obtain⟨t418,A790,H⟩:=H
          replace H:(if (t417 != t418)=true then (outriggerlaw18_SenseLearns.j3 kj21 t388 x11_21 true a0_0 a0_1 a0_2 a0_3 a0_4 a1_0 a1_1 a1_2 t405 t406 t407 t408 t409) else (if t414=a0_3 then (outriggerlaw18_SenseLearns.j3 kj21 t388 x11_21 (t415 != a0_4) a0_0 a0_1 a0_2 a0_3 a0_4 a1_0 a1_1 a1_2 t405 t406 t407 t408 t409) else (outriggerlaw18_SenseLearns.j3 kj21 t388 x11_21 true a0_0 a0_1 a0_2 a0_3 a0_4 a1_0 a1_1 a1_2 t405 t406 t407 t408 t409)))=some r:=H
          have A79:=Aside0.mk A790
          clear A790
          by_cases c80:(t417 != t418)=true
          ·rw [if_pos c80] at H
           have c80b0:(t417 != t418)=true:=c80
           (try (have c80b1:decide (t417=t418)=false:=by simpa using c80))
           (try (have c80b2:(t417 == t418)=false:=by simpa using c80))
           (try (have c80b3:¬(t417=t418):=by simpa using c80))
           clear c80
           (first|rw [c80b0]|(simp only [i64_w,i32_w];rw [c80b0])|skip)
           have H':=Aside0.mk H
           clear H
           try go_wp2
           try (refine wp_loop_rounds 4 ?_)
           repeat (rw [rounds_succ];try go_wp2)
           have n0_:Aside0 (Kd.R k22 22 (((((w73.setCell ⟨gb416,0,none⟩ (.int .i64 t411)).setCell ⟨gb416,1,none⟩ (.int .i64 t412)).setCell ⟨gb416,2,none⟩ (.int .i64 t413)).setCell ⟨gb416,3,none⟩ (.int .i64 t414)).setCell ⟨gb416,4,none⟩ (.int .i64 t415)) w.heap.size (fun k_=>k_≠gb387) (.slice Ao65 x10_2.length co65) x10_2):=⟨by (with_reducible repeat (first|apply Kd.R_alloc|apply Kd.R_drewN|apply Kd.R_drew));exact Kd.R_mono (Kd.R_far (p:=⟨gb416,4,none⟩) (Kd.R_far (p:=⟨gb416,3,none⟩) (Kd.R_far (p:=⟨gb416,2,none⟩) (Kd.R_far (p:=⟨gb416,1,none⟩) (Kd.R_far (p:=⟨gb416,0,none⟩) (Kd.R_types HO_10.out BK416.out (by decide)) (fun _ hk=>hk.2) (.int .i64 t411)) (fun _ hk=>hk.2) (.int .i64 t412)) (fun _ hk=>hk.2) (.int .i64 t413)) (fun _ hk=>hk.2) (.int .i64 t414)) (fun _ hk=>hk.2) (.int .i64 t415)) (fun _ hk=>hk.1)⟩
           have n1_:Aside0 ((((((w73.setCell ⟨gb416,0,none⟩ (.int .i64 t411)).setCell ⟨gb416,1,none⟩ (.int .i64 t412)).setCell ⟨gb416,2,none⟩ (.int .i64 t413)).setCell ⟨gb416,3,none⟩ (.int .i64 t414)).setCell ⟨gb416,4,none⟩ (.int .i64 t415)).heap[gb386]? = some (.cells #[.int .i64 a0_0,.int .i64 a0_1,.int .i64 a0_2,.int .i64 a0_3,.int .i64 a0_4] 24 (0,0))):=⟨by try refine bk ?_;refine blk_far ?_ NB386_416.out _;try refine bk ?_;refine blk_far ?_ NB386_416.out _;try refine bk ?_;refine blk_far ?_ NB386_416.out _;try refine bk ?_;refine blk_far ?_ NB386_416.out _;try refine bk ?_;refine blk_far ?_ NB386_416.out _;try refine bk ?_;exact BK386.out⟩
           have n2_:Aside0 ((((((w73.setCell ⟨gb416,0,none⟩ (.int .i64 t411)).setCell ⟨gb416,1,none⟩ (.int .i64 t412)).setCell ⟨gb416,2,none⟩ (.int .i64 t413)).setCell ⟨gb416,3,none⟩ (.int .i64 t414)).setCell ⟨gb416,4,none⟩ (.int .i64 t415)).heap[gb387]? = some (.cells #[.int .i64 a1_0,.int .i64 a1_1,.int .i64 a1_2] 22 (0,0))):=⟨by try refine bk ?_;refine blk_far ?_ NB387_416.out _;try refine bk ?_;refine blk_far ?_ NB387_416.out _;try refine bk ?_;refine blk_far ?_ NB387_416.out _;try refine bk ?_;refine blk_far ?_ NB387_416.out _;try refine bk ?_;refine blk_far ?_ NB387_416.out _;try refine bk ?_;exact BK387.out⟩
           have n3_:Aside0 ((((((w73.setCell ⟨gb416,0,none⟩ (.int .i64 t411)).setCell ⟨gb416,1,none⟩ (.int .i64 t412)).setCell ⟨gb416,2,none⟩ (.int .i64 t413)).setCell ⟨gb416,3,none⟩ (.int .i64 t414)).setCell ⟨gb416,4,none⟩ (.int .i64 t415)).heap[gb410]? = some (.cells #[.int .i64 t405,.int .i64 t406,.int .i64 t407,.int .i64 t408,.int .i64 t409] 24 (0,0))):=⟨by try refine bk ?_;refine blk_far ?_ NB410_416.out _;try refine bk ?_;refine blk_far ?_ NB410_416.out _;try refine bk ?_;refine blk_far ?_ NB410_416.out _;try refine bk ?_;refine blk_far ?_ NB410_416.out _;try refine bk ?_;refine blk_far ?_ NB410_416.out _;try refine bk ?_;exact BK410.out⟩
           have n4_:Aside0 ((((((w73.setCell ⟨gb416,0,none⟩ (.int .i64 t411)).setCell ⟨gb416,1,none⟩ (.int .i64 t412)).setCell ⟨gb416,2,none⟩ (.int .i64 t413)).setCell ⟨gb416,3,none⟩ (.int .i64 t414)).setCell ⟨gb416,4,none⟩ (.int .i64 t415)).heap[gb416]? = some (.cells #[.int .i64 t411,.int .i64 t412,.int .i64 t413,.int .i64 t414,.int .i64 t415] 24 (0,0))):=⟨by try refine bk ?_;refine blk_put (cs:=#[.int .i64 t411,.int .i64 t412,.int .i64 t413,.int .i64 t414,.int .i64 0]) ?_ 4 _ rfl;try refine bk ?_;refine blk_put (cs:=#[.int .i64 t411,.int .i64 t412,.int .i64 t413,.int .i64 0,.int .i64 0]) ?_ 3 _ rfl;try refine bk ?_;refine blk_put (cs:=#[.int .i64 t411,.int .i64 t412,.int .i64 0,.int .i64 0,.int .i64 0]) ?_ 2 _ rfl;try refine bk ?_;refine blk_put (cs:=#[.int .i64 t411,.int .i64 0,.int .i64 0,.int .i64 0,.int .i64 0]) ?_ 1 _ rfl;try refine bk ?_;refine blk_put (cs:=#[.int .i64 0,.int .i64 0,.int .i64 0,.int .i64 0,.int .i64 0]) ?_ 0 _ rfl;try refine bk ?_;exact BK416.out⟩
           have n5_:Aside0 (Below w.heap.size w (((((w73.setCell ⟨gb416,0,none⟩ (.int .i64 t411)).setCell ⟨gb416,1,none⟩ (.int .i64 t412)).setCell ⟨gb416,2,none⟩ (.int .i64 t413)).setCell ⟨gb416,3,none⟩ (.int .i64 t414)).setCell ⟨gb416,4,none⟩ (.int .i64 t415))):=⟨by repeat (first|with_reducible exact HB.out|exact bl HB|refine bs ?_ GE386|refine bs ?_ GE387|refine bs ?_ GE410|refine bs ?_ GE416)⟩
           (try clear HO_10)
           (try clear BK386)
           (try clear BK387)
           (try clear BK410)
           (try clear BK416)
           (try clear HB)
           generalize (((((w73.setCell ⟨gb416,0,none⟩ (.int .i64 t411)).setCell ⟨gb416,1,none⟩ (.int .i64 t412)).setCell ⟨gb416,2,none⟩ (.int .i64 t413)).setCell ⟨gb416,3,none⟩ (.int .i64 t414)).setCell ⟨gb416,4,none⟩ (.int .i64 t415))=w81 at n0_ n1_ n2_ n3_ n4_ n5_ ⊢
           have HO_10:=n0_
           have BK386:=n1_
           have BK387:=n2_
           have BK410:=n3_
           have BK416:=n4_
           have HB:=n5_
           clear n0_ n1_ n2_ n3_ n4_ n5_
           have n0_:=Aside0.mk (Kd.R_drew HO_10.out)
           have n1_:=Aside0.mk (blk_drew BK386.out)
           have n2_:=Aside0.mk (blk_drew BK387.out)
           have n3_:=Aside0.mk (blk_drew BK410.out)
           have n4_:=Aside0.mk (blk_drew BK416.out)
           have n5_:=Aside0.mk (below_drew1 HB.out)
           clear HO_10
           clear BK386
           clear BK387
           clear BK410
           clear BK416
           clear HB
           have HO_10:=n0_
           have BK386:=n1_
           have BK387:=n2_
           have BK410:=n3_
           have BK416:=n4_
           have HB:=n5_
           clear n0_ n1_ n2_ n3_ n4_ n5_
           refine start_ (n:=19) (S:=fun w'=>w'.cell? ⟨gb416,0,none⟩=some (.int .i64 t411)∧w'.cell? ⟨gb416,1,none⟩=some (.int .i64 t412)∧w'.cell? ⟨gb416,2,none⟩=some (.int .i64 t413)∧w'.cell? ⟨gb416,3,none⟩=some (.int .i64 t414)∧w'.cell? ⟨gb416,4,none⟩=some (.int .i64 t415)∧w'.cell? ⟨gb386,0,none⟩=some (.int .i64 a0_0)∧w'.cell? ⟨gb386,1,none⟩=some (.int .i64 a0_1)∧w'.cell? ⟨gb386,2,none⟩=some (.int .i64 a0_2)∧w'.cell? ⟨gb386,3,none⟩=some (.int .i64 a0_3)∧w'.cell? ⟨gb386,4,none⟩=some (.int .i64 a0_4)) (ds:=[]) #[ff,ff,ff,ff,ff,ff,ff,ff,ff,ff,ff,ff,ff,ff,ff,ff,ff,ff,ff] (by kernel_rfl) rfl rfl ⟨(blk_cell BK416.out 0).trans rfl,(blk_cell BK416.out 1).trans rfl,(blk_cell BK416.out 2).trans rfl,(blk_cell BK416.out 3).trans rfl,(blk_cell BK416.out 4).trans rfl,(blk_cell BK386.out 0).trans rfl,(blk_cell BK386.out 1).trans rfl,(blk_cell BK386.out 2).trans rfl,(blk_cell BK386.out 3).trans rfl,(blk_cell BK386.out 4).trans rfl⟩ (fun hHeld=>?_);refine with_tabW outriggerlaw18_SenseLearns.tab17 outriggerlaw18_SenseLearns.bits17 (fun HT_ HW_=>?_)
           generalize w81.drew=w82 at HO_10 BK386 BK387 BK410 BK416 HB hHeld ⊢
           refine take_ (i:=0) (N:=some 66) (v:=?_) (a':=?_) #[tt,ff,ff,ff,ff,ff,ff,ff,ff,ff,ff,ff,ff,ff,ff,ff,ff,ff,ff] rfl rfl (take_ofW HT_.out HW_.out (by kernel_rfl)) (fun _ _ _ h=>h) (Or.inl ⟨by rfl,?_⟩) hHeld ?_ ?_
           rotate_left
           ·rintro w' ⟨s0,s1,s2,s3,s4,s5,s6,s7,s8,s9⟩
            go_simp
            with_reducible rfl
           rotate_left
           ·simp only [Act.put,List.setIfInBounds_toArray,List.set_cons_zero,List.set_cons_succ,i64_w,i32_w]
            rfl
           refine take_ (i:=2) (N:=some 68) (v:=?_) (a':=?_) #[tt,ff,tt,ff,ff,ff,ff,ff,ff,ff,ff,ff,ff,ff,ff,ff,ff,ff,ff] rfl rfl (take_ofW HT_.out HW_.out (by kernel_rfl)) (fun _ _ _ h=>h) (Or.inl ⟨by rfl,?_⟩) hHeld ?_ ?_
           rotate_left
           ·rintro w' ⟨s0,s1,s2,s3,s4,s5,s6,s7,s8,s9⟩
            go_simp
            with_reducible rfl
           rotate_left
           ·simp only [Act.put,List.setIfInBounds_toArray,List.set_cons_zero,List.set_cons_succ,i64_w,i32_w]
            rfl
           refine one_ (i:=1) (N:=some 67) #[tt,tt,tt,ff,ff,ff,ff,ff,ff,ff,ff,ff,ff,ff,ff,ff,ff,ff,ff] rfl rfl (one_of HT_.out (by kernel_rfl)) (by decide) (fun K hK=>?_)
           refine goes_ Try.func13 (by kernel_rfl) rfl #[.agg #[.int .i64 t411,.int .i64 t412,.int .i64 t413,.int .i64 t414,.int .i64 t415]] (by rfl) rfl rfl (by exact mA _ _) ?_
           with_reducible refine(sense_Sane.calls kj21 t411 t412 t413 t414 t415 t417 _ A78.out).mono ?_
           rintro e w83 ⟨rfl,hb⟩
           refine⟨_,rfl,?_⟩
           have n0_:=Aside0.mk (Kd.R_below (by first|exact HO_10.out|exact kR HO_10.out) hb)
           have n1_:=Aside0.mk (blk_below (bk BK386.out) hb)
           have n2_:=Aside0.mk (blk_below (bk BK387.out) hb)
           have n3_:=Aside0.mk (blk_below (bk BK410.out) hb)
           have n4_:=Aside0.mk (blk_below (bk BK416.out) hb)
           have n5_:=Aside0.mk (below_step (by repeat (first|with_reducible exact HB.out|exact bl HB|refine bs ?_ GE386|refine bs ?_ GE387|refine bs ?_ GE410|refine bs ?_ GE416)) hb)
           clear HO_10
           clear BK386
           clear BK387
           clear BK410
           clear BK416
           clear HB
           have HO_10:=n0_
           have BK386:=n1_
           have BK387:=n2_
           have BK410:=n3_
           have BK416:=n4_
           have HB:=n5_
           clear n0_ n1_ n2_ n3_ n4_ n5_
           (try clear hb)
           (try clear hb2)
           (try clear hk)
           (try clear hi)
           refine hK.out _ _ ⟨(blk_cell BK416.out 0).trans rfl,(blk_cell BK416.out 1).trans rfl,(blk_cell BK416.out 2).trans rfl,(blk_cell BK416.out 3).trans rfl,(blk_cell BK416.out 4).trans rfl,(blk_cell BK386.out 0).trans rfl,(blk_cell BK386.out 1).trans rfl,(blk_cell BK386.out 2).trans rfl,(blk_cell BK386.out 3).trans rfl,(blk_cell BK386.out 4).trans rfl⟩ (fun hHeld=>?_)
           clear hK K
           refine norm_ (a':=?_) ?_ ?_
           rotate_left
           ·show Act.put _ (some 67) _=_
            simp only [Act.put,List.setIfInBounds_toArray,List.set_cons_zero,List.set_cons_succ,i64_w,i32_w]
            rfl
           refine one_ (i:=3) (N:=some 69) #[tt,tt,tt,tt,ff,ff,ff,ff,ff,ff,ff,ff,ff,ff,ff,ff,ff,ff,ff] rfl rfl (one_of HT_.out (by kernel_rfl)) (by decide) (fun K hK=>?_)
           refine goes_ Try.func13 (by kernel_rfl) rfl #[.agg #[.int .i64 a0_0,.int .i64 a0_1,.int .i64 a0_2,.int .i64 a0_3,.int .i64 a0_4]] (by rfl) rfl rfl (by exact mA _ _) ?_
           with_reducible refine(sense_Sane.calls kj21 a0_0 a0_1 a0_2 a0_3 a0_4 t418 _ A79.out).mono ?_
           rintro e w84 ⟨rfl,hb⟩
           refine⟨_,rfl,?_⟩
           have n0_:=Aside0.mk (Kd.R_below (by first|exact HO_10.out|exact kR HO_10.out) hb)
           have n1_:=Aside0.mk (blk_below (bk BK386.out) hb)
           have n2_:=Aside0.mk (blk_below (bk BK387.out) hb)
           have n3_:=Aside0.mk (blk_below (bk BK410.out) hb)
           have n4_:=Aside0.mk (blk_below (bk BK416.out) hb)
           have n5_:=Aside0.mk (below_step (by repeat (first|with_reducible exact HB.out|exact bl HB|refine bs ?_ GE386|refine bs ?_ GE387|refine bs ?_ GE410|refine bs ?_ GE416)) hb)
           clear HO_10
           clear BK386
           clear BK387
           clear BK410
           clear BK416
           clear HB
           have HO_10:=n0_
           have BK386:=n1_
           have BK387:=n2_
           have BK410:=n3_
           have BK416:=n4_
           have HB:=n5_
           clear n0_ n1_ n2_ n3_ n4_ n5_
           (try clear hb)
           (try clear hb2)
           (try clear hk)
           (try clear hi)
           refine hK.out _ _ ⟨(blk_cell BK416.out 0).trans rfl,(blk_cell BK416.out 1).trans rfl,(blk_cell BK416.out 2).trans rfl,(blk_cell BK416.out 3).trans rfl,(blk_cell BK416.out 4).trans rfl,(blk_cell BK386.out 0).trans rfl,(blk_cell BK386.out 1).trans rfl,(blk_cell BK386.out 2).trans rfl,(blk_cell BK386.out 3).trans rfl,(blk_cell BK386.out 4).trans rfl⟩ (fun hHeld=>?_)
           clear hK K
           refine norm_ (a':=?_) ?_ ?_
           rotate_left
           ·show Act.put _ (some 69) _=_
            simp only [Act.put,List.setIfInBounds_toArray,List.set_cons_zero,List.set_cons_succ,i64_w,i32_w]
            rfl
           refine pure_ (i:=4) (N:=some 70) (v:=?_) (a':=?_) #[tt,tt,tt,tt,tt,ff,ff,ff,ff,ff,ff,ff,ff,ff,ff,ff,ff,ff,ff] rfl rfl (any_of HT_.out (by kernel_rfl)) (fun _ _ _ h=>h) (Or.inl ⟨by rfl,?_⟩) ?_ ?_
           rotate_left
           ·intro w'
            go_simp
            with_reducible rfl
           rotate_left
           ·simp only [Act.put,List.setIfInBounds_toArray,List.set_cons_zero,List.set_cons_succ,i64_w,i32_w]
            rfl
           refine pure_ (i:=5) (N:=some 71) (v:=?_) (a':=?_) #[tt,tt,tt,tt,tt,tt,ff,ff,ff,ff,ff,ff,ff,ff,ff,ff,ff,ff,ff] rfl rfl (any_of HT_.out (by kernel_rfl)) (fun _ _ _ h=>h) (Or.inl ⟨by rfl,?_⟩) ?_ ?_
           rotate_left
           ·intro w'
            go_simp
            with_reducible rfl
           rotate_left
           ·simp only [Act.put,List.setIfInBounds_toArray,List.set_cons_zero,List.set_cons_succ,i64_w,i32_w]
            rfl
           refine pure_ (i:=6) (N:=some 72) (v:=undef) (a':=?_) #[tt,tt,tt,tt,tt,tt,tt,ff,ff,ff,ff,ff,ff,ff,ff,ff,ff,ff,ff] rfl rfl (any_of HT_.out (by kernel_rfl)) (fun _ _ _ h=>h) (Or.inr ⟨by rfl,rfl⟩) ?_ ?_
           rotate_left
           ·simp only [Act.put,List.setIfInBounds_toArray,List.set_cons_zero,List.set_cons_succ,i64_w,i32_w]
            rfl
           refine pure_ (i:=7) (N:=some 73) (v:=undef) (a':=?_) #[tt,tt,tt,tt,tt,tt,tt,tt,ff,ff,ff,ff,ff,ff,ff,ff,ff,ff,ff] rfl rfl (any_of HT_.out (by kernel_rfl)) (fun _ _ _ h=>h) (Or.inr ⟨by rfl,rfl⟩) ?_ ?_
           rotate_left
           ·simp only [Act.put,List.setIfInBounds_toArray,List.set_cons_zero,List.set_cons_succ,i64_w,i32_w]
            rfl
           refine pure_ (i:=8) (N:=some 74) (v:=undef) (a':=?_) #[tt,tt,tt,tt,tt,tt,tt,tt,tt,ff,ff,ff,ff,ff,ff,ff,ff,ff,ff] rfl rfl (any_of HT_.out (by kernel_rfl)) (fun _ _ _ h=>h) (Or.inr ⟨by rfl,rfl⟩) ?_ ?_
           rotate_left
           ·simp only [Act.put,List.setIfInBounds_toArray,List.set_cons_zero,List.set_cons_succ,i64_w,i32_w]
            rfl
           refine pure_ (i:=9) (N:=some 75) (v:=undef) (a':=?_) #[tt,tt,tt,tt,tt,tt,tt,tt,tt,tt,ff,ff,ff,ff,ff,ff,ff,ff,ff] rfl rfl (any_of HT_.out (by kernel_rfl)) (fun _ _ _ h=>h) (Or.inr ⟨by rfl,rfl⟩) ?_ ?_
           rotate_left
           ·simp only [Act.put,List.setIfInBounds_toArray,List.set_cons_zero,List.set_cons_succ,i64_w,i32_w]
            rfl
           refine pure_ (i:=10) (N:=some 76) (v:=undef) (a':=?_) #[tt,tt,tt,tt,tt,tt,tt,tt,tt,tt,tt,ff,ff,ff,ff,ff,ff,ff,ff] rfl rfl (any_of HT_.out (by kernel_rfl)) (fun _ _ _ h=>h) (Or.inr ⟨by rfl,rfl⟩) ?_ ?_
           rotate_left
           ·simp only [Act.put,List.setIfInBounds_toArray,List.set_cons_zero,List.set_cons_succ,i64_w,i32_w]
            rfl
           refine pure_ (i:=11) (N:=some 77) (v:=?_) (a':=?_) #[tt,tt,tt,tt,tt,tt,tt,tt,tt,tt,tt,tt,ff,ff,ff,ff,ff,ff,ff] rfl rfl (any_of HT_.out (by kernel_rfl)) (fun _ _ _ h=>h) (Or.inl ⟨by rfl,?_⟩) ?_ ?_
           rotate_left
           ·intro w'
            go_simp
            with_reducible rfl
           rotate_left
           ·simp only [Act.put,List.setIfInBounds_toArray,List.set_cons_zero,List.set_cons_succ,i64_w,i32_w]
            rfl
           refine pure_ (i:=12) (N:=some 78) (v:=?_) (a':=?_) #[tt,tt,tt,tt,tt,tt,tt,tt,tt,tt,tt,tt,tt,ff,ff,ff,ff,ff,ff] rfl rfl (any_of HT_.out (by kernel_rfl)) (fun _ _ _ h=>h) (Or.inl ⟨by rfl,?_⟩) ?_ ?_
           rotate_left
           ·intro w'
            go_simp
            with_reducible rfl
           rotate_left
           ·simp only [Act.put,List.setIfInBounds_toArray,List.set_cons_zero,List.set_cons_succ,i64_w,i32_w]
            rfl
           refine pure_ (i:=13) (N:=some 79) (v:=undef) (a':=?_) #[tt,tt,tt,tt,tt,tt,tt,tt,tt,tt,tt,tt,tt,tt,ff,ff,ff,ff,ff] rfl rfl (any_of HT_.out (by kernel_rfl)) (fun _ _ _ h=>h) (Or.inr ⟨by rfl,rfl⟩) ?_ ?_
           rotate_left
           ·simp only [Act.put,List.setIfInBounds_toArray,List.set_cons_zero,List.set_cons_succ,i64_w,i32_w]
            rfl
           refine pure_ (i:=14) (N:=some 80) (v:=undef) (a':=?_) #[tt,tt,tt,tt,tt,tt,tt,tt,tt,tt,tt,tt,tt,tt,tt,ff,ff,ff,ff] rfl rfl (any_of HT_.out (by kernel_rfl)) (fun _ _ _ h=>h) (Or.inr ⟨by rfl,rfl⟩) ?_ ?_
           rotate_left
           ·simp only [Act.put,List.setIfInBounds_toArray,List.set_cons_zero,List.set_cons_succ,i64_w,i32_w]
            rfl
           refine pure_ (i:=15) (N:=some 81) (v:=undef) (a':=?_) #[tt,tt,tt,tt,tt,tt,tt,tt,tt,tt,tt,tt,tt,tt,tt,tt,ff,ff,ff] rfl rfl (any_of HT_.out (by kernel_rfl)) (fun _ _ _ h=>h) (Or.inr ⟨by rfl,rfl⟩) ?_ ?_
           rotate_left
           ·simp only [Act.put,List.setIfInBounds_toArray,List.set_cons_zero,List.set_cons_succ,i64_w,i32_w]
            rfl
           refine pure_ (i:=16) (N:=some 82) (v:=undef) (a':=?_) #[tt,tt,tt,tt,tt,tt,tt,tt,tt,tt,tt,tt,tt,tt,tt,tt,tt,ff,ff] rfl rfl (any_of HT_.out (by kernel_rfl)) (fun _ _ _ h=>h) (Or.inr ⟨by rfl,rfl⟩) ?_ ?_
           rotate_left
           ·simp only [Act.put,List.setIfInBounds_toArray,List.set_cons_zero,List.set_cons_succ,i64_w,i32_w]
            rfl
           refine pure_ (i:=17) (N:=some 83) (v:=undef) (a':=?_) #[tt,tt,tt,tt,tt,tt,tt,tt,tt,tt,tt,tt,tt,tt,tt,tt,tt,tt,ff] rfl rfl (any_of HT_.out (by kernel_rfl)) (fun _ _ _ h=>h) (Or.inr ⟨by rfl,rfl⟩) ?_ ?_
           rotate_left
           ·simp only [Act.put,List.setIfInBounds_toArray,List.set_cons_zero,List.set_cons_succ,i64_w,i32_w]
            rfl
           refine pure_ (i:=18) (N:=some 84) (v:=?_) (a':=?_) #[tt,tt,tt,tt,tt,tt,tt,tt,tt,tt,tt,tt,tt,tt,tt,tt,tt,tt,tt] rfl rfl (any_of HT_.out (by kernel_rfl)) (fun _ _ _ h=>h) (Or.inl ⟨by rfl,?_⟩) ?_ ?_
           rotate_left
           ·intro w'
            go_simp
            with_reducible rfl
           rotate_left
           ·simp only [Act.put,List.setIfInBounds_toArray,List.set_cons_zero,List.set_cons_succ,i64_w,i32_w]
            rfl
           refine done_ (done_of HT_.out (by kernel_rfl)) ?_
           try go_wp2
           try (refine wp_loop_rounds 4 ?_)
           repeat (rw [rounds_succ];try go_wp2)
           go_meet
           case rel=>exact⟨_,(true),(by first|rfl|(simp;done)|(simp [*];done)),H',⟨by have:=HJ5.out;have:=HK2.out;have:=HJ21.out;first|omega|exact Nat.le_refl _⟩,⟨by first|exact BK386.out|exact bk BK386.out⟩,⟨by first|exact BK387.out|exact bk BK387.out⟩,⟨by first|exact BK410.out|exact bk BK410.out⟩,⟨by first|exact BK416.out|exact bk BK416.out⟩,⟨by repeat (first|with_reducible exact HB.out|exact bl HB|refine bs ?_ GE386|refine bs ?_ GE387|refine bs ?_ GE410|refine bs ?_ GE416)⟩⟩
          ·rw [if_neg c80] at H
           have c80b0:(t417 != t418)=false:=by simpa using c80
           (try (have c80b1:decide (t417=t418)=true:=by simpa using c80))
           (try (have c80b2:(t417 == t418)=true:=by simpa using c80))
           clear c80
           (first|rw [c80b0]|(simp only [i64_w,i32_w];rw [c80b0])|skip)
           by_cases c85:t414=a0_3
           ·rw [if_pos c85] at H
            have c85b0:(t414 == a0_3)=true:=beq_iff_eq.mpr c85
            have c85b1:(t414 != a0_3)=false:=bne_eq_false_iff_eq.mpr c85
            clear c85
            have H':=Aside0.mk H
            clear H
            try go_wp2
            try (refine wp_loop_rounds 4 ?_)
            repeat (rw [rounds_succ];try go_wp2)
            have n0_:Aside0 (Kd.R k22 22 (((((w73.setCell ⟨gb416,0,none⟩ (.int .i64 t411)).setCell ⟨gb416,1,none⟩ (.int .i64 t412)).setCell ⟨gb416,2,none⟩ (.int .i64 t413)).setCell ⟨gb416,3,none⟩ (.int .i64 t414)).setCell ⟨gb416,4,none⟩ (.int .i64 t415)) w.heap.size (fun k_=>k_≠gb387) (.slice Ao65 x10_2.length co65) x10_2):=⟨by (with_reducible repeat (first|apply Kd.R_alloc|apply Kd.R_drewN|apply Kd.R_drew));exact Kd.R_mono (Kd.R_far (p:=⟨gb416,4,none⟩) (Kd.R_far (p:=⟨gb416,3,none⟩) (Kd.R_far (p:=⟨gb416,2,none⟩) (Kd.R_far (p:=⟨gb416,1,none⟩) (Kd.R_far (p:=⟨gb416,0,none⟩) (Kd.R_types HO_10.out BK416.out (by decide)) (fun _ hk=>hk.2) (.int .i64 t411)) (fun _ hk=>hk.2) (.int .i64 t412)) (fun _ hk=>hk.2) (.int .i64 t413)) (fun _ hk=>hk.2) (.int .i64 t414)) (fun _ hk=>hk.2) (.int .i64 t415)) (fun _ hk=>hk.1)⟩
            have n1_:Aside0 ((((((w73.setCell ⟨gb416,0,none⟩ (.int .i64 t411)).setCell ⟨gb416,1,none⟩ (.int .i64 t412)).setCell ⟨gb416,2,none⟩ (.int .i64 t413)).setCell ⟨gb416,3,none⟩ (.int .i64 t414)).setCell ⟨gb416,4,none⟩ (.int .i64 t415)).heap[gb386]? = some (.cells #[.int .i64 a0_0,.int .i64 a0_1,.int .i64 a0_2,.int .i64 a0_3,.int .i64 a0_4] 24 (0,0))):=⟨by try refine bk ?_;refine blk_far ?_ NB386_416.out _;try refine bk ?_;refine blk_far ?_ NB386_416.out _;try refine bk ?_;refine blk_far ?_ NB386_416.out _;try refine bk ?_;refine blk_far ?_ NB386_416.out _;try refine bk ?_;refine blk_far ?_ NB386_416.out _;try refine bk ?_;exact BK386.out⟩
            have n2_:Aside0 ((((((w73.setCell ⟨gb416,0,none⟩ (.int .i64 t411)).setCell ⟨gb416,1,none⟩ (.int .i64 t412)).setCell ⟨gb416,2,none⟩ (.int .i64 t413)).setCell ⟨gb416,3,none⟩ (.int .i64 t414)).setCell ⟨gb416,4,none⟩ (.int .i64 t415)).heap[gb387]? = some (.cells #[.int .i64 a1_0,.int .i64 a1_1,.int .i64 a1_2] 22 (0,0))):=⟨by try refine bk ?_;refine blk_far ?_ NB387_416.out _;try refine bk ?_;refine blk_far ?_ NB387_416.out _;try refine bk ?_;refine blk_far ?_ NB387_416.out _;try refine bk ?_;refine blk_far ?_ NB387_416.out _;try refine bk ?_;refine blk_far ?_ NB387_416.out _;try refine bk ?_;exact BK387.out⟩
            have n3_:Aside0 ((((((w73.setCell ⟨gb416,0,none⟩ (.int .i64 t411)).setCell ⟨gb416,1,none⟩ (.int .i64 t412)).setCell ⟨gb416,2,none⟩ (.int .i64 t413)).setCell ⟨gb416,3,none⟩ (.int .i64 t414)).setCell ⟨gb416,4,none⟩ (.int .i64 t415)).heap[gb410]? = some (.cells #[.int .i64 t405,.int .i64 t406,.int .i64 t407,.int .i64 t408,.int .i64 t409] 24 (0,0))):=⟨by try refine bk ?_;refine blk_far ?_ NB410_416.out _;try refine bk ?_;refine blk_far ?_ NB410_416.out _;try refine bk ?_;refine blk_far ?_ NB410_416.out _;try refine bk ?_;refine blk_far ?_ NB410_416.out _;try refine bk ?_;refine blk_far ?_ NB410_416.out _;try refine bk ?_;exact BK410.out⟩
            have n4_:Aside0 ((((((w73.setCell ⟨gb416,0,none⟩ (.int .i64 t411)).setCell ⟨gb416,1,none⟩ (.int .i64 t412)).setCell ⟨gb416,2,none⟩ (.int .i64 t413)).setCell ⟨gb416,3,none⟩ (.int .i64 t414)).setCell ⟨gb416,4,none⟩ (.int .i64 t415)).heap[gb416]? = some (.cells #[.int .i64 t411,.int .i64 t412,.int .i64 t413,.int .i64 t414,.int .i64 t415] 24 (0,0))):=⟨by try refine bk ?_;refine blk_put (cs:=#[.int .i64 t411,.int .i64 t412,.int .i64 t413,.int .i64 t414,.int .i64 0]) ?_ 4 _ rfl;try refine bk ?_;refine blk_put (cs:=#[.int .i64 t411,.int .i64 t412,.int .i64 t413,.int .i64 0,.int .i64 0]) ?_ 3 _ rfl;try refine bk ?_;refine blk_put (cs:=#[.int .i64 t411,.int .i64 t412,.int .i64 0,.int .i64 0,.int .i64 0]) ?_ 2 _ rfl;try refine bk ?_;refine blk_put (cs:=#[.int .i64 t411,.int .i64 0,.int .i64 0,.int .i64 0,.int .i64 0]) ?_ 1 _ rfl;try refine bk ?_;refine blk_put (cs:=#[.int .i64 0,.int .i64 0,.int .i64 0,.int .i64 0,.int .i64 0]) ?_ 0 _ rfl;try refine bk ?_;exact BK416.out⟩
            have n5_:Aside0 (Below w.heap.size w (((((w73.setCell ⟨gb416,0,none⟩ (.int .i64 t411)).setCell ⟨gb416,1,none⟩ (.int .i64 t412)).setCell ⟨gb416,2,none⟩ (.int .i64 t413)).setCell ⟨gb416,3,none⟩ (.int .i64 t414)).setCell ⟨gb416,4,none⟩ (.int .i64 t415))):=⟨by repeat (first|with_reducible exact HB.out|exact bl HB|refine bs ?_ GE386|refine bs ?_ GE387|refine bs ?_ GE410|refine bs ?_ GE416)⟩
            (try clear HO_10)
            (try clear BK386)
            (try clear BK387)
            (try clear BK410)
            (try clear BK416)
            (try clear HB)
            generalize (((((w73.setCell ⟨gb416,0,none⟩ (.int .i64 t411)).setCell ⟨gb416,1,none⟩ (.int .i64 t412)).setCell ⟨gb416,2,none⟩ (.int .i64 t413)).setCell ⟨gb416,3,none⟩ (.int .i64 t414)).setCell ⟨gb416,4,none⟩ (.int .i64 t415))=w86 at n0_ n1_ n2_ n3_ n4_ n5_ ⊢
            have HO_10:=n0_
            have BK386:=n1_
            have BK387:=n2_
            have BK410:=n3_
            have BK416:=n4_
            have HB:=n5_
            clear n0_ n1_ n2_ n3_ n4_ n5_
            have n0_:=Aside0.mk (Kd.R_drew HO_10.out)
            have n1_:=Aside0.mk (blk_drew BK386.out)
            have n2_:=Aside0.mk (blk_drew BK387.out)
            have n3_:=Aside0.mk (blk_drew BK410.out)
            have n4_:=Aside0.mk (blk_drew BK416.out)
            have n5_:=Aside0.mk (below_drew1 HB.out)
            clear HO_10
            clear BK386
            clear BK387
            clear BK410
            clear BK416
            clear HB
            have HO_10:=n0_
            have BK386:=n1_
            have BK387:=n2_
            have BK410:=n3_
            have BK416:=n4_
            have HB:=n5_
            clear n0_ n1_ n2_ n3_ n4_ n5_
            refine start_ (n:=19) (S:=fun w'=>w'.cell? ⟨gb416,0,none⟩=some (.int .i64 t411)∧w'.cell? ⟨gb416,1,none⟩=some (.int .i64 t412)∧w'.cell? ⟨gb416,2,none⟩=some (.int .i64 t413)∧w'.cell? ⟨gb416,3,none⟩=some (.int .i64 t414)∧w'.cell? ⟨gb416,4,none⟩=some (.int .i64 t415)∧w'.cell? ⟨gb386,0,none⟩=some (.int .i64 a0_0)∧w'.cell? ⟨gb386,1,none⟩=some (.int .i64 a0_1)∧w'.cell? ⟨gb386,2,none⟩=some (.int .i64 a0_2)∧w'.cell? ⟨gb386,3,none⟩=some (.int .i64 a0_3)∧w'.cell? ⟨gb386,4,none⟩=some (.int .i64 a0_4)) (ds:=[]) #[ff,ff,ff,ff,ff,ff,ff,ff,ff,ff,ff,ff,ff,ff,ff,ff,ff,ff,ff] (by kernel_rfl) rfl rfl ⟨(blk_cell BK416.out 0).trans rfl,(blk_cell BK416.out 1).trans rfl,(blk_cell BK416.out 2).trans rfl,(blk_cell BK416.out 3).trans rfl,(blk_cell BK416.out 4).trans rfl,(blk_cell BK386.out 0).trans rfl,(blk_cell BK386.out 1).trans rfl,(blk_cell BK386.out 2).trans rfl,(blk_cell BK386.out 3).trans rfl,(blk_cell BK386.out 4).trans rfl⟩ (fun hHeld=>?_);refine with_tabW outriggerlaw18_SenseLearns.tab17 outriggerlaw18_SenseLearns.bits17 (fun HT_ HW_=>?_)
            generalize w86.drew=w87 at HO_10 BK386 BK387 BK410 BK416 HB hHeld ⊢
            refine take_ (i:=0) (N:=some 66) (v:=?_) (a':=?_) #[tt,ff,ff,ff,ff,ff,ff,ff,ff,ff,ff,ff,ff,ff,ff,ff,ff,ff,ff] rfl rfl (take_ofW HT_.out HW_.out (by kernel_rfl)) (fun _ _ _ h=>h) (Or.inl ⟨by rfl,?_⟩) hHeld ?_ ?_
            rotate_left
            ·rintro w' ⟨s0,s1,s2,s3,s4,s5,s6,s7,s8,s9⟩
             go_simp
             with_reducible rfl
            rotate_left
            ·simp only [Act.put,List.setIfInBounds_toArray,List.set_cons_zero,List.set_cons_succ,i64_w,i32_w]
             rfl
            refine take_ (i:=2) (N:=some 68) (v:=?_) (a':=?_) #[tt,ff,tt,ff,ff,ff,ff,ff,ff,ff,ff,ff,ff,ff,ff,ff,ff,ff,ff] rfl rfl (take_ofW HT_.out HW_.out (by kernel_rfl)) (fun _ _ _ h=>h) (Or.inl ⟨by rfl,?_⟩) hHeld ?_ ?_
            rotate_left
            ·rintro w' ⟨s0,s1,s2,s3,s4,s5,s6,s7,s8,s9⟩
             go_simp
             with_reducible rfl
            rotate_left
            ·simp only [Act.put,List.setIfInBounds_toArray,List.set_cons_zero,List.set_cons_succ,i64_w,i32_w]
             rfl
            refine one_ (i:=1) (N:=some 67) #[tt,tt,tt,ff,ff,ff,ff,ff,ff,ff,ff,ff,ff,ff,ff,ff,ff,ff,ff] rfl rfl (one_of HT_.out (by kernel_rfl)) (by decide) (fun K hK=>?_)
            refine goes_ Try.func13 (by kernel_rfl) rfl #[.agg #[.int .i64 t411,.int .i64 t412,.int .i64 t413,.int .i64 t414,.int .i64 t415]] (by rfl) rfl rfl (by exact mA _ _) ?_
            with_reducible refine(sense_Sane.calls kj21 t411 t412 t413 t414 t415 t417 _ A78.out).mono ?_
            rintro e w88 ⟨rfl,hb⟩
            refine⟨_,rfl,?_⟩
            have n0_:=Aside0.mk (Kd.R_below (by first|exact HO_10.out|exact kR HO_10.out) hb)
            have n1_:=Aside0.mk (blk_below (bk BK386.out) hb)
            have n2_:=Aside0.mk (blk_below (bk BK387.out) hb)
            have n3_:=Aside0.mk (blk_below (bk BK410.out) hb)
            have n4_:=Aside0.mk (blk_below (bk BK416.out) hb)
            have n5_:=Aside0.mk (below_step (by repeat (first|with_reducible exact HB.out|exact bl HB|refine bs ?_ GE386|refine bs ?_ GE387|refine bs ?_ GE410|refine bs ?_ GE416)) hb)
            clear HO_10
            clear BK386
            clear BK387
            clear BK410
            clear BK416
            clear HB
            have HO_10:=n0_
            have BK386:=n1_
            have BK387:=n2_
            have BK410:=n3_
            have BK416:=n4_
            have HB:=n5_
            clear n0_ n1_ n2_ n3_ n4_ n5_
            (try clear hb)
            (try clear hb2)
            (try clear hk)
            (try clear hi)
            refine hK.out _ _ ⟨(blk_cell BK416.out 0).trans rfl,(blk_cell BK416.out 1).trans rfl,(blk_cell BK416.out 2).trans rfl,(blk_cell BK416.out 3).trans rfl,(blk_cell BK416.out 4).trans rfl,(blk_cell BK386.out 0).trans rfl,(blk_cell BK386.out 1).trans rfl,(blk_cell BK386.out 2).trans rfl,(blk_cell BK386.out 3).trans rfl,(blk_cell BK386.out 4).trans rfl⟩ (fun hHeld=>?_)
            clear hK K
            refine norm_ (a':=?_) ?_ ?_
            rotate_left
            ·show Act.put _ (some 67) _=_
             simp only [Act.put,List.setIfInBounds_toArray,List.set_cons_zero,List.set_cons_succ,i64_w,i32_w]
             rfl
            refine one_ (i:=3) (N:=some 69) #[tt,tt,tt,tt,ff,ff,ff,ff,ff,ff,ff,ff,ff,ff,ff,ff,ff,ff,ff] rfl rfl (one_of HT_.out (by kernel_rfl)) (by decide) (fun K hK=>?_)
            refine goes_ Try.func13 (by kernel_rfl) rfl #[.agg #[.int .i64 a0_0,.int .i64 a0_1,.int .i64 a0_2,.int .i64 a0_3,.int .i64 a0_4]] (by rfl) rfl rfl (by exact mA _ _) ?_
            with_reducible refine(sense_Sane.calls kj21 a0_0 a0_1 a0_2 a0_3 a0_4 t418 _ A79.out).mono ?_
            rintro e w89 ⟨rfl,hb⟩
            refine⟨_,rfl,?_⟩
            have n0_:=Aside0.mk (Kd.R_below (by first|exact HO_10.out|exact kR HO_10.out) hb)
            have n1_:=Aside0.mk (blk_below (bk BK386.out) hb)
            have n2_:=Aside0.mk (blk_below (bk BK387.out) hb)
            have n3_:=Aside0.mk (blk_below (bk BK410.out) hb)
            have n4_:=Aside0.mk (blk_below (bk BK416.out) hb)
            have n5_:=Aside0.mk (below_step (by repeat (first|with_reducible exact HB.out|exact bl HB|refine bs ?_ GE386|refine bs ?_ GE387|refine bs ?_ GE410|refine bs ?_ GE416)) hb)
            clear HO_10
            clear BK386
            clear BK387
            clear BK410
            clear BK416
            clear HB
            have HO_10:=n0_
            have BK386:=n1_
            have BK387:=n2_
            have BK410:=n3_
            have BK416:=n4_
            have HB:=n5_
            clear n0_ n1_ n2_ n3_ n4_ n5_
            (try clear hb)
            (try clear hb2)
            (try clear hk)
            (try clear hi)
            refine hK.out _ _ ⟨(blk_cell BK416.out 0).trans rfl,(blk_cell BK416.out 1).trans rfl,(blk_cell BK416.out 2).trans rfl,(blk_cell BK416.out 3).trans rfl,(blk_cell BK416.out 4).trans rfl,(blk_cell BK386.out 0).trans rfl,(blk_cell BK386.out 1).trans rfl,(blk_cell BK386.out 2).trans rfl,(blk_cell BK386.out 3).trans rfl,(blk_cell BK386.out 4).trans rfl⟩ (fun hHeld=>?_)
            clear hK K
            refine norm_ (a':=?_) ?_ ?_
            rotate_left
            ·show Act.put _ (some 69) _=_
             simp only [Act.put,List.setIfInBounds_toArray,List.set_cons_zero,List.set_cons_succ,i64_w,i32_w]
             rfl
            refine pure_ (i:=4) (N:=some 70) (v:=?_) (a':=?_) #[tt,tt,tt,tt,tt,ff,ff,ff,ff,ff,ff,ff,ff,ff,ff,ff,ff,ff,ff] rfl rfl (any_of HT_.out (by kernel_rfl)) (fun _ _ _ h=>h) (Or.inl ⟨by rfl,?_⟩) ?_ ?_
            rotate_left
            ·intro w'
             go_simp
             with_reducible rfl
            rotate_left
            ·simp only [Act.put,List.setIfInBounds_toArray,List.set_cons_zero,List.set_cons_succ,i64_w,i32_w]
             rfl
            refine pure_ (i:=5) (N:=some 71) (v:=?_) (a':=?_) #[tt,tt,tt,tt,tt,tt,ff,ff,ff,ff,ff,ff,ff,ff,ff,ff,ff,ff,ff] rfl rfl (any_of HT_.out (by kernel_rfl)) (fun _ _ _ h=>h) (Or.inl ⟨by rfl,?_⟩) ?_ ?_
            rotate_left
            ·intro w'
             go_simp
             with_reducible rfl
            rotate_left
            ·simp only [Act.put,List.setIfInBounds_toArray,List.set_cons_zero,List.set_cons_succ,i64_w,i32_w]
             rfl
            refine pure_ (i:=6) (N:=some 72) (v:=?_) (a':=?_) #[tt,tt,tt,tt,tt,tt,tt,ff,ff,ff,ff,ff,ff,ff,ff,ff,ff,ff,ff] rfl rfl (any_of HT_.out (by kernel_rfl)) (fun _ _ _ h=>h) (Or.inl ⟨by rfl,?_⟩) ?_ ?_
            rotate_left
            ·intro w'
             go_simp
             with_reducible rfl
            rotate_left
            ·simp only [Act.put,List.setIfInBounds_toArray,List.set_cons_zero,List.set_cons_succ,i64_w,i32_w]
             rfl
            refine pure_ (i:=8) (N:=some 74) (v:=?_) (a':=?_) #[tt,tt,tt,tt,tt,tt,tt,ff,tt,ff,ff,ff,ff,ff,ff,ff,ff,ff,ff] rfl rfl (any_of HT_.out (by kernel_rfl)) (fun _ _ _ h=>h) (Or.inl ⟨by rfl,?_⟩) ?_ ?_
            rotate_left
            ·intro w'
             go_simp
             with_reducible rfl
            rotate_left
            ·simp only [Act.put,List.setIfInBounds_toArray,List.set_cons_zero,List.set_cons_succ,i64_w,i32_w]
             rfl
            refine take_ (i:=7) (N:=some 73) (v:=?_) (a':=?_) #[tt,tt,tt,tt,tt,tt,tt,tt,tt,ff,ff,ff,ff,ff,ff,ff,ff,ff,ff] rfl rfl (take_ofW HT_.out HW_.out (by kernel_rfl)) (fun _ _ _ h=>h) (Or.inl ⟨by rfl,?_⟩) hHeld ?_ ?_
            rotate_left
            ·rintro w' ⟨s0,s1,s2,s3,s4,s5,s6,s7,s8,s9⟩
             go_simp
             with_reducible rfl
            rotate_left
            ·simp only [Act.put,List.setIfInBounds_toArray,List.set_cons_zero,List.set_cons_succ,i64_w,i32_w]
             rfl
            refine take_ (i:=9) (N:=some 75) (v:=?_) (a':=?_) #[tt,tt,tt,tt,tt,tt,tt,tt,tt,tt,ff,ff,ff,ff,ff,ff,ff,ff,ff] rfl rfl (take_ofW HT_.out HW_.out (by kernel_rfl)) (fun _ _ _ h=>h) (Or.inl ⟨by rfl,?_⟩) hHeld ?_ ?_
            rotate_left
            ·rintro w' ⟨s0,s1,s2,s3,s4,s5,s6,s7,s8,s9⟩
             go_simp
             with_reducible rfl
            rotate_left
            ·simp only [Act.put,List.setIfInBounds_toArray,List.set_cons_zero,List.set_cons_succ,i64_w,i32_w]
             rfl
            refine pure_ (i:=10) (N:=some 76) (v:=?_) (a':=?_) #[tt,tt,tt,tt,tt,tt,tt,tt,tt,tt,tt,ff,ff,ff,ff,ff,ff,ff,ff] rfl rfl (any_of HT_.out (by kernel_rfl)) (fun _ _ _ h=>h) (Or.inl ⟨by rfl,?_⟩) ?_ ?_
            rotate_left
            ·intro w'
             go_simp
             with_reducible rfl
            rotate_left
            ·simp only [Act.put,List.setIfInBounds_toArray,List.set_cons_zero,List.set_cons_succ,i64_w,i32_w]
             rfl
            refine pure_ (i:=11) (N:=some 77) (v:=?_) (a':=?_) #[tt,tt,tt,tt,tt,tt,tt,tt,tt,tt,tt,tt,ff,ff,ff,ff,ff,ff,ff] rfl rfl (any_of HT_.out (by kernel_rfl)) (fun _ _ _ h=>h) (Or.inl ⟨by rfl,?_⟩) ?_ ?_
            rotate_left
            ·intro w'
             go_simp
             with_reducible rfl
            rotate_left
            ·simp only [Act.put,List.setIfInBounds_toArray,List.set_cons_zero,List.set_cons_succ,i64_w,i32_w]
             rfl
            refine pure_ (i:=12) (N:=some 78) (v:=?_) (a':=?_) #[tt,tt,tt,tt,tt,tt,tt,tt,tt,tt,tt,tt,tt,ff,ff,ff,ff,ff,ff] rfl rfl (any_of HT_.out (by kernel_rfl)) (fun _ _ _ h=>h) (Or.inl ⟨by rfl,?_⟩) ?_ ?_
            rotate_left
            ·intro w'
             go_simp
             with_reducible rfl
            rotate_left
            ·simp only [Act.put,List.setIfInBounds_toArray,List.set_cons_zero,List.set_cons_succ,i64_w,i32_w]
             rfl
            refine pure_ (i:=13) (N:=some 79) (v:=?_) (a':=?_) #[tt,tt,tt,tt,tt,tt,tt,tt,tt,tt,tt,tt,tt,tt,ff,ff,ff,ff,ff] rfl rfl (any_of HT_.out (by kernel_rfl)) (fun _ _ _ h=>h) (Or.inl ⟨by rfl,?_⟩) ?_ ?_
            rotate_left
            ·intro w'
             go_simp
             with_reducible rfl
            rotate_left
            ·simp only [Act.put,List.setIfInBounds_toArray,List.set_cons_zero,List.set_cons_succ,i64_w,i32_w]
             rfl
            refine pure_ (i:=15) (N:=some 81) (v:=?_) (a':=?_) #[tt,tt,tt,tt,tt,tt,tt,tt,tt,tt,tt,tt,tt,tt,ff,tt,ff,ff,ff] rfl rfl (any_of HT_.out (by kernel_rfl)) (fun _ _ _ h=>h) (Or.inl ⟨by rfl,?_⟩) ?_ ?_
            rotate_left
            ·intro w'
             go_simp
             with_reducible rfl
            rotate_left
            ·simp only [Act.put,List.setIfInBounds_toArray,List.set_cons_zero,List.set_cons_succ,i64_w,i32_w]
             rfl
            refine take_ (i:=14) (N:=some 80) (v:=?_) (a':=?_) #[tt,tt,tt,tt,tt,tt,tt,tt,tt,tt,tt,tt,tt,tt,tt,tt,ff,ff,ff] rfl rfl (take_ofW HT_.out HW_.out (by kernel_rfl)) (fun _ _ _ h=>h) (Or.inl ⟨by rfl,?_⟩) hHeld ?_ ?_
            rotate_left
            ·rintro w' ⟨s0,s1,s2,s3,s4,s5,s6,s7,s8,s9⟩
             go_simp
             with_reducible rfl
            rotate_left
            ·simp only [Act.put,List.setIfInBounds_toArray,List.set_cons_zero,List.set_cons_succ,i64_w,i32_w]
             rfl
            refine take_ (i:=16) (N:=some 82) (v:=?_) (a':=?_) #[tt,tt,tt,tt,tt,tt,tt,tt,tt,tt,tt,tt,tt,tt,tt,tt,tt,ff,ff] rfl rfl (take_ofW HT_.out HW_.out (by kernel_rfl)) (fun _ _ _ h=>h) (Or.inl ⟨by rfl,?_⟩) hHeld ?_ ?_
            rotate_left
            ·rintro w' ⟨s0,s1,s2,s3,s4,s5,s6,s7,s8,s9⟩
             go_simp
             with_reducible rfl
            rotate_left
            ·simp only [Act.put,List.setIfInBounds_toArray,List.set_cons_zero,List.set_cons_succ,i64_w,i32_w]
             rfl
            refine pure_ (i:=17) (N:=some 83) (v:=?_) (a':=?_) #[tt,tt,tt,tt,tt,tt,tt,tt,tt,tt,tt,tt,tt,tt,tt,tt,tt,tt,ff] rfl rfl (any_of HT_.out (by kernel_rfl)) (fun _ _ _ h=>h) (Or.inl ⟨by rfl,?_⟩) ?_ ?_
            rotate_left
            ·intro w'
             go_simp
             with_reducible rfl
            rotate_left
            ·simp only [Act.put,List.setIfInBounds_toArray,List.set_cons_zero,List.set_cons_succ,i64_w,i32_w]
             rfl
            refine pure_ (i:=18) (N:=some 84) (v:=?_) (a':=?_) #[tt,tt,tt,tt,tt,tt,tt,tt,tt,tt,tt,tt,tt,tt,tt,tt,tt,tt,tt] rfl rfl (any_of HT_.out (by kernel_rfl)) (fun _ _ _ h=>h) (Or.inl ⟨by rfl,?_⟩) ?_ ?_
            rotate_left
            ·intro w'
             go_simp
             with_reducible rfl
            rotate_left
            ·simp only [Act.put,List.setIfInBounds_toArray,List.set_cons_zero,List.set_cons_succ,i64_w,i32_w]
             rfl
            refine done_ (done_of HT_.out (by kernel_rfl)) ?_
            try go_wp2
            try (refine wp_loop_rounds 4 ?_)
            repeat (rw [rounds_succ];try go_wp2)
            go_meet
            case rel=>exact⟨_,((t415 != a0_4)),(by first|rfl|(simp;done)|(simp [*];done)),H',⟨by have:=HJ5.out;have:=HK2.out;have:=HJ21.out;first|omega|exact Nat.le_refl _⟩,⟨by first|exact BK386.out|exact bk BK386.out⟩,⟨by first|exact BK387.out|exact bk BK387.out⟩,⟨by first|exact BK410.out|exact bk BK410.out⟩,⟨by first|exact BK416.out|exact bk BK416.out⟩,⟨by repeat (first|with_reducible exact HB.out|exact bl HB|refine bs ?_ GE386|refine bs ?_ GE387|refine bs ?_ GE410|refine bs ?_ GE416)⟩⟩
           ·rw [if_neg c85] at H
            have c85b0:(t414 == a0_3)=false:=beq_eq_false_iff_ne.mpr c85
            have c85b1:(t414 != a0_3)=true:=bne_iff_ne.mpr c85
            have H':=Aside0.mk H
            clear H
            try go_wp2
            try (refine wp_loop_rounds 4 ?_)
            repeat (rw [rounds_succ];try go_wp2)
            have n0_:Aside0 (Kd.R k22 22 (((((w73.setCell ⟨gb416,0,none⟩ (.int .i64 t411)).setCell ⟨gb416,1,none⟩ (.int .i64 t412)).setCell ⟨gb416,2,none⟩ (.int .i64 t413)).setCell ⟨gb416,3,none⟩ (.int .i64 t414)).setCell ⟨gb416,4,none⟩ (.int .i64 t415)) w.heap.size (fun k_=>k_≠gb387) (.slice Ao65 x10_2.length co65) x10_2):=⟨by (with_reducible repeat (first|apply Kd.R_alloc|apply Kd.R_drewN|apply Kd.R_drew));exact Kd.R_mono (Kd.R_far (p:=⟨gb416,4,none⟩) (Kd.R_far (p:=⟨gb416,3,none⟩) (Kd.R_far (p:=⟨gb416,2,none⟩) (Kd.R_far (p:=⟨gb416,1,none⟩) (Kd.R_far (p:=⟨gb416,0,none⟩) (Kd.R_types HO_10.out BK416.out (by decide)) (fun _ hk=>hk.2) (.int .i64 t411)) (fun _ hk=>hk.2) (.int .i64 t412)) (fun _ hk=>hk.2) (.int .i64 t413)) (fun _ hk=>hk.2) (.int .i64 t414)) (fun _ hk=>hk.2) (.int .i64 t415)) (fun _ hk=>hk.1)⟩
            have n1_:Aside0 ((((((w73.setCell ⟨gb416,0,none⟩ (.int .i64 t411)).setCell ⟨gb416,1,none⟩ (.int .i64 t412)).setCell ⟨gb416,2,none⟩ (.int .i64 t413)).setCell ⟨gb416,3,none⟩ (.int .i64 t414)).setCell ⟨gb416,4,none⟩ (.int .i64 t415)).heap[gb386]? = some (.cells #[.int .i64 a0_0,.int .i64 a0_1,.int .i64 a0_2,.int .i64 a0_3,.int .i64 a0_4] 24 (0,0))):=⟨by try refine bk ?_;refine blk_far ?_ NB386_416.out _;try refine bk ?_;refine blk_far ?_ NB386_416.out _;try refine bk ?_;refine blk_far ?_ NB386_416.out _;try refine bk ?_;refine blk_far ?_ NB386_416.out _;try refine bk ?_;refine blk_far ?_ NB386_416.out _;try refine bk ?_;exact BK386.out⟩
            have n2_:Aside0 ((((((w73.setCell ⟨gb416,0,none⟩ (.int .i64 t411)).setCell ⟨gb416,1,none⟩ (.int .i64 t412)).setCell ⟨gb416,2,none⟩ (.int .i64 t413)).setCell ⟨gb416,3,none⟩ (.int .i64 t414)).setCell ⟨gb416,4,none⟩ (.int .i64 t415)).heap[gb387]? = some (.cells #[.int .i64 a1_0,.int .i64 a1_1,.int .i64 a1_2] 22 (0,0))):=⟨by try refine bk ?_;refine blk_far ?_ NB387_416.out _;try refine bk ?_;refine blk_far ?_ NB387_416.out _;try refine bk ?_;refine blk_far ?_ NB387_416.out _;try refine bk ?_;refine blk_far ?_ NB387_416.out _;try refine bk ?_;refine blk_far ?_ NB387_416.out _;try refine bk ?_;exact BK387.out⟩
            have n3_:Aside0 ((((((w73.setCell ⟨gb416,0,none⟩ (.int .i64 t411)).setCell ⟨gb416,1,none⟩ (.int .i64 t412)).setCell ⟨gb416,2,none⟩ (.int .i64 t413)).setCell ⟨gb416,3,none⟩ (.int .i64 t414)).setCell ⟨gb416,4,none⟩ (.int .i64 t415)).heap[gb410]? = some (.cells #[.int .i64 t405,.int .i64 t406,.int .i64 t407,.int .i64 t408,.int .i64 t409] 24 (0,0))):=⟨by try refine bk ?_;refine blk_far ?_ NB410_416.out _;try refine bk ?_;refine blk_far ?_ NB410_416.out _;try refine bk ?_;refine blk_far ?_ NB410_416.out _;try refine bk ?_;refine blk_far ?_ NB410_416.out _;try refine bk ?_;refine blk_far ?_ NB410_416.out _;try refine bk ?_;exact BK410.out⟩
            have n4_:Aside0 ((((((w73.setCell ⟨gb416,0,none⟩ (.int .i64 t411)).setCell ⟨gb416,1,none⟩ (.int .i64 t412)).setCell ⟨gb416,2,none⟩ (.int .i64 t413)).setCell ⟨gb416,3,none⟩ (.int .i64 t414)).setCell ⟨gb416,4,none⟩ (.int .i64 t415)).heap[gb416]? = some (.cells #[.int .i64 t411,.int .i64 t412,.int .i64 t413,.int .i64 t414,.int .i64 t415] 24 (0,0))):=⟨by try refine bk ?_;refine blk_put (cs:=#[.int .i64 t411,.int .i64 t412,.int .i64 t413,.int .i64 t414,.int .i64 0]) ?_ 4 _ rfl;try refine bk ?_;refine blk_put (cs:=#[.int .i64 t411,.int .i64 t412,.int .i64 t413,.int .i64 0,.int .i64 0]) ?_ 3 _ rfl;try refine bk ?_;refine blk_put (cs:=#[.int .i64 t411,.int .i64 t412,.int .i64 0,.int .i64 0,.int .i64 0]) ?_ 2 _ rfl;try refine bk ?_;refine blk_put (cs:=#[.int .i64 t411,.int .i64 0,.int .i64 0,.int .i64 0,.int .i64 0]) ?_ 1 _ rfl;try refine bk ?_;refine blk_put (cs:=#[.int .i64 0,.int .i64 0,.int .i64 0,.int .i64 0,.int .i64 0]) ?_ 0 _ rfl;try refine bk ?_;exact BK416.out⟩
            have n5_:Aside0 (Below w.heap.size w (((((w73.setCell ⟨gb416,0,none⟩ (.int .i64 t411)).setCell ⟨gb416,1,none⟩ (.int .i64 t412)).setCell ⟨gb416,2,none⟩ (.int .i64 t413)).setCell ⟨gb416,3,none⟩ (.int .i64 t414)).setCell ⟨gb416,4,none⟩ (.int .i64 t415))):=⟨by repeat (first|with_reducible exact HB.out|exact bl HB|refine bs ?_ GE386|refine bs ?_ GE387|refine bs ?_ GE410|refine bs ?_ GE416)⟩
            (try clear HO_10)
            (try clear BK386)
            (try clear BK387)
            (try clear BK410)
            (try clear BK416)
            (try clear HB)
            generalize (((((w73.setCell ⟨gb416,0,none⟩ (.int .i64 t411)).setCell ⟨gb416,1,none⟩ (.int .i64 t412)).setCell ⟨gb416,2,none⟩ (.int .i64 t413)).setCell ⟨gb416,3,none⟩ (.int .i64 t414)).setCell ⟨gb416,4,none⟩ (.int .i64 t415))=w90 at n0_ n1_ n2_ n3_ n4_ n5_ ⊢
            have HO_10:=n0_
            have BK386:=n1_
            have BK387:=n2_
            have BK410:=n3_
            have BK416:=n4_
            have HB:=n5_
            clear n0_ n1_ n2_ n3_ n4_ n5_
            have n0_:=Aside0.mk (Kd.R_drew HO_10.out)
            have n1_:=Aside0.mk (blk_drew BK386.out)
            have n2_:=Aside0.mk (blk_drew BK387.out)
            have n3_:=Aside0.mk (blk_drew BK410.out)
            have n4_:=Aside0.mk (blk_drew BK416.out)
            have n5_:=Aside0.mk (below_drew1 HB.out)
            clear HO_10
            clear BK386
            clear BK387
            clear BK410
            clear BK416
            clear HB
            have HO_10:=n0_
            have BK386:=n1_
            have BK387:=n2_
            have BK410:=n3_
            have BK416:=n4_
            have HB:=n5_
            clear n0_ n1_ n2_ n3_ n4_ n5_
            refine start_ (n:=19) (S:=fun w'=>w'.cell? ⟨gb416,0,none⟩=some (.int .i64 t411)∧w'.cell? ⟨gb416,1,none⟩=some (.int .i64 t412)∧w'.cell? ⟨gb416,2,none⟩=some (.int .i64 t413)∧w'.cell? ⟨gb416,3,none⟩=some (.int .i64 t414)∧w'.cell? ⟨gb416,4,none⟩=some (.int .i64 t415)∧w'.cell? ⟨gb386,0,none⟩=some (.int .i64 a0_0)∧w'.cell? ⟨gb386,1,none⟩=some (.int .i64 a0_1)∧w'.cell? ⟨gb386,2,none⟩=some (.int .i64 a0_2)∧w'.cell? ⟨gb386,3,none⟩=some (.int .i64 a0_3)∧w'.cell? ⟨gb386,4,none⟩=some (.int .i64 a0_4)) (ds:=[]) #[ff,ff,ff,ff,ff,ff,ff,ff,ff,ff,ff,ff,ff,ff,ff,ff,ff,ff,ff] (by kernel_rfl) rfl rfl ⟨(blk_cell BK416.out 0).trans rfl,(blk_cell BK416.out 1).trans rfl,(blk_cell BK416.out 2).trans rfl,(blk_cell BK416.out 3).trans rfl,(blk_cell BK416.out 4).trans rfl,(blk_cell BK386.out 0).trans rfl,(blk_cell BK386.out 1).trans rfl,(blk_cell BK386.out 2).trans rfl,(blk_cell BK386.out 3).trans rfl,(blk_cell BK386.out 4).trans rfl⟩ (fun hHeld=>?_);refine with_tabW outriggerlaw18_SenseLearns.tab17 outriggerlaw18_SenseLearns.bits17 (fun HT_ HW_=>?_)
            generalize w90.drew=w91 at HO_10 BK386 BK387 BK410 BK416 HB hHeld ⊢
            refine take_ (i:=0) (N:=some 66) (v:=?_) (a':=?_) #[tt,ff,ff,ff,ff,ff,ff,ff,ff,ff,ff,ff,ff,ff,ff,ff,ff,ff,ff] rfl rfl (take_ofW HT_.out HW_.out (by kernel_rfl)) (fun _ _ _ h=>h) (Or.inl ⟨by rfl,?_⟩) hHeld ?_ ?_
            rotate_left
            ·rintro w' ⟨s0,s1,s2,s3,s4,s5,s6,s7,s8,s9⟩
             go_simp
             with_reducible rfl
            rotate_left
            ·simp only [Act.put,List.setIfInBounds_toArray,List.set_cons_zero,List.set_cons_succ,i64_w,i32_w]
             rfl
            refine take_ (i:=2) (N:=some 68) (v:=?_) (a':=?_) #[tt,ff,tt,ff,ff,ff,ff,ff,ff,ff,ff,ff,ff,ff,ff,ff,ff,ff,ff] rfl rfl (take_ofW HT_.out HW_.out (by kernel_rfl)) (fun _ _ _ h=>h) (Or.inl ⟨by rfl,?_⟩) hHeld ?_ ?_
            rotate_left
            ·rintro w' ⟨s0,s1,s2,s3,s4,s5,s6,s7,s8,s9⟩
             go_simp
             with_reducible rfl
            rotate_left
            ·simp only [Act.put,List.setIfInBounds_toArray,List.set_cons_zero,List.set_cons_succ,i64_w,i32_w]
             rfl
            refine one_ (i:=1) (N:=some 67) #[tt,tt,tt,ff,ff,ff,ff,ff,ff,ff,ff,ff,ff,ff,ff,ff,ff,ff,ff] rfl rfl (one_of HT_.out (by kernel_rfl)) (by decide) (fun K hK=>?_)
            refine goes_ Try.func13 (by kernel_rfl) rfl #[.agg #[.int .i64 t411,.int .i64 t412,.int .i64 t413,.int .i64 t414,.int .i64 t415]] (by rfl) rfl rfl (by exact mA _ _) ?_
            with_reducible refine(sense_Sane.calls kj21 t411 t412 t413 t414 t415 t417 _ A78.out).mono ?_
            rintro e w92 ⟨rfl,hb⟩
            refine⟨_,rfl,?_⟩
            have n0_:=Aside0.mk (Kd.R_below (by first|exact HO_10.out|exact kR HO_10.out) hb)
            have n1_:=Aside0.mk (blk_below (bk BK386.out) hb)
            have n2_:=Aside0.mk (blk_below (bk BK387.out) hb)
            have n3_:=Aside0.mk (blk_below (bk BK410.out) hb)
            have n4_:=Aside0.mk (blk_below (bk BK416.out) hb)
            have n5_:=Aside0.mk (below_step (by repeat (first|with_reducible exact HB.out|exact bl HB|refine bs ?_ GE386|refine bs ?_ GE387|refine bs ?_ GE410|refine bs ?_ GE416)) hb)
            clear HO_10
            clear BK386
            clear BK387
            clear BK410
            clear BK416
            clear HB
            have HO_10:=n0_
            have BK386:=n1_
            have BK387:=n2_
            have BK410:=n3_
            have BK416:=n4_
            have HB:=n5_
            clear n0_ n1_ n2_ n3_ n4_ n5_
            (try clear hb)
            (try clear hb2)
            (try clear hk)
            (try clear hi)
            refine hK.out _ _ ⟨(blk_cell BK416.out 0).trans rfl,(blk_cell BK416.out 1).trans rfl,(blk_cell BK416.out 2).trans rfl,(blk_cell BK416.out 3).trans rfl,(blk_cell BK416.out 4).trans rfl,(blk_cell BK386.out 0).trans rfl,(blk_cell BK386.out 1).trans rfl,(blk_cell BK386.out 2).trans rfl,(blk_cell BK386.out 3).trans rfl,(blk_cell BK386.out 4).trans rfl⟩ (fun hHeld=>?_)
            clear hK K
            refine norm_ (a':=?_) ?_ ?_
            rotate_left
            ·show Act.put _ (some 67) _=_
             simp only [Act.put,List.setIfInBounds_toArray,List.set_cons_zero,List.set_cons_succ,i64_w,i32_w]
             rfl
            refine one_ (i:=3) (N:=some 69) #[tt,tt,tt,tt,ff,ff,ff,ff,ff,ff,ff,ff,ff,ff,ff,ff,ff,ff,ff] rfl rfl (one_of HT_.out (by kernel_rfl)) (by decide) (fun K hK=>?_)
            refine goes_ Try.func13 (by kernel_rfl) rfl #[.agg #[.int .i64 a0_0,.int .i64 a0_1,.int .i64 a0_2,.int .i64 a0_3,.int .i64 a0_4]] (by rfl) rfl rfl (by exact mA _ _) ?_
            with_reducible refine(sense_Sane.calls kj21 a0_0 a0_1 a0_2 a0_3 a0_4 t418 _ A79.out).mono ?_
            rintro e w93 ⟨rfl,hb⟩
            refine⟨_,rfl,?_⟩
            have n0_:=Aside0.mk (Kd.R_below (by first|exact HO_10.out|exact kR HO_10.out) hb)
            have n1_:=Aside0.mk (blk_below (bk BK386.out) hb)
            have n2_:=Aside0.mk (blk_below (bk BK387.out) hb)
            have n3_:=Aside0.mk (blk_below (bk BK410.out) hb)
            have n4_:=Aside0.mk (blk_below (bk BK416.out) hb)
            have n5_:=Aside0.mk (below_step (by repeat (first|with_reducible exact HB.out|exact bl HB|refine bs ?_ GE386|refine bs ?_ GE387|refine bs ?_ GE410|refine bs ?_ GE416)) hb)
            clear HO_10
            clear BK386
            clear BK387
            clear BK410
            clear BK416
            clear HB
            have HO_10:=n0_
            have BK386:=n1_
            have BK387:=n2_
            have BK410:=n3_
            have BK416:=n4_
            have HB:=n5_
            clear n0_ n1_ n2_ n3_ n4_ n5_
            (try clear hb)
            (try clear hb2)
            (try clear hk)
            (try clear hi)
            refine hK.out _ _ ⟨(blk_cell BK416.out 0).trans rfl,(blk_cell BK416.out 1).trans rfl,(blk_cell BK416.out 2).trans rfl,(blk_cell BK416.out 3).trans rfl,(blk_cell BK416.out 4).trans rfl,(blk_cell BK386.out 0).trans rfl,(blk_cell BK386.out 1).trans rfl,(blk_cell BK386.out 2).trans rfl,(blk_cell BK386.out 3).trans rfl,(blk_cell BK386.out 4).trans rfl⟩ (fun hHeld=>?_)
            clear hK K
            refine norm_ (a':=?_) ?_ ?_
            rotate_left
            ·show Act.put _ (some 69) _=_
             simp only [Act.put,List.setIfInBounds_toArray,List.set_cons_zero,List.set_cons_succ,i64_w,i32_w]
             rfl
            refine pure_ (i:=4) (N:=some 70) (v:=?_) (a':=?_) #[tt,tt,tt,tt,tt,ff,ff,ff,ff,ff,ff,ff,ff,ff,ff,ff,ff,ff,ff] rfl rfl (any_of HT_.out (by kernel_rfl)) (fun _ _ _ h=>h) (Or.inl ⟨by rfl,?_⟩) ?_ ?_
            rotate_left
            ·intro w'
             go_simp
             with_reducible rfl
            rotate_left
            ·simp only [Act.put,List.setIfInBounds_toArray,List.set_cons_zero,List.set_cons_succ,i64_w,i32_w]
             rfl
            refine pure_ (i:=5) (N:=some 71) (v:=?_) (a':=?_) #[tt,tt,tt,tt,tt,tt,ff,ff,ff,ff,ff,ff,ff,ff,ff,ff,ff,ff,ff] rfl rfl (any_of HT_.out (by kernel_rfl)) (fun _ _ _ h=>h) (Or.inl ⟨by rfl,?_⟩) ?_ ?_
            rotate_left
            ·intro w'
             go_simp
             with_reducible rfl
            rotate_left
            ·simp only [Act.put,List.setIfInBounds_toArray,List.set_cons_zero,List.set_cons_succ,i64_w,i32_w]
             rfl
            refine pure_ (i:=6) (N:=some 72) (v:=?_) (a':=?_) #[tt,tt,tt,tt,tt,tt,tt,ff,ff,ff,ff,ff,ff,ff,ff,ff,ff,ff,ff] rfl rfl (any_of HT_.out (by kernel_rfl)) (fun _ _ _ h=>h) (Or.inl ⟨by rfl,?_⟩) ?_ ?_
            rotate_left
            ·intro w'
             go_simp
             with_reducible rfl
            rotate_left
            ·simp only [Act.put,List.setIfInBounds_toArray,List.set_cons_zero,List.set_cons_succ,i64_w,i32_w]
             rfl
            refine pure_ (i:=8) (N:=some 74) (v:=?_) (a':=?_) #[tt,tt,tt,tt,tt,tt,tt,ff,tt,ff,ff,ff,ff,ff,ff,ff,ff,ff,ff] rfl rfl (any_of HT_.out (by kernel_rfl)) (fun _ _ _ h=>h) (Or.inl ⟨by rfl,?_⟩) ?_ ?_
            rotate_left
            ·intro w'
             go_simp
             with_reducible rfl
            rotate_left
            ·simp only [Act.put,List.setIfInBounds_toArray,List.set_cons_zero,List.set_cons_succ,i64_w,i32_w]
             rfl
            refine take_ (i:=7) (N:=some 73) (v:=?_) (a':=?_) #[tt,tt,tt,tt,tt,tt,tt,tt,tt,ff,ff,ff,ff,ff,ff,ff,ff,ff,ff] rfl rfl (take_ofW HT_.out HW_.out (by kernel_rfl)) (fun _ _ _ h=>h) (Or.inl ⟨by rfl,?_⟩) hHeld ?_ ?_
            rotate_left
            ·rintro w' ⟨s0,s1,s2,s3,s4,s5,s6,s7,s8,s9⟩
             go_simp
             with_reducible rfl
            rotate_left
            ·simp only [Act.put,List.setIfInBounds_toArray,List.set_cons_zero,List.set_cons_succ,i64_w,i32_w]
             rfl
            refine take_ (i:=9) (N:=some 75) (v:=?_) (a':=?_) #[tt,tt,tt,tt,tt,tt,tt,tt,tt,tt,ff,ff,ff,ff,ff,ff,ff,ff,ff] rfl rfl (take_ofW HT_.out HW_.out (by kernel_rfl)) (fun _ _ _ h=>h) (Or.inl ⟨by rfl,?_⟩) hHeld ?_ ?_
            rotate_left
            ·rintro w' ⟨s0,s1,s2,s3,s4,s5,s6,s7,s8,s9⟩
             go_simp
             with_reducible rfl
            rotate_left
            ·simp only [Act.put,List.setIfInBounds_toArray,List.set_cons_zero,List.set_cons_succ,i64_w,i32_w]
             rfl
            refine pure_ (i:=10) (N:=some 76) (v:=?_) (a':=?_) #[tt,tt,tt,tt,tt,tt,tt,tt,tt,tt,tt,ff,ff,ff,ff,ff,ff,ff,ff] rfl rfl (any_of HT_.out (by kernel_rfl)) (fun _ _ _ h=>h) (Or.inl ⟨by rfl,?_⟩) ?_ ?_
            rotate_left
            ·intro w'
             go_simp
             with_reducible rfl
            rotate_left
            ·simp only [Act.put,List.setIfInBounds_toArray,List.set_cons_zero,List.set_cons_succ,i64_w,i32_w]
             rfl
            refine pure_ (i:=11) (N:=some 77) (v:=?_) (a':=?_) #[tt,tt,tt,tt,tt,tt,tt,tt,tt,tt,tt,tt,ff,ff,ff,ff,ff,ff,ff] rfl rfl (any_of HT_.out (by kernel_rfl)) (fun _ _ _ h=>h) (Or.inl ⟨by rfl,?_⟩) ?_ ?_
            rotate_left
            ·intro w'
             go_simp
             with_reducible rfl
            rotate_left
            ·simp only [Act.put,List.setIfInBounds_toArray,List.set_cons_zero,List.set_cons_succ,i64_w,i32_w]
             rfl
            refine pure_ (i:=12) (N:=some 78) (v:=?_) (a':=?_) #[tt,tt,tt,tt,tt,tt,tt,tt,tt,tt,tt,tt,tt,ff,ff,ff,ff,ff,ff] rfl rfl (any_of HT_.out (by kernel_rfl)) (fun _ _ _ h=>h) (Or.inl ⟨by rfl,?_⟩) ?_ ?_
            rotate_left
            ·intro w'
             go_simp
             with_reducible rfl
            rotate_left
            ·simp only [Act.put,List.setIfInBounds_toArray,List.set_cons_zero,List.set_cons_succ,i64_w,i32_w]
             rfl
            refine pure_ (i:=13) (N:=some 79) (v:=undef) (a':=?_) #[tt,tt,tt,tt,tt,tt,tt,tt,tt,tt,tt,tt,tt,tt,ff,ff,ff,ff,ff] rfl rfl (any_of HT_.out (by kernel_rfl)) (fun _ _ _ h=>h) (Or.inr ⟨by rfl,rfl⟩) ?_ ?_
            rotate_left
            ·simp only [Act.put,List.setIfInBounds_toArray,List.set_cons_zero,List.set_cons_succ,i64_w,i32_w]
             rfl
            refine pure_ (i:=14) (N:=some 80) (v:=undef) (a':=?_) #[tt,tt,tt,tt,tt,tt,tt,tt,tt,tt,tt,tt,tt,tt,tt,ff,ff,ff,ff] rfl rfl (any_of HT_.out (by kernel_rfl)) (fun _ _ _ h=>h) (Or.inr ⟨by rfl,rfl⟩) ?_ ?_
            rotate_left
            ·simp only [Act.put,List.setIfInBounds_toArray,List.set_cons_zero,List.set_cons_succ,i64_w,i32_w]
             rfl
            refine pure_ (i:=15) (N:=some 81) (v:=undef) (a':=?_) #[tt,tt,tt,tt,tt,tt,tt,tt,tt,tt,tt,tt,tt,tt,tt,tt,ff,ff,ff] rfl rfl (any_of HT_.out (by kernel_rfl)) (fun _ _ _ h=>h) (Or.inr ⟨by rfl,rfl⟩) ?_ ?_
            rotate_left
            ·simp only [Act.put,List.setIfInBounds_toArray,List.set_cons_zero,List.set_cons_succ,i64_w,i32_w]
             rfl
            refine pure_ (i:=16) (N:=some 82) (v:=undef) (a':=?_) #[tt,tt,tt,tt,tt,tt,tt,tt,tt,tt,tt,tt,tt,tt,tt,tt,tt,ff,ff] rfl rfl (any_of HT_.out (by kernel_rfl)) (fun _ _ _ h=>h) (Or.inr ⟨by rfl,rfl⟩) ?_ ?_
            rotate_left
            ·simp only [Act.put,List.setIfInBounds_toArray,List.set_cons_zero,List.set_cons_succ,i64_w,i32_w]
             rfl
            refine pure_ (i:=17) (N:=some 83) (v:=undef) (a':=?_) #[tt,tt,tt,tt,tt,tt,tt,tt,tt,tt,tt,tt,tt,tt,tt,tt,tt,tt,ff] rfl rfl (any_of HT_.out (by kernel_rfl)) (fun _ _ _ h=>h) (Or.inr ⟨by rfl,rfl⟩) ?_ ?_
            rotate_left
            ·simp only [Act.put,List.setIfInBounds_toArray,List.set_cons_zero,List.set_cons_succ,i64_w,i32_w]
             rfl
            refine pure_ (i:=18) (N:=some 84) (v:=?_) (a':=?_) #[tt,tt,tt,tt,tt,tt,tt,tt,tt,tt,tt,tt,tt,tt,tt,tt,tt,tt,tt] rfl rfl (any_of HT_.out (by kernel_rfl)) (fun _ _ _ h=>h) (Or.inl ⟨by rfl,?_⟩) ?_ ?_
            rotate_left
            ·intro w'
             go_simp
             with_reducible rfl
            rotate_left
            ·simp only [Act.put,List.setIfInBounds_toArray,List.set_cons_zero,List.set_cons_succ,i64_w,i32_w]
             rfl
            refine done_ (done_of HT_.out (by kernel_rfl)) ?_
            try go_wp2
            try (refine wp_loop_rounds 4 ?_)
            repeat (rw [rounds_succ];try go_wp2)
            go_meet
            case rel=>exact⟨_,(true),(by first|rfl|(simp;done)|(simp [*];done)),H',⟨by have:=HJ5.out;have:=HK2.out;have:=HJ21.out;first|omega|exact Nat.le_refl _⟩,⟨by first|exact BK386.out|exact bk BK386.out⟩,⟨by first|exact BK387.out|exact bk BK387.out⟩,⟨by first|exact BK410.out|exact bk BK410.out⟩,⟨by first|exact BK416.out|exact bk BK416.out⟩,⟨by repeat (first|with_reducible exact HB.out|exact bl HB|refine bs ?_ GE386|refine bs ?_ GE387|refine bs ?_ GE410|refine bs ?_ GE416)⟩⟩
         case rest =>
          clear HC62
          try clear c1
          try clear p2
          try clear c8
          try clear c13
          try clear c80
          try clear c80b0
          try clear c80b1
          try clear c80b2
          try clear c85
          try clear c85b0
          try clear c85b1
          obtain⟨kq,x84_61,rfl,HA,HJ61,BK386,BK387,BK410,BK416,HB⟩:=hcut
          cases kq with
          | zero=>exact absurd HA.out (by simp [outriggerlaw18_SenseLearns.j3])
          | succ kj61 =>
           have H:=HA.out
           clear HA
           simp only [outriggerlaw18_SenseLearns.j3] at H
           by_cases c94:x84_61=true
           ·subst c94
            have H1:(some false)=some r:=by rw [if_pos rfl] at H;exact H
            clear H
            have H:=H1
            clear H1
            exact absurd ((Option.some.inj H).trans hr.out) (by decide)
           ·replace c94:=Bool.eq_false_iff.mpr c94
            subst c94
            have H1:(if x11_21=true then ((sense_Read.f kj61 t405 t406 t407 t408 t409 a1_0 a1_1 a1_2).bind fun bt419=>(if t388=true then (if (t405 == a1_0 && (t406 == a1_1 && (t407 == a1_2)))=true then (if bt419.2.2.2=true then (some (bt419.1 == 0 && (bt419.2.1 == 0 && (bt419.2.2.1 == 0)))) else (some false)) else (some false)) else (some false))) else (if t388=true then (some ((t405 == a0_0 && (t406 == a0_1 && (t407 == a0_2))) && (t408 == a0_3 && (t409 == a0_4)))) else (some false)))=some r:=by rw [if_neg (show ¬(false=true) by decide)] at H;exact H
            clear H
            have H:=H1
            clear H1
            by_cases c95:x11_21=true
            ·subst c95
             have H1:((sense_Read.f kj61 t405 t406 t407 t408 t409 a1_0 a1_1 a1_2).bind fun bt419=>(if t388=true then (if (t405 == a1_0 && (t406 == a1_1 && (t407 == a1_2)))=true then (if bt419.2.2.2=true then (some (bt419.1 == 0 && (bt419.2.1 == 0 && (bt419.2.2.1 == 0)))) else (some false)) else (some false)) else (some false)))=some r:=by rw [if_pos rfl] at H;exact H
             clear H
             have H:=H1
             clear H1
             replace H:=Option.bind_eq_some_iff.mp H
             obtain⟨⟨t419,t420,t421,t422⟩,A960,H⟩:=H
             replace H:(if t388=true then (if (t405 == a1_0 && (t406 == a1_1 && (t407 == a1_2)))=true then (if t422=true then (some (t419 == 0 && (t420 == 0 && (t421 == 0)))) else (some false)) else (some false)) else (some false))=some r:=H
             have A96:=Aside0.mk A960
             clear A960
             by_cases c97:t388=true
             ·subst c97
              have H1:(if (t405 == a1_0 && (t406 == a1_1 && (t407 == a1_2)))=true then (if t422=true then (some (t419 == 0 && (t420 == 0 && (t421 == 0)))) else (some false)) else (some false))=some r:=by rw [if_pos rfl] at H;exact H
              clear H
              have H:=H1
              clear H1
              by_cases c98:(t405 == a1_0 && (t406 == a1_1 && (t407 == a1_2)))=true
              ·rw [if_pos c98] at H
               have c98b0:(t405 == a1_0 && (t406 == a1_1 && (t407 == a1_2)))=true:=c98
               (try (have c98b1:decide (t405=a1_0 && (t406 == a1_1 && (t407 == a1_2)))=true:=by simpa using c98))
               (try (have c98b2:(t405 == a1_0 && (t406 == a1_1 && (t407 == a1_2)))=true:=by simpa using c98))
               clear c98
               by_cases c99:t422=true
               ·subst c99
                have H1:(some (t419 == 0 && (t420 == 0 && (t421 == 0))))=some r:=by rw [if_pos rfl] at H;exact H
                clear H
                have H:=H1
                clear H1
                clear hr
                obtain rfl:=Option.some.inj H
                have hnb100:=NB410_386.out
                have hnc100:=NB386_410.out
                have hnb101:=NB410_387.out
                have hnc101:=NB387_410.out
                have hnb102:=NB410_416.out
                have hnc102:=NB416_410.out
                have hcz103_0:wc.cell? ⟨gb410,0,none⟩=some (.int .i64 t405):=(blk_cell BK410.out 0).trans rfl
                have hcz103_1:wc.cell? ⟨gb410,1,none⟩=some (.int .i64 t406):=(blk_cell BK410.out 1).trans rfl
                have hcz103_2:wc.cell? ⟨gb410,2,none⟩=some (.int .i64 t407):=(blk_cell BK410.out 2).trans rfl
                have hcz103_3:wc.cell? ⟨gb410,3,none⟩=some (.int .i64 t408):=(blk_cell BK410.out 3).trans rfl
                have hcz103_4:wc.cell? ⟨gb410,4,none⟩=some (.int .i64 t409):=(blk_cell BK410.out 4).trans rfl
                have hfz103_0:=blk_frozen BK410.out 0
                have hfz103_1:=blk_frozen BK410.out 1
                have hfz103_2:=blk_frozen BK410.out 2
                have hfz103_3:=blk_frozen BK410.out 3
                have hfz103_4:=blk_frozen BK410.out 4
                have hnb104:=NB387_386.out
                have hnc104:=NB386_387.out
                have hnb105:=NB387_416.out
                have hnc105:=NB416_387.out
                have hcz106_0:wc.cell? ⟨gb387,0,none⟩=some (.int .i64 a1_0):=(blk_cell BK387.out 0).trans rfl
                have hcz106_1:wc.cell? ⟨gb387,1,none⟩=some (.int .i64 a1_1):=(blk_cell BK387.out 1).trans rfl
                have hcz106_2:wc.cell? ⟨gb387,2,none⟩=some (.int .i64 a1_2):=(blk_cell BK387.out 2).trans rfl
                have hfz106_0:=blk_frozen BK387.out 0
                have hfz106_1:=blk_frozen BK387.out 1
                have hfz106_2:=blk_frozen BK387.out 2
                go_wp2_with (first|((with_reducible refine gate_callee (f:=9) rfl ?_);refine goesL_ (some 96) rfl rfl Try.func9 (by kernel_rfl) rfl #[.agg #[.int .i64 t405,.int .i64 t406,.int .i64 t407,.int .i64 t408,.int .i64 t409],.agg #[.int .i64 a1_0,.int .i64 a1_1,.int .i64 a1_2]] rfl (by exact mA _ _) ?_;(with_reducible refine(sense_Read.calls kj61 t405 t406 t407 t408 t409 a1_0 a1_1 a1_2 t419 t420 t421 true _ A96.out).mono ?_);rintro e w107 ⟨rfl,hb⟩;refine⟨_,rfl,?_⟩;have n0_:=Aside0.mk (blk_below (bk BK386.out) hb);have n1_:=Aside0.mk (blk_below (bk BK387.out) hb);have n2_:=Aside0.mk (blk_below (bk BK410.out) hb);have n3_:=Aside0.mk (blk_below (bk BK416.out) hb);have n4_:=Aside0.mk (below_step (by repeat (first|with_reducible exact HB.out|exact bl HB|refine bs ?_ GE386|refine bs ?_ GE387|refine bs ?_ GE410|refine bs ?_ GE416)) hb);clear BK386;clear BK387;clear BK410;clear BK416;clear HB;have BK386:=n0_;have BK387:=n1_;have BK410:=n2_;have BK416:=n3_;have HB:=n4_;clear n0_ n1_ n2_ n3_ n4_;(try clear hb);(try clear hb2);(try clear hk);(try clear hi))|((with_reducible refine gate_dst (N:=18) rfl ?_);refine box_event ?hg (N:=18) ?hd (cs:=#[.int .i64 0,.int .i64 0,.int .i64 0]) (t:=22) ?hr ?_;(case hd=>rfl);(case hg=>rfl);(case hr=>first|(go_simp;done)|(go_simp;rfl));intro gb423 hg w108 hbox hb;have n0_:=Aside0.mk (blk_below (bk BK386.out) hb);have n1_:=Aside0.mk (blk_below (bk BK387.out) hb);have n2_:=Aside0.mk (blk_below (bk BK410.out) hb);have n3_:=Aside0.mk (blk_below (bk BK416.out) hb);have n4_:=Aside0.mk (below_step (by repeat (first|with_reducible exact HB.out|exact bl HB|refine bs ?_ GE386|refine bs ?_ GE387|refine bs ?_ GE410|refine bs ?_ GE416)) hb);have n5_:=Aside0.mk (hbox);have n6_:=Aside0.mk ((by rw [hg];exact(below_size (by repeat (first|with_reducible exact HB.out|exact bl HB|refine bs ?_ GE386|refine bs ?_ GE387|refine bs ?_ GE410|refine bs ?_ GE416))):w.heap.size≤gb423));have n7_:=Aside0.mk ((by rw [hg];exact(below_size (by repeat (first|with_reducible exact HB.out|exact bl HB|refine bs ?_ GE386|refine bs ?_ GE387|refine bs ?_ GE410|refine bs ?_ GE416))):w.heap.size≤gb423));have n8_:=Aside0.mk ((by rw [hg];exact Nat.ne_of_lt (blk_lt (bk BK386.out)):gb386≠gb423));have n9_:=Aside0.mk ((by rw [hg];exact Nat.ne_of_gt (blk_lt (bk BK386.out)):gb423≠gb386));have n10_:=Aside0.mk ((by rw [hg];exact Nat.ne_of_lt (blk_lt (bk BK387.out)):gb387≠gb423));have n11_:=Aside0.mk ((by rw [hg];exact Nat.ne_of_gt (blk_lt (bk BK387.out)):gb423≠gb387));have n12_:=Aside0.mk ((by rw [hg];exact Nat.ne_of_lt (blk_lt (bk BK410.out)):gb410≠gb423));have n13_:=Aside0.mk ((by rw [hg];exact Nat.ne_of_gt (blk_lt (bk BK410.out)):gb423≠gb410));have n14_:=Aside0.mk ((by rw [hg];exact Nat.ne_of_lt (blk_lt (bk BK416.out)):gb416≠gb423));have n15_:=Aside0.mk ((by rw [hg];exact Nat.ne_of_gt (blk_lt (bk BK416.out)):gb423≠gb416));clear BK386;clear BK387;clear BK410;clear BK416;clear HB;have BK386:=n0_;have BK387:=n1_;have BK410:=n2_;have BK416:=n3_;have HB:=n4_;have BK423:=n5_;have GW423:=n6_;have GE423:=n7_;have NB386_423:=n8_;have NB423_386:=n9_;have NB387_423:=n10_;have NB423_387:=n11_;have NB410_423:=n12_;have NB423_410:=n13_;have NB416_423:=n14_;have NB423_416:=n15_;clear n0_ n1_ n2_ n3_ n4_ n5_ n6_ n7_ n8_ n9_ n10_ n11_ n12_ n13_ n14_ n15_;clear hb hbox hg;have hnb109:=NB423_386.out;have hnc109:=NB386_423.out;have hnb110:=NB423_387.out;have hnc110:=NB387_423.out;have hnb111:=NB423_410.out;have hnc111:=NB410_423.out;have hnb112:=NB423_416.out;have hnc112:=NB416_423.out;have hcz113_0:w108.cell? ⟨gb423,0,none⟩=some (.int .i64 0):=(blk_cell BK423.out 0).trans rfl;have hcz113_1:w108.cell? ⟨gb423,1,none⟩=some (.int .i64 0):=(blk_cell BK423.out 1).trans rfl;have hcz113_2:w108.cell? ⟨gb423,2,none⟩=some (.int .i64 0):=(blk_cell BK423.out 2).trans rfl;have hfz113_0:=blk_frozen BK423.out 0;have hfz113_1:=blk_frozen BK423.out 1;have hfz113_2:=blk_frozen BK423.out 2;have hcz114_0:w108.cell? ⟨gb410,0,none⟩=some (.int .i64 t405):=(blk_cell BK410.out 0).trans rfl;have hcz114_1:w108.cell? ⟨gb410,1,none⟩=some (.int .i64 t406):=(blk_cell BK410.out 1).trans rfl;have hcz114_2:w108.cell? ⟨gb410,2,none⟩=some (.int .i64 t407):=(blk_cell BK410.out 2).trans rfl;have hcz114_3:w108.cell? ⟨gb410,3,none⟩=some (.int .i64 t408):=(blk_cell BK410.out 3).trans rfl;have hcz114_4:w108.cell? ⟨gb410,4,none⟩=some (.int .i64 t409):=(blk_cell BK410.out 4).trans rfl;have hfz114_0:=blk_frozen BK410.out 0;have hfz114_1:=blk_frozen BK410.out 1;have hfz114_2:=blk_frozen BK410.out 2;have hfz114_3:=blk_frozen BK410.out 3;have hfz114_4:=blk_frozen BK410.out 4;have hcz115_0:w108.cell? ⟨gb387,0,none⟩=some (.int .i64 a1_0):=(blk_cell BK387.out 0).trans rfl;have hcz115_1:w108.cell? ⟨gb387,1,none⟩=some (.int .i64 a1_1):=(blk_cell BK387.out 1).trans rfl;have hcz115_2:w108.cell? ⟨gb387,2,none⟩=some (.int .i64 a1_2):=(blk_cell BK387.out 2).trans rfl;have hfz115_0:=blk_frozen BK387.out 0;have hfz115_1:=blk_frozen BK387.out 1;have hfz115_2:=blk_frozen BK387.out 2))
                try (refine wp_loop_rounds 4 ?_)
                repeat (rw [rounds_succ];try go_wp2_with (first|((with_reducible refine gate_callee (f:=9) rfl ?_);refine goesL_ (some 96) rfl rfl Try.func9 (by kernel_rfl) rfl #[.agg #[.int .i64 t405,.int .i64 t406,.int .i64 t407,.int .i64 t408,.int .i64 t409],.agg #[.int .i64 a1_0,.int .i64 a1_1,.int .i64 a1_2]] rfl (by exact mA _ _) ?_;(with_reducible refine(sense_Read.calls kj61 t405 t406 t407 t408 t409 a1_0 a1_1 a1_2 t419 t420 t421 true _ A96.out).mono ?_);rintro e w107 ⟨rfl,hb⟩;refine⟨_,rfl,?_⟩;have n0_:=Aside0.mk (blk_below (bk BK386.out) hb);have n1_:=Aside0.mk (blk_below (bk BK387.out) hb);have n2_:=Aside0.mk (blk_below (bk BK410.out) hb);have n3_:=Aside0.mk (blk_below (bk BK416.out) hb);have n4_:=Aside0.mk (below_step (by repeat (first|with_reducible exact HB.out|exact bl HB|refine bs ?_ GE386|refine bs ?_ GE387|refine bs ?_ GE410|refine bs ?_ GE416)) hb);clear BK386;clear BK387;clear BK410;clear BK416;clear HB;have BK386:=n0_;have BK387:=n1_;have BK410:=n2_;have BK416:=n3_;have HB:=n4_;clear n0_ n1_ n2_ n3_ n4_;(try clear hb);(try clear hb2);(try clear hk);(try clear hi))|((with_reducible refine gate_dst (N:=18) rfl ?_);refine box_event ?hg (N:=18) ?hd (cs:=#[.int .i64 0,.int .i64 0,.int .i64 0]) (t:=22) ?hr ?_;(case hd=>rfl);(case hg=>rfl);(case hr=>first|(go_simp;done)|(go_simp;rfl));intro gb423 hg w108 hbox hb;have n0_:=Aside0.mk (blk_below (bk BK386.out) hb);have n1_:=Aside0.mk (blk_below (bk BK387.out) hb);have n2_:=Aside0.mk (blk_below (bk BK410.out) hb);have n3_:=Aside0.mk (blk_below (bk BK416.out) hb);have n4_:=Aside0.mk (below_step (by repeat (first|with_reducible exact HB.out|exact bl HB|refine bs ?_ GE386|refine bs ?_ GE387|refine bs ?_ GE410|refine bs ?_ GE416)) hb);have n5_:=Aside0.mk (hbox);have n6_:=Aside0.mk ((by rw [hg];exact(below_size (by repeat (first|with_reducible exact HB.out|exact bl HB|refine bs ?_ GE386|refine bs ?_ GE387|refine bs ?_ GE410|refine bs ?_ GE416))):w.heap.size≤gb423));have n7_:=Aside0.mk ((by rw [hg];exact(below_size (by repeat (first|with_reducible exact HB.out|exact bl HB|refine bs ?_ GE386|refine bs ?_ GE387|refine bs ?_ GE410|refine bs ?_ GE416))):w.heap.size≤gb423));have n8_:=Aside0.mk ((by rw [hg];exact Nat.ne_of_lt (blk_lt (bk BK386.out)):gb386≠gb423));have n9_:=Aside0.mk ((by rw [hg];exact Nat.ne_of_gt (blk_lt (bk BK386.out)):gb423≠gb386));have n10_:=Aside0.mk ((by rw [hg];exact Nat.ne_of_lt (blk_lt (bk BK387.out)):gb387≠gb423));have n11_:=Aside0.mk ((by rw [hg];exact Nat.ne_of_gt (blk_lt (bk BK387.out)):gb423≠gb387));have n12_:=Aside0.mk ((by rw [hg];exact Nat.ne_of_lt (blk_lt (bk BK410.out)):gb410≠gb423));have n13_:=Aside0.mk ((by rw [hg];exact Nat.ne_of_gt (blk_lt (bk BK410.out)):gb423≠gb410));have n14_:=Aside0.mk ((by rw [hg];exact Nat.ne_of_lt (blk_lt (bk BK416.out)):gb416≠gb423));have n15_:=Aside0.mk ((by rw [hg];exact Nat.ne_of_gt (blk_lt (bk BK416.out)):gb423≠gb416));clear BK386;clear BK387;clear BK410;clear BK416;clear HB;have BK386:=n0_;have BK387:=n1_;have BK410:=n2_;have BK416:=n3_;have HB:=n4_;have BK423:=n5_;have GW423:=n6_;have GE423:=n7_;have NB386_423:=n8_;have NB423_386:=n9_;have NB387_423:=n10_;have NB423_387:=n11_;have NB410_423:=n12_;have NB423_410:=n13_;have NB416_423:=n14_;have NB423_416:=n15_;clear n0_ n1_ n2_ n3_ n4_ n5_ n6_ n7_ n8_ n9_ n10_ n11_ n12_ n13_ n14_ n15_;clear hb hbox hg;have hnb109:=NB423_386.out;have hnc109:=NB386_423.out;have hnb110:=NB423_387.out;have hnc110:=NB387_423.out;have hnb111:=NB423_410.out;have hnc111:=NB410_423.out;have hnb112:=NB423_416.out;have hnc112:=NB416_423.out;have hcz113_0:w108.cell? ⟨gb423,0,none⟩=some (.int .i64 0):=(blk_cell BK423.out 0).trans rfl;have hcz113_1:w108.cell? ⟨gb423,1,none⟩=some (.int .i64 0):=(blk_cell BK423.out 1).trans rfl;have hcz113_2:w108.cell? ⟨gb423,2,none⟩=some (.int .i64 0):=(blk_cell BK423.out 2).trans rfl;have hfz113_0:=blk_frozen BK423.out 0;have hfz113_1:=blk_frozen BK423.out 1;have hfz113_2:=blk_frozen BK423.out 2;have hcz114_0:w108.cell? ⟨gb410,0,none⟩=some (.int .i64 t405):=(blk_cell BK410.out 0).trans rfl;have hcz114_1:w108.cell? ⟨gb410,1,none⟩=some (.int .i64 t406):=(blk_cell BK410.out 1).trans rfl;have hcz114_2:w108.cell? ⟨gb410,2,none⟩=some (.int .i64 t407):=(blk_cell BK410.out 2).trans rfl;have hcz114_3:w108.cell? ⟨gb410,3,none⟩=some (.int .i64 t408):=(blk_cell BK410.out 3).trans rfl;have hcz114_4:w108.cell? ⟨gb410,4,none⟩=some (.int .i64 t409):=(blk_cell BK410.out 4).trans rfl;have hfz114_0:=blk_frozen BK410.out 0;have hfz114_1:=blk_frozen BK410.out 1;have hfz114_2:=blk_frozen BK410.out 2;have hfz114_3:=blk_frozen BK410.out 3;have hfz114_4:=blk_frozen BK410.out 4;have hcz115_0:w108.cell? ⟨gb387,0,none⟩=some (.int .i64 a1_0):=(blk_cell BK387.out 0).trans rfl;have hcz115_1:w108.cell? ⟨gb387,1,none⟩=some (.int .i64 a1_1):=(blk_cell BK387.out 1).trans rfl;have hcz115_2:w108.cell? ⟨gb387,2,none⟩=some (.int .i64 a1_2):=(blk_cell BK387.out 2).trans rfl;have hfz115_0:=blk_frozen BK387.out 0;have hfz115_1:=blk_frozen BK387.out 1;have hfz115_2:=blk_frozen BK387.out 2)))
                go_ret
                exact⟨by first|rfl|(simp [errW_none,errW_some]<;>rfl)|(simp [*,errW_none,errW_some]<;>rfl),by repeat (first|with_reducible exact HB.out|exact bl HB|refine bs ?_ GE386|refine bs ?_ GE387|refine bs ?_ GE410|refine bs ?_ GE416|refine bs ?_ GE423)⟩
               ·replace c99:=Bool.eq_false_iff.mpr c99
                subst c99
                have H1:(some false)=some r:=by rw [if_neg (show ¬(false=true) by decide)] at H;exact H
                clear H
                have H:=H1
                clear H1
                exact absurd ((Option.some.inj H).trans hr.out) (by decide)
              ·rw [if_neg c98] at H
               have c98b0:(t405 == a1_0 && (t406 == a1_1 && (t407 == a1_2)))=false:=by simpa using c98
               (try (have c98b1:decide (t405=a1_0 && (t406 == a1_1 && (t407 == a1_2)))=false:=by simpa using c98))
               (try (have c98b2:(t405 == a1_0 && (t406 == a1_1 && (t407 == a1_2)))=false:=by simpa using c98))
               (try (have c98b3:¬(t405=a1_0 && (t406 == a1_1 && (t407 == a1_2))):=by simpa using c98))
               clear c98
               exact absurd ((Option.some.inj H).trans hr.out) (by decide)
             ·replace c97:=Bool.eq_false_iff.mpr c97
              subst c97
              have H1:(some false)=some r:=by rw [if_neg (show ¬(false=true) by decide)] at H;exact H
              clear H
              have H:=H1
              clear H1
              exact absurd ((Option.some.inj H).trans hr.out) (by decide)
            ·replace c95:=Bool.eq_false_iff.mpr c95
             subst c95
             have H1:(if t388=true then (some ((t405 == a0_0 && (t406 == a0_1 && (t407 == a0_2))) && (t408 == a0_3 && (t409 == a0_4)))) else (some false))=some r:=by rw [if_neg (show ¬(false=true) by decide)] at H;exact H
             clear H
             have H:=H1
             clear H1
             by_cases c162:t388=true
             ·subst c162
              have H1:(some ((t405 == a0_0 && (t406 == a0_1 && (t407 == a0_2))) && (t408 == a0_3 && (t409 == a0_4))))=some r:=by rw [if_pos rfl] at H;exact H
              clear H
              have H:=H1
              clear H1
              clear hr
              obtain rfl:=Option.some.inj H
              have hnb163:=NB410_386.out
              have hnc163:=NB386_410.out
              have hnb164:=NB410_387.out
              have hnc164:=NB387_410.out
              have hnb165:=NB410_416.out
              have hnc165:=NB416_410.out
              have hcz166_0:wc.cell? ⟨gb410,0,none⟩=some (.int .i64 t405):=(blk_cell BK410.out 0).trans rfl
              have hcz166_1:wc.cell? ⟨gb410,1,none⟩=some (.int .i64 t406):=(blk_cell BK410.out 1).trans rfl
              have hcz166_2:wc.cell? ⟨gb410,2,none⟩=some (.int .i64 t407):=(blk_cell BK410.out 2).trans rfl
              have hcz166_3:wc.cell? ⟨gb410,3,none⟩=some (.int .i64 t408):=(blk_cell BK410.out 3).trans rfl
              have hcz166_4:wc.cell? ⟨gb410,4,none⟩=some (.int .i64 t409):=(blk_cell BK410.out 4).trans rfl
              have hfz166_0:=blk_frozen BK410.out 0
              have hfz166_1:=blk_frozen BK410.out 1
              have hfz166_2:=blk_frozen BK410.out 2
              have hfz166_3:=blk_frozen BK410.out 3
              have hfz166_4:=blk_frozen BK410.out 4
              have hnb167:=NB386_387.out
              have hnc167:=NB387_386.out
              have hnb168:=NB386_416.out
              have hnc168:=NB416_386.out
              have hcz169_0:wc.cell? ⟨gb386,0,none⟩=some (.int .i64 a0_0):=(blk_cell BK386.out 0).trans rfl
              have hcz169_1:wc.cell? ⟨gb386,1,none⟩=some (.int .i64 a0_1):=(blk_cell BK386.out 1).trans rfl
              have hcz169_2:wc.cell? ⟨gb386,2,none⟩=some (.int .i64 a0_2):=(blk_cell BK386.out 2).trans rfl
              have hcz169_3:wc.cell? ⟨gb386,3,none⟩=some (.int .i64 a0_3):=(blk_cell BK386.out 3).trans rfl
              have hcz169_4:wc.cell? ⟨gb386,4,none⟩=some (.int .i64 a0_4):=(blk_cell BK386.out 4).trans rfl
              have hfz169_0:=blk_frozen BK386.out 0
              have hfz169_1:=blk_frozen BK386.out 1
              have hfz169_2:=blk_frozen BK386.out 2
              have hfz169_3:=blk_frozen BK386.out 3
              have hfz169_4:=blk_frozen BK386.out 4
              go_wp2
              try (refine wp_loop_rounds 4 ?_)
              repeat (rw [rounds_succ];try go_wp2)
              go_ret
              exact⟨by first|rfl|(simp [errW_none,errW_some]<;>rfl)|(simp [*,errW_none,errW_some]<;>rfl),by repeat (first|with_reducible exact HB.out|exact bl HB|refine bs ?_ GE386|refine bs ?_ GE387|refine bs ?_ GE410|refine bs ?_ GE416)⟩
             ·replace c162:=Bool.eq_false_iff.mpr c162
              subst c162
              have H1:(some false)=some r:=by rw [if_neg (show ¬(false=true) by decide)] at H;exact H
              clear H
              have H:=H1
              clear H1
              exact absurd ((Option.some.inj H).trans hr.out) (by decide)
end Go.Proofs.Ytonfobdknnlbjaa.B
end
section
namespace Go.Proofs.Ytonfobdknnlbjaa.Learn
open Go Go.RowKit Go.Proofs.Ytonfobdknnlbjaa.B Go.Proofs.Ytonfobdknnlbjaa.Over Go.Proofs.Ytonfobdknnlbjaa.Quot Go.Proofs.Ytonfobdknnlbjaa.Rquot Go.Proofs.Ytonfobdknnlbjaa.Vecn Go.Proofs.Ytonfobdknnlbjaa.Rwide Go.Proofs.Ytonfobdknnlbjaa.Rsum Go.Proofs.Ytonfobdknnlbjaa.Num Go.Proofs.Ytonfobdknnlbjaa.Wide Go.Proofs.Ytonfobdknnlbjaa.Sum Go.Proofs.YtonfobdknnlbjaaW.PrintWords Go.Proofs.YtonfobdknnlbjaaW.PrintLast Go.Proofs.YtonfobdknnlbjaaW.PrintMore
def vb3 (x:S22):Bool:=vb x.f0 && (vb x.f1 && vb x.f2)
def mnv (l:List Int):Int:=(if l=[] then ((0:Int),false) else (mean (tot (cls (l.take 64))) ((l.take 64).length:Int),chg (l.take 64))).1
def learnv (a b c d e:Int) (l:List S22):Int × Int × Int × Int × Int :=
  if (sane5 a b c d e && (!l.isEmpty && l.all vb3))=true then (mnv (l.map (·.f0)),mnv (l.map (·.f1)),mnv (l.map (·.f2)),d,e) else (a,b,c,d,e)
theorem rd3_at (L:List S22) (i:Nat) (h:i<L.length):rd_T22 L (i:Int)=L[i]:=by
 show L.getD i z22=L[i]
 rw [List.getD_eq_getElem?_getD,List.getElem?_eq_getElem h];rfl
theorem take_map_snoc {β:Type} (L:List S22) (f:S22→β) (i:Nat) (h:i<L.length):(L.take i).map f++[f (rd_T22 L (i:Int))]=(L.take (i+1)).map f:=by
 rw [rd3_at L i h,List.take_succ_eq_append_getElem h,List.map_append];rfl
theorem contains3l {F:Int→Int→Int→Option Bool} {p:S22→Bool} (hF:∀ x:S22,F x.f0 x.f1 x.f2=some (p x)) (L:List S22) (hL:L.length≤100):∀ (d k i:Nat),i+d=L.length→d<k →
  ∃ r,slices_IndexFunc_3_int_3_int.l0 F k L (L.length:Int) (i:Int)=some r∧decide (r ≥ 0)=(L.drop i).any p:=by
 intro d
 induction d with
 | zero =>
  intro k i hi hk
  obtain⟨k,rfl⟩:∃ m,k=m+1:=⟨k-1,by omega⟩
  refine⟨-1,?_,?_⟩
  ·rw [slices_IndexFunc_3_int_3_int.l0]
   exact no_of (by omega) rfl
  ·rw [List.drop_of_length_le (by omega)]
   rfl
 | succ d ih =>
  intro k i hi hk
  obtain⟨k,rfl⟩:∃ m,k=m+1:=⟨k-1,by omega⟩
  have hlt:i<L.length:=by omega
  rw [List.drop_eq_getElem_cons hlt,List.any_cons]
  cases hp:p L[i]
  ·obtain⟨r,h1,h2⟩:=ih k (i+1) (by omega) (by omega)
   refine⟨r,?_,by rw [h2,Bool.false_or]⟩
   rw [slices_IndexFunc_3_int_3_int.l0]
   refine yes_of (by omega) (yes_of (by omega) (yes_of (by omega) ?_))
   rw [rd3_at L i hlt]
   refine bind_of (hF _) ?_
   rw [hp]
   refine no_of (by decide) ?_
   rw [w64 (by omega) (by omega)]
   exact h1
  ·refine⟨(i:Int),?_,by rw [Bool.true_or];exact decide_eq_true (by omega)⟩
   rw [slices_IndexFunc_3_int_3_int.l0]
   refine yes_of (by omega) (yes_of (by omega) (yes_of (by omega) ?_))
   rw [rd3_at L i hlt]
   refine bind_of (hF _) ?_
   rw [hp]
   exact yes_of rfl rfl
theorem contains3_is {F:Int→Int→Int→Option Bool} {p:S22→Bool} (hF:∀ x:S22,F x.f0 x.f1 x.f2=some (p x)) (L:List S22) (hL:L.length≤100) (k:Nat) (hk:101<k):slices_ContainsFunc_3_int_3_int.f F k L=some (L.any p):=by
 obtain⟨r,h1,h2⟩:=contains3l hF L hL L.length k 0 (by omega) (by omega)
 unfold slices_ContainsFunc_3_int_3_int.f slices_IndexFunc_3_int_3_int.f
 refine bind_of h1 ?_
 rw [h2,List.drop_zero]
theorem mean_v (l:List Int) (k:Nat):∃ b,sum_Mean.f (k+150) l=some (mnv l,b):=⟨_,mean_is l k⟩
theorem learn_l0 (L x1:List S22) (hL:L.length≤64) (a b c d e:Int):∀ (m K i:Nat),i+m=L.length→150≤K→sense_Learn.l0 (K+m+1) x1 ((L.take i).map (·.f0)) L (i:Int) (L.length:Int) a b c d e=sense_Learn.l1 K x1 [] x1 0 (x1.length:Int) (mnv (L.map (·.f0))) b c d e:=by
 intro m
 induction m with
 | zero =>
  intro K i hi hK
  rw [sense_Learn.l0,List.take_of_length_le (by omega)]
  obtain⟨q,hq⟩:=mean_v (L.map (·.f0)) (K-150)
  rw [show K-150+150=K by omega] at hq
  exact no_of (by omega) (bind_of hq rfl)
 | succ m ih =>
  intro K i hi hK
  have hlt:i<L.length:=by omega
  rw [show K+(m+1)+1=(K+m+1)+1 by omega,sense_Learn.l0]
  refine yes_of (by omega) (yes_of (by omega) (yes_of (by omega) (yes_of (by rw [List.length_map,List.length_take];omega) ?_)))
  rw [take_map_snoc L (·.f0) i hlt,w64 (by omega) (by omega)]
  exact ih K (i+1) (by omega) hK
theorem learn_l1 (L x1:List S22) (hL:L.length≤64) (a b c d e:Int):∀ (m K i:Nat),i+m=L.length→150≤K→sense_Learn.l1 (K+m+1) x1 ((L.take i).map (·.f1)) L (i:Int) (L.length:Int) a b c d e=sense_Learn.l2 K [] x1 0 (x1.length:Int) a (mnv (L.map (·.f1))) c d e:=by
 intro m
 induction m with
 | zero =>
  intro K i hi hK
  rw [sense_Learn.l1,List.take_of_length_le (by omega)]
  obtain⟨q,hq⟩:=mean_v (L.map (·.f1)) (K-150)
  rw [show K-150+150=K by omega] at hq
  exact no_of (by omega) (bind_of hq rfl)
 | succ m ih =>
  intro K i hi hK
  have hlt:i<L.length:=by omega
  rw [show K+(m+1)+1=(K+m+1)+1 by omega,sense_Learn.l1]
  refine yes_of (by omega) (yes_of (by omega) (yes_of (by omega) (yes_of (by rw [List.length_map,List.length_take];omega) ?_)))
  rw [take_map_snoc L (·.f1) i hlt,w64 (by omega) (by omega)]
  exact ih K (i+1) (by omega) hK
theorem learn_l2 (L:List S22) (hL:L.length≤64) (a b c d e:Int):∀ (m K i:Nat),i+m=L.length→150≤K→sense_Learn.l2 (K+m+1) ((L.take i).map (·.f2)) L (i:Int) (L.length:Int) a b c d e=some (a,b,mnv (L.map (·.f2)),d,e):=by
 intro m
 induction m with
 | zero =>
  intro K i hi hK
  rw [sense_Learn.l2,List.take_of_length_le (by omega)]
  obtain⟨q,hq⟩:=mean_v (L.map (·.f2)) (K-150)
  rw [show K-150+150=K by omega] at hq
  exact no_of (by omega) (bind_of hq rfl)
 | succ m ih =>
  intro K i hi hK
  have hlt:i<L.length:=by omega
  rw [show K+(m+1)+1=(K+m+1)+1 by omega,sense_Learn.l2]
  refine yes_of (by omega) (yes_of (by omega) (yes_of (by omega) (yes_of (by rw [List.length_map,List.length_take];omega) ?_)))
  rw [take_map_snoc L (·.f2) i hlt,w64 (by omega) (by omega)]
  exact ih K (i+1) (by omega) hK
theorem any_not (p:S22→Bool) (L:List S22):L.any (fun x=>!p x)=!L.all p:=by
 induction L with
 | nil=>rfl
 | cons x L ih=>rw [List.any_cons,List.all_cons,ih,Bool.not_and]
theorem learn_is (a b c d e:Int) (l:List S22):sense_Learn.f 400 a b c d e l=some (learnv a b c d e (l.take 64)):=by
 have hm:0≤mn (l.length:Int) 64∧mn (l.length:Int) 64≤(l.length:Int)∧l.take (mn (l.length:Int) 64).toNat=l.take 64:=by
  unfold mn
  split
  ·exact⟨by omega,by omega,rfl⟩
  ·refine⟨by omega,by omega,?_⟩
   rw [Int.toNat_natCast,List.take_length,List.take_of_length_le (by omega)]
 obtain⟨L,hL⟩:∃ L,l.take 64=L:=⟨_,rfl⟩
 have hl:L.length≤64:=by rw [←hL,List.length_take];omega
 unfold sense_Learn.f learnv
 refine yes_of hm.1 (yes_of hm.2.1 (bind_of (congrArg some (hm.2.2.trans hL)) ?_))
 rw [hL]
 refine bind_of (sane5_is a b c d e 396) ?_
 cases hs:sane5 a b c d e
 ·refine no_of (by decide) ?_
  rw [sense_Learn.j0]
  exact yes_of rfl rfl
 ·refine yes_of rfl ?_
  by_cases h0:(L.length:Int)=0
  ·refine yes_of h0 ?_
   have:L=[]:=List.length_eq_zero_iff.mp (by omega)
   rw [sense_Learn.j0,this]
   exact yes_of rfl rfl
  ·refine no_of h0 ?_
   have hne:L.isEmpty=false:=by
    cases L
    ·simp at h0
    ·rfl
   have hF:∀ x:S22,sense_Learn_1.f 400 x.f0 x.f1 x.f2=some (!vb3 x):=fun x=>bind_of (values_is3 x.f0 x.f1 x.f2 396) rfl
   refine bind_of (contains3_is hF L (by omega) 400 (by omega)) ?_
   rw [any_not vb3 L,sense_Learn.j0]
   cases ha:L.all vb3
   ·refine yes_of rfl ?_
    simp
   ·refine no_of (by decide) ?_
    rw [show(399:Nat)=(399-L.length-1)+L.length+1 by omega]
    refine(learn_l0 L L hl a b c d e L.length (399-L.length-1) 0 (by omega) (by omega)).trans ?_
    rw [show 399-L.length-1=(399-L.length-1-L.length-1)+L.length+1 by omega]
    refine(learn_l1 L L hl _ b c d e L.length (399-L.length-1-L.length-1) 0 (by omega) (by omega)).trans ?_
    rw [show 399-L.length-1-L.length-1=(399-L.length-1-L.length-1-L.length-1)+L.length+1 by omega]
    refine(learn_l2 L hl _ _ c d e L.length (399-L.length-1-L.length-1-L.length-1) 0 (by omega) (by omega)).trans ?_
    rw [hne]
    rfl
end Go.Proofs.Ytonfobdknnlbjaa.Learn
end
section
namespace Go.Proofs.Ytonfobdknnlbjaa.Pure
open Go Go.RowKit Go.Proofs.Ytonfobdknnlbjaa.B Go.Proofs.Ytonfobdknnlbjaa.Num Go.Proofs.Ytonfobdknnlbjaa.Wide Go.Proofs.Ytonfobdknnlbjaa.Sum Go.Proofs.Ytonfobdknnlbjaa.Rwide Go.Proofs.Ytonfobdknnlbjaa.Rsum Go.Proofs.Ytonfobdknnlbjaa.Over Go.Proofs.Ytonfobdknnlbjaa.Quot Go.Proofs.Ytonfobdknnlbjaa.Rquot Go.Proofs.Ytonfobdknnlbjaa.Vecn Go.Proofs.Ytonfobdknnlbjaa.Learn Go.Proofs.YtonfobdknnlbjaaW.PrintWords Go.Proofs.YtonfobdknnlbjaaW.PrintLast Go.Proofs.YtonfobdknnlbjaaW.PrintMore
set_option linter.unusedVariables false
theorem mnv_bd (l:List Int):-288230376151711744≤mnv l∧mnv l≤288230376151711744:=by
 unfold mnv
 split
 ·exact⟨by decide,by decide⟩
 ·rename_i h
  have hp:0<(l.take 64).length:=by
   rw [List.length_take]
   cases l
   ·exact absurd rfl h
   ·simp;omega
  obtain⟨L,hL⟩:∃ L,l.take 64=L:=⟨_,rfl⟩
  rw [hL] at hp ⊢
  have hb:=tot_bd (b:=288230376151711744) (cls L) (cls_bd L)
  rw [show(cls L).length=L.length by simp [cls]] at hb
  obtain⟨S,hS⟩:∃ S,tot (cls L)=S:=⟨_,rfl⟩
  rw [hS] at hb ⊢
  show -288230376151711744≤mean S (L.length:Int)∧mean S (L.length:Int)≤288230376151711744
  obtain⟨n,hn⟩:∃ n:Int,(L.length:Int)=n:=⟨_,rfl⟩
  rw [hn] at hb ⊢
  have hn0:0<n:=by omega
  unfold mean
  constructor
  ·refine(Int.le_ediv_iff_mul_le (by omega)).mpr ?_
   omega
  ·have:=Int.ediv_lt_of_lt_mul (a:=2*S+n) (b:=288230376151711745) (c:=2*n) (by omega) (by omega)
   omega
theorem tot_same (v:Int) (n:Nat):tot (List.replicate n v)=n*v:=by
 induction n with
 | zero=>simp [tot]
 | succ n ih =>
  rw [List.replicate_succ,tot_cons,ih]
  rw [show((n+1:Nat):Int)=(n:Int)+1 by omega,Int.add_mul,Int.one_mul,Int.add_comm]
theorem mnv_same {v:Int} (hv:cl v=v) {n:Nat} (h0:0<n) (h1:n≤64):mnv (List.replicate n v)=v:=by
 unfold mnv
 rw [if_neg (by intro h;have:=congrArg List.length h;simp at this;omega),List.take_of_length_le (by simp;omega)]
 have hc:cls (List.replicate n v)=List.replicate n v:=by simp [cls,hv]
 rw [hc,tot_same,List.length_replicate]
 show mean ((n:Int)*v) (n:Int)=v
 unfold mean
 rw [show 2*((n:Int)*v)+(n:Int)=(n:Int)+v*(2*(n:Int)) by grind,Int.add_mul_ediv_right _ _ (by omega),Int.ediv_eq_zero_of_lt (by omega) (by omega),Int.zero_add]
theorem bias_zero {a b c d e:Int} (h:sane5 a b c d e=true):readv a b c d e a b c=(0,0,0,true):=by
 obtain⟨h1,h2,h3,h4,h5,h6,h7⟩:=sane5_says h
 have hs:∀ n,cl n=n→sv n n=(0,false):=by
  intro n hn
  unfold sv cbad
  rw [hn,Int.sub_self,show cl 0=0 by decide]
  simp
 have ht:tv 0 d=(0,false):=by
  unfold tv
  rw [show cl 0=0 by decide,Int.zero_mul,show rv 0=0 by decide,show cl 0=0 by decide,h4]
  simp
 have he:=cl_is h6
 have hf:farb e 0=false:=by
  unfold farb
  rw [w64 (n:=-e) (by omega) (by omega)]
  simp
  omega
 unfold readv
 have e1:subv a b c a b c=(0,0,0,false):=by
  unfold subv three
  rw [hs a h1,hs b h2,hs c h3]
  rfl
 rw [e1]
 have e2:scv d (0,0,0,false)=(0,0,0,false):=by
  unfold scv three
  simp only
  rw [ht]
  rfl
 rw [e2]
 exact readw_yes h rfl rfl hf hf hf
theorem learn_keeps (a b c d e:Int) (l:List S22):(learnv a b c d e l).2.2.2.1=d∧(learnv a b c d e l).2.2.2.2=e ∧
  sane5 (learnv a b c d e l).1 (learnv a b c d e l).2.1 (learnv a b c d e l).2.2.1 (learnv a b c d e l).2.2.2.1 (learnv a b c d e l).2.2.2.2=sane5 a b c d e:=by
 unfold learnv
 by_cases h:(sane5 a b c d e && (!l.isEmpty && l.all vb3))=true
 ·rw [if_pos h]
  refine⟨rfl,rfl,?_⟩
  have hs:sane5 a b c d e=true:=by simp at h;exact h.1
  obtain⟨h1,h2,h3,h4,h5,h6,h7⟩:=sane5_says hs
  rw [hs]
  have f:∀ x:List Int,cl (mnv x)=mnv x:=fun x=>cl_of (mnv_bd x).1 (mnv_bd x).2
  exact sane5_mk (f _) (f _) (f _) h4 h5 h6 h7
 ·rw [if_neg h]
  exact⟨rfl,rfl,rfl⟩
theorem learn_same (a b c d e x y z:Int) {n:Nat} (h0:0<n) (h1:n≤64):learnv a b c d e ((List.replicate n (⟨x,y,z⟩:S22)).take 64)=if (sane5 a b c d e && (vb x && (vb y && vb z)))=true then (x,y,z,d,e) else (a,b,c,d,e):=by
 rw [List.take_of_length_le (by simp;omega)]
 unfold learnv
 have hne:(List.replicate n (⟨x,y,z⟩:S22)).isEmpty=false:=by
  cases n
  ·omega
  ·rfl
 have hall:(List.replicate n (⟨x,y,z⟩:S22)).all vb3=(vb x && (vb y && vb z)):=by
  rw [List.all_replicate,if_neg (by omega)]
  rfl
 rw [hne,hall]
 simp only [Bool.not_false,Bool.true_and]
 by_cases h:(sane5 a b c d e && (vb x && (vb y && vb z)))=true
 ·rw [if_pos h,if_pos h]
  simp [vb] at h
  obtain⟨_,hx,hy,hz⟩:=h
  simp only [List.map_replicate]
  rw [mnv_same hx h0 h1,mnv_same hy h0 h1,mnv_same hz h0 h1]
 ·rw [if_neg h,if_neg h]
theorem learns_j2 (l3:List S22) (a b c d e x y z:Int) {n:Nat} (h0:0<n) (h1:n≤64) (K:Nat) (hK:500≤K):outriggerlaw18_SenseLearns.j2 K l3 true (List.replicate n ⟨x,y,z⟩) (sane5 a b c d e && (vb x && (vb y && vb z))) a b c d e x y z=some true:=by
 obtain⟨K,rfl⟩:∃ m,K=m+2:=⟨K-2,by omega⟩
 have hd:=at_rounds (sense_Learn.mono a b c d e (List.replicate n ⟨x,y,z⟩)) (show 400≤K+1 by omega) (learn_is a b c d e (List.replicate n ⟨x,y,z⟩))
 have he:=at_rounds (sense_Learn.mono a b c d e l3) (show 400≤K+1 by omega) (learn_is a b c d e l3)
 rw [learn_same a b c d e x y z h0 h1] at hd
 obtain⟨k1,k2,k3⟩:=learn_keeps a b c d e (l3.take 64)
 have hs:∀ p q r s t,sense_Sane.f (K+1) p q r s t=some (sane5 p q r s t):=fun p q r s t=>by
  have:=sane5_is p q r s t (K+1-4)
  rwa [show K+1-4+4=K+1 by omega] at this
 rw [outriggerlaw18_SenseLearns.j2]
 refine bind_of hd (bind_of he (bind_of (hs _ _ _ _ _) (bind_of (hs _ _ _ _ _) ?_)))
 rw [k3]
 refine no_of (by simp) (yes_of k1 ?_)
 rw [k2,show(e != e)=false by simp,outriggerlaw18_SenseLearns.j3]
 refine no_of (by decide) ?_
 by_cases h:(sane5 a b c d e && (vb x && (vb y && vb z)))=true
 ·rw [if_pos h,if_pos h]
  simp [vb] at h
  obtain⟨hq,hx,hy,hz⟩:=h
  obtain⟨g1,g2,g3,g4,g5,g6,g7⟩:=sane5_says hq
  have hr:=read_is x y z d e x y z (K-4)
  rw [show K-4+4=K by omega,bias_zero (sane5_mk hx hy hz g4 g5 g6 g7)] at hr
  exact bind_of hr (yes_of rfl (yes_of (by simp) (yes_of rfl (by simp))))
 ·rw [if_neg h,if_neg h]
  exact yes_of rfl (by simp)
theorem learns_l0 (l3:List S22) (a b c d e x y z:Int) {n:Nat} (h0:0<n) (h1:n≤64):∀ (m K i:Nat),i+m=n→600≤K→outriggerlaw18_SenseLearns.l0 (K+m+1) (n:Int) l3 true (List.replicate i ⟨x,y,z⟩) (sane5 a b c d e) (i:Int) a b c d e x y z=some true:=by
 intro m
 induction m with
 | zero =>
  intro K i hi hK
  obtain rfl:i=n:=by omega
  rw [outriggerlaw18_SenseLearns.l0]
  have key:=learns_j2 l3 a b c d e x y z h0 h1 K (by omega)
  refine no_of (by omega) (bind_of (clamp_is x) ?_)
  cases hs:sane5 a b c d e
  ·rw [hs,Bool.false_and] at key
   exact no_of (by decide) (bind_of (clamp_is y) (bind_of (clamp_is z) key))
  ·rw [hs,Bool.true_and] at key
   refine yes_of rfl (bind_of (clamp_is y) ?_)
   cases hx:(cl x != x)
   ·refine no_of (by simp) (bind_of (clamp_is z) ?_)
    cases hy:(cl y != y)
    ·refine no_of (by simp) ?_
     have:(vb x && (vb y && vb z))=!(cl z != z):=by unfold vb;rw [hx,hy];rfl
     rw [this] at key
     exact key
    ·refine yes_of rfl ?_
     have:(vb x && (vb y && vb z))=false:=by unfold vb;rw [hx,hy];rfl
     rw [this] at key
     exact key
   ·refine yes_of rfl (bind_of (clamp_is z) ?_)
    have:(vb x && (vb y && vb z))=false:=by unfold vb;rw [hx];rfl
    rw [this] at key
    exact key
 | succ m ih =>
  intro K i hi hK
  rw [show K+(m+1)+1=(K+m+1)+1 by omega,outriggerlaw18_SenseLearns.l0]
  refine yes_of (by omega) (yes_of (by simp;omega) ?_)
  rw [←List.replicate_succ',w64 (by omega) (by omega)]
  exact ih K (i+1) (by omega) hK
theorem SenseLearns (a0_0 a0_1 a0_2 a0_3 a0_4 a1_0 a1_1 a1_2 a2:Int) (l3:List S22) (w0_0:(Lit.int .i64 a0_0).wf=true) (w0_1:(Lit.int .i64 a0_1).wf=true) (w0_2:(Lit.int .i64 a0_2).wf=true) (w0_3:(Lit.int .i64 a0_3).wf=true) (w0_4:(Lit.int .i64 a0_4).wf=true)
  (w1_0:(Lit.int .i64 a1_0).wf=true) (w1_1:(Lit.int .i64 a1_1).wf=true) (w1_2:(Lit.int .i64 a1_2).wf=true) (w2:(Lit.int .i64 a2).wf=true) (hm3:l3.length≤maxLen):∃ k,outriggerlaw18_SenseLearns.f k a0_0 a0_1 a0_2 a0_3 a0_4 a1_0 a1_1 a1_2 a2 l3=some true:=by
 refine⟨1000,?_⟩
 have aw:outriggerlaw18_awake.f 1000=some true:=at_rounds outriggerlaw18_awake.mono (by decide) outriggerlaw18_awake.known
 unfold outriggerlaw18_SenseLearns.f
 refine bind_of aw ?_
 have skip:outriggerlaw18_SenseLearns.j0 1000 a2 l3 true true a0_0 a0_1 a0_2 a0_3 a0_4 a1_0 a1_1 a1_2=some true:=by
  rw [outriggerlaw18_SenseLearns.j0]
  exact yes_of rfl rfl
 by_cases c1:(l3.length:Int) > 100
 ·exact yes_of c1 skip
 ·refine no_of c1 ?_
  by_cases c2:a2<1
  ·exact yes_of c2 skip
  ·refine no_of c2 ?_
   by_cases c3:a2 > 64
   ·rw [decide_eq_true c3]
    exact skip
   ·rw [decide_eq_false c3,outriggerlaw18_SenseLearns.j0]
    refine no_of (by decide) (bind_of (sane5_is _ _ _ _ _ 995) ?_)
    obtain⟨n,rfl⟩:∃ n:Nat,a2=n:=⟨a2.toNat,by omega⟩
    have:=learns_l0 l3 a0_0 a0_1 a0_2 a0_3 a0_4 a1_0 a1_1 a1_2 (n:=n) (by omega) (by omega) n (998-n) 0 (by omega) (by omega)
    rw [show 998-n+n+1=999 by omega] at this
    exact this
end Go.Proofs.Ytonfobdknnlbjaa.Pure
end
section
namespace Go.Proofs.Ytonfobdknnlbjaa
open Go Go.Proofs.YtonfobdknnlbjaaW.PrintWords Go.ChangeShapes Go.WideShapes Go.ChangeAt Go.RowKit Go.Joins Go.Deep
theorem array5 {α:Type} {cs:Array α} (h:cs.size=5):∃ c0 c1 c2 c3 c4,cs=#[c0,c1,c2,c3,c4]:=by
 obtain⟨l⟩:=cs
 match l,h with
 | [c0,c1,c2,c3,c4],_=>exact⟨c0,c1,c2,c3,c4,rfl⟩
theorem cells3:Try.prog.cellsOf 3=1:=by kernel_rfl
theorem cells22:Try.prog.cellsOf 22=3:=by kernel_rfl
theorem cells24:Try.prog.cellsOf 24=5:=by kernel_rfl
theorem int_cell {H:Type} {enc:TypeId × Value→H} {w:World} {base:Nat} {sp:Nat→Bool} {held:Bool} {fuel:Nat} {c:Value} {y:DataW H × List MemPlace}
  (h:DataW.trod enc Try.prog w base sp held fuel 3 [c]=some y):∃ n,c=.int .i64 n∧(Lit.int .i64 n).wf=true:=by
 obtain⟨n,e,-,wf⟩:=DataW.trod_int Try.underlying3 h
 simp at e
 exact⟨n,e,wf⟩
theorem array3 {α:Type} {cs:Array α} (h:cs.size=3):∃ c0 c1 c2,cs=#[c0,c1,c2]:=by
 obtain⟨l⟩:=cs
 match l,h with
 | [c0,c1,c2],_=>exact⟨c0,c1,c2,rfl⟩
theorem open_cal {H:Type} {enc:TypeId × Value→H} {w:World} {base:Nat} {sp:Nat→Bool} {held:Bool} {r:Reach} {b0:Nat} {v:Value} {d:DataW H} {p:List MemPlace}
  (hv:Value.okWide Try.prog w r b0 24 v) (h:DataW.Trod enc Try.prog w base sp held 24 v d p) :
  ∃ a b c e f:Int,v=.agg #[.int .i64 a,.int .i64 b,.int .i64 c,.int .i64 e,.int .i64 f]∧(Lit.int .i64 a).wf=true∧(Lit.int .i64 b).wf=true∧(Lit.int .i64 c).wf=true∧(Lit.int .i64 e).wf=true∧(Lit.int .i64 f).wf=true:=by
 obtain⟨cs,rfl,hsz⟩:=okWide_struct Try.underlying24 hv
 obtain⟨c0,c1,c2,c3,c4,rfl⟩:=array5 (hsz.trans cells24)
 obtain⟨fuel,hf⟩:=h
 obtain⟨y0,y1,y2,n,_,_,h0,h1,h2⟩:=trod_struct3 Try.underlying24 hf
 simp [Value.cells,cells3,cells22] at h0 h1 h2
 obtain⟨z0,z1,z2,m,_,g0,g1,g2⟩:=trod_array3 Try.underlying22 cells3 h0
 obtain⟨a,rfl,wa⟩:=int_cell g0
 obtain⟨b,rfl,wb⟩:=int_cell g1
 obtain⟨c,rfl,wc⟩:=int_cell g2
 obtain⟨e,rfl,we⟩:=int_cell h1
 obtain⟨f,rfl,wf⟩:=int_cell h2
 exact⟨a,b,c,e,f,rfl,wa,wb,wc,we,wf⟩
theorem okWide_array {P:Program} {w:World} {r:Reach} {base:Nat} {t e:TypeId} {n:Nat} {v:Value} (ht:P.underlying t=some (.array n e)) (h:Value.okWide P w r base t v):∃ cs,v=.agg cs∧cs.size=P.cellsOf t:=by
 simp only [Value.okWide,ht] at h
 obtain⟨cs,h1,h2,_⟩:=h
 exact⟨cs,h1,h2⟩
theorem open_arr {H:Type} {enc:TypeId × Value→H} {w:World} {base:Nat} {sp:Nat→Bool} {held:Bool} {r:Reach} {b0:Nat} {v:Value} {d:DataW H} {p:List MemPlace}
  (hv:Value.okWide Try.prog w r b0 22 v) (h:DataW.Trod enc Try.prog w base sp held 22 v d p) :
  ∃ a b c:Int,v=.agg #[.int .i64 a,.int .i64 b,.int .i64 c]∧(Lit.int .i64 a).wf=true∧(Lit.int .i64 b).wf=true∧(Lit.int .i64 c).wf=true:=by
 obtain⟨cs,rfl,hsz⟩:=okWide_array Try.underlying22 hv
 obtain⟨c0,c1,c2,rfl⟩:=array3 (hsz.trans cells22)
 obtain⟨fuel,hf⟩:=h
 obtain⟨z0,z1,z2,m,_,g0,g1,g2⟩:=trod_array3 Try.underlying22 cells3 hf
 obtain⟨a,rfl,wa⟩:=int_cell g0
 obtain⟨b,rfl,wb⟩:=int_cell g1
 obtain⟨c,rfl,wc⟩:=int_cell g2
 exact⟨a,b,c,rfl,wa,wb,wc⟩
theorem open_kd {α:Type} [Inhabited α] (d:Kd α) (Q:α→Prop) {H:Type} {enc:TypeId × Value→H} {P:Program} {w:World} {base:Nat} {spare:Nat→Bool} {held:Bool} {t e:TypeId} (ht:P.underlying t=some (.slice e)) (hc:P.cellsOf e=d.sz)
  (hel:∀ n cs y,cs.length=d.sz→DataW.trod enc P w base spare held n e cs=some y→∃ x,d.K w x cs∧Q x)
  {a:Option Addr} {len cap:Nat} {dd:DataW H} {pp:List MemPlace} (h:DataW.Trod enc P w base spare held t (.slice a len cap) dd pp) :
  ∃ l:List α,len=l.length∧Kd.C d w a l.length l∧l.length≤maxLen∧l.length≤cap∧∀ x ∈ l,Q x:=by
 obtain⟨fuel,hf⟩:=h
 rcases Go.Deep.open_slice ht hf with ⟨hcs,_⟩|⟨x,len',cap',m,n,D,Pl,hcs,_,hl,hm,hmm,_,hx⟩
 ·simp [Value.cells] at hcs
  obtain⟨rfl,rfl,rfl⟩:=hcs
  exact⟨[],rfl,⟨rfl,by simp,fun h=>absurd h (by simp)⟩,by simp,by simp,by simp⟩
 ·simp [Value.cells] at hcs
  obtain⟨rfl,rfl,rfl⟩:=hcs
  have hM:(maxLen:Nat)≤9223372036854775807:=by decide
  have hlm:len≤m:=by rw [hmm];split<;>omega
  have each:∀ i,i<len→∃ p:α × List Value,d.K w p.1 p.2∧Q p.1∧p.2.length=d.sz∧∀ c u,p.2[c]? = some u→w.cell? (x.add (i*d.sz+c))=some u:=by
   intro i hi
   obtain⟨cs',h1,h2⟩:=hx i (by omega)
   rw [hc] at h1
   obtain⟨_,hlen,hcell⟩:=World.cells?_some h1
   obtain⟨y,hk,hq⟩:=hel _ _ _ hlen h2
   refine⟨(y,cs'),hk,hq,hlen,fun c u hu=>?_⟩
   have hcl:c<cs'.length:=(List.getElem?_eq_some_iff.1 hu).1
   have h3:=hcell c (by omega)
   rw [Go.Deep.add_add] at h3
   rw [h3]
   exact hu
  have:Inhabited (List Value):=⟨[]⟩
  obtain⟨f,hf2⟩:=Go.Deep.choose_lt each
  have hlen:((List.range len).map fun i=>(f i).1).length=len:=by simp
  refine⟨(List.range len).map fun i=>(f i).1,hlen.symm,⟨rfl,by omega,fun _=>⟨x,rfl,?_⟩⟩,by omega,by omega,?_⟩
  ·intro j p hj
   have hjl:j<len:=by
    have:=(List.getElem?_eq_some_iff.1 hj).1
    omega
   rw [List.getElem?_map,List.getElem?_range hjl] at hj
   have hp:p=(f j).1:=(Option.some.inj hj).symm
   subst hp
   obtain⟨hk,_,hl2,hcell⟩:=hf2 j hjl
   exact⟨(f j).2,hl2,hk,fun i u hu=>hcell i u hu⟩
  ·intro y hy
   obtain⟨j,hj,rfl⟩:=List.mem_map.1 hy
   exact(hf2 j (List.mem_range.1 hj)).2.1
instance:Inhabited B.S22:=⟨B.z22⟩
theorem open_threes {H:Type} {enc:TypeId × Value→H} {w:World} {base:Nat} {spare:Nat→Bool} {held:Bool} {a:Option Addr} {len cap:Nat} {dd:DataW H} {pp:List MemPlace}
  (h:DataW.Trod enc Try.prog w base spare held 25 (.slice a len cap) dd pp) :
  ∃ l:List B.S22,len=l.length∧Kd.C B.k22 w a l.length l∧l.length≤maxLen∧l.length≤cap∧∀ x ∈ l,(Lit.int .i64 x.f0).wf=true∧(Lit.int .i64 x.f1).wf=true∧(Lit.int .i64 x.f2).wf=true:=by
 refine open_kd B.k22 _ Try.underlying25 (by kernel_rfl) ?_ h
 intro n cs y hl hy
 match cs,hl with
 | [c0,c1,c2],_ =>
  obtain⟨z0,z1,z2,m,_,g0,g1,g2⟩:=trod_array3 Try.underlying22 cells3 hy
  obtain⟨a,rfl,wa⟩:=int_cell g0
  obtain⟨b,rfl,wb⟩:=int_cell g1
  obtain⟨c,rfl,wc⟩:=int_cell g2
  exact⟨⟨a,b,c⟩,B.k22_mk w ⟨a,b,c⟩,wa,wb,wc⟩
end Go.Proofs.Ytonfobdknnlbjaa
end
