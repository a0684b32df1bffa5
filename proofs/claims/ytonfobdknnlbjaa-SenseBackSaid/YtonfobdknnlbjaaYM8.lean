/- Lemmas of the rows, laid by a program. -/
import Derived.Test.YtonfobdknnlbjaaYM1
import Derived.Test.YtonfobdknnlbjaaYM7
import Derived.Shelf.Abstract
import Derived.LoopN
import Derived.Test.YtonfobdknnlbjaaYM4
import Derived.Test.YtonfobdknnlbjaaYM6
import Derived.Laws.BitsLemmas
import Derived.OpenShut
import Derived.Test.YtonfobdknnlbjaaYM3
section
set_option linter.unusedVariables false
set_option linter.unusedSimpArgs false
namespace Go.Proofs.Ytonfobdknnlbjaa.B
open Go.RowKit Go.Proofs.YtonfobdknnlbjaaW.PrintWords Go.Proofs.YtonfobdknnlbjaaW.PrintLast Go.Proofs.YtonfobdknnlbjaaW.PrintMore
attribute [local go_sem] max2_int min2_int max_two min_two max_three min_three max_four min_four
set_option linter.unusedVariables false
set_option linter.unusedSimpArgs false
mutual
def sense_Learn.j0:Nat→List (S22)→Bool→Int→Int→Int→Int→Int→Option (Int × Int × Int × Int × Int)
  | 0,_,_,_,_,_,_,_=>none
  | k+1,x1,x27,x333000,x333001,x333002,x333003,x333004=>if x27=true then (some (x333000,x333001,x333002,x333003,x333004)) else (sense_Learn.l0 k x1 ([]:List Int) x1 0 (x1.length:Int) x333000 x333001 x333002 x333003 x333004)
def sense_Learn.l0:Nat→List (S22)→List Int→List (S22)→Int→Int→Int→Int→Int→Int→Int→Option (Int × Int × Int × Int × Int)
  | 0,_,_,_,_,_,_,_,_,_,_=>none
  | k+1,x1,x6,x32,x34,x1033,x333000,x333001,x333002,x333003,x333004=>if x34<x1033 then (if 0≤x34 then (if x34<(x32.length:Int) then (if x6.length<17592186044416 then (sense_Learn.l0 k x1 (x6++[(rd_T22 x32 x34).f0]) x32 (wrap64 (x34+1)) x1033 x333000 x333001 x333002 x333003 x333004) else (none)) else (none)) else (none)) else ((sum_Mean.f k x6).bind fun bt345=>(sense_Learn.l1 k x1 ([]:List Int) x1 0 (x1.length:Int) bt345.1 x333001 x333002 x333003 x333004))
def sense_Learn.l1:Nat→List (S22)→List Int→List (S22)→Int→Int→Int→Int→Int→Int→Int→Option (Int × Int × Int × Int × Int)
  | 0,_,_,_,_,_,_,_,_,_,_=>none
  | k+1,x1,x6,x32,x34,x2033,x333000,x333001,x333002,x333003,x333004=>if x34<x2033 then (if 0≤x34 then (if x34<(x32.length:Int) then (if x6.length<17592186044416 then (sense_Learn.l1 k x1 (x6++[(rd_T22 x32 x34).f1]) x32 (wrap64 (x34+1)) x2033 x333000 x333001 x333002 x333003 x333004) else (none)) else (none)) else (none)) else ((sum_Mean.f k x6).bind fun bt352=>(sense_Learn.l2 k ([]:List Int) x1 0 (x1.length:Int) x333000 bt352.1 x333002 x333003 x333004))
def sense_Learn.l2:Nat→List Int→List (S22)→Int→Int→Int→Int→Int→Int→Int→Option (Int × Int × Int × Int × Int)
  | 0,_,_,_,_,_,_,_,_,_=>none
  | k+1,x6,x32,x34,x3033,x333000,x333001,x333002,x333003,x333004=>if x34<x3033 then (if 0≤x34 then (if x34<(x32.length:Int) then (if x6.length<17592186044416 then (sense_Learn.l2 k (x6++[(rd_T22 x32 x34).f2]) x32 (wrap64 (x34+1)) x3033 x333000 x333001 x333002 x333003 x333004) else (none)) else (none)) else (none)) else ((sum_Mean.f k x6).bind fun bt359=>(some (x333000,x333001,bt359.1,x333003,x333004)))
end
def sense_Learn.f (k:Nat) (a0_0:Int) (a0_1:Int) (a0_2:Int) (a0_3:Int) (a0_4:Int) (l1:List (S22)):Option (Int × Int × Int × Int × Int):=if 0≤(mn (l1.length:Int) 64) then (if (mn (l1.length:Int) 64)≤(l1.length:Int) then ((some (l1.take ((mn (l1.length:Int) 64):Int).toNat:List (S22))).bind fun y334=>((sense_Sane.f k a0_0 a0_1 a0_2 a0_3 a0_4).bind fun t338=>(if t338=true then (if (y334.length:Int)=0 then (sense_Learn.j0 k y334 true a0_0 a0_1 a0_2 a0_3 a0_4) else ((slices_ContainsFunc_3_int_3_int.f (sense_Learn_1.f k) k y334).bind fun t339=>(sense_Learn.j0 k y334 t339 a0_0 a0_1 a0_2 a0_3 a0_4))) else (sense_Learn.j0 k y334 true a0_0 a0_1 a0_2 a0_3 a0_4)))) else (none)) else (none)
theorem sense_Learn.mono_l:∀ k,(∀ y0 y1 y2 y3 y4 y5 y6,LeO (sense_Learn.j0 k y0 y1 y2 y3 y4 y5 y6) (sense_Learn.j0 (k+1) y0 y1 y2 y3 y4 y5 y6))∧(∀ y0 y1 y2 y3 y4 y5 y6 y7 y8 y9,LeO (sense_Learn.l0 k y0 y1 y2 y3 y4 y5 y6 y7 y8 y9) (sense_Learn.l0 (k+1) y0 y1 y2 y3 y4 y5 y6 y7 y8 y9))∧(∀ y0 y1 y2 y3 y4 y5 y6 y7 y8 y9,LeO (sense_Learn.l1 k y0 y1 y2 y3 y4 y5 y6 y7 y8 y9) (sense_Learn.l1 (k+1) y0 y1 y2 y3 y4 y5 y6 y7 y8 y9))∧(∀ y0 y1 y2 y3 y4 y5 y6 y7 y8,LeO (sense_Learn.l2 k y0 y1 y2 y3 y4 y5 y6 y7 y8) (sense_Learn.l2 (k+1) y0 y1 y2 y3 y4 y5 y6 y7 y8))
 | 0=>⟨fun _ _ _ _ _ _ _ r h=>by simp [sense_Learn.j0] at h,fun _ _ _ _ _ _ _ _ _ _ r h=>by simp [sense_Learn.l0] at h,fun _ _ _ _ _ _ _ _ _ _ r h=>by simp [sense_Learn.l1] at h,fun _ _ _ _ _ _ _ _ _ r h=>by simp [sense_Learn.l2] at h⟩
 | k+1=>by
  obtain⟨ih0,ih1,ih2,ih3⟩:=sense_Learn.mono_l k
  refine⟨?_,?_,?_,?_⟩
  ·intro y0 y1 y2 y3 y4 y5 y6
   unfold sense_Learn.j0
   repeat' first
   | (with_reducible exact ih0 _ _ _ _ _ _ _)
   | (with_reducible exact ih1 _ _ _ _ _ _ _ _ _ _)
   | (with_reducible exact ih2 _ _ _ _ _ _ _ _ _ _)
   | (with_reducible exact ih3 _ _ _ _ _ _ _ _ _)
   | (with_reducible exact sense_Sane.mono _ _ _ _ _ _)
   | (with_reducible exact slices_ContainsFunc_3_int_3_int.mono (fun _ _ _=>sense_Learn_1.mono _ _ _ _) _ _)
   | (with_reducible exact sum_Mean.mono _ _)
   | (with_reducible exact LeO.refl _)
   | (with_reducible exact LeO.none _)
   | (with_reducible refine LeO.ite ?_ ?_)
   | (with_reducible refine LeO.bind ?_ (fun _=>?_))
   | exact ih0 _ _ _ _ _ _ _
   | exact ih1 _ _ _ _ _ _ _ _ _ _
   | exact ih2 _ _ _ _ _ _ _ _ _ _
   | exact ih3 _ _ _ _ _ _ _ _ _
   | exact sense_Sane.mono _ _ _ _ _ _
   | exact slices_ContainsFunc_3_int_3_int.mono (fun _ _ _=>sense_Learn_1.mono _ _ _ _) _ _
   | exact sum_Mean.mono _ _
   | exact LeO.none _
   | refine LeO.ite ?_ ?_
   | refine LeO.bind ?_ (fun _=>?_)
  ·intro y0 y1 y2 y3 y4 y5 y6 y7 y8 y9
   unfold sense_Learn.l0
   repeat' first
   | (with_reducible exact ih0 _ _ _ _ _ _ _)
   | (with_reducible exact ih1 _ _ _ _ _ _ _ _ _ _)
   | (with_reducible exact ih2 _ _ _ _ _ _ _ _ _ _)
   | (with_reducible exact ih3 _ _ _ _ _ _ _ _ _)
   | (with_reducible exact sense_Sane.mono _ _ _ _ _ _)
   | (with_reducible exact slices_ContainsFunc_3_int_3_int.mono (fun _ _ _=>sense_Learn_1.mono _ _ _ _) _ _)
   | (with_reducible exact sum_Mean.mono _ _)
   | (with_reducible exact LeO.refl _)
   | (with_reducible exact LeO.none _)
   | (with_reducible refine LeO.ite ?_ ?_)
   | (with_reducible refine LeO.bind ?_ (fun _=>?_))
   | exact ih0 _ _ _ _ _ _ _
   | exact ih1 _ _ _ _ _ _ _ _ _ _
   | exact ih2 _ _ _ _ _ _ _ _ _ _
   | exact ih3 _ _ _ _ _ _ _ _ _
   | exact sense_Sane.mono _ _ _ _ _ _
   | exact slices_ContainsFunc_3_int_3_int.mono (fun _ _ _=>sense_Learn_1.mono _ _ _ _) _ _
   | exact sum_Mean.mono _ _
   | exact LeO.none _
   | refine LeO.ite ?_ ?_
   | refine LeO.bind ?_ (fun _=>?_)
  ·intro y0 y1 y2 y3 y4 y5 y6 y7 y8 y9
   unfold sense_Learn.l1
   repeat' first
   | (with_reducible exact ih0 _ _ _ _ _ _ _)
   | (with_reducible exact ih1 _ _ _ _ _ _ _ _ _ _)
   | (with_reducible exact ih2 _ _ _ _ _ _ _ _ _ _)
   | (with_reducible exact ih3 _ _ _ _ _ _ _ _ _)
   | (with_reducible exact sense_Sane.mono _ _ _ _ _ _)
   | (with_reducible exact slices_ContainsFunc_3_int_3_int.mono (fun _ _ _=>sense_Learn_1.mono _ _ _ _) _ _)
   | (with_reducible exact sum_Mean.mono _ _)
   | (with_reducible exact LeO.refl _)
   | (with_reducible exact LeO.none _)
   | (with_reducible refine LeO.ite ?_ ?_)
   | (with_reducible refine LeO.bind ?_ (fun _=>?_))
   | exact ih0 _ _ _ _ _ _ _
   | exact ih1 _ _ _ _ _ _ _ _ _ _
   | exact ih2 _ _ _ _ _ _ _ _ _ _
   | exact ih3 _ _ _ _ _ _ _ _ _
   | exact sense_Sane.mono _ _ _ _ _ _
   | exact slices_ContainsFunc_3_int_3_int.mono (fun _ _ _=>sense_Learn_1.mono _ _ _ _) _ _
   | exact sum_Mean.mono _ _
   | exact LeO.none _
   | refine LeO.ite ?_ ?_
   | refine LeO.bind ?_ (fun _=>?_)
  ·intro y0 y1 y2 y3 y4 y5 y6 y7 y8
   unfold sense_Learn.l2
   repeat' first
   | (with_reducible exact ih0 _ _ _ _ _ _ _)
   | (with_reducible exact ih1 _ _ _ _ _ _ _ _ _ _)
   | (with_reducible exact ih2 _ _ _ _ _ _ _ _ _ _)
   | (with_reducible exact ih3 _ _ _ _ _ _ _ _ _)
   | (with_reducible exact sense_Sane.mono _ _ _ _ _ _)
   | (with_reducible exact slices_ContainsFunc_3_int_3_int.mono (fun _ _ _=>sense_Learn_1.mono _ _ _ _) _ _)
   | (with_reducible exact sum_Mean.mono _ _)
   | (with_reducible exact LeO.refl _)
   | (with_reducible exact LeO.none _)
   | (with_reducible refine LeO.ite ?_ ?_)
   | (with_reducible refine LeO.bind ?_ (fun _=>?_))
   | exact ih0 _ _ _ _ _ _ _
   | exact ih1 _ _ _ _ _ _ _ _ _ _
   | exact ih2 _ _ _ _ _ _ _ _ _ _
   | exact ih3 _ _ _ _ _ _ _ _ _
   | exact sense_Sane.mono _ _ _ _ _ _
   | exact slices_ContainsFunc_3_int_3_int.mono (fun _ _ _=>sense_Learn_1.mono _ _ _ _) _ _
   | exact sum_Mean.mono _ _
   | exact LeO.none _
   | refine LeO.ite ?_ ?_
   | refine LeO.bind ?_ (fun _=>?_)
theorem sense_Learn.mono:∀ a0 a1 a2 a3 a4 a5 k,LeO (sense_Learn.f k a0 a1 a2 a3 a4 a5) (sense_Learn.f (k+1) a0 a1 a2 a3 a4 a5):=by
 intro a0 a1 a2 a3 a4 a5 k
 obtain⟨ih0,ih1,ih2,ih3⟩:=sense_Learn.mono_l k
 unfold sense_Learn.f
 repeat' first
   | (with_reducible exact ih0 _ _ _ _ _ _ _)
   | (with_reducible exact ih1 _ _ _ _ _ _ _ _ _ _)
   | (with_reducible exact ih2 _ _ _ _ _ _ _ _ _ _)
   | (with_reducible exact ih3 _ _ _ _ _ _ _ _ _)
   | (with_reducible exact sense_Sane.mono _ _ _ _ _ _)
   | (with_reducible exact slices_ContainsFunc_3_int_3_int.mono (fun _ _ _=>sense_Learn_1.mono _ _ _ _) _ _)
   | (with_reducible exact sum_Mean.mono _ _)
   | (with_reducible exact LeO.refl _)
   | (with_reducible exact LeO.none _)
   | (with_reducible refine LeO.ite ?_ ?_)
   | (with_reducible refine LeO.bind ?_ (fun _=>?_))
   | exact ih0 _ _ _ _ _ _ _
   | exact ih1 _ _ _ _ _ _ _ _ _ _
   | exact ih2 _ _ _ _ _ _ _ _ _ _
   | exact ih3 _ _ _ _ _ _ _ _ _
   | exact sense_Sane.mono _ _ _ _ _ _
   | exact slices_ContainsFunc_3_int_3_int.mono (fun _ _ _=>sense_Learn_1.mono _ _ _ _) _ _
   | exact sum_Mean.mono _ _
   | exact LeO.none _
   | refine LeO.ite ?_ ?_
   | refine LeO.bind ?_ (fun _=>?_)
set_option maxHeartbeats 8000000 in
set_option maxRecDepth 100000 in
theorem sense_Learn.calls (k:Nat) (a0_0:Int) (a0_1:Int) (a0_2:Int) (a0_3:Int) (a0_4:Int) (A1:Option Addr) (c1:Nat) (l1:List (S22)) (r1:Int) (r2:Int) (r3:Int) (r4:Int) (r5:Int) (w:World) (hr1:Kd.C k22 w A1 l1.length l1) (hc1:l1.length≤c1) (h:sense_Learn.f k a0_0 a0_1 a0_2 a0_3 a0_4 l1=some (r1,r2,r3,r4,r5)) :
  Calls Try.prog 15 #[.agg #[.int .i64 a0_0,.int .i64 a0_1,.int .i64 a0_2,.int .i64 a0_3,.int .i64 a0_4],.slice A1 l1.length c1] w fun e w'=>e=.returned (.agg #[.int .i64 r1,.int .i64 r2,.int .i64 r3,.int .i64 r4,.int .i64 r5])∧Below w.heap.size w w':=by
 have hu24:=Try.underlying24
 have hu22:=Try.underlying22
 have HR1:=Aside0.mk hr1
 have HC1:=Aside0.mk hc1
 clear hr1 hc1
 have HB:=Aside0.mk (Below.refl w.heap.size w)
 have H:(if 0≤(mn (l1.length:Int) 64) then (if (mn (l1.length:Int) 64)≤(l1.length:Int) then ((some (l1.take ((mn (l1.length:Int) 64):Int).toNat:List (S22))).bind fun y334=>((sense_Sane.f k a0_0 a0_1 a0_2 a0_3 a0_4).bind fun t338=>(if t338=true then (if (y334.length:Int)=0 then (sense_Learn.j0 k y334 true a0_0 a0_1 a0_2 a0_3 a0_4) else ((slices_ContainsFunc_3_int_3_int.f (sense_Learn_1.f k) k y334).bind fun t339=>(sense_Learn.j0 k y334 t339 a0_0 a0_1 a0_2 a0_3 a0_4))) else (sense_Learn.j0 k y334 true a0_0 a0_1 a0_2 a0_3 a0_4)))) else (none)) else (none))=some (r1,r2,r3,r4,r5):=h
 clear h
 obtain⟨ji3,hji3⟩:∃ j_:Int,(mn (l1.length:Int) 64)=j_:=⟨_,rfl⟩
 replace H:(if 0≤(ji3) then (if (ji3)≤(l1.length:Int) then ((some (l1.take ((ji3):Int).toNat:List (S22))).bind fun y334=>((sense_Sane.f k a0_0 a0_1 a0_2 a0_3 a0_4).bind fun t338=>(if t338=true then (if (y334.length:Int)=0 then (sense_Learn.j0 k y334 true a0_0 a0_1 a0_2 a0_3 a0_4) else ((slices_ContainsFunc_3_int_3_int.f (sense_Learn_1.f k) k y334).bind fun t339=>(sense_Learn.j0 k y334 t339 a0_0 a0_1 a0_2 a0_3 a0_4))) else (sense_Learn.j0 k y334 true a0_0 a0_1 a0_2 a0_3 a0_4)))) else (none)) else (none))=some (r1,r2,r3,r4,r5):=by first|(rw [hji3] at H;exact H)|(simp only [hji3] at H ⊢;exact H)
 (try (have hji3h:ji3≤64:=by (rw [←hji3];unfold mn;(repeat' split)<;>omega)))
 (try (have hji3g:ji3≤64:=by omega))
 (try (have hji3l:0≤ji3:=by (rw [←hji3];unfold mn;(repeat' split)<;>omega)))
 (try (have hji3m:0≤ji3:=by omega))
 have hji3_:(if 64<(l1.length:Int) then 64 else (l1.length:Int))=ji3:=hji3
 by_cases c4:0≤(ji3)
 ·rw [if_pos c4] at H
  have c4b0:=eq_true c4
  have c4b1:decide (0≤(ji3))=true:=decide_eq_true c4
  clear c4
  by_cases c5:(ji3)≤(l1.length:Int)
  ·rw [if_pos c5] at H
   have c5b0:=eq_true c5
   have c5b1:decide ((ji3)≤(l1.length:Int))=true:=decide_eq_true c5
   clear c5
   obtain⟨y334,hy334⟩:∃ y_:List (S22),y_=(l1.take ((ji3):Int).toNat):=⟨_,rfl⟩
   replace H:((sense_Sane.f k a0_0 a0_1 a0_2 a0_3 a0_4).bind fun t338=>(if t338=true then (if (y334.length:Int)=0 then (sense_Learn.j0 k y334 true a0_0 a0_1 a0_2 a0_3 a0_4) else ((slices_ContainsFunc_3_int_3_int.f (sense_Learn_1.f k) k y334).bind fun t339=>(sense_Learn.j0 k y334 t339 a0_0 a0_1 a0_2 a0_3 a0_4))) else (sense_Learn.j0 k y334 true a0_0 a0_1 a0_2 a0_3 a0_4)))=some (r1,r2,r3,r4,r5):=by first|(rw [hy334];with_reducible exact H)|(have H2_:=(Option.bind_some _ _).symm.trans H;rw [hy334];with_reducible exact H2_)|(have H2_:=(Option.bind_some _ _).symm.trans H;with_reducible exact H2_)|with_reducible exact H|(rw [hy334];exact H)|exact H
   have Ny334:=Aside0.mk hy334
   clear hy334
   have HC6:=Aside0.mk H
   clear H
   have tok1_42:True:=trivial
   have tok1_8:True:=trivial
   have tok2_42:True:=trivial
   have tok2_8:True:=trivial
   have tok3_42:True:=trivial
   have tok3_8:True:=trivial
   go_enter Try.func15,Try.ntmps15
   go_upto_region 2 with (first|((with_reducible refine gate_dst (N:=2) rfl ?_);(try (refine gate_guard (by rfl) ?_;dsimp only));refine box_event ?hg (N:=2) ?hd (cs:=#[.int .i64 a0_0,.int .i64 a0_1,.int .i64 a0_2,.int .i64 a0_3,.int .i64 a0_4]) (t:=24) ?hr ?_;(case hd=>rfl);(case hg=>rfl);(case hr=>first|(go_simp;done)|(go_simp;rfl));intro gb332 hg w7 hbox hb;have n0_:=Aside0.mk (below_step (by first|with_reducible exact HB.out|exact bl HB) hb);have n1_:=Aside0.mk (hbox);have n2_:=Aside0.mk ((by rw [hg];exact(below_size (by first|with_reducible exact HB.out|exact bl HB)):w.heap.size≤gb332));have n3_:=Aside0.mk ((by rw [hg];exact(below_size (by first|with_reducible exact HB.out|exact bl HB)):w.heap.size≤gb332));clear HB;have HB:=n0_;have BK332:=n1_;have GW332:=n2_;have GE332:=n3_;clear n0_ n1_ n2_ n3_;clear hb hbox hg)|((with_reducible refine gate_dst (N:=4) rfl ?_);(try (refine gate_guard (by rfl) ?_;dsimp only));refine box_event ?hg (N:=4) ?hd (cs:=#[.int .i64 0,.int .i64 0,.int .i64 0,.int .i64 0,.int .i64 0]) (t:=24) ?hr ?_;(case hd=>rfl);(case hg=>rfl);(case hr=>first|(go_simp;done)|(go_simp;rfl));intro gb333 hg w8 hbox hb;have n0_:=Aside0.mk (blk_below (bk BK332.out) hb);have n1_:=Aside0.mk (below_step (by repeat (first|with_reducible exact HB.out|exact bl HB|refine bs ?_ GE332)) hb);have n2_:=Aside0.mk (hbox);have n3_:=Aside0.mk ((by rw [hg];exact(below_size (by repeat (first|with_reducible exact HB.out|exact bl HB|refine bs ?_ GE332))):w.heap.size≤gb333));have n4_:=Aside0.mk ((by rw [hg];exact(below_size (by repeat (first|with_reducible exact HB.out|exact bl HB|refine bs ?_ GE332))):w.heap.size≤gb333));have n5_:=Aside0.mk ((by rw [hg];exact Nat.ne_of_lt (blk_lt (bk BK332.out)):gb332≠gb333));have n6_:=Aside0.mk ((by rw [hg];exact Nat.ne_of_gt (blk_lt (bk BK332.out)):gb333≠gb332));clear BK332;clear HB;have BK332:=n0_;have HB:=n1_;have BK333:=n2_;have GW333:=n3_;have GE333:=n4_;have NB332_333:=n5_;have NB333_332:=n6_;clear n0_ n1_ n2_ n3_ n4_ n5_ n6_;clear hb hbox hg;have q9:((ji3):Int)≤((l1.length:Int):Int):=of_decide_eq_true (by first|(with_reducible assumption)|assumption);obtain⟨i09,hi09,_,hsz9,_⟩:=info_parts info22;have hroom9:l1.length≤c1:=HC1.out;have hC9:Kd.C k22 _ A1 l1.length l1:=HR1.out;have hcut9:=cut_to (P:=Try.prog) 25 22 .i64 Try.underlying25 hi09 A1 l1.length c1 (ji3) (of_decide_eq_true (by first|(with_reducible assumption)|assumption)) q9 hroom9;have hr9:=Kd.C_take (m:=((ji3):Int).toNat) hC9 (by omega);have hy9:y334.length=((ji3):Int).toNat:=(by rw [Ny334.out,List.length_take];omega);rw [←Ny334.out] at hr9;rw [←hy9] at hcut9;have HR337:=Aside0.mk hr9;have HC337:=Aside0.mk (show y334.length≤c1 from by omega);clear hr9 hC9 hroom9 hi09 hsz9;have KY9:=Aside0.mk hy9;clear hy9;replace q9:=eq_true q9))
   (try simp only [Act.put,List.setIfInBounds_toArray,List.set_cons_zero,List.set_cons_succ])
   go_cut [27] (fun v27 wc=>∃ (kq:Nat) (x27_5:Bool),v27=.bool x27_5∧Aside0 (sense_Learn.j0 kq y334 x27_5 a0_0 a0_1 a0_2 a0_3 a0_4=some (r1,r2,r3,r4,r5))∧Aside0 (kq≤k)∧Aside0 (wc.heap[gb332]? = some (.cells #[.int .i64 a0_0,.int .i64 a0_1,.int .i64 a0_2,.int .i64 a0_3,.int .i64 a0_4] 24 (0,0)))∧Aside0 (wc.heap[gb333]? = some (.cells #[.int .i64 0,.int .i64 0,.int .i64 0,.int .i64 0,.int .i64 0] 24 (0,0)))∧Aside0 (Below w.heap.size w wc))
   case first =>
    have H:=HC6.out
    clear HC6
    replace H:=Option.bind_eq_some_iff.mp H
    obtain⟨t338,A100,H⟩:=H
    replace H:(if t338=true then (if (y334.length:Int)=0 then (sense_Learn.j0 k y334 true a0_0 a0_1 a0_2 a0_3 a0_4) else ((slices_ContainsFunc_3_int_3_int.f (sense_Learn_1.f k) k y334).bind fun t339=>(sense_Learn.j0 k y334 t339 a0_0 a0_1 a0_2 a0_3 a0_4))) else (sense_Learn.j0 k y334 true a0_0 a0_1 a0_2 a0_3 a0_4))=some (r1,r2,r3,r4,r5):=H
    have A10:=Aside0.mk A100
    clear A100
    by_cases c11:t338=true
    ·subst c11
     have H1:(if (y334.length:Int)=0 then (sense_Learn.j0 k y334 true a0_0 a0_1 a0_2 a0_3 a0_4) else ((slices_ContainsFunc_3_int_3_int.f (sense_Learn_1.f k) k y334).bind fun t339=>(sense_Learn.j0 k y334 t339 a0_0 a0_1 a0_2 a0_3 a0_4)))=some (r1,r2,r3,r4,r5):=by rw [if_pos rfl] at H;exact H
     clear H
     have H:=H1
     clear H1
     by_cases c12:(y334.length:Int)=0
     ·rw [if_pos c12] at H
      have c12b0:((y334.length:Int) == 0)=true:=beq_iff_eq.mpr c12
      have c12b1:((y334.length:Int) != 0)=false:=bne_eq_false_iff_eq.mpr c12
      clear c12
      (first|rw [c12b0]|(simp only [i64_w,i32_w];rw [c12b0])|skip)
      have H':=Aside0.mk H
      clear H
      have hnb13:=NB332_333.out
      have hnc13:=NB333_332.out
      have hcz14_0:w8.cell? ⟨gb332,0,none⟩=some (.int .i64 a0_0):=(blk_cell BK332.out 0).trans rfl
      have hcz14_1:w8.cell? ⟨gb332,1,none⟩=some (.int .i64 a0_1):=(blk_cell BK332.out 1).trans rfl
      have hcz14_2:w8.cell? ⟨gb332,2,none⟩=some (.int .i64 a0_2):=(blk_cell BK332.out 2).trans rfl
      have hcz14_3:w8.cell? ⟨gb332,3,none⟩=some (.int .i64 a0_3):=(blk_cell BK332.out 3).trans rfl
      have hcz14_4:w8.cell? ⟨gb332,4,none⟩=some (.int .i64 a0_4):=(blk_cell BK332.out 4).trans rfl
      have hfz14_0:=blk_frozen BK332.out 0
      have hfz14_1:=blk_frozen BK332.out 1
      have hfz14_2:=blk_frozen BK332.out 2
      have hfz14_3:=blk_frozen BK332.out 3
      have hfz14_4:=blk_frozen BK332.out 4
      go_wp2_with (first|((with_reducible refine gate_callee (f:=13) rfl ?_);refine goesL_ (some 17) rfl rfl Try.func13 (by kernel_rfl) rfl #[.agg #[.int .i64 a0_0,.int .i64 a0_1,.int .i64 a0_2,.int .i64 a0_3,.int .i64 a0_4]] rfl (by exact mA _ _) ?_;(with_reducible refine(sense_Sane.calls k a0_0 a0_1 a0_2 a0_3 a0_4 true _ A10.out).mono ?_);rintro e w15 ⟨rfl,hb⟩;refine⟨_,rfl,?_⟩;have n0_:=Aside0.mk (blk_below (bk BK332.out) hb);have n1_:=Aside0.mk (blk_below (bk BK333.out) hb);have n2_:=Aside0.mk (below_step (by repeat (first|with_reducible exact HB.out|exact bl HB|refine bs ?_ GE332|refine bs ?_ GE333)) hb);clear BK332;clear BK333;clear HB;have BK332:=n0_;have BK333:=n1_;have HB:=n2_;clear n0_ n1_ n2_;(try clear hb);(try clear hb2);(try clear hk);(try clear hi)))
      try (refine wp_loop_rounds 4 ?_)
      repeat (rw [rounds_succ];try go_wp2_with (first|((with_reducible refine gate_callee (f:=13) rfl ?_);refine goesL_ (some 17) rfl rfl Try.func13 (by kernel_rfl) rfl #[.agg #[.int .i64 a0_0,.int .i64 a0_1,.int .i64 a0_2,.int .i64 a0_3,.int .i64 a0_4]] rfl (by exact mA _ _) ?_;(with_reducible refine(sense_Sane.calls k a0_0 a0_1 a0_2 a0_3 a0_4 true _ A10.out).mono ?_);rintro e w15 ⟨rfl,hb⟩;refine⟨_,rfl,?_⟩;have n0_:=Aside0.mk (blk_below (bk BK332.out) hb);have n1_:=Aside0.mk (blk_below (bk BK333.out) hb);have n2_:=Aside0.mk (below_step (by repeat (first|with_reducible exact HB.out|exact bl HB|refine bs ?_ GE332|refine bs ?_ GE333)) hb);clear BK332;clear BK333;clear HB;have BK332:=n0_;have BK333:=n1_;have HB:=n2_;clear n0_ n1_ n2_;(try clear hb);(try clear hb2);(try clear hk);(try clear hi))))
      go_meet
      case rel=>exact⟨_,(true),(by first|rfl|(simp;done)|(simp [*];done)),H',⟨by first|omega|exact Nat.le_refl _⟩,⟨by first|exact BK332.out|exact bk BK332.out⟩,⟨by first|exact BK333.out|exact bk BK333.out⟩,⟨by repeat (first|with_reducible exact HB.out|exact bl HB|refine bs ?_ GE332|refine bs ?_ GE333)⟩⟩
     ·rw [if_neg c12] at H
      have c12b0:((y334.length:Int) == 0)=false:=beq_eq_false_iff_ne.mpr c12
      have c12b1:((y334.length:Int) != 0)=true:=bne_iff_ne.mpr c12
      have c12b2:¬(y334=[]):=fun h_=>c12 (by rw [h_];rfl)
      (first|rw [c12b0]|(simp only [i64_w,i32_w];rw [c12b0])|skip)
      replace H:=Option.bind_eq_some_iff.mp H
      obtain⟨t339,A160,H⟩:=H
      replace H:(sense_Learn.j0 k y334 t339 a0_0 a0_1 a0_2 a0_3 a0_4)=some (r1,r2,r3,r4,r5):=H
      have A16:=Aside0.mk A160
      clear A160
      have H':=Aside0.mk H
      clear H
      have hnb17:=NB332_333.out
      have hnc17:=NB333_332.out
      have hcz18_0:w8.cell? ⟨gb332,0,none⟩=some (.int .i64 a0_0):=(blk_cell BK332.out 0).trans rfl
      have hcz18_1:w8.cell? ⟨gb332,1,none⟩=some (.int .i64 a0_1):=(blk_cell BK332.out 1).trans rfl
      have hcz18_2:w8.cell? ⟨gb332,2,none⟩=some (.int .i64 a0_2):=(blk_cell BK332.out 2).trans rfl
      have hcz18_3:w8.cell? ⟨gb332,3,none⟩=some (.int .i64 a0_3):=(blk_cell BK332.out 3).trans rfl
      have hcz18_4:w8.cell? ⟨gb332,4,none⟩=some (.int .i64 a0_4):=(blk_cell BK332.out 4).trans rfl
      have hfz18_0:=blk_frozen BK332.out 0
      have hfz18_1:=blk_frozen BK332.out 1
      have hfz18_2:=blk_frozen BK332.out 2
      have hfz18_3:=blk_frozen BK332.out 3
      have hfz18_4:=blk_frozen BK332.out 4
      go_wp2_with (first|((with_reducible refine gate_callee (f:=13) rfl ?_);refine goesL_ (some 17) rfl rfl Try.func13 (by kernel_rfl) rfl #[.agg #[.int .i64 a0_0,.int .i64 a0_1,.int .i64 a0_2,.int .i64 a0_3,.int .i64 a0_4]] rfl (by exact mA _ _) ?_;(with_reducible refine(sense_Sane.calls k a0_0 a0_1 a0_2 a0_3 a0_4 true _ A10.out).mono ?_);rintro e w19 ⟨rfl,hb⟩;refine⟨_,rfl,?_⟩;have n0_:=Aside0.mk (blk_below (bk BK332.out) hb);have n1_:=Aside0.mk (blk_below (bk BK333.out) hb);have n2_:=Aside0.mk (below_step (by repeat (first|with_reducible exact HB.out|exact bl HB|refine bs ?_ GE332|refine bs ?_ GE333)) hb);clear BK332;clear BK333;clear HB;have BK332:=n0_;have BK333:=n1_;have HB:=n2_;clear n0_ n1_ n2_;(try clear hb);(try clear hb2);(try clear hk);(try clear hi))|(go_at_call 34;(refine(slices_ContainsFunc_3_int_3_int.calls (sense_Learn_1.f k) 35 #[] #[] k _ _ y334 t339 _ (enters_of Try.func35 (by kernel_rfl) rfl) ⟨fun i0_ i1_ i2_ r_ W_ hb_ hf_=>calls_of_args (by simp) (sense_Learn_1.calls k i0_ i1_ i2_ r_ W_ hf_)⟩ ?side1 ?side2 A16.out).mono ?_);(case side1=>first|exact(Kd.C_below HR337.out HB.out)|exact kC (Kd.C_below HR337.out HB.out));(case side2=>exact HC337.out);rintro e w20 ⟨rfl,hb⟩;have n0_:=Aside0.mk (blk_below (bk BK332.out) hb);have n1_:=Aside0.mk (blk_below (bk BK333.out) hb);have n2_:=Aside0.mk (below_step (by repeat (first|with_reducible exact HB.out|exact bl HB|refine bs ?_ GE332|refine bs ?_ GE333)) hb);clear BK332;clear BK333;clear HB;have BK332:=n0_;have BK333:=n1_;have HB:=n2_;clear n0_ n1_ n2_;(try clear hb);(try clear hb2);(try clear hk);(try clear hi)))
      try (refine wp_loop_rounds 4 ?_)
      repeat (rw [rounds_succ];try go_wp2_with (first|((with_reducible refine gate_callee (f:=13) rfl ?_);refine goesL_ (some 17) rfl rfl Try.func13 (by kernel_rfl) rfl #[.agg #[.int .i64 a0_0,.int .i64 a0_1,.int .i64 a0_2,.int .i64 a0_3,.int .i64 a0_4]] rfl (by exact mA _ _) ?_;(with_reducible refine(sense_Sane.calls k a0_0 a0_1 a0_2 a0_3 a0_4 true _ A10.out).mono ?_);rintro e w19 ⟨rfl,hb⟩;refine⟨_,rfl,?_⟩;have n0_:=Aside0.mk (blk_below (bk BK332.out) hb);have n1_:=Aside0.mk (blk_below (bk BK333.out) hb);have n2_:=Aside0.mk (below_step (by repeat (first|with_reducible exact HB.out|exact bl HB|refine bs ?_ GE332|refine bs ?_ GE333)) hb);clear BK332;clear BK333;clear HB;have BK332:=n0_;have BK333:=n1_;have HB:=n2_;clear n0_ n1_ n2_;(try clear hb);(try clear hb2);(try clear hk);(try clear hi))|(go_at_call 34;(refine(slices_ContainsFunc_3_int_3_int.calls (sense_Learn_1.f k) 35 #[] #[] k _ _ y334 t339 _ (enters_of Try.func35 (by kernel_rfl) rfl) ⟨fun i0_ i1_ i2_ r_ W_ hb_ hf_=>calls_of_args (by simp) (sense_Learn_1.calls k i0_ i1_ i2_ r_ W_ hf_)⟩ ?side1 ?side2 A16.out).mono ?_);(case side1=>first|exact(Kd.C_below HR337.out HB.out)|exact kC (Kd.C_below HR337.out HB.out));(case side2=>exact HC337.out);rintro e w20 ⟨rfl,hb⟩;have n0_:=Aside0.mk (blk_below (bk BK332.out) hb);have n1_:=Aside0.mk (blk_below (bk BK333.out) hb);have n2_:=Aside0.mk (below_step (by repeat (first|with_reducible exact HB.out|exact bl HB|refine bs ?_ GE332|refine bs ?_ GE333)) hb);clear BK332;clear BK333;clear HB;have BK332:=n0_;have BK333:=n1_;have HB:=n2_;clear n0_ n1_ n2_;(try clear hb);(try clear hb2);(try clear hk);(try clear hi))))
      go_meet
      case rel=>exact⟨_,(t339),(by first|rfl|(simp;done)|(simp [*];done)),H',⟨by first|omega|exact Nat.le_refl _⟩,⟨by first|exact BK332.out|exact bk BK332.out⟩,⟨by first|exact BK333.out|exact bk BK333.out⟩,⟨by repeat (first|with_reducible exact HB.out|exact bl HB|refine bs ?_ GE332|refine bs ?_ GE333)⟩⟩
    ·replace c11:=Bool.eq_false_iff.mpr c11
     subst c11
     have H1:(sense_Learn.j0 k y334 true a0_0 a0_1 a0_2 a0_3 a0_4)=some (r1,r2,r3,r4,r5):=by rw [if_neg (show ¬(false=true) by decide)] at H;exact H
     clear H
     have H:=H1
     clear H1
     have H':=Aside0.mk H
     clear H
     have hnb21:=NB332_333.out
     have hnc21:=NB333_332.out
     have hcz22_0:w8.cell? ⟨gb332,0,none⟩=some (.int .i64 a0_0):=(blk_cell BK332.out 0).trans rfl
     have hcz22_1:w8.cell? ⟨gb332,1,none⟩=some (.int .i64 a0_1):=(blk_cell BK332.out 1).trans rfl
     have hcz22_2:w8.cell? ⟨gb332,2,none⟩=some (.int .i64 a0_2):=(blk_cell BK332.out 2).trans rfl
     have hcz22_3:w8.cell? ⟨gb332,3,none⟩=some (.int .i64 a0_3):=(blk_cell BK332.out 3).trans rfl
     have hcz22_4:w8.cell? ⟨gb332,4,none⟩=some (.int .i64 a0_4):=(blk_cell BK332.out 4).trans rfl
     have hfz22_0:=blk_frozen BK332.out 0
     have hfz22_1:=blk_frozen BK332.out 1
     have hfz22_2:=blk_frozen BK332.out 2
     have hfz22_3:=blk_frozen BK332.out 3
     have hfz22_4:=blk_frozen BK332.out 4
     go_wp2_with (first|((with_reducible refine gate_callee (f:=13) rfl ?_);refine goesL_ (some 17) rfl rfl Try.func13 (by kernel_rfl) rfl #[.agg #[.int .i64 a0_0,.int .i64 a0_1,.int .i64 a0_2,.int .i64 a0_3,.int .i64 a0_4]] rfl (by exact mA _ _) ?_;(with_reducible refine(sense_Sane.calls k a0_0 a0_1 a0_2 a0_3 a0_4 false _ A10.out).mono ?_);rintro e w23 ⟨rfl,hb⟩;refine⟨_,rfl,?_⟩;have n0_:=Aside0.mk (blk_below (bk BK332.out) hb);have n1_:=Aside0.mk (blk_below (bk BK333.out) hb);have n2_:=Aside0.mk (below_step (by repeat (first|with_reducible exact HB.out|exact bl HB|refine bs ?_ GE332|refine bs ?_ GE333)) hb);clear BK332;clear BK333;clear HB;have BK332:=n0_;have BK333:=n1_;have HB:=n2_;clear n0_ n1_ n2_;(try clear hb);(try clear hb2);(try clear hk);(try clear hi)))
     try (refine wp_loop_rounds 4 ?_)
     repeat (rw [rounds_succ];try go_wp2_with (first|((with_reducible refine gate_callee (f:=13) rfl ?_);refine goesL_ (some 17) rfl rfl Try.func13 (by kernel_rfl) rfl #[.agg #[.int .i64 a0_0,.int .i64 a0_1,.int .i64 a0_2,.int .i64 a0_3,.int .i64 a0_4]] rfl (by exact mA _ _) ?_;(with_reducible refine(sense_Sane.calls k a0_0 a0_1 a0_2 a0_3 a0_4 false _ A10.out).mono ?_);rintro e w23 ⟨rfl,hb⟩;refine⟨_,rfl,?_⟩;have n0_:=Aside0.mk (blk_below (bk BK332.out) hb);have n1_:=Aside0.mk (blk_below (bk BK333.out) hb);have n2_:=Aside0.mk (below_step (by repeat (first|with_reducible exact HB.out|exact bl HB|refine bs ?_ GE332|refine bs ?_ GE333)) hb);clear BK332;clear BK333;clear HB;have BK332:=n0_;have BK333:=n1_;have HB:=n2_;clear n0_ n1_ n2_;(try clear hb);(try clear hb2);(try clear hk);(try clear hi))))
     go_meet
     case rel=>exact⟨_,(true),(by first|rfl|(simp;done)|(simp [*];done)),H',⟨by first|omega|exact Nat.le_refl _⟩,⟨by first|exact BK332.out|exact bk BK332.out⟩,⟨by first|exact BK333.out|exact bk BK333.out⟩,⟨by repeat (first|with_reducible exact HB.out|exact bl HB|refine bs ?_ GE332|refine bs ?_ GE333)⟩⟩
   case rest =>
    clear HC6
    try clear c1
    try clear c2
    try clear p2
    try clear c4
    try clear c4b0
    try clear c4b1
    try clear c5
    try clear c5b0
    try clear c5b1
    try clear q9
    try clear c11
    try clear c12
    try clear c12b0
    try clear c12b1
    try clear c12b2
    try clear c13
    try clear c15
    try clear c17
    try clear c21
    try clear hcz14_0
    try clear hcz14_1
    try clear hcz14_2
    try clear hcz14_3
    try clear hcz14_4
    try clear hcz18_0
    try clear hcz18_1
    try clear hcz18_2
    try clear hcz18_3
    try clear hcz18_4
    try clear hcz22_0
    try clear hcz22_1
    try clear hcz22_2
    try clear hcz22_3
    try clear hcz22_4
    try clear hfz14_0
    try clear hfz14_1
    try clear hfz14_2
    try clear hfz14_3
    try clear hfz14_4
    try clear hfz18_0
    try clear hfz18_1
    try clear hfz18_2
    try clear hfz18_3
    try clear hfz18_4
    try clear hfz22_0
    try clear hfz22_1
    try clear hfz22_2
    try clear hfz22_3
    try clear hfz22_4
    try clear q9
    obtain⟨kq,x27_5,rfl,HA,HJ5,BK332,BK333,HB⟩:=hcut
    cases kq with
    | zero=>exact absurd HA.out (by simp [sense_Learn.j0])
    | succ kj5 =>
     have H:=HA.out
     clear HA
     simp only [sense_Learn.j0] at H
     by_cases c24:x27_5=true
     ·subst c24
      have H1:(some (a0_0,a0_1,a0_2,a0_3,a0_4))=some (r1,r2,r3,r4,r5):=by rw [if_pos rfl] at H;exact H
      clear H
      have H:=H1
      clear H1
      simp only [Option.some.injEq,Prod.mk.injEq] at H
      obtain⟨rfl,rfl,rfl,rfl,rfl⟩:=H
      have hnb25:=NB332_333.out
      have hnc25:=NB333_332.out
      have hcz26_0:wc.cell? ⟨gb332,0,none⟩=some (.int .i64 a0_0):=(blk_cell BK332.out 0).trans rfl
      have hcz26_1:wc.cell? ⟨gb332,1,none⟩=some (.int .i64 a0_1):=(blk_cell BK332.out 1).trans rfl
      have hcz26_2:wc.cell? ⟨gb332,2,none⟩=some (.int .i64 a0_2):=(blk_cell BK332.out 2).trans rfl
      have hcz26_3:wc.cell? ⟨gb332,3,none⟩=some (.int .i64 a0_3):=(blk_cell BK332.out 3).trans rfl
      have hcz26_4:wc.cell? ⟨gb332,4,none⟩=some (.int .i64 a0_4):=(blk_cell BK332.out 4).trans rfl
      have hfz26_0:=blk_frozen BK332.out 0
      have hfz26_1:=blk_frozen BK332.out 1
      have hfz26_2:=blk_frozen BK332.out 2
      have hfz26_3:=blk_frozen BK332.out 3
      have hfz26_4:=blk_frozen BK332.out 4
      have hcz27_0:wc.cell? ⟨gb333,0,none⟩=some (.int .i64 0):=(blk_cell BK333.out 0).trans rfl
      have hcz27_1:wc.cell? ⟨gb333,1,none⟩=some (.int .i64 0):=(blk_cell BK333.out 1).trans rfl
      have hcz27_2:wc.cell? ⟨gb333,2,none⟩=some (.int .i64 0):=(blk_cell BK333.out 2).trans rfl
      have hcz27_3:wc.cell? ⟨gb333,3,none⟩=some (.int .i64 0):=(blk_cell BK333.out 3).trans rfl
      have hcz27_4:wc.cell? ⟨gb333,4,none⟩=some (.int .i64 0):=(blk_cell BK333.out 4).trans rfl
      have hfz27_0:=blk_frozen BK333.out 0
      have hfz27_1:=blk_frozen BK333.out 1
      have hfz27_2:=blk_frozen BK333.out 2
      have hfz27_3:=blk_frozen BK333.out 3
      have hfz27_4:=blk_frozen BK333.out 4
      go_wp2
      try (refine wp_loop_rounds 4 ?_)
      repeat (rw [rounds_succ];try go_wp2)
      refine bodyPost_ret (results_cell_row rfl _ _ gb333 24 #[.int .i64 a0_0,.int .i64 a0_1,.int .i64 a0_2,.int .i64 a0_3,.int .i64 a0_4] (0,0) _ rfl (by try refine bk ?_;refine blk_put (cs:=#[.int .i64 a0_0,.int .i64 a0_1,.int .i64 a0_2,.int .i64 a0_3,.int .i64 0]) ?_ 4 _ rfl;try refine bk ?_;refine blk_put (cs:=#[.int .i64 a0_0,.int .i64 a0_1,.int .i64 a0_2,.int .i64 0,.int .i64 0]) ?_ 3 _ rfl;try refine bk ?_;refine blk_put (cs:=#[.int .i64 a0_0,.int .i64 a0_1,.int .i64 0,.int .i64 0,.int .i64 0]) ?_ 2 _ rfl;try refine bk ?_;refine blk_put (cs:=#[.int .i64 a0_0,.int .i64 0,.int .i64 0,.int .i64 0,.int .i64 0]) ?_ 1 _ rfl;try refine bk ?_;refine blk_put (cs:=#[.int .i64 0,.int .i64 0,.int .i64 0,.int .i64 0,.int .i64 0]) ?_ 0 _ rfl;try refine bk ?_;exact BK333.out) Try.underlying24 rfl (by kernel_rfl)) rfl ?_
      exact⟨by first|rfl|(simp [errW_none,errW_some]<;>rfl)|(simp only [←hji3];first|rfl|(simp [errW_none,errW_some]<;>rfl))|(simp [*,errW_none,errW_some]<;>rfl),by repeat (first|with_reducible exact HB.out|exact bl HB|refine bs ?_ GE332|refine bs ?_ GE333)⟩
     ·replace c24:=Bool.eq_false_iff.mpr c24
      subst c24
      have H1:(sense_Learn.l0 kj5 y334 ([]:List Int) y334 0 (y334.length:Int) a0_0 a0_1 a0_2 a0_3 a0_4)=some (r1,r2,r3,r4,r5):=by rw [if_neg (show ¬(false=true) by decide)] at H;exact H
      clear H
      have H:=H1
      clear H1
      have H':=Aside0.mk H
      clear H
      go_wp2
      try (refine wp_loop_rounds 4 ?_)
      repeat (rw [rounds_succ];try go_wp2)
      go_loopg [6,34] kj5 (fun kq v6 v34 w'=>∃ (x6_2:List Int) (x34_2:Int),v34=.int .i64 x34_2∧Aside0 (sense_Learn.l0 kq y334 x6_2 y334 x34_2 (y334.length:Int) a0_0 a0_1 a0_2 a0_3 a0_4=some (r1,r2,r3,r4,r5))∧Aside0 (kq≤kj5)∧Aside0 (Kd.R (Kd.int .i64) 3 w' w.heap.size (fun _=>True) v6 x6_2)∧Aside0 (w'.heap[gb332]? = some (.cells #[.int .i64 a0_0,.int .i64 a0_1,.int .i64 a0_2,.int .i64 a0_3,.int .i64 a0_4] 24 (0,0)))∧Aside0 (w'.heap[gb333]? = some (.cells #[.int .i64 0,.int .i64 0,.int .i64 0,.int .i64 0,.int .i64 0] 24 (0,0)))∧Aside0 (Below w.heap.size w w'))
      case atStart=>exact⟨(([]:List Int)),(0),(by first|rfl|(simp;done)|(simp [*];done)),H',⟨Nat.le_refl _⟩,⟨by first|exact Kd.R_nil _ _ _ _ _|exact Kd.N_nil _ _ _ _ _|exact Kd.V_nil _ _ _ _ _|exact Kd.Q_nil _ _ _ _ _|exact Kd.S_nil _ _ _ _ _⟩,⟨by first|exact BK332.out|exact bk BK332.out⟩,⟨by first|exact BK333.out|exact bk BK333.out⟩,⟨by repeat (first|with_reducible exact HB.out|exact bl HB|refine bs ?_ GE332|refine bs ?_ GE333)⟩⟩
      case round =>
       clear H'
       try clear c1
       try clear c2
       try clear p2
       try clear c4
       try clear c4b0
       try clear c4b1
       try clear c5
       try clear c5b0
       try clear c5b1
       try clear q9
       try clear c11
       try clear c12
       try clear c12b0
       try clear c12b1
       try clear c12b2
       try clear c13
       try clear c15
       try clear c17
       try clear c21
       try clear c24
       try clear c25
       try clear hcz14_0
       try clear hcz14_1
       try clear hcz14_2
       try clear hcz14_3
       try clear hcz14_4
       try clear hcz18_0
       try clear hcz18_1
       try clear hcz18_2
       try clear hcz18_3
       try clear hcz18_4
       try clear hcz22_0
       try clear hcz22_1
       try clear hcz22_2
       try clear hcz22_3
       try clear hcz22_4
       try clear hcz26_0
       try clear hcz26_1
       try clear hcz26_2
       try clear hcz26_3
       try clear hcz26_4
       try clear hcz27_0
       try clear hcz27_1
       try clear hcz27_2
       try clear hcz27_3
       try clear hcz27_4
       try clear hfz14_0
       try clear hfz14_1
       try clear hfz14_2
       try clear hfz14_3
       try clear hfz14_4
       try clear hfz18_0
       try clear hfz18_1
       try clear hfz18_2
       try clear hfz18_3
       try clear hfz18_4
       try clear hfz22_0
       try clear hfz22_1
       try clear hfz22_2
       try clear hfz22_3
       try clear hfz22_4
       try clear hfz26_0
       try clear hfz26_1
       try clear hfz26_2
       try clear hfz26_3
       try clear hfz26_4
       try clear hfz27_0
       try clear hfz27_1
       try clear hfz27_2
       try clear hfz27_3
       try clear hfz27_4
       try clear p2
       try clear q9
       obtain⟨x6_2,x34_2,rfl,HA,HK2,HO_6,BK332,BK333,HB⟩:=hrel
       cases gk with
       | zero=>exact absurd HA.out (by simp [sense_Learn.l0])
       | succ k2 =>
        have H:=HA.out
        clear HA
        simp only [sense_Learn.l0] at H
        by_cases c28:x34_2<(y334.length:Int)
        ·rw [if_pos c28] at H
         have c28b0:decide (x34_2<(y334.length:Int))=true:=decide_eq_true c28
         clear c28
         by_cases c29:0≤x34_2
         ·rw [if_pos c29] at H
          have c29b0:decide (0≤x34_2)=true:=decide_eq_true c29
          clear c29
          by_cases c30:x34_2<(y334.length:Int)
          ·rw [if_pos c30] at H
           have c30b0:decide (x34_2<(y334.length:Int))=true:=decide_eq_true c30
           clear c30
           by_cases c31:x6_2.length<17592186044416
           ·rw [if_pos c31] at H
            have LMc31:=Aside0.mk c31
            clear c31
            obtain⟨y342,hy342⟩:∃ y_:List Int,y_=(x6_2++[(rd_T22 y334 x34_2).f0]):=⟨_,rfl⟩
            replace H:(sense_Learn.l0 k2 y334 y342 y334 (wrap64 (x34_2+1)) (y334.length:Int) a0_0 a0_1 a0_2 a0_3 a0_4)=some (r1,r2,r3,r4,r5):=by first|(rw [hy342];with_reducible exact H)|(have H2_:=(Option.bind_some _ _).symm.trans H;rw [hy342];with_reducible exact H2_)|(have H2_:=(Option.bind_some _ _).symm.trans H;with_reducible exact H2_)|with_reducible exact H|(rw [hy342];exact H)|exact H
            have Ny342:=Aside0.mk hy342
            clear hy342
            have H':=Aside0.mk H
            clear H
            have p340:0≤(x34_2:Int):=of_decide_eq_true (by first|(with_reducible assumption)|assumption)
            have q340:x34_2<(y334.length:Int):=of_decide_eq_true (by first|(with_reducible assumption)|assumption)
            obtain⟨ad340,e340,hx340_0,hx340_1,hx340_2⟩:=at_T22 HR337.out x34_2 p340 q340
            cases e340
            replace hx340_0:=(HB.out.cell (World.block_lt_of_cell? w _ hx340_0)).trans hx340_0
            replace hx340_1:=(HB.out.cell (World.block_lt_of_cell? w _ hx340_1)).trans hx340_1
            replace hx340_2:=(HB.out.cell (World.block_lt_of_cell? w _ hx340_2)).trans hx340_2
            replace p340:=eq_true p340
            replace q340:=eq_true q340
            go_wp2_with (first|((with_reducible refine gate_dst (N:=8) rfl ?_);have _t:=tok1_8;clear tok1_8 _t;(try (refine gate_guard (by rfl) ?_;dsimp only));refine box_event ?hg (N:=8) ?hd (cs:=#[.int .i64 0,.int .i64 0,.int .i64 0]) (t:=22) ?hr ?_;(case hd=>rfl);(case hg=>rfl);(case hr=>first|(go_simp;done)|(go_simp;rfl));intro gb341 hg w32 hbox hb;have n0_:=Aside0.mk (Kd.R_below (by first|exact HO_6.out|exact kR HO_6.out) hb);have n1_:=Aside0.mk (blk_below (bk BK332.out) hb);have n2_:=Aside0.mk (blk_below (bk BK333.out) hb);have n3_:=Aside0.mk (below_step (by repeat (first|with_reducible exact HB.out|exact bl HB|refine bs ?_ GE332|refine bs ?_ GE333)) hb);have n4_:=Aside0.mk (hbox);have n5_:=Aside0.mk ((by rw [hg];exact(below_size (by repeat (first|with_reducible exact HB.out|exact bl HB|refine bs ?_ GE332|refine bs ?_ GE333))):w.heap.size≤gb341));have n6_:=Aside0.mk ((by rw [hg];exact(below_size (by repeat (first|with_reducible exact HB.out|exact bl HB|refine bs ?_ GE332|refine bs ?_ GE333))):w.heap.size≤gb341));have n7_:=Aside0.mk ((by rw [hg];exact Nat.ne_of_lt (blk_lt (bk BK332.out)):gb332≠gb341));have n8_:=Aside0.mk ((by rw [hg];exact Nat.ne_of_gt (blk_lt (bk BK332.out)):gb341≠gb332));have n9_:=Aside0.mk ((by rw [hg];exact Nat.ne_of_lt (blk_lt (bk BK333.out)):gb333≠gb341));have n10_:=Aside0.mk ((by rw [hg];exact Nat.ne_of_gt (blk_lt (bk BK333.out)):gb341≠gb333));clear HO_6;clear BK332;clear BK333;clear HB;have HO_6:=n0_;have BK332:=n1_;have BK333:=n2_;have HB:=n3_;have BK341:=n4_;have GW341:=n5_;have GE341:=n6_;have NB332_341:=n7_;have NB341_332:=n8_;have NB333_341:=n9_;have NB341_333:=n10_;clear n0_ n1_ n2_ n3_ n4_ n5_ n6_ n7_ n8_ n9_ n10_;clear hb hbox hg;have hnb33:=NB341_332.out;have hnc33:=NB332_341.out;have hnb34:=NB341_333.out;have hnc34:=NB333_341.out;have hcz35_0:w32.cell? ⟨gb341,0,none⟩=some (.int .i64 0):=(blk_cell BK341.out 0).trans rfl;have hcz35_1:w32.cell? ⟨gb341,1,none⟩=some (.int .i64 0):=(blk_cell BK341.out 1).trans rfl;have hcz35_2:w32.cell? ⟨gb341,2,none⟩=some (.int .i64 0):=(blk_cell BK341.out 2).trans rfl;have hfz35_0:=blk_frozen BK341.out 0;have hfz35_1:=blk_frozen BK341.out 1;have hfz35_2:=blk_frozen BK341.out 2)|((with_reducible refine gate_builtin (b:=.append) (xs:=#[.tmp 38,.tmp 42]) rfl ?_);have _t:=tok1_42;clear tok1_42 _t;(try (refine gate_guard (by rfl) ?_;dsimp only));at_builtin;refine Kd.R_append (Kd.int .i64) (w0:=w) w.heap.size rfl (.tmp 38) (.tmp 42) 42 3 (.int .i64 0) 8 rfl Try.underlying42 info3 rfl (by decide) (by omega) u6 x6_2 ((rd_T22 y334 x34_2).f0) [.int .i64 ((rd_T22 y334 x34_2).f0)] (fun _=>True) (fun _=>False) rfl (by first|(go_simp;done)|(go_simp;rfl)) ?aP (fun _ hk=>hk.elim) ?aF ?aO ?aB ?aS ?aL ?_;(case aP=>exact rfl);(case aB=>exact(by repeat (first|with_reducible exact HB.out|exact bl HB|refine bs ?_ GE332|refine bs ?_ GE333|refine bs ?_ GE341)));(case aF=>exact(fun _ _=>trivial));(case aO=>exact(by (with_reducible repeat (first|apply Kd.R_alloc|apply Kd.R_drewN|apply Kd.R_drew));exact Kd.R_mono (Kd.R_far (p:=⟨gb341,2,none⟩) (Kd.R_far (p:=⟨gb341,1,none⟩) (Kd.R_far (p:=⟨gb341,0,none⟩) (Kd.R_types HO_6.out BK341.out (by decide)) (fun _ hk=>hk.2) (.int .i64 ((rd_T22 y334 x34_2).f0))) (fun _ hk=>hk.2) (.int .i64 ((rd_T22 y334 x34_2).f1))) (fun _ hk=>hk.2) (.int .i64 ((rd_T22 y334 x34_2).f2))) (fun _ hk=>trivial)));(case aS=>exact(below_size (by repeat (first|with_reducible exact HB.out|exact bl HB|refine bs ?_ GE332|refine bs ?_ GE333|refine bs ?_ GE341))));(case aL=>have:=LMc31.out;omega);intro v343 w36 ho hb hg hat;rw [←Ny342.out] at ho;have n0_:=Aside0.mk (blk_grown (g:=gb332) (o:=.cells #[.int .i64 a0_0,.int .i64 a0_1,.int .i64 a0_2,.int .i64 a0_3,.int .i64 a0_4] 24 (0,0)) (by try refine bk ?_;refine blk_far ?_ NB332_341.out _;try refine bk ?_;refine blk_far ?_ NB332_341.out _;try refine bk ?_;refine blk_far ?_ NB332_341.out _;try refine bk ?_;exact BK332.out) hg (Kd.R_ne HO_6.out BK332.out (by decide)));have n1_:=Aside0.mk (blk_grown (g:=gb333) (o:=.cells #[.int .i64 0,.int .i64 0,.int .i64 0,.int .i64 0,.int .i64 0] 24 (0,0)) (by try refine bk ?_;refine blk_far ?_ NB333_341.out _;try refine bk ?_;refine blk_far ?_ NB333_341.out _;try refine bk ?_;refine blk_far ?_ NB333_341.out _;try refine bk ?_;exact BK333.out) hg (Kd.R_ne HO_6.out BK333.out (by decide)));have n2_:=Aside0.mk (blk_grown (g:=gb341) (o:=.cells #[.int .i64 ((rd_T22 y334 x34_2).f0),.int .i64 ((rd_T22 y334 x34_2).f1),.int .i64 ((rd_T22 y334 x34_2).f2)] 22 (0,0)) (by try refine bk ?_;refine blk_put (cs:=#[.int .i64 ((rd_T22 y334 x34_2).f0),.int .i64 ((rd_T22 y334 x34_2).f1),.int .i64 0]) ?_ 2 _ rfl;try refine bk ?_;refine blk_put (cs:=#[.int .i64 ((rd_T22 y334 x34_2).f0),.int .i64 0,.int .i64 0]) ?_ 1 _ rfl;try refine bk ?_;refine blk_put (cs:=#[.int .i64 0,.int .i64 0,.int .i64 0]) ?_ 0 _ rfl;try refine bk ?_;exact BK341.out) hg (Kd.R_ne HO_6.out BK341.out (by decide)));have n3_:=Aside0.mk (hb);have n4_:=Aside0.mk (ho);clear BK332;clear BK333;clear BK341;clear HB;clear HO_6;have BK332:=n0_;have BK333:=n1_;have BK341:=n2_;have HB:=n3_;have HO344:=n4_;clear n0_ n1_ n2_ n3_ n4_;clear ho hb hg hat))
            try (refine wp_loop_rounds 4 ?_)
            repeat (rw [rounds_succ];try go_wp2_with (first|((with_reducible refine gate_dst (N:=8) rfl ?_);have _t:=tok1_8;clear tok1_8 _t;(try (refine gate_guard (by rfl) ?_;dsimp only));refine box_event ?hg (N:=8) ?hd (cs:=#[.int .i64 0,.int .i64 0,.int .i64 0]) (t:=22) ?hr ?_;(case hd=>rfl);(case hg=>rfl);(case hr=>first|(go_simp;done)|(go_simp;rfl));intro gb341 hg w32 hbox hb;have n0_:=Aside0.mk (Kd.R_below (by first|exact HO_6.out|exact kR HO_6.out) hb);have n1_:=Aside0.mk (blk_below (bk BK332.out) hb);have n2_:=Aside0.mk (blk_below (bk BK333.out) hb);have n3_:=Aside0.mk (below_step (by repeat (first|with_reducible exact HB.out|exact bl HB|refine bs ?_ GE332|refine bs ?_ GE333)) hb);have n4_:=Aside0.mk (hbox);have n5_:=Aside0.mk ((by rw [hg];exact(below_size (by repeat (first|with_reducible exact HB.out|exact bl HB|refine bs ?_ GE332|refine bs ?_ GE333))):w.heap.size≤gb341));have n6_:=Aside0.mk ((by rw [hg];exact(below_size (by repeat (first|with_reducible exact HB.out|exact bl HB|refine bs ?_ GE332|refine bs ?_ GE333))):w.heap.size≤gb341));have n7_:=Aside0.mk ((by rw [hg];exact Nat.ne_of_lt (blk_lt (bk BK332.out)):gb332≠gb341));have n8_:=Aside0.mk ((by rw [hg];exact Nat.ne_of_gt (blk_lt (bk BK332.out)):gb341≠gb332));have n9_:=Aside0.mk ((by rw [hg];exact Nat.ne_of_lt (blk_lt (bk BK333.out)):gb333≠gb341));have n10_:=Aside0.mk ((by rw [hg];exact Nat.ne_of_gt (blk_lt (bk BK333.out)):gb341≠gb333));clear HO_6;clear BK332;clear BK333;clear HB;have HO_6:=n0_;have BK332:=n1_;have BK333:=n2_;have HB:=n3_;have BK341:=n4_;have GW341:=n5_;have GE341:=n6_;have NB332_341:=n7_;have NB341_332:=n8_;have NB333_341:=n9_;have NB341_333:=n10_;clear n0_ n1_ n2_ n3_ n4_ n5_ n6_ n7_ n8_ n9_ n10_;clear hb hbox hg;have hnb33:=NB341_332.out;have hnc33:=NB332_341.out;have hnb34:=NB341_333.out;have hnc34:=NB333_341.out;have hcz35_0:w32.cell? ⟨gb341,0,none⟩=some (.int .i64 0):=(blk_cell BK341.out 0).trans rfl;have hcz35_1:w32.cell? ⟨gb341,1,none⟩=some (.int .i64 0):=(blk_cell BK341.out 1).trans rfl;have hcz35_2:w32.cell? ⟨gb341,2,none⟩=some (.int .i64 0):=(blk_cell BK341.out 2).trans rfl;have hfz35_0:=blk_frozen BK341.out 0;have hfz35_1:=blk_frozen BK341.out 1;have hfz35_2:=blk_frozen BK341.out 2)|((with_reducible refine gate_builtin (b:=.append) (xs:=#[.tmp 38,.tmp 42]) rfl ?_);have _t:=tok1_42;clear tok1_42 _t;(try (refine gate_guard (by rfl) ?_;dsimp only));at_builtin;refine Kd.R_append (Kd.int .i64) (w0:=w) w.heap.size rfl (.tmp 38) (.tmp 42) 42 3 (.int .i64 0) 8 rfl Try.underlying42 info3 rfl (by decide) (by omega) u6 x6_2 ((rd_T22 y334 x34_2).f0) [.int .i64 ((rd_T22 y334 x34_2).f0)] (fun _=>True) (fun _=>False) rfl (by first|(go_simp;done)|(go_simp;rfl)) ?aP (fun _ hk=>hk.elim) ?aF ?aO ?aB ?aS ?aL ?_;(case aP=>exact rfl);(case aB=>exact(by repeat (first|with_reducible exact HB.out|exact bl HB|refine bs ?_ GE332|refine bs ?_ GE333|refine bs ?_ GE341)));(case aF=>exact(fun _ _=>trivial));(case aO=>exact(by (with_reducible repeat (first|apply Kd.R_alloc|apply Kd.R_drewN|apply Kd.R_drew));exact Kd.R_mono (Kd.R_far (p:=⟨gb341,2,none⟩) (Kd.R_far (p:=⟨gb341,1,none⟩) (Kd.R_far (p:=⟨gb341,0,none⟩) (Kd.R_types HO_6.out BK341.out (by decide)) (fun _ hk=>hk.2) (.int .i64 ((rd_T22 y334 x34_2).f0))) (fun _ hk=>hk.2) (.int .i64 ((rd_T22 y334 x34_2).f1))) (fun _ hk=>hk.2) (.int .i64 ((rd_T22 y334 x34_2).f2))) (fun _ hk=>trivial)));(case aS=>exact(below_size (by repeat (first|with_reducible exact HB.out|exact bl HB|refine bs ?_ GE332|refine bs ?_ GE333|refine bs ?_ GE341))));(case aL=>have:=LMc31.out;omega);intro v343 w36 ho hb hg hat;rw [←Ny342.out] at ho;have n0_:=Aside0.mk (blk_grown (g:=gb332) (o:=.cells #[.int .i64 a0_0,.int .i64 a0_1,.int .i64 a0_2,.int .i64 a0_3,.int .i64 a0_4] 24 (0,0)) (by try refine bk ?_;refine blk_far ?_ NB332_341.out _;try refine bk ?_;refine blk_far ?_ NB332_341.out _;try refine bk ?_;refine blk_far ?_ NB332_341.out _;try refine bk ?_;exact BK332.out) hg (Kd.R_ne HO_6.out BK332.out (by decide)));have n1_:=Aside0.mk (blk_grown (g:=gb333) (o:=.cells #[.int .i64 0,.int .i64 0,.int .i64 0,.int .i64 0,.int .i64 0] 24 (0,0)) (by try refine bk ?_;refine blk_far ?_ NB333_341.out _;try refine bk ?_;refine blk_far ?_ NB333_341.out _;try refine bk ?_;refine blk_far ?_ NB333_341.out _;try refine bk ?_;exact BK333.out) hg (Kd.R_ne HO_6.out BK333.out (by decide)));have n2_:=Aside0.mk (blk_grown (g:=gb341) (o:=.cells #[.int .i64 ((rd_T22 y334 x34_2).f0),.int .i64 ((rd_T22 y334 x34_2).f1),.int .i64 ((rd_T22 y334 x34_2).f2)] 22 (0,0)) (by try refine bk ?_;refine blk_put (cs:=#[.int .i64 ((rd_T22 y334 x34_2).f0),.int .i64 ((rd_T22 y334 x34_2).f1),.int .i64 0]) ?_ 2 _ rfl;try refine bk ?_;refine blk_put (cs:=#[.int .i64 ((rd_T22 y334 x34_2).f0),.int .i64 0,.int .i64 0]) ?_ 1 _ rfl;try refine bk ?_;refine blk_put (cs:=#[.int .i64 0,.int .i64 0,.int .i64 0]) ?_ 0 _ rfl;try refine bk ?_;exact BK341.out) hg (Kd.R_ne HO_6.out BK341.out (by decide)));have n3_:=Aside0.mk (hb);have n4_:=Aside0.mk (ho);clear BK332;clear BK333;clear BK341;clear HB;clear HO_6;have BK332:=n0_;have BK333:=n1_;have BK341:=n2_;have HB:=n3_;have HO344:=n4_;clear n0_ n1_ n2_ n3_ n4_;clear ho hb hg hat)))
            go_roundg k2
            case measure=>have:=HJ5.out;have:=HK2.out;omega
            case rel=>exact⟨(y342),(wrap64 (x34_2+1)),(by first|rfl|(simp;done)|(simp [*];done)),H',⟨by have:=HJ5.out;have:=HK2.out;omega⟩,⟨by first|exact HO344.out|exact kR HO344.out⟩,⟨by first|exact BK332.out|exact bk BK332.out⟩,⟨by first|exact BK333.out|exact bk BK333.out⟩,⟨by repeat (first|with_reducible exact HB.out|exact bl HB|refine bs ?_ GE332|refine bs ?_ GE333|refine bs ?_ GE341)⟩⟩
           ·rw [if_neg c31] at H
            exact absurd H (by simp)
          ·rw [if_neg c30] at H
           exact absurd H (by simp)
         ·rw [if_neg c29] at H
          exact absurd H (by simp)
        ·rw [if_neg c28] at H
         have c28b0:decide (x34_2<(y334.length:Int))=false:=decide_eq_false c28
         clear c28
         replace H:=Option.bind_eq_some_iff.mp H
         obtain⟨⟨t345,t346⟩,A370,H⟩:=H
         replace H:(sense_Learn.l1 k2 y334 ([]:List Int) y334 0 (y334.length:Int) t345 a0_1 a0_2 a0_3 a0_4)=some (r1,r2,r3,r4,r5):=H
         have A37:=Aside0.mk A370
         clear A370
         have H':=Aside0.mk H
         clear H
         obtain⟨Ao38,co38,eo38⟩:=Kd.R_slice HO_6.out
         subst eo38
         go_wp2_with (first|((with_reducible refine gate_callee (f:=36) rfl ?_);refine goesL_ (some 47) rfl rfl Try.func36 (by kernel_rfl) rfl #[.slice Ao38 x6_2.length co38] rfl (by exact mA _ _) ?_;(with_reducible refine(sum_Mean.calls k2 _ _ x6_2 t345 t346 _ ?side1 ?side2 A37.out).mono ?_);(case side1=>first|exact(Kd.R_reads' HO_6.out).2.2|exact kC (Kd.R_reads' HO_6.out).2.2);(case side2=>exact(Kd.R_reads' HO_6.out).2.1);rintro e w39 ⟨rfl,hb⟩;refine⟨_,rfl,?_⟩;have n0_:=Aside0.mk (Kd.R_below (by first|exact HO_6.out|exact kR HO_6.out) hb);have n1_:=Aside0.mk (blk_below (bk BK332.out) hb);have n2_:=Aside0.mk (blk_below (bk BK333.out) hb);have n3_:=Aside0.mk (below_step (by repeat (first|with_reducible exact HB.out|exact bl HB|refine bs ?_ GE332|refine bs ?_ GE333)) hb);clear HO_6;clear BK332;clear BK333;clear HB;have HO_6:=n0_;have BK332:=n1_;have BK333:=n2_;have HB:=n3_;clear n0_ n1_ n2_ n3_;(try clear hb);(try clear hb2);(try clear hk);(try clear hi);have hnb40:=NB332_333.out;have hnc40:=NB333_332.out;have hcz41_0:w39.cell? ⟨gb332,0,none⟩=some (.int .i64 a0_0):=(blk_cell BK332.out 0).trans rfl;have hcz41_1:w39.cell? ⟨gb332,1,none⟩=some (.int .i64 a0_1):=(blk_cell BK332.out 1).trans rfl;have hcz41_2:w39.cell? ⟨gb332,2,none⟩=some (.int .i64 a0_2):=(blk_cell BK332.out 2).trans rfl;have hcz41_3:w39.cell? ⟨gb332,3,none⟩=some (.int .i64 a0_3):=(blk_cell BK332.out 3).trans rfl;have hcz41_4:w39.cell? ⟨gb332,4,none⟩=some (.int .i64 a0_4):=(blk_cell BK332.out 4).trans rfl;have hfz41_0:=blk_frozen BK332.out 0;have hfz41_1:=blk_frozen BK332.out 1;have hfz41_2:=blk_frozen BK332.out 2;have hfz41_3:=blk_frozen BK332.out 3;have hfz41_4:=blk_frozen BK332.out 4))
         try (refine wp_loop_rounds 4 ?_)
         repeat (rw [rounds_succ];try go_wp2_with (first|((with_reducible refine gate_callee (f:=36) rfl ?_);refine goesL_ (some 47) rfl rfl Try.func36 (by kernel_rfl) rfl #[.slice Ao38 x6_2.length co38] rfl (by exact mA _ _) ?_;(with_reducible refine(sum_Mean.calls k2 _ _ x6_2 t345 t346 _ ?side1 ?side2 A37.out).mono ?_);(case side1=>first|exact(Kd.R_reads' HO_6.out).2.2|exact kC (Kd.R_reads' HO_6.out).2.2);(case side2=>exact(Kd.R_reads' HO_6.out).2.1);rintro e w39 ⟨rfl,hb⟩;refine⟨_,rfl,?_⟩;have n0_:=Aside0.mk (Kd.R_below (by first|exact HO_6.out|exact kR HO_6.out) hb);have n1_:=Aside0.mk (blk_below (bk BK332.out) hb);have n2_:=Aside0.mk (blk_below (bk BK333.out) hb);have n3_:=Aside0.mk (below_step (by repeat (first|with_reducible exact HB.out|exact bl HB|refine bs ?_ GE332|refine bs ?_ GE333)) hb);clear HO_6;clear BK332;clear BK333;clear HB;have HO_6:=n0_;have BK332:=n1_;have BK333:=n2_;have HB:=n3_;clear n0_ n1_ n2_ n3_;(try clear hb);(try clear hb2);(try clear hk);(try clear hi);have hnb40:=NB332_333.out;have hnc40:=NB333_332.out;have hcz41_0:w39.cell? ⟨gb332,0,none⟩=some (.int .i64 a0_0):=(blk_cell BK332.out 0).trans rfl;have hcz41_1:w39.cell? ⟨gb332,1,none⟩=some (.int .i64 a0_1):=(blk_cell BK332.out 1).trans rfl;have hcz41_2:w39.cell? ⟨gb332,2,none⟩=some (.int .i64 a0_2):=(blk_cell BK332.out 2).trans rfl;have hcz41_3:w39.cell? ⟨gb332,3,none⟩=some (.int .i64 a0_3):=(blk_cell BK332.out 3).trans rfl;have hcz41_4:w39.cell? ⟨gb332,4,none⟩=some (.int .i64 a0_4):=(blk_cell BK332.out 4).trans rfl;have hfz41_0:=blk_frozen BK332.out 0;have hfz41_1:=blk_frozen BK332.out 1;have hfz41_2:=blk_frozen BK332.out 2;have hfz41_3:=blk_frozen BK332.out 3;have hfz41_4:=blk_frozen BK332.out 4)))
         go_loopg [6,34] k2 (fun kq v6 v34 w'=>∃ (x6_3:List Int) (x34_3:Int),v34=.int .i64 x34_3∧Aside0 (sense_Learn.l1 kq y334 x6_3 y334 x34_3 (y334.length:Int) t345 a0_1 a0_2 a0_3 a0_4=some (r1,r2,r3,r4,r5))∧Aside0 (kq≤k2)∧Aside0 (Kd.R (Kd.int .i64) 3 w' w.heap.size (fun _=>True) v6 x6_3)∧Aside0 (w'.heap[gb332]? = some (.cells #[.int .i64 t345,.int .i64 a0_1,.int .i64 a0_2,.int .i64 a0_3,.int .i64 a0_4] 24 (0,0)))∧Aside0 (w'.heap[gb333]? = some (.cells #[.int .i64 0,.int .i64 0,.int .i64 0,.int .i64 0,.int .i64 0] 24 (0,0)))∧Aside0 (Below w.heap.size w w'))
         case atStart=>exact⟨(([]:List Int)),(0),(by first|rfl|(simp;done)|(simp [*];done)),H',⟨Nat.le_refl _⟩,⟨by first|exact Kd.R_nil _ _ _ _ _|exact Kd.N_nil _ _ _ _ _|exact Kd.V_nil _ _ _ _ _|exact Kd.Q_nil _ _ _ _ _|exact Kd.S_nil _ _ _ _ _⟩,⟨by try refine bk ?_;refine blk_put (cs:=#[.int .i64 a0_0,.int .i64 a0_1,.int .i64 a0_2,.int .i64 a0_3,.int .i64 a0_4]) ?_ 0 _ rfl;try refine bk ?_;exact BK332.out⟩,⟨by try refine bk ?_;refine blk_far ?_ NB333_332.out _;try refine bk ?_;exact BK333.out⟩,⟨by repeat (first|with_reducible exact HB.out|exact bl HB|refine bs ?_ GE332|refine bs ?_ GE333)⟩⟩
         case round =>
          clear H'
          try clear c1
          try clear c2
          try clear p2
          try clear c3
          try clear p3
          try clear q3
          try clear hx3
          try clear c4
          try clear c4b0
          try clear c4b1
          try clear c5
          try clear c5b0
          try clear c5b1
          try clear p6
          try clear q9
          try clear c11
          try clear c12
          try clear c12b0
          try clear c12b1
          try clear c12b2
          try clear c13
          try clear c15
          try clear c17
          try clear c21
          try clear c24
          try clear c25
          try clear c28
          try clear c28b0
          try clear c29
          try clear c29b0
          try clear c30
          try clear c30b0
          try clear c31
          try clear c33
          try clear c34
          try clear p34
          try clear q34
          try clear hx34
          try clear c36
          try clear c40
          try clear hcz14_0
          try clear hcz14_1
          try clear hcz14_2
          try clear hcz14_3
          try clear hcz14_4
          try clear hcz18_0
          try clear hcz18_1
          try clear hcz18_2
          try clear hcz18_3
          try clear hcz18_4
          try clear hcz22_0
          try clear hcz22_1
          try clear hcz22_2
          try clear hcz22_3
          try clear hcz22_4
          try clear hcz26_0
          try clear hcz26_1
          try clear hcz26_2
          try clear hcz26_3
          try clear hcz26_4
          try clear hcz27_0
          try clear hcz27_1
          try clear hcz27_2
          try clear hcz27_3
          try clear hcz27_4
          try clear hcz35_0
          try clear hcz35_1
          try clear hcz35_2
          try clear hcz41_0
          try clear hcz41_1
          try clear hcz41_2
          try clear hcz41_3
          try clear hcz41_4
          try clear hfz14_0
          try clear hfz14_1
          try clear hfz14_2
          try clear hfz14_3
          try clear hfz14_4
          try clear hfz18_0
          try clear hfz18_1
          try clear hfz18_2
          try clear hfz18_3
          try clear hfz18_4
          try clear hfz22_0
          try clear hfz22_1
          try clear hfz22_2
          try clear hfz22_3
          try clear hfz22_4
          try clear hfz26_0
          try clear hfz26_1
          try clear hfz26_2
          try clear hfz26_3
          try clear hfz26_4
          try clear hfz27_0
          try clear hfz27_1
          try clear hfz27_2
          try clear hfz27_3
          try clear hfz27_4
          try clear hfz35_0
          try clear hfz35_1
          try clear hfz35_2
          try clear hfz41_0
          try clear hfz41_1
          try clear hfz41_2
          try clear hfz41_3
          try clear hfz41_4
          try clear hx340_0
          try clear hx340_1
          try clear hx340_2
          try clear p2
          try clear p340
          try clear q340
          try clear q9
          obtain⟨x6_3,x34_3,rfl,HA,HK3,HO_6,BK332,BK333,HB⟩:=hrel
          cases gk with
          | zero=>exact absurd HA.out (by simp [sense_Learn.l1])
          | succ k3 =>
           have H:=HA.out
           clear HA
           simp only [sense_Learn.l1] at H
           by_cases c42:x34_3<(y334.length:Int)
           ·rw [if_pos c42] at H
            have c42b0:decide (x34_3<(y334.length:Int))=true:=decide_eq_true c42
            clear c42
            by_cases c43:0≤x34_3
            ·rw [if_pos c43] at H
             have c43b0:decide (0≤x34_3)=true:=decide_eq_true c43
             clear c43
             by_cases c44:x34_3<(y334.length:Int)
             ·rw [if_pos c44] at H
              have c44b0:decide (x34_3<(y334.length:Int))=true:=decide_eq_true c44
              clear c44
              by_cases c45:x6_3.length<17592186044416
              ·rw [if_pos c45] at H
               have LMc45:=Aside0.mk c45
               clear c45
               obtain⟨y349,hy349⟩:∃ y_:List Int,y_=(x6_3++[(rd_T22 y334 x34_3).f1]):=⟨_,rfl⟩
               replace H:(sense_Learn.l1 k3 y334 y349 y334 (wrap64 (x34_3+1)) (y334.length:Int) t345 a0_1 a0_2 a0_3 a0_4)=some (r1,r2,r3,r4,r5):=by first|(rw [hy349];with_reducible exact H)|(have H2_:=(Option.bind_some _ _).symm.trans H;rw [hy349];with_reducible exact H2_)|(have H2_:=(Option.bind_some _ _).symm.trans H;with_reducible exact H2_)|with_reducible exact H|(rw [hy349];exact H)|exact H
               have Ny349:=Aside0.mk hy349
               clear hy349
               have H':=Aside0.mk H
               clear H
               have p347:0≤(x34_3:Int):=of_decide_eq_true (by first|(with_reducible assumption)|assumption)
               have q347:x34_3<(y334.length:Int):=of_decide_eq_true (by first|(with_reducible assumption)|assumption)
               obtain⟨ad347,e347,hx347_0,hx347_1,hx347_2⟩:=at_T22 HR337.out x34_3 p347 q347
               cases e347
               replace hx347_0:=(HB.out.cell (World.block_lt_of_cell? w _ hx347_0)).trans hx347_0
               replace hx347_1:=(HB.out.cell (World.block_lt_of_cell? w _ hx347_1)).trans hx347_1
               replace hx347_2:=(HB.out.cell (World.block_lt_of_cell? w _ hx347_2)).trans hx347_2
               replace p347:=eq_true p347
               replace q347:=eq_true q347
               go_wp2_with (first|((with_reducible refine gate_dst (N:=8) rfl ?_);have _t:=tok2_8;clear tok2_8 _t;(try (refine gate_guard (by rfl) ?_;dsimp only));refine box_event ?hg (N:=8) ?hd (cs:=#[.int .i64 0,.int .i64 0,.int .i64 0]) (t:=22) ?hr ?_;(case hd=>rfl);(case hg=>rfl);(case hr=>first|(go_simp;done)|(go_simp;rfl));intro gb348 hg w46 hbox hb;have n0_:=Aside0.mk (Kd.R_below (by first|exact HO_6.out|exact kR HO_6.out) hb);have n1_:=Aside0.mk (blk_below (bk BK332.out) hb);have n2_:=Aside0.mk (blk_below (bk BK333.out) hb);have n3_:=Aside0.mk (below_step (by repeat (first|with_reducible exact HB.out|exact bl HB|refine bs ?_ GE332|refine bs ?_ GE333)) hb);have n4_:=Aside0.mk (hbox);have n5_:=Aside0.mk ((by rw [hg];exact(below_size (by repeat (first|with_reducible exact HB.out|exact bl HB|refine bs ?_ GE332|refine bs ?_ GE333))):w.heap.size≤gb348));have n6_:=Aside0.mk ((by rw [hg];exact(below_size (by repeat (first|with_reducible exact HB.out|exact bl HB|refine bs ?_ GE332|refine bs ?_ GE333))):w.heap.size≤gb348));have n7_:=Aside0.mk ((by rw [hg];exact Nat.ne_of_lt (blk_lt (bk BK332.out)):gb332≠gb348));have n8_:=Aside0.mk ((by rw [hg];exact Nat.ne_of_gt (blk_lt (bk BK332.out)):gb348≠gb332));have n9_:=Aside0.mk ((by rw [hg];exact Nat.ne_of_lt (blk_lt (bk BK333.out)):gb333≠gb348));have n10_:=Aside0.mk ((by rw [hg];exact Nat.ne_of_gt (blk_lt (bk BK333.out)):gb348≠gb333));clear HO_6;clear BK332;clear BK333;clear HB;have HO_6:=n0_;have BK332:=n1_;have BK333:=n2_;have HB:=n3_;have BK348:=n4_;have GW348:=n5_;have GE348:=n6_;have NB332_348:=n7_;have NB348_332:=n8_;have NB333_348:=n9_;have NB348_333:=n10_;clear n0_ n1_ n2_ n3_ n4_ n5_ n6_ n7_ n8_ n9_ n10_;clear hb hbox hg;have hnb47:=NB348_332.out;have hnc47:=NB332_348.out;have hnb48:=NB348_333.out;have hnc48:=NB333_348.out;have hcz49_0:w46.cell? ⟨gb348,0,none⟩=some (.int .i64 0):=(blk_cell BK348.out 0).trans rfl;have hcz49_1:w46.cell? ⟨gb348,1,none⟩=some (.int .i64 0):=(blk_cell BK348.out 1).trans rfl;have hcz49_2:w46.cell? ⟨gb348,2,none⟩=some (.int .i64 0):=(blk_cell BK348.out 2).trans rfl;have hfz49_0:=blk_frozen BK348.out 0;have hfz49_1:=blk_frozen BK348.out 1;have hfz49_2:=blk_frozen BK348.out 2)|((with_reducible refine gate_builtin (b:=.append) (xs:=#[.tmp 38,.tmp 42]) rfl ?_);have _t:=tok2_42;clear tok2_42 _t;(try (refine gate_guard (by rfl) ?_;dsimp only));at_builtin;refine Kd.R_append (Kd.int .i64) (w0:=w) w.heap.size rfl (.tmp 38) (.tmp 42) 42 3 (.int .i64 0) 8 rfl Try.underlying42 info3 rfl (by decide) (by omega) u6 x6_3 ((rd_T22 y334 x34_3).f1) [.int .i64 ((rd_T22 y334 x34_3).f1)] (fun _=>True) (fun _=>False) rfl (by first|(go_simp;done)|(go_simp;rfl)) ?aP (fun _ hk=>hk.elim) ?aF ?aO ?aB ?aS ?aL ?_;(case aP=>exact rfl);(case aB=>exact(by repeat (first|with_reducible exact HB.out|exact bl HB|refine bs ?_ GE332|refine bs ?_ GE333|refine bs ?_ GE348)));(case aF=>exact(fun _ _=>trivial));(case aO=>exact(by (with_reducible repeat (first|apply Kd.R_alloc|apply Kd.R_drewN|apply Kd.R_drew));exact Kd.R_mono (Kd.R_far (p:=⟨gb348,2,none⟩) (Kd.R_far (p:=⟨gb348,1,none⟩) (Kd.R_far (p:=⟨gb348,0,none⟩) (Kd.R_types HO_6.out BK348.out (by decide)) (fun _ hk=>hk.2) (.int .i64 ((rd_T22 y334 x34_3).f0))) (fun _ hk=>hk.2) (.int .i64 ((rd_T22 y334 x34_3).f1))) (fun _ hk=>hk.2) (.int .i64 ((rd_T22 y334 x34_3).f2))) (fun _ hk=>trivial)));(case aS=>exact(below_size (by repeat (first|with_reducible exact HB.out|exact bl HB|refine bs ?_ GE332|refine bs ?_ GE333|refine bs ?_ GE348))));(case aL=>have:=LMc45.out;omega);intro v350 w50 ho hb hg hat;rw [←Ny349.out] at ho;have n0_:=Aside0.mk (blk_grown (g:=gb332) (o:=.cells #[.int .i64 t345,.int .i64 a0_1,.int .i64 a0_2,.int .i64 a0_3,.int .i64 a0_4] 24 (0,0)) (by try refine bk ?_;refine blk_far ?_ NB332_348.out _;try refine bk ?_;refine blk_far ?_ NB332_348.out _;try refine bk ?_;refine blk_far ?_ NB332_348.out _;try refine bk ?_;exact BK332.out) hg (Kd.R_ne HO_6.out BK332.out (by decide)));have n1_:=Aside0.mk (blk_grown (g:=gb333) (o:=.cells #[.int .i64 0,.int .i64 0,.int .i64 0,.int .i64 0,.int .i64 0] 24 (0,0)) (by try refine bk ?_;refine blk_far ?_ NB333_348.out _;try refine bk ?_;refine blk_far ?_ NB333_348.out _;try refine bk ?_;refine blk_far ?_ NB333_348.out _;try refine bk ?_;exact BK333.out) hg (Kd.R_ne HO_6.out BK333.out (by decide)));have n2_:=Aside0.mk (blk_grown (g:=gb348) (o:=.cells #[.int .i64 ((rd_T22 y334 x34_3).f0),.int .i64 ((rd_T22 y334 x34_3).f1),.int .i64 ((rd_T22 y334 x34_3).f2)] 22 (0,0)) (by try refine bk ?_;refine blk_put (cs:=#[.int .i64 ((rd_T22 y334 x34_3).f0),.int .i64 ((rd_T22 y334 x34_3).f1),.int .i64 0]) ?_ 2 _ rfl;try refine bk ?_;refine blk_put (cs:=#[.int .i64 ((rd_T22 y334 x34_3).f0),.int .i64 0,.int .i64 0]) ?_ 1 _ rfl;try refine bk ?_;refine blk_put (cs:=#[.int .i64 0,.int .i64 0,.int .i64 0]) ?_ 0 _ rfl;try refine bk ?_;exact BK348.out) hg (Kd.R_ne HO_6.out BK348.out (by decide)));have n3_:=Aside0.mk (hb);have n4_:=Aside0.mk (ho);clear BK332;clear BK333;clear BK348;clear HB;clear HO_6;have BK332:=n0_;have BK333:=n1_;have BK348:=n2_;have HB:=n3_;have HO351:=n4_;clear n0_ n1_ n2_ n3_ n4_;clear ho hb hg hat))
               try (refine wp_loop_rounds 4 ?_)
               repeat (rw [rounds_succ];try go_wp2_with (first|((with_reducible refine gate_dst (N:=8) rfl ?_);have _t:=tok2_8;clear tok2_8 _t;(try (refine gate_guard (by rfl) ?_;dsimp only));refine box_event ?hg (N:=8) ?hd (cs:=#[.int .i64 0,.int .i64 0,.int .i64 0]) (t:=22) ?hr ?_;(case hd=>rfl);(case hg=>rfl);(case hr=>first|(go_simp;done)|(go_simp;rfl));intro gb348 hg w46 hbox hb;have n0_:=Aside0.mk (Kd.R_below (by first|exact HO_6.out|exact kR HO_6.out) hb);have n1_:=Aside0.mk (blk_below (bk BK332.out) hb);have n2_:=Aside0.mk (blk_below (bk BK333.out) hb);have n3_:=Aside0.mk (below_step (by repeat (first|with_reducible exact HB.out|exact bl HB|refine bs ?_ GE332|refine bs ?_ GE333)) hb);have n4_:=Aside0.mk (hbox);have n5_:=Aside0.mk ((by rw [hg];exact(below_size (by repeat (first|with_reducible exact HB.out|exact bl HB|refine bs ?_ GE332|refine bs ?_ GE333))):w.heap.size≤gb348));have n6_:=Aside0.mk ((by rw [hg];exact(below_size (by repeat (first|with_reducible exact HB.out|exact bl HB|refine bs ?_ GE332|refine bs ?_ GE333))):w.heap.size≤gb348));have n7_:=Aside0.mk ((by rw [hg];exact Nat.ne_of_lt (blk_lt (bk BK332.out)):gb332≠gb348));have n8_:=Aside0.mk ((by rw [hg];exact Nat.ne_of_gt (blk_lt (bk BK332.out)):gb348≠gb332));have n9_:=Aside0.mk ((by rw [hg];exact Nat.ne_of_lt (blk_lt (bk BK333.out)):gb333≠gb348));have n10_:=Aside0.mk ((by rw [hg];exact Nat.ne_of_gt (blk_lt (bk BK333.out)):gb348≠gb333));clear HO_6;clear BK332;clear BK333;clear HB;have HO_6:=n0_;have BK332:=n1_;have BK333:=n2_;have HB:=n3_;have BK348:=n4_;have GW348:=n5_;have GE348:=n6_;have NB332_348:=n7_;have NB348_332:=n8_;have NB333_348:=n9_;have NB348_333:=n10_;clear n0_ n1_ n2_ n3_ n4_ n5_ n6_ n7_ n8_ n9_ n10_;clear hb hbox hg;have hnb47:=NB348_332.out;have hnc47:=NB332_348.out;have hnb48:=NB348_333.out;have hnc48:=NB333_348.out;have hcz49_0:w46.cell? ⟨gb348,0,none⟩=some (.int .i64 0):=(blk_cell BK348.out 0).trans rfl;have hcz49_1:w46.cell? ⟨gb348,1,none⟩=some (.int .i64 0):=(blk_cell BK348.out 1).trans rfl;have hcz49_2:w46.cell? ⟨gb348,2,none⟩=some (.int .i64 0):=(blk_cell BK348.out 2).trans rfl;have hfz49_0:=blk_frozen BK348.out 0;have hfz49_1:=blk_frozen BK348.out 1;have hfz49_2:=blk_frozen BK348.out 2)|((with_reducible refine gate_builtin (b:=.append) (xs:=#[.tmp 38,.tmp 42]) rfl ?_);have _t:=tok2_42;clear tok2_42 _t;(try (refine gate_guard (by rfl) ?_;dsimp only));at_builtin;refine Kd.R_append (Kd.int .i64) (w0:=w) w.heap.size rfl (.tmp 38) (.tmp 42) 42 3 (.int .i64 0) 8 rfl Try.underlying42 info3 rfl (by decide) (by omega) u6 x6_3 ((rd_T22 y334 x34_3).f1) [.int .i64 ((rd_T22 y334 x34_3).f1)] (fun _=>True) (fun _=>False) rfl (by first|(go_simp;done)|(go_simp;rfl)) ?aP (fun _ hk=>hk.elim) ?aF ?aO ?aB ?aS ?aL ?_;(case aP=>exact rfl);(case aB=>exact(by repeat (first|with_reducible exact HB.out|exact bl HB|refine bs ?_ GE332|refine bs ?_ GE333|refine bs ?_ GE348)));(case aF=>exact(fun _ _=>trivial));(case aO=>exact(by (with_reducible repeat (first|apply Kd.R_alloc|apply Kd.R_drewN|apply Kd.R_drew));exact Kd.R_mono (Kd.R_far (p:=⟨gb348,2,none⟩) (Kd.R_far (p:=⟨gb348,1,none⟩) (Kd.R_far (p:=⟨gb348,0,none⟩) (Kd.R_types HO_6.out BK348.out (by decide)) (fun _ hk=>hk.2) (.int .i64 ((rd_T22 y334 x34_3).f0))) (fun _ hk=>hk.2) (.int .i64 ((rd_T22 y334 x34_3).f1))) (fun _ hk=>hk.2) (.int .i64 ((rd_T22 y334 x34_3).f2))) (fun _ hk=>trivial)));(case aS=>exact(below_size (by repeat (first|with_reducible exact HB.out|exact bl HB|refine bs ?_ GE332|refine bs ?_ GE333|refine bs ?_ GE348))));(case aL=>have:=LMc45.out;omega);intro v350 w50 ho hb hg hat;rw [←Ny349.out] at ho;have n0_:=Aside0.mk (blk_grown (g:=gb332) (o:=.cells #[.int .i64 t345,.int .i64 a0_1,.int .i64 a0_2,.int .i64 a0_3,.int .i64 a0_4] 24 (0,0)) (by try refine bk ?_;refine blk_far ?_ NB332_348.out _;try refine bk ?_;refine blk_far ?_ NB332_348.out _;try refine bk ?_;refine blk_far ?_ NB332_348.out _;try refine bk ?_;exact BK332.out) hg (Kd.R_ne HO_6.out BK332.out (by decide)));have n1_:=Aside0.mk (blk_grown (g:=gb333) (o:=.cells #[.int .i64 0,.int .i64 0,.int .i64 0,.int .i64 0,.int .i64 0] 24 (0,0)) (by try refine bk ?_;refine blk_far ?_ NB333_348.out _;try refine bk ?_;refine blk_far ?_ NB333_348.out _;try refine bk ?_;refine blk_far ?_ NB333_348.out _;try refine bk ?_;exact BK333.out) hg (Kd.R_ne HO_6.out BK333.out (by decide)));have n2_:=Aside0.mk (blk_grown (g:=gb348) (o:=.cells #[.int .i64 ((rd_T22 y334 x34_3).f0),.int .i64 ((rd_T22 y334 x34_3).f1),.int .i64 ((rd_T22 y334 x34_3).f2)] 22 (0,0)) (by try refine bk ?_;refine blk_put (cs:=#[.int .i64 ((rd_T22 y334 x34_3).f0),.int .i64 ((rd_T22 y334 x34_3).f1),.int .i64 0]) ?_ 2 _ rfl;try refine bk ?_;refine blk_put (cs:=#[.int .i64 ((rd_T22 y334 x34_3).f0),.int .i64 0,.int .i64 0]) ?_ 1 _ rfl;try refine bk ?_;refine blk_put (cs:=#[.int .i64 0,.int .i64 0,.int .i64 0]) ?_ 0 _ rfl;try refine bk ?_;exact BK348.out) hg (Kd.R_ne HO_6.out BK348.out (by decide)));have n3_:=Aside0.mk (hb);have n4_:=Aside0.mk (ho);clear BK332;clear BK333;clear BK348;clear HB;clear HO_6;have BK332:=n0_;have BK333:=n1_;have BK348:=n2_;have HB:=n3_;have HO351:=n4_;clear n0_ n1_ n2_ n3_ n4_;clear ho hb hg hat)))
               go_roundg k3
               case measure=>have:=HJ5.out;have:=HK2.out;have:=HK3.out;omega
               case rel=>exact⟨(y349),(wrap64 (x34_3+1)),(by first|rfl|(simp;done)|(simp [*];done)),H',⟨by have:=HJ5.out;have:=HK2.out;have:=HK3.out;omega⟩,⟨by first|exact HO351.out|exact kR HO351.out⟩,⟨by first|exact BK332.out|exact bk BK332.out⟩,⟨by first|exact BK333.out|exact bk BK333.out⟩,⟨by repeat (first|with_reducible exact HB.out|exact bl HB|refine bs ?_ GE332|refine bs ?_ GE333|refine bs ?_ GE348)⟩⟩
              ·rw [if_neg c45] at H
               exact absurd H (by simp)
             ·rw [if_neg c44] at H
              exact absurd H (by simp)
            ·rw [if_neg c43] at H
             exact absurd H (by simp)
           ·rw [if_neg c42] at H
            have c42b0:decide (x34_3<(y334.length:Int))=false:=decide_eq_false c42
            clear c42
            replace H:=Option.bind_eq_some_iff.mp H
            obtain⟨⟨t352,t353⟩,A510,H⟩:=H
            replace H:(sense_Learn.l2 k3 ([]:List Int) y334 0 (y334.length:Int) t345 t352 a0_2 a0_3 a0_4)=some (r1,r2,r3,r4,r5):=H
            have A51:=Aside0.mk A510
            clear A510
            have H':=Aside0.mk H
            clear H
            obtain⟨Ao52,co52,eo52⟩:=Kd.R_slice HO_6.out
            subst eo52
            go_wp2_with (first|((with_reducible refine gate_callee (f:=36) rfl ?_);refine goesL_ (some 47) rfl rfl Try.func36 (by kernel_rfl) rfl #[.slice Ao52 x6_3.length co52] rfl (by exact mA _ _) ?_;(with_reducible refine(sum_Mean.calls k3 _ _ x6_3 t352 t353 _ ?side1 ?side2 A51.out).mono ?_);(case side1=>first|exact(Kd.R_reads' HO_6.out).2.2|exact kC (Kd.R_reads' HO_6.out).2.2);(case side2=>exact(Kd.R_reads' HO_6.out).2.1);rintro e w53 ⟨rfl,hb⟩;refine⟨_,rfl,?_⟩;have n0_:=Aside0.mk (Kd.R_below (by first|exact HO_6.out|exact kR HO_6.out) hb);have n1_:=Aside0.mk (blk_below (bk BK332.out) hb);have n2_:=Aside0.mk (blk_below (bk BK333.out) hb);have n3_:=Aside0.mk (below_step (by repeat (first|with_reducible exact HB.out|exact bl HB|refine bs ?_ GE332|refine bs ?_ GE333)) hb);clear HO_6;clear BK332;clear BK333;clear HB;have HO_6:=n0_;have BK332:=n1_;have BK333:=n2_;have HB:=n3_;clear n0_ n1_ n2_ n3_;(try clear hb);(try clear hb2);(try clear hk);(try clear hi);have hnb54:=NB332_333.out;have hnc54:=NB333_332.out;have hcz55_0:w53.cell? ⟨gb332,0,none⟩=some (.int .i64 t345):=(blk_cell BK332.out 0).trans rfl;have hcz55_1:w53.cell? ⟨gb332,1,none⟩=some (.int .i64 a0_1):=(blk_cell BK332.out 1).trans rfl;have hcz55_2:w53.cell? ⟨gb332,2,none⟩=some (.int .i64 a0_2):=(blk_cell BK332.out 2).trans rfl;have hcz55_3:w53.cell? ⟨gb332,3,none⟩=some (.int .i64 a0_3):=(blk_cell BK332.out 3).trans rfl;have hcz55_4:w53.cell? ⟨gb332,4,none⟩=some (.int .i64 a0_4):=(blk_cell BK332.out 4).trans rfl;have hfz55_0:=blk_frozen BK332.out 0;have hfz55_1:=blk_frozen BK332.out 1;have hfz55_2:=blk_frozen BK332.out 2;have hfz55_3:=blk_frozen BK332.out 3;have hfz55_4:=blk_frozen BK332.out 4))
            try (refine wp_loop_rounds 4 ?_)
            repeat (rw [rounds_succ];try go_wp2_with (first|((with_reducible refine gate_callee (f:=36) rfl ?_);refine goesL_ (some 47) rfl rfl Try.func36 (by kernel_rfl) rfl #[.slice Ao52 x6_3.length co52] rfl (by exact mA _ _) ?_;(with_reducible refine(sum_Mean.calls k3 _ _ x6_3 t352 t353 _ ?side1 ?side2 A51.out).mono ?_);(case side1=>first|exact(Kd.R_reads' HO_6.out).2.2|exact kC (Kd.R_reads' HO_6.out).2.2);(case side2=>exact(Kd.R_reads' HO_6.out).2.1);rintro e w53 ⟨rfl,hb⟩;refine⟨_,rfl,?_⟩;have n0_:=Aside0.mk (Kd.R_below (by first|exact HO_6.out|exact kR HO_6.out) hb);have n1_:=Aside0.mk (blk_below (bk BK332.out) hb);have n2_:=Aside0.mk (blk_below (bk BK333.out) hb);have n3_:=Aside0.mk (below_step (by repeat (first|with_reducible exact HB.out|exact bl HB|refine bs ?_ GE332|refine bs ?_ GE333)) hb);clear HO_6;clear BK332;clear BK333;clear HB;have HO_6:=n0_;have BK332:=n1_;have BK333:=n2_;have HB:=n3_;clear n0_ n1_ n2_ n3_;(try clear hb);(try clear hb2);(try clear hk);(try clear hi);have hnb54:=NB332_333.out;have hnc54:=NB333_332.out;have hcz55_0:w53.cell? ⟨gb332,0,none⟩=some (.int .i64 t345):=(blk_cell BK332.out 0).trans rfl;have hcz55_1:w53.cell? ⟨gb332,1,none⟩=some (.int .i64 a0_1):=(blk_cell BK332.out 1).trans rfl;have hcz55_2:w53.cell? ⟨gb332,2,none⟩=some (.int .i64 a0_2):=(blk_cell BK332.out 2).trans rfl;have hcz55_3:w53.cell? ⟨gb332,3,none⟩=some (.int .i64 a0_3):=(blk_cell BK332.out 3).trans rfl;have hcz55_4:w53.cell? ⟨gb332,4,none⟩=some (.int .i64 a0_4):=(blk_cell BK332.out 4).trans rfl;have hfz55_0:=blk_frozen BK332.out 0;have hfz55_1:=blk_frozen BK332.out 1;have hfz55_2:=blk_frozen BK332.out 2;have hfz55_3:=blk_frozen BK332.out 3;have hfz55_4:=blk_frozen BK332.out 4)))
            go_loopg [6,34] k3 (fun kq v6 v34 w'=>∃ (x6_4:List Int) (x34_4:Int),v34=.int .i64 x34_4∧Aside0 (sense_Learn.l2 kq x6_4 y334 x34_4 (y334.length:Int) t345 t352 a0_2 a0_3 a0_4=some (r1,r2,r3,r4,r5))∧Aside0 (kq≤k3)∧Aside0 (Kd.R (Kd.int .i64) 3 w' w.heap.size (fun _=>True) v6 x6_4)∧Aside0 (w'.heap[gb332]? = some (.cells #[.int .i64 t345,.int .i64 t352,.int .i64 a0_2,.int .i64 a0_3,.int .i64 a0_4] 24 (0,0)))∧Aside0 (w'.heap[gb333]? = some (.cells #[.int .i64 0,.int .i64 0,.int .i64 0,.int .i64 0,.int .i64 0] 24 (0,0)))∧Aside0 (Below w.heap.size w w'))
            case atStart=>exact⟨(([]:List Int)),(0),(by first|rfl|(simp;done)|(simp [*];done)),H',⟨Nat.le_refl _⟩,⟨by first|exact Kd.R_nil _ _ _ _ _|exact Kd.N_nil _ _ _ _ _|exact Kd.V_nil _ _ _ _ _|exact Kd.Q_nil _ _ _ _ _|exact Kd.S_nil _ _ _ _ _⟩,⟨by try refine bk ?_;refine blk_put (cs:=#[.int .i64 t345,.int .i64 a0_1,.int .i64 a0_2,.int .i64 a0_3,.int .i64 a0_4]) ?_ 1 _ rfl;try refine bk ?_;exact BK332.out⟩,⟨by try refine bk ?_;refine blk_far ?_ NB333_332.out _;try refine bk ?_;exact BK333.out⟩,⟨by repeat (first|with_reducible exact HB.out|exact bl HB|refine bs ?_ GE332|refine bs ?_ GE333)⟩⟩
            case round =>
             clear H'
             try clear c1
             try clear c2
             try clear p2
             try clear c3
             try clear p3
             try clear q3
             try clear hx3
             try clear c4
             try clear c4b0
             try clear c4b1
             try clear c5
             try clear c5b0
             try clear c5b1
             try clear p6
             try clear q9
             try clear c11
             try clear c12
             try clear c12b0
             try clear c12b1
             try clear c12b2
             try clear c13
             try clear c15
             try clear c17
             try clear c21
             try clear c24
             try clear c25
             try clear c28
             try clear c28b0
             try clear c29
             try clear c29b0
             try clear c30
             try clear c30b0
             try clear c31
             try clear c33
             try clear c34
             try clear p34
             try clear q34
             try clear hx34
             try clear c36
             try clear c40
             try clear c42
             try clear c42b0
             try clear c43
             try clear c43b0
             try clear c44
             try clear c44b0
             try clear c45
             try clear c47
             try clear c48
             try clear c54
             try clear hcz14_0
             try clear hcz14_1
             try clear hcz14_2
             try clear hcz14_3
             try clear hcz14_4
             try clear hcz18_0
             try clear hcz18_1
             try clear hcz18_2
             try clear hcz18_3
             try clear hcz18_4
             try clear hcz22_0
             try clear hcz22_1
             try clear hcz22_2
             try clear hcz22_3
             try clear hcz22_4
             try clear hcz26_0
             try clear hcz26_1
             try clear hcz26_2
             try clear hcz26_3
             try clear hcz26_4
             try clear hcz27_0
             try clear hcz27_1
             try clear hcz27_2
             try clear hcz27_3
             try clear hcz27_4
             try clear hcz35_0
             try clear hcz35_1
             try clear hcz35_2
             try clear hcz41_0
             try clear hcz41_1
             try clear hcz41_2
             try clear hcz41_3
             try clear hcz41_4
             try clear hcz49_0
             try clear hcz49_1
             try clear hcz49_2
             try clear hcz55_0
             try clear hcz55_1
             try clear hcz55_2
             try clear hcz55_3
             try clear hcz55_4
             try clear hfz14_0
             try clear hfz14_1
             try clear hfz14_2
             try clear hfz14_3
             try clear hfz14_4
             try clear hfz18_0
             try clear hfz18_1
             try clear hfz18_2
             try clear hfz18_3
             try clear hfz18_4
             try clear hfz22_0
             try clear hfz22_1
             try clear hfz22_2
             try clear hfz22_3
             try clear hfz22_4
             try clear hfz26_0
             try clear hfz26_1
             try clear hfz26_2
             try clear hfz26_3
             try clear hfz26_4
             try clear hfz27_0
             try clear hfz27_1
             try clear hfz27_2
             try clear hfz27_3
             try clear hfz27_4
             try clear hfz35_0
             try clear hfz35_1
             try clear hfz35_2
             try clear hfz41_0
             try clear hfz41_1
             try clear hfz41_2
             try clear hfz41_3
             try clear hfz41_4
             try clear hfz49_0
             try clear hfz49_1
             try clear hfz49_2
             try clear hfz55_0
             try clear hfz55_1
             try clear hfz55_2
             try clear hfz55_3
             try clear hfz55_4
             try clear hx340_0
             try clear hx340_1
             try clear hx340_2
             try clear hx347_0
             try clear hx347_1
             try clear hx347_2
             try clear p2
             try clear p3
             try clear p34
             try clear p340
             try clear p347
             try clear p6
             try clear q3
             try clear q34
             try clear q340
             try clear q347
             try clear q9
             obtain⟨x6_4,x34_4,rfl,HA,HK4,HO_6,BK332,BK333,HB⟩:=hrel
             cases gk with
             | zero=>exact absurd HA.out (by simp [sense_Learn.l2])
             | succ k4 =>
              have H:=HA.out
              clear HA
              simp only [sense_Learn.l2] at H
              by_cases c56:x34_4<(y334.length:Int)
              ·rw [if_pos c56] at H
               have c56b0:decide (x34_4<(y334.length:Int))=true:=decide_eq_true c56
               clear c56
               by_cases c57:0≤x34_4
               ·rw [if_pos c57] at H
                have c57b0:decide (0≤x34_4)=true:=decide_eq_true c57
                clear c57
                by_cases c58:x34_4<(y334.length:Int)
                ·rw [if_pos c58] at H
                 have c58b0:decide (x34_4<(y334.length:Int))=true:=decide_eq_true c58
                 clear c58
                 by_cases c59:x6_4.length<17592186044416
                 ·rw [if_pos c59] at H
                  have LMc59:=Aside0.mk c59
                  clear c59
                  obtain⟨y356,hy356⟩:∃ y_:List Int,y_=(x6_4++[(rd_T22 y334 x34_4).f2]):=⟨_,rfl⟩
                  replace H:(sense_Learn.l2 k4 y356 y334 (wrap64 (x34_4+1)) (y334.length:Int) t345 t352 a0_2 a0_3 a0_4)=some (r1,r2,r3,r4,r5):=by first|(rw [hy356];with_reducible exact H)|(have H2_:=(Option.bind_some _ _).symm.trans H;rw [hy356];with_reducible exact H2_)|(have H2_:=(Option.bind_some _ _).symm.trans H;with_reducible exact H2_)|with_reducible exact H|(rw [hy356];exact H)|exact H
                  have Ny356:=Aside0.mk hy356
                  clear hy356
                  have H':=Aside0.mk H
                  clear H
                  have p354:0≤(x34_4:Int):=of_decide_eq_true (by first|(with_reducible assumption)|assumption)
                  have q354:x34_4<(y334.length:Int):=of_decide_eq_true (by first|(with_reducible assumption)|assumption)
                  obtain⟨ad354,e354,hx354_0,hx354_1,hx354_2⟩:=at_T22 HR337.out x34_4 p354 q354
                  cases e354
                  replace hx354_0:=(HB.out.cell (World.block_lt_of_cell? w _ hx354_0)).trans hx354_0
                  replace hx354_1:=(HB.out.cell (World.block_lt_of_cell? w _ hx354_1)).trans hx354_1
                  replace hx354_2:=(HB.out.cell (World.block_lt_of_cell? w _ hx354_2)).trans hx354_2
                  replace p354:=eq_true p354
                  replace q354:=eq_true q354
                  go_wp2_with (first|((with_reducible refine gate_dst (N:=8) rfl ?_);have _t:=tok3_8;clear tok3_8 _t;(try (refine gate_guard (by rfl) ?_;dsimp only));refine box_event ?hg (N:=8) ?hd (cs:=#[.int .i64 0,.int .i64 0,.int .i64 0]) (t:=22) ?hr ?_;(case hd=>rfl);(case hg=>rfl);(case hr=>first|(go_simp;done)|(go_simp;rfl));intro gb355 hg w60 hbox hb;have n0_:=Aside0.mk (Kd.R_below (by first|exact HO_6.out|exact kR HO_6.out) hb);have n1_:=Aside0.mk (blk_below (bk BK332.out) hb);have n2_:=Aside0.mk (blk_below (bk BK333.out) hb);have n3_:=Aside0.mk (below_step (by repeat (first|with_reducible exact HB.out|exact bl HB|refine bs ?_ GE332|refine bs ?_ GE333)) hb);have n4_:=Aside0.mk (hbox);have n5_:=Aside0.mk ((by rw [hg];exact(below_size (by repeat (first|with_reducible exact HB.out|exact bl HB|refine bs ?_ GE332|refine bs ?_ GE333))):w.heap.size≤gb355));have n6_:=Aside0.mk ((by rw [hg];exact(below_size (by repeat (first|with_reducible exact HB.out|exact bl HB|refine bs ?_ GE332|refine bs ?_ GE333))):w.heap.size≤gb355));have n7_:=Aside0.mk ((by rw [hg];exact Nat.ne_of_lt (blk_lt (bk BK332.out)):gb332≠gb355));have n8_:=Aside0.mk ((by rw [hg];exact Nat.ne_of_gt (blk_lt (bk BK332.out)):gb355≠gb332));have n9_:=Aside0.mk ((by rw [hg];exact Nat.ne_of_lt (blk_lt (bk BK333.out)):gb333≠gb355));have n10_:=Aside0.mk ((by rw [hg];exact Nat.ne_of_gt (blk_lt (bk BK333.out)):gb355≠gb333));clear HO_6;clear BK332;clear BK333;clear HB;have HO_6:=n0_;have BK332:=n1_;have BK333:=n2_;have HB:=n3_;have BK355:=n4_;have GW355:=n5_;have GE355:=n6_;have NB332_355:=n7_;have NB355_332:=n8_;have NB333_355:=n9_;have NB355_333:=n10_;clear n0_ n1_ n2_ n3_ n4_ n5_ n6_ n7_ n8_ n9_ n10_;clear hb hbox hg;have hnb61:=NB355_332.out;have hnc61:=NB332_355.out;have hnb62:=NB355_333.out;have hnc62:=NB333_355.out;have hcz63_0:w60.cell? ⟨gb355,0,none⟩=some (.int .i64 0):=(blk_cell BK355.out 0).trans rfl;have hcz63_1:w60.cell? ⟨gb355,1,none⟩=some (.int .i64 0):=(blk_cell BK355.out 1).trans rfl;have hcz63_2:w60.cell? ⟨gb355,2,none⟩=some (.int .i64 0):=(blk_cell BK355.out 2).trans rfl;have hfz63_0:=blk_frozen BK355.out 0;have hfz63_1:=blk_frozen BK355.out 1;have hfz63_2:=blk_frozen BK355.out 2)|((with_reducible refine gate_builtin (b:=.append) (xs:=#[.tmp 38,.tmp 42]) rfl ?_);have _t:=tok3_42;clear tok3_42 _t;(try (refine gate_guard (by rfl) ?_;dsimp only));at_builtin;refine Kd.R_append (Kd.int .i64) (w0:=w) w.heap.size rfl (.tmp 38) (.tmp 42) 42 3 (.int .i64 0) 8 rfl Try.underlying42 info3 rfl (by decide) (by omega) u6 x6_4 ((rd_T22 y334 x34_4).f2) [.int .i64 ((rd_T22 y334 x34_4).f2)] (fun _=>True) (fun _=>False) rfl (by first|(go_simp;done)|(go_simp;rfl)) ?aP (fun _ hk=>hk.elim) ?aF ?aO ?aB ?aS ?aL ?_;(case aP=>exact rfl);(case aB=>exact(by repeat (first|with_reducible exact HB.out|exact bl HB|refine bs ?_ GE332|refine bs ?_ GE333|refine bs ?_ GE355)));(case aF=>exact(fun _ _=>trivial));(case aO=>exact(by (with_reducible repeat (first|apply Kd.R_alloc|apply Kd.R_drewN|apply Kd.R_drew));exact Kd.R_mono (Kd.R_far (p:=⟨gb355,2,none⟩) (Kd.R_far (p:=⟨gb355,1,none⟩) (Kd.R_far (p:=⟨gb355,0,none⟩) (Kd.R_types HO_6.out BK355.out (by decide)) (fun _ hk=>hk.2) (.int .i64 ((rd_T22 y334 x34_4).f0))) (fun _ hk=>hk.2) (.int .i64 ((rd_T22 y334 x34_4).f1))) (fun _ hk=>hk.2) (.int .i64 ((rd_T22 y334 x34_4).f2))) (fun _ hk=>trivial)));(case aS=>exact(below_size (by repeat (first|with_reducible exact HB.out|exact bl HB|refine bs ?_ GE332|refine bs ?_ GE333|refine bs ?_ GE355))));(case aL=>have:=LMc59.out;omega);intro v357 w64 ho hb hg hat;rw [←Ny356.out] at ho;have n0_:=Aside0.mk (blk_grown (g:=gb332) (o:=.cells #[.int .i64 t345,.int .i64 t352,.int .i64 a0_2,.int .i64 a0_3,.int .i64 a0_4] 24 (0,0)) (by try refine bk ?_;refine blk_far ?_ NB332_355.out _;try refine bk ?_;refine blk_far ?_ NB332_355.out _;try refine bk ?_;refine blk_far ?_ NB332_355.out _;try refine bk ?_;exact BK332.out) hg (Kd.R_ne HO_6.out BK332.out (by decide)));have n1_:=Aside0.mk (blk_grown (g:=gb333) (o:=.cells #[.int .i64 0,.int .i64 0,.int .i64 0,.int .i64 0,.int .i64 0] 24 (0,0)) (by try refine bk ?_;refine blk_far ?_ NB333_355.out _;try refine bk ?_;refine blk_far ?_ NB333_355.out _;try refine bk ?_;refine blk_far ?_ NB333_355.out _;try refine bk ?_;exact BK333.out) hg (Kd.R_ne HO_6.out BK333.out (by decide)));have n2_:=Aside0.mk (blk_grown (g:=gb355) (o:=.cells #[.int .i64 ((rd_T22 y334 x34_4).f0),.int .i64 ((rd_T22 y334 x34_4).f1),.int .i64 ((rd_T22 y334 x34_4).f2)] 22 (0,0)) (by try refine bk ?_;refine blk_put (cs:=#[.int .i64 ((rd_T22 y334 x34_4).f0),.int .i64 ((rd_T22 y334 x34_4).f1),.int .i64 0]) ?_ 2 _ rfl;try refine bk ?_;refine blk_put (cs:=#[.int .i64 ((rd_T22 y334 x34_4).f0),.int .i64 0,.int .i64 0]) ?_ 1 _ rfl;try refine bk ?_;refine blk_put (cs:=#[.int .i64 0,.int .i64 0,.int .i64 0]) ?_ 0 _ rfl;try refine bk ?_;exact BK355.out) hg (Kd.R_ne HO_6.out BK355.out (by decide)));have n3_:=Aside0.mk (hb);have n4_:=Aside0.mk (ho);clear BK332;clear BK333;clear BK355;clear HB;clear HO_6;have BK332:=n0_;have BK333:=n1_;have BK355:=n2_;have HB:=n3_;have HO358:=n4_;clear n0_ n1_ n2_ n3_ n4_;clear ho hb hg hat))
                  try (refine wp_loop_rounds 4 ?_)
                  repeat (rw [rounds_succ];try go_wp2_with (first|((with_reducible refine gate_dst (N:=8) rfl ?_);have _t:=tok3_8;clear tok3_8 _t;(try (refine gate_guard (by rfl) ?_;dsimp only));refine box_event ?hg (N:=8) ?hd (cs:=#[.int .i64 0,.int .i64 0,.int .i64 0]) (t:=22) ?hr ?_;(case hd=>rfl);(case hg=>rfl);(case hr=>first|(go_simp;done)|(go_simp;rfl));intro gb355 hg w60 hbox hb;have n0_:=Aside0.mk (Kd.R_below (by first|exact HO_6.out|exact kR HO_6.out) hb);have n1_:=Aside0.mk (blk_below (bk BK332.out) hb);have n2_:=Aside0.mk (blk_below (bk BK333.out) hb);have n3_:=Aside0.mk (below_step (by repeat (first|with_reducible exact HB.out|exact bl HB|refine bs ?_ GE332|refine bs ?_ GE333)) hb);have n4_:=Aside0.mk (hbox);have n5_:=Aside0.mk ((by rw [hg];exact(below_size (by repeat (first|with_reducible exact HB.out|exact bl HB|refine bs ?_ GE332|refine bs ?_ GE333))):w.heap.size≤gb355));have n6_:=Aside0.mk ((by rw [hg];exact(below_size (by repeat (first|with_reducible exact HB.out|exact bl HB|refine bs ?_ GE332|refine bs ?_ GE333))):w.heap.size≤gb355));have n7_:=Aside0.mk ((by rw [hg];exact Nat.ne_of_lt (blk_lt (bk BK332.out)):gb332≠gb355));have n8_:=Aside0.mk ((by rw [hg];exact Nat.ne_of_gt (blk_lt (bk BK332.out)):gb355≠gb332));have n9_:=Aside0.mk ((by rw [hg];exact Nat.ne_of_lt (blk_lt (bk BK333.out)):gb333≠gb355));have n10_:=Aside0.mk ((by rw [hg];exact Nat.ne_of_gt (blk_lt (bk BK333.out)):gb355≠gb333));clear HO_6;clear BK332;clear BK333;clear HB;have HO_6:=n0_;have BK332:=n1_;have BK333:=n2_;have HB:=n3_;have BK355:=n4_;have GW355:=n5_;have GE355:=n6_;have NB332_355:=n7_;have NB355_332:=n8_;have NB333_355:=n9_;have NB355_333:=n10_;clear n0_ n1_ n2_ n3_ n4_ n5_ n6_ n7_ n8_ n9_ n10_;clear hb hbox hg;have hnb61:=NB355_332.out;have hnc61:=NB332_355.out;have hnb62:=NB355_333.out;have hnc62:=NB333_355.out;have hcz63_0:w60.cell? ⟨gb355,0,none⟩=some (.int .i64 0):=(blk_cell BK355.out 0).trans rfl;have hcz63_1:w60.cell? ⟨gb355,1,none⟩=some (.int .i64 0):=(blk_cell BK355.out 1).trans rfl;have hcz63_2:w60.cell? ⟨gb355,2,none⟩=some (.int .i64 0):=(blk_cell BK355.out 2).trans rfl;have hfz63_0:=blk_frozen BK355.out 0;have hfz63_1:=blk_frozen BK355.out 1;have hfz63_2:=blk_frozen BK355.out 2)|((with_reducible refine gate_builtin (b:=.append) (xs:=#[.tmp 38,.tmp 42]) rfl ?_);have _t:=tok3_42;clear tok3_42 _t;(try (refine gate_guard (by rfl) ?_;dsimp only));at_builtin;refine Kd.R_append (Kd.int .i64) (w0:=w) w.heap.size rfl (.tmp 38) (.tmp 42) 42 3 (.int .i64 0) 8 rfl Try.underlying42 info3 rfl (by decide) (by omega) u6 x6_4 ((rd_T22 y334 x34_4).f2) [.int .i64 ((rd_T22 y334 x34_4).f2)] (fun _=>True) (fun _=>False) rfl (by first|(go_simp;done)|(go_simp;rfl)) ?aP (fun _ hk=>hk.elim) ?aF ?aO ?aB ?aS ?aL ?_;(case aP=>exact rfl);(case aB=>exact(by repeat (first|with_reducible exact HB.out|exact bl HB|refine bs ?_ GE332|refine bs ?_ GE333|refine bs ?_ GE355)));(case aF=>exact(fun _ _=>trivial));(case aO=>exact(by (with_reducible repeat (first|apply Kd.R_alloc|apply Kd.R_drewN|apply Kd.R_drew));exact Kd.R_mono (Kd.R_far (p:=⟨gb355,2,none⟩) (Kd.R_far (p:=⟨gb355,1,none⟩) (Kd.R_far (p:=⟨gb355,0,none⟩) (Kd.R_types HO_6.out BK355.out (by decide)) (fun _ hk=>hk.2) (.int .i64 ((rd_T22 y334 x34_4).f0))) (fun _ hk=>hk.2) (.int .i64 ((rd_T22 y334 x34_4).f1))) (fun _ hk=>hk.2) (.int .i64 ((rd_T22 y334 x34_4).f2))) (fun _ hk=>trivial)));(case aS=>exact(below_size (by repeat (first|with_reducible exact HB.out|exact bl HB|refine bs ?_ GE332|refine bs ?_ GE333|refine bs ?_ GE355))));(case aL=>have:=LMc59.out;omega);intro v357 w64 ho hb hg hat;rw [←Ny356.out] at ho;have n0_:=Aside0.mk (blk_grown (g:=gb332) (o:=.cells #[.int .i64 t345,.int .i64 t352,.int .i64 a0_2,.int .i64 a0_3,.int .i64 a0_4] 24 (0,0)) (by try refine bk ?_;refine blk_far ?_ NB332_355.out _;try refine bk ?_;refine blk_far ?_ NB332_355.out _;try refine bk ?_;refine blk_far ?_ NB332_355.out _;try refine bk ?_;exact BK332.out) hg (Kd.R_ne HO_6.out BK332.out (by decide)));have n1_:=Aside0.mk (blk_grown (g:=gb333) (o:=.cells #[.int .i64 0,.int .i64 0,.int .i64 0,.int .i64 0,.int .i64 0] 24 (0,0)) (by try refine bk ?_;refine blk_far ?_ NB333_355.out _;try refine bk ?_;refine blk_far ?_ NB333_355.out _;try refine bk ?_;refine blk_far ?_ NB333_355.out _;try refine bk ?_;exact BK333.out) hg (Kd.R_ne HO_6.out BK333.out (by decide)));have n2_:=Aside0.mk (blk_grown (g:=gb355) (o:=.cells #[.int .i64 ((rd_T22 y334 x34_4).f0),.int .i64 ((rd_T22 y334 x34_4).f1),.int .i64 ((rd_T22 y334 x34_4).f2)] 22 (0,0)) (by try refine bk ?_;refine blk_put (cs:=#[.int .i64 ((rd_T22 y334 x34_4).f0),.int .i64 ((rd_T22 y334 x34_4).f1),.int .i64 0]) ?_ 2 _ rfl;try refine bk ?_;refine blk_put (cs:=#[.int .i64 ((rd_T22 y334 x34_4).f0),.int .i64 0,.int .i64 0]) ?_ 1 _ rfl;try refine bk ?_;refine blk_put (cs:=#[.int .i64 0,.int .i64 0,.int .i64 0]) ?_ 0 _ rfl;try refine bk ?_;exact BK355.out) hg (Kd.R_ne HO_6.out BK355.out (by decide)));have n3_:=Aside0.mk (hb);have n4_:=Aside0.mk (ho);clear BK332;clear BK333;clear BK355;clear HB;clear HO_6;have BK332:=n0_;have BK333:=n1_;have BK355:=n2_;have HB:=n3_;have HO358:=n4_;clear n0_ n1_ n2_ n3_ n4_;clear ho hb hg hat)))
                  go_roundg k4
                  case measure=>have:=HJ5.out;have:=HK2.out;have:=HK3.out;have:=HK4.out;omega
                  case rel=>exact⟨(y356),(wrap64 (x34_4+1)),(by first|rfl|(simp;done)|(simp [*];done)),H',⟨by have:=HJ5.out;have:=HK2.out;have:=HK3.out;have:=HK4.out;omega⟩,⟨by first|exact HO358.out|exact kR HO358.out⟩,⟨by first|exact BK332.out|exact bk BK332.out⟩,⟨by first|exact BK333.out|exact bk BK333.out⟩,⟨by repeat (first|with_reducible exact HB.out|exact bl HB|refine bs ?_ GE332|refine bs ?_ GE333|refine bs ?_ GE355)⟩⟩
                 ·rw [if_neg c59] at H
                  exact absurd H (by simp)
                ·rw [if_neg c58] at H
                 exact absurd H (by simp)
               ·rw [if_neg c57] at H
                exact absurd H (by simp)
              ·rw [if_neg c56] at H
               have c56b0:decide (x34_4<(y334.length:Int))=false:=decide_eq_false c56
               clear c56
               replace H:=Option.bind_eq_some_iff.mp H
               obtain⟨⟨t359,t360⟩,A650,H⟩:=H
               replace H:(some (t345,t352,t359,a0_3,a0_4))=some (r1,r2,r3,r4,r5):=H
               have A65:=Aside0.mk A650
               clear A650
               simp only [Option.some.injEq,Prod.mk.injEq] at H
               obtain⟨rfl,rfl,rfl,rfl,rfl⟩:=H
               obtain⟨Ao66,co66,eo66⟩:=Kd.R_slice HO_6.out
               subst eo66
               go_wp2_with (first|((with_reducible refine gate_callee (f:=36) rfl ?_);refine goesL_ (some 47) rfl rfl Try.func36 (by kernel_rfl) rfl #[.slice Ao66 x6_4.length co66] rfl (by exact mA _ _) ?_;(with_reducible refine(sum_Mean.calls k4 _ _ x6_4 t359 t360 _ ?side1 ?side2 A65.out).mono ?_);(case side1=>first|exact(Kd.R_reads' HO_6.out).2.2|exact kC (Kd.R_reads' HO_6.out).2.2);(case side2=>exact(Kd.R_reads' HO_6.out).2.1);rintro e w67 ⟨rfl,hb⟩;refine⟨_,rfl,?_⟩;have n0_:=Aside0.mk (Kd.R_below (by first|exact HO_6.out|exact kR HO_6.out) hb);have n1_:=Aside0.mk (blk_below (bk BK332.out) hb);have n2_:=Aside0.mk (blk_below (bk BK333.out) hb);have n3_:=Aside0.mk (below_step (by repeat (first|with_reducible exact HB.out|exact bl HB|refine bs ?_ GE332|refine bs ?_ GE333)) hb);clear HO_6;clear BK332;clear BK333;clear HB;have HO_6:=n0_;have BK332:=n1_;have BK333:=n2_;have HB:=n3_;clear n0_ n1_ n2_ n3_;(try clear hb);(try clear hb2);(try clear hk);(try clear hi);have hnb68:=NB332_333.out;have hnc68:=NB333_332.out;have hcz69_0:w67.cell? ⟨gb332,0,none⟩=some (.int .i64 t345):=(blk_cell BK332.out 0).trans rfl;have hcz69_1:w67.cell? ⟨gb332,1,none⟩=some (.int .i64 t352):=(blk_cell BK332.out 1).trans rfl;have hcz69_2:w67.cell? ⟨gb332,2,none⟩=some (.int .i64 a0_2):=(blk_cell BK332.out 2).trans rfl;have hcz69_3:w67.cell? ⟨gb332,3,none⟩=some (.int .i64 a0_3):=(blk_cell BK332.out 3).trans rfl;have hcz69_4:w67.cell? ⟨gb332,4,none⟩=some (.int .i64 a0_4):=(blk_cell BK332.out 4).trans rfl;have hfz69_0:=blk_frozen BK332.out 0;have hfz69_1:=blk_frozen BK332.out 1;have hfz69_2:=blk_frozen BK332.out 2;have hfz69_3:=blk_frozen BK332.out 3;have hfz69_4:=blk_frozen BK332.out 4;have hcz70_0:w67.cell? ⟨gb333,0,none⟩=some (.int .i64 0):=(blk_cell BK333.out 0).trans rfl;have hcz70_1:w67.cell? ⟨gb333,1,none⟩=some (.int .i64 0):=(blk_cell BK333.out 1).trans rfl;have hcz70_2:w67.cell? ⟨gb333,2,none⟩=some (.int .i64 0):=(blk_cell BK333.out 2).trans rfl;have hcz70_3:w67.cell? ⟨gb333,3,none⟩=some (.int .i64 0):=(blk_cell BK333.out 3).trans rfl;have hcz70_4:w67.cell? ⟨gb333,4,none⟩=some (.int .i64 0):=(blk_cell BK333.out 4).trans rfl;have hfz70_0:=blk_frozen BK333.out 0;have hfz70_1:=blk_frozen BK333.out 1;have hfz70_2:=blk_frozen BK333.out 2;have hfz70_3:=blk_frozen BK333.out 3;have hfz70_4:=blk_frozen BK333.out 4))
               try (refine wp_loop_rounds 4 ?_)
               repeat (rw [rounds_succ];try go_wp2_with (first|((with_reducible refine gate_callee (f:=36) rfl ?_);refine goesL_ (some 47) rfl rfl Try.func36 (by kernel_rfl) rfl #[.slice Ao66 x6_4.length co66] rfl (by exact mA _ _) ?_;(with_reducible refine(sum_Mean.calls k4 _ _ x6_4 t359 t360 _ ?side1 ?side2 A65.out).mono ?_);(case side1=>first|exact(Kd.R_reads' HO_6.out).2.2|exact kC (Kd.R_reads' HO_6.out).2.2);(case side2=>exact(Kd.R_reads' HO_6.out).2.1);rintro e w67 ⟨rfl,hb⟩;refine⟨_,rfl,?_⟩;have n0_:=Aside0.mk (Kd.R_below (by first|exact HO_6.out|exact kR HO_6.out) hb);have n1_:=Aside0.mk (blk_below (bk BK332.out) hb);have n2_:=Aside0.mk (blk_below (bk BK333.out) hb);have n3_:=Aside0.mk (below_step (by repeat (first|with_reducible exact HB.out|exact bl HB|refine bs ?_ GE332|refine bs ?_ GE333)) hb);clear HO_6;clear BK332;clear BK333;clear HB;have HO_6:=n0_;have BK332:=n1_;have BK333:=n2_;have HB:=n3_;clear n0_ n1_ n2_ n3_;(try clear hb);(try clear hb2);(try clear hk);(try clear hi);have hnb68:=NB332_333.out;have hnc68:=NB333_332.out;have hcz69_0:w67.cell? ⟨gb332,0,none⟩=some (.int .i64 t345):=(blk_cell BK332.out 0).trans rfl;have hcz69_1:w67.cell? ⟨gb332,1,none⟩=some (.int .i64 t352):=(blk_cell BK332.out 1).trans rfl;have hcz69_2:w67.cell? ⟨gb332,2,none⟩=some (.int .i64 a0_2):=(blk_cell BK332.out 2).trans rfl;have hcz69_3:w67.cell? ⟨gb332,3,none⟩=some (.int .i64 a0_3):=(blk_cell BK332.out 3).trans rfl;have hcz69_4:w67.cell? ⟨gb332,4,none⟩=some (.int .i64 a0_4):=(blk_cell BK332.out 4).trans rfl;have hfz69_0:=blk_frozen BK332.out 0;have hfz69_1:=blk_frozen BK332.out 1;have hfz69_2:=blk_frozen BK332.out 2;have hfz69_3:=blk_frozen BK332.out 3;have hfz69_4:=blk_frozen BK332.out 4;have hcz70_0:w67.cell? ⟨gb333,0,none⟩=some (.int .i64 0):=(blk_cell BK333.out 0).trans rfl;have hcz70_1:w67.cell? ⟨gb333,1,none⟩=some (.int .i64 0):=(blk_cell BK333.out 1).trans rfl;have hcz70_2:w67.cell? ⟨gb333,2,none⟩=some (.int .i64 0):=(blk_cell BK333.out 2).trans rfl;have hcz70_3:w67.cell? ⟨gb333,3,none⟩=some (.int .i64 0):=(blk_cell BK333.out 3).trans rfl;have hcz70_4:w67.cell? ⟨gb333,4,none⟩=some (.int .i64 0):=(blk_cell BK333.out 4).trans rfl;have hfz70_0:=blk_frozen BK333.out 0;have hfz70_1:=blk_frozen BK333.out 1;have hfz70_2:=blk_frozen BK333.out 2;have hfz70_3:=blk_frozen BK333.out 3;have hfz70_4:=blk_frozen BK333.out 4)))
               refine bodyPost_ret (results_cell_row rfl _ _ gb333 24 #[.int .i64 t345,.int .i64 t352,.int .i64 t359,.int .i64 a0_3,.int .i64 a0_4] (0,0) _ rfl (by try refine bk ?_;refine blk_put (cs:=#[.int .i64 t345,.int .i64 t352,.int .i64 t359,.int .i64 a0_3,.int .i64 0]) ?_ 4 _ rfl;try refine bk ?_;refine blk_put (cs:=#[.int .i64 t345,.int .i64 t352,.int .i64 t359,.int .i64 0,.int .i64 0]) ?_ 3 _ rfl;try refine bk ?_;refine blk_put (cs:=#[.int .i64 t345,.int .i64 t352,.int .i64 0,.int .i64 0,.int .i64 0]) ?_ 2 _ rfl;try refine bk ?_;refine blk_put (cs:=#[.int .i64 t345,.int .i64 0,.int .i64 0,.int .i64 0,.int .i64 0]) ?_ 1 _ rfl;try refine bk ?_;refine blk_put (cs:=#[.int .i64 0,.int .i64 0,.int .i64 0,.int .i64 0,.int .i64 0]) ?_ 0 _ rfl;try refine bk ?_;refine blk_far ?_ NB333_332.out _;try refine bk ?_;exact BK333.out) Try.underlying24 rfl (by kernel_rfl)) rfl ?_
               exact⟨by first|rfl|(simp [errW_none,errW_some]<;>rfl)|(simp only [←hji3];first|rfl|(simp [errW_none,errW_some]<;>rfl))|(simp [*,errW_none,errW_some]<;>rfl),by repeat (first|with_reducible exact HB.out|exact bl HB|refine bs ?_ GE332|refine bs ?_ GE333)⟩
  ·rw [if_neg c5] at H
   exact absurd H (by simp)
 ·rw [if_neg c4] at H
  exact absurd H (by simp)
end Go.Proofs.Ytonfobdknnlbjaa.B
end
section
set_option linter.unusedVariables false
set_option linter.unusedSimpArgs false
namespace Go.Proofs.Ytonfobdknnlbjaa.B
open Go.RowKit Go.Proofs.YtonfobdknnlbjaaW.PrintWords Go.Proofs.YtonfobdknnlbjaaW.PrintLast Go.Proofs.YtonfobdknnlbjaaW.PrintMore
attribute [local go_sem] max2_int min2_int max_two min_two max_three min_three max_four min_four
set_option linter.unusedVariables false
set_option linter.unusedSimpArgs false
attribute [local go_sem high] eqA22
def outriggerlaw18_awake.f (k:Nat)  : Option (Bool):=(sense_Read.f k 4294967296 4294967296 4294967296 8589934592 42949672960 12884901888 17179869184 21474836480).bind fun bt362=>((sense_Show.f k 4294967296 4294967296 4294967296 8589934592 42949672960 bt362.1 bt362.2.1 bt362.2.2.1).bind fun bt367=>((sense_Read.f k 4294967296 4294967296 4294967296 8589934592 42949672960 38654705664 0 0).bind fun bt372=>(if bt362.2.2.2=true then (if (bt362.1 == 17179869184 && (bt362.2.1 == 25769803776 && (bt362.2.2.1 == 34359738368)))=true then (if bt367.2.2.2=true then (if (bt367.1 == 12884901888 && (bt367.2.1 == 17179869184 && (bt367.2.2.1 == 21474836480)))=true then (if bt372.2.2.2=true then (some false) else ((sense_Sane.f k 4294967296 4294967296 4294967296 8589934592 42949672960).bind fun t377=>(if t377=true then ((sense_Learn.f k 4294967296 4294967296 4294967296 8589934592 42949672960 (([(⟨2,4,6⟩:S22)]:List (S22)))).bind fun bt381=>(some (bt381.1 == 2 && (bt381.2.1 == 4 && (bt381.2.2.1 == 6))))) else (some false)))) else (some false)) else (some false)) else (some false)) else (some false))))
theorem outriggerlaw18_awake.mono:∀ k,LeO (outriggerlaw18_awake.f k ) (outriggerlaw18_awake.f (k+1) ):=by
 intro  k
 unfold outriggerlaw18_awake.f
 repeat' first
   | (with_reducible exact sense_Learn.mono _ _ _ _ _ _ _)
   | (with_reducible exact sense_Read.mono _ _ _ _ _ _ _ _ _)
   | (with_reducible exact sense_Sane.mono _ _ _ _ _ _)
   | (with_reducible exact sense_Show.mono _ _ _ _ _ _ _ _ _)
   | (with_reducible exact LeO.refl _)
   | (with_reducible exact LeO.none _)
   | (with_reducible refine LeO.ite ?_ ?_)
   | (with_reducible refine LeO.bind ?_ (fun _=>?_))
   | exact sense_Learn.mono _ _ _ _ _ _ _
   | exact sense_Read.mono _ _ _ _ _ _ _ _ _
   | exact sense_Sane.mono _ _ _ _ _ _
   | exact sense_Show.mono _ _ _ _ _ _ _ _ _
   | exact LeO.none _
   | refine LeO.ite ?_ ?_
   | refine LeO.bind ?_ (fun _=>?_)
set_option maxHeartbeats 8000000 in
set_option maxRecDepth 100000 in
theorem outriggerlaw18_awake.calls1 (k:Nat)  (r:Bool) (w:World) (h:outriggerlaw18_awake.f k  = some r) (hr:Aside0 (r=true)) :
  Calls Try.prog 8 #[] w fun e w'=>e=.returned (.bool r)∧Below w.heap.size w w':=by
 have hu22:=Try.underlying22
 have hu24:=Try.underlying24
 have HB:=Aside0.mk (Below.refl w.heap.size w)
 have H:((sense_Read.f k 4294967296 4294967296 4294967296 8589934592 42949672960 12884901888 17179869184 21474836480).bind fun bt362=>((sense_Show.f k 4294967296 4294967296 4294967296 8589934592 42949672960 bt362.1 bt362.2.1 bt362.2.2.1).bind fun bt367=>((sense_Read.f k 4294967296 4294967296 4294967296 8589934592 42949672960 38654705664 0 0).bind fun bt372=>(if bt362.2.2.2=true then (if (bt362.1 == 17179869184 && (bt362.2.1 == 25769803776 && (bt362.2.2.1 == 34359738368)))=true then (if bt367.2.2.2=true then (if (bt367.1 == 12884901888 && (bt367.2.1 == 17179869184 && (bt367.2.2.1 == 21474836480)))=true then (if bt372.2.2.2=true then (some false) else ((sense_Sane.f k 4294967296 4294967296 4294967296 8589934592 42949672960).bind fun t377=>(if t377=true then ((sense_Learn.f k 4294967296 4294967296 4294967296 8589934592 42949672960 (([(⟨2,4,6⟩:S22)]:List (S22)))).bind fun bt381=>(some (bt381.1 == 2 && (bt381.2.1 == 4 && (bt381.2.2.1 == 6))))) else (some false)))) else (some false)) else (some false)) else (some false)) else (some false)))))=some r:=h
 clear h
 replace H:=Option.bind_eq_some_iff.mp H
 obtain⟨⟨t362,t363,t364,t365⟩,A10,H⟩:=H
 replace H:((sense_Show.f k 4294967296 4294967296 4294967296 8589934592 42949672960 t362 t363 t364).bind fun bt367=>((sense_Read.f k 4294967296 4294967296 4294967296 8589934592 42949672960 38654705664 0 0).bind fun bt372=>(if t365=true then (if (t362 == 17179869184 && (t363 == 25769803776 && (t364 == 34359738368)))=true then (if bt367.2.2.2=true then (if (bt367.1 == 12884901888 && (bt367.2.1 == 17179869184 && (bt367.2.2.1 == 21474836480)))=true then (if bt372.2.2.2=true then (some false) else ((sense_Sane.f k 4294967296 4294967296 4294967296 8589934592 42949672960).bind fun t377=>(if t377=true then ((sense_Learn.f k 4294967296 4294967296 4294967296 8589934592 42949672960 (([(⟨2,4,6⟩:S22)]:List (S22)))).bind fun bt381=>(some (bt381.1 == 2 && (bt381.2.1 == 4 && (bt381.2.2.1 == 6))))) else (some false)))) else (some false)) else (some false)) else (some false)) else (some false))))=some r:=H
 have A1:=Aside0.mk A10
 clear A10
 replace H:=Option.bind_eq_some_iff.mp H
 obtain⟨⟨t367,t368,t369,t370⟩,A20,H⟩:=H
 replace H:((sense_Read.f k 4294967296 4294967296 4294967296 8589934592 42949672960 38654705664 0 0).bind fun bt372=>(if t365=true then (if (t362 == 17179869184 && (t363 == 25769803776 && (t364 == 34359738368)))=true then (if t370=true then (if (t367 == 12884901888 && (t368 == 17179869184 && (t369 == 21474836480)))=true then (if bt372.2.2.2=true then (some false) else ((sense_Sane.f k 4294967296 4294967296 4294967296 8589934592 42949672960).bind fun t377=>(if t377=true then ((sense_Learn.f k 4294967296 4294967296 4294967296 8589934592 42949672960 (([(⟨2,4,6⟩:S22)]:List (S22)))).bind fun bt381=>(some (bt381.1 == 2 && (bt381.2.1 == 4 && (bt381.2.2.1 == 6))))) else (some false)))) else (some false)) else (some false)) else (some false)) else (some false)))=some r:=H
 have A2:=Aside0.mk A20
 clear A20
 replace H:=Option.bind_eq_some_iff.mp H
 obtain⟨⟨t372,t373,t374,t375⟩,A30,H⟩:=H
 replace H:(if t365=true then (if (t362 == 17179869184 && (t363 == 25769803776 && (t364 == 34359738368)))=true then (if t370=true then (if (t367 == 12884901888 && (t368 == 17179869184 && (t369 == 21474836480)))=true then (if t375=true then (some false) else ((sense_Sane.f k 4294967296 4294967296 4294967296 8589934592 42949672960).bind fun t377=>(if t377=true then ((sense_Learn.f k 4294967296 4294967296 4294967296 8589934592 42949672960 (([(⟨2,4,6⟩:S22)]:List (S22)))).bind fun bt381=>(some (bt381.1 == 2 && (bt381.2.1 == 4 && (bt381.2.2.1 == 6))))) else (some false)))) else (some false)) else (some false)) else (some false)) else (some false))=some r:=H
 have A3:=Aside0.mk A30
 clear A30
 by_cases c4:t365=true
 ·subst c4
  have H1:(if (t362 == 17179869184 && (t363 == 25769803776 && (t364 == 34359738368)))=true then (if t370=true then (if (t367 == 12884901888 && (t368 == 17179869184 && (t369 == 21474836480)))=true then (if t375=true then (some false) else ((sense_Sane.f k 4294967296 4294967296 4294967296 8589934592 42949672960).bind fun t377=>(if t377=true then ((sense_Learn.f k 4294967296 4294967296 4294967296 8589934592 42949672960 (([(⟨2,4,6⟩:S22)]:List (S22)))).bind fun bt381=>(some (bt381.1 == 2 && (bt381.2.1 == 4 && (bt381.2.2.1 == 6))))) else (some false)))) else (some false)) else (some false)) else (some false))=some r:=by rw [if_pos rfl] at H;exact H
  clear H
  have H:=H1
  clear H1
  by_cases c5:(t362 == 17179869184 && (t363 == 25769803776 && (t364 == 34359738368)))=true
  ·rw [if_pos c5] at H
   have c5b0:(t362 == 17179869184 && (t363 == 25769803776 && (t364 == 34359738368)))=true:=c5
   (try (have c5b1:decide (t362=17179869184 && (t363 == 25769803776 && (t364 == 34359738368)))=true:=by simpa using c5))
   (try (have c5b2:(t362 == 17179869184 && (t363 == 25769803776 && (t364 == 34359738368)))=true:=by simpa using c5))
   clear c5
   by_cases c6:t370=true
   ·subst c6
    have H1:(if (t367 == 12884901888 && (t368 == 17179869184 && (t369 == 21474836480)))=true then (if t375=true then (some false) else ((sense_Sane.f k 4294967296 4294967296 4294967296 8589934592 42949672960).bind fun t377=>(if t377=true then ((sense_Learn.f k 4294967296 4294967296 4294967296 8589934592 42949672960 (([(⟨2,4,6⟩:S22)]:List (S22)))).bind fun bt381=>(some (bt381.1 == 2 && (bt381.2.1 == 4 && (bt381.2.2.1 == 6))))) else (some false)))) else (some false))=some r:=by rw [if_pos rfl] at H;exact H
    clear H
    have H:=H1
    clear H1
    by_cases c7:(t367 == 12884901888 && (t368 == 17179869184 && (t369 == 21474836480)))=true
    ·rw [if_pos c7] at H
     have c7b0:(t367 == 12884901888 && (t368 == 17179869184 && (t369 == 21474836480)))=true:=c7
     (try (have c7b1:decide (t367=12884901888 && (t368 == 17179869184 && (t369 == 21474836480)))=true:=by simpa using c7))
     (try (have c7b2:(t367 == 12884901888 && (t368 == 17179869184 && (t369 == 21474836480)))=true:=by simpa using c7))
     clear c7
     by_cases c8:t375=true
     ·subst c8
      have H1:(some false)=some r:=by rw [if_pos rfl] at H;exact H
      clear H
      have H:=H1
      clear H1
      exact absurd ((Option.some.inj H).trans hr.out) (by decide)
     ·replace c8:=Bool.eq_false_iff.mpr c8
      subst c8
      have H1:((sense_Sane.f k 4294967296 4294967296 4294967296 8589934592 42949672960).bind fun t377=>(if t377=true then ((sense_Learn.f k 4294967296 4294967296 4294967296 8589934592 42949672960 (([(⟨2,4,6⟩:S22)]:List (S22)))).bind fun bt381=>(some (bt381.1 == 2 && (bt381.2.1 == 4 && (bt381.2.2.1 == 6))))) else (some false)))=some r:=by rw [if_neg (show ¬(false=true) by decide)] at H;exact H
      clear H
      have H:=H1
      clear H1
      replace H:=Option.bind_eq_some_iff.mp H
      obtain⟨t377,A300,H⟩:=H
      replace H:(if t377=true then ((sense_Learn.f k 4294967296 4294967296 4294967296 8589934592 42949672960 (([(⟨2,4,6⟩:S22)]:List (S22)))).bind fun bt381=>(some (bt381.1 == 2 && (bt381.2.1 == 4 && (bt381.2.2.1 == 6))))) else (some false))=some r:=H
      have A30:=Aside0.mk A300
      clear A300
      by_cases c31:t377=true
      ·subst c31
       have H1:((sense_Learn.f k 4294967296 4294967296 4294967296 8589934592 42949672960 (([(⟨2,4,6⟩:S22)]:List (S22)))).bind fun bt381=>(some (bt381.1 == 2 && (bt381.2.1 == 4 && (bt381.2.2.1 == 6)))))=some r:=by rw [if_pos rfl] at H;exact H
       clear H
       have H:=H1
       clear H1
       obtain⟨y378,hy378⟩:∃ y_:List (S22),y_=(([(⟨2,4,6⟩:S22)]:List (S22))):=⟨_,rfl⟩
       replace H:((sense_Learn.f k 4294967296 4294967296 4294967296 8589934592 42949672960 y378).bind fun bt381=>(some (bt381.1 == 2 && (bt381.2.1 == 4 && (bt381.2.2.1 == 6)))))=some r:=by first|(rw [hy378];with_reducible exact H)|(have H2_:=(Option.bind_some _ _).symm.trans H;rw [hy378];with_reducible exact H2_)|(have H2_:=(Option.bind_some _ _).symm.trans H;with_reducible exact H2_)|with_reducible exact H|(rw [hy378];exact H)|exact H
       have Ny378:=Aside0.mk hy378
       clear hy378
       replace H:=Option.bind_eq_some_iff.mp H
       obtain⟨⟨t381,t382,t383,t384,t385⟩,A320,H⟩:=H
       replace H:(some (t381 == 2 && (t382 == 4 && (t383 == 6))))=some r:=H
       have A32:=Aside0.mk A320
       clear A320
       clear hr
       obtain rfl:=Option.some.inj H
       have fld_:∀ W,(Instr.field 24 (.agg #[.int .i64 t381,.int .i64 t382,.int .i64 t383,.int .i64 t384,.int .i64 t385]) 0).run Try.prog W=.ok (.agg #[.int .i64 t381,.int .i64 t382,.int .i64 t383]) W:=fun _=>by kernel_rfl
       go_enter Try.func8,Try.ntmps8
       go_wp2_with (first|((with_reducible refine gate_dst (N:=1) rfl ?_);(try (refine gate_guard (by rfl) ?_;dsimp only));refine box_event ?hg (N:=1) ?hd (cs:=#[.int .i64 0,.int .i64 0,.int .i64 0,.int .i64 0,.int .i64 0]) (t:=24) ?hr ?_;(case hd=>rfl);(case hg=>rfl);(case hr=>first|(go_simp;done)|(go_simp;rfl));intro gb361 hg w33 hbox hb;have n0_:=Aside0.mk (below_step (by first|with_reducible exact HB.out|exact bl HB) hb);have n1_:=Aside0.mk (hbox);have n2_:=Aside0.mk ((by rw [hg];exact(below_size (by first|with_reducible exact HB.out|exact bl HB)):w.heap.size≤gb361));have n3_:=Aside0.mk ((by rw [hg];exact(below_size (by first|with_reducible exact HB.out|exact bl HB)):w.heap.size≤gb361));clear HB;have HB:=n0_;have BK361:=n1_;have GW361:=n2_;have GE361:=n3_;clear n0_ n1_ n2_ n3_;clear hb hbox hg;have hcz34_0:w33.cell? ⟨gb361,0,none⟩=some (.int .i64 0):=(blk_cell BK361.out 0).trans rfl;have hcz34_1:w33.cell? ⟨gb361,1,none⟩=some (.int .i64 0):=(blk_cell BK361.out 1).trans rfl;have hcz34_2:w33.cell? ⟨gb361,2,none⟩=some (.int .i64 0):=(blk_cell BK361.out 2).trans rfl;have hcz34_3:w33.cell? ⟨gb361,3,none⟩=some (.int .i64 0):=(blk_cell BK361.out 3).trans rfl;have hcz34_4:w33.cell? ⟨gb361,4,none⟩=some (.int .i64 0):=(blk_cell BK361.out 4).trans rfl;have hfz34_0:=blk_frozen BK361.out 0;have hfz34_1:=blk_frozen BK361.out 1;have hfz34_2:=blk_frozen BK361.out 2;have hfz34_3:=blk_frozen BK361.out 3;have hfz34_4:=blk_frozen BK361.out 4)|((with_reducible refine gate_callee (f:=9) rfl ?_);refine goesL_ (some 13) rfl rfl Try.func9 (by kernel_rfl) rfl #[.agg #[.int .i64 4294967296,.int .i64 4294967296,.int .i64 4294967296,.int .i64 8589934592,.int .i64 42949672960],.agg #[.int .i64 12884901888,.int .i64 17179869184,.int .i64 21474836480]] rfl (by exact mA _ _) ?_;(with_reducible refine(sense_Read.calls k 4294967296 4294967296 4294967296 8589934592 42949672960 12884901888 17179869184 21474836480 t362 t363 t364 true _ A1.out).mono ?_);rintro e w35 ⟨rfl,hb⟩;refine⟨_,rfl,?_⟩;have n0_:=Aside0.mk (blk_below (g:=gb361) (o:=.cells #[.int .i64 4294967296,.int .i64 4294967296,.int .i64 4294967296,.int .i64 8589934592,.int .i64 42949672960] 24 (0,0)) (by try refine bk ?_;refine blk_put (cs:=#[.int .i64 4294967296,.int .i64 4294967296,.int .i64 4294967296,.int .i64 8589934592,.int .i64 0]) ?_ 4 _ rfl;try refine bk ?_;refine blk_put (cs:=#[.int .i64 4294967296,.int .i64 4294967296,.int .i64 4294967296,.int .i64 0,.int .i64 0]) ?_ 3 _ rfl;try refine bk ?_;refine blk_put (cs:=#[.int .i64 4294967296,.int .i64 4294967296,.int .i64 0,.int .i64 0,.int .i64 0]) ?_ 2 _ rfl;try refine bk ?_;refine blk_put (cs:=#[.int .i64 4294967296,.int .i64 0,.int .i64 0,.int .i64 0,.int .i64 0]) ?_ 1 _ rfl;try refine bk ?_;refine blk_put (cs:=#[.int .i64 0,.int .i64 0,.int .i64 0,.int .i64 0,.int .i64 0]) ?_ 0 _ rfl;try refine bk ?_;exact BK361.out) hb);have n1_:=Aside0.mk (below_step (by repeat (first|with_reducible exact HB.out|exact bl HB|refine bs ?_ GE361)) hb);clear BK361;clear HB;have BK361:=n0_;have HB:=n1_;clear n0_ n1_;(try clear hb);(try clear hb2);(try clear hk);(try clear hi))|((with_reducible refine gate_dst (N:=2) rfl ?_);(try (refine gate_guard (by rfl) ?_;dsimp only));refine box_event ?hg (N:=2) ?hd (cs:=#[.int .i64 0,.int .i64 0,.int .i64 0]) (t:=22) ?hr ?_;(case hd=>rfl);(case hg=>rfl);(case hr=>first|(go_simp;done)|(go_simp;rfl));intro gb366 hg w36 hbox hb;have n0_:=Aside0.mk (blk_below (bk BK361.out) hb);have n1_:=Aside0.mk (below_step (by repeat (first|with_reducible exact HB.out|exact bl HB|refine bs ?_ GE361)) hb);have n2_:=Aside0.mk (hbox);have n3_:=Aside0.mk ((by rw [hg];exact(below_size (by repeat (first|with_reducible exact HB.out|exact bl HB|refine bs ?_ GE361))):w.heap.size≤gb366));have n4_:=Aside0.mk ((by rw [hg];exact(below_size (by repeat (first|with_reducible exact HB.out|exact bl HB|refine bs ?_ GE361))):w.heap.size≤gb366));have n5_:=Aside0.mk ((by rw [hg];exact Nat.ne_of_lt (blk_lt (bk BK361.out)):gb361≠gb366));have n6_:=Aside0.mk ((by rw [hg];exact Nat.ne_of_gt (blk_lt (bk BK361.out)):gb366≠gb361));clear BK361;clear HB;have BK361:=n0_;have HB:=n1_;have BK366:=n2_;have GW366:=n3_;have GE366:=n4_;have NB361_366:=n5_;have NB366_361:=n6_;clear n0_ n1_ n2_ n3_ n4_ n5_ n6_;clear hb hbox hg;have hnb37:=NB366_361.out;have hnc37:=NB361_366.out;have hcz38_0:w36.cell? ⟨gb366,0,none⟩=some (.int .i64 0):=(blk_cell BK366.out 0).trans rfl;have hcz38_1:w36.cell? ⟨gb366,1,none⟩=some (.int .i64 0):=(blk_cell BK366.out 1).trans rfl;have hcz38_2:w36.cell? ⟨gb366,2,none⟩=some (.int .i64 0):=(blk_cell BK366.out 2).trans rfl;have hfz38_0:=blk_frozen BK366.out 0;have hfz38_1:=blk_frozen BK366.out 1;have hfz38_2:=blk_frozen BK366.out 2;have hcz39_0:w36.cell? ⟨gb361,0,none⟩=some (.int .i64 4294967296):=(blk_cell BK361.out 0).trans rfl;have hcz39_1:w36.cell? ⟨gb361,1,none⟩=some (.int .i64 4294967296):=(blk_cell BK361.out 1).trans rfl;have hcz39_2:w36.cell? ⟨gb361,2,none⟩=some (.int .i64 4294967296):=(blk_cell BK361.out 2).trans rfl;have hcz39_3:w36.cell? ⟨gb361,3,none⟩=some (.int .i64 8589934592):=(blk_cell BK361.out 3).trans rfl;have hcz39_4:w36.cell? ⟨gb361,4,none⟩=some (.int .i64 42949672960):=(blk_cell BK361.out 4).trans rfl;have hfz39_0:=blk_frozen BK361.out 0;have hfz39_1:=blk_frozen BK361.out 1;have hfz39_2:=blk_frozen BK361.out 2;have hfz39_3:=blk_frozen BK361.out 3;have hfz39_4:=blk_frozen BK361.out 4)|((with_reducible refine gate_callee (f:=11) rfl ?_);refine goesL_ (some 19) rfl rfl Try.func11 (by kernel_rfl) rfl #[.agg #[.int .i64 4294967296,.int .i64 4294967296,.int .i64 4294967296,.int .i64 8589934592,.int .i64 42949672960],.agg #[.int .i64 t362,.int .i64 t363,.int .i64 t364]] rfl (by exact mA _ _) ?_;(with_reducible refine(sense_Show.calls k 4294967296 4294967296 4294967296 8589934592 42949672960 t362 t363 t364 t367 t368 t369 true _ A2.out).mono ?_);rintro e w40 ⟨rfl,hb⟩;refine⟨_,rfl,?_⟩;have n0_:=Aside0.mk (blk_below (g:=gb361) (o:=.cells #[.int .i64 4294967296,.int .i64 4294967296,.int .i64 4294967296,.int .i64 8589934592,.int .i64 42949672960] 24 (0,0)) (by try refine bk ?_;refine blk_far ?_ NB361_366.out _;try refine bk ?_;refine blk_far ?_ NB361_366.out _;try refine bk ?_;refine blk_far ?_ NB361_366.out _;try refine bk ?_;exact BK361.out) hb);have n1_:=Aside0.mk (blk_below (g:=gb366) (o:=.cells #[.int .i64 t362,.int .i64 t363,.int .i64 t364] 22 (0,0)) (by try refine bk ?_;refine blk_put (cs:=#[.int .i64 t362,.int .i64 t363,.int .i64 0]) ?_ 2 _ rfl;try refine bk ?_;refine blk_put (cs:=#[.int .i64 t362,.int .i64 0,.int .i64 0]) ?_ 1 _ rfl;try refine bk ?_;refine blk_put (cs:=#[.int .i64 0,.int .i64 0,.int .i64 0]) ?_ 0 _ rfl;try refine bk ?_;exact BK366.out) hb);have n2_:=Aside0.mk (below_step (by repeat (first|with_reducible exact HB.out|exact bl HB|refine bs ?_ GE361|refine bs ?_ GE366)) hb);clear BK361;clear BK366;clear HB;have BK361:=n0_;have BK366:=n1_;have HB:=n2_;clear n0_ n1_ n2_;(try clear hb);(try clear hb2);(try clear hk);(try clear hi))|((with_reducible refine gate_dst (N:=4) rfl ?_);(try (refine gate_guard (by rfl) ?_;dsimp only));refine box_event ?hg (N:=4) ?hd (cs:=#[.int .i64 0,.int .i64 0,.int .i64 0]) (t:=22) ?hr ?_;(case hd=>rfl);(case hg=>rfl);(case hr=>first|(go_simp;done)|(go_simp;rfl));intro gb371 hg w41 hbox hb;have n0_:=Aside0.mk (blk_below (bk BK361.out) hb);have n1_:=Aside0.mk (blk_below (bk BK366.out) hb);have n2_:=Aside0.mk (below_step (by repeat (first|with_reducible exact HB.out|exact bl HB|refine bs ?_ GE361|refine bs ?_ GE366)) hb);have n3_:=Aside0.mk (hbox);have n4_:=Aside0.mk ((by rw [hg];exact(below_size (by repeat (first|with_reducible exact HB.out|exact bl HB|refine bs ?_ GE361|refine bs ?_ GE366))):w.heap.size≤gb371));have n5_:=Aside0.mk ((by rw [hg];exact(below_size (by repeat (first|with_reducible exact HB.out|exact bl HB|refine bs ?_ GE361|refine bs ?_ GE366))):w.heap.size≤gb371));have n6_:=Aside0.mk ((by rw [hg];exact Nat.ne_of_lt (blk_lt (bk BK361.out)):gb361≠gb371));have n7_:=Aside0.mk ((by rw [hg];exact Nat.ne_of_gt (blk_lt (bk BK361.out)):gb371≠gb361));have n8_:=Aside0.mk ((by rw [hg];exact Nat.ne_of_lt (blk_lt (bk BK366.out)):gb366≠gb371));have n9_:=Aside0.mk ((by rw [hg];exact Nat.ne_of_gt (blk_lt (bk BK366.out)):gb371≠gb366));clear BK361;clear BK366;clear HB;have BK361:=n0_;have BK366:=n1_;have HB:=n2_;have BK371:=n3_;have GW371:=n4_;have GE371:=n5_;have NB361_371:=n6_;have NB371_361:=n7_;have NB366_371:=n8_;have NB371_366:=n9_;clear n0_ n1_ n2_ n3_ n4_ n5_ n6_ n7_ n8_ n9_;clear hb hbox hg;have hnb42:=NB371_361.out;have hnc42:=NB361_371.out;have hnb43:=NB371_366.out;have hnc43:=NB366_371.out;have hcz44_0:w41.cell? ⟨gb371,0,none⟩=some (.int .i64 0):=(blk_cell BK371.out 0).trans rfl;have hcz44_1:w41.cell? ⟨gb371,1,none⟩=some (.int .i64 0):=(blk_cell BK371.out 1).trans rfl;have hcz44_2:w41.cell? ⟨gb371,2,none⟩=some (.int .i64 0):=(blk_cell BK371.out 2).trans rfl;have hfz44_0:=blk_frozen BK371.out 0;have hfz44_1:=blk_frozen BK371.out 1;have hfz44_2:=blk_frozen BK371.out 2;have hcz45_0:w41.cell? ⟨gb361,0,none⟩=some (.int .i64 4294967296):=(blk_cell BK361.out 0).trans rfl;have hcz45_1:w41.cell? ⟨gb361,1,none⟩=some (.int .i64 4294967296):=(blk_cell BK361.out 1).trans rfl;have hcz45_2:w41.cell? ⟨gb361,2,none⟩=some (.int .i64 4294967296):=(blk_cell BK361.out 2).trans rfl;have hcz45_3:w41.cell? ⟨gb361,3,none⟩=some (.int .i64 8589934592):=(blk_cell BK361.out 3).trans rfl;have hcz45_4:w41.cell? ⟨gb361,4,none⟩=some (.int .i64 42949672960):=(blk_cell BK361.out 4).trans rfl;have hfz45_0:=blk_frozen BK361.out 0;have hfz45_1:=blk_frozen BK361.out 1;have hfz45_2:=blk_frozen BK361.out 2;have hfz45_3:=blk_frozen BK361.out 3;have hfz45_4:=blk_frozen BK361.out 4)|((with_reducible refine gate_callee (f:=9) rfl ?_);refine goesL_ (some 25) rfl rfl Try.func9 (by kernel_rfl) rfl #[.agg #[.int .i64 4294967296,.int .i64 4294967296,.int .i64 4294967296,.int .i64 8589934592,.int .i64 42949672960],.agg #[.int .i64 38654705664,.int .i64 0,.int .i64 0]] rfl (by exact mA _ _) ?_;(with_reducible refine(sense_Read.calls k 4294967296 4294967296 4294967296 8589934592 42949672960 38654705664 0 0 t372 t373 t374 false _ A3.out).mono ?_);rintro e w46 ⟨rfl,hb⟩;refine⟨_,rfl,?_⟩;have n0_:=Aside0.mk (blk_below (g:=gb361) (o:=.cells #[.int .i64 4294967296,.int .i64 4294967296,.int .i64 4294967296,.int .i64 8589934592,.int .i64 42949672960] 24 (0,0)) (by try refine bk ?_;refine blk_far ?_ NB361_371.out _;try refine bk ?_;refine blk_far ?_ NB361_371.out _;try refine bk ?_;refine blk_far ?_ NB361_371.out _;try refine bk ?_;exact BK361.out) hb);have n1_:=Aside0.mk (blk_below (g:=gb366) (o:=.cells #[.int .i64 t362,.int .i64 t363,.int .i64 t364] 22 (0,0)) (by try refine bk ?_;refine blk_far ?_ NB366_371.out _;try refine bk ?_;refine blk_far ?_ NB366_371.out _;try refine bk ?_;refine blk_far ?_ NB366_371.out _;try refine bk ?_;exact BK366.out) hb);have n2_:=Aside0.mk (blk_below (g:=gb371) (o:=.cells #[.int .i64 t367,.int .i64 t368,.int .i64 t369] 22 (0,0)) (by try refine bk ?_;refine blk_put (cs:=#[.int .i64 t367,.int .i64 t368,.int .i64 0]) ?_ 2 _ rfl;try refine bk ?_;refine blk_put (cs:=#[.int .i64 t367,.int .i64 0,.int .i64 0]) ?_ 1 _ rfl;try refine bk ?_;refine blk_put (cs:=#[.int .i64 0,.int .i64 0,.int .i64 0]) ?_ 0 _ rfl;try refine bk ?_;exact BK371.out) hb);have n3_:=Aside0.mk (below_step (by repeat (first|with_reducible exact HB.out|exact bl HB|refine bs ?_ GE361|refine bs ?_ GE366|refine bs ?_ GE371)) hb);clear BK361;clear BK366;clear BK371;clear HB;have BK361:=n0_;have BK366:=n1_;have BK371:=n2_;have HB:=n3_;clear n0_ n1_ n2_ n3_;(try clear hb);(try clear hb2);(try clear hk);(try clear hi))|((with_reducible refine gate_dst (N:=6) rfl ?_);(try (refine gate_guard (by rfl) ?_;dsimp only));refine box_event ?hg (N:=6) ?hd (cs:=#[.int .i64 0,.int .i64 0,.int .i64 0]) (t:=22) ?hr ?_;(case hd=>rfl);(case hg=>rfl);(case hr=>first|(go_simp;done)|(go_simp;rfl));intro gb376 hg w47 hbox hb;have n0_:=Aside0.mk (blk_below (bk BK361.out) hb);have n1_:=Aside0.mk (blk_below (bk BK366.out) hb);have n2_:=Aside0.mk (blk_below (bk BK371.out) hb);have n3_:=Aside0.mk (below_step (by repeat (first|with_reducible exact HB.out|exact bl HB|refine bs ?_ GE361|refine bs ?_ GE366|refine bs ?_ GE371)) hb);have n4_:=Aside0.mk (hbox);have n5_:=Aside0.mk ((by rw [hg];exact(below_size (by repeat (first|with_reducible exact HB.out|exact bl HB|refine bs ?_ GE361|refine bs ?_ GE366|refine bs ?_ GE371))):w.heap.size≤gb376));have n6_:=Aside0.mk ((by rw [hg];exact(below_size (by repeat (first|with_reducible exact HB.out|exact bl HB|refine bs ?_ GE361|refine bs ?_ GE366|refine bs ?_ GE371))):w.heap.size≤gb376));have n7_:=Aside0.mk ((by rw [hg];exact Nat.ne_of_lt (blk_lt (bk BK361.out)):gb361≠gb376));have n8_:=Aside0.mk ((by rw [hg];exact Nat.ne_of_gt (blk_lt (bk BK361.out)):gb376≠gb361));have n9_:=Aside0.mk ((by rw [hg];exact Nat.ne_of_lt (blk_lt (bk BK366.out)):gb366≠gb376));have n10_:=Aside0.mk ((by rw [hg];exact Nat.ne_of_gt (blk_lt (bk BK366.out)):gb376≠gb366));have n11_:=Aside0.mk ((by rw [hg];exact Nat.ne_of_lt (blk_lt (bk BK371.out)):gb371≠gb376));have n12_:=Aside0.mk ((by rw [hg];exact Nat.ne_of_gt (blk_lt (bk BK371.out)):gb376≠gb371));clear BK361;clear BK366;clear BK371;clear HB;have BK361:=n0_;have BK366:=n1_;have BK371:=n2_;have HB:=n3_;have BK376:=n4_;have GW376:=n5_;have GE376:=n6_;have NB361_376:=n7_;have NB376_361:=n8_;have NB366_376:=n9_;have NB376_366:=n10_;have NB371_376:=n11_;have NB376_371:=n12_;clear n0_ n1_ n2_ n3_ n4_ n5_ n6_ n7_ n8_ n9_ n10_ n11_ n12_;clear hb hbox hg;have hnb48:=NB376_361.out;have hnc48:=NB361_376.out;have hnb49:=NB376_366.out;have hnc49:=NB366_376.out;have hnb50:=NB376_371.out;have hnc50:=NB371_376.out;have hcz51_0:w47.cell? ⟨gb376,0,none⟩=some (.int .i64 0):=(blk_cell BK376.out 0).trans rfl;have hcz51_1:w47.cell? ⟨gb376,1,none⟩=some (.int .i64 0):=(blk_cell BK376.out 1).trans rfl;have hcz51_2:w47.cell? ⟨gb376,2,none⟩=some (.int .i64 0):=(blk_cell BK376.out 2).trans rfl;have hfz51_0:=blk_frozen BK376.out 0;have hfz51_1:=blk_frozen BK376.out 1;have hfz51_2:=blk_frozen BK376.out 2;have hcz52_0:w47.cell? ⟨gb366,0,none⟩=some (.int .i64 t362):=(blk_cell BK366.out 0).trans rfl;have hcz52_1:w47.cell? ⟨gb366,1,none⟩=some (.int .i64 t363):=(blk_cell BK366.out 1).trans rfl;have hcz52_2:w47.cell? ⟨gb366,2,none⟩=some (.int .i64 t364):=(blk_cell BK366.out 2).trans rfl;have hfz52_0:=blk_frozen BK366.out 0;have hfz52_1:=blk_frozen BK366.out 1;have hfz52_2:=blk_frozen BK366.out 2;have hcz53_0:w47.cell? ⟨gb371,0,none⟩=some (.int .i64 t367):=(blk_cell BK371.out 0).trans rfl;have hcz53_1:w47.cell? ⟨gb371,1,none⟩=some (.int .i64 t368):=(blk_cell BK371.out 1).trans rfl;have hcz53_2:w47.cell? ⟨gb371,2,none⟩=some (.int .i64 t369):=(blk_cell BK371.out 2).trans rfl;have hfz53_0:=blk_frozen BK371.out 0;have hfz53_1:=blk_frozen BK371.out 1;have hfz53_2:=blk_frozen BK371.out 2;have hcz54_0:w47.cell? ⟨gb361,0,none⟩=some (.int .i64 4294967296):=(blk_cell BK361.out 0).trans rfl;have hcz54_1:w47.cell? ⟨gb361,1,none⟩=some (.int .i64 4294967296):=(blk_cell BK361.out 1).trans rfl;have hcz54_2:w47.cell? ⟨gb361,2,none⟩=some (.int .i64 4294967296):=(blk_cell BK361.out 2).trans rfl;have hcz54_3:w47.cell? ⟨gb361,3,none⟩=some (.int .i64 8589934592):=(blk_cell BK361.out 3).trans rfl;have hcz54_4:w47.cell? ⟨gb361,4,none⟩=some (.int .i64 42949672960):=(blk_cell BK361.out 4).trans rfl;have hfz54_0:=blk_frozen BK361.out 0;have hfz54_1:=blk_frozen BK361.out 1;have hfz54_2:=blk_frozen BK361.out 2;have hfz54_3:=blk_frozen BK361.out 3;have hfz54_4:=blk_frozen BK361.out 4)|(go_at_call 13;(with_reducible refine(sense_Sane.calls k 4294967296 4294967296 4294967296 8589934592 42949672960 true _ A30.out).mono ?_);rintro e w55 ⟨rfl,hb⟩;have n0_:=Aside0.mk (blk_below (g:=gb361) (o:=.cells #[.int .i64 4294967296,.int .i64 4294967296,.int .i64 4294967296,.int .i64 8589934592,.int .i64 42949672960] 24 (0,0)) (by try refine bk ?_;refine blk_far ?_ NB361_376.out _;try refine bk ?_;refine blk_far ?_ NB361_376.out _;try refine bk ?_;refine blk_far ?_ NB361_376.out _;try refine bk ?_;exact BK361.out) hb);have n1_:=Aside0.mk (blk_below (g:=gb366) (o:=.cells #[.int .i64 t362,.int .i64 t363,.int .i64 t364] 22 (0,0)) (by try refine bk ?_;refine blk_far ?_ NB366_376.out _;try refine bk ?_;refine blk_far ?_ NB366_376.out _;try refine bk ?_;refine blk_far ?_ NB366_376.out _;try refine bk ?_;exact BK366.out) hb);have n2_:=Aside0.mk (blk_below (g:=gb371) (o:=.cells #[.int .i64 t367,.int .i64 t368,.int .i64 t369] 22 (0,0)) (by try refine bk ?_;refine blk_far ?_ NB371_376.out _;try refine bk ?_;refine blk_far ?_ NB371_376.out _;try refine bk ?_;refine blk_far ?_ NB371_376.out _;try refine bk ?_;exact BK371.out) hb);have n3_:=Aside0.mk (blk_below (g:=gb376) (o:=.cells #[.int .i64 t372,.int .i64 t373,.int .i64 t374] 22 (0,0)) (by try refine bk ?_;refine blk_put (cs:=#[.int .i64 t372,.int .i64 t373,.int .i64 0]) ?_ 2 _ rfl;try refine bk ?_;refine blk_put (cs:=#[.int .i64 t372,.int .i64 0,.int .i64 0]) ?_ 1 _ rfl;try refine bk ?_;refine blk_put (cs:=#[.int .i64 0,.int .i64 0,.int .i64 0]) ?_ 0 _ rfl;try refine bk ?_;exact BK376.out) hb);have n4_:=Aside0.mk (below_step (by repeat (first|with_reducible exact HB.out|exact bl HB|refine bs ?_ GE361|refine bs ?_ GE366|refine bs ?_ GE371|refine bs ?_ GE376)) hb);clear BK361;clear BK366;clear BK371;clear BK376;clear HB;have BK361:=n0_;have BK366:=n1_;have BK371:=n2_;have BK376:=n3_;have HB:=n4_;clear n0_ n1_ n2_ n3_ n4_;(try clear hb);(try clear hb2);(try clear hk);(try clear hi);have hcz56_0:w55.cell? ⟨gb361,0,none⟩=some (.int .i64 4294967296):=(blk_cell BK361.out 0).trans rfl;have hcz56_1:w55.cell? ⟨gb361,1,none⟩=some (.int .i64 4294967296):=(blk_cell BK361.out 1).trans rfl;have hcz56_2:w55.cell? ⟨gb361,2,none⟩=some (.int .i64 4294967296):=(blk_cell BK361.out 2).trans rfl;have hcz56_3:w55.cell? ⟨gb361,3,none⟩=some (.int .i64 8589934592):=(blk_cell BK361.out 3).trans rfl;have hcz56_4:w55.cell? ⟨gb361,4,none⟩=some (.int .i64 42949672960):=(blk_cell BK361.out 4).trans rfl;have hfz56_0:=blk_frozen BK361.out 0;have hfz56_1:=blk_frozen BK361.out 1;have hfz56_2:=blk_frozen BK361.out 2;have hfz56_3:=blk_frozen BK361.out 3;have hfz56_4:=blk_frozen BK361.out 4)|((with_reducible refine gate_dst (N:=53) rfl ?_);(try (refine gate_guard (by rfl) ?_;dsimp only));refine Kd.R_lit k22 _ 22 ?hg (N:=53) ?hd (xs:=([(⟨2,4,6⟩:S22)]:List (S22))) (inner:=[.int .i64 2,.int .i64 4,.int .i64 6]) (ok:=fun _=>True) (okp:=fun _=>True) ?hr ?hp (fun _ hk=>hk) trivial (Below.refl _ _) (Nat.le_refl _) (by simp) ?_;(case hd=>rfl);(case hg=>rfl);(case hr=>first|(go_simp;done)|(go_simp;rfl));(case hp=>exact(Reps.c3 (show Kd.M k22 _ _ _ (⟨2,4,6⟩:S22) [.int .i64 2,.int .i64 4,.int .i64 6] from (k22_mkM _ _ _ (⟨2,4,6⟩:S22) )) (Reps.none _ _)));intro v379 w57 ho58 hb hg_ hnew_;clear hg_ hnew_;(first|rw [←Ny378.out] at ho58|(simp only [Int.reduceToNat] at ho58;rw [←Ny378.out] at ho58));have n0_:=Aside0.mk (Kd.R_lower (Kd.R_newB (Kd.R_newB (Kd.R_newB ho58 (bk BK366.out)) (bk BK371.out)) (bk BK376.out)) (below_size (by repeat (first|with_reducible exact HB.out|exact bl HB|refine bs ?_ GE361|refine bs ?_ GE366|refine bs ?_ GE371|refine bs ?_ GE376))));have n1_:=Aside0.mk (blk_below (bk BK361.out) hb);have n2_:=Aside0.mk (blk_below (bk BK366.out) hb);have n3_:=Aside0.mk (blk_below (bk BK371.out) hb);have n4_:=Aside0.mk (blk_below (bk BK376.out) hb);have n5_:=Aside0.mk (below_step (by repeat (first|with_reducible exact HB.out|exact bl HB|refine bs ?_ GE361|refine bs ?_ GE366|refine bs ?_ GE371|refine bs ?_ GE376)) hb);clear BK361;clear BK366;clear BK371;clear BK376;clear HB;have HO380:=n0_;have BK361:=n1_;have BK366:=n2_;have BK371:=n3_;have BK376:=n4_;have HB:=n5_;clear n0_ n1_ n2_ n3_ n4_ n5_;clear hb ho58;obtain⟨Ao59,co59,eo59⟩:=Kd.R_slice HO380.out;subst eo59)|(go_at_call 15;(with_reducible refine(sense_Learn.calls k 4294967296 4294967296 4294967296 8589934592 42949672960 _ _ y378 t381 t382 t383 t384 t385 _ ?side1 ?side2 A32.out).mono ?_);(case side1=>first|exact(Kd.R_reads' HO380.out).2.2|exact kC (Kd.R_reads' HO380.out).2.2);(case side2=>exact(Kd.R_reads' HO380.out).2.1);rintro e w60 ⟨rfl,hb⟩;have n0_:=Aside0.mk (Kd.R_below (by first|exact HO380.out|exact kR HO380.out) hb);have n1_:=Aside0.mk (blk_below (bk BK361.out) hb);have n2_:=Aside0.mk (blk_below (bk BK366.out) hb);have n3_:=Aside0.mk (blk_below (bk BK371.out) hb);have n4_:=Aside0.mk (blk_below (bk BK376.out) hb);have n5_:=Aside0.mk (below_step (by repeat (first|with_reducible exact HB.out|exact bl HB|refine bs ?_ GE361|refine bs ?_ GE366|refine bs ?_ GE371|refine bs ?_ GE376)) hb);clear HO380;clear BK361;clear BK366;clear BK371;clear BK376;clear HB;have HO380:=n0_;have BK361:=n1_;have BK366:=n2_;have BK371:=n3_;have BK376:=n4_;have HB:=n5_;clear n0_ n1_ n2_ n3_ n4_ n5_;(try clear hb);(try clear hb2);(try clear hk);(try clear hi)))
       go_ret
       exact⟨by first|rfl|(simp [errW_none,errW_some]<;>rfl)|(simp [*,errW_none,errW_some]<;>rfl),by repeat (first|with_reducible exact HB.out|exact bl HB|refine bs ?_ GE361|refine bs ?_ GE366|refine bs ?_ GE371|refine bs ?_ GE376)⟩
      ·replace c31:=Bool.eq_false_iff.mpr c31
       subst c31
       have H1:(some false)=some r:=by rw [if_neg (show ¬(false=true) by decide)] at H;exact H
       clear H
       have H:=H1
       clear H1
       exact absurd ((Option.some.inj H).trans hr.out) (by decide)
    ·rw [if_neg c7] at H
     have c7b0:(t367 == 12884901888 && (t368 == 17179869184 && (t369 == 21474836480)))=false:=by simpa using c7
     (try (have c7b1:decide (t367=12884901888 && (t368 == 17179869184 && (t369 == 21474836480)))=false:=by simpa using c7))
     (try (have c7b2:(t367 == 12884901888 && (t368 == 17179869184 && (t369 == 21474836480)))=false:=by simpa using c7))
     (try (have c7b3:¬(t367=12884901888 && (t368 == 17179869184 && (t369 == 21474836480))):=by simpa using c7))
     clear c7
     exact absurd ((Option.some.inj H).trans hr.out) (by decide)
   ·replace c6:=Bool.eq_false_iff.mpr c6
    subst c6
    have H1:(some false)=some r:=by rw [if_neg (show ¬(false=true) by decide)] at H;exact H
    clear H
    have H:=H1
    clear H1
    exact absurd ((Option.some.inj H).trans hr.out) (by decide)
  ·rw [if_neg c5] at H
   have c5b0:(t362 == 17179869184 && (t363 == 25769803776 && (t364 == 34359738368)))=false:=by simpa using c5
   (try (have c5b1:decide (t362=17179869184 && (t363 == 25769803776 && (t364 == 34359738368)))=false:=by simpa using c5))
   (try (have c5b2:(t362 == 17179869184 && (t363 == 25769803776 && (t364 == 34359738368)))=false:=by simpa using c5))
   (try (have c5b3:¬(t362=17179869184 && (t363 == 25769803776 && (t364 == 34359738368))):=by simpa using c5))
   clear c5
   exact absurd ((Option.some.inj H).trans hr.out) (by decide)
 ·replace c4:=Bool.eq_false_iff.mpr c4
  subst c4
  have H1:(some false)=some r:=by rw [if_neg (show ¬(false=true) by decide)] at H;exact H
  clear H
  have H:=H1
  clear H1
  exact absurd ((Option.some.inj H).trans hr.out) (by decide)
theorem outriggerlaw18_awake.known:outriggerlaw18_awake.f 200=some true:=by decide +kernel
theorem outriggerlaw18_awake.tells {k:Nat} {r:Bool} (h:outriggerlaw18_awake.f k=some r):r=true:=by
 have h1:=at_rounds outriggerlaw18_awake.mono (Nat.le_max_left k 200) h
 have h2:=at_rounds outriggerlaw18_awake.mono (Nat.le_max_right k 200) outriggerlaw18_awake.known
 exact Option.some.inj (h1.symm.trans h2)
theorem outriggerlaw18_awake.calls (k:Nat) (r:Bool) (w:World) (h:outriggerlaw18_awake.f k=some r) :
  Calls Try.prog 8 #[] w fun e w'=>e=.returned (.bool r)∧Below w.heap.size w w':=outriggerlaw18_awake.calls1 k r w h ⟨outriggerlaw18_awake.tells h⟩
end Go.Proofs.Ytonfobdknnlbjaa.B
end
section
set_option linter.unusedVariables false
set_option linter.unusedSimpArgs false
namespace Go.Proofs.Ytonfobdknnlbjaa.Num
open Go Go.RowKit
theorem w64 {n:Int} (h0:-9223372036854775808≤n) (h1:n≤9223372036854775807):wrap64 n=n:=by
 unfold wrap64
 omega
theorem band64 (x:Int) (i:Nat) (hi:i≤62):Go.bits .and .i64 x (2^i-1)=x%2^i:=by
 have hp:(2:Nat)^i≤2^62:=Nat.pow_le_pow_right (by decide) hi
 have hpos:0<(2:Nat)^i:=Nat.two_pow_pos i
 have hc:((2:Int)^i-1)=((2^i-1:Nat):Int):=by
  rw [Int.natCast_sub hpos];simp
 have hm:(2^i-1:Nat)<2^64:=by omega
 have hxm:x%2^i=((x%18446744073709551616).toNat%2^i:Nat):=by
  have h0:0≤x%18446744073709551616:=Int.emod_nonneg _ (by decide)
  rw [Int.natCast_emod,Int.toNat_of_nonneg h0,Int.natCast_pow]
  have hd:((2:Int)^i)∣18446744073709551616:=⟨2^(64-i),by rw [←Int.pow_add];rw [show i+(64-i)=64 by omega];rfl⟩
  exact(Int.emod_emod_of_dvd x hd).symm
 have hb:(BitVec.ofInt 64 x &&& BitVec.ofInt 64 ((2^i-1:Nat):Int)).toNat=(x%18446744073709551616).toNat%2^i:=by
  rw [BitVec.toNat_and,BitVec.toNat_ofInt,BitVec.ofInt_natCast,BitVec.toNat_ofNat,Nat.mod_eq_of_lt hm,Nat.and_two_pow_sub_one_eq_mod]
  rfl
 have hlt:(x%18446744073709551616).toNat%2^i<2^i:=Nat.mod_lt _ hpos
 rw [hc]
 show IntKind.wrap .i64 ((BitVec.ofInt 64 x &&& BitVec.ofInt 64 ((2^i-1:Nat):Int)).toNat:Int)=_
 rw [hb,hxm,IntKind.wrap_i64]
 omega
theorem wu64 {n:Int} (h0:0≤n) (h1:n<18446744073709551616):IntKind.u64.wrap n=n:=by
 simp only [IntKind.wrap,IntKind.bits,IntKind.signed]
 simp
 omega
theorem u64_wrap (n:Int):IntKind.u64.wrap n=n%18446744073709551616:=by
 simp [IntKind.wrap,IntKind.bits,IntKind.signed]
theorem i64_wrap (n:Int):IntKind.i64.wrap n=wrap64 n:=by
 rw [IntKind.wrap_i64]
 unfold wrap64
 omega
theorem bandu64 (x:Int) (i:Nat) (hi:i≤63):Go.bits .and .u64 x (2^i-1)=x%2^i:=by
 have hp:(2:Nat)^i≤2^63:=Nat.pow_le_pow_right (by decide) hi
 have hpos:0<(2:Nat)^i:=Nat.two_pow_pos i
 have hc:((2:Int)^i-1)=((2^i-1:Nat):Int):=by
  rw [Int.natCast_sub hpos];simp
 have hm:(2^i-1:Nat)<2^64:=by omega
 have hxm:x%2^i=((x%18446744073709551616).toNat%2^i:Nat):=by
  have h0:0≤x%18446744073709551616:=Int.emod_nonneg _ (by decide)
  rw [Int.natCast_emod,Int.toNat_of_nonneg h0,Int.natCast_pow]
  have hd:((2:Int)^i)∣18446744073709551616:=⟨2^(64-i),by rw [←Int.pow_add];rw [show i+(64-i)=64 by omega];rfl⟩
  exact(Int.emod_emod_of_dvd x hd).symm
 have hb:(BitVec.ofInt 64 x &&& BitVec.ofInt 64 ((2^i-1:Nat):Int)).toNat=(x%18446744073709551616).toNat%2^i:=by
  rw [BitVec.toNat_and,BitVec.toNat_ofInt,BitVec.ofInt_natCast,BitVec.toNat_ofNat,Nat.mod_eq_of_lt hm,Nat.and_two_pow_sub_one_eq_mod]
  rfl
 have hlt:(x%18446744073709551616).toNat%2^i<2^i:=Nat.mod_lt _ hpos
 rw [hc]
 show IntKind.wrap .u64 ((BitVec.ofInt 64 x &&& BitVec.ofInt 64 ((2^i-1:Nat):Int)).toNat:Int)=_
 rw [hb,hxm,u64_wrap]
 omega
theorem or_nat (x y:Int) (j:Nat) (hj:j≤63) (hx:x%2^j=0) (hy0:0≤y) (hy1:y<2^j) :
  ∃ m:Int,((BitVec.ofInt 64 x ||| BitVec.ofInt 64 y).toNat:Int)=x+y+18446744073709551616*m:=by
 obtain⟨b,rfl⟩:=Int.eq_ofNat_of_zero_le hy0
 have hb:b<2^j:=by exact_mod_cast hy1
 have hp:(2:Nat)^j≤2^63:=Nat.pow_le_pow_right (by decide) hj
 have hpos:(0:Int)<2^j:=Int.pow_pos (by decide)
 have h0:0≤x%18446744073709551616:=Int.emod_nonneg _ (by decide)
 have hd:((2:Int)^j)∣18446744073709551616:=⟨2^(64-j),by rw [←Int.pow_add];rw [show j+(64-j)=64 by omega];rfl⟩
 have hz:(x%18446744073709551616)%2^j=0:=by rw [Int.emod_emod_of_dvd x hd];exact hx
 have hq:(x%18446744073709551616).toNat=2^j*((x%18446744073709551616).toNat/2^j):=by
  have h1:(x%18446744073709551616).toNat%2^j=0:=by
   have:(((x%18446744073709551616).toNat%2^j:Nat):Int)=0:=by
    rw [Int.natCast_emod,Int.toNat_of_nonneg h0,Int.natCast_pow];exact hz
   exact Int.natCast_eq_zero.mp this
  have:=Nat.div_add_mod (x%18446744073709551616).toNat (2^j)
  omega
 refine⟨- (x/18446744073709551616),?_⟩
 rw [BitVec.toNat_or,BitVec.toNat_ofInt,BitVec.ofInt_natCast,BitVec.toNat_ofNat,Nat.mod_eq_of_lt (show b<2^64 by omega)]
 have hs:(x%((2^64:Nat):Int)).toNat=(x%18446744073709551616).toNat:=rfl
 rw [hs,hq,←Nat.two_pow_add_eq_or_of_lt hb,←hq,Int.natCast_add,Int.toNat_of_nonneg h0]
 omega
theorem bor64 (x y:Int) (j:Nat) (hj:j≤63) (hx:x%2^j=0) (hy0:0≤y) (hy1:y<2^j):Go.bits .or .i64 x y=wrap64 (x+y):=by
 obtain⟨m,hm⟩:=or_nat x y j hj hx hy0 hy1
 show IntKind.wrap .i64 ((BitVec.ofInt 64 x ||| BitVec.ofInt 64 y).toNat:Int)=_
 rw [hm,i64_wrap]
 unfold wrap64
 omega
theorem boru64 (x y:Int) (j:Nat) (hj:j≤63) (hx:x%2^j=0) (hy0:0≤y) (hy1:y<2^j):Go.bits .or .u64 x y=(x+y)%18446744073709551616:=by
 obtain⟨m,hm⟩:=or_nat x y j hj hx hy0 hy1
 show IntKind.wrap .u64 ((BitVec.ofInt 64 x ||| BitVec.ofInt 64 y).toNat:Int)=_
 rw [hm,u64_wrap]
 omega
theorem bnot64 (x:Int) (h0:-9223372036854775808≤x) (h1:x≤9223372036854775807):Go.bits .xor .i64 (-1) x=-1-x:=by
 show IntKind.wrap .i64 ((BitVec.ofInt 64 (-1) ^^^ BitVec.ofInt 64 x).toNat:Int)=_
 have h2:BitVec.ofInt 64 (-1)=BitVec.allOnes 64:=by decide
 rw [h2,BitVec.allOnes_xor,BitVec.toNat_not,BitVec.toNat_ofInt,i64_wrap]
 have h3:0≤x%18446744073709551616:=Int.emod_nonneg _ (by decide)
 have h4:(x%((2^64:Nat):Int)).toNat=(x%18446744073709551616).toNat:=rfl
 rw [h4]
 unfold wrap64
 omega
theorem p62:(2:Int)^62=4611686018427387904:=by decide
theorem bandu62 (x:Int):Go.bits .and .u64 x 4611686018427387903=x%4611686018427387904:=by
 have h:=bandu64 x 62 (by decide)
 rw [p62] at h
 exact h
theorem band62 (x:Int):Go.bits .and .i64 x 4611686018427387903=x%4611686018427387904:=by
 have h:=band64 x 62 (by decide)
 rw [p62] at h
 exact h
theorem p32:(2:Int)^32=4294967296:=by decide
theorem bandu32 (x:Int):Go.bits .and .u64 x 4294967295=x%4294967296:=by
 have h:=bandu64 x 32 (by decide)
 rw [p32] at h
 exact h
end Go.Proofs.Ytonfobdknnlbjaa.Num
end
section
set_option linter.unusedVariables false
set_option linter.unusedSimpArgs false
namespace Go.Proofs.Ytonfobdknnlbjaa.B
open Go.RowKit Go.Proofs.YtonfobdknnlbjaaW.PrintWords Go.Proofs.YtonfobdknnlbjaaW.PrintLast Go.Proofs.YtonfobdknnlbjaaW.PrintMore
attribute [local go_sem] max2_int min2_int max_two min_two max_three min_three max_four min_four
set_option linter.unusedVariables false
set_option linter.unusedSimpArgs false
attribute [local go_sem high] eqA22
end Go.Proofs.Ytonfobdknnlbjaa.B
end
section
set_option linter.unusedVariables false
set_option linter.unusedSimpArgs false
namespace Go.Proofs.Ytonfobdknnlbjaa.B
open Go.RowKit Go.Proofs.YtonfobdknnlbjaaW.PrintWords Go.Proofs.YtonfobdknnlbjaaW.PrintLast Go.Proofs.YtonfobdknnlbjaaW.PrintMore
attribute [local go_sem] max2_int min2_int max_two min_two max_three min_three max_four min_four
set_option linter.unusedVariables false
set_option linter.unusedSimpArgs false
attribute [local go_sem high] eqA22
end Go.Proofs.Ytonfobdknnlbjaa.B
end
section
set_option linter.unusedVariables false
set_option linter.unusedSimpArgs false
namespace Go.Proofs.Ytonfobdknnlbjaa.B
open Go.RowKit Go.Proofs.YtonfobdknnlbjaaW.PrintWords Go.Proofs.YtonfobdknnlbjaaW.PrintLast Go.Proofs.YtonfobdknnlbjaaW.PrintMore
attribute [local go_sem] max2_int min2_int max_two min_two max_three min_three max_four min_four
set_option linter.unusedVariables false
set_option linter.unusedSimpArgs false
end Go.Proofs.Ytonfobdknnlbjaa.B
end
section
set_option linter.unusedVariables false
set_option linter.unusedSimpArgs false
namespace Go.Proofs.Ytonfobdknnlbjaa.B
open Go.RowKit Go.Proofs.YtonfobdknnlbjaaW.PrintWords Go.Proofs.YtonfobdknnlbjaaW.PrintLast Go.Proofs.YtonfobdknnlbjaaW.PrintMore
attribute [local go_sem] max2_int min2_int max_two min_two max_three min_three max_four min_four
set_option linter.unusedVariables false
set_option linter.unusedSimpArgs false
end Go.Proofs.Ytonfobdknnlbjaa.B
end
section
set_option linter.unusedVariables false
set_option linter.unusedSimpArgs false
namespace Go.Proofs.Ytonfobdknnlbjaa.B
open Go.RowKit Go.Proofs.YtonfobdknnlbjaaW.PrintWords Go.Proofs.YtonfobdknnlbjaaW.PrintLast Go.Proofs.YtonfobdknnlbjaaW.PrintMore
attribute [local go_sem] max2_int min2_int max_two min_two max_three min_three max_four min_four
set_option linter.unusedVariables false
set_option linter.unusedSimpArgs false
end Go.Proofs.Ytonfobdknnlbjaa.B
end
section
set_option linter.unusedVariables false
set_option linter.unusedSimpArgs false
namespace Go.Proofs.Ytonfobdknnlbjaa.B
open Go.RowKit Go.Proofs.YtonfobdknnlbjaaW.PrintWords Go.Proofs.YtonfobdknnlbjaaW.PrintLast Go.Proofs.YtonfobdknnlbjaaW.PrintMore
attribute [local go_sem] max2_int min2_int max_two min_two max_three min_three max_four min_four
set_option linter.unusedVariables false
set_option linter.unusedSimpArgs false
end Go.Proofs.Ytonfobdknnlbjaa.B
end
section
set_option linter.unusedVariables false
set_option linter.unusedSimpArgs false
namespace Go.Proofs.Ytonfobdknnlbjaa.B
open Go.RowKit Go.Proofs.YtonfobdknnlbjaaW.PrintWords Go.Proofs.YtonfobdknnlbjaaW.PrintLast Go.Proofs.YtonfobdknnlbjaaW.PrintMore
attribute [local go_sem] max2_int min2_int max_two min_two max_three min_three max_four min_four
set_option linter.unusedVariables false
set_option linter.unusedSimpArgs false
end Go.Proofs.Ytonfobdknnlbjaa.B
end
section
set_option linter.unusedVariables false
set_option linter.unusedSimpArgs false
namespace Go.Proofs.Ytonfobdknnlbjaa.B
open Go.RowKit Go.Proofs.YtonfobdknnlbjaaW.PrintWords Go.Proofs.YtonfobdknnlbjaaW.PrintLast Go.Proofs.YtonfobdknnlbjaaW.PrintMore
attribute [local go_sem] max2_int min2_int max_two min_two max_three min_three max_four min_four
set_option linter.unusedVariables false
set_option linter.unusedSimpArgs false
attribute [local go_sem high] eqA59
end Go.Proofs.Ytonfobdknnlbjaa.B
end
section
set_option linter.unusedVariables false
set_option linter.unusedSimpArgs false
namespace Go.Proofs.Ytonfobdknnlbjaa.B
open Go.RowKit Go.Proofs.YtonfobdknnlbjaaW.PrintWords Go.Proofs.YtonfobdknnlbjaaW.PrintLast Go.Proofs.YtonfobdknnlbjaaW.PrintMore
attribute [local go_sem] max2_int min2_int max_two min_two max_three min_three max_four min_four
set_option linter.unusedVariables false
set_option linter.unusedSimpArgs false
end Go.Proofs.Ytonfobdknnlbjaa.B
end
section
set_option linter.unusedVariables false
set_option linter.unusedSimpArgs false
namespace Go.Proofs.Ytonfobdknnlbjaa.B
open Go.RowKit Go.Proofs.YtonfobdknnlbjaaW.PrintWords Go.Proofs.YtonfobdknnlbjaaW.PrintLast Go.Proofs.YtonfobdknnlbjaaW.PrintMore
attribute [local go_sem] max2_int min2_int max_two min_two max_three min_three max_four min_four
set_option linter.unusedVariables false
set_option linter.unusedSimpArgs false
end Go.Proofs.Ytonfobdknnlbjaa.B
end
