/- Lemmas of the rows, laid by a program. -/
import Derived.Test.YtonfobdknnlbjaaZM1
import Derived.Test.YtonfobdknnlbjaaZM5
import Derived.Test.YtonfobdknnlbjaaZM8
import Derived.Test.YtonfobdknnlbjaaZM10
import Derived.Laws.BitsLemmas
import Derived.OpenShut
import Derived.Test.YtonfobdknnlbjaaZM4
import Derived.LoopN
section
namespace Go.Proofs.Ytonfobdknnlbjaa.B
open Go.RowKit Go.Proofs.YtonfobdknnlbjaaW.PrintWords Go.Proofs.YtonfobdknnlbjaaW.PrintLast Go.Proofs.YtonfobdknnlbjaaW.PrintMore
attribute [local go_sem] max2_int min2_int max_two min_two max_three min_three max_four min_four
set_option linter.unusedVariables false
set_option linter.unusedSimpArgs false
attribute [local go_sem high] eqA22
def outriggerlaw18_awake.f (k:Nat)  : Option (Bool):=(sense_Read.f k 4294967296 4294967296 4294967296 8589934592 42949672960 12884901888 17179869184 21474836480).bind fun bt362=>((sense_Show.f k 4294967296 4294967296 4294967296 8589934592 42949672960 bt362.1 bt362.2.1 bt362.2.2.1).bind fun bt367=>((sense_Read.f k 4294967296 4294967296 4294967296 8589934592 42949672960 38654705664 0 0).bind fun bt372=>(if bt362.2.2.2=true then (if (bt362.1 == 17179869184 && (bt362.2.1 == 25769803776 && (bt362.2.2.1 == 34359738368)))=true then (if bt367.2.2.2=true then (if (bt367.1 == 12884901888 && (bt367.2.1 == 17179869184 && (bt367.2.2.1 == 21474836480)))=true then (if bt372.2.2.2=true then (some false) else ((sense_Sane.f k 4294967296 4294967296 4294967296 8589934592 42949672960).bind fun t377=>(if t377=true then ((sense_Learn.f k 4294967296 4294967296 4294967296 8589934592 42949672960 (([(⟨2,4,6⟩:S22)]:List (S22)))).bind fun bt381=>(some (bt381.1 == 2 && (bt381.2.1 == 4 && (bt381.2.2.1 == 6))))) else (some false)))) else (some false)) else (some false)) else (some false)) else (some false))))
theorem outriggerlaw18_awake.mono:∀ k,LeO (outriggerlaw18_awake.f k ) (outriggerlaw18_awake.f (k+1) ):=by
 intro  k
 unfold outriggerlaw18_awake.f
 repeat' first
   | (with_reducible exact sense_Learn.mono _ _ _ _ _ _ _)
   | (with_reducible exact sense_Read.mono _ _ _ _ _ _ _ _ _)
   | (with_reducible exact sense_Sane.mono _ _ _ _ _ _)
   | (with_reducible exact sense_Show.mono _ _ _ _ _ _ _ _ _)
   | (with_reducible exact LeO.refl _)
   | (with_reducible exact LeO.none _)
   | (with_reducible refine LeO.ite ?_ ?_)
   | (with_reducible refine LeO.bind ?_ (fun _=>?_))
   | exact sense_Learn.mono _ _ _ _ _ _ _
   | exact sense_Read.mono _ _ _ _ _ _ _ _ _
   | exact sense_Sane.mono _ _ _ _ _ _
   | exact sense_Show.mono _ _ _ _ _ _ _ _ _
   | exact LeO.none _
   | refine LeO.ite ?_ ?_
   | refine LeO.bind ?_ (fun _=>?_)
set_option maxHeartbeats 8000000 in
set_option maxRecDepth 100000 in
theorem outriggerlaw18_awake.calls1 (k:Nat)  (r:Bool) (w:World) (h:outriggerlaw18_awake.f k  = some r) (hr:Aside0 (r=true)) :
  Calls Try.prog 8 #[] w fun e w'=>e=.returned (.bool r)∧Below w.heap.size w w':=by
 have hu22:=Try.underlying22
 have hu24:=Try.underlying24
 have HB:=Aside0.mk (Below.refl w.heap.size w)
 have H:((sense_Read.f k 4294967296 4294967296 4294967296 8589934592 42949672960 12884901888 17179869184 21474836480).bind fun bt362=>((sense_Show.f k 4294967296 4294967296 4294967296 8589934592 42949672960 bt362.1 bt362.2.1 bt362.2.2.1).bind fun bt367=>((sense_Read.f k 4294967296 4294967296 4294967296 8589934592 42949672960 38654705664 0 0).bind fun bt372=>(if bt362.2.2.2=true then (if (bt362.1 == 17179869184 && (bt362.2.1 == 25769803776 && (bt362.2.2.1 == 34359738368)))=true then (if bt367.2.2.2=true then (if (bt367.1 == 12884901888 && (bt367.2.1 == 17179869184 && (bt367.2.2.1 == 21474836480)))=true then (if bt372.2.2.2=true then (some false) else ((sense_Sane.f k 4294967296 4294967296 4294967296 8589934592 42949672960).bind fun t377=>(if t377=true then ((sense_Learn.f k 4294967296 4294967296 4294967296 8589934592 42949672960 (([(⟨2,4,6⟩:S22)]:List (S22)))).bind fun bt381=>(some (bt381.1 == 2 && (bt381.2.1 == 4 && (bt381.2.2.1 == 6))))) else (some false)))) else (some false)) else (some false)) else (some false)) else (some false)))))=some r:=h
 clear h
 replace H:=Option.bind_eq_some_iff.mp H
 obtain⟨⟨t362,t363,t364,t365⟩,A10,H⟩:=H
 replace H:((sense_Show.f k 4294967296 4294967296 4294967296 8589934592 42949672960 t362 t363 t364).bind fun bt367=>((sense_Read.f k 4294967296 4294967296 4294967296 8589934592 42949672960 38654705664 0 0).bind fun bt372=>(if t365=true then (if (t362 == 17179869184 && (t363 == 25769803776 && (t364 == 34359738368)))=true then (if bt367.2.2.2=true then (if (bt367.1 == 12884901888 && (bt367.2.1 == 17179869184 && (bt367.2.2.1 == 21474836480)))=true then (if bt372.2.2.2=true then (some false) else ((sense_Sane.f k 4294967296 4294967296 4294967296 8589934592 42949672960).bind fun t377=>(if t377=true then ((sense_Learn.f k 4294967296 4294967296 4294967296 8589934592 42949672960 (([(⟨2,4,6⟩:S22)]:List (S22)))).bind fun bt381=>(some (bt381.1 == 2 && (bt381.2.1 == 4 && (bt381.2.2.1 == 6))))) else (some false)))) else (some false)) else (some false)) else (some false)) else (some false))))=some r:=H
 have A1:=Aside0.mk A10
 clear A10
 replace H:=Option.bind_eq_some_iff.mp H
 obtain⟨⟨t367,t368,t369,t370⟩,A20,H⟩:=H
 replace H:((sense_Read.f k 4294967296 4294967296 4294967296 8589934592 42949672960 38654705664 0 0).bind fun bt372=>(if t365=true then (if (t362 == 17179869184 && (t363 == 25769803776 && (t364 == 34359738368)))=true then (if t370=true then (if (t367 == 12884901888 && (t368 == 17179869184 && (t369 == 21474836480)))=true then (if bt372.2.2.2=true then (some false) else ((sense_Sane.f k 4294967296 4294967296 4294967296 8589934592 42949672960).bind fun t377=>(if t377=true then ((sense_Learn.f k 4294967296 4294967296 4294967296 8589934592 42949672960 (([(⟨2,4,6⟩:S22)]:List (S22)))).bind fun bt381=>(some (bt381.1 == 2 && (bt381.2.1 == 4 && (bt381.2.2.1 == 6))))) else (some false)))) else (some false)) else (some false)) else (some false)) else (some false)))=some r:=H
 have A2:=Aside0.mk A20
 clear A20
 replace H:=Option.bind_eq_some_iff.mp H
 obtain⟨⟨t372,t373,t374,t375⟩,A30,H⟩:=H
 replace H:(if t365=true then (if (t362 == 17179869184 && (t363 == 25769803776 && (t364 == 34359738368)))=true then (if t370=true then (if (t367 == 12884901888 && (t368 == 17179869184 && (t369 == 21474836480)))=true then (if t375=true then (some false) else ((sense_Sane.f k 4294967296 4294967296 4294967296 8589934592 42949672960).bind fun t377=>(if t377=true then ((sense_Learn.f k 4294967296 4294967296 4294967296 8589934592 42949672960 (([(⟨2,4,6⟩:S22)]:List (S22)))).bind fun bt381=>(some (bt381.1 == 2 && (bt381.2.1 == 4 && (bt381.2.2.1 == 6))))) else (some false)))) else (some false)) else (some false)) else (some false)) else (some false))=some r:=H
 have A3:=Aside0.mk A30
 clear A30
 by_cases c4:t365=true
 ·subst c4
  have H1:(if (t362 == 17179869184 && (t363 == 25769803776 && (t364 == 34359738368)))=true then (if t370=true then (if (t367 == 12884901888 && (t368 == 17179869184 && (t369 == 21474836480)))=true then (if t375=true then (some false) else ((sense_Sane.f k 4294967296 4294967296 4294967296 8589934592 42949672960).bind fun t377=>(if t377=true then ((sense_Learn.f k 4294967296 4294967296 4294967296 8589934592 42949672960 (([(⟨2,4,6⟩:S22)]:List (S22)))).bind fun bt381=>(some (bt381.1 == 2 && (bt381.2.1 == 4 && (bt381.2.2.1 == 6))))) else (some false)))) else (some false)) else (some false)) else (some false))=some r:=by rw [if_pos rfl] at H;exact H
  clear H
  have H:=H1
  clear H1
  by_cases c5:(t362 == 17179869184 && (t363 == 25769803776 && (t364 == 34359738368)))=true
  ·rw [if_pos c5] at H
   have c5b0:(t362 == 17179869184 && (t363 == 25769803776 && (t364 == 34359738368)))=true:=c5
   (try (have c5b1:decide (t362=17179869184 && (t363 == 25769803776 && (t364 == 34359738368)))=true:=by simpa using c5))
   (try (have c5b2:(t362 == 17179869184 && (t363 == 25769803776 && (t364 == 34359738368)))=true:=by simpa using c5))
   clear c5
   by_cases c6:t370=true
   ·subst c6
    have H1:(if (t367 == 12884901888 && (t368 == 17179869184 && (t369 == 21474836480)))=true then (if t375=true then (some false) else ((sense_Sane.f k 4294967296 4294967296 4294967296 8589934592 42949672960).bind fun t377=>(if t377=true then ((sense_Learn.f k 4294967296 4294967296 4294967296 8589934592 42949672960 (([(⟨2,4,6⟩:S22)]:List (S22)))).bind fun bt381=>(some (bt381.1 == 2 && (bt381.2.1 == 4 && (bt381.2.2.1 == 6))))) else (some false)))) else (some false))=some r:=by rw [if_pos rfl] at H;exact H
    clear H
    have H:=H1
    clear H1
    by_cases c7:(t367 == 12884901888 && (t368 == 17179869184 && (t369 == 21474836480)))=true
    ·rw [if_pos c7] at H
     have c7b0:(t367 == 12884901888 && (t368 == 17179869184 && (t369 == 21474836480)))=true:=c7
     (try (have c7b1:decide (t367=12884901888 && (t368 == 17179869184 && (t369 == 21474836480)))=true:=by simpa using c7))
     (try (have c7b2:(t367 == 12884901888 && (t368 == 17179869184 && (t369 == 21474836480)))=true:=by simpa using c7))
     clear c7
     by_cases c8:t375=true
     ·subst c8
      have H1:(some false)=some r:=by rw [if_pos rfl] at H;exact H
      clear H
      have H:=H1
      clear H1
      exact absurd ((Option.some.inj H).trans hr.out) (by decide)
     ·replace c8:=Bool.eq_false_iff.mpr c8
      subst c8
      have H1:((sense_Sane.f k 4294967296 4294967296 4294967296 8589934592 42949672960).bind fun t377=>(if t377=true then ((sense_Learn.f k 4294967296 4294967296 4294967296 8589934592 42949672960 (([(⟨2,4,6⟩:S22)]:List (S22)))).bind fun bt381=>(some (bt381.1 == 2 && (bt381.2.1 == 4 && (bt381.2.2.1 == 6))))) else (some false)))=some r:=by rw [if_neg (show ¬(false=true) by decide)] at H;exact H
      clear H
      have H:=H1
      clear H1
      replace H:=Option.bind_eq_some_iff.mp H
      obtain⟨t377,A300,H⟩:=H
      replace H:(if t377=true then ((sense_Learn.f k 4294967296 4294967296 4294967296 8589934592 42949672960 (([(⟨2,4,6⟩:S22)]:List (S22)))).bind fun bt381=>(some (bt381.1 == 2 && (bt381.2.1 == 4 && (bt381.2.2.1 == 6))))) else (some false))=some r:=H
      have A30:=Aside0.mk A300
      clear A300
      by_cases c31:t377=true
      ·subst c31
       have H1:((sense_Learn.f k 4294967296 4294967296 4294967296 8589934592 42949672960 (([(⟨2,4,6⟩:S22)]:List (S22)))).bind fun bt381=>(some (bt381.1 == 2 && (bt381.2.1 == 4 && (bt381.2.2.1 == 6)))))=some r:=by rw [if_pos rfl] at H;exact H
       clear H
       have H:=H1
       clear H1
       obtain⟨y378,hy378⟩:∃ y_:List (S22),y_=(([(⟨2,4,6⟩:S22)]:List (S22))):=⟨_,rfl⟩
       replace H:((sense_Learn.f k 4294967296 4294967296 4294967296 8589934592 42949672960 y378).bind fun bt381=>(some (bt381.1 == 2 && (bt381.2.1 == 4 && (bt381.2.2.1 == 6)))))=some r:=by first|(rw [hy378];with_reducible exact H)|(have H2_:=(Option.bind_some _ _).symm.trans H;rw [hy378];with_reducible exact H2_)|(have H2_:=(Option.bind_some _ _).symm.trans H;with_reducible exact H2_)|with_reducible exact H|(rw [hy378];exact H)|exact H
       have Ny378:=Aside0.mk hy378
       clear hy378
       replace H:=Option.bind_eq_some_iff.mp H
       obtain⟨⟨t381,t382,t383,t384,t385⟩,A320,H⟩:=H
       replace H:(some (t381 == 2 && (t382 == 4 && (t383 == 6))))=some r:=H
       have A32:=Aside0.mk A320
       clear A320
       clear hr
       obtain rfl:=Option.some.inj H
       have fld_:∀ W,(Instr.field 24 (.agg #[.int .i64 t381,.int .i64 t382,.int .i64 t383,.int .i64 t384,.int .i64 t385]) 0).run Try.prog W=.ok (.agg #[.int .i64 t381,.int .i64 t382,.int .i64 t383]) W:=fun _=>by kernel_rfl
       go_enter Try.func8,Try.ntmps8
       go_wp2_with (first|((with_reducible refine gate_dst (N:=1) rfl ?_);(try (refine gate_guard (by rfl) ?_;dsimp only));refine box_event ?hg (N:=1) ?hd (cs:=#[.int .i64 0,.int .i64 0,.int .i64 0,.int .i64 0,.int .i64 0]) (t:=24) ?hr ?_;(case hd=>rfl);(case hg=>rfl);(case hr=>first|(go_simp;done)|(go_simp;rfl));intro gb361 hg w33 hbox hb;have n0_:=Aside0.mk (below_step (by repeat (first|(with_reducible first|exact HB.out|apply below_alloc|apply pw_below_drewN|apply below_drew1)|exact HB.out)) hb);have n1_:=Aside0.mk (hbox);have n2_:=Aside0.mk ((by rw [hg];exact(below_size (by repeat (first|(with_reducible first|exact HB.out|apply below_alloc|apply pw_below_drewN|apply below_drew1)|exact HB.out))):w.heap.size≤gb361));have n3_:=Aside0.mk ((by rw [hg];exact(below_size (by repeat (first|(with_reducible first|exact HB.out|apply below_alloc|apply pw_below_drewN|apply below_drew1)|exact HB.out))):w.heap.size≤gb361));clear HB;have HB:=n0_;have BK361:=n1_;have GW361:=n2_;have GE361:=n3_;clear n0_ n1_ n2_ n3_;clear hb hbox hg;have hcz34_0:w33.cell? ⟨gb361,0,none⟩=some (.int .i64 0):=(blk_cell BK361.out 0).trans rfl;have hcz34_1:w33.cell? ⟨gb361,1,none⟩=some (.int .i64 0):=(blk_cell BK361.out 1).trans rfl;have hcz34_2:w33.cell? ⟨gb361,2,none⟩=some (.int .i64 0):=(blk_cell BK361.out 2).trans rfl;have hcz34_3:w33.cell? ⟨gb361,3,none⟩=some (.int .i64 0):=(blk_cell BK361.out 3).trans rfl;have hcz34_4:w33.cell? ⟨gb361,4,none⟩=some (.int .i64 0):=(blk_cell BK361.out 4).trans rfl;have hfz34_0:=blk_frozen BK361.out 0;have hfz34_1:=blk_frozen BK361.out 1;have hfz34_2:=blk_frozen BK361.out 2;have hfz34_3:=blk_frozen BK361.out 3;have hfz34_4:=blk_frozen BK361.out 4)|((with_reducible refine gate_callee (f:=9) rfl ?_);refine goesL_ (some 13) rfl rfl Try.func9 (by kernel_rfl) rfl #[.agg #[.int .i64 4294967296,.int .i64 4294967296,.int .i64 4294967296,.int .i64 8589934592,.int .i64 42949672960],.agg #[.int .i64 12884901888,.int .i64 17179869184,.int .i64 21474836480]] rfl (by (try simp only [List.map_toArray,List.map_cons,List.map_nil]);first|done|rfl|(simp only [List.length_drop,List.length_take];rfl)) ?_;(with_reducible refine(sense_Read.calls k 4294967296 4294967296 4294967296 8589934592 42949672960 12884901888 17179869184 21474836480 t362 t363 t364 true _ A1.out).mono ?_);rintro e w35 ⟨rfl,hb⟩;refine⟨_,rfl,?_⟩;have n0_:=Aside0.mk (blk_below (g:=gb361) (o:=.cells #[.int .i64 4294967296,.int .i64 4294967296,.int .i64 4294967296,.int .i64 8589934592,.int .i64 42949672960] 24 (0,0)) (by (with_reducible repeat (first|refine blk_drewN ?_ _|refine blk_drew ?_|refine blk_alloc ?_ _));refine blk_put (cs:=#[.int .i64 4294967296,.int .i64 4294967296,.int .i64 4294967296,.int .i64 8589934592,.int .i64 0]) ?_ 4 _ rfl;(with_reducible repeat (first|refine blk_drewN ?_ _|refine blk_drew ?_|refine blk_alloc ?_ _));refine blk_put (cs:=#[.int .i64 4294967296,.int .i64 4294967296,.int .i64 4294967296,.int .i64 0,.int .i64 0]) ?_ 3 _ rfl;(with_reducible repeat (first|refine blk_drewN ?_ _|refine blk_drew ?_|refine blk_alloc ?_ _));refine blk_put (cs:=#[.int .i64 4294967296,.int .i64 4294967296,.int .i64 0,.int .i64 0,.int .i64 0]) ?_ 2 _ rfl;(with_reducible repeat (first|refine blk_drewN ?_ _|refine blk_drew ?_|refine blk_alloc ?_ _));refine blk_put (cs:=#[.int .i64 4294967296,.int .i64 0,.int .i64 0,.int .i64 0,.int .i64 0]) ?_ 1 _ rfl;(with_reducible repeat (first|refine blk_drewN ?_ _|refine blk_drew ?_|refine blk_alloc ?_ _));refine blk_put (cs:=#[.int .i64 0,.int .i64 0,.int .i64 0,.int .i64 0,.int .i64 0]) ?_ 0 _ rfl;(with_reducible repeat (first|refine blk_drewN ?_ _|refine blk_drew ?_|refine blk_alloc ?_ _));exact BK361.out) hb);have n1_:=Aside0.mk (below_step (by repeat (first|(with_reducible first|exact HB.out|apply below_alloc|apply pw_below_drewN|apply below_drew1|refine below_set ?_ GE361.out)|exact HB.out)) hb);clear BK361;clear HB;have BK361:=n0_;have HB:=n1_;clear n0_ n1_;(try clear hb);(try clear hb2);(try clear hk);(try clear hi))|((with_reducible refine gate_dst (N:=2) rfl ?_);(try (refine gate_guard (by rfl) ?_;dsimp only));refine box_event ?hg (N:=2) ?hd (cs:=#[.int .i64 0,.int .i64 0,.int .i64 0]) (t:=22) ?hr ?_;(case hd=>rfl);(case hg=>rfl);(case hr=>first|(go_simp;done)|(go_simp;rfl));intro gb366 hg w36 hbox hb;have n0_:=Aside0.mk (blk_below (g:=gb361) (o:=.cells #[.int .i64 4294967296,.int .i64 4294967296,.int .i64 4294967296,.int .i64 8589934592,.int .i64 42949672960] 24 (0,0)) (by (with_reducible repeat (first|refine blk_drewN ?_ _|refine blk_drew ?_|refine blk_alloc ?_ _));exact BK361.out) hb);have n1_:=Aside0.mk (below_step (by repeat (first|(with_reducible first|exact HB.out|apply below_alloc|apply pw_below_drewN|apply below_drew1|refine below_set ?_ GE361.out)|exact HB.out)) hb);have n2_:=Aside0.mk (hbox);have n3_:=Aside0.mk ((by rw [hg];exact(below_size (by repeat (first|(with_reducible first|exact HB.out|apply below_alloc|apply pw_below_drewN|apply below_drew1|refine below_set ?_ GE361.out)|exact HB.out))):w.heap.size≤gb366));have n4_:=Aside0.mk ((by rw [hg];exact(below_size (by repeat (first|(with_reducible first|exact HB.out|apply below_alloc|apply pw_below_drewN|apply below_drew1|refine below_set ?_ GE361.out)|exact HB.out))):w.heap.size≤gb366));have n5_:=Aside0.mk ((by rw [hg];exact Nat.ne_of_lt (blk_lt (g:=gb361) (o:=.cells #[.int .i64 4294967296,.int .i64 4294967296,.int .i64 4294967296,.int .i64 8589934592,.int .i64 42949672960] 24 (0,0)) (by (with_reducible repeat (first|refine blk_drewN ?_ _|refine blk_drew ?_|refine blk_alloc ?_ _));exact BK361.out)):gb361≠gb366));have n6_:=Aside0.mk ((by rw [hg];exact Nat.ne_of_gt (blk_lt (g:=gb361) (o:=.cells #[.int .i64 4294967296,.int .i64 4294967296,.int .i64 4294967296,.int .i64 8589934592,.int .i64 42949672960] 24 (0,0)) (by (with_reducible repeat (first|refine blk_drewN ?_ _|refine blk_drew ?_|refine blk_alloc ?_ _));exact BK361.out)):gb366≠gb361));clear BK361;clear HB;have BK361:=n0_;have HB:=n1_;have BK366:=n2_;have GW366:=n3_;have GE366:=n4_;have NB361_366:=n5_;have NB366_361:=n6_;clear n0_ n1_ n2_ n3_ n4_ n5_ n6_;clear hb hbox hg;have hnb37:=NB366_361.out;have hnc37:=NB361_366.out;have hcz38_0:w36.cell? ⟨gb366,0,none⟩=some (.int .i64 0):=(blk_cell BK366.out 0).trans rfl;have hcz38_1:w36.cell? ⟨gb366,1,none⟩=some (.int .i64 0):=(blk_cell BK366.out 1).trans rfl;have hcz38_2:w36.cell? ⟨gb366,2,none⟩=some (.int .i64 0):=(blk_cell BK366.out 2).trans rfl;have hfz38_0:=blk_frozen BK366.out 0;have hfz38_1:=blk_frozen BK366.out 1;have hfz38_2:=blk_frozen BK366.out 2;have hcz39_0:w36.cell? ⟨gb361,0,none⟩=some (.int .i64 4294967296):=(blk_cell BK361.out 0).trans rfl;have hcz39_1:w36.cell? ⟨gb361,1,none⟩=some (.int .i64 4294967296):=(blk_cell BK361.out 1).trans rfl;have hcz39_2:w36.cell? ⟨gb361,2,none⟩=some (.int .i64 4294967296):=(blk_cell BK361.out 2).trans rfl;have hcz39_3:w36.cell? ⟨gb361,3,none⟩=some (.int .i64 8589934592):=(blk_cell BK361.out 3).trans rfl;have hcz39_4:w36.cell? ⟨gb361,4,none⟩=some (.int .i64 42949672960):=(blk_cell BK361.out 4).trans rfl;have hfz39_0:=blk_frozen BK361.out 0;have hfz39_1:=blk_frozen BK361.out 1;have hfz39_2:=blk_frozen BK361.out 2;have hfz39_3:=blk_frozen BK361.out 3;have hfz39_4:=blk_frozen BK361.out 4)|((with_reducible refine gate_callee (f:=11) rfl ?_);refine goesL_ (some 19) rfl rfl Try.func11 (by kernel_rfl) rfl #[.agg #[.int .i64 4294967296,.int .i64 4294967296,.int .i64 4294967296,.int .i64 8589934592,.int .i64 42949672960],.agg #[.int .i64 t362,.int .i64 t363,.int .i64 t364]] rfl (by (try simp only [List.map_toArray,List.map_cons,List.map_nil]);first|done|rfl|(simp only [List.length_drop,List.length_take];rfl)) ?_;(with_reducible refine(sense_Show.calls k 4294967296 4294967296 4294967296 8589934592 42949672960 t362 t363 t364 t367 t368 t369 true _ A2.out).mono ?_);rintro e w40 ⟨rfl,hb⟩;refine⟨_,rfl,?_⟩;have n0_:=Aside0.mk (blk_below (g:=gb361) (o:=.cells #[.int .i64 4294967296,.int .i64 4294967296,.int .i64 4294967296,.int .i64 8589934592,.int .i64 42949672960] 24 (0,0)) (by (with_reducible repeat (first|refine blk_drewN ?_ _|refine blk_drew ?_|refine blk_alloc ?_ _));refine blk_far ?_ NB361_366.out _;(with_reducible repeat (first|refine blk_drewN ?_ _|refine blk_drew ?_|refine blk_alloc ?_ _));refine blk_far ?_ NB361_366.out _;(with_reducible repeat (first|refine blk_drewN ?_ _|refine blk_drew ?_|refine blk_alloc ?_ _));refine blk_far ?_ NB361_366.out _;(with_reducible repeat (first|refine blk_drewN ?_ _|refine blk_drew ?_|refine blk_alloc ?_ _));exact BK361.out) hb);have n1_:=Aside0.mk (blk_below (g:=gb366) (o:=.cells #[.int .i64 t362,.int .i64 t363,.int .i64 t364] 22 (0,0)) (by (with_reducible repeat (first|refine blk_drewN ?_ _|refine blk_drew ?_|refine blk_alloc ?_ _));refine blk_put (cs:=#[.int .i64 t362,.int .i64 t363,.int .i64 0]) ?_ 2 _ rfl;(with_reducible repeat (first|refine blk_drewN ?_ _|refine blk_drew ?_|refine blk_alloc ?_ _));refine blk_put (cs:=#[.int .i64 t362,.int .i64 0,.int .i64 0]) ?_ 1 _ rfl;(with_reducible repeat (first|refine blk_drewN ?_ _|refine blk_drew ?_|refine blk_alloc ?_ _));refine blk_put (cs:=#[.int .i64 0,.int .i64 0,.int .i64 0]) ?_ 0 _ rfl;(with_reducible repeat (first|refine blk_drewN ?_ _|refine blk_drew ?_|refine blk_alloc ?_ _));exact BK366.out) hb);have n2_:=Aside0.mk (below_step (by repeat (first|(with_reducible first|exact HB.out|apply below_alloc|apply pw_below_drewN|apply below_drew1|refine below_set ?_ GE361.out|refine below_set ?_ GE366.out)|exact HB.out)) hb);clear BK361;clear BK366;clear HB;have BK361:=n0_;have BK366:=n1_;have HB:=n2_;clear n0_ n1_ n2_;(try clear hb);(try clear hb2);(try clear hk);(try clear hi))|((with_reducible refine gate_dst (N:=4) rfl ?_);(try (refine gate_guard (by rfl) ?_;dsimp only));refine box_event ?hg (N:=4) ?hd (cs:=#[.int .i64 0,.int .i64 0,.int .i64 0]) (t:=22) ?hr ?_;(case hd=>rfl);(case hg=>rfl);(case hr=>first|(go_simp;done)|(go_simp;rfl));intro gb371 hg w41 hbox hb;have n0_:=Aside0.mk (blk_below (g:=gb361) (o:=.cells #[.int .i64 4294967296,.int .i64 4294967296,.int .i64 4294967296,.int .i64 8589934592,.int .i64 42949672960] 24 (0,0)) (by (with_reducible repeat (first|refine blk_drewN ?_ _|refine blk_drew ?_|refine blk_alloc ?_ _));exact BK361.out) hb);have n1_:=Aside0.mk (blk_below (g:=gb366) (o:=.cells #[.int .i64 t362,.int .i64 t363,.int .i64 t364] 22 (0,0)) (by (with_reducible repeat (first|refine blk_drewN ?_ _|refine blk_drew ?_|refine blk_alloc ?_ _));exact BK366.out) hb);have n2_:=Aside0.mk (below_step (by repeat (first|(with_reducible first|exact HB.out|apply below_alloc|apply pw_below_drewN|apply below_drew1|refine below_set ?_ GE361.out|refine below_set ?_ GE366.out)|exact HB.out)) hb);have n3_:=Aside0.mk (hbox);have n4_:=Aside0.mk ((by rw [hg];exact(below_size (by repeat (first|(with_reducible first|exact HB.out|apply below_alloc|apply pw_below_drewN|apply below_drew1|refine below_set ?_ GE361.out|refine below_set ?_ GE366.out)|exact HB.out))):w.heap.size≤gb371));have n5_:=Aside0.mk ((by rw [hg];exact(below_size (by repeat (first|(with_reducible first|exact HB.out|apply below_alloc|apply pw_below_drewN|apply below_drew1|refine below_set ?_ GE361.out|refine below_set ?_ GE366.out)|exact HB.out))):w.heap.size≤gb371));have n6_:=Aside0.mk ((by rw [hg];exact Nat.ne_of_lt (blk_lt (g:=gb361) (o:=.cells #[.int .i64 4294967296,.int .i64 4294967296,.int .i64 4294967296,.int .i64 8589934592,.int .i64 42949672960] 24 (0,0)) (by (with_reducible repeat (first|refine blk_drewN ?_ _|refine blk_drew ?_|refine blk_alloc ?_ _));exact BK361.out)):gb361≠gb371));have n7_:=Aside0.mk ((by rw [hg];exact Nat.ne_of_gt (blk_lt (g:=gb361) (o:=.cells #[.int .i64 4294967296,.int .i64 4294967296,.int .i64 4294967296,.int .i64 8589934592,.int .i64 42949672960] 24 (0,0)) (by (with_reducible repeat (first|refine blk_drewN ?_ _|refine blk_drew ?_|refine blk_alloc ?_ _));exact BK361.out)):gb371≠gb361));have n8_:=Aside0.mk ((by rw [hg];exact Nat.ne_of_lt (blk_lt (g:=gb366) (o:=.cells #[.int .i64 t362,.int .i64 t363,.int .i64 t364] 22 (0,0)) (by (with_reducible repeat (first|refine blk_drewN ?_ _|refine blk_drew ?_|refine blk_alloc ?_ _));exact BK366.out)):gb366≠gb371));have n9_:=Aside0.mk ((by rw [hg];exact Nat.ne_of_gt (blk_lt (g:=gb366) (o:=.cells #[.int .i64 t362,.int .i64 t363,.int .i64 t364] 22 (0,0)) (by (with_reducible repeat (first|refine blk_drewN ?_ _|refine blk_drew ?_|refine blk_alloc ?_ _));exact BK366.out)):gb371≠gb366));clear BK361;clear BK366;clear HB;have BK361:=n0_;have BK366:=n1_;have HB:=n2_;have BK371:=n3_;have GW371:=n4_;have GE371:=n5_;have NB361_371:=n6_;have NB371_361:=n7_;have NB366_371:=n8_;have NB371_366:=n9_;clear n0_ n1_ n2_ n3_ n4_ n5_ n6_ n7_ n8_ n9_;clear hb hbox hg;have hnb42:=NB371_361.out;have hnc42:=NB361_371.out;have hnb43:=NB371_366.out;have hnc43:=NB366_371.out;have hcz44_0:w41.cell? ⟨gb371,0,none⟩=some (.int .i64 0):=(blk_cell BK371.out 0).trans rfl;have hcz44_1:w41.cell? ⟨gb371,1,none⟩=some (.int .i64 0):=(blk_cell BK371.out 1).trans rfl;have hcz44_2:w41.cell? ⟨gb371,2,none⟩=some (.int .i64 0):=(blk_cell BK371.out 2).trans rfl;have hfz44_0:=blk_frozen BK371.out 0;have hfz44_1:=blk_frozen BK371.out 1;have hfz44_2:=blk_frozen BK371.out 2;have hcz45_0:w41.cell? ⟨gb361,0,none⟩=some (.int .i64 4294967296):=(blk_cell BK361.out 0).trans rfl;have hcz45_1:w41.cell? ⟨gb361,1,none⟩=some (.int .i64 4294967296):=(blk_cell BK361.out 1).trans rfl;have hcz45_2:w41.cell? ⟨gb361,2,none⟩=some (.int .i64 4294967296):=(blk_cell BK361.out 2).trans rfl;have hcz45_3:w41.cell? ⟨gb361,3,none⟩=some (.int .i64 8589934592):=(blk_cell BK361.out 3).trans rfl;have hcz45_4:w41.cell? ⟨gb361,4,none⟩=some (.int .i64 42949672960):=(blk_cell BK361.out 4).trans rfl;have hfz45_0:=blk_frozen BK361.out 0;have hfz45_1:=blk_frozen BK361.out 1;have hfz45_2:=blk_frozen BK361.out 2;have hfz45_3:=blk_frozen BK361.out 3;have hfz45_4:=blk_frozen BK361.out 4)|((with_reducible refine gate_callee (f:=9) rfl ?_);refine goesL_ (some 25) rfl rfl Try.func9 (by kernel_rfl) rfl #[.agg #[.int .i64 4294967296,.int .i64 4294967296,.int .i64 4294967296,.int .i64 8589934592,.int .i64 42949672960],.agg #[.int .i64 38654705664,.int .i64 0,.int .i64 0]] rfl (by (try simp only [List.map_toArray,List.map_cons,List.map_nil]);first|done|rfl|(simp only [List.length_drop,List.length_take];rfl)) ?_;(with_reducible refine(sense_Read.calls k 4294967296 4294967296 4294967296 8589934592 42949672960 38654705664 0 0 t372 t373 t374 false _ A3.out).mono ?_);rintro e w46 ⟨rfl,hb⟩;refine⟨_,rfl,?_⟩;have n0_:=Aside0.mk (blk_below (g:=gb361) (o:=.cells #[.int .i64 4294967296,.int .i64 4294967296,.int .i64 4294967296,.int .i64 8589934592,.int .i64 42949672960] 24 (0,0)) (by (with_reducible repeat (first|refine blk_drewN ?_ _|refine blk_drew ?_|refine blk_alloc ?_ _));refine blk_far ?_ NB361_371.out _;(with_reducible repeat (first|refine blk_drewN ?_ _|refine blk_drew ?_|refine blk_alloc ?_ _));refine blk_far ?_ NB361_371.out _;(with_reducible repeat (first|refine blk_drewN ?_ _|refine blk_drew ?_|refine blk_alloc ?_ _));refine blk_far ?_ NB361_371.out _;(with_reducible repeat (first|refine blk_drewN ?_ _|refine blk_drew ?_|refine blk_alloc ?_ _));exact BK361.out) hb);have n1_:=Aside0.mk (blk_below (g:=gb366) (o:=.cells #[.int .i64 t362,.int .i64 t363,.int .i64 t364] 22 (0,0)) (by (with_reducible repeat (first|refine blk_drewN ?_ _|refine blk_drew ?_|refine blk_alloc ?_ _));refine blk_far ?_ NB366_371.out _;(with_reducible repeat (first|refine blk_drewN ?_ _|refine blk_drew ?_|refine blk_alloc ?_ _));refine blk_far ?_ NB366_371.out _;(with_reducible repeat (first|refine blk_drewN ?_ _|refine blk_drew ?_|refine blk_alloc ?_ _));refine blk_far ?_ NB366_371.out _;(with_reducible repeat (first|refine blk_drewN ?_ _|refine blk_drew ?_|refine blk_alloc ?_ _));exact BK366.out) hb);have n2_:=Aside0.mk (blk_below (g:=gb371) (o:=.cells #[.int .i64 t367,.int .i64 t368,.int .i64 t369] 22 (0,0)) (by (with_reducible repeat (first|refine blk_drewN ?_ _|refine blk_drew ?_|refine blk_alloc ?_ _));refine blk_put (cs:=#[.int .i64 t367,.int .i64 t368,.int .i64 0]) ?_ 2 _ rfl;(with_reducible repeat (first|refine blk_drewN ?_ _|refine blk_drew ?_|refine blk_alloc ?_ _));refine blk_put (cs:=#[.int .i64 t367,.int .i64 0,.int .i64 0]) ?_ 1 _ rfl;(with_reducible repeat (first|refine blk_drewN ?_ _|refine blk_drew ?_|refine blk_alloc ?_ _));refine blk_put (cs:=#[.int .i64 0,.int .i64 0,.int .i64 0]) ?_ 0 _ rfl;(with_reducible repeat (first|refine blk_drewN ?_ _|refine blk_drew ?_|refine blk_alloc ?_ _));exact BK371.out) hb);have n3_:=Aside0.mk (below_step (by repeat (first|(with_reducible first|exact HB.out|apply below_alloc|apply pw_below_drewN|apply below_drew1|refine below_set ?_ GE361.out|refine below_set ?_ GE366.out|refine below_set ?_ GE371.out)|exact HB.out)) hb);clear BK361;clear BK366;clear BK371;clear HB;have BK361:=n0_;have BK366:=n1_;have BK371:=n2_;have HB:=n3_;clear n0_ n1_ n2_ n3_;(try clear hb);(try clear hb2);(try clear hk);(try clear hi))|((with_reducible refine gate_dst (N:=6) rfl ?_);(try (refine gate_guard (by rfl) ?_;dsimp only));refine box_event ?hg (N:=6) ?hd (cs:=#[.int .i64 0,.int .i64 0,.int .i64 0]) (t:=22) ?hr ?_;(case hd=>rfl);(case hg=>rfl);(case hr=>first|(go_simp;done)|(go_simp;rfl));intro gb376 hg w47 hbox hb;have n0_:=Aside0.mk (blk_below (g:=gb361) (o:=.cells #[.int .i64 4294967296,.int .i64 4294967296,.int .i64 4294967296,.int .i64 8589934592,.int .i64 42949672960] 24 (0,0)) (by (with_reducible repeat (first|refine blk_drewN ?_ _|refine blk_drew ?_|refine blk_alloc ?_ _));exact BK361.out) hb);have n1_:=Aside0.mk (blk_below (g:=gb366) (o:=.cells #[.int .i64 t362,.int .i64 t363,.int .i64 t364] 22 (0,0)) (by (with_reducible repeat (first|refine blk_drewN ?_ _|refine blk_drew ?_|refine blk_alloc ?_ _));exact BK366.out) hb);have n2_:=Aside0.mk (blk_below (g:=gb371) (o:=.cells #[.int .i64 t367,.int .i64 t368,.int .i64 t369] 22 (0,0)) (by (with_reducible repeat (first|refine blk_drewN ?_ _|refine blk_drew ?_|refine blk_alloc ?_ _));exact BK371.out) hb);have n3_:=Aside0.mk (below_step (by repeat (first|(with_reducible first|exact HB.out|apply below_alloc|apply pw_below_drewN|apply below_drew1|refine below_set ?_ GE361.out|refine below_set ?_ GE366.out|refine below_set ?_ GE371.out)|exact HB.out)) hb);have n4_:=Aside0.mk (hbox);have n5_:=Aside0.mk ((by rw [hg];exact(below_size (by repeat (first|(with_reducible first|exact HB.out|apply below_alloc|apply pw_below_drewN|apply below_drew1|refine below_set ?_ GE361.out|refine below_set ?_ GE366.out|refine below_set ?_ GE371.out)|exact HB.out))):w.heap.size≤gb376));have n6_:=Aside0.mk ((by rw [hg];exact(below_size (by repeat (first|(with_reducible first|exact HB.out|apply below_alloc|apply pw_below_drewN|apply below_drew1|refine below_set ?_ GE361.out|refine below_set ?_ GE366.out|refine below_set ?_ GE371.out)|exact HB.out))):w.heap.size≤gb376));have n7_:=Aside0.mk ((by rw [hg];exact Nat.ne_of_lt (blk_lt (g:=gb361) (o:=.cells #[.int .i64 4294967296,.int .i64 4294967296,.int .i64 4294967296,.int .i64 8589934592,.int .i64 42949672960] 24 (0,0)) (by (with_reducible repeat (first|refine blk_drewN ?_ _|refine blk_drew ?_|refine blk_alloc ?_ _));exact BK361.out)):gb361≠gb376));have n8_:=Aside0.mk ((by rw [hg];exact Nat.ne_of_gt (blk_lt (g:=gb361) (o:=.cells #[.int .i64 4294967296,.int .i64 4294967296,.int .i64 4294967296,.int .i64 8589934592,.int .i64 42949672960] 24 (0,0)) (by (with_reducible repeat (first|refine blk_drewN ?_ _|refine blk_drew ?_|refine blk_alloc ?_ _));exact BK361.out)):gb376≠gb361));have n9_:=Aside0.mk ((by rw [hg];exact Nat.ne_of_lt (blk_lt (g:=gb366) (o:=.cells #[.int .i64 t362,.int .i64 t363,.int .i64 t364] 22 (0,0)) (by (with_reducible repeat (first|refine blk_drewN ?_ _|refine blk_drew ?_|refine blk_alloc ?_ _));exact BK366.out)):gb366≠gb376));have n10_:=Aside0.mk ((by rw [hg];exact Nat.ne_of_gt (blk_lt (g:=gb366) (o:=.cells #[.int .i64 t362,.int .i64 t363,.int .i64 t364] 22 (0,0)) (by (with_reducible repeat (first|refine blk_drewN ?_ _|refine blk_drew ?_|refine blk_alloc ?_ _));exact BK366.out)):gb376≠gb366));have n11_:=Aside0.mk ((by rw [hg];exact Nat.ne_of_lt (blk_lt (g:=gb371) (o:=.cells #[.int .i64 t367,.int .i64 t368,.int .i64 t369] 22 (0,0)) (by (with_reducible repeat (first|refine blk_drewN ?_ _|refine blk_drew ?_|refine blk_alloc ?_ _));exact BK371.out)):gb371≠gb376));have n12_:=Aside0.mk ((by rw [hg];exact Nat.ne_of_gt (blk_lt (g:=gb371) (o:=.cells #[.int .i64 t367,.int .i64 t368,.int .i64 t369] 22 (0,0)) (by (with_reducible repeat (first|refine blk_drewN ?_ _|refine blk_drew ?_|refine blk_alloc ?_ _));exact BK371.out)):gb376≠gb371));clear BK361;clear BK366;clear BK371;clear HB;have BK361:=n0_;have BK366:=n1_;have BK371:=n2_;have HB:=n3_;have BK376:=n4_;have GW376:=n5_;have GE376:=n6_;have NB361_376:=n7_;have NB376_361:=n8_;have NB366_376:=n9_;have NB376_366:=n10_;have NB371_376:=n11_;have NB376_371:=n12_;clear n0_ n1_ n2_ n3_ n4_ n5_ n6_ n7_ n8_ n9_ n10_ n11_ n12_;clear hb hbox hg;have hnb48:=NB376_361.out;have hnc48:=NB361_376.out;have hnb49:=NB376_366.out;have hnc49:=NB366_376.out;have hnb50:=NB376_371.out;have hnc50:=NB371_376.out;have hcz51_0:w47.cell? ⟨gb376,0,none⟩=some (.int .i64 0):=(blk_cell BK376.out 0).trans rfl;have hcz51_1:w47.cell? ⟨gb376,1,none⟩=some (.int .i64 0):=(blk_cell BK376.out 1).trans rfl;have hcz51_2:w47.cell? ⟨gb376,2,none⟩=some (.int .i64 0):=(blk_cell BK376.out 2).trans rfl;have hfz51_0:=blk_frozen BK376.out 0;have hfz51_1:=blk_frozen BK376.out 1;have hfz51_2:=blk_frozen BK376.out 2;have hcz52_0:w47.cell? ⟨gb366,0,none⟩=some (.int .i64 t362):=(blk_cell BK366.out 0).trans rfl;have hcz52_1:w47.cell? ⟨gb366,1,none⟩=some (.int .i64 t363):=(blk_cell BK366.out 1).trans rfl;have hcz52_2:w47.cell? ⟨gb366,2,none⟩=some (.int .i64 t364):=(blk_cell BK366.out 2).trans rfl;have hfz52_0:=blk_frozen BK366.out 0;have hfz52_1:=blk_frozen BK366.out 1;have hfz52_2:=blk_frozen BK366.out 2;have hcz53_0:w47.cell? ⟨gb371,0,none⟩=some (.int .i64 t367):=(blk_cell BK371.out 0).trans rfl;have hcz53_1:w47.cell? ⟨gb371,1,none⟩=some (.int .i64 t368):=(blk_cell BK371.out 1).trans rfl;have hcz53_2:w47.cell? ⟨gb371,2,none⟩=some (.int .i64 t369):=(blk_cell BK371.out 2).trans rfl;have hfz53_0:=blk_frozen BK371.out 0;have hfz53_1:=blk_frozen BK371.out 1;have hfz53_2:=blk_frozen BK371.out 2;have hcz54_0:w47.cell? ⟨gb361,0,none⟩=some (.int .i64 4294967296):=(blk_cell BK361.out 0).trans rfl;have hcz54_1:w47.cell? ⟨gb361,1,none⟩=some (.int .i64 4294967296):=(blk_cell BK361.out 1).trans rfl;have hcz54_2:w47.cell? ⟨gb361,2,none⟩=some (.int .i64 4294967296):=(blk_cell BK361.out 2).trans rfl;have hcz54_3:w47.cell? ⟨gb361,3,none⟩=some (.int .i64 8589934592):=(blk_cell BK361.out 3).trans rfl;have hcz54_4:w47.cell? ⟨gb361,4,none⟩=some (.int .i64 42949672960):=(blk_cell BK361.out 4).trans rfl;have hfz54_0:=blk_frozen BK361.out 0;have hfz54_1:=blk_frozen BK361.out 1;have hfz54_2:=blk_frozen BK361.out 2;have hfz54_3:=blk_frozen BK361.out 3;have hfz54_4:=blk_frozen BK361.out 4)|(go_at_call 13;(with_reducible refine(sense_Sane.calls k 4294967296 4294967296 4294967296 8589934592 42949672960 true _ A30.out).mono ?_);rintro e w55 ⟨rfl,hb⟩;have n0_:=Aside0.mk (blk_below (g:=gb361) (o:=.cells #[.int .i64 4294967296,.int .i64 4294967296,.int .i64 4294967296,.int .i64 8589934592,.int .i64 42949672960] 24 (0,0)) (by (with_reducible repeat (first|refine blk_drewN ?_ _|refine blk_drew ?_|refine blk_alloc ?_ _));refine blk_far ?_ NB361_376.out _;(with_reducible repeat (first|refine blk_drewN ?_ _|refine blk_drew ?_|refine blk_alloc ?_ _));refine blk_far ?_ NB361_376.out _;(with_reducible repeat (first|refine blk_drewN ?_ _|refine blk_drew ?_|refine blk_alloc ?_ _));refine blk_far ?_ NB361_376.out _;(with_reducible repeat (first|refine blk_drewN ?_ _|refine blk_drew ?_|refine blk_alloc ?_ _));exact BK361.out) hb);have n1_:=Aside0.mk (blk_below (g:=gb366) (o:=.cells #[.int .i64 t362,.int .i64 t363,.int .i64 t364] 22 (0,0)) (by (with_reducible repeat (first|refine blk_drewN ?_ _|refine blk_drew ?_|refine blk_alloc ?_ _));refine blk_far ?_ NB366_376.out _;(with_reducible repeat (first|refine blk_drewN ?_ _|refine blk_drew ?_|refine blk_alloc ?_ _));refine blk_far ?_ NB366_376.out _;(with_reducible repeat (first|refine blk_drewN ?_ _|refine blk_drew ?_|refine blk_alloc ?_ _));refine blk_far ?_ NB366_376.out _;(with_reducible repeat (first|refine blk_drewN ?_ _|refine blk_drew ?_|refine blk_alloc ?_ _));exact BK366.out) hb);have n2_:=Aside0.mk (blk_below (g:=gb371) (o:=.cells #[.int .i64 t367,.int .i64 t368,.int .i64 t369] 22 (0,0)) (by (with_reducible repeat (first|refine blk_drewN ?_ _|refine blk_drew ?_|refine blk_alloc ?_ _));refine blk_far ?_ NB371_376.out _;(with_reducible repeat (first|refine blk_drewN ?_ _|refine blk_drew ?_|refine blk_alloc ?_ _));refine blk_far ?_ NB371_376.out _;(with_reducible repeat (first|refine blk_drewN ?_ _|refine blk_drew ?_|refine blk_alloc ?_ _));refine blk_far ?_ NB371_376.out _;(with_reducible repeat (first|refine blk_drewN ?_ _|refine blk_drew ?_|refine blk_alloc ?_ _));exact BK371.out) hb);have n3_:=Aside0.mk (blk_below (g:=gb376) (o:=.cells #[.int .i64 t372,.int .i64 t373,.int .i64 t374] 22 (0,0)) (by (with_reducible repeat (first|refine blk_drewN ?_ _|refine blk_drew ?_|refine blk_alloc ?_ _));refine blk_put (cs:=#[.int .i64 t372,.int .i64 t373,.int .i64 0]) ?_ 2 _ rfl;(with_reducible repeat (first|refine blk_drewN ?_ _|refine blk_drew ?_|refine blk_alloc ?_ _));refine blk_put (cs:=#[.int .i64 t372,.int .i64 0,.int .i64 0]) ?_ 1 _ rfl;(with_reducible repeat (first|refine blk_drewN ?_ _|refine blk_drew ?_|refine blk_alloc ?_ _));refine blk_put (cs:=#[.int .i64 0,.int .i64 0,.int .i64 0]) ?_ 0 _ rfl;(with_reducible repeat (first|refine blk_drewN ?_ _|refine blk_drew ?_|refine blk_alloc ?_ _));exact BK376.out) hb);have n4_:=Aside0.mk (below_step (by repeat (first|(with_reducible first|exact HB.out|apply below_alloc|apply pw_below_drewN|apply below_drew1|refine below_set ?_ GE361.out|refine below_set ?_ GE366.out|refine below_set ?_ GE371.out|refine below_set ?_ GE376.out)|exact HB.out)) hb);clear BK361;clear BK366;clear BK371;clear BK376;clear HB;have BK361:=n0_;have BK366:=n1_;have BK371:=n2_;have BK376:=n3_;have HB:=n4_;clear n0_ n1_ n2_ n3_ n4_;(try clear hb);(try clear hb2);(try clear hk);(try clear hi);have hcz56_0:w55.cell? ⟨gb361,0,none⟩=some (.int .i64 4294967296):=(blk_cell BK361.out 0).trans rfl;have hcz56_1:w55.cell? ⟨gb361,1,none⟩=some (.int .i64 4294967296):=(blk_cell BK361.out 1).trans rfl;have hcz56_2:w55.cell? ⟨gb361,2,none⟩=some (.int .i64 4294967296):=(blk_cell BK361.out 2).trans rfl;have hcz56_3:w55.cell? ⟨gb361,3,none⟩=some (.int .i64 8589934592):=(blk_cell BK361.out 3).trans rfl;have hcz56_4:w55.cell? ⟨gb361,4,none⟩=some (.int .i64 42949672960):=(blk_cell BK361.out 4).trans rfl;have hfz56_0:=blk_frozen BK361.out 0;have hfz56_1:=blk_frozen BK361.out 1;have hfz56_2:=blk_frozen BK361.out 2;have hfz56_3:=blk_frozen BK361.out 3;have hfz56_4:=blk_frozen BK361.out 4)|((with_reducible refine gate_dst (N:=53) rfl ?_);(try (refine gate_guard (by rfl) ?_;dsimp only));refine Kd.R_lit k22 _ 22 ?hg (N:=53) ?hd (xs:=([(⟨2,4,6⟩:S22)]:List (S22))) (inner:=[.int .i64 2,.int .i64 4,.int .i64 6]) (ok:=fun _=>True) (okp:=fun _=>True) ?hr ?hp (fun _ hk=>hk) trivial (Below.refl _ _) (Nat.le_refl _) (by simp) ?_;(case hd=>rfl);(case hg=>rfl);(case hr=>first|(go_simp;done)|(go_simp;rfl));(case hp=>exact(Reps.c3 (show Kd.M k22 _ _ _ (⟨2,4,6⟩:S22) [.int .i64 2,.int .i64 4,.int .i64 6] from (k22_mkM _ _ _ (⟨2,4,6⟩:S22) )) (Reps.none _ _)));intro v379 w57 ho58 hb hg_ hnew_;clear hg_ hnew_;(first|rw [←Ny378.out] at ho58|(simp only [Int.reduceToNat] at ho58;rw [←Ny378.out] at ho58));have n0_:=Aside0.mk (Kd.R_lower (Kd.R_newB (Kd.R_newB (Kd.R_newB ho58 (g:=gb366) (o:=.cells #[.int .i64 t362,.int .i64 t363,.int .i64 t364] 22 (0,0)) (by (with_reducible repeat (first|refine blk_drewN ?_ _|refine blk_drew ?_|refine blk_alloc ?_ _));exact BK366.out)) (g:=gb371) (o:=.cells #[.int .i64 t367,.int .i64 t368,.int .i64 t369] 22 (0,0)) (by (with_reducible repeat (first|refine blk_drewN ?_ _|refine blk_drew ?_|refine blk_alloc ?_ _));exact BK371.out)) (g:=gb376) (o:=.cells #[.int .i64 t372,.int .i64 t373,.int .i64 t374] 22 (0,0)) (by (with_reducible repeat (first|refine blk_drewN ?_ _|refine blk_drew ?_|refine blk_alloc ?_ _));exact BK376.out)) (below_size (by repeat (first|(with_reducible first|exact HB.out|apply below_alloc|apply pw_below_drewN|apply below_drew1|refine below_set ?_ GE361.out|refine below_set ?_ GE366.out|refine below_set ?_ GE371.out|refine below_set ?_ GE376.out)|exact HB.out))));have n1_:=Aside0.mk (blk_below (g:=gb361) (o:=.cells #[.int .i64 4294967296,.int .i64 4294967296,.int .i64 4294967296,.int .i64 8589934592,.int .i64 42949672960] 24 (0,0)) (by (with_reducible repeat (first|refine blk_drewN ?_ _|refine blk_drew ?_|refine blk_alloc ?_ _));exact BK361.out) hb);have n2_:=Aside0.mk (blk_below (g:=gb366) (o:=.cells #[.int .i64 t362,.int .i64 t363,.int .i64 t364] 22 (0,0)) (by (with_reducible repeat (first|refine blk_drewN ?_ _|refine blk_drew ?_|refine blk_alloc ?_ _));exact BK366.out) hb);have n3_:=Aside0.mk (blk_below (g:=gb371) (o:=.cells #[.int .i64 t367,.int .i64 t368,.int .i64 t369] 22 (0,0)) (by (with_reducible repeat (first|refine blk_drewN ?_ _|refine blk_drew ?_|refine blk_alloc ?_ _));exact BK371.out) hb);have n4_:=Aside0.mk (blk_below (g:=gb376) (o:=.cells #[.int .i64 t372,.int .i64 t373,.int .i64 t374] 22 (0,0)) (by (with_reducible repeat (first|refine blk_drewN ?_ _|refine blk_drew ?_|refine blk_alloc ?_ _));exact BK376.out) hb);have n5_:=Aside0.mk (below_step (by repeat (first|(with_reducible first|exact HB.out|apply below_alloc|apply pw_below_drewN|apply below_drew1|refine below_set ?_ GE361.out|refine below_set ?_ GE366.out|refine below_set ?_ GE371.out|refine below_set ?_ GE376.out)|exact HB.out)) hb);clear BK361;clear BK366;clear BK371;clear BK376;clear HB;have HO380:=n0_;have BK361:=n1_;have BK366:=n2_;have BK371:=n3_;have BK376:=n4_;have HB:=n5_;clear n0_ n1_ n2_ n3_ n4_ n5_;clear hb ho58;obtain⟨Ao59,co59,eo59⟩:=Kd.R_slice HO380.out;subst eo59)|(go_at_call 15;(with_reducible refine(sense_Learn.calls k 4294967296 4294967296 4294967296 8589934592 42949672960 _ _ y378 t381 t382 t383 t384 t385 _ ?side1 ?side2 A32.out).mono ?_);(case side1=>repeat (first|exact(Kd.R_reads' HO380.out).2.2|(with_reducible refine Kd.C_alloc ?_ _)|(with_reducible refine Kd.C_drewN ?_ _)|(with_reducible refine Kd.C_drew ?_)));(case side2=>exact(Kd.R_reads' HO380.out).2.1);rintro e w60 ⟨rfl,hb⟩;have n0_:=Aside0.mk (Kd.R_below (by (with_reducible repeat (first|apply Kd.R_alloc|apply Kd.R_drewN|apply Kd.R_drew));exact HO380.out) hb);have n1_:=Aside0.mk (blk_below (g:=gb361) (o:=.cells #[.int .i64 4294967296,.int .i64 4294967296,.int .i64 4294967296,.int .i64 8589934592,.int .i64 42949672960] 24 (0,0)) (by (with_reducible repeat (first|refine blk_drewN ?_ _|refine blk_drew ?_|refine blk_alloc ?_ _));exact BK361.out) hb);have n2_:=Aside0.mk (blk_below (g:=gb366) (o:=.cells #[.int .i64 t362,.int .i64 t363,.int .i64 t364] 22 (0,0)) (by (with_reducible repeat (first|refine blk_drewN ?_ _|refine blk_drew ?_|refine blk_alloc ?_ _));exact BK366.out) hb);have n3_:=Aside0.mk (blk_below (g:=gb371) (o:=.cells #[.int .i64 t367,.int .i64 t368,.int .i64 t369] 22 (0,0)) (by (with_reducible repeat (first|refine blk_drewN ?_ _|refine blk_drew ?_|refine blk_alloc ?_ _));exact BK371.out) hb);have n4_:=Aside0.mk (blk_below (g:=gb376) (o:=.cells #[.int .i64 t372,.int .i64 t373,.int .i64 t374] 22 (0,0)) (by (with_reducible repeat (first|refine blk_drewN ?_ _|refine blk_drew ?_|refine blk_alloc ?_ _));exact BK376.out) hb);have n5_:=Aside0.mk (below_step (by repeat (first|(with_reducible first|exact HB.out|apply below_alloc|apply pw_below_drewN|apply below_drew1|refine below_set ?_ GE361.out|refine below_set ?_ GE366.out|refine below_set ?_ GE371.out|refine below_set ?_ GE376.out)|exact HB.out)) hb);clear HO380;clear BK361;clear BK366;clear BK371;clear BK376;clear HB;have HO380:=n0_;have BK361:=n1_;have BK366:=n2_;have BK371:=n3_;have BK376:=n4_;have HB:=n5_;clear n0_ n1_ n2_ n3_ n4_ n5_;(try clear hb);(try clear hb2);(try clear hk);(try clear hi)))
       go_ret
       exact⟨by first|rfl|(simp [errW_none,errW_some]<;>rfl)|(simp [*,errW_none,errW_some]<;>rfl),by repeat (first|(with_reducible first|exact HB.out|apply below_alloc|apply pw_below_drewN|apply below_drew1|refine below_set ?_ GE361.out|refine below_set ?_ GE366.out|refine below_set ?_ GE371.out|refine below_set ?_ GE376.out)|exact HB.out)⟩
      ·replace c31:=Bool.eq_false_iff.mpr c31
       subst c31
       have H1:(some false)=some r:=by rw [if_neg (show ¬(false=true) by decide)] at H;exact H
       clear H
       have H:=H1
       clear H1
       exact absurd ((Option.some.inj H).trans hr.out) (by decide)
    ·rw [if_neg c7] at H
     have c7b0:(t367 == 12884901888 && (t368 == 17179869184 && (t369 == 21474836480)))=false:=by simpa using c7
     (try (have c7b1:decide (t367=12884901888 && (t368 == 17179869184 && (t369 == 21474836480)))=false:=by simpa using c7))
     (try (have c7b2:(t367 == 12884901888 && (t368 == 17179869184 && (t369 == 21474836480)))=false:=by simpa using c7))
     (try (have c7b3:¬(t367=12884901888 && (t368 == 17179869184 && (t369 == 21474836480))):=by simpa using c7))
     clear c7
     exact absurd ((Option.some.inj H).trans hr.out) (by decide)
   ·replace c6:=Bool.eq_false_iff.mpr c6
    subst c6
    have H1:(some false)=some r:=by rw [if_neg (show ¬(false=true) by decide)] at H;exact H
    clear H
    have H:=H1
    clear H1
    exact absurd ((Option.some.inj H).trans hr.out) (by decide)
  ·rw [if_neg c5] at H
   have c5b0:(t362 == 17179869184 && (t363 == 25769803776 && (t364 == 34359738368)))=false:=by simpa using c5
   (try (have c5b1:decide (t362=17179869184 && (t363 == 25769803776 && (t364 == 34359738368)))=false:=by simpa using c5))
   (try (have c5b2:(t362 == 17179869184 && (t363 == 25769803776 && (t364 == 34359738368)))=false:=by simpa using c5))
   (try (have c5b3:¬(t362=17179869184 && (t363 == 25769803776 && (t364 == 34359738368))):=by simpa using c5))
   clear c5
   exact absurd ((Option.some.inj H).trans hr.out) (by decide)
 ·replace c4:=Bool.eq_false_iff.mpr c4
  subst c4
  have H1:(some false)=some r:=by rw [if_neg (show ¬(false=true) by decide)] at H;exact H
  clear H
  have H:=H1
  clear H1
  exact absurd ((Option.some.inj H).trans hr.out) (by decide)
theorem outriggerlaw18_awake.known:outriggerlaw18_awake.f 200=some true:=by decide +kernel
theorem outriggerlaw18_awake.tells {k:Nat} {r:Bool} (h:outriggerlaw18_awake.f k=some r):r=true:=by
 have h1:=at_rounds outriggerlaw18_awake.mono (Nat.le_max_left k 200) h
 have h2:=at_rounds outriggerlaw18_awake.mono (Nat.le_max_right k 200) outriggerlaw18_awake.known
 exact Option.some.inj (h1.symm.trans h2)
theorem outriggerlaw18_awake.calls (k:Nat) (r:Bool) (w:World) (h:outriggerlaw18_awake.f k=some r) :
  Calls Try.prog 8 #[] w fun e w'=>e=.returned (.bool r)∧Below w.heap.size w w':=outriggerlaw18_awake.calls1 k r w h ⟨outriggerlaw18_awake.tells h⟩
end Go.Proofs.Ytonfobdknnlbjaa.B
end
section
namespace Go.Proofs.Ytonfobdknnlbjaa.Num
open Go Go.RowKit
theorem w64 {n:Int} (h0:-9223372036854775808≤n) (h1:n≤9223372036854775807):wrap64 n=n:=by
 unfold wrap64
 omega
theorem band64 (x:Int) (i:Nat) (hi:i≤62):Go.bits .and .i64 x (2^i-1)=x%2^i:=by
 have hp:(2:Nat)^i≤2^62:=Nat.pow_le_pow_right (by decide) hi
 have hpos:0<(2:Nat)^i:=Nat.two_pow_pos i
 have hc:((2:Int)^i-1)=((2^i-1:Nat):Int):=by
  rw [Int.natCast_sub hpos];simp
 have hm:(2^i-1:Nat)<2^64:=by omega
 have hxm:x%2^i=((x%18446744073709551616).toNat%2^i:Nat):=by
  have h0:0≤x%18446744073709551616:=Int.emod_nonneg _ (by decide)
  rw [Int.natCast_emod,Int.toNat_of_nonneg h0,Int.natCast_pow]
  have hd:((2:Int)^i)∣18446744073709551616:=⟨2^(64-i),by rw [←Int.pow_add];rw [show i+(64-i)=64 by omega];rfl⟩
  exact(Int.emod_emod_of_dvd x hd).symm
 have hb:(BitVec.ofInt 64 x &&& BitVec.ofInt 64 ((2^i-1:Nat):Int)).toNat=(x%18446744073709551616).toNat%2^i:=by
  rw [BitVec.toNat_and,BitVec.toNat_ofInt,BitVec.ofInt_natCast,BitVec.toNat_ofNat,Nat.mod_eq_of_lt hm,Nat.and_two_pow_sub_one_eq_mod]
  rfl
 have hlt:(x%18446744073709551616).toNat%2^i<2^i:=Nat.mod_lt _ hpos
 rw [hc]
 show IntKind.wrap .i64 ((BitVec.ofInt 64 x &&& BitVec.ofInt 64 ((2^i-1:Nat):Int)).toNat:Int)=_
 rw [hb,hxm,IntKind.wrap_i64]
 omega
theorem wu64 {n:Int} (h0:0≤n) (h1:n<18446744073709551616):IntKind.u64.wrap n=n:=by
 simp only [IntKind.wrap,IntKind.bits,IntKind.signed]
 simp
 omega
theorem u64_wrap (n:Int):IntKind.u64.wrap n=n%18446744073709551616:=by
 simp [IntKind.wrap,IntKind.bits,IntKind.signed]
theorem i64_wrap (n:Int):IntKind.i64.wrap n=wrap64 n:=by
 rw [IntKind.wrap_i64]
 unfold wrap64
 omega
theorem bandu64 (x:Int) (i:Nat) (hi:i≤63):Go.bits .and .u64 x (2^i-1)=x%2^i:=by
 have hp:(2:Nat)^i≤2^63:=Nat.pow_le_pow_right (by decide) hi
 have hpos:0<(2:Nat)^i:=Nat.two_pow_pos i
 have hc:((2:Int)^i-1)=((2^i-1:Nat):Int):=by
  rw [Int.natCast_sub hpos];simp
 have hm:(2^i-1:Nat)<2^64:=by omega
 have hxm:x%2^i=((x%18446744073709551616).toNat%2^i:Nat):=by
  have h0:0≤x%18446744073709551616:=Int.emod_nonneg _ (by decide)
  rw [Int.natCast_emod,Int.toNat_of_nonneg h0,Int.natCast_pow]
  have hd:((2:Int)^i)∣18446744073709551616:=⟨2^(64-i),by rw [←Int.pow_add];rw [show i+(64-i)=64 by omega];rfl⟩
  exact(Int.emod_emod_of_dvd x hd).symm
 have hb:(BitVec.ofInt 64 x &&& BitVec.ofInt 64 ((2^i-1:Nat):Int)).toNat=(x%18446744073709551616).toNat%2^i:=by
  rw [BitVec.toNat_and,BitVec.toNat_ofInt,BitVec.ofInt_natCast,BitVec.toNat_ofNat,Nat.mod_eq_of_lt hm,Nat.and_two_pow_sub_one_eq_mod]
  rfl
 have hlt:(x%18446744073709551616).toNat%2^i<2^i:=Nat.mod_lt _ hpos
 rw [hc]
 show IntKind.wrap .u64 ((BitVec.ofInt 64 x &&& BitVec.ofInt 64 ((2^i-1:Nat):Int)).toNat:Int)=_
 rw [hb,hxm,u64_wrap]
 omega
theorem or_nat (x y:Int) (j:Nat) (hj:j≤63) (hx:x%2^j=0) (hy0:0≤y) (hy1:y<2^j) :
  ∃ m:Int,((BitVec.ofInt 64 x ||| BitVec.ofInt 64 y).toNat:Int)=x+y+18446744073709551616*m:=by
 obtain⟨b,rfl⟩:=Int.eq_ofNat_of_zero_le hy0
 have hb:b<2^j:=by exact_mod_cast hy1
 have hp:(2:Nat)^j≤2^63:=Nat.pow_le_pow_right (by decide) hj
 have hpos:(0:Int)<2^j:=Int.pow_pos (by decide)
 have h0:0≤x%18446744073709551616:=Int.emod_nonneg _ (by decide)
 have hd:((2:Int)^j)∣18446744073709551616:=⟨2^(64-j),by rw [←Int.pow_add];rw [show j+(64-j)=64 by omega];rfl⟩
 have hz:(x%18446744073709551616)%2^j=0:=by rw [Int.emod_emod_of_dvd x hd];exact hx
 have hq:(x%18446744073709551616).toNat=2^j*((x%18446744073709551616).toNat/2^j):=by
  have h1:(x%18446744073709551616).toNat%2^j=0:=by
   have:(((x%18446744073709551616).toNat%2^j:Nat):Int)=0:=by
    rw [Int.natCast_emod,Int.toNat_of_nonneg h0,Int.natCast_pow];exact hz
   exact Int.natCast_eq_zero.mp this
  have:=Nat.div_add_mod (x%18446744073709551616).toNat (2^j)
  omega
 refine⟨- (x/18446744073709551616),?_⟩
 rw [BitVec.toNat_or,BitVec.toNat_ofInt,BitVec.ofInt_natCast,BitVec.toNat_ofNat,Nat.mod_eq_of_lt (show b<2^64 by omega)]
 have hs:(x%((2^64:Nat):Int)).toNat=(x%18446744073709551616).toNat:=rfl
 rw [hs,hq,←Nat.two_pow_add_eq_or_of_lt hb,←hq,Int.natCast_add,Int.toNat_of_nonneg h0]
 omega
theorem bor64 (x y:Int) (j:Nat) (hj:j≤63) (hx:x%2^j=0) (hy0:0≤y) (hy1:y<2^j):Go.bits .or .i64 x y=wrap64 (x+y):=by
 obtain⟨m,hm⟩:=or_nat x y j hj hx hy0 hy1
 show IntKind.wrap .i64 ((BitVec.ofInt 64 x ||| BitVec.ofInt 64 y).toNat:Int)=_
 rw [hm,i64_wrap]
 unfold wrap64
 omega
theorem boru64 (x y:Int) (j:Nat) (hj:j≤63) (hx:x%2^j=0) (hy0:0≤y) (hy1:y<2^j):Go.bits .or .u64 x y=(x+y)%18446744073709551616:=by
 obtain⟨m,hm⟩:=or_nat x y j hj hx hy0 hy1
 show IntKind.wrap .u64 ((BitVec.ofInt 64 x ||| BitVec.ofInt 64 y).toNat:Int)=_
 rw [hm,u64_wrap]
 omega
theorem bnot64 (x:Int) (h0:-9223372036854775808≤x) (h1:x≤9223372036854775807):Go.bits .xor .i64 (-1) x=-1-x:=by
 show IntKind.wrap .i64 ((BitVec.ofInt 64 (-1) ^^^ BitVec.ofInt 64 x).toNat:Int)=_
 have h2:BitVec.ofInt 64 (-1)=BitVec.allOnes 64:=by decide
 rw [h2,BitVec.allOnes_xor,BitVec.toNat_not,BitVec.toNat_ofInt,i64_wrap]
 have h3:0≤x%18446744073709551616:=Int.emod_nonneg _ (by decide)
 have h4:(x%((2^64:Nat):Int)).toNat=(x%18446744073709551616).toNat:=rfl
 rw [h4]
 unfold wrap64
 omega
theorem p62:(2:Int)^62=4611686018427387904:=by decide
theorem bandu62 (x:Int):Go.bits .and .u64 x 4611686018427387903=x%4611686018427387904:=by
 have h:=bandu64 x 62 (by decide)
 rw [p62] at h
 exact h
theorem band62 (x:Int):Go.bits .and .i64 x 4611686018427387903=x%4611686018427387904:=by
 have h:=band64 x 62 (by decide)
 rw [p62] at h
 exact h
theorem p32:(2:Int)^32=4294967296:=by decide
theorem bandu32 (x:Int):Go.bits .and .u64 x 4294967295=x%4294967296:=by
 have h:=bandu64 x 32 (by decide)
 rw [p32] at h
 exact h
end Go.Proofs.Ytonfobdknnlbjaa.Num
end
section
namespace Go.Proofs.Ytonfobdknnlbjaa.B
open Go.RowKit Go.Proofs.YtonfobdknnlbjaaW.PrintWords Go.Proofs.YtonfobdknnlbjaaW.PrintLast Go.Proofs.YtonfobdknnlbjaaW.PrintMore
attribute [local go_sem] max2_int min2_int max_two min_two max_three min_three max_four min_four
set_option linter.unusedVariables false
set_option linter.unusedSimpArgs false
attribute [local go_sem high] eqA22
end Go.Proofs.Ytonfobdknnlbjaa.B
end
section
namespace Go.Proofs.Ytonfobdknnlbjaa.B
open Go.RowKit Go.Proofs.YtonfobdknnlbjaaW.PrintWords Go.Proofs.YtonfobdknnlbjaaW.PrintLast Go.Proofs.YtonfobdknnlbjaaW.PrintMore
attribute [local go_sem] max2_int min2_int max_two min_two max_three min_three max_four min_four
set_option linter.unusedVariables false
set_option linter.unusedSimpArgs false
attribute [local go_sem high] eqA22
end Go.Proofs.Ytonfobdknnlbjaa.B
end
section
namespace Go.Proofs.Ytonfobdknnlbjaa.B
open Go.RowKit Go.Proofs.YtonfobdknnlbjaaW.PrintWords Go.Proofs.YtonfobdknnlbjaaW.PrintLast Go.Proofs.YtonfobdknnlbjaaW.PrintMore
attribute [local go_sem] max2_int min2_int max_two min_two max_three min_three max_four min_four
set_option linter.unusedVariables false
set_option linter.unusedSimpArgs false
end Go.Proofs.Ytonfobdknnlbjaa.B
end
section
namespace Go.Proofs.Ytonfobdknnlbjaa.B
open Go.RowKit Go.Proofs.YtonfobdknnlbjaaW.PrintWords Go.Proofs.YtonfobdknnlbjaaW.PrintLast Go.Proofs.YtonfobdknnlbjaaW.PrintMore
attribute [local go_sem] max2_int min2_int max_two min_two max_three min_three max_four min_four
set_option linter.unusedVariables false
set_option linter.unusedSimpArgs false
end Go.Proofs.Ytonfobdknnlbjaa.B
end
section
namespace Go.Proofs.Ytonfobdknnlbjaa.B
open Go.RowKit Go.Proofs.YtonfobdknnlbjaaW.PrintWords Go.Proofs.YtonfobdknnlbjaaW.PrintLast Go.Proofs.YtonfobdknnlbjaaW.PrintMore
attribute [local go_sem] max2_int min2_int max_two min_two max_three min_three max_four min_four
set_option linter.unusedVariables false
set_option linter.unusedSimpArgs false
end Go.Proofs.Ytonfobdknnlbjaa.B
end
section
namespace Go.Proofs.Ytonfobdknnlbjaa.B
open Go.RowKit Go.Proofs.YtonfobdknnlbjaaW.PrintWords Go.Proofs.YtonfobdknnlbjaaW.PrintLast Go.Proofs.YtonfobdknnlbjaaW.PrintMore
attribute [local go_sem] max2_int min2_int max_two min_two max_three min_three max_four min_four
set_option linter.unusedVariables false
set_option linter.unusedSimpArgs false
end Go.Proofs.Ytonfobdknnlbjaa.B
end
section
namespace Go.Proofs.Ytonfobdknnlbjaa.B
open Go.RowKit Go.Proofs.YtonfobdknnlbjaaW.PrintWords Go.Proofs.YtonfobdknnlbjaaW.PrintLast Go.Proofs.YtonfobdknnlbjaaW.PrintMore
attribute [local go_sem] max2_int min2_int max_two min_two max_three min_three max_four min_four
set_option linter.unusedVariables false
set_option linter.unusedSimpArgs false
end Go.Proofs.Ytonfobdknnlbjaa.B
end
section
namespace Go.Proofs.Ytonfobdknnlbjaa.B
open Go.RowKit Go.Proofs.YtonfobdknnlbjaaW.PrintWords Go.Proofs.YtonfobdknnlbjaaW.PrintLast Go.Proofs.YtonfobdknnlbjaaW.PrintMore
attribute [local go_sem] max2_int min2_int max_two min_two max_three min_three max_four min_four
set_option linter.unusedVariables false
set_option linter.unusedSimpArgs false
attribute [local go_sem high] eqA59
end Go.Proofs.Ytonfobdknnlbjaa.B
end
section
namespace Go.Proofs.Ytonfobdknnlbjaa.B
open Go.RowKit Go.Proofs.YtonfobdknnlbjaaW.PrintWords Go.Proofs.YtonfobdknnlbjaaW.PrintLast Go.Proofs.YtonfobdknnlbjaaW.PrintMore
attribute [local go_sem] max2_int min2_int max_two min_two max_three min_three max_four min_four
set_option linter.unusedVariables false
set_option linter.unusedSimpArgs false
end Go.Proofs.Ytonfobdknnlbjaa.B
end
section
namespace Go.Proofs.Ytonfobdknnlbjaa.B
open Go.RowKit Go.Proofs.YtonfobdknnlbjaaW.PrintWords Go.Proofs.YtonfobdknnlbjaaW.PrintLast Go.Proofs.YtonfobdknnlbjaaW.PrintMore
attribute [local go_sem] max2_int min2_int max_two min_two max_three min_three max_four min_four
set_option linter.unusedVariables false
set_option linter.unusedSimpArgs false
end Go.Proofs.Ytonfobdknnlbjaa.B
end
