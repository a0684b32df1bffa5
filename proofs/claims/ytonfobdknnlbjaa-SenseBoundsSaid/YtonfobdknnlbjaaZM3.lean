/- Lemmas of the rows, laid by a program. -/
import Derived.Test.YtonfobdknnlbjaaZM1
import Derived.Test.YtonfobdknnlbjaaZM2
section
namespace Go.Proofs.Ytonfobdknnlbjaa.B
open Go.RowKit Go.Proofs.YtonfobdknnlbjaaW.PrintWords Go.Proofs.YtonfobdknnlbjaaW.PrintLast Go.Proofs.YtonfobdknnlbjaaW.PrintMore
attribute [local go_sem] max2_int min2_int max_two min_two max_three min_three max_four min_four
set_option linter.unusedVariables false
set_option linter.unusedSimpArgs false
def wide_Down.f (a0_0:Int) (a0_1:Int) (a1:Int):Option (Int × Int):=(wide_known.f a0_0 a0_1).bind fun bt169=>(if (mx 0 (mn a1 200)) ≥ 62 then (if 0≤(mn ((mx 0 (mn a1 200))-62) 62) then ((wide_Of.f (bt169.1/2^(mn ((mx 0 (mn a1 200))-62) 62).toNat)).bind fun bt171=>(some (bt171.1,bt171.2))) else (none)) else (if 0≤(62-(mx 0 (mn a1 200))) then (some (shr .i64 bt169.1 (mx 0 (mn a1 200)),Go.bits .and .i64 (Go.bits .or .i64 (wrap64 (bt169.1*2^(62-(mx 0 (mn a1 200))).toNat)) (shr .i64 bt169.2 (mx 0 (mn a1 200)))) 4611686018427387903)) else (none)))
def wide_Down.T5:Bool × List (List Nat × List Nat):=(true,[([],[]),([0],[0]),([],[]),([1,2],[1,2]),([],[]),([4],[4]),([],[]),([6],[6]),([5,7],[5,7]),([],[]),([9],[9]),([],[]),([10,11],[10,11]),([8,12],[8,12]),([13],[13]),([3,14],[3,14]),([15,0,1,2,3,4,5,6,7,8,9,10,11,12,13,14,15],[15])])
def wide_Down.B5:List Nat:=[0,1,0,7,0,16,0,64,240,0,512,0,3584,8176,16368,32767,65535]
theorem wide_Down.tab5:rtab .any (opsOf Try.f78 5)=wide_Down.T5:=by kernel_rfl
theorem wide_Down.bits5:waitsOk wide_Down.T5.2 wide_Down.B5=true:=by kernel_rfl
set_option maxHeartbeats 8000000 in
set_option maxRecDepth 100000 in
theorem wide_Down.calls (a0_0:Int) (a0_1:Int) (a1:Int) (r1:Int) (r2:Int) (w:World) (h:wide_Down.f a0_0 a0_1 a1=some (r1,r2)) :
  Calls Try.prog 78 #[.agg #[.int .i64 a0_0,.int .i64 a0_1],.int .i64 a1] w fun e w'=>e=.returned (.agg #[.int .i64 r1,.int .i64 r2])∧Below w.heap.size w w':=by
 have hu59:=Try.underlying59
 have HB:=Aside0.mk (Below.refl w.heap.size w)
 have H:((wide_known.f a0_0 a0_1).bind fun bt169=>(if (mx 0 (mn a1 200)) ≥ 62 then (if 0≤(mn ((mx 0 (mn a1 200))-62) 62) then ((wide_Of.f (bt169.1/2^(mn ((mx 0 (mn a1 200))-62) 62).toNat)).bind fun bt171=>(some (bt171.1,bt171.2))) else (none)) else (if 0≤(62-(mx 0 (mn a1 200))) then (some (shr .i64 bt169.1 (mx 0 (mn a1 200)),Go.bits .and .i64 (Go.bits .or .i64 (wrap64 (bt169.1*2^(62-(mx 0 (mn a1 200))).toNat)) (shr .i64 bt169.2 (mx 0 (mn a1 200)))) 4611686018427387903)) else (none))))=some (r1,r2):=h
 clear h
 replace H:=Option.bind_eq_some_iff.mp H
 obtain⟨⟨t169,t170⟩,A30,H⟩:=H
 replace H:(if (mx 0 (mn a1 200)) ≥ 62 then (if 0≤(mn ((mx 0 (mn a1 200))-62) 62) then ((wide_Of.f (t169/2^(mn ((mx 0 (mn a1 200))-62) 62).toNat)).bind fun bt171=>(some (bt171.1,bt171.2))) else (none)) else (if 0≤(62-(mx 0 (mn a1 200))) then (some (shr .i64 t169 (mx 0 (mn a1 200)),Go.bits .and .i64 (Go.bits .or .i64 (wrap64 (t169*2^(62-(mx 0 (mn a1 200))).toNat)) (shr .i64 t170 (mx 0 (mn a1 200)))) 4611686018427387903)) else (none)))=some (r1,r2):=H
 have A3:=Aside0.mk A30
 clear A30
 obtain⟨ji4,hji4⟩:∃ j_:Int,(mn a1 200)=j_:=⟨_,rfl⟩
 replace H:(if (mx 0 (ji4)) ≥ 62 then (if 0≤(mn ((mx 0 (ji4))-62) 62) then ((wide_Of.f (t169/2^(mn ((mx 0 (ji4))-62) 62).toNat)).bind fun bt171=>(some (bt171.1,bt171.2))) else (none)) else (if 0≤(62-(mx 0 (ji4))) then (some (shr .i64 t169 (mx 0 (ji4)),Go.bits .and .i64 (Go.bits .or .i64 (wrap64 (t169*2^(62-(mx 0 (ji4))).toNat)) (shr .i64 t170 (mx 0 (ji4)))) 4611686018427387903)) else (none)))=some (r1,r2):=by first|(rw [hji4] at H;exact H)|(simp only [hji4] at H ⊢;exact H)
 (try rw [hji4] at A3)
 (try (have hji4h:ji4≤200:=by (rw [←hji4];unfold mn;(repeat' split)<;>omega)))
 (try (have hji4g:ji4≤64:=by omega))
 have hji4_:(if 200<a1 then 200 else a1)=ji4:=hji4
 obtain⟨ji5,hji5⟩:∃ j_:Int,(mx 0 (ji4))=j_:=⟨_,rfl⟩
 replace H:(if (ji5) ≥ 62 then (if 0≤(mn ((ji5)-62) 62) then ((wide_Of.f (t169/2^(mn ((ji5)-62) 62).toNat)).bind fun bt171=>(some (bt171.1,bt171.2))) else (none)) else (if 0≤(62-(ji5)) then (some (shr .i64 t169 (ji5),Go.bits .and .i64 (Go.bits .or .i64 (wrap64 (t169*2^(62-(ji5)).toNat)) (shr .i64 t170 (ji5))) 4611686018427387903)) else (none)))=some (r1,r2):=by first|(rw [hji5] at H;exact H)|(simp only [hji5] at H ⊢;exact H)
 (try rw [hji5] at A3)
 have hji5_:(if 0<(ji4) then (ji4) else 0)=ji5:=hji5
 have q0:0≤ji5:=by (rw [←hji5];unfold mx;split<;>omega)
 by_cases c6:(ji5) ≥ 62
 ·rw [if_pos c6] at H
  have c6b0:decide (62≤(ji5))=true:=decide_eq_true c6
  clear c6
  obtain⟨ji7,hji7⟩:∃ j_:Int,(mn ((ji5)-62) 62)=j_:=⟨_,rfl⟩
  replace H:(if 0≤(ji7) then ((wide_Of.f (t169/2^(ji7).toNat)).bind fun bt171=>(some (bt171.1,bt171.2))) else (none))=some (r1,r2):=by first|(rw [hji7] at H;exact H)|(simp only [hji7] at H ⊢;exact H)
  (try rw [hji7] at A3)
  have hji7_:(if 62<((ji5)-62) then 62 else ((ji5)-62))=ji7:=hji7
  have hji7h:ji7≤62:=by (rw [←hji7];unfold mn;(repeat' split)<;>omega)
  have hji7g:ji7≤64:=by omega
  by_cases c8:0≤(ji7)
  ·rw [if_pos c8] at H
   have c8b0:=eq_true c8
   have c8b1:decide (0≤(ji7))=true:=decide_eq_true c8
   clear c8
   replace H:=Option.bind_eq_some_iff.mp H
   obtain⟨⟨t171,t172⟩,A90,H⟩:=H
   replace H:(some (t171,t172))=some (r1,r2):=H
   have A9:=Aside0.mk A90
   clear A90
   simp only [Option.some.injEq,Prod.mk.injEq] at H
   obtain⟨rfl,rfl⟩:=H
   go_enter Try.func78,Try.ntmps78
   go_wp2_with (first|((with_reducible refine gate_dst (N:=2) rfl ?_);refine box_event ?hg (N:=2) ?hd (cs:=#[.int .i64 a0_0,.int .i64 a0_1]) (t:=59) ?hr ?_;(case hd=>rfl);(case hg=>rfl);(case hr=>first|(go_simp;done)|(go_simp;rfl));intro gb167 hg w10 hbox hb;have n0_:=Aside0.mk (below_step (by repeat (first|(with_reducible first|exact HB.out|apply below_alloc|apply pw_below_drewN|apply below_drew1)|exact HB.out)) hb);have n1_:=Aside0.mk (hbox);have n2_:=Aside0.mk ((by rw [hg];exact(below_size (by repeat (first|(with_reducible first|exact HB.out|apply below_alloc|apply pw_below_drewN|apply below_drew1)|exact HB.out))):w.heap.size≤gb167));have n3_:=Aside0.mk ((by rw [hg];exact(below_size (by repeat (first|(with_reducible first|exact HB.out|apply below_alloc|apply pw_below_drewN|apply below_drew1)|exact HB.out))):w.heap.size≤gb167));clear HB;have HB:=n0_;have BK167:=n1_;have GW167:=n2_;have GE167:=n3_;clear n0_ n1_ n2_ n3_;clear hb hbox hg)|((with_reducible refine gate_dst (N:=4) rfl ?_);refine box_event ?hg (N:=4) ?hd (cs:=#[.int .i64 0,.int .i64 0]) (t:=59) ?hr ?_;(case hd=>rfl);(case hg=>rfl);(case hr=>first|(go_simp;done)|(go_simp;rfl));intro gb168 hg w11 hbox hb;have n0_:=Aside0.mk (blk_below (g:=gb167) (o:=.cells #[.int .i64 a0_0,.int .i64 a0_1] 59 (0,0)) (by (with_reducible repeat (first|refine blk_drewN ?_ _|refine blk_drew ?_|refine blk_alloc ?_ _));exact BK167.out) hb);have n1_:=Aside0.mk (below_step (by repeat (first|(with_reducible first|exact HB.out|apply below_alloc|apply pw_below_drewN|apply below_drew1|refine below_set ?_ GE167.out)|exact HB.out)) hb);have n2_:=Aside0.mk (hbox);have n3_:=Aside0.mk ((by rw [hg];exact(below_size (by repeat (first|(with_reducible first|exact HB.out|apply below_alloc|apply pw_below_drewN|apply below_drew1|refine below_set ?_ GE167.out)|exact HB.out))):w.heap.size≤gb168));have n4_:=Aside0.mk ((by rw [hg];exact(below_size (by repeat (first|(with_reducible first|exact HB.out|apply below_alloc|apply pw_below_drewN|apply below_drew1|refine below_set ?_ GE167.out)|exact HB.out))):w.heap.size≤gb168));have n5_:=Aside0.mk ((by rw [hg];exact Nat.ne_of_lt (blk_lt (g:=gb167) (o:=.cells #[.int .i64 a0_0,.int .i64 a0_1] 59 (0,0)) (by (with_reducible repeat (first|refine blk_drewN ?_ _|refine blk_drew ?_|refine blk_alloc ?_ _));exact BK167.out)):gb167≠gb168));have n6_:=Aside0.mk ((by rw [hg];exact Nat.ne_of_gt (blk_lt (g:=gb167) (o:=.cells #[.int .i64 a0_0,.int .i64 a0_1] 59 (0,0)) (by (with_reducible repeat (first|refine blk_drewN ?_ _|refine blk_drew ?_|refine blk_alloc ?_ _));exact BK167.out)):gb168≠gb167));clear BK167;clear HB;have BK167:=n0_;have HB:=n1_;have BK168:=n2_;have GW168:=n3_;have GE168:=n4_;have NB167_168:=n5_;have NB168_167:=n6_;clear n0_ n1_ n2_ n3_ n4_ n5_ n6_;clear hb hbox hg;have hnb12:=NB167_168.out;have hnc12:=NB168_167.out;have hcz13_0:w11.cell? ⟨gb167,0,none⟩=some (.int .i64 a0_0):=(blk_cell BK167.out 0).trans rfl;have hcz13_1:w11.cell? ⟨gb167,1,none⟩=some (.int .i64 a0_1):=(blk_cell BK167.out 1).trans rfl;have hfz13_0:=blk_frozen BK167.out 0;have hfz13_1:=blk_frozen BK167.out 1)|((with_reducible refine gate_callee (f:=86) rfl ?_);refine goesL_ (some 6) rfl rfl Try.func86 (by kernel_rfl) rfl #[.agg #[.int .i64 a0_0,.int .i64 a0_1]] rfl (by (try simp only [List.map_toArray,List.map_cons,List.map_nil]);first|done|rfl|(simp only [List.length_drop,List.length_take];rfl)) ?_;(with_reducible refine(wide_known.calls a0_0 a0_1 t169 t170 _ A3.out).mono ?_);rintro e w14 ⟨rfl,hb⟩;refine⟨_,rfl,?_⟩;have n0_:=Aside0.mk (blk_below (g:=gb167) (o:=.cells #[.int .i64 a0_0,.int .i64 a0_1] 59 (0,0)) (by (with_reducible repeat (first|refine blk_drewN ?_ _|refine blk_drew ?_|refine blk_alloc ?_ _));exact BK167.out) hb);have n1_:=Aside0.mk (blk_below (g:=gb168) (o:=.cells #[.int .i64 0,.int .i64 0] 59 (0,0)) (by (with_reducible repeat (first|refine blk_drewN ?_ _|refine blk_drew ?_|refine blk_alloc ?_ _));exact BK168.out) hb);have n2_:=Aside0.mk (below_step (by repeat (first|(with_reducible first|exact HB.out|apply below_alloc|apply pw_below_drewN|apply below_drew1|refine below_set ?_ GE167.out|refine below_set ?_ GE168.out)|exact HB.out)) hb);clear BK167;clear BK168;clear HB;have BK167:=n0_;have BK168:=n1_;have HB:=n2_;clear n0_ n1_ n2_;(try clear hb);(try clear hb2);(try clear hk);(try clear hi);have hcz15_0:w14.cell? ⟨gb167,0,none⟩=some (.int .i64 a0_0):=(blk_cell BK167.out 0).trans rfl;have hcz15_1:w14.cell? ⟨gb167,1,none⟩=some (.int .i64 a0_1):=(blk_cell BK167.out 1).trans rfl;have hfz15_0:=blk_frozen BK167.out 0;have hfz15_1:=blk_frozen BK167.out 1)|((with_reducible refine gate_callee (f:=76) rfl ?_);refine goesL_ (some 18) rfl rfl Try.func76 (by kernel_rfl) rfl #[.int .i64 (t169/2^(ji7).toNat)] rfl (by (try simp only [List.map_toArray,List.map_cons,List.map_nil]);first|done|(simp only [hji7];rfl)|rfl|(simp only [List.length_drop,List.length_take];rfl)) ?_;(with_reducible refine(wide_Of.calls (t169/2^(ji7).toNat) t171 t172 _ A9.out).mono ?_);rintro e w16 ⟨rfl,hb⟩;refine⟨_,rfl,?_⟩;have n0_:=Aside0.mk (blk_below (g:=gb167) (o:=.cells #[.int .i64 t169,.int .i64 t170] 59 (0,0)) (by (with_reducible repeat (first|refine blk_drewN ?_ _|refine blk_drew ?_|refine blk_alloc ?_ _));refine blk_put (cs:=#[.int .i64 t169,.int .i64 a0_1]) ?_ 1 _ rfl;(with_reducible repeat (first|refine blk_drewN ?_ _|refine blk_drew ?_|refine blk_alloc ?_ _));refine blk_put (cs:=#[.int .i64 a0_0,.int .i64 a0_1]) ?_ 0 _ rfl;(with_reducible repeat (first|refine blk_drewN ?_ _|refine blk_drew ?_|refine blk_alloc ?_ _));exact BK167.out) hb);have n1_:=Aside0.mk (blk_below (g:=gb168) (o:=.cells #[.int .i64 0,.int .i64 0] 59 (0,0)) (by (with_reducible repeat (first|refine blk_drewN ?_ _|refine blk_drew ?_|refine blk_alloc ?_ _));refine blk_far ?_ NB168_167.out _;(with_reducible repeat (first|refine blk_drewN ?_ _|refine blk_drew ?_|refine blk_alloc ?_ _));refine blk_far ?_ NB168_167.out _;(with_reducible repeat (first|refine blk_drewN ?_ _|refine blk_drew ?_|refine blk_alloc ?_ _));exact BK168.out) hb);have n2_:=Aside0.mk (below_step (by repeat (first|(with_reducible first|exact HB.out|apply below_alloc|apply pw_below_drewN|apply below_drew1|refine below_set ?_ GE167.out|refine below_set ?_ GE168.out)|exact HB.out)) hb);clear BK167;clear BK168;clear HB;have BK167:=n0_;have BK168:=n1_;have HB:=n2_;clear n0_ n1_ n2_;(try clear hb);(try clear hb2);(try clear hk);(try clear hi);have hcz17_0:w16.cell? ⟨gb168,0,none⟩=some (.int .i64 0):=(blk_cell BK168.out 0).trans rfl;have hcz17_1:w16.cell? ⟨gb168,1,none⟩=some (.int .i64 0):=(blk_cell BK168.out 1).trans rfl;have hfz17_0:=blk_frozen BK168.out 0;have hfz17_1:=blk_frozen BK168.out 1))
   refine bodyPost_ret (results_cell_row rfl _ _ gb168 59 #[.int .i64 t171,.int .i64 t172] (0,0) _ rfl (by (with_reducible repeat (first|refine blk_drewN ?_ _|refine blk_drew ?_|refine blk_alloc ?_ _));refine blk_put (cs:=#[.int .i64 t171,.int .i64 0]) ?_ 1 _ rfl;(with_reducible repeat (first|refine blk_drewN ?_ _|refine blk_drew ?_|refine blk_alloc ?_ _));refine blk_put (cs:=#[.int .i64 0,.int .i64 0]) ?_ 0 _ rfl;(with_reducible repeat (first|refine blk_drewN ?_ _|refine blk_drew ?_|refine blk_alloc ?_ _));exact BK168.out) Try.underlying59 rfl (by kernel_rfl)) rfl ?_
   exact⟨by first|rfl|(simp [errW_none,errW_some]<;>rfl)|(simp only [←hji4,←hji5,←hji7];first|rfl|(simp [errW_none,errW_some]<;>rfl))|(simp [*,errW_none,errW_some]<;>rfl),by repeat (first|(with_reducible first|exact HB.out|apply below_alloc|apply pw_below_drewN|apply below_drew1|refine below_set ?_ GE167.out|refine below_set ?_ GE168.out)|exact HB.out)⟩
  ·rw [if_neg c8] at H
   exact absurd H (by simp)
 ·rw [if_neg c6] at H
  have q2:ji5≤61:=by omega
  have c6b0:decide (62≤(ji5))=false:=decide_eq_false c6
  clear c6
  obtain⟨ji18,hji18⟩:∃ j_:Int,(shr .i64 t169 (ji5))=j_:=⟨_,rfl⟩
  replace H:(if 0≤(62-(ji5)) then (some (ji18,Go.bits .and .i64 (Go.bits .or .i64 (wrap64 (t169*2^(62-(ji5)).toNat)) (shr .i64 t170 (ji5))) 4611686018427387903)) else (none))=some (r1,r2):=by first|(rw [hji18] at H;exact H)|(simp only [hji18] at H ⊢;exact H)
  (try rw [hji18] at A3)
  have hji18_:(t169/2^min (ji5).toNat 64)=ji18:=hji18
  have hji18z:(ji5)≤64→(t169/2^(ji5).toNat)=ji18:=shr_small hji18
  obtain⟨ji19,hji19⟩:∃ j_:Int,(62-(ji5))=j_:=⟨_,rfl⟩
  have q3:1≤ji19:=by omega
  have q4:ji19≤62:=by omega
  replace H:(if 0≤(ji19) then (some (ji18,Go.bits .and .i64 (Go.bits .or .i64 (wrap64 (t169*2^(ji19).toNat)) (shr .i64 t170 (ji5))) 4611686018427387903)) else (none))=some (r1,r2):=by first|(rw [hji19] at H;exact H)|(simp only [hji19] at H ⊢;exact H)
  (try rw [hji19] at A3)
  by_cases c20:0≤(ji19)
  ·rw [if_pos c20] at H
   have c20b0:=eq_true c20
   have c20b1:decide (0≤(ji19))=true:=decide_eq_true c20
   clear c20
   obtain⟨ji21,hji21⟩:∃ j_:Int,(shr .i64 t170 (ji5))=j_:=⟨_,rfl⟩
   replace H:(some (ji18,Go.bits .and .i64 (Go.bits .or .i64 (wrap64 (t169*2^(ji19).toNat)) (ji21)) 4611686018427387903))=some (r1,r2):=by first|(rw [hji21] at H;exact H)|(simp only [hji21] at H ⊢;exact H)
   (try rw [hji21] at A3)
   have hji21_:(t170/2^min (ji5).toNat 64)=ji21:=hji21
   have hji21z:(ji5)≤64→(t170/2^(ji5).toNat)=ji21:=shr_small hji21
   simp only [Option.some.injEq,Prod.mk.injEq] at H
   obtain⟨rfl,rfl⟩:=H
   have q8:(0<a1∧a1=ji4∧a1=ji5)∨(a1≤0∧a1=ji4∧0=ji5):=by
    have q6:=q2
    rw [←hji5,←hji4] at q6
    rw [←hji5,←hji4]
    unfold mx mn at q6 ⊢
    (repeat' split at q6)<;>(repeat' split)<;>omega
   clear hji4_ hji5_ hji4h
   have q7:wrap64 ji19=ji19:=by (unfold wrap64;omega)
   rcases q8 with ⟨q9,rfl,rfl⟩|⟨q9,rfl,rfl⟩
   ·have e18:Aside0 (t169/2^a1.toNat=ji18):=⟨hji18z (by omega)⟩
    have e21:Aside0 (t170/2^a1.toNat=ji21):=⟨hji21z (by omega)⟩
    clear hji18 hji18_ hji18z hji21 hji21_ hji21z
    go_enter Try.func78,Try.ntmps78
    try go_wp2_with (first|((with_reducible refine gate_dst (N:=2) rfl ?_);refine box_event ?hg (N:=2) ?hd (cs:=#[.int .i64 a0_0,.int .i64 a0_1]) (t:=59) ?hr ?_;(case hd=>rfl);(case hg=>rfl);(case hr=>first|(go_simp;done)|(go_simp;rfl));intro gb167 hg w22 hbox hb;have n0_:=Aside0.mk (below_step (by repeat (first|(with_reducible first|exact HB.out|apply below_alloc|apply pw_below_drewN|apply below_drew1)|exact HB.out)) hb);have n1_:=Aside0.mk (hbox);have n2_:=Aside0.mk ((by rw [hg];exact(below_size (by repeat (first|(with_reducible first|exact HB.out|apply below_alloc|apply pw_below_drewN|apply below_drew1)|exact HB.out))):w.heap.size≤gb167));have n3_:=Aside0.mk ((by rw [hg];exact(below_size (by repeat (first|(with_reducible first|exact HB.out|apply below_alloc|apply pw_below_drewN|apply below_drew1)|exact HB.out))):w.heap.size≤gb167));clear HB;have HB:=n0_;have BK167:=n1_;have GW167:=n2_;have GE167:=n3_;clear n0_ n1_ n2_ n3_;clear hb hbox hg)|((with_reducible refine gate_dst (N:=4) rfl ?_);refine box_event ?hg (N:=4) ?hd (cs:=#[.int .i64 0,.int .i64 0]) (t:=59) ?hr ?_;(case hd=>rfl);(case hg=>rfl);(case hr=>first|(go_simp;done)|(go_simp;rfl));intro gb168 hg w23 hbox hb;have n0_:=Aside0.mk (blk_below (g:=gb167) (o:=.cells #[.int .i64 a0_0,.int .i64 a0_1] 59 (0,0)) (by (with_reducible repeat (first|refine blk_drewN ?_ _|refine blk_drew ?_|refine blk_alloc ?_ _));exact BK167.out) hb);have n1_:=Aside0.mk (below_step (by repeat (first|(with_reducible first|exact HB.out|apply below_alloc|apply pw_below_drewN|apply below_drew1|refine below_set ?_ GE167.out)|exact HB.out)) hb);have n2_:=Aside0.mk (hbox);have n3_:=Aside0.mk ((by rw [hg];exact(below_size (by repeat (first|(with_reducible first|exact HB.out|apply below_alloc|apply pw_below_drewN|apply below_drew1|refine below_set ?_ GE167.out)|exact HB.out))):w.heap.size≤gb168));have n4_:=Aside0.mk ((by rw [hg];exact(below_size (by repeat (first|(with_reducible first|exact HB.out|apply below_alloc|apply pw_below_drewN|apply below_drew1|refine below_set ?_ GE167.out)|exact HB.out))):w.heap.size≤gb168));have n5_:=Aside0.mk ((by rw [hg];exact Nat.ne_of_lt (blk_lt (g:=gb167) (o:=.cells #[.int .i64 a0_0,.int .i64 a0_1] 59 (0,0)) (by (with_reducible repeat (first|refine blk_drewN ?_ _|refine blk_drew ?_|refine blk_alloc ?_ _));exact BK167.out)):gb167≠gb168));have n6_:=Aside0.mk ((by rw [hg];exact Nat.ne_of_gt (blk_lt (g:=gb167) (o:=.cells #[.int .i64 a0_0,.int .i64 a0_1] 59 (0,0)) (by (with_reducible repeat (first|refine blk_drewN ?_ _|refine blk_drew ?_|refine blk_alloc ?_ _));exact BK167.out)):gb168≠gb167));clear BK167;clear HB;have BK167:=n0_;have HB:=n1_;have BK168:=n2_;have GW168:=n3_;have GE168:=n4_;have NB167_168:=n5_;have NB168_167:=n6_;clear n0_ n1_ n2_ n3_ n4_ n5_ n6_;clear hb hbox hg;have hnb24:=NB167_168.out;have hnc24:=NB168_167.out;have hcz25_0:w23.cell? ⟨gb167,0,none⟩=some (.int .i64 a0_0):=(blk_cell BK167.out 0).trans rfl;have hcz25_1:w23.cell? ⟨gb167,1,none⟩=some (.int .i64 a0_1):=(blk_cell BK167.out 1).trans rfl;have hfz25_0:=blk_frozen BK167.out 0;have hfz25_1:=blk_frozen BK167.out 1)|((with_reducible refine gate_callee (f:=86) rfl ?_);refine goesL_ (some 6) rfl rfl Try.func86 (by kernel_rfl) rfl #[.agg #[.int .i64 a0_0,.int .i64 a0_1]] rfl (by (try simp only [List.map_toArray,List.map_cons,List.map_nil]);first|done|rfl|(simp only [List.length_drop,List.length_take];rfl)) ?_;(with_reducible refine(wide_known.calls a0_0 a0_1 t169 t170 _ A3.out).mono ?_);rintro e w26 ⟨rfl,hb⟩;refine⟨_,rfl,?_⟩;have n0_:=Aside0.mk (blk_below (g:=gb167) (o:=.cells #[.int .i64 a0_0,.int .i64 a0_1] 59 (0,0)) (by (with_reducible repeat (first|refine blk_drewN ?_ _|refine blk_drew ?_|refine blk_alloc ?_ _));exact BK167.out) hb);have n1_:=Aside0.mk (blk_below (g:=gb168) (o:=.cells #[.int .i64 0,.int .i64 0] 59 (0,0)) (by (with_reducible repeat (first|refine blk_drewN ?_ _|refine blk_drew ?_|refine blk_alloc ?_ _));exact BK168.out) hb);have n2_:=Aside0.mk (below_step (by repeat (first|(with_reducible first|exact HB.out|apply below_alloc|apply pw_below_drewN|apply below_drew1|refine below_set ?_ GE167.out|refine below_set ?_ GE168.out)|exact HB.out)) hb);clear BK167;clear BK168;clear HB;have BK167:=n0_;have BK168:=n1_;have HB:=n2_;clear n0_ n1_ n2_;(try clear hb);(try clear hb2);(try clear hk);(try clear hi);have hcz27_0:w26.cell? ⟨gb167,0,none⟩=some (.int .i64 a0_0):=(blk_cell BK167.out 0).trans rfl;have hcz27_1:w26.cell? ⟨gb167,1,none⟩=some (.int .i64 a0_1):=(blk_cell BK167.out 1).trans rfl;have hfz27_0:=blk_frozen BK167.out 0;have hfz27_1:=blk_frozen BK167.out 1))
    have n0_:Aside0 (((w26.setCell ⟨gb167,0,none⟩ (.int .i64 t169)).setCell ⟨gb167,1,none⟩ (.int .i64 t170)).heap[gb167]? = some (.cells #[.int .i64 t169,.int .i64 t170] 59 (0,0))):=⟨by (with_reducible repeat (first|refine blk_drewN ?_ _|refine blk_drew ?_|refine blk_alloc ?_ _));refine blk_put (cs:=#[.int .i64 t169,.int .i64 a0_1]) ?_ 1 _ rfl;(with_reducible repeat (first|refine blk_drewN ?_ _|refine blk_drew ?_|refine blk_alloc ?_ _));refine blk_put (cs:=#[.int .i64 a0_0,.int .i64 a0_1]) ?_ 0 _ rfl;(with_reducible repeat (first|refine blk_drewN ?_ _|refine blk_drew ?_|refine blk_alloc ?_ _));exact BK167.out⟩
    have n1_:Aside0 (((w26.setCell ⟨gb167,0,none⟩ (.int .i64 t169)).setCell ⟨gb167,1,none⟩ (.int .i64 t170)).heap[gb168]? = some (.cells #[.int .i64 0,.int .i64 0] 59 (0,0))):=⟨by (with_reducible repeat (first|refine blk_drewN ?_ _|refine blk_drew ?_|refine blk_alloc ?_ _));refine blk_far ?_ NB168_167.out _;(with_reducible repeat (first|refine blk_drewN ?_ _|refine blk_drew ?_|refine blk_alloc ?_ _));refine blk_far ?_ NB168_167.out _;(with_reducible repeat (first|refine blk_drewN ?_ _|refine blk_drew ?_|refine blk_alloc ?_ _));exact BK168.out⟩
    have n2_:Aside0 (Below w.heap.size w ((w26.setCell ⟨gb167,0,none⟩ (.int .i64 t169)).setCell ⟨gb167,1,none⟩ (.int .i64 t170))):=⟨by repeat (first|(with_reducible first|exact HB.out|apply below_alloc|apply pw_below_drewN|apply below_drew1|refine below_set ?_ GE167.out|refine below_set ?_ GE168.out)|exact HB.out)⟩
    (try clear BK167)
    (try clear BK168)
    (try clear HB)
    generalize ((w26.setCell ⟨gb167,0,none⟩ (.int .i64 t169)).setCell ⟨gb167,1,none⟩ (.int .i64 t170))=w28 at n0_ n1_ n2_ ⊢
    have BK167:=n0_
    have BK168:=n1_
    have HB:=n2_
    clear n0_ n1_ n2_
    have n0_:=Aside0.mk (blk_drew BK167.out)
    have n1_:=Aside0.mk (blk_drew BK168.out)
    have n2_:=Aside0.mk (below_drew1 HB.out)
    clear BK167
    clear BK168
    clear HB
    have BK167:=n0_
    have BK168:=n1_
    have HB:=n2_
    clear n0_ n1_ n2_
    refine start_ (n:=17) (S:=fun w'=>w'.cell? ⟨gb167,0,none⟩=some (.int .i64 t169)∧w'.cell? ⟨gb167,1,none⟩=some (.int .i64 t170)) (ds:=[]) #[false,false,false,false,false,false,false,false,false,false,false,false,false,false,false,false,false] (by kernel_rfl) rfl rfl ⟨(blk_cell BK167.out 0).trans rfl,(blk_cell BK167.out 1).trans rfl⟩ (fun hHeld=>?_);refine with_tabW wide_Down.tab5 wide_Down.bits5 (fun HT_ HW_=>?_)
    generalize w28.drew=w29 at BK167 BK168 HB hHeld ⊢
    refine pure_ (i:=0) (N:=some 19) (v:=?_) (a':=?_) #[true,false,false,false,false,false,false,false,false,false,false,false,false,false,false,false,false] rfl rfl (any_of HT_.out (by kernel_rfl)) (fun _ _ _ h=>h) (Or.inl ⟨by rfl,?_⟩) ?_ ?_
    rotate_left
    ·intro w'
     go_simp
     with_reducible rfl
    rotate_left
    ·simp only [Act.put,List.setIfInBounds_toArray,List.set_cons_zero,List.set_cons_succ,i64_w,i32_w]
     rfl
    refine pure_ (i:=2) (N:=some 21) (v:=?_) (a':=?_) #[true,false,true,false,false,false,false,false,false,false,false,false,false,false,false,false,false] rfl rfl (any_of HT_.out (by kernel_rfl)) (fun _ _ _ h=>h) (Or.inl ⟨by rfl,?_⟩) ?_ ?_
    rotate_left
    ·intro w'
     go_simp
     with_reducible rfl
    rotate_left
    ·simp only [Act.put,List.setIfInBounds_toArray,List.set_cons_zero,List.set_cons_succ,i64_w,i32_w]
     rfl
    refine pure_ (i:=4) (N:=some 23) (v:=?_) (a':=?_) #[true,false,true,false,true,false,false,false,false,false,false,false,false,false,false,false,false] rfl rfl (any_of HT_.out (by kernel_rfl)) (fun _ _ _ h=>h) (Or.inl ⟨by rfl,?_⟩) ?_ ?_
    rotate_left
    ·intro w'
     go_simp
     with_reducible rfl
    rotate_left
    ·simp only [Act.put,List.setIfInBounds_toArray,List.set_cons_zero,List.set_cons_succ,i64_w,i32_w]
     rfl
    refine pure_ (i:=6) (N:=some 25) (v:=?_) (a':=?_) #[true,false,true,false,true,false,true,false,false,false,false,false,false,false,false,false,false] rfl rfl (any_of HT_.out (by kernel_rfl)) (fun _ _ _ h=>h) (Or.inl ⟨by rfl,?_⟩) ?_ ?_
    rotate_left
    ·intro w'
     go_simp
     with_reducible rfl
    rotate_left
    ·simp only [Act.put,List.setIfInBounds_toArray,List.set_cons_zero,List.set_cons_succ,i64_w,i32_w]
     rfl
    refine pure_ (i:=7) (N:=some 26) (v:=?_) (a':=?_) #[true,false,true,false,true,false,true,true,false,false,false,false,false,false,false,false,false] rfl rfl (any_of HT_.out (by kernel_rfl)) (fun _ _ _ h=>h) (Or.inl ⟨by rfl,?_⟩) ?_ ?_
    rotate_left
    ·intro w'
     go_simp
     with_reducible rfl
    rotate_left
    ·simp only [Act.put,List.setIfInBounds_toArray,List.set_cons_zero,List.set_cons_succ,i64_w,i32_w]
     rfl
    refine pure_ (i:=9) (N:=some 28) (v:=?_) (a':=?_) #[true,false,true,false,true,false,true,true,false,true,false,false,false,false,false,false,false] rfl rfl (any_of HT_.out (by kernel_rfl)) (fun _ _ _ h=>h) (Or.inl ⟨by rfl,?_⟩) ?_ ?_
    rotate_left
    ·intro w'
     go_simp
     with_reducible rfl
    rotate_left
    ·simp only [Act.put,List.setIfInBounds_toArray,List.set_cons_zero,List.set_cons_succ,i64_w,i32_w]
     rfl
    refine pure_ (i:=11) (N:=some 30) (v:=?_) (a':=?_) #[true,false,true,false,true,false,true,true,false,true,false,true,false,false,false,false,false] rfl rfl (any_of HT_.out (by kernel_rfl)) (fun _ _ _ h=>h) (Or.inl ⟨by rfl,?_⟩) ?_ ?_
    rotate_left
    ·intro w'
     go_simp
     with_reducible rfl
    rotate_left
    ·simp only [Act.put,List.setIfInBounds_toArray,List.set_cons_zero,List.set_cons_succ,i64_w,i32_w]
     rfl
    refine take_ (i:=1) (N:=some 20) (v:=?_) (a':=?_) #[true,true,true,false,true,false,true,true,false,true,false,true,false,false,false,false,false] rfl rfl (take_ofW HT_.out HW_.out (by kernel_rfl)) (fun _ _ _ h=>h) (Or.inl ⟨by rfl,?_⟩) hHeld ?_ ?_
    rotate_left
    ·rintro w' ⟨s0,s1⟩
     go_simp
     with_reducible rfl
    rotate_left
    ·simp only [Act.put,List.setIfInBounds_toArray,List.set_cons_zero,List.set_cons_succ,i64_w,i32_w]
     rfl
    refine pure_ (i:=3) (N:=some 22) (v:=?_) (a':=?_) #[true,true,true,true,true,false,true,true,false,true,false,true,false,false,false,false,false] rfl rfl (any_of HT_.out (by kernel_rfl)) (fun _ _ _ h=>h) (Or.inl ⟨by rfl,?_⟩) ?_ ?_
    rotate_left
    ·intro w'
     go_simp
     with_reducible rfl
    rotate_left
    ·simp only [Act.put,List.setIfInBounds_toArray,List.set_cons_zero,List.set_cons_succ,i64_w,i32_w]
     rfl
    refine take_ (i:=5) (N:=some 24) (v:=?_) (a':=?_) #[true,true,true,true,true,true,true,true,false,true,false,true,false,false,false,false,false] rfl rfl (take_ofW HT_.out HW_.out (by kernel_rfl)) (fun _ _ _ h=>h) (Or.inl ⟨by rfl,?_⟩) hHeld ?_ ?_
    rotate_left
    ·rintro w' ⟨s0,s1⟩
     go_simp
     with_reducible rfl
    rotate_left
    ·simp only [Act.put,List.setIfInBounds_toArray,List.set_cons_zero,List.set_cons_succ,i64_w,i32_w]
     rfl
    refine pure_ (i:=8) (N:=some 27) (v:=?_) (a':=?_) #[true,true,true,true,true,true,true,true,true,true,false,true,false,false,false,false,false] rfl rfl (any_of HT_.out (by kernel_rfl)) (fun _ _ _ h=>h) (Or.inl ⟨by rfl,?_⟩) ?_ ?_
    rotate_left
    ·intro w'
     go_simp
     with_reducible rfl
    rotate_left
    ·simp only [Act.put,List.setIfInBounds_toArray,List.set_cons_zero,List.set_cons_succ,i64_w,i32_w]
     rfl
    refine take_ (i:=10) (N:=some 29) (v:=?_) (a':=?_) #[true,true,true,true,true,true,true,true,true,true,true,true,false,false,false,false,false] rfl rfl (take_ofW HT_.out HW_.out (by kernel_rfl)) (fun _ _ _ h=>h) (Or.inl ⟨by rfl,?_⟩) hHeld ?_ ?_
    rotate_left
    ·rintro w' ⟨s0,s1⟩
     go_simp
     with_reducible rfl
    rotate_left
    ·simp only [Act.put,List.setIfInBounds_toArray,List.set_cons_zero,List.set_cons_succ,i64_w,i32_w]
     rfl
    refine pure_ (i:=12) (N:=some 31) (v:=?_) (a':=?_) #[true,true,true,true,true,true,true,true,true,true,true,true,true,false,false,false,false] rfl rfl (any_of HT_.out (by kernel_rfl)) (fun _ _ _ h=>h) (Or.inl ⟨by rfl,?_⟩) ?_ ?_
    rotate_left
    ·intro w'
     go_simp
     with_reducible rfl
    rotate_left
    ·simp only [Act.put,List.setIfInBounds_toArray,List.set_cons_zero,List.set_cons_succ,i64_w,i32_w]
     rfl
    refine pure_ (i:=13) (N:=some 32) (v:=?_) (a':=?_) #[true,true,true,true,true,true,true,true,true,true,true,true,true,true,false,false,false] rfl rfl (any_of HT_.out (by kernel_rfl)) (fun _ _ _ h=>h) (Or.inl ⟨by rfl,?_⟩) ?_ ?_
    rotate_left
    ·intro w'
     go_simp
     with_reducible rfl
    rotate_left
    ·simp only [Act.put,List.setIfInBounds_toArray,List.set_cons_zero,List.set_cons_succ,i64_w,i32_w]
     rfl
    refine pure_ (i:=14) (N:=some 33) (v:=?_) (a':=?_) #[true,true,true,true,true,true,true,true,true,true,true,true,true,true,true,false,false] rfl rfl (any_of HT_.out (by kernel_rfl)) (fun _ _ _ h=>h) (Or.inl ⟨by rfl,?_⟩) ?_ ?_
    rotate_left
    ·intro w'
     go_simp
     with_reducible rfl
    rotate_left
    ·simp only [Act.put,List.setIfInBounds_toArray,List.set_cons_zero,List.set_cons_succ,i64_w,i32_w]
     rfl
    refine pure_ (i:=15) (N:=some 34) (v:=?_) (a':=?_) #[true,true,true,true,true,true,true,true,true,true,true,true,true,true,true,true,false] rfl rfl (any_of HT_.out (by kernel_rfl)) (fun _ _ _ h=>h) (Or.inl ⟨by rfl,?_⟩) ?_ ?_
    rotate_left
    ·intro w'
     go_simp
     with_reducible rfl
    rotate_left
    ·simp only [Act.put,List.setIfInBounds_toArray,List.set_cons_zero,List.set_cons_succ,i64_w,i32_w]
     rfl
    refine one_ (i:=16) (N:=none) #[true,true,true,true,true,true,true,true,true,true,true,true,true,true,true,true,true] rfl rfl (one_of HT_.out (by kernel_rfl)) (by decide) (fun K hK=>?_)
    have hs30:w29.cell? ⟨gb168,0,none⟩=some (.int .i64 0):=(blk_cell BK168.out 0).trans rfl
    have hfs30:=blk_frozen BK168.out 0
    have hns30_0:=NB167_168.out
    have hms30_0:=NB168_167.out
    have hs31:w29.cell? ⟨gb168,1,none⟩=some (.int .i64 0):=(blk_cell BK168.out 1).trans rfl
    have hfs31:=blk_frozen BK168.out 1
    have hns31_0:=NB167_168.out
    have hms31_0:=NB168_167.out
    refine skip_ (w1:=?_) (by rfl) rfl ?_ ?_
    rotate_left
    ·go_simp
     rfl
    refine hK.out _ _ ⟨((cell_far (p:=⟨gb168,_,none⟩) NB167_168.out _).trans (((cell_far (p:=⟨gb168,_,none⟩) NB167_168.out _).trans (hHeld.1)))),((cell_far (p:=⟨gb168,_,none⟩) NB167_168.out _).trans (((cell_far (p:=⟨gb168,_,none⟩) NB167_168.out _).trans (hHeld.2))))⟩ (fun hHeld=>?_)
    clear hK K
    refine done_ (done_of HT_.out (by kernel_rfl)) ?_
    try go_wp2
    refine bodyPost_ret (results_cell_row rfl _ _ gb168 59 #[.int .i64 ji18,.int .i64 (Go.bits .and .i64 (Go.bits .or .i64 (wrap64 (t169*2^(ji19).toNat)) (ji21)) 4611686018427387903)] (0,0) _ rfl (by (with_reducible repeat (first|refine blk_drewN ?_ _|refine blk_drew ?_|refine blk_alloc ?_ _));refine blk_put (cs:=#[.int .i64 ji18,.int .i64 0]) ?_ 1 _ (by rw [←e21.out];rfl);(with_reducible repeat (first|refine blk_drewN ?_ _|refine blk_drew ?_|refine blk_alloc ?_ _));refine blk_put (cs:=#[.int .i64 0,.int .i64 0]) ?_ 0 _ (by rw [←e18.out];rfl);(with_reducible repeat (first|refine blk_drewN ?_ _|refine blk_drew ?_|refine blk_alloc ?_ _));exact BK168.out) Try.underlying59 rfl (by kernel_rfl)) rfl ?_
    exact⟨by first|rfl|(simp [errW_none,errW_some]<;>rfl)|(simp only [←hji4,←hji5,←hji18,←hji19,←hji21];first|rfl|(simp [errW_none,errW_some]<;>rfl))|(simp [*,errW_none,errW_some]<;>rfl),by repeat (first|(with_reducible first|exact HB.out|apply below_alloc|apply pw_below_drewN|apply below_drew1|refine below_set ?_ GE167.out|refine below_set ?_ GE168.out)|exact HB.out)⟩
   ·have e18:Aside0 (t169=ji18):=⟨by (have z:=hji18z (by omega);simpa using z)⟩
    have e21:Aside0 (t170=ji21):=⟨by (have z:=hji21z (by omega);simpa using z)⟩
    clear hji18 hji18_ hji18z hji21 hji21_ hji21z
    go_enter Try.func78,Try.ntmps78
    try go_wp2_with (first|((with_reducible refine gate_dst (N:=2) rfl ?_);refine box_event ?hg (N:=2) ?hd (cs:=#[.int .i64 a0_0,.int .i64 a0_1]) (t:=59) ?hr ?_;(case hd=>rfl);(case hg=>rfl);(case hr=>first|(go_simp;done)|(go_simp;rfl));intro gb167 hg w22 hbox hb;have n0_:=Aside0.mk (below_step (by repeat (first|(with_reducible first|exact HB.out|apply below_alloc|apply pw_below_drewN|apply below_drew1)|exact HB.out)) hb);have n1_:=Aside0.mk (hbox);have n2_:=Aside0.mk ((by rw [hg];exact(below_size (by repeat (first|(with_reducible first|exact HB.out|apply below_alloc|apply pw_below_drewN|apply below_drew1)|exact HB.out))):w.heap.size≤gb167));have n3_:=Aside0.mk ((by rw [hg];exact(below_size (by repeat (first|(with_reducible first|exact HB.out|apply below_alloc|apply pw_below_drewN|apply below_drew1)|exact HB.out))):w.heap.size≤gb167));clear HB;have HB:=n0_;have BK167:=n1_;have GW167:=n2_;have GE167:=n3_;clear n0_ n1_ n2_ n3_;clear hb hbox hg)|((with_reducible refine gate_dst (N:=4) rfl ?_);refine box_event ?hg (N:=4) ?hd (cs:=#[.int .i64 0,.int .i64 0]) (t:=59) ?hr ?_;(case hd=>rfl);(case hg=>rfl);(case hr=>first|(go_simp;done)|(go_simp;rfl));intro gb168 hg w23 hbox hb;have n0_:=Aside0.mk (blk_below (g:=gb167) (o:=.cells #[.int .i64 a0_0,.int .i64 a0_1] 59 (0,0)) (by (with_reducible repeat (first|refine blk_drewN ?_ _|refine blk_drew ?_|refine blk_alloc ?_ _));exact BK167.out) hb);have n1_:=Aside0.mk (below_step (by repeat (first|(with_reducible first|exact HB.out|apply below_alloc|apply pw_below_drewN|apply below_drew1|refine below_set ?_ GE167.out)|exact HB.out)) hb);have n2_:=Aside0.mk (hbox);have n3_:=Aside0.mk ((by rw [hg];exact(below_size (by repeat (first|(with_reducible first|exact HB.out|apply below_alloc|apply pw_below_drewN|apply below_drew1|refine below_set ?_ GE167.out)|exact HB.out))):w.heap.size≤gb168));have n4_:=Aside0.mk ((by rw [hg];exact(below_size (by repeat (first|(with_reducible first|exact HB.out|apply below_alloc|apply pw_below_drewN|apply below_drew1|refine below_set ?_ GE167.out)|exact HB.out))):w.heap.size≤gb168));have n5_:=Aside0.mk ((by rw [hg];exact Nat.ne_of_lt (blk_lt (g:=gb167) (o:=.cells #[.int .i64 a0_0,.int .i64 a0_1] 59 (0,0)) (by (with_reducible repeat (first|refine blk_drewN ?_ _|refine blk_drew ?_|refine blk_alloc ?_ _));exact BK167.out)):gb167≠gb168));have n6_:=Aside0.mk ((by rw [hg];exact Nat.ne_of_gt (blk_lt (g:=gb167) (o:=.cells #[.int .i64 a0_0,.int .i64 a0_1] 59 (0,0)) (by (with_reducible repeat (first|refine blk_drewN ?_ _|refine blk_drew ?_|refine blk_alloc ?_ _));exact BK167.out)):gb168≠gb167));clear BK167;clear HB;have BK167:=n0_;have HB:=n1_;have BK168:=n2_;have GW168:=n3_;have GE168:=n4_;have NB167_168:=n5_;have NB168_167:=n6_;clear n0_ n1_ n2_ n3_ n4_ n5_ n6_;clear hb hbox hg;have hnb24:=NB167_168.out;have hnc24:=NB168_167.out;have hcz25_0:w23.cell? ⟨gb167,0,none⟩=some (.int .i64 a0_0):=(blk_cell BK167.out 0).trans rfl;have hcz25_1:w23.cell? ⟨gb167,1,none⟩=some (.int .i64 a0_1):=(blk_cell BK167.out 1).trans rfl;have hfz25_0:=blk_frozen BK167.out 0;have hfz25_1:=blk_frozen BK167.out 1)|((with_reducible refine gate_callee (f:=86) rfl ?_);refine goesL_ (some 6) rfl rfl Try.func86 (by kernel_rfl) rfl #[.agg #[.int .i64 a0_0,.int .i64 a0_1]] rfl (by (try simp only [List.map_toArray,List.map_cons,List.map_nil]);first|done|rfl|(simp only [List.length_drop,List.length_take];rfl)) ?_;(with_reducible refine(wide_known.calls a0_0 a0_1 t169 t170 _ A3.out).mono ?_);rintro e w26 ⟨rfl,hb⟩;refine⟨_,rfl,?_⟩;have n0_:=Aside0.mk (blk_below (g:=gb167) (o:=.cells #[.int .i64 a0_0,.int .i64 a0_1] 59 (0,0)) (by (with_reducible repeat (first|refine blk_drewN ?_ _|refine blk_drew ?_|refine blk_alloc ?_ _));exact BK167.out) hb);have n1_:=Aside0.mk (blk_below (g:=gb168) (o:=.cells #[.int .i64 0,.int .i64 0] 59 (0,0)) (by (with_reducible repeat (first|refine blk_drewN ?_ _|refine blk_drew ?_|refine blk_alloc ?_ _));exact BK168.out) hb);have n2_:=Aside0.mk (below_step (by repeat (first|(with_reducible first|exact HB.out|apply below_alloc|apply pw_below_drewN|apply below_drew1|refine below_set ?_ GE167.out|refine below_set ?_ GE168.out)|exact HB.out)) hb);clear BK167;clear BK168;clear HB;have BK167:=n0_;have BK168:=n1_;have HB:=n2_;clear n0_ n1_ n2_;(try clear hb);(try clear hb2);(try clear hk);(try clear hi);have hcz27_0:w26.cell? ⟨gb167,0,none⟩=some (.int .i64 a0_0):=(blk_cell BK167.out 0).trans rfl;have hcz27_1:w26.cell? ⟨gb167,1,none⟩=some (.int .i64 a0_1):=(blk_cell BK167.out 1).trans rfl;have hfz27_0:=blk_frozen BK167.out 0;have hfz27_1:=blk_frozen BK167.out 1))
    have n0_:Aside0 (((w26.setCell ⟨gb167,0,none⟩ (.int .i64 t169)).setCell ⟨gb167,1,none⟩ (.int .i64 t170)).heap[gb167]? = some (.cells #[.int .i64 t169,.int .i64 t170] 59 (0,0))):=⟨by (with_reducible repeat (first|refine blk_drewN ?_ _|refine blk_drew ?_|refine blk_alloc ?_ _));refine blk_put (cs:=#[.int .i64 t169,.int .i64 a0_1]) ?_ 1 _ rfl;(with_reducible repeat (first|refine blk_drewN ?_ _|refine blk_drew ?_|refine blk_alloc ?_ _));refine blk_put (cs:=#[.int .i64 a0_0,.int .i64 a0_1]) ?_ 0 _ rfl;(with_reducible repeat (first|refine blk_drewN ?_ _|refine blk_drew ?_|refine blk_alloc ?_ _));exact BK167.out⟩
    have n1_:Aside0 (((w26.setCell ⟨gb167,0,none⟩ (.int .i64 t169)).setCell ⟨gb167,1,none⟩ (.int .i64 t170)).heap[gb168]? = some (.cells #[.int .i64 0,.int .i64 0] 59 (0,0))):=⟨by (with_reducible repeat (first|refine blk_drewN ?_ _|refine blk_drew ?_|refine blk_alloc ?_ _));refine blk_far ?_ NB168_167.out _;(with_reducible repeat (first|refine blk_drewN ?_ _|refine blk_drew ?_|refine blk_alloc ?_ _));refine blk_far ?_ NB168_167.out _;(with_reducible repeat (first|refine blk_drewN ?_ _|refine blk_drew ?_|refine blk_alloc ?_ _));exact BK168.out⟩
    have n2_:Aside0 (Below w.heap.size w ((w26.setCell ⟨gb167,0,none⟩ (.int .i64 t169)).setCell ⟨gb167,1,none⟩ (.int .i64 t170))):=⟨by repeat (first|(with_reducible first|exact HB.out|apply below_alloc|apply pw_below_drewN|apply below_drew1|refine below_set ?_ GE167.out|refine below_set ?_ GE168.out)|exact HB.out)⟩
    (try clear BK167)
    (try clear BK168)
    (try clear HB)
    generalize ((w26.setCell ⟨gb167,0,none⟩ (.int .i64 t169)).setCell ⟨gb167,1,none⟩ (.int .i64 t170))=w28 at n0_ n1_ n2_ ⊢
    have BK167:=n0_
    have BK168:=n1_
    have HB:=n2_
    clear n0_ n1_ n2_
    have n0_:=Aside0.mk (blk_drew BK167.out)
    have n1_:=Aside0.mk (blk_drew BK168.out)
    have n2_:=Aside0.mk (below_drew1 HB.out)
    clear BK167
    clear BK168
    clear HB
    have BK167:=n0_
    have BK168:=n1_
    have HB:=n2_
    clear n0_ n1_ n2_
    refine start_ (n:=17) (S:=fun w'=>w'.cell? ⟨gb167,0,none⟩=some (.int .i64 t169)∧w'.cell? ⟨gb167,1,none⟩=some (.int .i64 t170)) (ds:=[]) #[false,false,false,false,false,false,false,false,false,false,false,false,false,false,false,false,false] (by kernel_rfl) rfl rfl ⟨(blk_cell BK167.out 0).trans rfl,(blk_cell BK167.out 1).trans rfl⟩ (fun hHeld=>?_);refine with_tabW wide_Down.tab5 wide_Down.bits5 (fun HT_ HW_=>?_)
    generalize w28.drew=w29 at BK167 BK168 HB hHeld ⊢
    refine pure_ (i:=0) (N:=some 19) (v:=?_) (a':=?_) #[true,false,false,false,false,false,false,false,false,false,false,false,false,false,false,false,false] rfl rfl (any_of HT_.out (by kernel_rfl)) (fun _ _ _ h=>h) (Or.inl ⟨by rfl,?_⟩) ?_ ?_
    rotate_left
    ·intro w'
     go_simp
     with_reducible rfl
    rotate_left
    ·simp only [Act.put,List.setIfInBounds_toArray,List.set_cons_zero,List.set_cons_succ,i64_w,i32_w]
     rfl
    refine pure_ (i:=2) (N:=some 21) (v:=?_) (a':=?_) #[true,false,true,false,false,false,false,false,false,false,false,false,false,false,false,false,false] rfl rfl (any_of HT_.out (by kernel_rfl)) (fun _ _ _ h=>h) (Or.inl ⟨by rfl,?_⟩) ?_ ?_
    rotate_left
    ·intro w'
     go_simp
     with_reducible rfl
    rotate_left
    ·simp only [Act.put,List.setIfInBounds_toArray,List.set_cons_zero,List.set_cons_succ,i64_w,i32_w]
     rfl
    refine pure_ (i:=4) (N:=some 23) (v:=?_) (a':=?_) #[true,false,true,false,true,false,false,false,false,false,false,false,false,false,false,false,false] rfl rfl (any_of HT_.out (by kernel_rfl)) (fun _ _ _ h=>h) (Or.inl ⟨by rfl,?_⟩) ?_ ?_
    rotate_left
    ·intro w'
     go_simp
     with_reducible rfl
    rotate_left
    ·simp only [Act.put,List.setIfInBounds_toArray,List.set_cons_zero,List.set_cons_succ,i64_w,i32_w]
     rfl
    refine pure_ (i:=6) (N:=some 25) (v:=?_) (a':=?_) #[true,false,true,false,true,false,true,false,false,false,false,false,false,false,false,false,false] rfl rfl (any_of HT_.out (by kernel_rfl)) (fun _ _ _ h=>h) (Or.inl ⟨by rfl,?_⟩) ?_ ?_
    rotate_left
    ·intro w'
     go_simp
     with_reducible rfl
    rotate_left
    ·simp only [Act.put,List.setIfInBounds_toArray,List.set_cons_zero,List.set_cons_succ,i64_w,i32_w]
     rfl
    refine pure_ (i:=7) (N:=some 26) (v:=?_) (a':=?_) #[true,false,true,false,true,false,true,true,false,false,false,false,false,false,false,false,false] rfl rfl (any_of HT_.out (by kernel_rfl)) (fun _ _ _ h=>h) (Or.inl ⟨by rfl,?_⟩) ?_ ?_
    rotate_left
    ·intro w'
     go_simp
     with_reducible rfl
    rotate_left
    ·simp only [Act.put,List.setIfInBounds_toArray,List.set_cons_zero,List.set_cons_succ,i64_w,i32_w]
     rfl
    refine pure_ (i:=9) (N:=some 28) (v:=?_) (a':=?_) #[true,false,true,false,true,false,true,true,false,true,false,false,false,false,false,false,false] rfl rfl (any_of HT_.out (by kernel_rfl)) (fun _ _ _ h=>h) (Or.inl ⟨by rfl,?_⟩) ?_ ?_
    rotate_left
    ·intro w'
     go_simp
     with_reducible rfl
    rotate_left
    ·simp only [Act.put,List.setIfInBounds_toArray,List.set_cons_zero,List.set_cons_succ,i64_w,i32_w]
     rfl
    refine pure_ (i:=11) (N:=some 30) (v:=?_) (a':=?_) #[true,false,true,false,true,false,true,true,false,true,false,true,false,false,false,false,false] rfl rfl (any_of HT_.out (by kernel_rfl)) (fun _ _ _ h=>h) (Or.inl ⟨by rfl,?_⟩) ?_ ?_
    rotate_left
    ·intro w'
     go_simp
     with_reducible rfl
    rotate_left
    ·simp only [Act.put,List.setIfInBounds_toArray,List.set_cons_zero,List.set_cons_succ,i64_w,i32_w]
     rfl
    refine take_ (i:=1) (N:=some 20) (v:=?_) (a':=?_) #[true,true,true,false,true,false,true,true,false,true,false,true,false,false,false,false,false] rfl rfl (take_ofW HT_.out HW_.out (by kernel_rfl)) (fun _ _ _ h=>h) (Or.inl ⟨by rfl,?_⟩) hHeld ?_ ?_
    rotate_left
    ·rintro w' ⟨s0,s1⟩
     go_simp
     with_reducible rfl
    rotate_left
    ·simp only [Act.put,List.setIfInBounds_toArray,List.set_cons_zero,List.set_cons_succ,i64_w,i32_w]
     rfl
    refine pure_ (i:=3) (N:=some 22) (v:=?_) (a':=?_) #[true,true,true,true,true,false,true,true,false,true,false,true,false,false,false,false,false] rfl rfl (any_of HT_.out (by kernel_rfl)) (fun _ _ _ h=>h) (Or.inl ⟨by rfl,?_⟩) ?_ ?_
    rotate_left
    ·intro w'
     go_simp
     with_reducible rfl
    rotate_left
    ·simp only [Act.put,List.setIfInBounds_toArray,List.set_cons_zero,List.set_cons_succ,i64_w,i32_w]
     rfl
    refine take_ (i:=5) (N:=some 24) (v:=?_) (a':=?_) #[true,true,true,true,true,true,true,true,false,true,false,true,false,false,false,false,false] rfl rfl (take_ofW HT_.out HW_.out (by kernel_rfl)) (fun _ _ _ h=>h) (Or.inl ⟨by rfl,?_⟩) hHeld ?_ ?_
    rotate_left
    ·rintro w' ⟨s0,s1⟩
     go_simp
     with_reducible rfl
    rotate_left
    ·simp only [Act.put,List.setIfInBounds_toArray,List.set_cons_zero,List.set_cons_succ,i64_w,i32_w]
     rfl
    refine pure_ (i:=8) (N:=some 27) (v:=?_) (a':=?_) #[true,true,true,true,true,true,true,true,true,true,false,true,false,false,false,false,false] rfl rfl (any_of HT_.out (by kernel_rfl)) (fun _ _ _ h=>h) (Or.inl ⟨by rfl,?_⟩) ?_ ?_
    rotate_left
    ·intro w'
     go_simp
     with_reducible rfl
    rotate_left
    ·simp only [Act.put,List.setIfInBounds_toArray,List.set_cons_zero,List.set_cons_succ,i64_w,i32_w]
     rfl
    refine take_ (i:=10) (N:=some 29) (v:=?_) (a':=?_) #[true,true,true,true,true,true,true,true,true,true,true,true,false,false,false,false,false] rfl rfl (take_ofW HT_.out HW_.out (by kernel_rfl)) (fun _ _ _ h=>h) (Or.inl ⟨by rfl,?_⟩) hHeld ?_ ?_
    rotate_left
    ·rintro w' ⟨s0,s1⟩
     go_simp
     with_reducible rfl
    rotate_left
    ·simp only [Act.put,List.setIfInBounds_toArray,List.set_cons_zero,List.set_cons_succ,i64_w,i32_w]
     rfl
    refine pure_ (i:=12) (N:=some 31) (v:=?_) (a':=?_) #[true,true,true,true,true,true,true,true,true,true,true,true,true,false,false,false,false] rfl rfl (any_of HT_.out (by kernel_rfl)) (fun _ _ _ h=>h) (Or.inl ⟨by rfl,?_⟩) ?_ ?_
    rotate_left
    ·intro w'
     go_simp
     with_reducible rfl
    rotate_left
    ·simp only [Act.put,List.setIfInBounds_toArray,List.set_cons_zero,List.set_cons_succ,i64_w,i32_w]
     rfl
    refine pure_ (i:=13) (N:=some 32) (v:=?_) (a':=?_) #[true,true,true,true,true,true,true,true,true,true,true,true,true,true,false,false,false] rfl rfl (any_of HT_.out (by kernel_rfl)) (fun _ _ _ h=>h) (Or.inl ⟨by rfl,?_⟩) ?_ ?_
    rotate_left
    ·intro w'
     go_simp
     with_reducible rfl
    rotate_left
    ·simp only [Act.put,List.setIfInBounds_toArray,List.set_cons_zero,List.set_cons_succ,i64_w,i32_w]
     rfl
    refine pure_ (i:=14) (N:=some 33) (v:=?_) (a':=?_) #[true,true,true,true,true,true,true,true,true,true,true,true,true,true,true,false,false] rfl rfl (any_of HT_.out (by kernel_rfl)) (fun _ _ _ h=>h) (Or.inl ⟨by rfl,?_⟩) ?_ ?_
    rotate_left
    ·intro w'
     go_simp
     with_reducible rfl
    rotate_left
    ·simp only [Act.put,List.setIfInBounds_toArray,List.set_cons_zero,List.set_cons_succ,i64_w,i32_w]
     rfl
    refine pure_ (i:=15) (N:=some 34) (v:=?_) (a':=?_) #[true,true,true,true,true,true,true,true,true,true,true,true,true,true,true,true,false] rfl rfl (any_of HT_.out (by kernel_rfl)) (fun _ _ _ h=>h) (Or.inl ⟨by rfl,?_⟩) ?_ ?_
    rotate_left
    ·intro w'
     go_simp
     with_reducible rfl
    rotate_left
    ·simp only [Act.put,List.setIfInBounds_toArray,List.set_cons_zero,List.set_cons_succ,i64_w,i32_w]
     rfl
    refine one_ (i:=16) (N:=none) #[true,true,true,true,true,true,true,true,true,true,true,true,true,true,true,true,true] rfl rfl (one_of HT_.out (by kernel_rfl)) (by decide) (fun K hK=>?_)
    have hs30:w29.cell? ⟨gb168,0,none⟩=some (.int .i64 0):=(blk_cell BK168.out 0).trans rfl
    have hfs30:=blk_frozen BK168.out 0
    have hns30_0:=NB167_168.out
    have hms30_0:=NB168_167.out
    have hs31:w29.cell? ⟨gb168,1,none⟩=some (.int .i64 0):=(blk_cell BK168.out 1).trans rfl
    have hfs31:=blk_frozen BK168.out 1
    have hns31_0:=NB167_168.out
    have hms31_0:=NB168_167.out
    refine skip_ (w1:=?_) (by rfl) rfl ?_ ?_
    rotate_left
    ·go_simp
     rfl
    refine hK.out _ _ ⟨((cell_far (p:=⟨gb168,_,none⟩) NB167_168.out _).trans (((cell_far (p:=⟨gb168,_,none⟩) NB167_168.out _).trans (hHeld.1)))),((cell_far (p:=⟨gb168,_,none⟩) NB167_168.out _).trans (((cell_far (p:=⟨gb168,_,none⟩) NB167_168.out _).trans (hHeld.2))))⟩ (fun hHeld=>?_)
    clear hK K
    refine done_ (done_of HT_.out (by kernel_rfl)) ?_
    try go_wp2
    refine bodyPost_ret (results_cell_row rfl _ _ gb168 59 #[.int .i64 ji18,.int .i64 (Go.bits .and .i64 (Go.bits .or .i64 (wrap64 (t169*2^(ji19).toNat)) (ji21)) 4611686018427387903)] (0,0) _ rfl (by (with_reducible repeat (first|refine blk_drewN ?_ _|refine blk_drew ?_|refine blk_alloc ?_ _));refine blk_put (cs:=#[.int .i64 ji18,.int .i64 0]) ?_ 1 _ (by rw [←e21.out];rfl);(with_reducible repeat (first|refine blk_drewN ?_ _|refine blk_drew ?_|refine blk_alloc ?_ _));refine blk_put (cs:=#[.int .i64 0,.int .i64 0]) ?_ 0 _ (by rw [←e18.out];rfl);(with_reducible repeat (first|refine blk_drewN ?_ _|refine blk_drew ?_|refine blk_alloc ?_ _));exact BK168.out) Try.underlying59 rfl (by kernel_rfl)) rfl ?_
    exact⟨by first|rfl|(simp [errW_none,errW_some]<;>rfl)|(simp only [←hji4,←hji5,←hji18,←hji19,←hji21];first|rfl|(simp [errW_none,errW_some]<;>rfl))|(simp [*,errW_none,errW_some]<;>rfl),by repeat (first|(with_reducible first|exact HB.out|apply below_alloc|apply pw_below_drewN|apply below_drew1|refine below_set ?_ GE167.out|refine below_set ?_ GE168.out)|exact HB.out)⟩
  ·rw [if_neg c20] at H
   exact absurd H (by simp)
end Go.Proofs.Ytonfobdknnlbjaa.B
end
