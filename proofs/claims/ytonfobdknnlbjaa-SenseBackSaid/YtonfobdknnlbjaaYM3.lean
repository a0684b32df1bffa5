/- Lemmas of the rows, laid by a program. -/
import Derived.Test.YtonfobdknnlbjaaYM1
import Derived.Test.YtonfobdknnlbjaaYM2
import Derived.WalkKit
section
set_option linter.unusedVariables false
set_option linter.unusedSimpArgs false
namespace Go.Proofs.Ytonfobdknnlbjaa.B
open Go.RowKit Go.Proofs.YtonfobdknnlbjaaW.PrintWords Go.Proofs.YtonfobdknnlbjaaW.PrintLast Go.Proofs.YtonfobdknnlbjaaW.PrintMore
attribute [local go_sem] max2_int min2_int max_two min_two max_three min_three max_four min_four
set_option linter.unusedVariables false
set_option linter.unusedSimpArgs false
def wide_Down.f (a0_0:Int) (a0_1:Int) (a1:Int):Option (Int × Int):=(wide_known.f a0_0 a0_1).bind fun bt169=>(if (mx 0 (mn a1 200)) ≥ 62 then (if 0≤(mn ((mx 0 (mn a1 200))-62) 62) then ((wide_Of.f (bt169.1/2^(mn ((mx 0 (mn a1 200))-62) 62).toNat)).bind fun bt171=>(some (bt171.1,bt171.2))) else (none)) else (if 0≤(62-(mx 0 (mn a1 200))) then (some (shr .i64 bt169.1 (mx 0 (mn a1 200)),Go.bits .and .i64 (Go.bits .or .i64 (wrap64 (bt169.1*2^(62-(mx 0 (mn a1 200))).toNat)) (shr .i64 bt169.2 (mx 0 (mn a1 200)))) 4611686018427387903)) else (none)))
def wide_Down.T5:Bool × List (List Nat × List Nat):=(true,[([],[]),([0],[0]),([],[]),([1,2],[1,2]),([],[]),([4],[4]),([],[]),([6],[6]),([5,7],[5,7]),([],[]),([9],[9]),([],[]),([10,11],[10,11]),([8,12],[8,12]),([13],[13]),([3,14],[3,14]),([15,0,1,2,3,4,5,6,7,8,9,10,11,12,13,14,15],[15])])
def wide_Down.B5:List Nat:=[0,1,0,7,0,16,0,64,240,0,512,0,3584,8176,16368,32767,65535]
theorem wide_Down.tab5:rtab .any (opsOf Try.f78 5)=wide_Down.T5:=by kernel_rfl
theorem wide_Down.bits5:waitsOk wide_Down.T5.2 wide_Down.B5=true:=by kernel_rfl
set_option maxHeartbeats 8000000 in
set_option maxRecDepth 100000 in
theorem wide_Down.calls (a0_0:Int) (a0_1:Int) (a1:Int) (r1:Int) (r2:Int) (w:World) (h:wide_Down.f a0_0 a0_1 a1=some (r1,r2)) :
  Calls Try.prog 78 #[.agg #[.int .i64 a0_0,.int .i64 a0_1],.int .i64 a1] w fun e w'=>e=.returned (.agg #[.int .i64 r1,.int .i64 r2])∧Below w.heap.size w w':=by
 have hu59:=Try.underlying59
 have HB:=Aside0.mk (Below.refl w.heap.size w)
 have H:((wide_known.f a0_0 a0_1).bind fun bt169=>(if (mx 0 (mn a1 200)) ≥ 62 then (if 0≤(mn ((mx 0 (mn a1 200))-62) 62) then ((wide_Of.f (bt169.1/2^(mn ((mx 0 (mn a1 200))-62) 62).toNat)).bind fun bt171=>(some (bt171.1,bt171.2))) else (none)) else (if 0≤(62-(mx 0 (mn a1 200))) then (some (shr .i64 bt169.1 (mx 0 (mn a1 200)),Go.bits .and .i64 (Go.bits .or .i64 (wrap64 (bt169.1*2^(62-(mx 0 (mn a1 200))).toNat)) (shr .i64 bt169.2 (mx 0 (mn a1 200)))) 4611686018427387903)) else (none))))=some (r1,r2):=h
 clear h
 replace H:=Option.bind_eq_some_iff.mp H
 obtain⟨⟨t169,t170⟩,A30,H⟩:=H
 replace H:(if (mx 0 (mn a1 200)) ≥ 62 then (if 0≤(mn ((mx 0 (mn a1 200))-62) 62) then ((wide_Of.f (t169/2^(mn ((mx 0 (mn a1 200))-62) 62).toNat)).bind fun bt171=>(some (bt171.1,bt171.2))) else (none)) else (if 0≤(62-(mx 0 (mn a1 200))) then (some (shr .i64 t169 (mx 0 (mn a1 200)),Go.bits .and .i64 (Go.bits .or .i64 (wrap64 (t169*2^(62-(mx 0 (mn a1 200))).toNat)) (shr .i64 t170 (mx 0 (mn a1 200)))) 4611686018427387903)) else (none)))=some (r1,r2):=H
 have A3:=Aside0.mk A30
 clear A30
 obtain⟨ji4,hji4⟩:∃ j_:Int,(mn a1 200)=j_:=⟨_,rfl⟩
 replace H:(if (mx 0 (ji4)) ≥ 62 then (if 0≤(mn ((mx 0 (ji4))-62) 62) then ((wide_Of.f (t169/2^(mn ((mx 0 (ji4))-62) 62).toNat)).bind fun bt171=>(some (bt171.1,bt171.2))) else (none)) else (if 0≤(62-(mx 0 (ji4))) then (some (shr .i64 t169 (mx 0 (ji4)),Go.bits .and .i64 (Go.bits .or .i64 (wrap64 (t169*2^(62-(mx 0 (ji4))).toNat)) (shr .i64 t170 (mx 0 (ji4)))) 4611686018427387903)) else (none)))=some (r1,r2):=by first|(rw [hji4] at H;exact H)|(simp only [hji4] at H ⊢;exact H)
 (try rw [hji4] at A3)
 (try (have hji4h:ji4≤200:=by (rw [←hji4];unfold mn;(repeat' split)<;>omega)))
 (try (have hji4g:ji4≤64:=by omega))
 have hji4_:(if 200<a1 then 200 else a1)=ji4:=hji4
 obtain⟨ji5,hji5⟩:∃ j_:Int,(mx 0 (ji4))=j_:=⟨_,rfl⟩
 replace H:(if (ji5) ≥ 62 then (if 0≤(mn ((ji5)-62) 62) then ((wide_Of.f (t169/2^(mn ((ji5)-62) 62).toNat)).bind fun bt171=>(some (bt171.1,bt171.2))) else (none)) else (if 0≤(62-(ji5)) then (some (shr .i64 t169 (ji5),Go.bits .and .i64 (Go.bits .or .i64 (wrap64 (t169*2^(62-(ji5)).toNat)) (shr .i64 t170 (ji5))) 4611686018427387903)) else (none)))=some (r1,r2):=by first|(rw [hji5] at H;exact H)|(simp only [hji5] at H ⊢;exact H)
 (try rw [hji5] at A3)
 have hji5_:(if 0<(ji4) then (ji4) else 0)=ji5:=hji5
 have q0:0≤ji5:=by (rw [←hji5];unfold mx;split<;>omega)
 by_cases c6:(ji5) ≥ 62
 ·rw [if_pos c6] at H
  have c6b0:decide (62≤(ji5))=true:=decide_eq_true c6
  clear c6
  obtain⟨ji7,hji7⟩:∃ j_:Int,(mn ((ji5)-62) 62)=j_:=⟨_,rfl⟩
  replace H:(if 0≤(ji7) then ((wide_Of.f (t169/2^(ji7).toNat)).bind fun bt171=>(some (bt171.1,bt171.2))) else (none))=some (r1,r2):=by first|(rw [hji7] at H;exact H)|(simp only [hji7] at H ⊢;exact H)
  (try rw [hji7] at A3)
  have hji7_:(if 62<((ji5)-62) then 62 else ((ji5)-62))=ji7:=hji7
  have hji7h:ji7≤62:=by (rw [←hji7];unfold mn;(repeat' split)<;>omega)
  have hji7g:ji7≤64:=by omega
  by_cases c8:0≤(ji7)
  ·rw [if_pos c8] at H
   have c8b0:=eq_true c8
   have c8b1:decide (0≤(ji7))=true:=decide_eq_true c8
   clear c8
   replace H:=Option.bind_eq_some_iff.mp H
   obtain⟨⟨t171,t172⟩,A90,H⟩:=H
   replace H:(some (t171,t172))=some (r1,r2):=H
   have A9:=Aside0.mk A90
   clear A90
   simp only [Option.some.injEq,Prod.mk.injEq] at H
   obtain⟨rfl,rfl⟩:=H
   go_enter Try.func78,Try.ntmps78
   go_wp2_with (first|((with_reducible refine gate_dst (N:=2) rfl ?_);refine box_event ?hg (N:=2) ?hd (cs:=#[.int .i64 a0_0,.int .i64 a0_1]) (t:=59) ?hr ?_;(case hd=>rfl);(case hg=>rfl);(case hr=>first|(go_simp;done)|(go_simp;rfl));intro gb167 hg w10 hbox hb;have n0_:=Aside0.mk (below_step (by first|with_reducible exact HB.out|exact bl HB) hb);have n1_:=Aside0.mk (hbox);have n2_:=Aside0.mk ((by rw [hg];exact(below_size (by first|with_reducible exact HB.out|exact bl HB)):w.heap.size≤gb167));have n3_:=Aside0.mk ((by rw [hg];exact(below_size (by first|with_reducible exact HB.out|exact bl HB)):w.heap.size≤gb167));clear HB;have HB:=n0_;have BK167:=n1_;have GW167:=n2_;have GE167:=n3_;clear n0_ n1_ n2_ n3_;clear hb hbox hg)|((with_reducible refine gate_dst (N:=4) rfl ?_);refine box_event ?hg (N:=4) ?hd (cs:=#[.int .i64 0,.int .i64 0]) (t:=59) ?hr ?_;(case hd=>rfl);(case hg=>rfl);(case hr=>first|(go_simp;done)|(go_simp;rfl));intro gb168 hg w11 hbox hb;have n0_:=Aside0.mk (blk_below (bk BK167.out) hb);have n1_:=Aside0.mk (below_step (by repeat (first|with_reducible exact HB.out|exact bl HB|refine bs ?_ GE167)) hb);have n2_:=Aside0.mk (hbox);have n3_:=Aside0.mk ((by rw [hg];exact(below_size (by repeat (first|with_reducible exact HB.out|exact bl HB|refine bs ?_ GE167))):w.heap.size≤gb168));have n4_:=Aside0.mk ((by rw [hg];exact(below_size (by repeat (first|with_reducible exact HB.out|exact bl HB|refine bs ?_ GE167))):w.heap.size≤gb168));have n5_:=Aside0.mk ((by rw [hg];exact Nat.ne_of_lt (blk_lt (bk BK167.out)):gb167≠gb168));have n6_:=Aside0.mk ((by rw [hg];exact Nat.ne_of_gt (blk_lt (bk BK167.out)):gb168≠gb167));clear BK167;clear HB;have BK167:=n0_;have HB:=n1_;have BK168:=n2_;have GW168:=n3_;have GE168:=n4_;have NB167_168:=n5_;have NB168_167:=n6_;clear n0_ n1_ n2_ n3_ n4_ n5_ n6_;clear hb hbox hg;have hnb12:=NB167_168.out;have hnc12:=NB168_167.out;have hcz13_0:w11.cell? ⟨gb167,0,none⟩=some (.int .i64 a0_0):=(blk_cell BK167.out 0).trans rfl;have hcz13_1:w11.cell? ⟨gb167,1,none⟩=some (.int .i64 a0_1):=(blk_cell BK167.out 1).trans rfl;have hfz13_0:=blk_frozen BK167.out 0;have hfz13_1:=blk_frozen BK167.out 1)|((with_reducible refine gate_callee (f:=86) rfl ?_);refine goesL_ (some 6) rfl rfl Try.func86 (by kernel_rfl) rfl #[.agg #[.int .i64 a0_0,.int .i64 a0_1]] rfl (by exact mA _ _) ?_;(with_reducible refine(wide_known.calls a0_0 a0_1 t169 t170 _ A3.out).mono ?_);rintro e w14 ⟨rfl,hb⟩;refine⟨_,rfl,?_⟩;have n0_:=Aside0.mk (blk_below (bk BK167.out) hb);have n1_:=Aside0.mk (blk_below (bk BK168.out) hb);have n2_:=Aside0.mk (below_step (by repeat (first|with_reducible exact HB.out|exact bl HB|refine bs ?_ GE167|refine bs ?_ GE168)) hb);clear BK167;clear BK168;clear HB;have BK167:=n0_;have BK168:=n1_;have HB:=n2_;clear n0_ n1_ n2_;(try clear hb);(try clear hb2);(try clear hk);(try clear hi);have hcz15_0:w14.cell? ⟨gb167,0,none⟩=some (.int .i64 a0_0):=(blk_cell BK167.out 0).trans rfl;have hcz15_1:w14.cell? ⟨gb167,1,none⟩=some (.int .i64 a0_1):=(blk_cell BK167.out 1).trans rfl;have hfz15_0:=blk_frozen BK167.out 0;have hfz15_1:=blk_frozen BK167.out 1)|((with_reducible refine gate_callee (f:=76) rfl ?_);refine goesL_ (some 18) rfl rfl Try.func76 (by kernel_rfl) rfl #[.int .i64 (t169/2^(ji7).toNat)] rfl (by (try simp only [List.map_toArray,List.map_cons,List.map_nil]);first|done|(simp only [hji7];rfl)|rfl|(simp only [List.length_drop,List.length_take];rfl)) ?_;(with_reducible refine(wide_Of.calls (t169/2^(ji7).toNat) t171 t172 _ A9.out).mono ?_);rintro e w16 ⟨rfl,hb⟩;refine⟨_,rfl,?_⟩;have n0_:=Aside0.mk (blk_below (g:=gb167) (o:=.cells #[.int .i64 t169,.int .i64 t170] 59 (0,0)) (by try refine bk ?_;refine blk_put (cs:=#[.int .i64 t169,.int .i64 a0_1]) ?_ 1 _ rfl;try refine bk ?_;refine blk_put (cs:=#[.int .i64 a0_0,.int .i64 a0_1]) ?_ 0 _ rfl;try refine bk ?_;exact BK167.out) hb);have n1_:=Aside0.mk (blk_below (g:=gb168) (o:=.cells #[.int .i64 0,.int .i64 0] 59 (0,0)) (by try refine bk ?_;refine blk_far ?_ NB168_167.out _;try refine bk ?_;refine blk_far ?_ NB168_167.out _;try refine bk ?_;exact BK168.out) hb);have n2_:=Aside0.mk (below_step (by repeat (first|with_reducible exact HB.out|exact bl HB|refine bs ?_ GE167|refine bs ?_ GE168)) hb);clear BK167;clear BK168;clear HB;have BK167:=n0_;have BK168:=n1_;have HB:=n2_;clear n0_ n1_ n2_;(try clear hb);(try clear hb2);(try clear hk);(try clear hi);have hcz17_0:w16.cell? ⟨gb168,0,none⟩=some (.int .i64 0):=(blk_cell BK168.out 0).trans rfl;have hcz17_1:w16.cell? ⟨gb168,1,none⟩=some (.int .i64 0):=(blk_cell BK168.out 1).trans rfl;have hfz17_0:=blk_frozen BK168.out 0;have hfz17_1:=blk_frozen BK168.out 1))
   refine bodyPost_ret (results_cell_row rfl _ _ gb168 59 #[.int .i64 t171,.int .i64 t172] (0,0) _ rfl (by try refine bk ?_;refine blk_put (cs:=#[.int .i64 t171,.int .i64 0]) ?_ 1 _ rfl;try refine bk ?_;refine blk_put (cs:=#[.int .i64 0,.int .i64 0]) ?_ 0 _ rfl;try refine bk ?_;exact BK168.out) Try.underlying59 rfl (by kernel_rfl)) rfl ?_
   exact⟨by first|rfl|(simp [errW_none,errW_some]<;>rfl)|(simp only [←hji4,←hji5,←hji7];first|rfl|(simp [errW_none,errW_some]<;>rfl))|(simp [*,errW_none,errW_some]<;>rfl),by repeat (first|with_reducible exact HB.out|exact bl HB|refine bs ?_ GE167|refine bs ?_ GE168)⟩
  ·rw [if_neg c8] at H
   exact absurd H (by simp)
 ·rw [if_neg c6] at H
  have q2:ji5≤61:=by omega
  have c6b0:decide (62≤(ji5))=false:=decide_eq_false c6
  clear c6
  obtain⟨ji18,hji18⟩:∃ j_:Int,(shr .i64 t169 (ji5))=j_:=⟨_,rfl⟩
  replace H:(if 0≤(62-(ji5)) then (some (ji18,Go.bits .and .i64 (Go.bits .or .i64 (wrap64 (t169*2^(62-(ji5)).toNat)) (shr .i64 t170 (ji5))) 4611686018427387903)) else (none))=some (r1,r2):=by first|(rw [hji18] at H;exact H)|(simp only [hji18] at H ⊢;exact H)
  (try rw [hji18] at A3)
  have hji18_:(t169/2^min (ji5).toNat 64)=ji18:=hji18
  have hji18z:(ji5)≤64→(t169/2^(ji5).toNat)=ji18:=shr_small hji18
  obtain⟨ji19,hji19⟩:∃ j_:Int,(62-(ji5))=j_:=⟨_,rfl⟩
  have q3:1≤ji19:=by omega
  have q4:ji19≤62:=by omega
  replace H:(if 0≤(ji19) then (some (ji18,Go.bits .and .i64 (Go.bits .or .i64 (wrap64 (t169*2^(ji19).toNat)) (shr .i64 t170 (ji5))) 4611686018427387903)) else (none))=some (r1,r2):=by first|(rw [hji19] at H;exact H)|(simp only [hji19] at H ⊢;exact H)
  (try rw [hji19] at A3)
  by_cases c20:0≤(ji19)
  ·rw [if_pos c20] at H
   have c20b0:=eq_true c20
   have c20b1:decide (0≤(ji19))=true:=decide_eq_true c20
   clear c20
   obtain⟨ji21,hji21⟩:∃ j_:Int,(shr .i64 t170 (ji5))=j_:=⟨_,rfl⟩
   replace H:(some (ji18,Go.bits .and .i64 (Go.bits .or .i64 (wrap64 (t169*2^(ji19).toNat)) (ji21)) 4611686018427387903))=some (r1,r2):=by first|(rw [hji21] at H;exact H)|(simp only [hji21] at H ⊢;exact H)
   (try rw [hji21] at A3)
   have hji21_:(t170/2^min (ji5).toNat 64)=ji21:=hji21
   have hji21z:(ji5)≤64→(t170/2^(ji5).toNat)=ji21:=shr_small hji21
   simp only [Option.some.injEq,Prod.mk.injEq] at H
   obtain⟨rfl,rfl⟩:=H
   have q8:(0<a1∧a1=ji4∧a1=ji5)∨(a1≤0∧a1=ji4∧0=ji5):=by
    have q6:=q2
    rw [←hji5,←hji4] at q6
    rw [←hji5,←hji4]
    unfold mx mn at q6 ⊢
    (repeat' split at q6)<;>(repeat' split)<;>omega
   clear hji4_ hji5_ hji4h
   have q7:wrap64 ji19=ji19:=by (unfold wrap64;omega)
   rcases q8 with ⟨q9,rfl,rfl⟩|⟨q9,rfl,rfl⟩
   ·have e18:Aside0 (t169/2^a1.toNat=ji18):=⟨hji18z (by omega)⟩
    have e21:Aside0 (t170/2^a1.toNat=ji21):=⟨hji21z (by omega)⟩
    clear hji18 hji18_ hji18z hji21 hji21_ hji21z
    go_enter Try.func78,Try.ntmps78
    try go_wp2_with (first|((with_reducible refine gate_dst (N:=2) rfl ?_);refine box_event ?hg (N:=2) ?hd (cs:=#[.int .i64 a0_0,.int .i64 a0_1]) (t:=59) ?hr ?_;(case hd=>rfl);(case hg=>rfl);(case hr=>first|(go_simp;done)|(go_simp;rfl));intro gb167 hg w22 hbox hb;have n0_:=Aside0.mk (below_step (by first|with_reducible exact HB.out|exact bl HB) hb);have n1_:=Aside0.mk (hbox);have n2_:=Aside0.mk ((by rw [hg];exact(below_size (by first|with_reducible exact HB.out|exact bl HB)):w.heap.size≤gb167));have n3_:=Aside0.mk ((by rw [hg];exact(below_size (by first|with_reducible exact HB.out|exact bl HB)):w.heap.size≤gb167));clear HB;have HB:=n0_;have BK167:=n1_;have GW167:=n2_;have GE167:=n3_;clear n0_ n1_ n2_ n3_;clear hb hbox hg)|((with_reducible refine gate_dst (N:=4) rfl ?_);refine box_event ?hg (N:=4) ?hd (cs:=#[.int .i64 0,.int .i64 0]) (t:=59) ?hr ?_;(case hd=>rfl);(case hg=>rfl);(case hr=>first|(go_simp;done)|(go_simp;rfl));intro gb168 hg w23 hbox hb;have n0_:=Aside0.mk (blk_below (bk BK167.out) hb);have n1_:=Aside0.mk (below_step (by repeat (first|with_reducible exact HB.out|exact bl HB|refine bs ?_ GE167)) hb);have n2_:=Aside0.mk (hbox);have n3_:=Aside0.mk ((by rw [hg];exact(below_size (by repeat (first|with_reducible exact HB.out|exact bl HB|refine bs ?_ GE167))):w.heap.size≤gb168));have n4_:=Aside0.mk ((by rw [hg];exact(below_size (by repeat (first|with_reducible exact HB.out|exact bl HB|refine bs ?_ GE167))):w.heap.size≤gb168));have n5_:=Aside0.mk ((by rw [hg];exact Nat.ne_of_lt (blk_lt (bk BK167.out)):gb167≠gb168));have n6_:=Aside0.mk ((by rw [hg];exact Nat.ne_of_gt (blk_lt (bk BK167.out)):gb168≠gb167));clear BK167;clear HB;have BK167:=n0_;have HB:=n1_;have BK168:=n2_;have GW168:=n3_;have GE168:=n4_;have NB167_168:=n5_;have NB168_167:=n6_;clear n0_ n1_ n2_ n3_ n4_ n5_ n6_;clear hb hbox hg;have hnb24:=NB167_168.out;have hnc24:=NB168_167.out;have hcz25_0:w23.cell? ⟨gb167,0,none⟩=some (.int .i64 a0_0):=(blk_cell BK167.out 0).trans rfl;have hcz25_1:w23.cell? ⟨gb167,1,none⟩=some (.int .i64 a0_1):=(blk_cell BK167.out 1).trans rfl;have hfz25_0:=blk_frozen BK167.out 0;have hfz25_1:=blk_frozen BK167.out 1)|((with_reducible refine gate_callee (f:=86) rfl ?_);refine goesL_ (some 6) rfl rfl Try.func86 (by kernel_rfl) rfl #[.agg #[.int .i64 a0_0,.int .i64 a0_1]] rfl (by exact mA _ _) ?_;(with_reducible refine(wide_known.calls a0_0 a0_1 t169 t170 _ A3.out).mono ?_);rintro e w26 ⟨rfl,hb⟩;refine⟨_,rfl,?_⟩;have n0_:=Aside0.mk (blk_below (bk BK167.out) hb);have n1_:=Aside0.mk (blk_below (bk BK168.out) hb);have n2_:=Aside0.mk (below_step (by repeat (first|with_reducible exact HB.out|exact bl HB|refine bs ?_ GE167|refine bs ?_ GE168)) hb);clear BK167;clear BK168;clear HB;have BK167:=n0_;have BK168:=n1_;have HB:=n2_;clear n0_ n1_ n2_;(try clear hb);(try clear hb2);(try clear hk);(try clear hi);have hcz27_0:w26.cell? ⟨gb167,0,none⟩=some (.int .i64 a0_0):=(blk_cell BK167.out 0).trans rfl;have hcz27_1:w26.cell? ⟨gb167,1,none⟩=some (.int .i64 a0_1):=(blk_cell BK167.out 1).trans rfl;have hfz27_0:=blk_frozen BK167.out 0;have hfz27_1:=blk_frozen BK167.out 1))
    have n0_:Aside0 (((w26.setCell ⟨gb167,0,none⟩ (.int .i64 t169)).setCell ⟨gb167,1,none⟩ (.int .i64 t170)).heap[gb167]? = some (.cells #[.int .i64 t169,.int .i64 t170] 59 (0,0))):=⟨by try refine bk ?_;refine blk_put (cs:=#[.int .i64 t169,.int .i64 a0_1]) ?_ 1 _ rfl;try refine bk ?_;refine blk_put (cs:=#[.int .i64 a0_0,.int .i64 a0_1]) ?_ 0 _ rfl;try refine bk ?_;exact BK167.out⟩
    have n1_:Aside0 (((w26.setCell ⟨gb167,0,none⟩ (.int .i64 t169)).setCell ⟨gb167,1,none⟩ (.int .i64 t170)).heap[gb168]? = some (.cells #[.int .i64 0,.int .i64 0] 59 (0,0))):=⟨by try refine bk ?_;refine blk_far ?_ NB168_167.out _;try refine bk ?_;refine blk_far ?_ NB168_167.out _;try refine bk ?_;exact BK168.out⟩
    have n2_:Aside0 (Below w.heap.size w ((w26.setCell ⟨gb167,0,none⟩ (.int .i64 t169)).setCell ⟨gb167,1,none⟩ (.int .i64 t170))):=⟨by repeat (first|with_reducible exact HB.out|exact bl HB|refine bs ?_ GE167|refine bs ?_ GE168)⟩
    (try clear BK167)
    (try clear BK168)
    (try clear HB)
    generalize ((w26.setCell ⟨gb167,0,none⟩ (.int .i64 t169)).setCell ⟨gb167,1,none⟩ (.int .i64 t170))=w28 at n0_ n1_ n2_ ⊢
    have BK167:=n0_
    have BK168:=n1_
    have HB:=n2_
    clear n0_ n1_ n2_
    have n0_:=Aside0.mk (blk_drew BK167.out)
    have n1_:=Aside0.mk (blk_drew BK168.out)
    have n2_:=Aside0.mk (below_drew1 HB.out)
    clear BK167
    clear BK168
    clear HB
    have BK167:=n0_
    have BK168:=n1_
    have HB:=n2_
    clear n0_ n1_ n2_
    refine start_ (n:=17) (S:=fun w'=>w'.cell? ⟨gb167,0,none⟩=some (.int .i64 t169)∧w'.cell? ⟨gb167,1,none⟩=some (.int .i64 t170)) (ds:=[]) #[ff,ff,ff,ff,ff,ff,ff,ff,ff,ff,ff,ff,ff,ff,ff,ff,ff] (by kernel_rfl) rfl rfl ⟨(blk_cell BK167.out 0).trans rfl,(blk_cell BK167.out 1).trans rfl⟩ (fun hHeld=>?_);refine with_tabW wide_Down.tab5 wide_Down.bits5 (fun HT_ HW_=>?_)
    generalize w28.drew=w29 at BK167 BK168 HB hHeld ⊢
    refine pure_ (i:=0) (N:=some 19) (v:=?_) (a':=?_) #[tt,ff,ff,ff,ff,ff,ff,ff,ff,ff,ff,ff,ff,ff,ff,ff,ff] rfl rfl (any_of HT_.out (by kernel_rfl)) (fun _ _ _ h=>h) (Or.inl ⟨by rfl,?_⟩) ?_ ?_
    rotate_left
    ·intro w'
     go_simp
     with_reducible rfl
    rotate_left
    ·simp only [Act.put,List.setIfInBounds_toArray,List.set_cons_zero,List.set_cons_succ,i64_w,i32_w]
     rfl
    refine pure_ (i:=2) (N:=some 21) (v:=?_) (a':=?_) #[tt,ff,tt,ff,ff,ff,ff,ff,ff,ff,ff,ff,ff,ff,ff,ff,ff] rfl rfl (any_of HT_.out (by kernel_rfl)) (fun _ _ _ h=>h) (Or.inl ⟨by rfl,?_⟩) ?_ ?_
    rotate_left
    ·intro w'
     go_simp
     with_reducible rfl
    rotate_left
    ·simp only [Act.put,List.setIfInBounds_toArray,List.set_cons_zero,List.set_cons_succ,i64_w,i32_w]
     rfl
    refine pure_ (i:=4) (N:=some 23) (v:=?_) (a':=?_) #[tt,ff,tt,ff,tt,ff,ff,ff,ff,ff,ff,ff,ff,ff,ff,ff,ff] rfl rfl (any_of HT_.out (by kernel_rfl)) (fun _ _ _ h=>h) (Or.inl ⟨by rfl,?_⟩) ?_ ?_
    rotate_left
    ·intro w'
     go_simp
     with_reducible rfl
    rotate_left
    ·simp only [Act.put,List.setIfInBounds_toArray,List.set_cons_zero,List.set_cons_succ,i64_w,i32_w]
     rfl
    refine pure_ (i:=6) (N:=some 25) (v:=?_) (a':=?_) #[tt,ff,tt,ff,tt,ff,tt,ff,ff,ff,ff,ff,ff,ff,ff,ff,ff] rfl rfl (any_of HT_.out (by kernel_rfl)) (fun _ _ _ h=>h) (Or.inl ⟨by rfl,?_⟩) ?_ ?_
    rotate_left
    ·intro w'
     go_simp
     with_reducible rfl
    rotate_left
    ·simp only [Act.put,List.setIfInBounds_toArray,List.set_cons_zero,List.set_cons_succ,i64_w,i32_w]
     rfl
    refine pure_ (i:=7) (N:=some 26) (v:=?_) (a':=?_) #[tt,ff,tt,ff,tt,ff,tt,tt,ff,ff,ff,ff,ff,ff,ff,ff,ff] rfl rfl (any_of HT_.out (by kernel_rfl)) (fun _ _ _ h=>h) (Or.inl ⟨by rfl,?_⟩) ?_ ?_
    rotate_left
    ·intro w'
     go_simp
     with_reducible rfl
    rotate_left
    ·simp only [Act.put,List.setIfInBounds_toArray,List.set_cons_zero,List.set_cons_succ,i64_w,i32_w]
     rfl
    refine pure_ (i:=9) (N:=some 28) (v:=?_) (a':=?_) #[tt,ff,tt,ff,tt,ff,tt,tt,ff,tt,ff,ff,ff,ff,ff,ff,ff] rfl rfl (any_of HT_.out (by kernel_rfl)) (fun _ _ _ h=>h) (Or.inl ⟨by rfl,?_⟩) ?_ ?_
    rotate_left
    ·intro w'
     go_simp
     with_reducible rfl
    rotate_left
    ·simp only [Act.put,List.setIfInBounds_toArray,List.set_cons_zero,List.set_cons_succ,i64_w,i32_w]
     rfl
    refine pure_ (i:=11) (N:=some 30) (v:=?_) (a':=?_) #[tt,ff,tt,ff,tt,ff,tt,tt,ff,tt,ff,tt,ff,ff,ff,ff,ff] rfl rfl (any_of HT_.out (by kernel_rfl)) (fun _ _ _ h=>h) (Or.inl ⟨by rfl,?_⟩) ?_ ?_
    rotate_left
    ·intro w'
     go_simp
     with_reducible rfl
    rotate_left
    ·simp only [Act.put,List.setIfInBounds_toArray,List.set_cons_zero,List.set_cons_succ,i64_w,i32_w]
     rfl
    refine take_ (i:=1) (N:=some 20) (v:=?_) (a':=?_) #[tt,tt,tt,ff,tt,ff,tt,tt,ff,tt,ff,tt,ff,ff,ff,ff,ff] rfl rfl (take_ofW HT_.out HW_.out (by kernel_rfl)) (fun _ _ _ h=>h) (Or.inl ⟨by rfl,?_⟩) hHeld ?_ ?_
    rotate_left
    ·rintro w' ⟨s0,s1⟩
     go_simp
     with_reducible rfl
    rotate_left
    ·simp only [Act.put,List.setIfInBounds_toArray,List.set_cons_zero,List.set_cons_succ,i64_w,i32_w]
     rfl
    refine pure_ (i:=3) (N:=some 22) (v:=?_) (a':=?_) #[tt,tt,tt,tt,tt,ff,tt,tt,ff,tt,ff,tt,ff,ff,ff,ff,ff] rfl rfl (any_of HT_.out (by kernel_rfl)) (fun _ _ _ h=>h) (Or.inl ⟨by rfl,?_⟩) ?_ ?_
    rotate_left
    ·intro w'
     go_simp
     with_reducible rfl
    rotate_left
    ·simp only [Act.put,List.setIfInBounds_toArray,List.set_cons_zero,List.set_cons_succ,i64_w,i32_w]
     rfl
    refine take_ (i:=5) (N:=some 24) (v:=?_) (a':=?_) #[tt,tt,tt,tt,tt,tt,tt,tt,ff,tt,ff,tt,ff,ff,ff,ff,ff] rfl rfl (take_ofW HT_.out HW_.out (by kernel_rfl)) (fun _ _ _ h=>h) (Or.inl ⟨by rfl,?_⟩) hHeld ?_ ?_
    rotate_left
    ·rintro w' ⟨s0,s1⟩
     go_simp
     with_reducible rfl
    rotate_left
    ·simp only [Act.put,List.setIfInBounds_toArray,List.set_cons_zero,List.set_cons_succ,i64_w,i32_w]
     rfl
    refine pure_ (i:=8) (N:=some 27) (v:=?_) (a':=?_) #[tt,tt,tt,tt,tt,tt,tt,tt,tt,tt,ff,tt,ff,ff,ff,ff,ff] rfl rfl (any_of HT_.out (by kernel_rfl)) (fun _ _ _ h=>h) (Or.inl ⟨by rfl,?_⟩) ?_ ?_
    rotate_left
    ·intro w'
     go_simp
     with_reducible rfl
    rotate_left
    ·simp only [Act.put,List.setIfInBounds_toArray,List.set_cons_zero,List.set_cons_succ,i64_w,i32_w]
     rfl
    refine take_ (i:=10) (N:=some 29) (v:=?_) (a':=?_) #[tt,tt,tt,tt,tt,tt,tt,tt,tt,tt,tt,tt,ff,ff,ff,ff,ff] rfl rfl (take_ofW HT_.out HW_.out (by kernel_rfl)) (fun _ _ _ h=>h) (Or.inl ⟨by rfl,?_⟩) hHeld ?_ ?_
    rotate_left
    ·rintro w' ⟨s0,s1⟩
     go_simp
     with_reducible rfl
    rotate_left
    ·simp only [Act.put,List.setIfInBounds_toArray,List.set_cons_zero,List.set_cons_succ,i64_w,i32_w]
     rfl
    refine pure_ (i:=12) (N:=some 31) (v:=?_) (a':=?_) #[tt,tt,tt,tt,tt,tt,tt,tt,tt,tt,tt,tt,tt,ff,ff,ff,ff] rfl rfl (any_of HT_.out (by kernel_rfl)) (fun _ _ _ h=>h) (Or.inl ⟨by rfl,?_⟩) ?_ ?_
    rotate_left
    ·intro w'
     go_simp
     with_reducible rfl
    rotate_left
    ·simp only [Act.put,List.setIfInBounds_toArray,List.set_cons_zero,List.set_cons_succ,i64_w,i32_w]
     rfl
    refine pure_ (i:=13) (N:=some 32) (v:=?_) (a':=?_) #[tt,tt,tt,tt,tt,tt,tt,tt,tt,tt,tt,tt,tt,tt,ff,ff,ff] rfl rfl (any_of HT_.out (by kernel_rfl)) (fun _ _ _ h=>h) (Or.inl ⟨by rfl,?_⟩) ?_ ?_
    rotate_left
    ·intro w'
     go_simp
     with_reducible rfl
    rotate_left
    ·simp only [Act.put,List.setIfInBounds_toArray,List.set_cons_zero,List.set_cons_succ,i64_w,i32_w]
     rfl
    refine pure_ (i:=14) (N:=some 33) (v:=?_) (a':=?_) #[tt,tt,tt,tt,tt,tt,tt,tt,tt,tt,tt,tt,tt,tt,tt,ff,ff] rfl rfl (any_of HT_.out (by kernel_rfl)) (fun _ _ _ h=>h) (Or.inl ⟨by rfl,?_⟩) ?_ ?_
    rotate_left
    ·intro w'
     go_simp
     with_reducible rfl
    rotate_left
    ·simp only [Act.put,List.setIfInBounds_toArray,List.set_cons_zero,List.set_cons_succ,i64_w,i32_w]
     rfl
    refine pure_ (i:=15) (N:=some 34) (v:=?_) (a':=?_) #[tt,tt,tt,tt,tt,tt,tt,tt,tt,tt,tt,tt,tt,tt,tt,tt,ff] rfl rfl (any_of HT_.out (by kernel_rfl)) (fun _ _ _ h=>h) (Or.inl ⟨by rfl,?_⟩) ?_ ?_
    rotate_left
    ·intro w'
     go_simp
     with_reducible rfl
    rotate_left
    ·simp only [Act.put,List.setIfInBounds_toArray,List.set_cons_zero,List.set_cons_succ,i64_w,i32_w]
     rfl
    refine one_ (i:=16) (N:=none) #[tt,tt,tt,tt,tt,tt,tt,tt,tt,tt,tt,tt,tt,tt,tt,tt,tt] rfl rfl (one_of HT_.out (by kernel_rfl)) (by decide) (fun K hK=>?_)
    have hs30:w29.cell? ⟨gb168,0,none⟩=some (.int .i64 0):=(blk_cell BK168.out 0).trans rfl
    have hfs30:=blk_frozen BK168.out 0
    have hns30_0:=NB167_168.out
    have hms30_0:=NB168_167.out
    have hs31:w29.cell? ⟨gb168,1,none⟩=some (.int .i64 0):=(blk_cell BK168.out 1).trans rfl
    have hfs31:=blk_frozen BK168.out 1
    have hns31_0:=NB167_168.out
    have hms31_0:=NB168_167.out
    refine skip_ (w1:=?_) (by rfl) rfl ?_ ?_
    rotate_left
    ·go_simp
     rfl
    refine hK.out _ _ ⟨((cell_far (p:=⟨gb168,_,none⟩) NB167_168.out _).trans (((cell_far (p:=⟨gb168,_,none⟩) NB167_168.out _).trans (hHeld.1)))),((cell_far (p:=⟨gb168,_,none⟩) NB167_168.out _).trans (((cell_far (p:=⟨gb168,_,none⟩) NB167_168.out _).trans (hHeld.2))))⟩ (fun hHeld=>?_)
    clear hK K
    refine done_ (done_of HT_.out (by kernel_rfl)) ?_
    try go_wp2
    refine bodyPost_ret (results_cell_row rfl _ _ gb168 59 #[.int .i64 ji18,.int .i64 (Go.bits .and .i64 (Go.bits .or .i64 (wrap64 (t169*2^(ji19).toNat)) (ji21)) 4611686018427387903)] (0,0) _ rfl (by try refine bk ?_;refine blk_put (cs:=#[.int .i64 ji18,.int .i64 0]) ?_ 1 _ (by rw [←e21.out];rfl);try refine bk ?_;refine blk_put (cs:=#[.int .i64 0,.int .i64 0]) ?_ 0 _ (by rw [←e18.out];rfl);try refine bk ?_;exact BK168.out) Try.underlying59 rfl (by kernel_rfl)) rfl ?_
    exact⟨by first|rfl|(simp [errW_none,errW_some]<;>rfl)|(simp only [←hji4,←hji5,←hji18,←hji19,←hji21];first|rfl|(simp [errW_none,errW_some]<;>rfl))|(simp [*,errW_none,errW_some]<;>rfl),by repeat (first|with_reducible exact HB.out|exact bl HB|refine bs ?_ GE167|refine bs ?_ GE168)⟩
   ·have e18:Aside0 (t169=ji18):=⟨by (have z:=hji18z (by omega);simpa using z)⟩
    have e21:Aside0 (t170=ji21):=⟨by (have z:=hji21z (by omega);simpa using z)⟩
    clear hji18 hji18_ hji18z hji21 hji21_ hji21z
    go_enter Try.func78,Try.ntmps78
    try go_wp2_with (first|((with_reducible refine gate_dst (N:=2) rfl ?_);refine box_event ?hg (N:=2) ?hd (cs:=#[.int .i64 a0_0,.int .i64 a0_1]) (t:=59) ?hr ?_;(case hd=>rfl);(case hg=>rfl);(case hr=>first|(go_simp;done)|(go_simp;rfl));intro gb167 hg w22 hbox hb;have n0_:=Aside0.mk (below_step (by first|with_reducible exact HB.out|exact bl HB) hb);have n1_:=Aside0.mk (hbox);have n2_:=Aside0.mk ((by rw [hg];exact(below_size (by first|with_reducible exact HB.out|exact bl HB)):w.heap.size≤gb167));have n3_:=Aside0.mk ((by rw [hg];exact(below_size (by first|with_reducible exact HB.out|exact bl HB)):w.heap.size≤gb167));clear HB;have HB:=n0_;have BK167:=n1_;have GW167:=n2_;have GE167:=n3_;clear n0_ n1_ n2_ n3_;clear hb hbox hg)|((with_reducible refine gate_dst (N:=4) rfl ?_);refine box_event ?hg (N:=4) ?hd (cs:=#[.int .i64 0,.int .i64 0]) (t:=59) ?hr ?_;(case hd=>rfl);(case hg=>rfl);(case hr=>first|(go_simp;done)|(go_simp;rfl));intro gb168 hg w23 hbox hb;have n0_:=Aside0.mk (blk_below (bk BK167.out) hb);have n1_:=Aside0.mk (below_step (by repeat (first|with_reducible exact HB.out|exact bl HB|refine bs ?_ GE167)) hb);have n2_:=Aside0.mk (hbox);have n3_:=Aside0.mk ((by rw [hg];exact(below_size (by repeat (first|with_reducible exact HB.out|exact bl HB|refine bs ?_ GE167))):w.heap.size≤gb168));have n4_:=Aside0.mk ((by rw [hg];exact(below_size (by repeat (first|with_reducible exact HB.out|exact bl HB|refine bs ?_ GE167))):w.heap.size≤gb168));have n5_:=Aside0.mk ((by rw [hg];exact Nat.ne_of_lt (blk_lt (bk BK167.out)):gb167≠gb168));have n6_:=Aside0.mk ((by rw [hg];exact Nat.ne_of_gt (blk_lt (bk BK167.out)):gb168≠gb167));clear BK167;clear HB;have BK167:=n0_;have HB:=n1_;have BK168:=n2_;have GW168:=n3_;have GE168:=n4_;have NB167_168:=n5_;have NB168_167:=n6_;clear n0_ n1_ n2_ n3_ n4_ n5_ n6_;clear hb hbox hg;have hnb24:=NB167_168.out;have hnc24:=NB168_167.out;have hcz25_0:w23.cell? ⟨gb167,0,none⟩=some (.int .i64 a0_0):=(blk_cell BK167.out 0).trans rfl;have hcz25_1:w23.cell? ⟨gb167,1,none⟩=some (.int .i64 a0_1):=(blk_cell BK167.out 1).trans rfl;have hfz25_0:=blk_frozen BK167.out 0;have hfz25_1:=blk_frozen BK167.out 1)|((with_reducible refine gate_callee (f:=86) rfl ?_);refine goesL_ (some 6) rfl rfl Try.func86 (by kernel_rfl) rfl #[.agg #[.int .i64 a0_0,.int .i64 a0_1]] rfl (by exact mA _ _) ?_;(with_reducible refine(wide_known.calls a0_0 a0_1 t169 t170 _ A3.out).mono ?_);rintro e w26 ⟨rfl,hb⟩;refine⟨_,rfl,?_⟩;have n0_:=Aside0.mk (blk_below (bk BK167.out) hb);have n1_:=Aside0.mk (blk_below (bk BK168.out) hb);have n2_:=Aside0.mk (below_step (by repeat (first|with_reducible exact HB.out|exact bl HB|refine bs ?_ GE167|refine bs ?_ GE168)) hb);clear BK167;clear BK168;clear HB;have BK167:=n0_;have BK168:=n1_;have HB:=n2_;clear n0_ n1_ n2_;(try clear hb);(try clear hb2);(try clear hk);(try clear hi);have hcz27_0:w26.cell? ⟨gb167,0,none⟩=some (.int .i64 a0_0):=(blk_cell BK167.out 0).trans rfl;have hcz27_1:w26.cell? ⟨gb167,1,none⟩=some (.int .i64 a0_1):=(blk_cell BK167.out 1).trans rfl;have hfz27_0:=blk_frozen BK167.out 0;have hfz27_1:=blk_frozen BK167.out 1))
    have n0_:Aside0 (((w26.setCell ⟨gb167,0,none⟩ (.int .i64 t169)).setCell ⟨gb167,1,none⟩ (.int .i64 t170)).heap[gb167]? = some (.cells #[.int .i64 t169,.int .i64 t170] 59 (0,0))):=⟨by try refine bk ?_;refine blk_put (cs:=#[.int .i64 t169,.int .i64 a0_1]) ?_ 1 _ rfl;try refine bk ?_;refine blk_put (cs:=#[.int .i64 a0_0,.int .i64 a0_1]) ?_ 0 _ rfl;try refine bk ?_;exact BK167.out⟩
    have n1_:Aside0 (((w26.setCell ⟨gb167,0,none⟩ (.int .i64 t169)).setCell ⟨gb167,1,none⟩ (.int .i64 t170)).heap[gb168]? = some (.cells #[.int .i64 0,.int .i64 0] 59 (0,0))):=⟨by try refine bk ?_;refine blk_far ?_ NB168_167.out _;try refine bk ?_;refine blk_far ?_ NB168_167.out _;try refine bk ?_;exact BK168.out⟩
    have n2_:Aside0 (Below w.heap.size w ((w26.setCell ⟨gb167,0,none⟩ (.int .i64 t169)).setCell ⟨gb167,1,none⟩ (.int .i64 t170))):=⟨by repeat (first|with_reducible exact HB.out|exact bl HB|refine bs ?_ GE167|refine bs ?_ GE168)⟩
    (try clear BK167)
    (try clear BK168)
    (try clear HB)
    generalize ((w26.setCell ⟨gb167,0,none⟩ (.int .i64 t169)).setCell ⟨gb167,1,none⟩ (.int .i64 t170))=w28 at n0_ n1_ n2_ ⊢
    have BK167:=n0_
    have BK168:=n1_
    have HB:=n2_
    clear n0_ n1_ n2_
    have n0_:=Aside0.mk (blk_drew BK167.out)
    have n1_:=Aside0.mk (blk_drew BK168.out)
    have n2_:=Aside0.mk (below_drew1 HB.out)
    clear BK167
    clear BK168
    clear HB
    have BK167:=n0_
    have BK168:=n1_
    have HB:=n2_
    clear n0_ n1_ n2_
    refine start_ (n:=17) (S:=fun w'=>w'.cell? ⟨gb167,0,none⟩=some (.int .i64 t169)∧w'.cell? ⟨gb167,1,none⟩=some (.int .i64 t170)) (ds:=[]) #[ff,ff,ff,ff,ff,ff,ff,ff,ff,ff,ff,ff,ff,ff,ff,ff,ff] (by kernel_rfl) rfl rfl ⟨(blk_cell BK167.out 0).trans rfl,(blk_cell BK167.out 1).trans rfl⟩ (fun hHeld=>?_);refine with_tabW wide_Down.tab5 wide_Down.bits5 (fun HT_ HW_=>?_)
    generalize w28.drew=w29 at BK167 BK168 HB hHeld ⊢
    refine pure_ (i:=0) (N:=some 19) (v:=?_) (a':=?_) #[tt,ff,ff,ff,ff,ff,ff,ff,ff,ff,ff,ff,ff,ff,ff,ff,ff] rfl rfl (any_of HT_.out (by kernel_rfl)) (fun _ _ _ h=>h) (Or.inl ⟨by rfl,?_⟩) ?_ ?_
    rotate_left
    ·intro w'
     go_simp
     with_reducible rfl
    rotate_left
    ·simp only [Act.put,List.setIfInBounds_toArray,List.set_cons_zero,List.set_cons_succ,i64_w,i32_w]
     rfl
    refine pure_ (i:=2) (N:=some 21) (v:=?_) (a':=?_) #[tt,ff,tt,ff,ff,ff,ff,ff,ff,ff,ff,ff,ff,ff,ff,ff,ff] rfl rfl (any_of HT_.out (by kernel_rfl)) (fun _ _ _ h=>h) (Or.inl ⟨by rfl,?_⟩) ?_ ?_
    rotate_left
    ·intro w'
     go_simp
     with_reducible rfl
    rotate_left
    ·simp only [Act.put,List.setIfInBounds_toArray,List.set_cons_zero,List.set_cons_succ,i64_w,i32_w]
     rfl
    refine pure_ (i:=4) (N:=some 23) (v:=?_) (a':=?_) #[tt,ff,tt,ff,tt,ff,ff,ff,ff,ff,ff,ff,ff,ff,ff,ff,ff] rfl rfl (any_of HT_.out (by kernel_rfl)) (fun _ _ _ h=>h) (Or.inl ⟨by rfl,?_⟩) ?_ ?_
    rotate_left
    ·intro w'
     go_simp
     with_reducible rfl
    rotate_left
    ·simp only [Act.put,List.setIfInBounds_toArray,List.set_cons_zero,List.set_cons_succ,i64_w,i32_w]
     rfl
    refine pure_ (i:=6) (N:=some 25) (v:=?_) (a':=?_) #[tt,ff,tt,ff,tt,ff,tt,ff,ff,ff,ff,ff,ff,ff,ff,ff,ff] rfl rfl (any_of HT_.out (by kernel_rfl)) (fun _ _ _ h=>h) (Or.inl ⟨by rfl,?_⟩) ?_ ?_
    rotate_left
    ·intro w'
     go_simp
     with_reducible rfl
    rotate_left
    ·simp only [Act.put,List.setIfInBounds_toArray,List.set_cons_zero,List.set_cons_succ,i64_w,i32_w]
     rfl
    refine pure_ (i:=7) (N:=some 26) (v:=?_) (a':=?_) #[tt,ff,tt,ff,tt,ff,tt,tt,ff,ff,ff,ff,ff,ff,ff,ff,ff] rfl rfl (any_of HT_.out (by kernel_rfl)) (fun _ _ _ h=>h) (Or.inl ⟨by rfl,?_⟩) ?_ ?_
    rotate_left
    ·intro w'
     go_simp
     with_reducible rfl
    rotate_left
    ·simp only [Act.put,List.setIfInBounds_toArray,List.set_cons_zero,List.set_cons_succ,i64_w,i32_w]
     rfl
    refine pure_ (i:=9) (N:=some 28) (v:=?_) (a':=?_) #[tt,ff,tt,ff,tt,ff,tt,tt,ff,tt,ff,ff,ff,ff,ff,ff,ff] rfl rfl (any_of HT_.out (by kernel_rfl)) (fun _ _ _ h=>h) (Or.inl ⟨by rfl,?_⟩) ?_ ?_
    rotate_left
    ·intro w'
     go_simp
     with_reducible rfl
    rotate_left
    ·simp only [Act.put,List.setIfInBounds_toArray,List.set_cons_zero,List.set_cons_succ,i64_w,i32_w]
     rfl
    refine pure_ (i:=11) (N:=some 30) (v:=?_) (a':=?_) #[tt,ff,tt,ff,tt,ff,tt,tt,ff,tt,ff,tt,ff,ff,ff,ff,ff] rfl rfl (any_of HT_.out (by kernel_rfl)) (fun _ _ _ h=>h) (Or.inl ⟨by rfl,?_⟩) ?_ ?_
    rotate_left
    ·intro w'
     go_simp
     with_reducible rfl
    rotate_left
    ·simp only [Act.put,List.setIfInBounds_toArray,List.set_cons_zero,List.set_cons_succ,i64_w,i32_w]
     rfl
    refine take_ (i:=1) (N:=some 20) (v:=?_) (a':=?_) #[tt,tt,tt,ff,tt,ff,tt,tt,ff,tt,ff,tt,ff,ff,ff,ff,ff] rfl rfl (take_ofW HT_.out HW_.out (by kernel_rfl)) (fun _ _ _ h=>h) (Or.inl ⟨by rfl,?_⟩) hHeld ?_ ?_
    rotate_left
    ·rintro w' ⟨s0,s1⟩
     go_simp
     with_reducible rfl
    rotate_left
    ·simp only [Act.put,List.setIfInBounds_toArray,List.set_cons_zero,List.set_cons_succ,i64_w,i32_w]
     rfl
    refine pure_ (i:=3) (N:=some 22) (v:=?_) (a':=?_) #[tt,tt,tt,tt,tt,ff,tt,tt,ff,tt,ff,tt,ff,ff,ff,ff,ff] rfl rfl (any_of HT_.out (by kernel_rfl)) (fun _ _ _ h=>h) (Or.inl ⟨by rfl,?_⟩) ?_ ?_
    rotate_left
    ·intro w'
     go_simp
     with_reducible rfl
    rotate_left
    ·simp only [Act.put,List.setIfInBounds_toArray,List.set_cons_zero,List.set_cons_succ,i64_w,i32_w]
     rfl
    refine take_ (i:=5) (N:=some 24) (v:=?_) (a':=?_) #[tt,tt,tt,tt,tt,tt,tt,tt,ff,tt,ff,tt,ff,ff,ff,ff,ff] rfl rfl (take_ofW HT_.out HW_.out (by kernel_rfl)) (fun _ _ _ h=>h) (Or.inl ⟨by rfl,?_⟩) hHeld ?_ ?_
    rotate_left
    ·rintro w' ⟨s0,s1⟩
     go_simp
     with_reducible rfl
    rotate_left
    ·simp only [Act.put,List.setIfInBounds_toArray,List.set_cons_zero,List.set_cons_succ,i64_w,i32_w]
     rfl
    refine pure_ (i:=8) (N:=some 27) (v:=?_) (a':=?_) #[tt,tt,tt,tt,tt,tt,tt,tt,tt,tt,ff,tt,ff,ff,ff,ff,ff] rfl rfl (any_of HT_.out (by kernel_rfl)) (fun _ _ _ h=>h) (Or.inl ⟨by rfl,?_⟩) ?_ ?_
    rotate_left
    ·intro w'
     go_simp
     with_reducible rfl
    rotate_left
    ·simp only [Act.put,List.setIfInBounds_toArray,List.set_cons_zero,List.set_cons_succ,i64_w,i32_w]
     rfl
    refine take_ (i:=10) (N:=some 29) (v:=?_) (a':=?_) #[tt,tt,tt,tt,tt,tt,tt,tt,tt,tt,tt,tt,ff,ff,ff,ff,ff] rfl rfl (take_ofW HT_.out HW_.out (by kernel_rfl)) (fun _ _ _ h=>h) (Or.inl ⟨by rfl,?_⟩) hHeld ?_ ?_
    rotate_left
    ·rintro w' ⟨s0,s1⟩
     go_simp
     with_reducible rfl
    rotate_left
    ·simp only [Act.put,List.setIfInBounds_toArray,List.set_cons_zero,List.set_cons_succ,i64_w,i32_w]
     rfl
    refine pure_ (i:=12) (N:=some 31) (v:=?_) (a':=?_) #[tt,tt,tt,tt,tt,tt,tt,tt,tt,tt,tt,tt,tt,ff,ff,ff,ff] rfl rfl (any_of HT_.out (by kernel_rfl)) (fun _ _ _ h=>h) (Or.inl ⟨by rfl,?_⟩) ?_ ?_
    rotate_left
    ·intro w'
     go_simp
     with_reducible rfl
    rotate_left
    ·simp only [Act.put,List.setIfInBounds_toArray,List.set_cons_zero,List.set_cons_succ,i64_w,i32_w]
     rfl
    refine pure_ (i:=13) (N:=some 32) (v:=?_) (a':=?_) #[tt,tt,tt,tt,tt,tt,tt,tt,tt,tt,tt,tt,tt,tt,ff,ff,ff] rfl rfl (any_of HT_.out (by kernel_rfl)) (fun _ _ _ h=>h) (Or.inl ⟨by rfl,?_⟩) ?_ ?_
    rotate_left
    ·intro w'
     go_simp
     with_reducible rfl
    rotate_left
    ·simp only [Act.put,List.setIfInBounds_toArray,List.set_cons_zero,List.set_cons_succ,i64_w,i32_w]
     rfl
    refine pure_ (i:=14) (N:=some 33) (v:=?_) (a':=?_) #[tt,tt,tt,tt,tt,tt,tt,tt,tt,tt,tt,tt,tt,tt,tt,ff,ff] rfl rfl (any_of HT_.out (by kernel_rfl)) (fun _ _ _ h=>h) (Or.inl ⟨by rfl,?_⟩) ?_ ?_
    rotate_left
    ·intro w'
     go_simp
     with_reducible rfl
    rotate_left
    ·simp only [Act.put,List.setIfInBounds_toArray,List.set_cons_zero,List.set_cons_succ,i64_w,i32_w]
     rfl
    refine pure_ (i:=15) (N:=some 34) (v:=?_) (a':=?_) #[tt,tt,tt,tt,tt,tt,tt,tt,tt,tt,tt,tt,tt,tt,tt,tt,ff] rfl rfl (any_of HT_.out (by kernel_rfl)) (fun _ _ _ h=>h) (Or.inl ⟨by rfl,?_⟩) ?_ ?_
    rotate_left
    ·intro w'
     go_simp
     with_reducible rfl
    rotate_left
    ·simp only [Act.put,List.setIfInBounds_toArray,List.set_cons_zero,List.set_cons_succ,i64_w,i32_w]
     rfl
    refine one_ (i:=16) (N:=none) #[tt,tt,tt,tt,tt,tt,tt,tt,tt,tt,tt,tt,tt,tt,tt,tt,tt] rfl rfl (one_of HT_.out (by kernel_rfl)) (by decide) (fun K hK=>?_)
    have hs30:w29.cell? ⟨gb168,0,none⟩=some (.int .i64 0):=(blk_cell BK168.out 0).trans rfl
    have hfs30:=blk_frozen BK168.out 0
    have hns30_0:=NB167_168.out
    have hms30_0:=NB168_167.out
    have hs31:w29.cell? ⟨gb168,1,none⟩=some (.int .i64 0):=(blk_cell BK168.out 1).trans rfl
    have hfs31:=blk_frozen BK168.out 1
    have hns31_0:=NB167_168.out
    have hms31_0:=NB168_167.out
    refine skip_ (w1:=?_) (by rfl) rfl ?_ ?_
    rotate_left
    ·go_simp
     rfl
    refine hK.out _ _ ⟨((cell_far (p:=⟨gb168,_,none⟩) NB167_168.out _).trans (((cell_far (p:=⟨gb168,_,none⟩) NB167_168.out _).trans (hHeld.1)))),((cell_far (p:=⟨gb168,_,none⟩) NB167_168.out _).trans (((cell_far (p:=⟨gb168,_,none⟩) NB167_168.out _).trans (hHeld.2))))⟩ (fun hHeld=>?_)
    clear hK K
    refine done_ (done_of HT_.out (by kernel_rfl)) ?_
    try go_wp2
    refine bodyPost_ret (results_cell_row rfl _ _ gb168 59 #[.int .i64 ji18,.int .i64 (Go.bits .and .i64 (Go.bits .or .i64 (wrap64 (t169*2^(ji19).toNat)) (ji21)) 4611686018427387903)] (0,0) _ rfl (by try refine bk ?_;refine blk_put (cs:=#[.int .i64 ji18,.int .i64 0]) ?_ 1 _ (by rw [←e21.out];rfl);try refine bk ?_;refine blk_put (cs:=#[.int .i64 0,.int .i64 0]) ?_ 0 _ (by rw [←e18.out];rfl);try refine bk ?_;exact BK168.out) Try.underlying59 rfl (by kernel_rfl)) rfl ?_
    exact⟨by first|rfl|(simp [errW_none,errW_some]<;>rfl)|(simp only [←hji4,←hji5,←hji18,←hji19,←hji21];first|rfl|(simp [errW_none,errW_some]<;>rfl))|(simp [*,errW_none,errW_some]<;>rfl),by repeat (first|with_reducible exact HB.out|exact bl HB|refine bs ?_ GE167|refine bs ?_ GE168)⟩
  ·rw [if_neg c20] at H
   exact absurd H (by simp)
end Go.Proofs.Ytonfobdknnlbjaa.B
end
section
set_option linter.unusedVariables false
set_option linter.unusedSimpArgs false
namespace Go.Proofs.Ytonfobdknnlbjaa.B
open Go.RowKit Go.Proofs.YtonfobdknnlbjaaW.PrintWords Go.Proofs.YtonfobdknnlbjaaW.PrintLast Go.Proofs.YtonfobdknnlbjaaW.PrintMore
attribute [local go_sem] max2_int min2_int max_two min_two max_three min_three max_four min_four
set_option linter.unusedVariables false
set_option linter.unusedSimpArgs false
def scale_Round.f (k:Nat) (a0_0:Int) (a0_1:Int):Option (Int × Bool):=(wide_Of.f 2147483648).bind fun bt174=>((wide_Add.f a0_0 a0_1 bt174.1 bt174.2).bind fun bt176=>(if bt176.2.2=true then ((wide_Down.f bt176.1 bt176.2.1 32).bind fun bt180=>((wide_Int.f k bt180.1 bt180.2).bind fun bt182=>(if bt182.2=true then ((wide_Sane.f a0_0 a0_1).bind fun t184=>(some (bt182.1,!t184))) else (some (bt182.1,true))))) else (some (288230376151711744,true))))
theorem scale_Round.mono:∀ a0 a1 k,LeO (scale_Round.f k a0 a1) (scale_Round.f (k+1) a0 a1):=by
 intro a0 a1 k
 unfold scale_Round.f
 repeat' first
   | (with_reducible exact wide_Int.mono _ _ _)
   | (with_reducible exact LeO.refl _)
   | (with_reducible exact LeO.none _)
   | (with_reducible refine LeO.ite ?_ ?_)
   | (with_reducible refine LeO.bind ?_ (fun _=>?_))
   | exact wide_Int.mono _ _ _
   | exact LeO.none _
   | refine LeO.ite ?_ ?_
   | refine LeO.bind ?_ (fun _=>?_)
def scale_Round.T1:Bool × List (List Nat × List Nat):=(true,[([],[]),([],[]),([0,1,1],[0,1]),([2],[2]),([3],[3]),([3],[3]),([],[]),([6,4,2,0,1,2,3,4,6],[4,6]),([5,7,0,1,2,3,4,5,6,7],[5])])
def scale_Round.B1:List Nat:=[0,0,3,7,15,15,0,95,255]
theorem scale_Round.tab1:rtab .any (opsOf Try.f65 1)=scale_Round.T1:=by kernel_rfl
theorem scale_Round.bits1:waitsOk scale_Round.T1.2 scale_Round.B1=true:=by kernel_rfl
set_option maxHeartbeats 8000000 in
set_option maxRecDepth 100000 in
theorem scale_Round.calls (k:Nat) (a0_0:Int) (a0_1:Int) (r1:Int) (r2:Bool) (w:World) (h:scale_Round.f k a0_0 a0_1=some (r1,r2)) :
  Calls Try.prog 65 #[.agg #[.int .i64 a0_0,.int .i64 a0_1]] w fun e w'=>e=.returned (.tuple #[.int .i64 r1,.bool r2])∧Below w.heap.size w w':=by
 have hu59:=Try.underlying59
 have HB:=Aside0.mk (Below.refl w.heap.size w)
 have H:((wide_Of.f 2147483648).bind fun bt174=>((wide_Add.f a0_0 a0_1 bt174.1 bt174.2).bind fun bt176=>(if bt176.2.2=true then ((wide_Down.f bt176.1 bt176.2.1 32).bind fun bt180=>((wide_Int.f k bt180.1 bt180.2).bind fun bt182=>(if bt182.2=true then ((wide_Sane.f a0_0 a0_1).bind fun t184=>(some (bt182.1,!t184))) else (some (bt182.1,true))))) else (some (288230376151711744,true)))))=some (r1,r2):=h
 clear h
 replace H:=Option.bind_eq_some_iff.mp H
 obtain⟨⟨t174,t175⟩,A20,H⟩:=H
 replace H:((wide_Add.f a0_0 a0_1 t174 t175).bind fun bt176=>(if bt176.2.2=true then ((wide_Down.f bt176.1 bt176.2.1 32).bind fun bt180=>((wide_Int.f k bt180.1 bt180.2).bind fun bt182=>(if bt182.2=true then ((wide_Sane.f a0_0 a0_1).bind fun t184=>(some (bt182.1,!t184))) else (some (bt182.1,true))))) else (some (288230376151711744,true))))=some (r1,r2):=H
 have A2:=Aside0.mk A20
 clear A20
 replace H:=Option.bind_eq_some_iff.mp H
 obtain⟨⟨t176,t177,t178⟩,A30,H⟩:=H
 replace H:(if t178=true then ((wide_Down.f t176 t177 32).bind fun bt180=>((wide_Int.f k bt180.1 bt180.2).bind fun bt182=>(if bt182.2=true then ((wide_Sane.f a0_0 a0_1).bind fun t184=>(some (bt182.1,!t184))) else (some (bt182.1,true))))) else (some (288230376151711744,true)))=some (r1,r2):=H
 have A3:=Aside0.mk A30
 clear A30
 by_cases c4:t178=true
 ·subst c4
  have H1:((wide_Down.f t176 t177 32).bind fun bt180=>((wide_Int.f k bt180.1 bt180.2).bind fun bt182=>(if bt182.2=true then ((wide_Sane.f a0_0 a0_1).bind fun t184=>(some (bt182.1,!t184))) else (some (bt182.1,true)))))=some (r1,r2):=by rw [if_pos rfl] at H;exact H
  clear H
  have H:=H1
  clear H1
  replace H:=Option.bind_eq_some_iff.mp H
  obtain⟨⟨t180,t181⟩,A50,H⟩:=H
  replace H:((wide_Int.f k t180 t181).bind fun bt182=>(if bt182.2=true then ((wide_Sane.f a0_0 a0_1).bind fun t184=>(some (bt182.1,!t184))) else (some (bt182.1,true))))=some (r1,r2):=H
  have A5:=Aside0.mk A50
  clear A50
  replace H:=Option.bind_eq_some_iff.mp H
  obtain⟨⟨t182,t183⟩,A60,H⟩:=H
  replace H:(if t183=true then ((wide_Sane.f a0_0 a0_1).bind fun t184=>(some (t182,!t184))) else (some (t182,true)))=some (r1,r2):=H
  have A6:=Aside0.mk A60
  clear A60
  by_cases c7:t183=true
  ·subst c7
   have H1:((wide_Sane.f a0_0 a0_1).bind fun t184=>(some (t182,!t184)))=some (r1,r2):=by rw [if_pos rfl] at H;exact H
   clear H
   have H:=H1
   clear H1
   replace H:=Option.bind_eq_some_iff.mp H
   obtain⟨t184,A80,H⟩:=H
   replace H:(some (t182,!t184))=some (r1,r2):=H
   have A8:=Aside0.mk A80
   clear A80
   simp only [Option.some.injEq,Prod.mk.injEq] at H
   obtain⟨rfl,rfl⟩:=H
   go_enter Try.func65,Try.ntmps65
   try go_wp2_with (first|((with_reducible refine gate_dst (N:=1) rfl ?_);refine box_event ?hg (N:=1) ?hd (cs:=#[.int .i64 a0_0,.int .i64 a0_1]) (t:=59) ?hr ?_;(case hd=>rfl);(case hg=>rfl);(case hr=>first|(go_simp;done)|(go_simp;rfl));intro gb173 hg w9 hbox hb;have n0_:=Aside0.mk (below_step (by first|with_reducible exact HB.out|exact bl HB) hb);have n1_:=Aside0.mk (hbox);have n2_:=Aside0.mk ((by rw [hg];exact(below_size (by first|with_reducible exact HB.out|exact bl HB)):w.heap.size≤gb173));have n3_:=Aside0.mk ((by rw [hg];exact(below_size (by first|with_reducible exact HB.out|exact bl HB)):w.heap.size≤gb173));clear HB;have HB:=n0_;have BK173:=n1_;have GW173:=n2_;have GE173:=n3_;clear n0_ n1_ n2_ n3_;clear hb hbox hg))
   have n0_:=Aside0.mk (blk_drew BK173.out)
   have n1_:=Aside0.mk (below_drew1 HB.out)
   clear BK173
   clear HB
   have BK173:=n0_
   have HB:=n1_
   clear n0_ n1_
   refine start_ (n:=9) (S:=fun w'=>w'.cell? ⟨gb173,0,none⟩=some (.int .i64 a0_0)∧w'.cell? ⟨gb173,1,none⟩=some (.int .i64 a0_1)) (ds:=[]) #[ff,ff,ff,ff,ff,ff,ff,ff,ff] (by kernel_rfl) rfl rfl ⟨(blk_cell BK173.out 0).trans rfl,(blk_cell BK173.out 1).trans rfl⟩ (fun hHeld=>?_);refine with_tabW scale_Round.tab1 scale_Round.bits1 (fun HT_ HW_=>?_)
   generalize w9.drew=w10 at BK173 HB hHeld ⊢
   refine take_ (i:=0) (N:=some 9) (v:=?_) (a':=?_) #[tt,ff,ff,ff,ff,ff,ff,ff,ff] rfl rfl (take_ofW HT_.out HW_.out (by kernel_rfl)) (fun _ _ _ h=>h) (Or.inl ⟨by rfl,?_⟩) hHeld ?_ ?_
   rotate_left
   ·rintro w' ⟨s0,s1⟩
    go_simp
    with_reducible rfl
   rotate_left
   ·simp only [Act.put,List.setIfInBounds_toArray,List.set_cons_zero,List.set_cons_succ,i64_w,i32_w]
    rfl
   refine join_ (σ:=Nat) 2 #[tt,tt,tt,tt,tt,tt,tt,ff,ff] (fun s_=>[(10,.agg #[.int .i64 t174,.int .i64 t175]),(11,.tuple #[.agg #[.int .i64 t176,.int .i64 t177],.bool true]),(4,.pointer (some ⟨s_,0,none⟩)),(8,.tuple #[.agg #[.int .i64 t176,.int .i64 t177],.bool true]),(12,.agg #[.int .i64 t176,.int .i64 t177]),(13,.bool true)]) (fun s_ w'=>(w'.cell? ⟨gb173,0,none⟩=some (.int .i64 a0_0)∧w'.cell? ⟨gb173,1,none⟩=some (.int .i64 a0_1))∧(w'.heap[gb173]? = some (.cells #[.int .i64 a0_0,.int .i64 a0_1] 59 (0,0)))∧(w'.heap[s_]? = some (.cells #[.int .i64 0,.int .i64 0] 59 (0,0)))∧(w.heap.size≤s_)∧(w.heap.size≤s_)∧(gb173≠s_)∧(s_≠gb173)∧(Below w.heap.size w w')) ?_ ?_
   rotate_left
   ·intro hCont
    refine two_ (i:=1) (j:=6) (Ni:=some 10) (Nj:=some 4) #[tt,tt,ff,ff,ff,ff,ff,ff,ff] #[tt,ff,ff,ff,ff,ff,tt,ff,ff] rfl rfl rfl rfl (two_of HT_.out (by kernel_rfl)) (by decide) (by decide) (fun K hK=>?_) (fun K hK=>?_)
    ·skip
     refine goes_ Try.func76 (by kernel_rfl) rfl #[.int .i64 2147483648] (by rfl) rfl rfl (by exact mA _ _) ?_
     with_reducible refine(wide_Of.calls 2147483648 t174 t175 _ A2.out).mono ?_
     rintro e w11 ⟨rfl,hb⟩
     refine⟨_,rfl,?_⟩
     have n0_:=Aside0.mk (blk_below (bk BK173.out) hb)
     have n1_:=Aside0.mk (below_step (by repeat (first|with_reducible exact HB.out|exact bl HB|refine bs ?_ GE173)) hb)
     clear BK173
     clear HB
     have BK173:=n0_
     have HB:=n1_
     clear n0_ n1_
     (try clear hb)
     (try clear hb2)
     (try clear hk)
     (try clear hi)
     refine hK.out _ _ ⟨(blk_cell BK173.out 0).trans rfl,(blk_cell BK173.out 1).trans rfl⟩ (fun hHeld=>?_)
     clear hK K
     refine norm_ (a':=?_) ?_ ?_
     rotate_left
     ·show Act.put _ (some 10) _=_
      simp only [Act.put,List.setIfInBounds_toArray,List.set_cons_zero,List.set_cons_succ,i64_w,i32_w]
      rfl
     refine two_ (i:=2) (j:=6) (Ni:=some 11) (Nj:=some 4) #[tt,tt,tt,ff,ff,ff,ff,ff,ff] #[tt,tt,ff,ff,ff,ff,tt,ff,ff] rfl rfl rfl rfl (two_of HT_.out (by kernel_rfl)) (by decide) (by decide) (fun K hK=>?_) (fun K hK=>?_)
     ·skip
      refine goes_ Try.func75 (by kernel_rfl) rfl #[.agg #[.int .i64 a0_0,.int .i64 a0_1],.agg #[.int .i64 t174,.int .i64 t175]] (by rfl) rfl rfl (by exact mA _ _) ?_
      with_reducible refine(wide_Add.calls a0_0 a0_1 t174 t175 t176 t177 true _ A3.out).mono ?_
      rintro e w12 ⟨rfl,hb⟩
      refine⟨_,rfl,?_⟩
      have n0_:=Aside0.mk (blk_below (bk BK173.out) hb)
      have n1_:=Aside0.mk (below_step (by repeat (first|with_reducible exact HB.out|exact bl HB|refine bs ?_ GE173)) hb)
      clear BK173
      clear HB
      have BK173:=n0_
      have HB:=n1_
      clear n0_ n1_
      (try clear hb)
      (try clear hb2)
      (try clear hk)
      (try clear hi)
      refine hK.out _ _ ⟨(blk_cell BK173.out 0).trans rfl,(blk_cell BK173.out 1).trans rfl⟩ (fun hHeld=>?_)
      clear hK K
      refine norm_ (a':=?_) ?_ ?_
      rotate_left
      ·show Act.put _ (some 11) _=_
       simp only [Act.put,List.setIfInBounds_toArray,List.set_cons_zero,List.set_cons_succ,i64_w,i32_w]
       rfl
      refine pure_ (i:=3) (N:=some 8) (v:=?_) (a':=?_) #[tt,tt,tt,tt,ff,ff,ff,ff,ff] rfl rfl (any_of HT_.out (by kernel_rfl)) (fun _ _ _ h=>h) (Or.inl ⟨by rfl,?_⟩) ?_ ?_
      rotate_left
      ·intro w'
       go_simp
       with_reducible rfl
      rotate_left
      ·simp only [Act.put,List.setIfInBounds_toArray,List.set_cons_zero,List.set_cons_succ,i64_w,i32_w]
       rfl
      refine pure_ (i:=4) (N:=some 12) (v:=?_) (a':=?_) #[tt,tt,tt,tt,tt,ff,ff,ff,ff] rfl rfl (any_of HT_.out (by kernel_rfl)) (fun _ _ _ h=>h) (Or.inl ⟨by rfl,?_⟩) ?_ ?_
      rotate_left
      ·intro w'
       go_simp
       with_reducible rfl
      rotate_left
      ·simp only [Act.put,List.setIfInBounds_toArray,List.set_cons_zero,List.set_cons_succ,i64_w,i32_w]
       rfl
      refine pure_ (i:=5) (N:=some 13) (v:=?_) (a':=?_) #[tt,tt,tt,tt,tt,tt,ff,ff,ff] rfl rfl (any_of HT_.out (by kernel_rfl)) (fun _ _ _ h=>h) (Or.inl ⟨by rfl,?_⟩) ?_ ?_
      rotate_left
      ·intro w'
       go_simp
       with_reducible rfl
      rotate_left
      ·simp only [Act.put,List.setIfInBounds_toArray,List.set_cons_zero,List.set_cons_succ,i64_w,i32_w]
       rfl
      refine one_ (i:=6) (N:=some 4) #[tt,tt,tt,tt,tt,tt,tt,ff,ff] rfl rfl (one_of HT_.out (by kernel_rfl)) (by decide) (fun K hK=>?_)
      refine box_step ?hg (N:=4) ?hd (cs:=#[.int .i64 0,.int .i64 0]) (t:=59) ?hr ?_;(case hd=>rfl);(case hg=>rfl);(case hr=>first|(go_simp;done)|(go_simp;rfl))
      intro gb179 hg w13 hbox hb
      have n0_:=Aside0.mk (blk_below (bk BK173.out) hb)
      have n1_:=Aside0.mk (below_step (by repeat (first|with_reducible exact HB.out|exact bl HB|refine bs ?_ GE173)) hb)
      have n2_:=Aside0.mk (hbox)
      have n3_:=Aside0.mk ((by rw [hg];exact(below_size (by repeat (first|with_reducible exact HB.out|exact bl HB|refine bs ?_ GE173))):w.heap.size≤gb179))
      have n4_:=Aside0.mk ((by rw [hg];exact(below_size (by repeat (first|with_reducible exact HB.out|exact bl HB|refine bs ?_ GE173))):w.heap.size≤gb179))
      have n5_:=Aside0.mk ((by rw [hg];exact Nat.ne_of_lt (blk_lt (bk BK173.out)):gb173≠gb179))
      have n6_:=Aside0.mk ((by rw [hg];exact Nat.ne_of_gt (blk_lt (bk BK173.out)):gb179≠gb173))
      clear BK173
      clear HB
      have BK173:=n0_
      have HB:=n1_
      have BK179:=n2_
      have GW179:=n3_
      have GE179:=n4_
      have NB173_179:=n5_
      have NB179_173:=n6_
      clear n0_ n1_ n2_ n3_ n4_ n5_ n6_
      clear hb hbox hg
      refine hK.out _ _ ⟨(blk_cell BK173.out 0).trans rfl,(blk_cell BK173.out 1).trans rfl⟩ (fun hHeld=>?_)
      clear hK K
      refine norm_ (a':=?_) ?_ ?_
      rotate_left
      ·show Act.put _ (some 4) _=_
       simp only [Act.put,List.setIfInBounds_toArray,List.set_cons_zero,List.set_cons_succ,i64_w,i32_w]
       rfl
      exact norm_ (by simp only [putAll,Act.put,List.setIfInBounds_toArray,List.set_cons_zero,List.set_cons_succ]) (hCont (gb179) _ ⟨hHeld,(bk BK173.out),(bk BK179.out),GW179.out,GE179.out,NB173_179.out,NB179_173.out,(by repeat (first|with_reducible exact HB.out|exact bl HB|refine bs ?_ GE173|refine bs ?_ GE179))⟩)
     ·skip
      refine box_step ?hg (N:=4) ?hd (cs:=#[.int .i64 0,.int .i64 0]) (t:=59) ?hr ?_;(case hd=>rfl);(case hg=>rfl);(case hr=>first|(go_simp;done)|(go_simp;rfl))
      intro gb179 hg w12 hbox hb
      have n0_:=Aside0.mk (blk_below (bk BK173.out) hb)
      have n1_:=Aside0.mk (below_step (by repeat (first|with_reducible exact HB.out|exact bl HB|refine bs ?_ GE173)) hb)
      have n2_:=Aside0.mk (hbox)
      have n3_:=Aside0.mk ((by rw [hg];exact(below_size (by repeat (first|with_reducible exact HB.out|exact bl HB|refine bs ?_ GE173))):w.heap.size≤gb179))
      have n4_:=Aside0.mk ((by rw [hg];exact(below_size (by repeat (first|with_reducible exact HB.out|exact bl HB|refine bs ?_ GE173))):w.heap.size≤gb179))
      have n5_:=Aside0.mk ((by rw [hg];exact Nat.ne_of_lt (blk_lt (bk BK173.out)):gb173≠gb179))
      have n6_:=Aside0.mk ((by rw [hg];exact Nat.ne_of_gt (blk_lt (bk BK173.out)):gb179≠gb173))
      clear BK173
      clear HB
      have BK173:=n0_
      have HB:=n1_
      have BK179:=n2_
      have GW179:=n3_
      have GE179:=n4_
      have NB173_179:=n5_
      have NB179_173:=n6_
      clear n0_ n1_ n2_ n3_ n4_ n5_ n6_
      clear hb hbox hg
      refine hK.out _ _ ⟨(blk_cell BK173.out 0).trans rfl,(blk_cell BK173.out 1).trans rfl⟩ (fun hHeld=>?_)
      clear hK K
      refine norm_ (a':=?_) ?_ ?_
      rotate_left
      ·show Act.put _ (some 4) _=_
       simp only [Act.put,List.setIfInBounds_toArray,List.set_cons_zero,List.set_cons_succ,i64_w,i32_w]
       rfl
      refine one_ (i:=2) (N:=some 11) #[tt,tt,tt,ff,ff,ff,tt,ff,ff] rfl rfl (one_of HT_.out (by kernel_rfl)) (by decide) (fun K hK=>?_)
      refine goes_ Try.func75 (by kernel_rfl) rfl #[.agg #[.int .i64 a0_0,.int .i64 a0_1],.agg #[.int .i64 t174,.int .i64 t175]] (by rfl) rfl rfl (by exact mA _ _) ?_
      with_reducible refine(wide_Add.calls a0_0 a0_1 t174 t175 t176 t177 true _ A3.out).mono ?_
      rintro e w13 ⟨rfl,hb⟩
      refine⟨_,rfl,?_⟩
      have n0_:=Aside0.mk (blk_below (bk BK173.out) hb)
      have n1_:=Aside0.mk (blk_below (bk BK179.out) hb)
      have n2_:=Aside0.mk (below_step (by repeat (first|with_reducible exact HB.out|exact bl HB|refine bs ?_ GE173|refine bs ?_ GE179)) hb)
      clear BK173
      clear BK179
      clear HB
      have BK173:=n0_
      have BK179:=n1_
      have HB:=n2_
      clear n0_ n1_ n2_
      (try clear hb)
      (try clear hb2)
      (try clear hk)
      (try clear hi)
      refine hK.out _ _ ⟨(blk_cell BK173.out 0).trans rfl,(blk_cell BK173.out 1).trans rfl⟩ (fun hHeld=>?_)
      clear hK K
      refine norm_ (a':=?_) ?_ ?_
      rotate_left
      ·show Act.put _ (some 11) _=_
       simp only [Act.put,List.setIfInBounds_toArray,List.set_cons_zero,List.set_cons_succ,i64_w,i32_w]
       rfl
      refine pure_ (i:=3) (N:=some 8) (v:=?_) (a':=?_) #[tt,tt,tt,tt,ff,ff,tt,ff,ff] rfl rfl (any_of HT_.out (by kernel_rfl)) (fun _ _ _ h=>h) (Or.inl ⟨by rfl,?_⟩) ?_ ?_
      rotate_left
      ·intro w'
       go_simp
       with_reducible rfl
      rotate_left
      ·simp only [Act.put,List.setIfInBounds_toArray,List.set_cons_zero,List.set_cons_succ,i64_w,i32_w]
       rfl
      refine pure_ (i:=4) (N:=some 12) (v:=?_) (a':=?_) #[tt,tt,tt,tt,tt,ff,tt,ff,ff] rfl rfl (any_of HT_.out (by kernel_rfl)) (fun _ _ _ h=>h) (Or.inl ⟨by rfl,?_⟩) ?_ ?_
      rotate_left
      ·intro w'
       go_simp
       with_reducible rfl
      rotate_left
      ·simp only [Act.put,List.setIfInBounds_toArray,List.set_cons_zero,List.set_cons_succ,i64_w,i32_w]
       rfl
      refine pure_ (i:=5) (N:=some 13) (v:=?_) (a':=?_) #[tt,tt,tt,tt,tt,tt,tt,ff,ff] rfl rfl (any_of HT_.out (by kernel_rfl)) (fun _ _ _ h=>h) (Or.inl ⟨by rfl,?_⟩) ?_ ?_
      rotate_left
      ·intro w'
       go_simp
       with_reducible rfl
      rotate_left
      ·simp only [Act.put,List.setIfInBounds_toArray,List.set_cons_zero,List.set_cons_succ,i64_w,i32_w]
       rfl
      exact norm_ (by simp only [putAll,Act.put,List.setIfInBounds_toArray,List.set_cons_zero,List.set_cons_succ]) (hCont (gb179) _ ⟨hHeld,(bk BK173.out),(bk BK179.out),GW179.out,GE179.out,NB173_179.out,NB179_173.out,(by repeat (first|with_reducible exact HB.out|exact bl HB|refine bs ?_ GE173|refine bs ?_ GE179))⟩)
    ·skip
     refine box_step ?hg (N:=4) ?hd (cs:=#[.int .i64 0,.int .i64 0]) (t:=59) ?hr ?_;(case hd=>rfl);(case hg=>rfl);(case hr=>first|(go_simp;done)|(go_simp;rfl))
     intro gb179 hg w11 hbox hb
     have n0_:=Aside0.mk (blk_below (bk BK173.out) hb)
     have n1_:=Aside0.mk (below_step (by repeat (first|with_reducible exact HB.out|exact bl HB|refine bs ?_ GE173)) hb)
     have n2_:=Aside0.mk (hbox)
     have n3_:=Aside0.mk ((by rw [hg];exact(below_size (by repeat (first|with_reducible exact HB.out|exact bl HB|refine bs ?_ GE173))):w.heap.size≤gb179))
     have n4_:=Aside0.mk ((by rw [hg];exact(below_size (by repeat (first|with_reducible exact HB.out|exact bl HB|refine bs ?_ GE173))):w.heap.size≤gb179))
     have n5_:=Aside0.mk ((by rw [hg];exact Nat.ne_of_lt (blk_lt (bk BK173.out)):gb173≠gb179))
     have n6_:=Aside0.mk ((by rw [hg];exact Nat.ne_of_gt (blk_lt (bk BK173.out)):gb179≠gb173))
     clear BK173
     clear HB
     have BK173:=n0_
     have HB:=n1_
     have BK179:=n2_
     have GW179:=n3_
     have GE179:=n4_
     have NB173_179:=n5_
     have NB179_173:=n6_
     clear n0_ n1_ n2_ n3_ n4_ n5_ n6_
     clear hb hbox hg
     refine hK.out _ _ ⟨(blk_cell BK173.out 0).trans rfl,(blk_cell BK173.out 1).trans rfl⟩ (fun hHeld=>?_)
     clear hK K
     refine norm_ (a':=?_) ?_ ?_
     rotate_left
     ·show Act.put _ (some 4) _=_
      simp only [Act.put,List.setIfInBounds_toArray,List.set_cons_zero,List.set_cons_succ,i64_w,i32_w]
      rfl
     refine one_ (i:=1) (N:=some 10) #[tt,tt,ff,ff,ff,ff,tt,ff,ff] rfl rfl (one_of HT_.out (by kernel_rfl)) (by decide) (fun K hK=>?_)
     refine goes_ Try.func76 (by kernel_rfl) rfl #[.int .i64 2147483648] (by rfl) rfl rfl (by exact mA _ _) ?_
     with_reducible refine(wide_Of.calls 2147483648 t174 t175 _ A2.out).mono ?_
     rintro e w12 ⟨rfl,hb⟩
     refine⟨_,rfl,?_⟩
     have n0_:=Aside0.mk (blk_below (bk BK173.out) hb)
     have n1_:=Aside0.mk (blk_below (bk BK179.out) hb)
     have n2_:=Aside0.mk (below_step (by repeat (first|with_reducible exact HB.out|exact bl HB|refine bs ?_ GE173|refine bs ?_ GE179)) hb)
     clear BK173
     clear BK179
     clear HB
     have BK173:=n0_
     have BK179:=n1_
     have HB:=n2_
     clear n0_ n1_ n2_
     (try clear hb)
     (try clear hb2)
     (try clear hk)
     (try clear hi)
     refine hK.out _ _ ⟨(blk_cell BK173.out 0).trans rfl,(blk_cell BK173.out 1).trans rfl⟩ (fun hHeld=>?_)
     clear hK K
     refine norm_ (a':=?_) ?_ ?_
     rotate_left
     ·show Act.put _ (some 10) _=_
      simp only [Act.put,List.setIfInBounds_toArray,List.set_cons_zero,List.set_cons_succ,i64_w,i32_w]
      rfl
     refine one_ (i:=2) (N:=some 11) #[tt,tt,tt,ff,ff,ff,tt,ff,ff] rfl rfl (one_of HT_.out (by kernel_rfl)) (by decide) (fun K hK=>?_)
     refine goes_ Try.func75 (by kernel_rfl) rfl #[.agg #[.int .i64 a0_0,.int .i64 a0_1],.agg #[.int .i64 t174,.int .i64 t175]] (by rfl) rfl rfl (by exact mA _ _) ?_
     with_reducible refine(wide_Add.calls a0_0 a0_1 t174 t175 t176 t177 true _ A3.out).mono ?_
     rintro e w13 ⟨rfl,hb⟩
     refine⟨_,rfl,?_⟩
     have n0_:=Aside0.mk (blk_below (bk BK173.out) hb)
     have n1_:=Aside0.mk (blk_below (bk BK179.out) hb)
     have n2_:=Aside0.mk (below_step (by repeat (first|with_reducible exact HB.out|exact bl HB|refine bs ?_ GE173|refine bs ?_ GE179)) hb)
     clear BK173
     clear BK179
     clear HB
     have BK173:=n0_
     have BK179:=n1_
     have HB:=n2_
     clear n0_ n1_ n2_
     (try clear hb)
     (try clear hb2)
     (try clear hk)
     (try clear hi)
     refine hK.out _ _ ⟨(blk_cell BK173.out 0).trans rfl,(blk_cell BK173.out 1).trans rfl⟩ (fun hHeld=>?_)
     clear hK K
     refine norm_ (a':=?_) ?_ ?_
     rotate_left
     ·show Act.put _ (some 11) _=_
      simp only [Act.put,List.setIfInBounds_toArray,List.set_cons_zero,List.set_cons_succ,i64_w,i32_w]
      rfl
     refine pure_ (i:=3) (N:=some 8) (v:=?_) (a':=?_) #[tt,tt,tt,tt,ff,ff,tt,ff,ff] rfl rfl (any_of HT_.out (by kernel_rfl)) (fun _ _ _ h=>h) (Or.inl ⟨by rfl,?_⟩) ?_ ?_
     rotate_left
     ·intro w'
      go_simp
      with_reducible rfl
     rotate_left
     ·simp only [Act.put,List.setIfInBounds_toArray,List.set_cons_zero,List.set_cons_succ,i64_w,i32_w]
      rfl
     refine pure_ (i:=4) (N:=some 12) (v:=?_) (a':=?_) #[tt,tt,tt,tt,tt,ff,tt,ff,ff] rfl rfl (any_of HT_.out (by kernel_rfl)) (fun _ _ _ h=>h) (Or.inl ⟨by rfl,?_⟩) ?_ ?_
     rotate_left
     ·intro w'
      go_simp
      with_reducible rfl
     rotate_left
     ·simp only [Act.put,List.setIfInBounds_toArray,List.set_cons_zero,List.set_cons_succ,i64_w,i32_w]
      rfl
     refine pure_ (i:=5) (N:=some 13) (v:=?_) (a':=?_) #[tt,tt,tt,tt,tt,tt,tt,ff,ff] rfl rfl (any_of HT_.out (by kernel_rfl)) (fun _ _ _ h=>h) (Or.inl ⟨by rfl,?_⟩) ?_ ?_
     rotate_left
     ·intro w'
      go_simp
      with_reducible rfl
     rotate_left
     ·simp only [Act.put,List.setIfInBounds_toArray,List.set_cons_zero,List.set_cons_succ,i64_w,i32_w]
      rfl
     exact norm_ (by simp only [putAll,Act.put,List.setIfInBounds_toArray,List.set_cons_zero,List.set_cons_succ]) (hCont (gb179) _ ⟨hHeld,(bk BK173.out),(bk BK179.out),GW179.out,GE179.out,NB173_179.out,NB179_173.out,(by repeat (first|with_reducible exact HB.out|exact bl HB|refine bs ?_ GE173|refine bs ?_ GE179))⟩)
   rintro gb179 w14 ⟨hS_,h0_,h1_,h2_,h3_,h4_,h5_,h6_⟩
   have n0_:Aside0 (w14.heap[gb173]? = some (.cells #[.int .i64 a0_0,.int .i64 a0_1] 59 (0,0))):=⟨h0_⟩
   have n1_:Aside0 (w14.heap[gb179]? = some (.cells #[.int .i64 0,.int .i64 0] 59 (0,0))):=⟨h1_⟩
   have n2_:Aside0 (w.heap.size≤gb179):=⟨h2_⟩
   have n3_:Aside0 (w.heap.size≤gb179):=⟨h3_⟩
   have n4_:Aside0 (gb173≠gb179):=⟨h4_⟩
   have n5_:Aside0 (gb179≠gb173):=⟨h5_⟩
   have n6_:Aside0 (Below w.heap.size w w14):=⟨h6_⟩
   clear BK173
   clear HB
   clear h0_ h1_ h2_ h3_ h4_ h5_ h6_
   have BK173:=n0_
   have BK179:=n1_
   have GW179:=n2_
   have GE179:=n3_
   have NB173_179:=n4_
   have NB179_173:=n5_
   have HB:=n6_
   clear n0_ n1_ n2_ n3_ n4_ n5_ n6_
   have hHeld:w14.cell? ⟨gb173,0,none⟩=some (.int .i64 a0_0)∧w14.cell? ⟨gb173,1,none⟩=some (.int .i64 a0_1):=hS_
   refine norm_ (a':=?_) ?_ ?_
   rotate_left
   ·simp only [putAll,Act.put,List.setIfInBounds_toArray,List.set_cons_zero,List.set_cons_succ]
    rfl
   refine one_ (i:=7) (N:=none) #[tt,tt,tt,tt,tt,tt,tt,tt,ff] rfl rfl (one_of HT_.out (by kernel_rfl)) (by decide) (fun K hK=>?_)
   have hs15:w14.cell? ⟨gb179,0,none⟩=some (.int .i64 0):=(blk_cell BK179.out 0).trans rfl
   have hfs15:=blk_frozen BK179.out 0
   have hns15_0:=NB173_179.out
   have hms15_0:=NB179_173.out
   have hs16:w14.cell? ⟨gb179,1,none⟩=some (.int .i64 0):=(blk_cell BK179.out 1).trans rfl
   have hfs16:=blk_frozen BK179.out 1
   have hns16_0:=NB173_179.out
   have hms16_0:=NB179_173.out
   refine skip_ (w1:=?_) (by rfl) rfl ?_ ?_
   rotate_left
   ·go_simp
    rfl
   refine hK.out _ _ ⟨((cell_far (p:=⟨gb179,_,none⟩) NB173_179.out _).trans (((cell_far (p:=⟨gb179,_,none⟩) NB173_179.out _).trans (hHeld.1)))),((cell_far (p:=⟨gb179,_,none⟩) NB173_179.out _).trans (((cell_far (p:=⟨gb179,_,none⟩) NB173_179.out _).trans (hHeld.2))))⟩ (fun hHeld=>?_)
   clear hK K
   refine pure_ (i:=8) (N:=some 5) (v:=?_) (a':=?_) #[tt,tt,tt,tt,tt,tt,tt,tt,tt] rfl rfl (any_of HT_.out (by kernel_rfl)) (fun _ _ _ h=>h) (Or.inl ⟨by rfl,?_⟩) ?_ ?_
   rotate_left
   ·intro w'
    go_simp
    with_reducible rfl
   rotate_left
   ·simp only [Act.put,List.setIfInBounds_toArray,List.set_cons_zero,List.set_cons_succ,i64_w,i32_w]
    rfl
   refine done_ (done_of HT_.out (by kernel_rfl)) ?_
   have hnb17:=NB179_173.out
   have hnc17:=NB173_179.out
   have hcz18_0:w14.cell? ⟨gb179,0,none⟩=some (.int .i64 0):=(blk_cell BK179.out 0).trans rfl
   have hcz18_1:w14.cell? ⟨gb179,1,none⟩=some (.int .i64 0):=(blk_cell BK179.out 1).trans rfl
   have hfz18_0:=blk_frozen BK179.out 0
   have hfz18_1:=blk_frozen BK179.out 1
   try go_wp2_with (first|((with_reducible refine gate_callee (f:=78) rfl ?_);refine goesL_ (some 18) rfl rfl Try.func78 (by kernel_rfl) rfl #[.agg #[.int .i64 t176,.int .i64 t177],.int .i64 32] rfl (by exact mA _ _) ?_;(with_reducible refine(wide_Down.calls t176 t177 32 t180 t181 _ A5.out).mono ?_);rintro e w19 ⟨rfl,hb⟩;refine⟨_,rfl,?_⟩;have n0_:=Aside0.mk (blk_below (g:=gb173) (o:=.cells #[.int .i64 a0_0,.int .i64 a0_1] 59 (0,0)) (by try refine bk ?_;refine blk_far ?_ NB173_179.out _;try refine bk ?_;refine blk_far ?_ NB173_179.out _;try refine bk ?_;exact BK173.out) hb);have n1_:=Aside0.mk (blk_below (g:=gb179) (o:=.cells #[.int .i64 t176,.int .i64 t177] 59 (0,0)) (by try refine bk ?_;refine blk_put (cs:=#[.int .i64 t176,.int .i64 0]) ?_ 1 _ rfl;try refine bk ?_;refine blk_put (cs:=#[.int .i64 0,.int .i64 0]) ?_ 0 _ rfl;try refine bk ?_;exact BK179.out) hb);have n2_:=Aside0.mk (below_step (by repeat (first|with_reducible exact HB.out|exact bl HB|refine bs ?_ GE173|refine bs ?_ GE179)) hb);clear BK173;clear BK179;clear HB;have BK173:=n0_;have BK179:=n1_;have HB:=n2_;clear n0_ n1_ n2_;(try clear hb);(try clear hb2);(try clear hk);(try clear hi))|((with_reducible refine gate_callee (f:=77) rfl ?_);refine goesL_ (some 19) rfl rfl Try.func77 (by kernel_rfl) rfl #[.agg #[.int .i64 t180,.int .i64 t181]] rfl (by exact mA _ _) ?_;(with_reducible refine(wide_Int.calls k t180 t181 t182 true _ A6.out).mono ?_);rintro e w20 ⟨rfl,hb⟩;refine⟨_,rfl,?_⟩;have n0_:=Aside0.mk (blk_below (bk BK173.out) hb);have n1_:=Aside0.mk (blk_below (bk BK179.out) hb);have n2_:=Aside0.mk (below_step (by repeat (first|with_reducible exact HB.out|exact bl HB|refine bs ?_ GE173|refine bs ?_ GE179)) hb);clear BK173;clear BK179;clear HB;have BK173:=n0_;have BK179:=n1_;have HB:=n2_;clear n0_ n1_ n2_;(try clear hb);(try clear hb2);(try clear hk);(try clear hi);have hcz21_0:w20.cell? ⟨gb173,0,none⟩=some (.int .i64 a0_0):=(blk_cell BK173.out 0).trans rfl;have hcz21_1:w20.cell? ⟨gb173,1,none⟩=some (.int .i64 a0_1):=(blk_cell BK173.out 1).trans rfl;have hfz21_0:=blk_frozen BK173.out 0;have hfz21_1:=blk_frozen BK173.out 1)|(go_at_call 79;(with_reducible refine(wide_Sane.calls a0_0 a0_1 t184 _ A8.out).mono ?_);rintro e w22 ⟨rfl,hb⟩;have n0_:=Aside0.mk (blk_below (bk BK173.out) hb);have n1_:=Aside0.mk (blk_below (bk BK179.out) hb);have n2_:=Aside0.mk (below_step (by repeat (first|with_reducible exact HB.out|exact bl HB|refine bs ?_ GE173|refine bs ?_ GE179)) hb);clear BK173;clear BK179;clear HB;have BK173:=n0_;have BK179:=n1_;have HB:=n2_;clear n0_ n1_ n2_;(try clear hb);(try clear hb2);(try clear hk);(try clear hi)))
   go_ret2
   exact⟨by first|rfl|(simp [errW_none,errW_some]<;>rfl)|(simp [*,errW_none,errW_some]<;>rfl),by repeat (first|with_reducible exact HB.out|exact bl HB|refine bs ?_ GE173|refine bs ?_ GE179)⟩
  ·replace c7:=Bool.eq_false_iff.mpr c7
   subst c7
   have H1:(some (t182,true))=some (r1,r2):=by rw [if_neg (show ¬(false=true) by decide)] at H;exact H
   clear H
   have H:=H1
   clear H1
   simp only [Option.some.injEq,Prod.mk.injEq] at H
   obtain⟨rfl,rfl⟩:=H
   go_enter Try.func65,Try.ntmps65
   try go_wp2_with (first|((with_reducible refine gate_dst (N:=1) rfl ?_);refine box_event ?hg (N:=1) ?hd (cs:=#[.int .i64 a0_0,.int .i64 a0_1]) (t:=59) ?hr ?_;(case hd=>rfl);(case hg=>rfl);(case hr=>first|(go_simp;done)|(go_simp;rfl));intro gb173 hg w23 hbox hb;have n0_:=Aside0.mk (below_step (by first|with_reducible exact HB.out|exact bl HB) hb);have n1_:=Aside0.mk (hbox);have n2_:=Aside0.mk ((by rw [hg];exact(below_size (by first|with_reducible exact HB.out|exact bl HB)):w.heap.size≤gb173));have n3_:=Aside0.mk ((by rw [hg];exact(below_size (by first|with_reducible exact HB.out|exact bl HB)):w.heap.size≤gb173));clear HB;have HB:=n0_;have BK173:=n1_;have GW173:=n2_;have GE173:=n3_;clear n0_ n1_ n2_ n3_;clear hb hbox hg))
   have n0_:=Aside0.mk (blk_drew BK173.out)
   have n1_:=Aside0.mk (below_drew1 HB.out)
   clear BK173
   clear HB
   have BK173:=n0_
   have HB:=n1_
   clear n0_ n1_
   refine start_ (n:=9) (S:=fun w'=>w'.cell? ⟨gb173,0,none⟩=some (.int .i64 a0_0)∧w'.cell? ⟨gb173,1,none⟩=some (.int .i64 a0_1)) (ds:=[]) #[ff,ff,ff,ff,ff,ff,ff,ff,ff] (by kernel_rfl) rfl rfl ⟨(blk_cell BK173.out 0).trans rfl,(blk_cell BK173.out 1).trans rfl⟩ (fun hHeld=>?_);refine with_tabW scale_Round.tab1 scale_Round.bits1 (fun HT_ HW_=>?_)
   generalize w23.drew=w24 at BK173 HB hHeld ⊢
   refine take_ (i:=0) (N:=some 9) (v:=?_) (a':=?_) #[tt,ff,ff,ff,ff,ff,ff,ff,ff] rfl rfl (take_ofW HT_.out HW_.out (by kernel_rfl)) (fun _ _ _ h=>h) (Or.inl ⟨by rfl,?_⟩) hHeld ?_ ?_
   rotate_left
   ·rintro w' ⟨s0,s1⟩
    go_simp
    with_reducible rfl
   rotate_left
   ·simp only [Act.put,List.setIfInBounds_toArray,List.set_cons_zero,List.set_cons_succ,i64_w,i32_w]
    rfl
   refine join_ (σ:=Nat) 2 #[tt,tt,tt,tt,tt,tt,tt,ff,ff] (fun s_=>[(10,.agg #[.int .i64 t174,.int .i64 t175]),(11,.tuple #[.agg #[.int .i64 t176,.int .i64 t177],.bool true]),(4,.pointer (some ⟨s_,0,none⟩)),(8,.tuple #[.agg #[.int .i64 t176,.int .i64 t177],.bool true]),(12,.agg #[.int .i64 t176,.int .i64 t177]),(13,.bool true)]) (fun s_ w'=>(w'.cell? ⟨gb173,0,none⟩=some (.int .i64 a0_0)∧w'.cell? ⟨gb173,1,none⟩=some (.int .i64 a0_1))∧(w'.heap[gb173]? = some (.cells #[.int .i64 a0_0,.int .i64 a0_1] 59 (0,0)))∧(w'.heap[s_]? = some (.cells #[.int .i64 0,.int .i64 0] 59 (0,0)))∧(w.heap.size≤s_)∧(w.heap.size≤s_)∧(gb173≠s_)∧(s_≠gb173)∧(Below w.heap.size w w')) ?_ ?_
   rotate_left
   ·intro hCont
    refine two_ (i:=1) (j:=6) (Ni:=some 10) (Nj:=some 4) #[tt,tt,ff,ff,ff,ff,ff,ff,ff] #[tt,ff,ff,ff,ff,ff,tt,ff,ff] rfl rfl rfl rfl (two_of HT_.out (by kernel_rfl)) (by decide) (by decide) (fun K hK=>?_) (fun K hK=>?_)
    ·skip
     refine goes_ Try.func76 (by kernel_rfl) rfl #[.int .i64 2147483648] (by rfl) rfl rfl (by exact mA _ _) ?_
     with_reducible refine(wide_Of.calls 2147483648 t174 t175 _ A2.out).mono ?_
     rintro e w25 ⟨rfl,hb⟩
     refine⟨_,rfl,?_⟩
     have n0_:=Aside0.mk (blk_below (bk BK173.out) hb)
     have n1_:=Aside0.mk (below_step (by repeat (first|with_reducible exact HB.out|exact bl HB|refine bs ?_ GE173)) hb)
     clear BK173
     clear HB
     have BK173:=n0_
     have HB:=n1_
     clear n0_ n1_
     (try clear hb)
     (try clear hb2)
     (try clear hk)
     (try clear hi)
     refine hK.out _ _ ⟨(blk_cell BK173.out 0).trans rfl,(blk_cell BK173.out 1).trans rfl⟩ (fun hHeld=>?_)
     clear hK K
     refine norm_ (a':=?_) ?_ ?_
     rotate_left
     ·show Act.put _ (some 10) _=_
      simp only [Act.put,List.setIfInBounds_toArray,List.set_cons_zero,List.set_cons_succ,i64_w,i32_w]
      rfl
     refine two_ (i:=2) (j:=6) (Ni:=some 11) (Nj:=some 4) #[tt,tt,tt,ff,ff,ff,ff,ff,ff] #[tt,tt,ff,ff,ff,ff,tt,ff,ff] rfl rfl rfl rfl (two_of HT_.out (by kernel_rfl)) (by decide) (by decide) (fun K hK=>?_) (fun K hK=>?_)
     ·skip
      refine goes_ Try.func75 (by kernel_rfl) rfl #[.agg #[.int .i64 a0_0,.int .i64 a0_1],.agg #[.int .i64 t174,.int .i64 t175]] (by rfl) rfl rfl (by exact mA _ _) ?_
      with_reducible refine(wide_Add.calls a0_0 a0_1 t174 t175 t176 t177 true _ A3.out).mono ?_
      rintro e w26 ⟨rfl,hb⟩
      refine⟨_,rfl,?_⟩
      have n0_:=Aside0.mk (blk_below (bk BK173.out) hb)
      have n1_:=Aside0.mk (below_step (by repeat (first|with_reducible exact HB.out|exact bl HB|refine bs ?_ GE173)) hb)
      clear BK173
      clear HB
      have BK173:=n0_
      have HB:=n1_
      clear n0_ n1_
      (try clear hb)
      (try clear hb2)
      (try clear hk)
      (try clear hi)
      refine hK.out _ _ ⟨(blk_cell BK173.out 0).trans rfl,(blk_cell BK173.out 1).trans rfl⟩ (fun hHeld=>?_)
      clear hK K
      refine norm_ (a':=?_) ?_ ?_
      rotate_left
      ·show Act.put _ (some 11) _=_
       simp only [Act.put,List.setIfInBounds_toArray,List.set_cons_zero,List.set_cons_succ,i64_w,i32_w]
       rfl
      refine pure_ (i:=3) (N:=some 8) (v:=?_) (a':=?_) #[tt,tt,tt,tt,ff,ff,ff,ff,ff] rfl rfl (any_of HT_.out (by kernel_rfl)) (fun _ _ _ h=>h) (Or.inl ⟨by rfl,?_⟩) ?_ ?_
      rotate_left
      ·intro w'
       go_simp
       with_reducible rfl
      rotate_left
      ·simp only [Act.put,List.setIfInBounds_toArray,List.set_cons_zero,List.set_cons_succ,i64_w,i32_w]
       rfl
      refine pure_ (i:=4) (N:=some 12) (v:=?_) (a':=?_) #[tt,tt,tt,tt,tt,ff,ff,ff,ff] rfl rfl (any_of HT_.out (by kernel_rfl)) (fun _ _ _ h=>h) (Or.inl ⟨by rfl,?_⟩) ?_ ?_
      rotate_left
      ·intro w'
       go_simp
       with_reducible rfl
      rotate_left
      ·simp only [Act.put,List.setIfInBounds_toArray,List.set_cons_zero,List.set_cons_succ,i64_w,i32_w]
       rfl
      refine pure_ (i:=5) (N:=some 13) (v:=?_) (a':=?_) #[tt,tt,tt,tt,tt,tt,ff,ff,ff] rfl rfl (any_of HT_.out (by kernel_rfl)) (fun _ _ _ h=>h) (Or.inl ⟨by rfl,?_⟩) ?_ ?_
      rotate_left
      ·intro w'
       go_simp
       with_reducible rfl
      rotate_left
      ·simp only [Act.put,List.setIfInBounds_toArray,List.set_cons_zero,List.set_cons_succ,i64_w,i32_w]
       rfl
      refine one_ (i:=6) (N:=some 4) #[tt,tt,tt,tt,tt,tt,tt,ff,ff] rfl rfl (one_of HT_.out (by kernel_rfl)) (by decide) (fun K hK=>?_)
      refine box_step ?hg (N:=4) ?hd (cs:=#[.int .i64 0,.int .i64 0]) (t:=59) ?hr ?_;(case hd=>rfl);(case hg=>rfl);(case hr=>first|(go_simp;done)|(go_simp;rfl))
      intro gb179 hg w27 hbox hb
      have n0_:=Aside0.mk (blk_below (bk BK173.out) hb)
      have n1_:=Aside0.mk (below_step (by repeat (first|with_reducible exact HB.out|exact bl HB|refine bs ?_ GE173)) hb)
      have n2_:=Aside0.mk (hbox)
      have n3_:=Aside0.mk ((by rw [hg];exact(below_size (by repeat (first|with_reducible exact HB.out|exact bl HB|refine bs ?_ GE173))):w.heap.size≤gb179))
      have n4_:=Aside0.mk ((by rw [hg];exact(below_size (by repeat (first|with_reducible exact HB.out|exact bl HB|refine bs ?_ GE173))):w.heap.size≤gb179))
      have n5_:=Aside0.mk ((by rw [hg];exact Nat.ne_of_lt (blk_lt (bk BK173.out)):gb173≠gb179))
      have n6_:=Aside0.mk ((by rw [hg];exact Nat.ne_of_gt (blk_lt (bk BK173.out)):gb179≠gb173))
      clear BK173
      clear HB
      have BK173:=n0_
      have HB:=n1_
      have BK179:=n2_
      have GW179:=n3_
      have GE179:=n4_
      have NB173_179:=n5_
      have NB179_173:=n6_
      clear n0_ n1_ n2_ n3_ n4_ n5_ n6_
      clear hb hbox hg
      refine hK.out _ _ ⟨(blk_cell BK173.out 0).trans rfl,(blk_cell BK173.out 1).trans rfl⟩ (fun hHeld=>?_)
      clear hK K
      refine norm_ (a':=?_) ?_ ?_
      rotate_left
      ·show Act.put _ (some 4) _=_
       simp only [Act.put,List.setIfInBounds_toArray,List.set_cons_zero,List.set_cons_succ,i64_w,i32_w]
       rfl
      exact norm_ (by simp only [putAll,Act.put,List.setIfInBounds_toArray,List.set_cons_zero,List.set_cons_succ]) (hCont (gb179) _ ⟨hHeld,(bk BK173.out),(bk BK179.out),GW179.out,GE179.out,NB173_179.out,NB179_173.out,(by repeat (first|with_reducible exact HB.out|exact bl HB|refine bs ?_ GE173|refine bs ?_ GE179))⟩)
     ·skip
      refine box_step ?hg (N:=4) ?hd (cs:=#[.int .i64 0,.int .i64 0]) (t:=59) ?hr ?_;(case hd=>rfl);(case hg=>rfl);(case hr=>first|(go_simp;done)|(go_simp;rfl))
      intro gb179 hg w26 hbox hb
      have n0_:=Aside0.mk (blk_below (bk BK173.out) hb)
      have n1_:=Aside0.mk (below_step (by repeat (first|with_reducible exact HB.out|exact bl HB|refine bs ?_ GE173)) hb)
      have n2_:=Aside0.mk (hbox)
      have n3_:=Aside0.mk ((by rw [hg];exact(below_size (by repeat (first|with_reducible exact HB.out|exact bl HB|refine bs ?_ GE173))):w.heap.size≤gb179))
      have n4_:=Aside0.mk ((by rw [hg];exact(below_size (by repeat (first|with_reducible exact HB.out|exact bl HB|refine bs ?_ GE173))):w.heap.size≤gb179))
      have n5_:=Aside0.mk ((by rw [hg];exact Nat.ne_of_lt (blk_lt (bk BK173.out)):gb173≠gb179))
      have n6_:=Aside0.mk ((by rw [hg];exact Nat.ne_of_gt (blk_lt (bk BK173.out)):gb179≠gb173))
      clear BK173
      clear HB
      have BK173:=n0_
      have HB:=n1_
      have BK179:=n2_
      have GW179:=n3_
      have GE179:=n4_
      have NB173_179:=n5_
      have NB179_173:=n6_
      clear n0_ n1_ n2_ n3_ n4_ n5_ n6_
      clear hb hbox hg
      refine hK.out _ _ ⟨(blk_cell BK173.out 0).trans rfl,(blk_cell BK173.out 1).trans rfl⟩ (fun hHeld=>?_)
      clear hK K
      refine norm_ (a':=?_) ?_ ?_
      rotate_left
      ·show Act.put _ (some 4) _=_
       simp only [Act.put,List.setIfInBounds_toArray,List.set_cons_zero,List.set_cons_succ,i64_w,i32_w]
       rfl
      refine one_ (i:=2) (N:=some 11) #[tt,tt,tt,ff,ff,ff,tt,ff,ff] rfl rfl (one_of HT_.out (by kernel_rfl)) (by decide) (fun K hK=>?_)
      refine goes_ Try.func75 (by kernel_rfl) rfl #[.agg #[.int .i64 a0_0,.int .i64 a0_1],.agg #[.int .i64 t174,.int .i64 t175]] (by rfl) rfl rfl (by exact mA _ _) ?_
      with_reducible refine(wide_Add.calls a0_0 a0_1 t174 t175 t176 t177 true _ A3.out).mono ?_
      rintro e w27 ⟨rfl,hb⟩
      refine⟨_,rfl,?_⟩
      have n0_:=Aside0.mk (blk_below (bk BK173.out) hb)
      have n1_:=Aside0.mk (blk_below (bk BK179.out) hb)
      have n2_:=Aside0.mk (below_step (by repeat (first|with_reducible exact HB.out|exact bl HB|refine bs ?_ GE173|refine bs ?_ GE179)) hb)
      clear BK173
      clear BK179
      clear HB
      have BK173:=n0_
      have BK179:=n1_
      have HB:=n2_
      clear n0_ n1_ n2_
      (try clear hb)
      (try clear hb2)
      (try clear hk)
      (try clear hi)
      refine hK.out _ _ ⟨(blk_cell BK173.out 0).trans rfl,(blk_cell BK173.out 1).trans rfl⟩ (fun hHeld=>?_)
      clear hK K
      refine norm_ (a':=?_) ?_ ?_
      rotate_left
      ·show Act.put _ (some 11) _=_
       simp only [Act.put,List.setIfInBounds_toArray,List.set_cons_zero,List.set_cons_succ,i64_w,i32_w]
       rfl
      refine pure_ (i:=3) (N:=some 8) (v:=?_) (a':=?_) #[tt,tt,tt,tt,ff,ff,tt,ff,ff] rfl rfl (any_of HT_.out (by kernel_rfl)) (fun _ _ _ h=>h) (Or.inl ⟨by rfl,?_⟩) ?_ ?_
      rotate_left
      ·intro w'
       go_simp
       with_reducible rfl
      rotate_left
      ·simp only [Act.put,List.setIfInBounds_toArray,List.set_cons_zero,List.set_cons_succ,i64_w,i32_w]
       rfl
      refine pure_ (i:=4) (N:=some 12) (v:=?_) (a':=?_) #[tt,tt,tt,tt,tt,ff,tt,ff,ff] rfl rfl (any_of HT_.out (by kernel_rfl)) (fun _ _ _ h=>h) (Or.inl ⟨by rfl,?_⟩) ?_ ?_
      rotate_left
      ·intro w'
       go_simp
       with_reducible rfl
      rotate_left
      ·simp only [Act.put,List.setIfInBounds_toArray,List.set_cons_zero,List.set_cons_succ,i64_w,i32_w]
       rfl
      refine pure_ (i:=5) (N:=some 13) (v:=?_) (a':=?_) #[tt,tt,tt,tt,tt,tt,tt,ff,ff] rfl rfl (any_of HT_.out (by kernel_rfl)) (fun _ _ _ h=>h) (Or.inl ⟨by rfl,?_⟩) ?_ ?_
      rotate_left
      ·intro w'
       go_simp
       with_reducible rfl
      rotate_left
      ·simp only [Act.put,List.setIfInBounds_toArray,List.set_cons_zero,List.set_cons_succ,i64_w,i32_w]
       rfl
      exact norm_ (by simp only [putAll,Act.put,List.setIfInBounds_toArray,List.set_cons_zero,List.set_cons_succ]) (hCont (gb179) _ ⟨hHeld,(bk BK173.out),(bk BK179.out),GW179.out,GE179.out,NB173_179.out,NB179_173.out,(by repeat (first|with_reducible exact HB.out|exact bl HB|refine bs ?_ GE173|refine bs ?_ GE179))⟩)
    ·skip
     refine box_step ?hg (N:=4) ?hd (cs:=#[.int .i64 0,.int .i64 0]) (t:=59) ?hr ?_;(case hd=>rfl);(case hg=>rfl);(case hr=>first|(go_simp;done)|(go_simp;rfl))
     intro gb179 hg w25 hbox hb
     have n0_:=Aside0.mk (blk_below (bk BK173.out) hb)
     have n1_:=Aside0.mk (below_step (by repeat (first|with_reducible exact HB.out|exact bl HB|refine bs ?_ GE173)) hb)
     have n2_:=Aside0.mk (hbox)
     have n3_:=Aside0.mk ((by rw [hg];exact(below_size (by repeat (first|with_reducible exact HB.out|exact bl HB|refine bs ?_ GE173))):w.heap.size≤gb179))
     have n4_:=Aside0.mk ((by rw [hg];exact(below_size (by repeat (first|with_reducible exact HB.out|exact bl HB|refine bs ?_ GE173))):w.heap.size≤gb179))
     have n5_:=Aside0.mk ((by rw [hg];exact Nat.ne_of_lt (blk_lt (bk BK173.out)):gb173≠gb179))
     have n6_:=Aside0.mk ((by rw [hg];exact Nat.ne_of_gt (blk_lt (bk BK173.out)):gb179≠gb173))
     clear BK173
     clear HB
     have BK173:=n0_
     have HB:=n1_
     have BK179:=n2_
     have GW179:=n3_
     have GE179:=n4_
     have NB173_179:=n5_
     have NB179_173:=n6_
     clear n0_ n1_ n2_ n3_ n4_ n5_ n6_
     clear hb hbox hg
     refine hK.out _ _ ⟨(blk_cell BK173.out 0).trans rfl,(blk_cell BK173.out 1).trans rfl⟩ (fun hHeld=>?_)
     clear hK K
     refine norm_ (a':=?_) ?_ ?_
     rotate_left
     ·show Act.put _ (some 4) _=_
      simp only [Act.put,List.setIfInBounds_toArray,List.set_cons_zero,List.set_cons_succ,i64_w,i32_w]
      rfl
     refine one_ (i:=1) (N:=some 10) #[tt,tt,ff,ff,ff,ff,tt,ff,ff] rfl rfl (one_of HT_.out (by kernel_rfl)) (by decide) (fun K hK=>?_)
     refine goes_ Try.func76 (by kernel_rfl) rfl #[.int .i64 2147483648] (by rfl) rfl rfl (by exact mA _ _) ?_
     with_reducible refine(wide_Of.calls 2147483648 t174 t175 _ A2.out).mono ?_
     rintro e w26 ⟨rfl,hb⟩
     refine⟨_,rfl,?_⟩
     have n0_:=Aside0.mk (blk_below (bk BK173.out) hb)
     have n1_:=Aside0.mk (blk_below (bk BK179.out) hb)
     have n2_:=Aside0.mk (below_step (by repeat (first|with_reducible exact HB.out|exact bl HB|refine bs ?_ GE173|refine bs ?_ GE179)) hb)
     clear BK173
     clear BK179
     clear HB
     have BK173:=n0_
     have BK179:=n1_
     have HB:=n2_
     clear n0_ n1_ n2_
     (try clear hb)
     (try clear hb2)
     (try clear hk)
     (try clear hi)
     refine hK.out _ _ ⟨(blk_cell BK173.out 0).trans rfl,(blk_cell BK173.out 1).trans rfl⟩ (fun hHeld=>?_)
     clear hK K
     refine norm_ (a':=?_) ?_ ?_
     rotate_left
     ·show Act.put _ (some 10) _=_
      simp only [Act.put,List.setIfInBounds_toArray,List.set_cons_zero,List.set_cons_succ,i64_w,i32_w]
      rfl
     refine one_ (i:=2) (N:=some 11) #[tt,tt,tt,ff,ff,ff,tt,ff,ff] rfl rfl (one_of HT_.out (by kernel_rfl)) (by decide) (fun K hK=>?_)
     refine goes_ Try.func75 (by kernel_rfl) rfl #[.agg #[.int .i64 a0_0,.int .i64 a0_1],.agg #[.int .i64 t174,.int .i64 t175]] (by rfl) rfl rfl (by exact mA _ _) ?_
     with_reducible refine(wide_Add.calls a0_0 a0_1 t174 t175 t176 t177 true _ A3.out).mono ?_
     rintro e w27 ⟨rfl,hb⟩
     refine⟨_,rfl,?_⟩
     have n0_:=Aside0.mk (blk_below (bk BK173.out) hb)
     have n1_:=Aside0.mk (blk_below (bk BK179.out) hb)
     have n2_:=Aside0.mk (below_step (by repeat (first|with_reducible exact HB.out|exact bl HB|refine bs ?_ GE173|refine bs ?_ GE179)) hb)
     clear BK173
     clear BK179
     clear HB
     have BK173:=n0_
     have BK179:=n1_
     have HB:=n2_
     clear n0_ n1_ n2_
     (try clear hb)
     (try clear hb2)
     (try clear hk)
     (try clear hi)
     refine hK.out _ _ ⟨(blk_cell BK173.out 0).trans rfl,(blk_cell BK173.out 1).trans rfl⟩ (fun hHeld=>?_)
     clear hK K
     refine norm_ (a':=?_) ?_ ?_
     rotate_left
     ·show Act.put _ (some 11) _=_
      simp only [Act.put,List.setIfInBounds_toArray,List.set_cons_zero,List.set_cons_succ,i64_w,i32_w]
      rfl
     refine pure_ (i:=3) (N:=some 8) (v:=?_) (a':=?_) #[tt,tt,tt,tt,ff,ff,tt,ff,ff] rfl rfl (any_of HT_.out (by kernel_rfl)) (fun _ _ _ h=>h) (Or.inl ⟨by rfl,?_⟩) ?_ ?_
     rotate_left
     ·intro w'
      go_simp
      with_reducible rfl
     rotate_left
     ·simp only [Act.put,List.setIfInBounds_toArray,List.set_cons_zero,List.set_cons_succ,i64_w,i32_w]
      rfl
     refine pure_ (i:=4) (N:=some 12) (v:=?_) (a':=?_) #[tt,tt,tt,tt,tt,ff,tt,ff,ff] rfl rfl (any_of HT_.out (by kernel_rfl)) (fun _ _ _ h=>h) (Or.inl ⟨by rfl,?_⟩) ?_ ?_
     rotate_left
     ·intro w'
      go_simp
      with_reducible rfl
     rotate_left
     ·simp only [Act.put,List.setIfInBounds_toArray,List.set_cons_zero,List.set_cons_succ,i64_w,i32_w]
      rfl
     refine pure_ (i:=5) (N:=some 13) (v:=?_) (a':=?_) #[tt,tt,tt,tt,tt,tt,tt,ff,ff] rfl rfl (any_of HT_.out (by kernel_rfl)) (fun _ _ _ h=>h) (Or.inl ⟨by rfl,?_⟩) ?_ ?_
     rotate_left
     ·intro w'
      go_simp
      with_reducible rfl
     rotate_left
     ·simp only [Act.put,List.setIfInBounds_toArray,List.set_cons_zero,List.set_cons_succ,i64_w,i32_w]
      rfl
     exact norm_ (by simp only [putAll,Act.put,List.setIfInBounds_toArray,List.set_cons_zero,List.set_cons_succ]) (hCont (gb179) _ ⟨hHeld,(bk BK173.out),(bk BK179.out),GW179.out,GE179.out,NB173_179.out,NB179_173.out,(by repeat (first|with_reducible exact HB.out|exact bl HB|refine bs ?_ GE173|refine bs ?_ GE179))⟩)
   rintro gb179 w28 ⟨hS_,h0_,h1_,h2_,h3_,h4_,h5_,h6_⟩
   have n0_:Aside0 (w28.heap[gb173]? = some (.cells #[.int .i64 a0_0,.int .i64 a0_1] 59 (0,0))):=⟨h0_⟩
   have n1_:Aside0 (w28.heap[gb179]? = some (.cells #[.int .i64 0,.int .i64 0] 59 (0,0))):=⟨h1_⟩
   have n2_:Aside0 (w.heap.size≤gb179):=⟨h2_⟩
   have n3_:Aside0 (w.heap.size≤gb179):=⟨h3_⟩
   have n4_:Aside0 (gb173≠gb179):=⟨h4_⟩
   have n5_:Aside0 (gb179≠gb173):=⟨h5_⟩
   have n6_:Aside0 (Below w.heap.size w w28):=⟨h6_⟩
   clear BK173
   clear HB
   clear h0_ h1_ h2_ h3_ h4_ h5_ h6_
   have BK173:=n0_
   have BK179:=n1_
   have GW179:=n2_
   have GE179:=n3_
   have NB173_179:=n4_
   have NB179_173:=n5_
   have HB:=n6_
   clear n0_ n1_ n2_ n3_ n4_ n5_ n6_
   have hHeld:w28.cell? ⟨gb173,0,none⟩=some (.int .i64 a0_0)∧w28.cell? ⟨gb173,1,none⟩=some (.int .i64 a0_1):=hS_
   refine norm_ (a':=?_) ?_ ?_
   rotate_left
   ·simp only [putAll,Act.put,List.setIfInBounds_toArray,List.set_cons_zero,List.set_cons_succ]
    rfl
   refine one_ (i:=7) (N:=none) #[tt,tt,tt,tt,tt,tt,tt,tt,ff] rfl rfl (one_of HT_.out (by kernel_rfl)) (by decide) (fun K hK=>?_)
   have hs29:w28.cell? ⟨gb179,0,none⟩=some (.int .i64 0):=(blk_cell BK179.out 0).trans rfl
   have hfs29:=blk_frozen BK179.out 0
   have hns29_0:=NB173_179.out
   have hms29_0:=NB179_173.out
   have hs30:w28.cell? ⟨gb179,1,none⟩=some (.int .i64 0):=(blk_cell BK179.out 1).trans rfl
   have hfs30:=blk_frozen BK179.out 1
   have hns30_0:=NB173_179.out
   have hms30_0:=NB179_173.out
   refine skip_ (w1:=?_) (by rfl) rfl ?_ ?_
   rotate_left
   ·go_simp
    rfl
   refine hK.out _ _ ⟨((cell_far (p:=⟨gb179,_,none⟩) NB173_179.out _).trans (((cell_far (p:=⟨gb179,_,none⟩) NB173_179.out _).trans (hHeld.1)))),((cell_far (p:=⟨gb179,_,none⟩) NB173_179.out _).trans (((cell_far (p:=⟨gb179,_,none⟩) NB173_179.out _).trans (hHeld.2))))⟩ (fun hHeld=>?_)
   clear hK K
   refine pure_ (i:=8) (N:=some 5) (v:=?_) (a':=?_) #[tt,tt,tt,tt,tt,tt,tt,tt,tt] rfl rfl (any_of HT_.out (by kernel_rfl)) (fun _ _ _ h=>h) (Or.inl ⟨by rfl,?_⟩) ?_ ?_
   rotate_left
   ·intro w'
    go_simp
    with_reducible rfl
   rotate_left
   ·simp only [Act.put,List.setIfInBounds_toArray,List.set_cons_zero,List.set_cons_succ,i64_w,i32_w]
    rfl
   refine done_ (done_of HT_.out (by kernel_rfl)) ?_
   have hnb31:=NB179_173.out
   have hnc31:=NB173_179.out
   have hcz32_0:w28.cell? ⟨gb179,0,none⟩=some (.int .i64 0):=(blk_cell BK179.out 0).trans rfl
   have hcz32_1:w28.cell? ⟨gb179,1,none⟩=some (.int .i64 0):=(blk_cell BK179.out 1).trans rfl
   have hfz32_0:=blk_frozen BK179.out 0
   have hfz32_1:=blk_frozen BK179.out 1
   try go_wp2_with (first|((with_reducible refine gate_callee (f:=78) rfl ?_);refine goesL_ (some 18) rfl rfl Try.func78 (by kernel_rfl) rfl #[.agg #[.int .i64 t176,.int .i64 t177],.int .i64 32] rfl (by exact mA _ _) ?_;(with_reducible refine(wide_Down.calls t176 t177 32 t180 t181 _ A5.out).mono ?_);rintro e w33 ⟨rfl,hb⟩;refine⟨_,rfl,?_⟩;have n0_:=Aside0.mk (blk_below (g:=gb173) (o:=.cells #[.int .i64 a0_0,.int .i64 a0_1] 59 (0,0)) (by try refine bk ?_;refine blk_far ?_ NB173_179.out _;try refine bk ?_;refine blk_far ?_ NB173_179.out _;try refine bk ?_;exact BK173.out) hb);have n1_:=Aside0.mk (blk_below (g:=gb179) (o:=.cells #[.int .i64 t176,.int .i64 t177] 59 (0,0)) (by try refine bk ?_;refine blk_put (cs:=#[.int .i64 t176,.int .i64 0]) ?_ 1 _ rfl;try refine bk ?_;refine blk_put (cs:=#[.int .i64 0,.int .i64 0]) ?_ 0 _ rfl;try refine bk ?_;exact BK179.out) hb);have n2_:=Aside0.mk (below_step (by repeat (first|with_reducible exact HB.out|exact bl HB|refine bs ?_ GE173|refine bs ?_ GE179)) hb);clear BK173;clear BK179;clear HB;have BK173:=n0_;have BK179:=n1_;have HB:=n2_;clear n0_ n1_ n2_;(try clear hb);(try clear hb2);(try clear hk);(try clear hi))|((with_reducible refine gate_callee (f:=77) rfl ?_);refine goesL_ (some 19) rfl rfl Try.func77 (by kernel_rfl) rfl #[.agg #[.int .i64 t180,.int .i64 t181]] rfl (by exact mA _ _) ?_;(with_reducible refine(wide_Int.calls k t180 t181 t182 false _ A6.out).mono ?_);rintro e w34 ⟨rfl,hb⟩;refine⟨_,rfl,?_⟩;have n0_:=Aside0.mk (blk_below (bk BK173.out) hb);have n1_:=Aside0.mk (blk_below (bk BK179.out) hb);have n2_:=Aside0.mk (below_step (by repeat (first|with_reducible exact HB.out|exact bl HB|refine bs ?_ GE173|refine bs ?_ GE179)) hb);clear BK173;clear BK179;clear HB;have BK173:=n0_;have BK179:=n1_;have HB:=n2_;clear n0_ n1_ n2_;(try clear hb);(try clear hb2);(try clear hk);(try clear hi)))
   go_ret2
   exact⟨by first|rfl|(simp [errW_none,errW_some]<;>rfl)|(simp [*,errW_none,errW_some]<;>rfl),by repeat (first|with_reducible exact HB.out|exact bl HB|refine bs ?_ GE173|refine bs ?_ GE179)⟩
 ·replace c4:=Bool.eq_false_iff.mpr c4
  subst c4
  have H1:(some (288230376151711744,true))=some (r1,r2):=by rw [if_neg (show ¬(false=true) by decide)] at H;exact H
  clear H
  have H:=H1
  clear H1
  simp only [Option.some.injEq,Prod.mk.injEq] at H
  obtain⟨rfl,rfl⟩:=H
  go_enter Try.func65,Try.ntmps65
  try go_wp2_with (first|((with_reducible refine gate_dst (N:=1) rfl ?_);refine box_event ?hg (N:=1) ?hd (cs:=#[.int .i64 a0_0,.int .i64 a0_1]) (t:=59) ?hr ?_;(case hd=>rfl);(case hg=>rfl);(case hr=>first|(go_simp;done)|(go_simp;rfl));intro gb173 hg w35 hbox hb;have n0_:=Aside0.mk (below_step (by first|with_reducible exact HB.out|exact bl HB) hb);have n1_:=Aside0.mk (hbox);have n2_:=Aside0.mk ((by rw [hg];exact(below_size (by first|with_reducible exact HB.out|exact bl HB)):w.heap.size≤gb173));have n3_:=Aside0.mk ((by rw [hg];exact(below_size (by first|with_reducible exact HB.out|exact bl HB)):w.heap.size≤gb173));clear HB;have HB:=n0_;have BK173:=n1_;have GW173:=n2_;have GE173:=n3_;clear n0_ n1_ n2_ n3_;clear hb hbox hg))
  have n0_:=Aside0.mk (blk_drew BK173.out)
  have n1_:=Aside0.mk (below_drew1 HB.out)
  clear BK173
  clear HB
  have BK173:=n0_
  have HB:=n1_
  clear n0_ n1_
  refine start_ (n:=9) (S:=fun w'=>w'.cell? ⟨gb173,0,none⟩=some (.int .i64 a0_0)∧w'.cell? ⟨gb173,1,none⟩=some (.int .i64 a0_1)) (ds:=[]) #[ff,ff,ff,ff,ff,ff,ff,ff,ff] (by kernel_rfl) rfl rfl ⟨(blk_cell BK173.out 0).trans rfl,(blk_cell BK173.out 1).trans rfl⟩ (fun hHeld=>?_);refine with_tabW scale_Round.tab1 scale_Round.bits1 (fun HT_ HW_=>?_)
  generalize w35.drew=w36 at BK173 HB hHeld ⊢
  refine take_ (i:=0) (N:=some 9) (v:=?_) (a':=?_) #[tt,ff,ff,ff,ff,ff,ff,ff,ff] rfl rfl (take_ofW HT_.out HW_.out (by kernel_rfl)) (fun _ _ _ h=>h) (Or.inl ⟨by rfl,?_⟩) hHeld ?_ ?_
  rotate_left
  ·rintro w' ⟨s0,s1⟩
   go_simp
   with_reducible rfl
  rotate_left
  ·simp only [Act.put,List.setIfInBounds_toArray,List.set_cons_zero,List.set_cons_succ,i64_w,i32_w]
   rfl
  refine join_ (σ:=Nat) 2 #[tt,tt,tt,tt,tt,tt,tt,ff,ff] (fun s_=>[(10,.agg #[.int .i64 t174,.int .i64 t175]),(11,.tuple #[.agg #[.int .i64 t176,.int .i64 t177],.bool false]),(4,.pointer (some ⟨s_,0,none⟩)),(8,.tuple #[.agg #[.int .i64 t176,.int .i64 t177],.bool false]),(12,.agg #[.int .i64 t176,.int .i64 t177]),(13,.bool false)]) (fun s_ w'=>(w'.cell? ⟨gb173,0,none⟩=some (.int .i64 a0_0)∧w'.cell? ⟨gb173,1,none⟩=some (.int .i64 a0_1))∧(w'.heap[gb173]? = some (.cells #[.int .i64 a0_0,.int .i64 a0_1] 59 (0,0)))∧(w'.heap[s_]? = some (.cells #[.int .i64 0,.int .i64 0] 59 (0,0)))∧(w.heap.size≤s_)∧(w.heap.size≤s_)∧(gb173≠s_)∧(s_≠gb173)∧(Below w.heap.size w w')) ?_ ?_
  rotate_left
  ·intro hCont
   refine two_ (i:=1) (j:=6) (Ni:=some 10) (Nj:=some 4) #[tt,tt,ff,ff,ff,ff,ff,ff,ff] #[tt,ff,ff,ff,ff,ff,tt,ff,ff] rfl rfl rfl rfl (two_of HT_.out (by kernel_rfl)) (by decide) (by decide) (fun K hK=>?_) (fun K hK=>?_)
   ·skip
    refine goes_ Try.func76 (by kernel_rfl) rfl #[.int .i64 2147483648] (by rfl) rfl rfl (by exact mA _ _) ?_
    with_reducible refine(wide_Of.calls 2147483648 t174 t175 _ A2.out).mono ?_
    rintro e w37 ⟨rfl,hb⟩
    refine⟨_,rfl,?_⟩
    have n0_:=Aside0.mk (blk_below (bk BK173.out) hb)
    have n1_:=Aside0.mk (below_step (by repeat (first|with_reducible exact HB.out|exact bl HB|refine bs ?_ GE173)) hb)
    clear BK173
    clear HB
    have BK173:=n0_
    have HB:=n1_
    clear n0_ n1_
    (try clear hb)
    (try clear hb2)
    (try clear hk)
    (try clear hi)
    refine hK.out _ _ ⟨(blk_cell BK173.out 0).trans rfl,(blk_cell BK173.out 1).trans rfl⟩ (fun hHeld=>?_)
    clear hK K
    refine norm_ (a':=?_) ?_ ?_
    rotate_left
    ·show Act.put _ (some 10) _=_
     simp only [Act.put,List.setIfInBounds_toArray,List.set_cons_zero,List.set_cons_succ,i64_w,i32_w]
     rfl
    refine two_ (i:=2) (j:=6) (Ni:=some 11) (Nj:=some 4) #[tt,tt,tt,ff,ff,ff,ff,ff,ff] #[tt,tt,ff,ff,ff,ff,tt,ff,ff] rfl rfl rfl rfl (two_of HT_.out (by kernel_rfl)) (by decide) (by decide) (fun K hK=>?_) (fun K hK=>?_)
    ·skip
     refine goes_ Try.func75 (by kernel_rfl) rfl #[.agg #[.int .i64 a0_0,.int .i64 a0_1],.agg #[.int .i64 t174,.int .i64 t175]] (by rfl) rfl rfl (by exact mA _ _) ?_
     with_reducible refine(wide_Add.calls a0_0 a0_1 t174 t175 t176 t177 false _ A3.out).mono ?_
     rintro e w38 ⟨rfl,hb⟩
     refine⟨_,rfl,?_⟩
     have n0_:=Aside0.mk (blk_below (bk BK173.out) hb)
     have n1_:=Aside0.mk (below_step (by repeat (first|with_reducible exact HB.out|exact bl HB|refine bs ?_ GE173)) hb)
     clear BK173
     clear HB
     have BK173:=n0_
     have HB:=n1_
     clear n0_ n1_
     (try clear hb)
     (try clear hb2)
     (try clear hk)
     (try clear hi)
     refine hK.out _ _ ⟨(blk_cell BK173.out 0).trans rfl,(blk_cell BK173.out 1).trans rfl⟩ (fun hHeld=>?_)
     clear hK K
     refine norm_ (a':=?_) ?_ ?_
     rotate_left
     ·show Act.put _ (some 11) _=_
      simp only [Act.put,List.setIfInBounds_toArray,List.set_cons_zero,List.set_cons_succ,i64_w,i32_w]
      rfl
     refine pure_ (i:=3) (N:=some 8) (v:=?_) (a':=?_) #[tt,tt,tt,tt,ff,ff,ff,ff,ff] rfl rfl (any_of HT_.out (by kernel_rfl)) (fun _ _ _ h=>h) (Or.inl ⟨by rfl,?_⟩) ?_ ?_
     rotate_left
     ·intro w'
      go_simp
      with_reducible rfl
     rotate_left
     ·simp only [Act.put,List.setIfInBounds_toArray,List.set_cons_zero,List.set_cons_succ,i64_w,i32_w]
      rfl
     refine pure_ (i:=4) (N:=some 12) (v:=?_) (a':=?_) #[tt,tt,tt,tt,tt,ff,ff,ff,ff] rfl rfl (any_of HT_.out (by kernel_rfl)) (fun _ _ _ h=>h) (Or.inl ⟨by rfl,?_⟩) ?_ ?_
     rotate_left
     ·intro w'
      go_simp
      with_reducible rfl
     rotate_left
     ·simp only [Act.put,List.setIfInBounds_toArray,List.set_cons_zero,List.set_cons_succ,i64_w,i32_w]
      rfl
     refine pure_ (i:=5) (N:=some 13) (v:=?_) (a':=?_) #[tt,tt,tt,tt,tt,tt,ff,ff,ff] rfl rfl (any_of HT_.out (by kernel_rfl)) (fun _ _ _ h=>h) (Or.inl ⟨by rfl,?_⟩) ?_ ?_
     rotate_left
     ·intro w'
      go_simp
      with_reducible rfl
     rotate_left
     ·simp only [Act.put,List.setIfInBounds_toArray,List.set_cons_zero,List.set_cons_succ,i64_w,i32_w]
      rfl
     refine one_ (i:=6) (N:=some 4) #[tt,tt,tt,tt,tt,tt,tt,ff,ff] rfl rfl (one_of HT_.out (by kernel_rfl)) (by decide) (fun K hK=>?_)
     refine box_step ?hg (N:=4) ?hd (cs:=#[.int .i64 0,.int .i64 0]) (t:=59) ?hr ?_;(case hd=>rfl);(case hg=>rfl);(case hr=>first|(go_simp;done)|(go_simp;rfl))
     intro gb179 hg w39 hbox hb
     have n0_:=Aside0.mk (blk_below (bk BK173.out) hb)
     have n1_:=Aside0.mk (below_step (by repeat (first|with_reducible exact HB.out|exact bl HB|refine bs ?_ GE173)) hb)
     have n2_:=Aside0.mk (hbox)
     have n3_:=Aside0.mk ((by rw [hg];exact(below_size (by repeat (first|with_reducible exact HB.out|exact bl HB|refine bs ?_ GE173))):w.heap.size≤gb179))
     have n4_:=Aside0.mk ((by rw [hg];exact(below_size (by repeat (first|with_reducible exact HB.out|exact bl HB|refine bs ?_ GE173))):w.heap.size≤gb179))
     have n5_:=Aside0.mk ((by rw [hg];exact Nat.ne_of_lt (blk_lt (bk BK173.out)):gb173≠gb179))
     have n6_:=Aside0.mk ((by rw [hg];exact Nat.ne_of_gt (blk_lt (bk BK173.out)):gb179≠gb173))
     clear BK173
     clear HB
     have BK173:=n0_
     have HB:=n1_
     have BK179:=n2_
     have GW179:=n3_
     have GE179:=n4_
     have NB173_179:=n5_
     have NB179_173:=n6_
     clear n0_ n1_ n2_ n3_ n4_ n5_ n6_
     clear hb hbox hg
     refine hK.out _ _ ⟨(blk_cell BK173.out 0).trans rfl,(blk_cell BK173.out 1).trans rfl⟩ (fun hHeld=>?_)
     clear hK K
     refine norm_ (a':=?_) ?_ ?_
     rotate_left
     ·show Act.put _ (some 4) _=_
      simp only [Act.put,List.setIfInBounds_toArray,List.set_cons_zero,List.set_cons_succ,i64_w,i32_w]
      rfl
     exact norm_ (by simp only [putAll,Act.put,List.setIfInBounds_toArray,List.set_cons_zero,List.set_cons_succ]) (hCont (gb179) _ ⟨hHeld,(bk BK173.out),(bk BK179.out),GW179.out,GE179.out,NB173_179.out,NB179_173.out,(by repeat (first|with_reducible exact HB.out|exact bl HB|refine bs ?_ GE173|refine bs ?_ GE179))⟩)
    ·skip
     refine box_step ?hg (N:=4) ?hd (cs:=#[.int .i64 0,.int .i64 0]) (t:=59) ?hr ?_;(case hd=>rfl);(case hg=>rfl);(case hr=>first|(go_simp;done)|(go_simp;rfl))
     intro gb179 hg w38 hbox hb
     have n0_:=Aside0.mk (blk_below (bk BK173.out) hb)
     have n1_:=Aside0.mk (below_step (by repeat (first|with_reducible exact HB.out|exact bl HB|refine bs ?_ GE173)) hb)
     have n2_:=Aside0.mk (hbox)
     have n3_:=Aside0.mk ((by rw [hg];exact(below_size (by repeat (first|with_reducible exact HB.out|exact bl HB|refine bs ?_ GE173))):w.heap.size≤gb179))
     have n4_:=Aside0.mk ((by rw [hg];exact(below_size (by repeat (first|with_reducible exact HB.out|exact bl HB|refine bs ?_ GE173))):w.heap.size≤gb179))
     have n5_:=Aside0.mk ((by rw [hg];exact Nat.ne_of_lt (blk_lt (bk BK173.out)):gb173≠gb179))
     have n6_:=Aside0.mk ((by rw [hg];exact Nat.ne_of_gt (blk_lt (bk BK173.out)):gb179≠gb173))
     clear BK173
     clear HB
     have BK173:=n0_
     have HB:=n1_
     have BK179:=n2_
     have GW179:=n3_
     have GE179:=n4_
     have NB173_179:=n5_
     have NB179_173:=n6_
     clear n0_ n1_ n2_ n3_ n4_ n5_ n6_
     clear hb hbox hg
     refine hK.out _ _ ⟨(blk_cell BK173.out 0).trans rfl,(blk_cell BK173.out 1).trans rfl⟩ (fun hHeld=>?_)
     clear hK K
     refine norm_ (a':=?_) ?_ ?_
     rotate_left
     ·show Act.put _ (some 4) _=_
      simp only [Act.put,List.setIfInBounds_toArray,List.set_cons_zero,List.set_cons_succ,i64_w,i32_w]
      rfl
     refine one_ (i:=2) (N:=some 11) #[tt,tt,tt,ff,ff,ff,tt,ff,ff] rfl rfl (one_of HT_.out (by kernel_rfl)) (by decide) (fun K hK=>?_)
     refine goes_ Try.func75 (by kernel_rfl) rfl #[.agg #[.int .i64 a0_0,.int .i64 a0_1],.agg #[.int .i64 t174,.int .i64 t175]] (by rfl) rfl rfl (by exact mA _ _) ?_
     with_reducible refine(wide_Add.calls a0_0 a0_1 t174 t175 t176 t177 false _ A3.out).mono ?_
     rintro e w39 ⟨rfl,hb⟩
     refine⟨_,rfl,?_⟩
     have n0_:=Aside0.mk (blk_below (bk BK173.out) hb)
     have n1_:=Aside0.mk (blk_below (bk BK179.out) hb)
     have n2_:=Aside0.mk (below_step (by repeat (first|with_reducible exact HB.out|exact bl HB|refine bs ?_ GE173|refine bs ?_ GE179)) hb)
     clear BK173
     clear BK179
     clear HB
     have BK173:=n0_
     have BK179:=n1_
     have HB:=n2_
     clear n0_ n1_ n2_
     (try clear hb)
     (try clear hb2)
     (try clear hk)
     (try clear hi)
     refine hK.out _ _ ⟨(blk_cell BK173.out 0).trans rfl,(blk_cell BK173.out 1).trans rfl⟩ (fun hHeld=>?_)
     clear hK K
     refine norm_ (a':=?_) ?_ ?_
     rotate_left
     ·show Act.put _ (some 11) _=_
      simp only [Act.put,List.setIfInBounds_toArray,List.set_cons_zero,List.set_cons_succ,i64_w,i32_w]
      rfl
     refine pure_ (i:=3) (N:=some 8) (v:=?_) (a':=?_) #[tt,tt,tt,tt,ff,ff,tt,ff,ff] rfl rfl (any_of HT_.out (by kernel_rfl)) (fun _ _ _ h=>h) (Or.inl ⟨by rfl,?_⟩) ?_ ?_
     rotate_left
     ·intro w'
      go_simp
      with_reducible rfl
     rotate_left
     ·simp only [Act.put,List.setIfInBounds_toArray,List.set_cons_zero,List.set_cons_succ,i64_w,i32_w]
      rfl
     refine pure_ (i:=4) (N:=some 12) (v:=?_) (a':=?_) #[tt,tt,tt,tt,tt,ff,tt,ff,ff] rfl rfl (any_of HT_.out (by kernel_rfl)) (fun _ _ _ h=>h) (Or.inl ⟨by rfl,?_⟩) ?_ ?_
     rotate_left
     ·intro w'
      go_simp
      with_reducible rfl
     rotate_left
     ·simp only [Act.put,List.setIfInBounds_toArray,List.set_cons_zero,List.set_cons_succ,i64_w,i32_w]
      rfl
     refine pure_ (i:=5) (N:=some 13) (v:=?_) (a':=?_) #[tt,tt,tt,tt,tt,tt,tt,ff,ff] rfl rfl (any_of HT_.out (by kernel_rfl)) (fun _ _ _ h=>h) (Or.inl ⟨by rfl,?_⟩) ?_ ?_
     rotate_left
     ·intro w'
      go_simp
      with_reducible rfl
     rotate_left
     ·simp only [Act.put,List.setIfInBounds_toArray,List.set_cons_zero,List.set_cons_succ,i64_w,i32_w]
      rfl
     exact norm_ (by simp only [putAll,Act.put,List.setIfInBounds_toArray,List.set_cons_zero,List.set_cons_succ]) (hCont (gb179) _ ⟨hHeld,(bk BK173.out),(bk BK179.out),GW179.out,GE179.out,NB173_179.out,NB179_173.out,(by repeat (first|with_reducible exact HB.out|exact bl HB|refine bs ?_ GE173|refine bs ?_ GE179))⟩)
   ·skip
    refine box_step ?hg (N:=4) ?hd (cs:=#[.int .i64 0,.int .i64 0]) (t:=59) ?hr ?_;(case hd=>rfl);(case hg=>rfl);(case hr=>first|(go_simp;done)|(go_simp;rfl))
    intro gb179 hg w37 hbox hb
    have n0_:=Aside0.mk (blk_below (bk BK173.out) hb)
    have n1_:=Aside0.mk (below_step (by repeat (first|with_reducible exact HB.out|exact bl HB|refine bs ?_ GE173)) hb)
    have n2_:=Aside0.mk (hbox)
    have n3_:=Aside0.mk ((by rw [hg];exact(below_size (by repeat (first|with_reducible exact HB.out|exact bl HB|refine bs ?_ GE173))):w.heap.size≤gb179))
    have n4_:=Aside0.mk ((by rw [hg];exact(below_size (by repeat (first|with_reducible exact HB.out|exact bl HB|refine bs ?_ GE173))):w.heap.size≤gb179))
    have n5_:=Aside0.mk ((by rw [hg];exact Nat.ne_of_lt (blk_lt (bk BK173.out)):gb173≠gb179))
    have n6_:=Aside0.mk ((by rw [hg];exact Nat.ne_of_gt (blk_lt (bk BK173.out)):gb179≠gb173))
    clear BK173
    clear HB
    have BK173:=n0_
    have HB:=n1_
    have BK179:=n2_
    have GW179:=n3_
    have GE179:=n4_
    have NB173_179:=n5_
    have NB179_173:=n6_
    clear n0_ n1_ n2_ n3_ n4_ n5_ n6_
    clear hb hbox hg
    refine hK.out _ _ ⟨(blk_cell BK173.out 0).trans rfl,(blk_cell BK173.out 1).trans rfl⟩ (fun hHeld=>?_)
    clear hK K
    refine norm_ (a':=?_) ?_ ?_
    rotate_left
    ·show Act.put _ (some 4) _=_
     simp only [Act.put,List.setIfInBounds_toArray,List.set_cons_zero,List.set_cons_succ,i64_w,i32_w]
     rfl
    refine one_ (i:=1) (N:=some 10) #[tt,tt,ff,ff,ff,ff,tt,ff,ff] rfl rfl (one_of HT_.out (by kernel_rfl)) (by decide) (fun K hK=>?_)
    refine goes_ Try.func76 (by kernel_rfl) rfl #[.int .i64 2147483648] (by rfl) rfl rfl (by exact mA _ _) ?_
    with_reducible refine(wide_Of.calls 2147483648 t174 t175 _ A2.out).mono ?_
    rintro e w38 ⟨rfl,hb⟩
    refine⟨_,rfl,?_⟩
    have n0_:=Aside0.mk (blk_below (bk BK173.out) hb)
    have n1_:=Aside0.mk (blk_below (bk BK179.out) hb)
    have n2_:=Aside0.mk (below_step (by repeat (first|with_reducible exact HB.out|exact bl HB|refine bs ?_ GE173|refine bs ?_ GE179)) hb)
    clear BK173
    clear BK179
    clear HB
    have BK173:=n0_
    have BK179:=n1_
    have HB:=n2_
    clear n0_ n1_ n2_
    (try clear hb)
    (try clear hb2)
    (try clear hk)
    (try clear hi)
    refine hK.out _ _ ⟨(blk_cell BK173.out 0).trans rfl,(blk_cell BK173.out 1).trans rfl⟩ (fun hHeld=>?_)
    clear hK K
    refine norm_ (a':=?_) ?_ ?_
    rotate_left
    ·show Act.put _ (some 10) _=_
     simp only [Act.put,List.setIfInBounds_toArray,List.set_cons_zero,List.set_cons_succ,i64_w,i32_w]
     rfl
    refine one_ (i:=2) (N:=some 11) #[tt,tt,tt,ff,ff,ff,tt,ff,ff] rfl rfl (one_of HT_.out (by kernel_rfl)) (by decide) (fun K hK=>?_)
    refine goes_ Try.func75 (by kernel_rfl) rfl #[.agg #[.int .i64 a0_0,.int .i64 a0_1],.agg #[.int .i64 t174,.int .i64 t175]] (by rfl) rfl rfl (by exact mA _ _) ?_
    with_reducible refine(wide_Add.calls a0_0 a0_1 t174 t175 t176 t177 false _ A3.out).mono ?_
    rintro e w39 ⟨rfl,hb⟩
    refine⟨_,rfl,?_⟩
    have n0_:=Aside0.mk (blk_below (bk BK173.out) hb)
    have n1_:=Aside0.mk (blk_below (bk BK179.out) hb)
    have n2_:=Aside0.mk (below_step (by repeat (first|with_reducible exact HB.out|exact bl HB|refine bs ?_ GE173|refine bs ?_ GE179)) hb)
    clear BK173
    clear BK179
    clear HB
    have BK173:=n0_
    have BK179:=n1_
    have HB:=n2_
    clear n0_ n1_ n2_
    (try clear hb)
    (try clear hb2)
    (try clear hk)
    (try clear hi)
    refine hK.out _ _ ⟨(blk_cell BK173.out 0).trans rfl,(blk_cell BK173.out 1).trans rfl⟩ (fun hHeld=>?_)
    clear hK K
    refine norm_ (a':=?_) ?_ ?_
    rotate_left
    ·show Act.put _ (some 11) _=_
     simp only [Act.put,List.setIfInBounds_toArray,List.set_cons_zero,List.set_cons_succ,i64_w,i32_w]
     rfl
    refine pure_ (i:=3) (N:=some 8) (v:=?_) (a':=?_) #[tt,tt,tt,tt,ff,ff,tt,ff,ff] rfl rfl (any_of HT_.out (by kernel_rfl)) (fun _ _ _ h=>h) (Or.inl ⟨by rfl,?_⟩) ?_ ?_
    rotate_left
    ·intro w'
     go_simp
     with_reducible rfl
    rotate_left
    ·simp only [Act.put,List.setIfInBounds_toArray,List.set_cons_zero,List.set_cons_succ,i64_w,i32_w]
     rfl
    refine pure_ (i:=4) (N:=some 12) (v:=?_) (a':=?_) #[tt,tt,tt,tt,tt,ff,tt,ff,ff] rfl rfl (any_of HT_.out (by kernel_rfl)) (fun _ _ _ h=>h) (Or.inl ⟨by rfl,?_⟩) ?_ ?_
    rotate_left
    ·intro w'
     go_simp
     with_reducible rfl
    rotate_left
    ·simp only [Act.put,List.setIfInBounds_toArray,List.set_cons_zero,List.set_cons_succ,i64_w,i32_w]
     rfl
    refine pure_ (i:=5) (N:=some 13) (v:=?_) (a':=?_) #[tt,tt,tt,tt,tt,tt,tt,ff,ff] rfl rfl (any_of HT_.out (by kernel_rfl)) (fun _ _ _ h=>h) (Or.inl ⟨by rfl,?_⟩) ?_ ?_
    rotate_left
    ·intro w'
     go_simp
     with_reducible rfl
    rotate_left
    ·simp only [Act.put,List.setIfInBounds_toArray,List.set_cons_zero,List.set_cons_succ,i64_w,i32_w]
     rfl
    exact norm_ (by simp only [putAll,Act.put,List.setIfInBounds_toArray,List.set_cons_zero,List.set_cons_succ]) (hCont (gb179) _ ⟨hHeld,(bk BK173.out),(bk BK179.out),GW179.out,GE179.out,NB173_179.out,NB179_173.out,(by repeat (first|with_reducible exact HB.out|exact bl HB|refine bs ?_ GE173|refine bs ?_ GE179))⟩)
  rintro gb179 w40 ⟨hS_,h0_,h1_,h2_,h3_,h4_,h5_,h6_⟩
  have n0_:Aside0 (w40.heap[gb173]? = some (.cells #[.int .i64 a0_0,.int .i64 a0_1] 59 (0,0))):=⟨h0_⟩
  have n1_:Aside0 (w40.heap[gb179]? = some (.cells #[.int .i64 0,.int .i64 0] 59 (0,0))):=⟨h1_⟩
  have n2_:Aside0 (w.heap.size≤gb179):=⟨h2_⟩
  have n3_:Aside0 (w.heap.size≤gb179):=⟨h3_⟩
  have n4_:Aside0 (gb173≠gb179):=⟨h4_⟩
  have n5_:Aside0 (gb179≠gb173):=⟨h5_⟩
  have n6_:Aside0 (Below w.heap.size w w40):=⟨h6_⟩
  clear BK173
  clear HB
  clear h0_ h1_ h2_ h3_ h4_ h5_ h6_
  have BK173:=n0_
  have BK179:=n1_
  have GW179:=n2_
  have GE179:=n3_
  have NB173_179:=n4_
  have NB179_173:=n5_
  have HB:=n6_
  clear n0_ n1_ n2_ n3_ n4_ n5_ n6_
  have hHeld:w40.cell? ⟨gb173,0,none⟩=some (.int .i64 a0_0)∧w40.cell? ⟨gb173,1,none⟩=some (.int .i64 a0_1):=hS_
  refine norm_ (a':=?_) ?_ ?_
  rotate_left
  ·simp only [putAll,Act.put,List.setIfInBounds_toArray,List.set_cons_zero,List.set_cons_succ]
   rfl
  refine one_ (i:=7) (N:=none) #[tt,tt,tt,tt,tt,tt,tt,tt,ff] rfl rfl (one_of HT_.out (by kernel_rfl)) (by decide) (fun K hK=>?_)
  have hs41:w40.cell? ⟨gb179,0,none⟩=some (.int .i64 0):=(blk_cell BK179.out 0).trans rfl
  have hfs41:=blk_frozen BK179.out 0
  have hns41_0:=NB173_179.out
  have hms41_0:=NB179_173.out
  have hs42:w40.cell? ⟨gb179,1,none⟩=some (.int .i64 0):=(blk_cell BK179.out 1).trans rfl
  have hfs42:=blk_frozen BK179.out 1
  have hns42_0:=NB173_179.out
  have hms42_0:=NB179_173.out
  refine skip_ (w1:=?_) (by rfl) rfl ?_ ?_
  rotate_left
  ·go_simp
   rfl
  refine hK.out _ _ ⟨((cell_far (p:=⟨gb179,_,none⟩) NB173_179.out _).trans (((cell_far (p:=⟨gb179,_,none⟩) NB173_179.out _).trans (hHeld.1)))),((cell_far (p:=⟨gb179,_,none⟩) NB173_179.out _).trans (((cell_far (p:=⟨gb179,_,none⟩) NB173_179.out _).trans (hHeld.2))))⟩ (fun hHeld=>?_)
  clear hK K
  refine pure_ (i:=8) (N:=some 5) (v:=?_) (a':=?_) #[tt,tt,tt,tt,tt,tt,tt,tt,tt] rfl rfl (any_of HT_.out (by kernel_rfl)) (fun _ _ _ h=>h) (Or.inl ⟨by rfl,?_⟩) ?_ ?_
  rotate_left
  ·intro w'
   go_simp
   with_reducible rfl
  rotate_left
  ·simp only [Act.put,List.setIfInBounds_toArray,List.set_cons_zero,List.set_cons_succ,i64_w,i32_w]
   rfl
  refine done_ (done_of HT_.out (by kernel_rfl)) ?_
  try go_wp2
  go_ret2
  exact⟨by first|rfl|(simp [errW_none,errW_some]<;>rfl)|(simp [*,errW_none,errW_some]<;>rfl),by repeat (first|with_reducible exact HB.out|exact bl HB|refine bs ?_ GE173|refine bs ?_ GE179)⟩
def fix_Abs.f (a0:Int):Option (Int):=(fix_known.f a0).bind fun t185=>((fix_known.f a0).bind fun t186=>(some (mx t185 (wrap64 (-t186)))))
set_option maxHeartbeats 8000000 in
set_option maxRecDepth 100000 in
theorem fix_Abs.calls (a0:Int) (r:Int) (w:World) (h:fix_Abs.f a0=some r) :
  Calls Try.prog 17 #[.int .i64 a0] w fun e w'=>e=.returned (.int .i64 r)∧Below w.heap.size w w':=by
 have HB:=Aside0.mk (Below.refl w.heap.size w)
 have H:((fix_known.f a0).bind fun t185=>((fix_known.f a0).bind fun t186=>(some (mx t185 (wrap64 (-t186))))))=some r:=h
 clear h
 replace H:=Option.bind_eq_some_iff.mp H
 obtain⟨t185,A20,H⟩:=H
 replace H:((fix_known.f a0).bind fun t186=>(some (mx t185 (wrap64 (-t186)))))=some r:=H
 have A2:=Aside0.mk A20
 clear A20
 replace H:=Option.bind_eq_some_iff.mp H
 obtain⟨t186,A30,H⟩:=H
 replace H:(some (mx t185 (wrap64 (-t186))))=some r:=H
 have A3:=Aside0.mk A30
 clear A30
 obtain⟨ji4,hji4⟩:∃ j_:Int,(mx t185 (wrap64 (-t186)))=j_:=⟨_,rfl⟩
 replace H:(some ji4)=some r:=by first|(rw [hji4] at H;exact H)|(simp only [hji4] at H ⊢;exact H)
 (try rw [hji4] at A2)
 (try rw [hji4] at A3)
 have hji4_:(if t185<(wrap64 (-t186)) then (wrap64 (-t186)) else t185)=ji4:=hji4
 obtain rfl:=Option.some.inj H
 go_enter Try.func17,Try.ntmps17
 go_wp2_with (first|((with_reducible refine gate_callee (f:=38) rfl ?_);refine goesL_ (some 4) rfl rfl Try.func38 (by kernel_rfl) rfl #[.int .i64 a0] rfl (by exact mA _ _) ?_;(with_reducible refine(fix_known.calls a0 t185 _ A2.out).mono ?_);rintro e w5 ⟨rfl,hb⟩;refine⟨_,rfl,?_⟩;have n0_:=Aside0.mk (below_step (by first|with_reducible exact HB.out|exact bl HB) hb);clear HB;have HB:=n0_;clear n0_;(try clear hb);(try clear hb2);(try clear hk);(try clear hi))|((with_reducible refine gate_callee (f:=38) rfl ?_);refine goesL_ (some 6) rfl rfl Try.func38 (by kernel_rfl) rfl #[.int .i64 a0] rfl (by exact mA _ _) ?_;(with_reducible refine(fix_known.calls a0 t186 _ A3.out).mono ?_);rintro e w6 ⟨rfl,hb⟩;refine⟨_,rfl,?_⟩;have n0_:=Aside0.mk (below_step (by first|with_reducible exact HB.out|exact bl HB) hb);clear HB;have HB:=n0_;clear n0_;(try clear hb);(try clear hb2);(try clear hk);(try clear hi)))
 go_ret
 exact⟨by first|rfl|(simp [errW_none,errW_some]<;>rfl)|(simp only [←hji4];first|rfl|(simp [errW_none,errW_some]<;>rfl))|(simp [*,errW_none,errW_some]<;>rfl),by first|with_reducible exact HB.out|exact bl HB⟩
def bits_Mul64.f (a0:Int) (a1:Int):Option (Int × Int):=some (IntKind.u64.wrap ((IntKind.u64.wrap ((IntKind.u64.wrap ((a0/4294967296)*(a1/4294967296)))+((IntKind.u64.wrap ((IntKind.u64.wrap ((a0/4294967296)*(Go.bits .and .u64 a1 4294967295)))+((IntKind.u64.wrap ((Go.bits .and .u64 a0 4294967295)*(Go.bits .and .u64 a1 4294967295)))/4294967296)))/4294967296)))+((IntKind.u64.wrap ((Go.bits .and .u64 (IntKind.u64.wrap ((IntKind.u64.wrap ((a0/4294967296)*(Go.bits .and .u64 a1 4294967295)))+((IntKind.u64.wrap ((Go.bits .and .u64 a0 4294967295)*(Go.bits .and .u64 a1 4294967295)))/4294967296))) 4294967295)+(IntKind.u64.wrap ((Go.bits .and .u64 a0 4294967295)*(a1/4294967296)))))/4294967296)),IntKind.u64.wrap (a0*a1))
set_option maxHeartbeats 8000000 in
set_option maxRecDepth 100000 in
theorem bits_Mul64.calls (a0:Int) (a1:Int) (r1:Int) (r2:Int) (w:World) (h:bits_Mul64.f a0 a1=some (r1,r2)) :
  Calls Try.prog 80 #[.int .u64 a0,.int .u64 a1] w fun e w'=>e=.returned (.tuple #[.int .u64 r1,.int .u64 r2])∧Drawn0 w w':=by
 have H:(some (IntKind.u64.wrap ((IntKind.u64.wrap ((IntKind.u64.wrap ((a0/4294967296)*(a1/4294967296)))+((IntKind.u64.wrap ((IntKind.u64.wrap ((a0/4294967296)*(Go.bits .and .u64 a1 4294967295)))+((IntKind.u64.wrap ((Go.bits .and .u64 a0 4294967295)*(Go.bits .and .u64 a1 4294967295)))/4294967296)))/4294967296)))+((IntKind.u64.wrap ((Go.bits .and .u64 (IntKind.u64.wrap ((IntKind.u64.wrap ((a0/4294967296)*(Go.bits .and .u64 a1 4294967295)))+((IntKind.u64.wrap ((Go.bits .and .u64 a0 4294967295)*(Go.bits .and .u64 a1 4294967295)))/4294967296))) 4294967295)+(IntKind.u64.wrap ((Go.bits .and .u64 a0 4294967295)*(a1/4294967296)))))/4294967296)),IntKind.u64.wrap (a0*a1)))=some (r1,r2):=h
 clear h
 simp only [Option.some.injEq,Prod.mk.injEq] at H
 obtain⟨rfl,rfl⟩:=H
 go_enter Try.func80,Try.ntmps80
 go_wp2
 go_ret2
 exact⟨by first|rfl|(simp;done)|(simp [*];done),by repeat (first|exact Drawn0.refl _|apply Drawn0.step)⟩
def wide_neg.f (a0_0:Int) (a0_1:Int):Option (Int × Int):=if a0_1=0 then (some (wrap64 (-a0_0),0)) else (some (Go.bits .xor .i64 (-1) a0_0,wrap64 (4611686018427387904-a0_1)))
set_option maxHeartbeats 8000000 in
set_option maxRecDepth 100000 in
theorem wide_neg.calls (a0_0:Int) (a0_1:Int) (r1:Int) (r2:Int) (w:World) (h:wide_neg.f a0_0 a0_1=some (r1,r2)) :
  Calls Try.prog 81 #[.agg #[.int .i64 a0_0,.int .i64 a0_1]] w fun e w'=>e=.returned (.agg #[.int .i64 r1,.int .i64 r2])∧Below w.heap.size w w':=by
 have hu59:=Try.underlying59
 have HB:=Aside0.mk (Below.refl w.heap.size w)
 have H:(if a0_1=0 then (some (wrap64 (-a0_0),0)) else (some (Go.bits .xor .i64 (-1) a0_0,wrap64 (4611686018427387904-a0_1))))=some (r1,r2):=h
 clear h
 by_cases c2:a0_1=0
 ·rw [if_pos c2] at H
  have c2b0:(a0_1 == 0)=true:=beq_iff_eq.mpr c2
  have c2b1:(a0_1 != 0)=false:=bne_eq_false_iff_eq.mpr c2
  clear c2
  simp only [Option.some.injEq,Prod.mk.injEq] at H
  obtain⟨rfl,rfl⟩:=H
  go_enter Try.func81,Try.ntmps81
  go_wp2_with (first|((with_reducible refine gate_dst (N:=1) rfl ?_);refine box_event ?hg (N:=1) ?hd (cs:=#[.int .i64 a0_0,.int .i64 a0_1]) (t:=59) ?hr ?_;(case hd=>rfl);(case hg=>rfl);(case hr=>first|(go_simp;done)|(go_simp;rfl));intro gb187 hg w3 hbox hb;have n0_:=Aside0.mk (below_step (by first|with_reducible exact HB.out|exact bl HB) hb);have n1_:=Aside0.mk (hbox);have n2_:=Aside0.mk ((by rw [hg];exact(below_size (by first|with_reducible exact HB.out|exact bl HB)):w.heap.size≤gb187));have n3_:=Aside0.mk ((by rw [hg];exact(below_size (by first|with_reducible exact HB.out|exact bl HB)):w.heap.size≤gb187));clear HB;have HB:=n0_;have BK187:=n1_;have GW187:=n2_;have GE187:=n3_;clear n0_ n1_ n2_ n3_;clear hb hbox hg)|((with_reducible refine gate_dst (N:=2) rfl ?_);refine box_event ?hg (N:=2) ?hd (cs:=#[.int .i64 0,.int .i64 0]) (t:=59) ?hr ?_;(case hd=>rfl);(case hg=>rfl);(case hr=>first|(go_simp;done)|(go_simp;rfl));intro gb188 hg w4 hbox hb;have n0_:=Aside0.mk (blk_below (bk BK187.out) hb);have n1_:=Aside0.mk (below_step (by repeat (first|with_reducible exact HB.out|exact bl HB|refine bs ?_ GE187)) hb);have n2_:=Aside0.mk (hbox);have n3_:=Aside0.mk ((by rw [hg];exact(below_size (by repeat (first|with_reducible exact HB.out|exact bl HB|refine bs ?_ GE187))):w.heap.size≤gb188));have n4_:=Aside0.mk ((by rw [hg];exact(below_size (by repeat (first|with_reducible exact HB.out|exact bl HB|refine bs ?_ GE187))):w.heap.size≤gb188));have n5_:=Aside0.mk ((by rw [hg];exact Nat.ne_of_lt (blk_lt (bk BK187.out)):gb187≠gb188));have n6_:=Aside0.mk ((by rw [hg];exact Nat.ne_of_gt (blk_lt (bk BK187.out)):gb188≠gb187));clear BK187;clear HB;have BK187:=n0_;have HB:=n1_;have BK188:=n2_;have GW188:=n3_;have GE188:=n4_;have NB187_188:=n5_;have NB188_187:=n6_;clear n0_ n1_ n2_ n3_ n4_ n5_ n6_;clear hb hbox hg;have hnb5:=NB187_188.out;have hnc5:=NB188_187.out;have hcz6_0:w4.cell? ⟨gb187,0,none⟩=some (.int .i64 a0_0):=(blk_cell BK187.out 0).trans rfl;have hcz6_1:w4.cell? ⟨gb187,1,none⟩=some (.int .i64 a0_1):=(blk_cell BK187.out 1).trans rfl;have hfz6_0:=blk_frozen BK187.out 0;have hfz6_1:=blk_frozen BK187.out 1;have hcz7_0:w4.cell? ⟨gb188,0,none⟩=some (.int .i64 0):=(blk_cell BK188.out 0).trans rfl;have hcz7_1:w4.cell? ⟨gb188,1,none⟩=some (.int .i64 0):=(blk_cell BK188.out 1).trans rfl;have hfz7_0:=blk_frozen BK188.out 0;have hfz7_1:=blk_frozen BK188.out 1))
  refine bodyPost_ret (results_cell_row rfl _ _ gb188 59 #[.int .i64 (wrap64 (-a0_0)),.int .i64 0] (0,0) _ rfl (by try refine bk ?_;refine blk_put (cs:=#[.int .i64 (wrap64 (-a0_0)),.int .i64 0]) ?_ 1 _ rfl;try refine bk ?_;refine blk_put (cs:=#[.int .i64 0,.int .i64 0]) ?_ 0 _ rfl;try refine bk ?_;exact BK188.out) Try.underlying59 rfl (by kernel_rfl)) rfl ?_
  exact⟨by first|rfl|(simp [errW_none,errW_some]<;>rfl)|(simp [*,errW_none,errW_some]<;>rfl),by repeat (first|with_reducible exact HB.out|exact bl HB|refine bs ?_ GE187|refine bs ?_ GE188)⟩
 ·rw [if_neg c2] at H
  have c2b0:(a0_1 == 0)=false:=beq_eq_false_iff_ne.mpr c2
  have c2b1:(a0_1 != 0)=true:=bne_iff_ne.mpr c2
  simp only [Option.some.injEq,Prod.mk.injEq] at H
  obtain⟨rfl,rfl⟩:=H
  go_enter Try.func81,Try.ntmps81
  go_wp2_with (first|((with_reducible refine gate_dst (N:=1) rfl ?_);refine box_event ?hg (N:=1) ?hd (cs:=#[.int .i64 a0_0,.int .i64 a0_1]) (t:=59) ?hr ?_;(case hd=>rfl);(case hg=>rfl);(case hr=>first|(go_simp;done)|(go_simp;rfl));intro gb187 hg w8 hbox hb;have n0_:=Aside0.mk (below_step (by first|with_reducible exact HB.out|exact bl HB) hb);have n1_:=Aside0.mk (hbox);have n2_:=Aside0.mk ((by rw [hg];exact(below_size (by first|with_reducible exact HB.out|exact bl HB)):w.heap.size≤gb187));have n3_:=Aside0.mk ((by rw [hg];exact(below_size (by first|with_reducible exact HB.out|exact bl HB)):w.heap.size≤gb187));clear HB;have HB:=n0_;have BK187:=n1_;have GW187:=n2_;have GE187:=n3_;clear n0_ n1_ n2_ n3_;clear hb hbox hg)|((with_reducible refine gate_dst (N:=2) rfl ?_);refine box_event ?hg (N:=2) ?hd (cs:=#[.int .i64 0,.int .i64 0]) (t:=59) ?hr ?_;(case hd=>rfl);(case hg=>rfl);(case hr=>first|(go_simp;done)|(go_simp;rfl));intro gb188 hg w9 hbox hb;have n0_:=Aside0.mk (blk_below (bk BK187.out) hb);have n1_:=Aside0.mk (below_step (by repeat (first|with_reducible exact HB.out|exact bl HB|refine bs ?_ GE187)) hb);have n2_:=Aside0.mk (hbox);have n3_:=Aside0.mk ((by rw [hg];exact(below_size (by repeat (first|with_reducible exact HB.out|exact bl HB|refine bs ?_ GE187))):w.heap.size≤gb188));have n4_:=Aside0.mk ((by rw [hg];exact(below_size (by repeat (first|with_reducible exact HB.out|exact bl HB|refine bs ?_ GE187))):w.heap.size≤gb188));have n5_:=Aside0.mk ((by rw [hg];exact Nat.ne_of_lt (blk_lt (bk BK187.out)):gb187≠gb188));have n6_:=Aside0.mk ((by rw [hg];exact Nat.ne_of_gt (blk_lt (bk BK187.out)):gb188≠gb187));clear BK187;clear HB;have BK187:=n0_;have HB:=n1_;have BK188:=n2_;have GW188:=n3_;have GE188:=n4_;have NB187_188:=n5_;have NB188_187:=n6_;clear n0_ n1_ n2_ n3_ n4_ n5_ n6_;clear hb hbox hg;have hnb10:=NB187_188.out;have hnc10:=NB188_187.out;have hcz11_0:w9.cell? ⟨gb187,0,none⟩=some (.int .i64 a0_0):=(blk_cell BK187.out 0).trans rfl;have hcz11_1:w9.cell? ⟨gb187,1,none⟩=some (.int .i64 a0_1):=(blk_cell BK187.out 1).trans rfl;have hfz11_0:=blk_frozen BK187.out 0;have hfz11_1:=blk_frozen BK187.out 1;have hcz12_0:w9.cell? ⟨gb188,0,none⟩=some (.int .i64 0):=(blk_cell BK188.out 0).trans rfl;have hcz12_1:w9.cell? ⟨gb188,1,none⟩=some (.int .i64 0):=(blk_cell BK188.out 1).trans rfl;have hfz12_0:=blk_frozen BK188.out 0;have hfz12_1:=blk_frozen BK188.out 1))
  refine bodyPost_ret (results_cell_row rfl _ _ gb188 59 #[.int .i64 (Go.bits .xor .i64 (-1) a0_0),.int .i64 (wrap64 (4611686018427387904-a0_1))] (0,0) _ rfl (by try refine bk ?_;refine blk_put (cs:=#[.int .i64 (Go.bits .xor .i64 (-1) a0_0),.int .i64 0]) ?_ 1 _ rfl;try refine bk ?_;refine blk_put (cs:=#[.int .i64 0,.int .i64 0]) ?_ 0 _ rfl;try refine bk ?_;exact BK188.out) Try.underlying59 rfl (by kernel_rfl)) rfl ?_
  exact⟨by first|rfl|(simp [errW_none,errW_some]<;>rfl)|(simp [*,errW_none,errW_some]<;>rfl),by repeat (first|with_reducible exact HB.out|exact bl HB|refine bs ?_ GE187|refine bs ?_ GE188)⟩
def wide_Mul.f (a0:Int) (a1:Int):Option (Int × Int):=(fix_Abs.f a0).bind fun t190=>((fix_Abs.f a1).bind fun t191=>((bits_Mul64.f (IntKind.u64.wrap (t190)) (IntKind.u64.wrap (t191))).bind fun bt192=>(if ((decide (a0<0)) != (decide (a1<0)))=true then ((wide_neg.f (wrap64 (Go.bits .or .u64 (IntKind.u64.wrap (bt192.1*4)) (bt192.2/4611686018427387904))) (wrap64 (Go.bits .and .u64 bt192.2 4611686018427387903))).bind fun bt195=>(some (bt195.1,bt195.2))) else (some (wrap64 (Go.bits .or .u64 (IntKind.u64.wrap (bt192.1*4)) (bt192.2/4611686018427387904)),wrap64 (Go.bits .and .u64 bt192.2 4611686018427387903))))))
set_option maxHeartbeats 8000000 in
set_option maxRecDepth 100000 in
theorem wide_Mul.calls (a0:Int) (a1:Int) (r1:Int) (r2:Int) (w:World) (h:wide_Mul.f a0 a1=some (r1,r2)) :
  Calls Try.prog 66 #[.int .i64 a0,.int .i64 a1] w fun e w'=>e=.returned (.agg #[.int .i64 r1,.int .i64 r2])∧Below w.heap.size w w':=by
 have hu59:=Try.underlying59
 have HB:=Aside0.mk (Below.refl w.heap.size w)
 have H:((fix_Abs.f a0).bind fun t190=>((fix_Abs.f a1).bind fun t191=>((bits_Mul64.f (IntKind.u64.wrap (t190)) (IntKind.u64.wrap (t191))).bind fun bt192=>(if ((decide (a0<0)) != (decide (a1<0)))=true then ((wide_neg.f (wrap64 (Go.bits .or .u64 (IntKind.u64.wrap (bt192.1*4)) (bt192.2/4611686018427387904))) (wrap64 (Go.bits .and .u64 bt192.2 4611686018427387903))).bind fun bt195=>(some (bt195.1,bt195.2))) else (some (wrap64 (Go.bits .or .u64 (IntKind.u64.wrap (bt192.1*4)) (bt192.2/4611686018427387904)),wrap64 (Go.bits .and .u64 bt192.2 4611686018427387903)))))))=some (r1,r2):=h
 clear h
 replace H:=Option.bind_eq_some_iff.mp H
 obtain⟨t190,A30,H⟩:=H
 replace H:((fix_Abs.f a1).bind fun t191=>((bits_Mul64.f (IntKind.u64.wrap (t190)) (IntKind.u64.wrap (t191))).bind fun bt192=>(if ((decide (a0<0)) != (decide (a1<0)))=true then ((wide_neg.f (wrap64 (Go.bits .or .u64 (IntKind.u64.wrap (bt192.1*4)) (bt192.2/4611686018427387904))) (wrap64 (Go.bits .and .u64 bt192.2 4611686018427387903))).bind fun bt195=>(some (bt195.1,bt195.2))) else (some (wrap64 (Go.bits .or .u64 (IntKind.u64.wrap (bt192.1*4)) (bt192.2/4611686018427387904)),wrap64 (Go.bits .and .u64 bt192.2 4611686018427387903))))))=some (r1,r2):=H
 have A3:=Aside0.mk A30
 clear A30
 replace H:=Option.bind_eq_some_iff.mp H
 obtain⟨t191,A40,H⟩:=H
 replace H:((bits_Mul64.f (IntKind.u64.wrap (t190)) (IntKind.u64.wrap (t191))).bind fun bt192=>(if ((decide (a0<0)) != (decide (a1<0)))=true then ((wide_neg.f (wrap64 (Go.bits .or .u64 (IntKind.u64.wrap (bt192.1*4)) (bt192.2/4611686018427387904))) (wrap64 (Go.bits .and .u64 bt192.2 4611686018427387903))).bind fun bt195=>(some (bt195.1,bt195.2))) else (some (wrap64 (Go.bits .or .u64 (IntKind.u64.wrap (bt192.1*4)) (bt192.2/4611686018427387904)),wrap64 (Go.bits .and .u64 bt192.2 4611686018427387903)))))=some (r1,r2):=H
 have A4:=Aside0.mk A40
 clear A40
 replace H:=Option.bind_eq_some_iff.mp H
 obtain⟨⟨t192,t193⟩,A50,H⟩:=H
 replace H:(if ((decide (a0<0)) != (decide (a1<0)))=true then ((wide_neg.f (wrap64 (Go.bits .or .u64 (IntKind.u64.wrap (t192*4)) (t193/4611686018427387904))) (wrap64 (Go.bits .and .u64 t193 4611686018427387903))).bind fun bt195=>(some (bt195.1,bt195.2))) else (some (wrap64 (Go.bits .or .u64 (IntKind.u64.wrap (t192*4)) (t193/4611686018427387904)),wrap64 (Go.bits .and .u64 t193 4611686018427387903))))=some (r1,r2):=H
 have A5:=Aside0.mk A50
 clear A50
 by_cases c6:((decide (a0<0)) != (decide (a1<0)))=true
 ·rw [if_pos c6] at H
  have c6b0:((decide (a0<0)) != (decide (a1<0)))=true:=c6
  (try (have c6b1:decide ((decide (a0<0))=(decide (a1<0)))=false:=by simpa using c6))
  (try (have c6b2:((decide (a0<0)) == (decide (a1<0)))=false:=by simpa using c6))
  (try (have c6b3:¬((decide (a0<0))=(decide (a1<0))):=by simpa using c6))
  clear c6
  replace H:=Option.bind_eq_some_iff.mp H
  obtain⟨⟨t195,t196⟩,A70,H⟩:=H
  replace H:(some (t195,t196))=some (r1,r2):=H
  have A7:=Aside0.mk A70
  clear A70
  simp only [Option.some.injEq,Prod.mk.injEq] at H
  obtain⟨rfl,rfl⟩:=H
  go_enter Try.func66,Try.ntmps66
  go_wp2_with (first|((with_reducible refine gate_dst (N:=4) rfl ?_);refine box_event ?hg (N:=4) ?hd (cs:=#[.int .i64 0,.int .i64 0]) (t:=59) ?hr ?_;(case hd=>rfl);(case hg=>rfl);(case hr=>first|(go_simp;done)|(go_simp;rfl));intro gb189 hg w8 hbox hb;have n0_:=Aside0.mk (below_step (by first|with_reducible exact HB.out|exact bl HB) hb);have n1_:=Aside0.mk (hbox);have n2_:=Aside0.mk ((by rw [hg];exact(below_size (by first|with_reducible exact HB.out|exact bl HB)):w.heap.size≤gb189));have n3_:=Aside0.mk ((by rw [hg];exact(below_size (by first|with_reducible exact HB.out|exact bl HB)):w.heap.size≤gb189));clear HB;have HB:=n0_;have BK189:=n1_;have GW189:=n2_;have GE189:=n3_;clear n0_ n1_ n2_ n3_;clear hb hbox hg)|((with_reducible refine gate_callee (f:=17) rfl ?_);refine goesL_ (some 10) rfl rfl Try.func17 (by kernel_rfl) rfl #[.int .i64 a0] rfl (by exact mA _ _) ?_;(with_reducible refine(fix_Abs.calls a0 t190 _ A3.out).mono ?_);rintro e w9 ⟨rfl,hb⟩;refine⟨_,rfl,?_⟩;have n0_:=Aside0.mk (blk_below (bk BK189.out) hb);have n1_:=Aside0.mk (below_step (by repeat (first|with_reducible exact HB.out|exact bl HB|refine bs ?_ GE189)) hb);clear BK189;clear HB;have BK189:=n0_;have HB:=n1_;clear n0_ n1_;(try clear hb);(try clear hb2);(try clear hk);(try clear hi))|((with_reducible refine gate_callee (f:=17) rfl ?_);refine goesL_ (some 13) rfl rfl Try.func17 (by kernel_rfl) rfl #[.int .i64 a1] rfl (by exact mA _ _) ?_;(with_reducible refine(fix_Abs.calls a1 t191 _ A4.out).mono ?_);rintro e w10 ⟨rfl,hb⟩;refine⟨_,rfl,?_⟩;have n0_:=Aside0.mk (blk_below (bk BK189.out) hb);have n1_:=Aside0.mk (below_step (by repeat (first|with_reducible exact HB.out|exact bl HB|refine bs ?_ GE189)) hb);clear BK189;clear HB;have BK189:=n0_;have HB:=n1_;clear n0_ n1_;(try clear hb);(try clear hb2);(try clear hk);(try clear hi))|((with_reducible refine gate_callee (f:=80) rfl ?_);refine goesL_ (some 15) rfl rfl Try.func80 (by kernel_rfl) rfl #[.int .u64 (IntKind.u64.wrap (t190)),.int .u64 (IntKind.u64.wrap (t191))] rfl (by exact mA _ _) ?_;(with_reducible refine(bits_Mul64.calls (IntKind.u64.wrap (t190)) (IntKind.u64.wrap (t191)) t192 t193 _ A5.out).mono ?_);rintro e w' ⟨rfl,⟨nd,rfl⟩⟩;refine⟨_,rfl,?_⟩;(try (rw [drewN_self w10];generalize hq_:World.drewN w10 _=w10;have n0_:Aside0 (w10.heap[gb189]? = some (.cells #[.int .i64 0,.int .i64 0] 59 (0,0))):=⟨by rw [←hq_];exact(bk BK189.out)⟩;have n1_:Aside0 (Below w.heap.size w w10):=⟨by rw [←hq_];exact(by repeat (first|with_reducible exact HB.out|exact bl HB|refine bs ?_ GE189))⟩;clear BK189 HB hq_;have BK189:=n0_;have HB:=n1_;clear n0_ n1_)))|((with_reducible refine gate_dst (N:=7) rfl ?_);refine box_event ?hg (N:=7) ?hd (cs:=#[.int .i64 0,.int .i64 0]) (t:=59) ?hr ?_;(case hd=>rfl);(case hg=>rfl);(case hr=>first|(go_simp;done)|(go_simp;rfl));intro gb194 hg w11 hbox hb;have n0_:=Aside0.mk (blk_below (bk BK189.out) hb);have n1_:=Aside0.mk (below_step (by repeat (first|with_reducible exact HB.out|exact bl HB|refine bs ?_ GE189)) hb);have n2_:=Aside0.mk (hbox);have n3_:=Aside0.mk ((by rw [hg];exact(below_size (by repeat (first|with_reducible exact HB.out|exact bl HB|refine bs ?_ GE189))):w.heap.size≤gb194));have n4_:=Aside0.mk ((by rw [hg];exact(below_size (by repeat (first|with_reducible exact HB.out|exact bl HB|refine bs ?_ GE189))):w.heap.size≤gb194));have n5_:=Aside0.mk ((by rw [hg];exact Nat.ne_of_lt (blk_lt (bk BK189.out)):gb189≠gb194));have n6_:=Aside0.mk ((by rw [hg];exact Nat.ne_of_gt (blk_lt (bk BK189.out)):gb194≠gb189));clear BK189;clear HB;have BK189:=n0_;have HB:=n1_;have BK194:=n2_;have GW194:=n3_;have GE194:=n4_;have NB189_194:=n5_;have NB194_189:=n6_;clear n0_ n1_ n2_ n3_ n4_ n5_ n6_;clear hb hbox hg;have hnb12:=NB194_189.out;have hnc12:=NB189_194.out;have hcz13_0:w11.cell? ⟨gb194,0,none⟩=some (.int .i64 0):=(blk_cell BK194.out 0).trans rfl;have hcz13_1:w11.cell? ⟨gb194,1,none⟩=some (.int .i64 0):=(blk_cell BK194.out 1).trans rfl;have hfz13_0:=blk_frozen BK194.out 0;have hfz13_1:=blk_frozen BK194.out 1)|((with_reducible refine gate_callee (f:=81) rfl ?_);refine goesL_ (some 34) rfl rfl Try.func81 (by kernel_rfl) rfl #[.agg #[.int .i64 (wrap64 (Go.bits .or .u64 (IntKind.u64.wrap (t192*4)) (t193/4611686018427387904))),.int .i64 (wrap64 (Go.bits .and .u64 t193 4611686018427387903))]] rfl (by exact mA _ _) ?_;(with_reducible refine(wide_neg.calls (wrap64 (Go.bits .or .u64 (IntKind.u64.wrap (t192*4)) (t193/4611686018427387904))) (wrap64 (Go.bits .and .u64 t193 4611686018427387903)) t195 t196 _ A7.out).mono ?_);rintro e w14 ⟨rfl,hb⟩;refine⟨_,rfl,?_⟩;have n0_:=Aside0.mk (blk_below (g:=gb189) (o:=.cells #[.int .i64 0,.int .i64 0] 59 (0,0)) (by try refine bk ?_;refine blk_far ?_ NB189_194.out _;try refine bk ?_;refine blk_far ?_ NB189_194.out _;try refine bk ?_;exact BK189.out) hb);have n1_:=Aside0.mk (blk_below (g:=gb194) (o:=.cells #[.int .i64 (wrap64 (Go.bits .or .u64 (IntKind.u64.wrap (t192*4)) (t193/4611686018427387904))),.int .i64 (wrap64 (Go.bits .and .u64 t193 4611686018427387903))] 59 (0,0)) (by try refine bk ?_;refine blk_put (cs:=#[.int .i64 (wrap64 (Go.bits .or .u64 (IntKind.u64.wrap (t192*4)) (t193/4611686018427387904))),.int .i64 0]) ?_ 1 _ rfl;try refine bk ?_;refine blk_put (cs:=#[.int .i64 0,.int .i64 0]) ?_ 0 _ rfl;try refine bk ?_;exact BK194.out) hb);have n2_:=Aside0.mk (below_step (by repeat (first|with_reducible exact HB.out|exact bl HB|refine bs ?_ GE189|refine bs ?_ GE194)) hb);clear BK189;clear BK194;clear HB;have BK189:=n0_;have BK194:=n1_;have HB:=n2_;clear n0_ n1_ n2_;(try clear hb);(try clear hb2);(try clear hk);(try clear hi);have hcz15_0:w14.cell? ⟨gb189,0,none⟩=some (.int .i64 0):=(blk_cell BK189.out 0).trans rfl;have hcz15_1:w14.cell? ⟨gb189,1,none⟩=some (.int .i64 0):=(blk_cell BK189.out 1).trans rfl;have hfz15_0:=blk_frozen BK189.out 0;have hfz15_1:=blk_frozen BK189.out 1))
  refine bodyPost_ret (results_cell_row rfl _ _ gb189 59 #[.int .i64 t195,.int .i64 t196] (0,0) _ rfl (by try refine bk ?_;refine blk_put (cs:=#[.int .i64 t195,.int .i64 0]) ?_ 1 _ rfl;try refine bk ?_;refine blk_put (cs:=#[.int .i64 0,.int .i64 0]) ?_ 0 _ rfl;try refine bk ?_;exact BK189.out) Try.underlying59 rfl (by kernel_rfl)) rfl ?_
  exact⟨by first|rfl|(simp [errW_none,errW_some]<;>rfl)|(simp [*,errW_none,errW_some]<;>rfl),by repeat (first|with_reducible exact HB.out|exact bl HB|refine bs ?_ GE189|refine bs ?_ GE194)⟩
 ·rw [if_neg c6] at H
  have c6b0:((decide (a0<0)) != (decide (a1<0)))=false:=by simpa using c6
  (try (have c6b1:decide ((decide (a0<0))=(decide (a1<0)))=true:=by simpa using c6))
  (try (have c6b2:((decide (a0<0)) == (decide (a1<0)))=true:=by simpa using c6))
  clear c6
  simp only [Option.some.injEq,Prod.mk.injEq] at H
  obtain⟨rfl,rfl⟩:=H
  go_enter Try.func66,Try.ntmps66
  go_wp2_with (first|((with_reducible refine gate_dst (N:=4) rfl ?_);refine box_event ?hg (N:=4) ?hd (cs:=#[.int .i64 0,.int .i64 0]) (t:=59) ?hr ?_;(case hd=>rfl);(case hg=>rfl);(case hr=>first|(go_simp;done)|(go_simp;rfl));intro gb189 hg w16 hbox hb;have n0_:=Aside0.mk (below_step (by first|with_reducible exact HB.out|exact bl HB) hb);have n1_:=Aside0.mk (hbox);have n2_:=Aside0.mk ((by rw [hg];exact(below_size (by first|with_reducible exact HB.out|exact bl HB)):w.heap.size≤gb189));have n3_:=Aside0.mk ((by rw [hg];exact(below_size (by first|with_reducible exact HB.out|exact bl HB)):w.heap.size≤gb189));clear HB;have HB:=n0_;have BK189:=n1_;have GW189:=n2_;have GE189:=n3_;clear n0_ n1_ n2_ n3_;clear hb hbox hg)|((with_reducible refine gate_callee (f:=17) rfl ?_);refine goesL_ (some 10) rfl rfl Try.func17 (by kernel_rfl) rfl #[.int .i64 a0] rfl (by exact mA _ _) ?_;(with_reducible refine(fix_Abs.calls a0 t190 _ A3.out).mono ?_);rintro e w17 ⟨rfl,hb⟩;refine⟨_,rfl,?_⟩;have n0_:=Aside0.mk (blk_below (bk BK189.out) hb);have n1_:=Aside0.mk (below_step (by repeat (first|with_reducible exact HB.out|exact bl HB|refine bs ?_ GE189)) hb);clear BK189;clear HB;have BK189:=n0_;have HB:=n1_;clear n0_ n1_;(try clear hb);(try clear hb2);(try clear hk);(try clear hi))|((with_reducible refine gate_callee (f:=17) rfl ?_);refine goesL_ (some 13) rfl rfl Try.func17 (by kernel_rfl) rfl #[.int .i64 a1] rfl (by exact mA _ _) ?_;(with_reducible refine(fix_Abs.calls a1 t191 _ A4.out).mono ?_);rintro e w18 ⟨rfl,hb⟩;refine⟨_,rfl,?_⟩;have n0_:=Aside0.mk (blk_below (bk BK189.out) hb);have n1_:=Aside0.mk (below_step (by repeat (first|with_reducible exact HB.out|exact bl HB|refine bs ?_ GE189)) hb);clear BK189;clear HB;have BK189:=n0_;have HB:=n1_;clear n0_ n1_;(try clear hb);(try clear hb2);(try clear hk);(try clear hi))|((with_reducible refine gate_callee (f:=80) rfl ?_);refine goesL_ (some 15) rfl rfl Try.func80 (by kernel_rfl) rfl #[.int .u64 (IntKind.u64.wrap (t190)),.int .u64 (IntKind.u64.wrap (t191))] rfl (by exact mA _ _) ?_;(with_reducible refine(bits_Mul64.calls (IntKind.u64.wrap (t190)) (IntKind.u64.wrap (t191)) t192 t193 _ A5.out).mono ?_);rintro e w' ⟨rfl,⟨nd,rfl⟩⟩;refine⟨_,rfl,?_⟩;(try (rw [drewN_self w18];generalize hq_:World.drewN w18 _=w18;have n0_:Aside0 (w18.heap[gb189]? = some (.cells #[.int .i64 0,.int .i64 0] 59 (0,0))):=⟨by rw [←hq_];exact(bk BK189.out)⟩;have n1_:Aside0 (Below w.heap.size w w18):=⟨by rw [←hq_];exact(by repeat (first|with_reducible exact HB.out|exact bl HB|refine bs ?_ GE189))⟩;clear BK189 HB hq_;have BK189:=n0_;have HB:=n1_;clear n0_ n1_)))|((with_reducible refine gate_dst (N:=7) rfl ?_);refine box_event ?hg (N:=7) ?hd (cs:=#[.int .i64 0,.int .i64 0]) (t:=59) ?hr ?_;(case hd=>rfl);(case hg=>rfl);(case hr=>first|(go_simp;done)|(go_simp;rfl));intro gb194 hg w19 hbox hb;have n0_:=Aside0.mk (blk_below (bk BK189.out) hb);have n1_:=Aside0.mk (below_step (by repeat (first|with_reducible exact HB.out|exact bl HB|refine bs ?_ GE189)) hb);have n2_:=Aside0.mk (hbox);have n3_:=Aside0.mk ((by rw [hg];exact(below_size (by repeat (first|with_reducible exact HB.out|exact bl HB|refine bs ?_ GE189))):w.heap.size≤gb194));have n4_:=Aside0.mk ((by rw [hg];exact(below_size (by repeat (first|with_reducible exact HB.out|exact bl HB|refine bs ?_ GE189))):w.heap.size≤gb194));have n5_:=Aside0.mk ((by rw [hg];exact Nat.ne_of_lt (blk_lt (bk BK189.out)):gb189≠gb194));have n6_:=Aside0.mk ((by rw [hg];exact Nat.ne_of_gt (blk_lt (bk BK189.out)):gb194≠gb189));clear BK189;clear HB;have BK189:=n0_;have HB:=n1_;have BK194:=n2_;have GW194:=n3_;have GE194:=n4_;have NB189_194:=n5_;have NB194_189:=n6_;clear n0_ n1_ n2_ n3_ n4_ n5_ n6_;clear hb hbox hg;have hnb20:=NB194_189.out;have hnc20:=NB189_194.out;have hcz21_0:w19.cell? ⟨gb194,0,none⟩=some (.int .i64 0):=(blk_cell BK194.out 0).trans rfl;have hcz21_1:w19.cell? ⟨gb194,1,none⟩=some (.int .i64 0):=(blk_cell BK194.out 1).trans rfl;have hfz21_0:=blk_frozen BK194.out 0;have hfz21_1:=blk_frozen BK194.out 1;have hcz22_0:w19.cell? ⟨gb189,0,none⟩=some (.int .i64 0):=(blk_cell BK189.out 0).trans rfl;have hcz22_1:w19.cell? ⟨gb189,1,none⟩=some (.int .i64 0):=(blk_cell BK189.out 1).trans rfl;have hfz22_0:=blk_frozen BK189.out 0;have hfz22_1:=blk_frozen BK189.out 1))
  refine bodyPost_ret (results_cell_row rfl _ _ gb189 59 #[.int .i64 (wrap64 (Go.bits .or .u64 (IntKind.u64.wrap (t192*4)) (t193/4611686018427387904))),.int .i64 (wrap64 (Go.bits .and .u64 t193 4611686018427387903))] (0,0) _ rfl (by try refine bk ?_;refine blk_put (cs:=#[.int .i64 (wrap64 (Go.bits .or .u64 (IntKind.u64.wrap (t192*4)) (t193/4611686018427387904))),.int .i64 0]) ?_ 1 _ rfl;try refine bk ?_;refine blk_put (cs:=#[.int .i64 0,.int .i64 0]) ?_ 0 _ rfl;try refine bk ?_;refine blk_far ?_ NB189_194.out _;try refine bk ?_;refine blk_far ?_ NB189_194.out _;try refine bk ?_;exact BK189.out) Try.underlying59 rfl (by kernel_rfl)) rfl ?_
  exact⟨by first|rfl|(simp [errW_none,errW_some]<;>rfl)|(simp [*,errW_none,errW_some]<;>rfl),by repeat (first|with_reducible exact HB.out|exact bl HB|refine bs ?_ GE189|refine bs ?_ GE194)⟩
end Go.Proofs.Ytonfobdknnlbjaa.B
end
section
set_option linter.unusedVariables false
set_option linter.unusedSimpArgs false
namespace Go.Proofs.Ytonfobdknnlbjaa.B
open Go Go.RowKit Go.Proofs.YtonfobdknnlbjaaW.PrintWords Go.Proofs.YtonfobdknnlbjaaW.PrintLast Go.Proofs.YtonfobdknnlbjaaW.PrintMore
def Bk (W:World) (g:Nat) (cs:Array Value) (t:TypeId):Prop:=W.heap[g]? = some (.cells cs t (0,0))
theorem Bk.out {W:World} {g:Nat} {cs:Array Value} {t:TypeId} (h:Bk W g cs t):W.heap[g]? = some (.cells cs t (0,0)):=h
def Bel (w W:World):Prop:=Below w.heap.size w W
theorem Bel.refl (w:World):Bel w w:=Below.refl _ _
theorem Bk.below {W W':World} {g:Nat} {cs:Array Value} {t:TypeId} (h:Bk W g cs t) (hb:Below W.heap.size W W'):Bk W' g cs t:=blk_below h hb
theorem Bk.drew {W:World} {g:Nat} {cs:Array Value} {t:TypeId} (h:Bk W g cs t):Bk W.drew g cs t:=blk_drew h
theorem Bk.drewN {W:World} {g:Nat} {cs:Array Value} {t:TypeId} (h:Bk W g cs t) (n:Nat):Bk (W.drewN n) g cs t:=blk_drewN h n
theorem Bk.alloc {W:World} {g:Nat} {cs:Array Value} {t:TypeId} (h:Bk W g cs t) (o:Obj):Bk (W.alloc o) g cs t:=blk_alloc h o
theorem Bk.put {W:World} {g:Nat} {cs cs':Array Value} {t:TypeId} (h:Bk W g cs t) (i:Nat) (u:Value) (e:cs.setIfInBounds i u=cs'):Bk (W.setCell ⟨g,i,none⟩ u) g cs' t:=blk_put h i u e
theorem Bk.far {W:World} {g g':Nat} {cs:Array Value} {t:TypeId} (h:Bk W g cs t) (hn:g≠g') (i:Nat) (u:Value):Bk (W.setCell ⟨g',i,none⟩ u) g cs t:=blk_far h hn u
theorem Bk.cell {W:World} {g:Nat} {cs:Array Value} {t:TypeId} (h:Bk W g cs t) (i:Nat):W.cell? ⟨g,i,none⟩=cs[i]?:=blk_cell h i
theorem Bk.frozen {W:World} {g:Nat} {cs:Array Value} {t:TypeId} (h:Bk W g cs t) (i:Nat):W.frozen? ⟨g,i,none⟩=false:=blk_frozen h i
theorem Bk.lt {W:World} {g:Nat} {cs:Array Value} {t:TypeId} (h:Bk W g cs t):g<W.heap.size:=blk_lt h
theorem Bel.step {w W W':World} (h:Bel w W) (hb:Below W.heap.size W W'):Bel w W':=below_step h hb
theorem Bel.drew {w W:World} (h:Bel w W):Bel w W.drew:=below_drew h
theorem Bel.drewN {w W:World} (h:Bel w W) (n:Nat):Bel w (W.drewN n):=pw_below_drewN h n
theorem Bel.alloc {w W:World} (h:Bel w W) (o:Obj):Bel w (W.alloc o):=below_alloc h o
theorem Bel.set {w W:World} (h:Bel w W) {g:Nat} (hg:w.heap.size≤g) (i:Nat) (u:Value):Bel w (W.setCell ⟨g,i,none⟩ u):=below_set h hg
theorem Bel.size {w W:World} (h:Bel w W):w.heap.size≤W.heap.size:=below_size h
theorem start2_ {P:Program} {ops:Array Oper} {Q:Exit→Act→World→Prop} {S:World→Prop} {ds:List Nat} {T:Bool × List (List Nat × List Nat)} {B:List Nat} {id n:Nat} {a:Act} {w:World} (l:Array Bool) (hm:P.follows .mixedOrders=true) (hn:ops.size=n) (hl:Array.replicate n false=l)
  (hT:rtab .any ops=T) (hB:waitsOk T.2 B=true) (hS:S w.drew) (h:∀ W,S W→Aside0 (rtab .any ops=T)→Aside0 (waitsOk T.2 B=true)→wpAnyLast P .any ops Q S ds n l a W):(Code.region id ops true).wp P Q a w:=start_ l hm hn hl hS fun k=>h _ k ⟨hT⟩ ⟨hB⟩
theorem gen_c {P:Program} {c:Code} {Q:Exit→Act→World→Prop} {a:Act} {W:World} (S:World→Prop) (hS:S W) (h:∀ W',S W'→c.wp P Q a W'):c.wp P Q a W:=h W hS
end Go.Proofs.Ytonfobdknnlbjaa.B
end
