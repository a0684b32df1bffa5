/- Lemmas of the rows, laid by a program. -/
import Derived.Test.YtonfobdknnlbjaaYM1
import Derived.Shelf.Abstract
import Derived.RangeFuncNested
import Derived.RangeFuncBound
import Derived.RangeFuncCalls
import Derived.RangeFuncLeaves
import Derived.WalkKit
import Derived.OwnWalkIn
import Derived.TacticsInMore
import Derived.LoopNIn
import Derived.LoopIn
section
set_option linter.unusedVariables false
set_option linter.unusedSimpArgs false
namespace Go.Proofs.Ytonfobdknnlbjaa.B
open Go.RowKit Go.Proofs.YtonfobdknnlbjaaW.PrintWords Go.Proofs.YtonfobdknnlbjaaW.PrintLast Go.Proofs.YtonfobdknnlbjaaW.PrintMore
attribute [local go_sem] max2_int min2_int max_two min_two max_three min_three max_four min_four
set_option linter.unusedVariables false
set_option linter.unusedSimpArgs false
def slices_IndexFunc_3_int_3_int.l0 (F:Int→Int→Int→Option Bool):Nat→List (S22)→Int→Int→Option (Int)
  | 0,_,_,_=>none
  | k+1,x0,x7,x8=>if x8<x7 then (if 0≤x8 then (if x8<(x0.length:Int) then ((F ((rd_T22 x0 x8).f0) ((rd_T22 x0 x8).f1) ((rd_T22 x0 x8).f2)).bind fun t315=>(if t315=true then (some x8) else (slices_IndexFunc_3_int_3_int.l0 F k x0 x7 (wrap64 (x8+1))))) else (none)) else (none)) else (some (-1))
def slices_IndexFunc_3_int_3_int.f (F:Int→Int→Int→Option Bool) (k:Nat) (l0:List (S22)):Option (Int):=slices_IndexFunc_3_int_3_int.l0 F k l0 (l0.length:Int) 0
theorem slices_IndexFunc_3_int_3_int.mono_l {F G:Int→Int→Int→Option Bool} (hF:∀ i0_ i1_ i2_,LeO (F i0_ i1_ i2_) (G i0_ i1_ i2_)):∀ k,(∀ y0 y1 y2,LeO (slices_IndexFunc_3_int_3_int.l0 F k y0 y1 y2) (slices_IndexFunc_3_int_3_int.l0 G (k+1) y0 y1 y2))
 | 0=>fun _ _ _ r h=>by simp [slices_IndexFunc_3_int_3_int.l0] at h
 | k+1=>by
  have ih0:=slices_IndexFunc_3_int_3_int.mono_l hF k
  ·intro y0 y1 y2
   unfold slices_IndexFunc_3_int_3_int.l0
   repeat' first
   | (with_reducible exact ih0 _ _ _)
   | (with_reducible exact sense_values.mono _ _ _ _)
   | (with_reducible exact hF _ _ _)
   | (with_reducible exact LeO.refl _)
   | (with_reducible exact LeO.none _)
   | (with_reducible refine LeO.ite ?_ ?_)
   | (with_reducible refine LeO.bind ?_ (fun _=>?_))
   | exact ih0 _ _ _
   | exact sense_values.mono _ _ _ _
   | exact LeO.none _
   | refine LeO.ite ?_ ?_
   | refine LeO.bind ?_ (fun _=>?_)
theorem slices_IndexFunc_3_int_3_int.mono {F G:Int→Int→Int→Option Bool} (hF:∀ i0_ i1_ i2_,LeO (F i0_ i1_ i2_) (G i0_ i1_ i2_)):∀ a0 k,LeO (slices_IndexFunc_3_int_3_int.f F k a0) (slices_IndexFunc_3_int_3_int.f G (k+1) a0):=by
 intro a0 k
 have ih0:=slices_IndexFunc_3_int_3_int.mono_l hF k
 unfold slices_IndexFunc_3_int_3_int.f
 repeat' first
   | (with_reducible exact ih0 _ _ _)
   | (with_reducible exact sense_values.mono _ _ _ _)
   | (with_reducible exact hF _ _ _)
   | (with_reducible exact LeO.refl _)
   | (with_reducible exact LeO.none _)
   | (with_reducible refine LeO.ite ?_ ?_)
   | (with_reducible refine LeO.bind ?_ (fun _=>?_))
   | exact ih0 _ _ _
   | exact sense_values.mono _ _ _ _
   | exact LeO.none _
   | refine LeO.ite ?_ ?_
   | refine LeO.bind ?_ (fun _=>?_)
set_option maxHeartbeats 8000000 in
set_option maxRecDepth 100000 in
theorem slices_IndexFunc_3_int_3_int.calls (F:Int→Int→Int→Option Bool) (g:Nat) (pre lb:Array Value) (k:Nat) (A0:Option Addr) (c0:Nat) (l0:List (S22)) (r:Int) (w:World) (eg:∀ args w,(callFunc g args).run Try.prog w=.ok (.enter g args) w) (hF:Aside0 (∀ i0_ i1_ i2_ r_ W,Below w.heap.size w W→F i0_ i1_ i2_=some r_→Calls Try.prog g (pre++(#[.agg #[.int .i64 i0_,.int .i64 i1_,.int .i64 i2_]]++lb)) W fun e W'=>e=.returned (.bool r_)∧Below W.heap.size W W')) (hr0:Kd.C k22 w A0 l0.length l0) (hc0:l0.length≤c0) (h:slices_IndexFunc_3_int_3_int.f F k l0=some r) :
  Calls Try.prog 57 #[.slice A0 l0.length c0,.func (.func g) pre lb] w fun e w'=>e=.returned (.int .i64 r)∧Below w.heap.size w w':=by
 have hu22:=Try.underlying22
 have HR0:=Aside0.mk hr0
 have HC0:=Aside0.mk hc0
 clear hr0 hc0
 have HB:=Aside0.mk (Below.refl w.heap.size w)
 have H:(slices_IndexFunc_3_int_3_int.l0 F k l0 (l0.length:Int) 0)=some r:=h
 clear h
 have H':=Aside0.mk H
 clear H
 go_enter Try.func57,Try.ntmps57
 go_wp2
 go_loopg [8] k (fun kq v8 w'=>∃ (x8_1:Int),v8=.int .i64 x8_1∧Aside0 (slices_IndexFunc_3_int_3_int.l0 F kq l0 (l0.length:Int) x8_1=some r)∧Aside0 (kq≤k)∧Aside0 (Below w.heap.size w w'))
 case atStart=>exact⟨(0),(by first|rfl|(simp;done)|(simp [*];done)),H',⟨Nat.le_refl _⟩,⟨by repeat (first|(with_reducible first|exact HB.out|apply below_alloc|apply pw_below_drewN|apply below_drew1)|exact HB.out)⟩⟩
 case round =>
  clear H'
  obtain⟨x8_1,rfl,HA,HK1,HB⟩:=hrel
  cases gk with
  | zero=>exact absurd HA.out (by simp [slices_IndexFunc_3_int_3_int.l0])
  | succ k1 =>
   have H:=HA.out
   clear HA
   simp only [slices_IndexFunc_3_int_3_int.l0] at H
   by_cases c2:x8_1<(l0.length:Int)
   ·rw [if_pos c2] at H
    have c2b0:decide (x8_1<(l0.length:Int))=true:=decide_eq_true c2
    clear c2
    by_cases c3:0≤x8_1
    ·rw [if_pos c3] at H
     have c3b0:decide (0≤x8_1)=true:=decide_eq_true c3
     clear c3
     by_cases c4:x8_1<(l0.length:Int)
     ·rw [if_pos c4] at H
      have c4b0:decide (x8_1<(l0.length:Int))=true:=decide_eq_true c4
      clear c4
      replace H:=Option.bind_eq_some_iff.mp H
      obtain⟨t315,A50,H⟩:=H
      replace H:(if t315=true then (some x8_1) else (slices_IndexFunc_3_int_3_int.l0 F k1 l0 (l0.length:Int) (wrap64 (x8_1+1))))=some r:=H
      have A5:=Aside0.mk A50
      clear A50
      by_cases c6:t315=true
      ·subst c6
       have H1:(some x8_1)=some r:=by rw [if_pos rfl] at H;exact H
       clear H
       have H:=H1
       clear H1
       obtain rfl:=Option.some.inj H
       have p314:0≤(x8_1:Int):=of_decide_eq_true (by first|(with_reducible assumption)|assumption)
       have q314:x8_1<(l0.length:Int):=of_decide_eq_true (by first|(with_reducible assumption)|assumption)
       obtain⟨ad314,e314,hx314_0,hx314_1,hx314_2⟩:=at_T22 HR0.out x8_1 p314 q314
       cases e314
       replace hx314_0:=(HB.out.cell (World.block_lt_of_cell? w _ hx314_0)).trans hx314_0
       replace hx314_1:=(HB.out.cell (World.block_lt_of_cell? w _ hx314_1)).trans hx314_1
       replace hx314_2:=(HB.out.cell (World.block_lt_of_cell? w _ hx314_2)).trans hx314_2
       replace p314:=eq_true p314
       replace q314:=eq_true q314
       go_wp2_with (first|(go_at_fn g;refine calls_of_args (args':=pre++(#[.agg #[.int .i64 ((rd_T22 l0 x8_1).f0),.int .i64 ((rd_T22 l0 x8_1).f1),.int .i64 ((rd_T22 l0 x8_1).f2)]]++lb)) (by simp) ?_;refine(hF.out _ _ _ _ _ (by repeat (first|(with_reducible first|exact HB.out|apply below_alloc|apply pw_below_drewN|apply below_drew1)|exact HB.out)) A5.out).mono ?_;rintro e w7 ⟨rfl,hb⟩;have n0_:=Aside0.mk (below_step (by repeat (first|(with_reducible first|exact HB.out|apply below_alloc|apply pw_below_drewN|apply below_drew1)|exact HB.out)) hb);clear HB;have HB:=n0_;clear n0_;(try clear hb);(try clear hb2);(try clear hk);(try clear hi)))
       go_ret
       exact⟨by first|rfl|(simp [errW_none,errW_some]<;>rfl)|(simp [*,errW_none,errW_some]<;>rfl),by repeat (first|(with_reducible first|exact HB.out|apply below_alloc|apply pw_below_drewN|apply below_drew1)|exact HB.out)⟩
      ·replace c6:=Bool.eq_false_iff.mpr c6
       subst c6
       have H1:(slices_IndexFunc_3_int_3_int.l0 F k1 l0 (l0.length:Int) (wrap64 (x8_1+1)))=some r:=by rw [if_neg (show ¬(false=true) by decide)] at H;exact H
       clear H
       have H:=H1
       clear H1
       have H':=Aside0.mk H
       clear H
       have p314:0≤(x8_1:Int):=of_decide_eq_true (by first|(with_reducible assumption)|assumption)
       have q314:x8_1<(l0.length:Int):=of_decide_eq_true (by first|(with_reducible assumption)|assumption)
       obtain⟨ad314,e314,hx314_0,hx314_1,hx314_2⟩:=at_T22 HR0.out x8_1 p314 q314
       cases e314
       replace hx314_0:=(HB.out.cell (World.block_lt_of_cell? w _ hx314_0)).trans hx314_0
       replace hx314_1:=(HB.out.cell (World.block_lt_of_cell? w _ hx314_1)).trans hx314_1
       replace hx314_2:=(HB.out.cell (World.block_lt_of_cell? w _ hx314_2)).trans hx314_2
       replace p314:=eq_true p314
       replace q314:=eq_true q314
       go_wp2_with (first|(go_at_fn g;refine calls_of_args (args':=pre++(#[.agg #[.int .i64 ((rd_T22 l0 x8_1).f0),.int .i64 ((rd_T22 l0 x8_1).f1),.int .i64 ((rd_T22 l0 x8_1).f2)]]++lb)) (by simp) ?_;refine(hF.out _ _ _ _ _ (by repeat (first|(with_reducible first|exact HB.out|apply below_alloc|apply pw_below_drewN|apply below_drew1)|exact HB.out)) A5.out).mono ?_;rintro e w8 ⟨rfl,hb⟩;have n0_:=Aside0.mk (below_step (by repeat (first|(with_reducible first|exact HB.out|apply below_alloc|apply pw_below_drewN|apply below_drew1)|exact HB.out)) hb);clear HB;have HB:=n0_;clear n0_;(try clear hb);(try clear hb2);(try clear hk);(try clear hi)))
       go_roundg k1
       case measure=>have:=HK1.out;omega
       case rel=>exact⟨(wrap64 (x8_1+1)),(by first|rfl|(simp;done)|(simp [*];done)),H',⟨by have:=HK1.out;omega⟩,⟨by repeat (first|(with_reducible first|exact HB.out|apply below_alloc|apply pw_below_drewN|apply below_drew1)|exact HB.out)⟩⟩
     ·rw [if_neg c4] at H
      exact absurd H (by simp)
    ·rw [if_neg c3] at H
     exact absurd H (by simp)
   ·rw [if_neg c2] at H
    have c2b0:decide (x8_1<(l0.length:Int))=false:=decide_eq_false c2
    clear c2
    obtain rfl:=Option.some.inj H
    go_wp2
    go_ret
    exact⟨by first|rfl|(simp [errW_none,errW_some]<;>rfl)|(simp [*,errW_none,errW_some]<;>rfl),by repeat (first|(with_reducible first|exact HB.out|apply below_alloc|apply pw_below_drewN|apply below_drew1)|exact HB.out)⟩
def slices_ContainsFunc_3_int_3_int.f (F:Int→Int→Int→Option Bool) (k:Nat) (l0:List (S22)):Option (Bool):=(slices_IndexFunc_3_int_3_int.f F k l0).bind fun t316=>(some (decide (t316 ≥ 0)))
theorem slices_ContainsFunc_3_int_3_int.mono {F G:Int→Int→Int→Option Bool} (hF:∀ i0_ i1_ i2_,LeO (F i0_ i1_ i2_) (G i0_ i1_ i2_)):∀ a0 k,LeO (slices_ContainsFunc_3_int_3_int.f F k a0) (slices_ContainsFunc_3_int_3_int.f G (k+1) a0):=by
 intro a0 k
 unfold slices_ContainsFunc_3_int_3_int.f
 repeat' first
   | (with_reducible exact slices_IndexFunc_3_int_3_int.mono hF _ _)
   | (with_reducible exact LeO.refl _)
   | (with_reducible exact LeO.none _)
   | (with_reducible refine LeO.ite ?_ ?_)
   | (with_reducible refine LeO.bind ?_ (fun _=>?_))
   | exact slices_IndexFunc_3_int_3_int.mono hF _ _
   | exact LeO.none _
   | refine LeO.ite ?_ ?_
   | refine LeO.bind ?_ (fun _=>?_)
set_option maxHeartbeats 8000000 in
set_option maxRecDepth 100000 in
theorem slices_ContainsFunc_3_int_3_int.calls (F:Int→Int→Int→Option Bool) (g:Nat) (pre lb:Array Value) (k:Nat) (A0:Option Addr) (c0:Nat) (l0:List (S22)) (r:Bool) (w:World) (eg:∀ args w,(callFunc g args).run Try.prog w=.ok (.enter g args) w) (hF:Aside0 (∀ i0_ i1_ i2_ r_ W,Below w.heap.size w W→F i0_ i1_ i2_=some r_→Calls Try.prog g (pre++(#[.agg #[.int .i64 i0_,.int .i64 i1_,.int .i64 i2_]]++lb)) W fun e W'=>e=.returned (.bool r_)∧Below W.heap.size W W')) (hr0:Kd.C k22 w A0 l0.length l0) (hc0:l0.length≤c0) (h:slices_ContainsFunc_3_int_3_int.f F k l0=some r) :
  Calls Try.prog 34 #[.slice A0 l0.length c0,.func (.func g) pre lb] w fun e w'=>e=.returned (.bool r)∧Below w.heap.size w w':=by
 have HR0:=Aside0.mk hr0
 have HC0:=Aside0.mk hc0
 clear hr0 hc0
 have HB:=Aside0.mk (Below.refl w.heap.size w)
 have H:((slices_IndexFunc_3_int_3_int.f F k l0).bind fun t316=>(some (decide (t316 ≥ 0))))=some r:=h
 clear h
 replace H:=Option.bind_eq_some_iff.mp H
 obtain⟨t316,A20,H⟩:=H
 replace H:(some (decide (t316 ≥ 0)))=some r:=H
 have A2:=Aside0.mk A20
 clear A20
 obtain rfl:=Option.some.inj H
 go_enter Try.func34,Try.ntmps34
 go_wp2_with (first|((with_reducible refine gate_callee (f:=57) rfl ?_);refine goesL_ (some 7) rfl rfl Try.func57 (by kernel_rfl) rfl #[.slice A0 l0.length c0,.func (.func g) pre lb] rfl (by (try simp only [List.map_toArray,List.map_cons,List.map_nil]);first|done|rfl|(simp only [List.length_drop,List.length_take];rfl)) ?_;(refine(slices_IndexFunc_3_int_3_int.calls F g pre lb k _ _ l0 t316 _ eg ⟨fun i0_ i1_ i2_ r_ W_ hb_=>hF.out i0_ i1_ i2_ r_ W_ (below_step (by repeat (first|(with_reducible first|exact HB.out|apply below_alloc|apply pw_below_drewN|apply below_drew1)|exact HB.out)) hb_)⟩ ?side1 ?side2 A2.out).mono ?_);(case side1=>repeat (first|exact HR0.out|(with_reducible refine Kd.C_alloc ?_ _)|(with_reducible refine Kd.C_drewN ?_ _)|(with_reducible refine Kd.C_drew ?_)));(case side2=>exact HC0.out);rintro e w3 ⟨rfl,hb⟩;refine⟨_,rfl,?_⟩;have n0_:=Aside0.mk (below_step (by repeat (first|(with_reducible first|exact HB.out|apply below_alloc|apply pw_below_drewN|apply below_drew1)|exact HB.out)) hb);clear HB;have HB:=n0_;clear n0_;(try clear hb);(try clear hb2);(try clear hk);(try clear hi)))
 go_ret
 exact⟨by first|rfl|(simp [errW_none,errW_some]<;>rfl)|(simp [*,errW_none,errW_some]<;>rfl),by repeat (first|(with_reducible first|exact HB.out|apply below_alloc|apply pw_below_drewN|apply below_drew1)|exact HB.out)⟩
def sense_Learn_1.f (k:Nat) (a0_0:Int) (a0_1:Int) (a0_2:Int):Option (Bool):=(sense_values.f k a0_0 a0_1 a0_2).bind fun t318=>(some (!t318))
theorem sense_Learn_1.mono:∀ a0 a1 a2 k,LeO (sense_Learn_1.f k a0 a1 a2) (sense_Learn_1.f (k+1) a0 a1 a2):=by
 intro a0 a1 a2 k
 unfold sense_Learn_1.f
 repeat' first
   | (with_reducible exact sense_values.mono _ _ _ _)
   | (with_reducible exact LeO.refl _)
   | (with_reducible exact LeO.none _)
   | (with_reducible refine LeO.ite ?_ ?_)
   | (with_reducible refine LeO.bind ?_ (fun _=>?_))
   | exact sense_values.mono _ _ _ _
   | exact LeO.none _
   | refine LeO.ite ?_ ?_
   | refine LeO.bind ?_ (fun _=>?_)
set_option maxHeartbeats 8000000 in
set_option maxRecDepth 100000 in
theorem sense_Learn_1.calls (k:Nat) (a0_0:Int) (a0_1:Int) (a0_2:Int) (r:Bool) (w:World) (h:sense_Learn_1.f k a0_0 a0_1 a0_2=some r) :
  Calls Try.prog 35 #[.agg #[.int .i64 a0_0,.int .i64 a0_1,.int .i64 a0_2]] w fun e w'=>e=.returned (.bool r)∧Below w.heap.size w w':=by
 have hu22:=Try.underlying22
 have HB:=Aside0.mk (Below.refl w.heap.size w)
 have H:((sense_values.f k a0_0 a0_1 a0_2).bind fun t318=>(some (!t318)))=some r:=h
 clear h
 replace H:=Option.bind_eq_some_iff.mp H
 obtain⟨t318,A20,H⟩:=H
 replace H:(some (!t318))=some r:=H
 have A2:=Aside0.mk A20
 clear A20
 obtain rfl:=Option.some.inj H
 go_enter Try.func35,Try.ntmps35
 go_wp2_with (first|((with_reducible refine gate_dst (N:=1) rfl ?_);refine box_event ?hg (N:=1) ?hd (cs:=#[.int .i64 a0_0,.int .i64 a0_1,.int .i64 a0_2]) (t:=22) ?hr ?_;(case hd=>rfl);(case hg=>rfl);(case hr=>first|(go_simp;done)|(go_simp;rfl));intro gb317 hg w3 hbox hb;have n0_:=Aside0.mk (below_step (by first|with_reducible exact HB.out|exact bl HB) hb);have n1_:=Aside0.mk (hbox);have n2_:=Aside0.mk ((by rw [hg];exact(below_size (by first|with_reducible exact HB.out|exact bl HB)):w.heap.size≤gb317));have n3_:=Aside0.mk ((by rw [hg];exact(below_size (by first|with_reducible exact HB.out|exact bl HB)):w.heap.size≤gb317));clear HB;have HB:=n0_;have BK317:=n1_;have GW317:=n2_;have GE317:=n3_;clear n0_ n1_ n2_ n3_;clear hb hbox hg;have hcz4_0:w3.cell? ⟨gb317,0,none⟩=some (.int .i64 a0_0):=(blk_cell BK317.out 0).trans rfl;have hcz4_1:w3.cell? ⟨gb317,1,none⟩=some (.int .i64 a0_1):=(blk_cell BK317.out 1).trans rfl;have hcz4_2:w3.cell? ⟨gb317,2,none⟩=some (.int .i64 a0_2):=(blk_cell BK317.out 2).trans rfl;have hfz4_0:=blk_frozen BK317.out 0;have hfz4_1:=blk_frozen BK317.out 1;have hfz4_2:=blk_frozen BK317.out 2)|((with_reducible refine gate_callee (f:=30) rfl ?_);refine goesL_ (some 4) rfl rfl Try.func30 (by kernel_rfl) rfl #[.agg #[.int .i64 a0_0,.int .i64 a0_1,.int .i64 a0_2]] rfl (by exact mA _ _) ?_;(with_reducible refine(sense_values.calls k a0_0 a0_1 a0_2 t318 _ A2.out).mono ?_);rintro e w5 ⟨rfl,hb⟩;refine⟨_,rfl,?_⟩;have n0_:=Aside0.mk (blk_below (bk BK317.out) hb);have n1_:=Aside0.mk (below_step (by repeat (first|with_reducible exact HB.out|exact bl HB|refine bs ?_ GE317)) hb);clear BK317;clear HB;have BK317:=n0_;have HB:=n1_;clear n0_ n1_;(try clear hb);(try clear hb2);(try clear hk);(try clear hi)))
 go_ret
 exact⟨by first|rfl|(simp [errW_none,errW_some]<;>rfl)|(simp [*,errW_none,errW_some]<;>rfl),by repeat (first|with_reducible exact HB.out|exact bl HB|refine bs ?_ GE317)⟩
theorem sum_cut.own (A:Option Addr) (c:Nat) (l m:List Int) (j:Int) (hm:l.take (j:Int).toNat=m) (hj:(if 64<(l.length:Int) then 64 else (l.length:Int))=j) (hc:l.length≤c) (w:World) :
  Calls Try.prog 58 #[.slice A l.length c] w fun e w'=>e=.returned (.slice A m.length c)∧w=w':=by
 have h0:0≤j:=by rw [←hj];split<;>omega
 have h1:j≤(l.length:Int):=by rw [←hj];split<;>omega
 rw [show m.length=j.toNat from (by rw [←hm,List.length_take];omega)]
 obtain⟨i06,hi06,_,hsz6,_⟩:=info_parts info3
 have hcut6:=cut_to (P:=Try.prog) 42 3 .i64 Try.underlying42 hi06 A l.length c j h0 h1 hc
 go_enter Try.func58,Try.ntmps58
 go_wp2
 go_ret
 exact⟨rfl,rfl⟩
end Go.Proofs.Ytonfobdknnlbjaa.B
end
section
set_option linter.unusedVariables false
set_option linter.unusedSimpArgs false
namespace Go.Proofs.Ytonfobdknnlbjaa.B
open Go Go.Proofs Go.RowKit Go.Shelf Go.Proofs.YtonfobdknnlbjaaW.PrintWords Go.Proofs.YtonfobdknnlbjaaW.PrintLast Go.Proofs.YtonfobdknnlbjaaW.PrintMore
attribute [local go_sem] Oper.semAt_some
theorem grown_of_below {w w':World} (h:Below w.heap.size w w'):w.grownBy w' none:=⟨h.os,h.tape,h.output,h.size,fun k hk _=>h.block k hk⟩
set_option maxRecDepth 100000 in
set_option maxHeartbeats 4000000 in
theorem each1_48 (l n₀ B1 B2 n:Nat) (hn1:1≤n) (p:Option Addr) (zs:List Bool) (hn:zs.length≤64) (hb2:B2<n₀) (J Jx:List Bool→World→Prop)
  (W:World) (hJ:AbidesFrom W.heap.size J)
  (hY:∀ pre x W1,J pre W1→pre.length<zs.length→YieldAt Fence.wide (n-1) Try.prog l #[.bool x] W1 fun e W' =>
   (e=.returned (.bool true)∧J (pre++[x]) W'∧Below n₀ W1 W')∨(e=.returned (.bool false)∧Jx (pre++[x]) W'))
  (hc1:W.cell? ⟨B1,0,none⟩=some (.int .i64 zs.length)) (hc2:W.cell? ⟨B2,0,none⟩=some (.func (.func 71) #[] #[.pointer p]))
  (hf:∀ (k:Nat) x,zs[k]? = some x→∀ W',Below n₀ W W'→Calls Try.prog 71 #[.int .i64 k,.pointer p] W' fun e W''=>e=.returned (.bool x)∧Below W'.heap.size W' W'')
  (hn0:n₀≤W.heap.size) (h0:J [] W) :
  CallsIn Fence.wide n Try.prog 85 #[.func (.yield l) #[] #[],.pointer (some ⟨B1,0,none⟩),.pointer (some ⟨B2,0,none⟩)] W fun e W'=>(∃ v,e=.returned v)∧((∃ ys,ys=zs∧J ys W')∨(∃ pre,pre <+: zs∧Jx pre W')):=by
 refine callsIn_of_wp Try.func85 rfl trivial ?_ rfl
 simp only [Try.ntmps85,List.size_toArray,List.length_cons,List.length_nil,Nat.reduceAdd,Nat.reduceSub,Array.replicate_succ,Array.replicate_zero,List.push_toArray,List.append_toArray,List.nil_append,List.cons_append]
 gi_wp2
 gi_loopw [6] (fun i wr=>∃ k:Nat,k≤zs.length∧i=.int .i64 k∧J (zs.take k) wr∧Below n₀ W wr)
  (fun i _=>zs.length-(intOf i).toNat)
 case atStart=>exact⟨0,Nat.zero_le _,rfl,h0,Below.refl _ _⟩
 case round =>
  obtain⟨k,hk,rfl,hJs,hnx⟩:=hrel
  by_cases hlt:k<zs.length
  ·have hc2':=(hnx.cell (p:=⟨B2,0,none⟩) hb2).trans hc2
   obtain⟨x,hx⟩:∃ x,zs[k]? = some x:=⟨zs[k],List.getElem?_eq_getElem hlt⟩
   have ht:zs.take (k+1)=zs.take k++[x]:=by rw [List.take_add_one,hx];rfl
   gi_wp2_with (refine⟨trivial,?_⟩;gi_at_call 71;refine(callsIn_wide.2 (hf k x hx _ hnx)).mono ?_;rintro e w1 ⟨rfl,hb⟩;obtain⟨fn,tmps,assign,body,hy,hR⟩:=hY _ x w1 (hJ _ _ _ none hJs (grown_of_below hb) (by simp)) (by rw [List.length_take];omega);have hnx1:=hnx.trans (hb.mono (Nat.le_trans hn0 hnx.size)))
   refine hR.mono ?_
   rintro e W3 (⟨rfl,hJ3,hk3⟩|⟨rfl,hJx3⟩)
   ·gi_wp2
    go_roundw
    case rel=>exact⟨k+1,by omega,by simp,by rw [ht];exact hJ3,hnx1.trans hk3⟩
    case measure=>simp [intOf];omega
   ·gi_wp2
    refine bodyPost_ret (results_none rfl _ _ _) rfl ?_
    exact⟨⟨_,rfl⟩,.inr ⟨_,by rw [←ht];exact List.take_prefix _ _,hJx3⟩⟩
  ·obtain rfl:k=zs.length:=by omega
   gi_wp2
   go_end0
   exact⟨⟨_,rfl⟩,.inl ⟨_,rfl,by rw [List.take_length] at hJs;exact hJs⟩⟩
set_option maxHeartbeats 1000000 in
theorem each_47 (n:Nat) (len:Int) (g:Nat) (lb:Array Value) (w:World) :
  CallsIn Fence.wide n Try.prog 70 #[.int .i64 len,.func (.func g) #[] lb] w fun e w'=>e=.returned (.func (.func 85) #[] #[.pointer (some ⟨w.heap.size,0,none⟩),.pointer (some ⟨w.heap.size+1,0,none⟩)])∧w'=(w.alloc (.cells #[.int .i64 len] 3)).alloc (.cells #[.func (.func g) #[] lb] 43):=by
 refine callsIn_of_wp Try.func70 rfl trivial ?_ rfl
 simp only [Try.ntmps70,List.size_toArray,List.length_cons,List.length_nil,Nat.reduceAdd,Nat.reduceSub,Array.replicate_succ,Array.replicate_zero,List.push_toArray,List.append_toArray,List.nil_append,List.cons_append]
 gi_wp2
 go_ret
 exact⟨by simp,rfl⟩
set_option maxRecDepth 100000 in
set_option maxHeartbeats 4000000 in
theorem changed_25 (A:Option Addr) (len c:Nat) (zs:List Bool) (hz:zs.length=len) (hlen:len≤64) (w:World)
  (hf:∀ (k:Nat) x,zs[k]? = some x→∀ B W',W'.cell? ⟨B,0,none⟩=some (.slice A len c)→Below w.heap.size w W'→Calls Try.prog 71 #[.int .i64 k,.pointer (some ⟨B,0,none⟩)] W' fun e W''=>e=.returned (.bool x)∧Below W'.heap.size W' W'') :
  Calls Try.prog 59 #[.slice A len c] w fun e w'=>e=.returned (.bool (zs.any id))∧Below w.heap.size w w':=by
 refine(callsIn_wide (n:=9)).1 ?_
 refine callsIn_of_wp_marks Try.func59 rfl trivial ?_ rfl
 simp only [Try.ntmps59,List.size_toArray,List.length_cons,List.length_nil,Nat.reduceAdd,Nat.reduceSub,Array.replicate_succ,Array.replicate_zero,List.push_toArray,List.append_toArray,List.nil_append,List.cons_append]
 gi_wp2_with (refine⟨trivial,?_⟩;gi_at_call 70;refine(each_47 _ _ _ _ _).mono ?_;rintro e w1 ⟨rfl,rfl⟩)
 have b0:=(((Boxed.new w 42 (.slice A len c)).alloc (.cells #[.bool false] 4)).alloc (.cells #[.int .i64 len] 3)).alloc (.cells #[.func (.func 71) #[] #[.pointer (some ⟨w.heap.size,0,none⟩)]] 43)
 have bR:=((Boxed.new (w.alloc (.cells #[.slice A len c] 42)) 4 (.bool false)).alloc (.cells #[.int .i64 len] 3)).alloc (.cells #[.func (.func 71) #[] #[.pointer (some ⟨w.heap.size,0,none⟩)]] 43)
 have b1:=(Boxed.new ((w.alloc (.cells #[.slice A len c] 42)).alloc (.cells #[.bool false] 4)) 3 (.int .i64 len)).alloc (.cells #[.func (.func 71) #[] #[.pointer (some ⟨w.heap.size,0,none⟩)]] 43)
 have b2:=Boxed.new (((w.alloc (.cells #[.slice A len c] 42)).alloc (.cells #[.bool false] 4)).alloc (.cells #[.int .i64 len] 3)) 43 (.func (.func 71) #[] #[.pointer (some ⟨w.heap.size,0,none⟩)])
 have hB:Below w.heap.size w ((((w.alloc (.cells #[.slice A len c] 42)).alloc (.cells #[.bool false] 4)).alloc (.cells #[.int .i64 len] 3)).alloc (.cells #[.func (.func 71) #[] #[.pointer (some ⟨w.heap.size,0,none⟩)]] 43)):=((((Below.refl _ w).alloc (Nat.le_refl _) _).alloc (by simp) _).alloc (by simp;omega) _).alloc (by simp;omega) _
 have hsz:((((w.alloc (.cells #[.slice A len c] 42)).alloc (.cells #[.bool false] 4)).alloc (.cells #[.int .i64 len] 3)).alloc (.cells #[.func (.func 71) #[] #[.pointer (some ⟨w.heap.size,0,none⟩)]] 43)).heap.size=w.heap.size+4:=by simp
 simp only [World.size_alloc] at b1 b2 bR
 obtain⟨W0,hW0⟩:∃ W0,((((w.alloc (.cells #[.slice A len c] 42)).alloc (.cells #[.bool false] 4)).alloc (.cells #[.int .i64 len] 3)).alloc (.cells #[.func (.func 71) #[] #[.pointer (some ⟨w.heap.size,0,none⟩)]] 43))=W0:=⟨_,rfl⟩
 rw [hW0] at b0 b1 b2 bR hB hsz ⊢
 clear hW0
 have hst:SeqStopsK Fence.wide 8 Try.prog 85 #[.pointer (some ⟨w.heap.size+1+1,0,none⟩),.pointer (some ⟨w.heap.size+1+1+1,0,none⟩)] (fun x:Bool=>#[.bool x]) (Below W0.heap.size) (fun ys=>ys=zs) (fun pre=>pre <+: zs) zs.length W0:=by
  intro l J Jx W hW hJ _ hY h0
  exact each1_48 l W0.heap.size _ _ 8 (by omega) _ zs (by omega) b2.lt J Jx W hJ hY (by rw [hz];exact(hW.cell (p:=⟨_,0,none⟩) b1.lt).trans b1.cell) ((hW.cell (p:=⟨_,0,none⟩) b2.lt).trans b2.cell)
   (fun k x hx W' hW'=>hf k x hx _ W' (((hW.trans hW').cell (p:=⟨_,0,none⟩) b0.lt).trans b0.cell) (hB.trans ((hW.trans hW').mono hB.size))) hW.size h0
 refine wpIn_rangeFunc_ownF rfl (by omega) (gf:=85) (lb:=#[.pointer (some ⟨w.heap.size+1+1,0,none⟩),.pointer (some ⟨w.heap.size+1+1+1,0,none⟩)]) rfl trivial (enters_of Try.func85 (by kernel_rfl) rfl)
  hst belowK_t (belowK_b (Nat.le_refl _)) (Below.refl _ _) (fun _=>rfl)
  (fun pre W=>((∀ y ∈ pre,y=false)∧Boxed W (w.heap.size+1) 4 (.bool false))∧Below w.heap.size w W)
  (fun c pre W=>(c=.ret∧true ∈ pre∧Boxed W (w.heap.size+1) 4 (.bool true))∧Below w.heap.size w W)
  (OwnFrom.and (Own.from (fun s X Y row hs hg hr=>⟨hs.1,boxed_own (w.heap.size+1) 4 (fun (_:Unit)=>Value.bool false) () X Y row hs.2 hg hr⟩) _) (ownFrom_below (Nat.le_refl _) (by omega)))
  (fun _=>OwnFrom.and (Own.from (fun s X Y row hs hg hr=>⟨hs.1,hs.2.1,boxed_own (w.heap.size+1) 4 (fun (_:Unit)=>Value.bool true) () X Y row hs.2.2 hg hr⟩) _) (ownFrom_below (Nat.le_refl _) (by omega)))
  ⟨⟨by simp,bR⟩,hB⟩
  (fun x=>{ tmps:=#[.slice A len c,.pointer (some ⟨w.heap.size,0,none⟩),.pointer (some ⟨w.heap.size+1,0,none⟩),.bool x,.slice A len c,.int .i64 len,.func (.func 71) #[] #[.pointer (some ⟨w.heap.size,0,none⟩)],.func (.func 85) #[] #[.pointer (some ⟨w.heap.size+1+1,0,none⟩),.pointer (some ⟨w.heap.size+1+1+1,0,none⟩)],.bool x,undef],defers:=[] }) ?assign ?body ?done ?stop
 case assign =>
  intro l x W K hK
  gi_wp2
  exact hK
 case body =>
  rintro l pre x W ⟨⟨hp,bR1⟩,hB1⟩ _
  have cR:=bR1.cell
  have fR:=bR1.frozen
  cases x
  ·gi_wp2
   exact⟨KeepsOthers.refl _,Below.refl _ _,⟨fun y hy=>(List.mem_append.1 hy).elim (hp y) (fun e=>by simpa using e),bR1⟩,hB1⟩
  ·gi_wp2
   exact⟨KeepsOthers.setCell _ _ _,⟨rfl,List.mem_append.2 (.inr (by simp)),bR1.set _⟩,hB1.setCell (p:=⟨w.heap.size+1,0,none⟩) (by simp) _⟩
 case done =>
  rintro D ys W hD rfl ⟨⟨hp,bR1⟩,hB1⟩ hK
  have cR:=bR1.cell
  have fR:=bR1.frozen
  gi_wp2
  have bE:=bR1.set (.bool false)
  have hK':=(KeepsOthers.setCell W ⟨w.heap.size+1,0,none⟩ (.bool false)).same D _ hK rfl
  refine⟨by simp,.inl ⟨_,_,rfl,run_takeDeferred hK',?_⟩⟩
  have hc5:=(bE.kept (grownBy_putObj' _ D (.deferred none)) (by intro e;cases e;omega)).cell
  refine⟨.bool false,?_,?_,(hB1.setCell (p:=⟨w.heap.size+1,0,none⟩) (by simp) _).trans (belowK_b (w:=w) (Nat.le_refl _) _ D _ _ (by omega) hK' rfl rfl)⟩
  ·simp [results,Try.f59,go_sem,hc5]
  ·have:ys.any id=false:=by rw [List.any_eq_false];intro y hy;rw [hp y hy];simp
   rw [this]
 case stop =>
  rintro D cc pre W hD hpre ⟨⟨rfl,hin,bR1⟩,hB1⟩ hK
  gi_wp2
  refine⟨by simp,.inl ⟨_,_,rfl,run_takeDeferred hK,?_⟩⟩
  have hc5:=(bR1.kept (grownBy_putObj' _ D (.deferred none)) (by intro e;cases e;omega)).cell
  refine⟨.bool true,?_,?_,hB1.trans (belowK_b (w:=w) (Nat.le_refl _) W D _ _ (by omega) hK rfl rfl)⟩
  ·simp [results,Try.f59,go_sem,hc5]
  ·have:zs.any id=true:=by rw [List.any_eq_true];exact⟨true,hpre.subset hin,rfl⟩
   rw [this]
end Go.Proofs.Ytonfobdknnlbjaa.B
end
section
set_option linter.unusedVariables false
set_option linter.unusedSimpArgs false
namespace Go.Proofs.Ytonfobdknnlbjaa.B
open Go.RowKit Go.Proofs.YtonfobdknnlbjaaW.PrintWords Go.Proofs.YtonfobdknnlbjaaW.PrintLast Go.Proofs.YtonfobdknnlbjaaW.PrintMore
attribute [local go_sem] max2_int min2_int max_two min_two max_three min_three max_four min_four
set_option linter.unusedVariables false
set_option linter.unusedSimpArgs false
def sum_changed_1.f (a0:Int) (l1:List Int):Option (Bool):=if 0≤a0 then (if a0<(l1.length:Int) then ((fix_Clamp.f (rd l1 a0)).bind fun bt323=>(some bt323.2)) else (none)) else (none)
set_option maxHeartbeats 8000000 in
set_option maxRecDepth 100000 in
theorem sum_changed_1.calls (a0:Int) (A1:Option Addr) (c1:Nat) (l1:List Int) (r:Bool) (w:World) (hr1:Kd.C (Kd.int .i64) w A1 l1.length l1) (hc1:l1.length≤c1) (g1_:Nat) (HX1:Aside0 (w.cell? ⟨g1_,0,none⟩=some (.slice A1 l1.length c1))) (h:sum_changed_1.f a0 l1=some r) :
  Calls Try.prog 71 #[.int .i64 a0,.pointer (some ⟨g1_,0,none⟩)] w fun e w'=>e=.returned (.bool r)∧Below w.heap.size w w':=by
 have HR1:=Aside0.mk hr1
 have HC1:=Aside0.mk hc1
 clear hr1 hc1
 have HB:=Aside0.mk (Below.refl w.heap.size w)
 have H:(if 0≤a0 then (if a0<(l1.length:Int) then ((fix_Clamp.f (rd l1 a0)).bind fun bt323=>(some bt323.2)) else (none)) else (none))=some r:=h
 clear h
 by_cases c3:0≤a0
 ·rw [if_pos c3] at H
  have c3b0:decide (0≤a0)=true:=decide_eq_true c3
  clear c3
  by_cases c4:a0<(l1.length:Int)
  ·rw [if_pos c4] at H
   have c4b0:decide (a0<(l1.length:Int))=true:=decide_eq_true c4
   clear c4
   replace H:=Option.bind_eq_some_iff.mp H
   obtain⟨⟨t323,t324⟩,A50,H⟩:=H
   replace H:(some t324)=some r:=H
   have A5:=Aside0.mk A50
   clear A50
   obtain rfl:=Option.some.inj H
   have p322:0≤(a0:Int):=of_decide_eq_true (by first|(with_reducible assumption)|assumption)
   have q322:a0<(l1.length:Int):=of_decide_eq_true (by first|(with_reducible assumption)|assumption)
   obtain⟨ad322,e322,hx322_0⟩:=Kd.at_int HR1.out a0 p322 q322
   cases e322
   replace p322:=eq_true p322
   replace q322:=eq_true q322
   have hx1_:=HX1.out
   go_enter Try.func71,Try.ntmps71
   go_wp2_with (first|((with_reducible refine gate_callee (f:=19) rfl ?_);refine goesL_ (some 11) rfl rfl Try.func19 (by kernel_rfl) rfl #[.int .i64 (rd l1 a0)] rfl (by exact mA _ _) ?_;(with_reducible refine(fix_Clamp.calls (rd l1 a0) t323 t324 _ A5.out).mono ?_);rintro e w6 ⟨rfl,hb⟩;refine⟨_,rfl,?_⟩;have n0_:=Aside0.mk (below_step (by first|with_reducible exact HB.out|exact bl HB) hb);clear HB;have HB:=n0_;clear n0_;(try clear hb);(try clear hb2);(try clear hk);(try clear hi)))
   go_ret
   exact⟨by first|rfl|(simp [errW_none,errW_some]<;>rfl)|(simp [*,errW_none,errW_some]<;>rfl),by first|with_reducible exact HB.out|exact bl HB⟩
  ·rw [if_neg c4] at H
   exact absurd H (by simp)
 ·rw [if_neg c3] at H
  exact absurd H (by simp)
def sum_changed.l0:Nat→List Int→Int→Int→Option (Bool)
  | 0,_,_,_=>none
  | k+1,x0,x19,x20=>if x20<x19 then ((sum_changed_1.f x20 x0).bind fun t325=>(if t325=true then (some true) else (sum_changed.l0 k x0 x19 (wrap64 (x20+1))))) else (some false)
def sum_changed.f (k:Nat) (l0:List Int):Option (Bool):=sum_changed.l0 k l0 (l0.length:Int) 0
theorem sum_changed.mono_l:∀ k,(∀ y0 y1 y2,LeO (sum_changed.l0 k y0 y1 y2) (sum_changed.l0 (k+1) y0 y1 y2))
 | 0=>fun _ _ _ r h=>by simp [sum_changed.l0] at h
 | k+1=>by
  have ih0:=sum_changed.mono_l k
  ·intro y0 y1 y2
   unfold sum_changed.l0
   repeat' first
   | (with_reducible exact ih0 _ _ _)
   | (with_reducible exact LeO.refl _)
   | (with_reducible exact LeO.none _)
   | (with_reducible refine LeO.ite ?_ ?_)
   | (with_reducible refine LeO.bind ?_ (fun _=>?_))
   | exact ih0 _ _ _
   | exact LeO.none _
   | refine LeO.ite ?_ ?_
   | refine LeO.bind ?_ (fun _=>?_)
theorem sum_changed.mono:∀ a0 k,LeO (sum_changed.f k a0) (sum_changed.f (k+1) a0):=by
 intro a0 k
 have ih0:=sum_changed.mono_l k
 unfold sum_changed.f
 repeat' first
   | (with_reducible exact ih0 _ _ _)
   | (with_reducible exact LeO.refl _)
   | (with_reducible exact LeO.none _)
   | (with_reducible refine LeO.ite ?_ ?_)
   | (with_reducible refine LeO.bind ?_ (fun _=>?_))
   | exact ih0 _ _ _
   | exact LeO.none _
   | refine LeO.ite ?_ ?_
   | refine LeO.bind ?_ (fun _=>?_)
theorem sum_changed_1.some_ (l:List Int) (i:Nat) (hi:i<l.length):∃ b,sum_changed_1.f (i:Int) l=some b:=by
 unfold sum_changed_1.f fix_Clamp.f fix_within_int.f
 rw [if_pos (by omega),if_pos (by omega)]
 exact⟨_,rfl⟩
theorem sum_changed.zs (l:List Int) (hl:l.length≤64) (zs:List Bool) (hz:zs.length=l.length) (hf:∀ (j:Nat) x,zs[j]? = some x→sum_changed_1.f (j:Int) l=some x):∀ (k i:Nat) (r:Bool),i≤l.length→sum_changed.l0 k l (l.length:Int) (i:Int)=some r→(zs.drop i).any id=r
 | 0,i,r,_,h=>by simp [sum_changed.l0] at h
 | k+1,i,r,hi,h=>by
  simp only [sum_changed.l0] at h
  by_cases c:(i:Int)<(l.length:Int)
  ·rw [if_pos c] at h
   obtain⟨x,hx,h⟩:=Option.bind_eq_some_iff.mp h
   have hw:wrap64 ((i:Int)+1)=((i+1:Nat):Int):=by unfold wrap64;omega
   rw [hw] at h
   have hlt:i<zs.length:=by omega
   have hxi:=hf i zs[i] (List.getElem?_eq_getElem hlt)
   rw [hx] at hxi
   have hxe:=Option.some.inj hxi
   rw [List.drop_eq_getElem_cons hlt,List.any_cons]
   by_cases cx:x=true
   ·rw [if_pos cx] at h
    rw [←hxe,cx]
    simpa using Option.some.inj h
   ·rw [if_neg cx] at h
    rw [←hxe,show x=false by simpa using cx]
    simpa using sum_changed.zs l hl zs hz hf k (i+1) r (by omega) h
  ·rw [if_neg c] at h
   rw [List.drop_of_length_le (by omega)]
   simpa using Option.some.inj h
theorem sum_changed.calls (k:Nat) (A0:Option Addr) (c0:Nat) (l0:List Int) (r:Bool) (w:World) (hr0:Kd.C (Kd.int .i64) w A0 l0.length l0) (hc0:l0.length≤c0) (hlen_:l0.length≤64) (h:sum_changed.f k l0=some r) :
  Calls Try.prog 59 #[.slice A0 l0.length c0] w fun e w'=>e=.returned (.bool r)∧Below w.heap.size w w':=by
 obtain⟨zs,hz,hf⟩:∃ zs:List Bool,zs.length=l0.length∧∀ (j:Nat) x,zs[j]? = some x→sum_changed_1.f (j:Int) l0=some x:=by
  refine⟨(List.range l0.length).map (fun (i:Nat)=>(sum_changed_1.f (i:Int) l0).getD false),by simp,?_⟩
  intro j x hx
  rw [List.getElem?_map] at hx
  by_cases hj:j<l0.length
  ·rw [List.getElem?_range hj] at hx
   obtain⟨b,hb⟩:=sum_changed_1.some_ l0 j hj
   simp [hb] at hx
   rw [hb,hx]
  ·rw [List.getElem?_eq_none (by simpa using hj)] at hx
   simp at hx
 have hr:=sum_changed.zs l0 hlen_ zs hz hf k 0 r (by omega) h
 rw [List.drop_zero] at hr
 rw [←hr]
 exact changed_25 A0 l0.length c0 zs hz hlen_ w (fun j x hx B W' hB hb=>sum_changed_1.calls j A0 c0 l0 x W' (Kd.C_below hr0 hb) hc0 B ⟨hB⟩ (hf j x hx))
def sum_Mean.l0:Nat→List Int→Int→Int→Int→Int→Option (Int × Bool)
  | 0,_,_,_,_,_=>none
  | k+1,x0,x4,x5,x19,x20=>if x20<x19 then (if 0≤x20 then (if x20<(x0.length:Int) then ((fix_Clamp.f (rd x0 x20)).bind fun bt328=>(if (x0.length:Int)=0 then (none) else (sum_Mean.l0 k x0 (wrap64 (x4+(wrap64 (Int.tdiv bt328.1 (x0.length:Int))))) (wrap64 (x5+(wrap64 (bt328.1-(wrap64 ((wrap64 (Int.tdiv bt328.1 (x0.length:Int)))*(x0.length:Int))))))) x19 (wrap64 (x20+1))))) else (none)) else (none)) else (if (wrap64 (2*(x0.length:Int)))=0 then (none) else (if (wrap64 ((wrap64 (Int.tdiv (wrap64 ((wrap64 (2*x5))+(x0.length:Int))) (wrap64 (2*(x0.length:Int)))))*(wrap64 (2*(x0.length:Int))))) > (wrap64 ((wrap64 (2*x5))+(x0.length:Int))) then ((sum_changed.f k x0).bind fun t330=>(some (wrap64 (x4+(wrap64 ((wrap64 (Int.tdiv (wrap64 ((wrap64 (2*x5))+(x0.length:Int))) (wrap64 (2*(x0.length:Int)))))-1))),t330))) else ((sum_changed.f k x0).bind fun t331=>(some (wrap64 (x4+(wrap64 (Int.tdiv (wrap64 ((wrap64 (2*x5))+(x0.length:Int))) (wrap64 (2*(x0.length:Int)))))),t331)))))
def sum_Mean.f (k:Nat) (l0:List Int):Option (Int × Bool):=if 0≤(mn (l0.length:Int) 64) then (if (mn (l0.length:Int) 64)≤(l0.length:Int) then (if ((l0.take ((mn (l0.length:Int) 64):Int).toNat).length:Int)=0 then (some (0,false)) else (sum_Mean.l0 k (l0.take ((mn (l0.length:Int) 64):Int).toNat) 0 0 ((l0.take ((mn (l0.length:Int) 64):Int).toNat).length:Int) 0)) else (none)) else (none)
theorem sum_Mean.mono_l:∀ k,(∀ y0 y1 y2 y3 y4,LeO (sum_Mean.l0 k y0 y1 y2 y3 y4) (sum_Mean.l0 (k+1) y0 y1 y2 y3 y4))
 | 0=>fun _ _ _ _ _ r h=>by simp [sum_Mean.l0] at h
 | k+1=>by
  have ih0:=sum_Mean.mono_l k
  ·intro y0 y1 y2 y3 y4
   unfold sum_Mean.l0
   repeat' first
   | (with_reducible exact ih0 _ _ _ _ _)
   | (with_reducible exact sum_changed.mono _ _)
   | (with_reducible exact LeO.refl _)
   | (with_reducible exact LeO.none _)
   | (with_reducible refine LeO.ite ?_ ?_)
   | (with_reducible refine LeO.bind ?_ (fun _=>?_))
   | exact ih0 _ _ _ _ _
   | exact sum_changed.mono _ _
   | exact LeO.none _
   | refine LeO.ite ?_ ?_
   | refine LeO.bind ?_ (fun _=>?_)
theorem sum_Mean.mono:∀ a0 k,LeO (sum_Mean.f k a0) (sum_Mean.f (k+1) a0):=by
 intro a0 k
 have ih0:=sum_Mean.mono_l k
 unfold sum_Mean.f
 repeat' first
   | (with_reducible exact ih0 _ _ _ _ _)
   | (with_reducible exact sum_changed.mono _ _)
   | (with_reducible exact LeO.refl _)
   | (with_reducible exact LeO.none _)
   | (with_reducible refine LeO.ite ?_ ?_)
   | (with_reducible refine LeO.bind ?_ (fun _=>?_))
   | exact ih0 _ _ _ _ _
   | exact sum_changed.mono _ _
   | exact LeO.none _
   | refine LeO.ite ?_ ?_
   | refine LeO.bind ?_ (fun _=>?_)
set_option maxHeartbeats 8000000 in
set_option maxRecDepth 100000 in
theorem sum_Mean.calls (k:Nat) (A0:Option Addr) (c0:Nat) (l0:List Int) (r1:Int) (r2:Bool) (w:World) (hr0:Kd.C (Kd.int .i64) w A0 l0.length l0) (hc0:l0.length≤c0) (h:sum_Mean.f k l0=some (r1,r2)) :
  Calls Try.prog 36 #[.slice A0 l0.length c0] w fun e w'=>e=.returned (.tuple #[.int .i64 r1,.bool r2])∧Below w.heap.size w w':=by
 have HR0:=Aside0.mk hr0
 have HC0:=Aside0.mk hc0
 clear hr0 hc0
 have HB:=Aside0.mk (Below.refl w.heap.size w)
 have H:(if 0≤(mn (l0.length:Int) 64) then (if (mn (l0.length:Int) 64)≤(l0.length:Int) then (if ((l0.take ((mn (l0.length:Int) 64):Int).toNat).length:Int)=0 then (some (0,false)) else (sum_Mean.l0 k (l0.take ((mn (l0.length:Int) 64):Int).toNat) 0 0 ((l0.take ((mn (l0.length:Int) 64):Int).toNat).length:Int) 0)) else (none)) else (none))=some (r1,r2):=h
 clear h
 obtain⟨ji2,hji2⟩:∃ j_:Int,(mn (l0.length:Int) 64)=j_:=⟨_,rfl⟩
 replace H:(if 0≤(ji2) then (if (ji2)≤(l0.length:Int) then (if ((l0.take ((ji2):Int).toNat).length:Int)=0 then (some (0,false)) else (sum_Mean.l0 k (l0.take ((ji2):Int).toNat) 0 0 ((l0.take ((ji2):Int).toNat).length:Int) 0)) else (none)) else (none))=some (r1,r2):=by first|(rw [hji2] at H;exact H)|(simp only [hji2] at H ⊢;exact H)
 (try (have hji2h:ji2≤64:=by (rw [←hji2];unfold mn;(repeat' split)<;>omega)))
 (try (have hji2g:ji2≤64:=by omega))
 (try (have hji2l:0≤ji2:=by (rw [←hji2];unfold mn;(repeat' split)<;>omega)))
 (try (have hji2m:0≤ji2:=by omega))
 have hji2_:(if 64<(l0.length:Int) then 64 else (l0.length:Int))=ji2:=hji2
 obtain⟨m0,hm0⟩:∃ m_:List Int,(l0.take ((ji2):Int).toNat)=m_:=⟨_,rfl⟩
 rw [hm0] at H
 have hm9:=Aside0.mk (show m0.length≤64 by rw [←hm0,List.length_take];omega)
 by_cases c3:0≤(ji2)
 ·rw [if_pos c3] at H
  have c3b0:=eq_true c3
  have c3b1:decide (0≤(ji2))=true:=decide_eq_true c3
  clear c3
  by_cases c4:(ji2)≤(l0.length:Int)
  ·rw [if_pos c4] at H
   have c4b0:=eq_true c4
   have c4b1:decide ((ji2)≤(l0.length:Int))=true:=decide_eq_true c4
   clear c4
   by_cases c5:(m0.length:Int)=0
   ·rw [if_pos c5] at H
    have c5b0:((m0.length:Int) == 0)=true:=beq_iff_eq.mpr c5
    have c5b1:((m0.length:Int) != 0)=false:=bne_eq_false_iff_eq.mpr c5
    clear c5
    simp only [Option.some.injEq,Prod.mk.injEq] at H
    obtain⟨rfl,rfl⟩:=H
    obtain⟨i06,hi06,_,hsz6,_⟩:=info_parts info3
    obtain⟨hcut6,hA6,hC6⟩:=print_take_of (P:=Try.prog) (Value.int .i64) 0 42 3 .i64 Try.underlying42 hi06 hsz6 A0 c0 l0 (ji2) (of_decide_eq_true (by first|(with_reducible assumption)|assumption)) (of_decide_eq_true (by first|(with_reducible assumption)|assumption)) HC0.out
    rw [hm0] at hA6 hC6
    clear hcut6
    have HR326:=Aside0.mk (Kd.C_of_reads (h1:=fun _=>rfl) (hA6 _ (Kd.reads_of_C HR0.out)))
    have HC326:=Aside0.mk hC6
    clear hA6 hC6 hi06 hsz6
    go_enter Try.func36,Try.ntmps36
    go_wp2_with ((with_reducible refine gate_callee (f:=58) rfl ?_);refine goesL_ (some 14) rfl rfl Try.func58 (by kernel_rfl) rfl #[.slice A0 l0.length c0] rfl (by (try simp only [List.map_toArray,List.map_cons,List.map_nil]);first|done|rfl) ?_;(refine(sum_cut.own A0 c0 l0 m0 _ hm0 hji2_ HC0.out _).mono ?_);rintro e w21_ ⟨rfl,rfl⟩;refine⟨_,rfl,?_⟩)
    go_ret2
    exact⟨by first|rfl|(simp [errW_none,errW_some]<;>rfl)|(simp only [←hji2];first|rfl|(simp [errW_none,errW_some]<;>rfl))|(simp [*,errW_none,errW_some]<;>rfl),by first|with_reducible exact HB.out|exact bl HB⟩
   ·rw [if_neg c5] at H
    have c5b0:((m0.length:Int) == 0)=false:=beq_eq_false_iff_ne.mpr c5
    have c5b1:((m0.length:Int) != 0)=true:=bne_iff_ne.mpr c5
    have c5b2:¬(m0=[]):=fun h_=>c5 (by rw [h_];rfl)
    have H':=Aside0.mk H
    clear H
    obtain⟨i07,hi07,_,hsz7,_⟩:=info_parts info3
    obtain⟨hcut7,hA7,hC7⟩:=print_take_of (P:=Try.prog) (Value.int .i64) 0 42 3 .i64 Try.underlying42 hi07 hsz7 A0 c0 l0 (ji2) (of_decide_eq_true (by first|(with_reducible assumption)|assumption)) (of_decide_eq_true (by first|(with_reducible assumption)|assumption)) HC0.out
    rw [hm0] at hA7 hC7
    clear hcut7
    have HR326:=Aside0.mk (Kd.C_of_reads (h1:=fun _=>rfl) (hA7 _ (Kd.reads_of_C HR0.out)))
    have HC326:=Aside0.mk hC7
    clear hA7 hC7 hi07 hsz7
    go_enter Try.func36,Try.ntmps36
    go_wp2_with ((with_reducible refine gate_callee (f:=58) rfl ?_);refine goesL_ (some 14) rfl rfl Try.func58 (by kernel_rfl) rfl #[.slice A0 l0.length c0] rfl (by (try simp only [List.map_toArray,List.map_cons,List.map_nil]);first|done|rfl) ?_;(refine(sum_cut.own A0 c0 l0 m0 _ hm0 hji2_ HC0.out _).mono ?_);rintro e w21_ ⟨rfl,rfl⟩;refine⟨_,rfl,?_⟩)
    go_loopg [4,5,20] k (fun kq v4 v5 v20 w'=>∃ (x4_1:Int) (x5_1:Int) (x20_1:Int),v4=.int .i64 x4_1∧v5=.int .i64 x5_1∧v20=.int .i64 x20_1∧Aside0 (sum_Mean.l0 kq m0 x4_1 x5_1 (m0.length:Int) x20_1=some (r1,r2))∧Aside0 (kq≤k)∧Aside0 (Below w.heap.size w w'))
    case atStart=>exact⟨(0),(0),(0),(by first|rfl|(simp;done)|(simp [*];done)),(by first|rfl|(simp;done)|(simp [*];done)),(by first|rfl|(simp;done)|(simp [*];done)),H',⟨Nat.le_refl _⟩,⟨by first|with_reducible exact HB.out|exact bl HB⟩⟩
    case round =>
     clear H'
     try clear p2
     try clear c3
     try clear c3b0
     try clear c3b1
     try clear c4
     try clear c4b0
     try clear c4b1
     try clear c5
     try clear c5b0
     try clear c5b1
     try clear c5b2
     obtain⟨x4_1,x5_1,x20_1,rfl,rfl,rfl,HA,HK1,HB⟩:=hrel
     cases gk with
     | zero=>exact absurd HA.out (by simp [sum_Mean.l0])
     | succ k1 =>
      have H:=HA.out
      clear HA
      simp only [sum_Mean.l0] at H
      by_cases c8:x20_1<(m0.length:Int)
      ·rw [if_pos c8] at H
       have c8b0:decide (x20_1<(m0.length:Int))=true:=decide_eq_true c8
       clear c8
       by_cases c9:0≤x20_1
       ·rw [if_pos c9] at H
        have c9b0:decide (0≤x20_1)=true:=decide_eq_true c9
        clear c9
        by_cases c10:x20_1<(m0.length:Int)
        ·rw [if_pos c10] at H
         have c10b0:decide (x20_1<(m0.length:Int))=true:=decide_eq_true c10
         clear c10
         replace H:=Option.bind_eq_some_iff.mp H
         obtain⟨⟨t328,t329⟩,A110,H⟩:=H
         replace H:(if (m0.length:Int)=0 then (none) else (sum_Mean.l0 k1 m0 (wrap64 (x4_1+(wrap64 (Int.tdiv t328 (m0.length:Int))))) (wrap64 (x5_1+(wrap64 (t328-(wrap64 ((wrap64 (Int.tdiv t328 (m0.length:Int)))*(m0.length:Int))))))) (m0.length:Int) (wrap64 (x20_1+1))))=some (r1,r2):=H
         have A11:=Aside0.mk A110
         clear A110
         by_cases c12:(m0.length:Int)=0
         ·rw [if_pos c12] at H
          exact absurd H (by simp)
         ·rw [if_neg c12] at H
          have c12b0:((m0.length:Int) == 0)=false:=beq_eq_false_iff_ne.mpr c12
          have c12b1:((m0.length:Int) != 0)=true:=bne_iff_ne.mpr c12
          have c12b2:¬(m0=[]):=fun h_=>c12 (by rw [h_];rfl)
          have H':=Aside0.mk H
          clear H
          have p327:0≤(x20_1:Int):=of_decide_eq_true (by first|(with_reducible assumption)|assumption)
          have q327:x20_1<(m0.length:Int):=of_decide_eq_true (by first|(with_reducible assumption)|assumption)
          obtain⟨ad327,e327,hx327_0⟩:=Kd.at_int HR326.out x20_1 p327 q327
          cases e327
          replace hx327_0:=(HB.out.cell (World.block_lt_of_cell? w _ hx327_0)).trans hx327_0
          replace p327:=eq_true p327
          replace q327:=eq_true q327
          go_wp2_with (first|((with_reducible refine gate_callee (f:=19) rfl ?_);refine goesL_ (some 28) rfl rfl Try.func19 (by kernel_rfl) rfl #[.int .i64 (rd m0 x20_1)] rfl (by (try simp only [List.map_toArray,List.map_cons,List.map_nil]);first|done|(simp only [hji2];rfl)|rfl|(simp only [List.length_drop,List.length_take];rfl)) ?_;(with_reducible refine(fix_Clamp.calls (rd m0 x20_1) t328 t329 _ A11.out).mono ?_);rintro e w13 ⟨rfl,hb⟩;refine⟨_,rfl,?_⟩;have n0_:=Aside0.mk (below_step (by first|with_reducible exact HB.out|exact bl HB) hb);clear HB;have HB:=n0_;clear n0_;(try clear hb);(try clear hb2);(try clear hk);(try clear hi)))
          go_roundg k1
          case measure=>have:=HK1.out;omega
          case rel=>exact⟨(wrap64 (x4_1+(wrap64 (Int.tdiv t328 (m0.length:Int))))),(wrap64 (x5_1+(wrap64 (t328-(wrap64 ((wrap64 (Int.tdiv t328 (m0.length:Int)))*(m0.length:Int))))))),(wrap64 (x20_1+1)),(by first|rfl|(simp;done)|(simp only [←hji2]<;>(first|rfl|simp))|(simp [*];done)),(by first|rfl|(simp;done)|(simp only [←hji2]<;>(first|rfl|simp))|(simp [*];done)),(by first|rfl|(simp;done)|(simp [*];done)),H',⟨by have:=HK1.out;omega⟩,⟨by first|with_reducible exact HB.out|exact bl HB⟩⟩
        ·rw [if_neg c10] at H
         exact absurd H (by simp)
       ·rw [if_neg c9] at H
        exact absurd H (by simp)
      ·rw [if_neg c8] at H
       have c8b0:decide (x20_1<(m0.length:Int))=false:=decide_eq_false c8
       clear c8
       by_cases c14:(wrap64 (2*(m0.length:Int)))=0
       ·rw [if_pos c14] at H
        exact absurd H (by simp)
       ·rw [if_neg c14] at H
        have c14b0:((wrap64 (2*(m0.length:Int))) == 0)=false:=beq_eq_false_iff_ne.mpr c14
        have c14b1:((wrap64 (2*(m0.length:Int))) != 0)=true:=bne_iff_ne.mpr c14
        by_cases c15:(wrap64 ((wrap64 (Int.tdiv (wrap64 ((wrap64 (2*x5_1))+(m0.length:Int))) (wrap64 (2*(m0.length:Int)))))*(wrap64 (2*(m0.length:Int))))) > (wrap64 ((wrap64 (2*x5_1))+(m0.length:Int)))
        ·rw [if_pos c15] at H
         have c15b0:decide ((wrap64 ((wrap64 (2*x5_1))+(m0.length:Int)))<(wrap64 ((wrap64 (Int.tdiv (wrap64 ((wrap64 (2*x5_1))+(m0.length:Int))) (wrap64 (2*(m0.length:Int)))))*(wrap64 (2*(m0.length:Int))))))=true:=decide_eq_true c15
         clear c15
         replace H:=Option.bind_eq_some_iff.mp H
         obtain⟨t330,A160,H⟩:=H
         replace H:(some (wrap64 (x4_1+(wrap64 ((wrap64 (Int.tdiv (wrap64 ((wrap64 (2*x5_1))+(m0.length:Int))) (wrap64 (2*(m0.length:Int)))))-1))),t330))=some (r1,r2):=H
         have A16:=Aside0.mk A160
         clear A160
         simp only [Option.some.injEq,Prod.mk.injEq] at H
         obtain⟨rfl,rfl⟩:=H
         go_wp2_with (first|((with_reducible refine gate_callee (f:=59) rfl ?_);refine goesL_ (some 69) rfl rfl Try.func59 (by kernel_rfl) rfl #[.slice A0 m0.length c0] rfl (by (try simp only [List.map_toArray,List.map_cons,List.map_nil]);first|done|(rw [show m0.length=(ji2).toNat from (by rw [List.length_take];have h_:((ji2):Int)≤(l0.length:Int):=of_decide_eq_true (by first|(with_reducible assumption)|assumption);omega)]<;>rfl)|(simp only [hji2];rfl)|rfl|(simp only [List.length_drop,List.length_take];rfl)) ?_;(with_reducible refine(sum_changed.calls k1 _ _ m0 t330 _ ?side1 ?side2 ?side9 A16.out).mono ?_);(case side1=>first|exact(Kd.C_below HR326.out HB.out)|exact kC (Kd.C_below HR326.out HB.out));(case side2=>exact HC326.out);(case side9=>first|exact hm9.out|exact hm8.out|(rw [List.length_take];omega));rintro e w17 ⟨rfl,hb⟩;refine⟨_,rfl,?_⟩;have n0_:=Aside0.mk (below_step (by first|with_reducible exact HB.out|exact bl HB) hb);clear HB;have HB:=n0_;clear n0_;(try clear hb);(try clear hb2);(try clear hk);(try clear hi)))
         go_ret2
         exact⟨by first|rfl|(simp [errW_none,errW_some]<;>rfl)|(simp only [←hji2];first|rfl|(simp [errW_none,errW_some]<;>rfl))|(simp [*,errW_none,errW_some]<;>rfl),by first|with_reducible exact HB.out|exact bl HB⟩
        ·rw [if_neg c15] at H
         have c15b0:decide ((wrap64 ((wrap64 (2*x5_1))+(m0.length:Int)))<(wrap64 ((wrap64 (Int.tdiv (wrap64 ((wrap64 (2*x5_1))+(m0.length:Int))) (wrap64 (2*(m0.length:Int)))))*(wrap64 (2*(m0.length:Int))))))=false:=decide_eq_false c15
         clear c15
         replace H:=Option.bind_eq_some_iff.mp H
         obtain⟨t331,A180,H⟩:=H
         replace H:(some (wrap64 (x4_1+(wrap64 (Int.tdiv (wrap64 ((wrap64 (2*x5_1))+(m0.length:Int))) (wrap64 (2*(m0.length:Int)))))),t331))=some (r1,r2):=H
         have A18:=Aside0.mk A180
         clear A180
         simp only [Option.some.injEq,Prod.mk.injEq] at H
         obtain⟨rfl,rfl⟩:=H
         go_wp2_with (first|((with_reducible refine gate_callee (f:=59) rfl ?_);refine goesL_ (some 69) rfl rfl Try.func59 (by kernel_rfl) rfl #[.slice A0 m0.length c0] rfl (by (try simp only [List.map_toArray,List.map_cons,List.map_nil]);first|done|(rw [show m0.length=(ji2).toNat from (by rw [List.length_take];have h_:((ji2):Int)≤(l0.length:Int):=of_decide_eq_true (by first|(with_reducible assumption)|assumption);omega)]<;>rfl)|(simp only [hji2];rfl)|rfl|(simp only [List.length_drop,List.length_take];rfl)) ?_;(with_reducible refine(sum_changed.calls k1 _ _ m0 t331 _ ?side1 ?side2 ?side9 A18.out).mono ?_);(case side1=>first|exact(Kd.C_below HR326.out HB.out)|exact kC (Kd.C_below HR326.out HB.out));(case side2=>exact HC326.out);(case side9=>first|exact hm9.out|exact hm8.out|(rw [List.length_take];omega));rintro e w19 ⟨rfl,hb⟩;refine⟨_,rfl,?_⟩;have n0_:=Aside0.mk (below_step (by first|with_reducible exact HB.out|exact bl HB) hb);clear HB;have HB:=n0_;clear n0_;(try clear hb);(try clear hb2);(try clear hk);(try clear hi)))
         go_ret2
         exact⟨by first|rfl|(simp [errW_none,errW_some]<;>rfl)|(simp only [←hji2];first|rfl|(simp [errW_none,errW_some]<;>rfl))|(simp [*,errW_none,errW_some]<;>rfl),by first|with_reducible exact HB.out|exact bl HB⟩
  ·rw [if_neg c4] at H
   exact absurd H (by simp)
 ·rw [if_neg c3] at H
  exact absurd H (by simp)
end Go.Proofs.Ytonfobdknnlbjaa.B
end
