/- Lemmas of the row, laid by a program. -/
import Derived.Test.YtembdogffbcjiaaYB0
import Derived.Test.YtembdogffbcjiaaYB1
import Derived.Test.YtembdogffbcjiaaYB2
import Derived.Test.YtembdogffbcjiaaYSSeq
namespace Go.Proofs.Ytembdogffbcjiaa.B
open Go.RowKit Go.Proofs.YtembdogffbcjiaaW.PrintWords Go.Proofs.YtembdogffbcjiaaW.PrintLast Go.Proofs.YtembdogffbcjiaaW.PrintMore
attribute [local go_sem] max2_int min2_int max_two min_two max_three min_three max_four min_four
set_option linter.unusedVariables false
set_option linter.unusedSimpArgs false
attribute [local go_sem high] eqA50
def sum_changed_1.f (a0:Int) (l1:List Int):Option (Bool):=if 0≤a0 then (if a0<(l1.length:Int) then ((fix_Clamp.f (rd l1 a0)).bind fun bt146=>(some bt146.2)) else (none)) else (none)
set_option maxHeartbeats 8000000 in
set_option maxRecDepth 100000 in
theorem sum_changed_1.calls (a0:Int) (A1:Option Addr) (c1:Nat) (l1:List Int) (r:Bool) (w:World) (hr1:Kd.C (Kd.int .i64) w A1 l1.length l1) (hc1:l1.length≤c1) (g1_:Nat) (HX1:Aside0 (w.cell? ⟨g1_,0,none⟩=some (.slice A1 l1.length c1))) (h:sum_changed_1.f a0 l1=some r) :
  Calls Try.prog 68 #[.int .i64 a0,.pointer (some ⟨g1_,0,none⟩)] w fun e w'=>e=.returned (.bool r)∧Below w.heap.size w w':=by
 have HR1:=Aside0.mk hr1
 have HC1:=Aside0.mk hc1
 clear hr1 hc1
 have HB:=Aside0.mk (Below.refl w.heap.size w)
 have H:(if 0≤a0 then (if a0<(l1.length:Int) then ((fix_Clamp.f (rd l1 a0)).bind fun bt146=>(some bt146.2)) else (none)) else (none))=some r:=h
 clear h
 by_cases c3:0≤a0
 ·rw [if_pos c3] at H
  have c3b0:decide (0≤a0)=true:=decide_eq_true c3
  clear c3
  by_cases c4:a0<(l1.length:Int)
  ·rw [if_pos c4] at H
   have c4b0:decide (a0<(l1.length:Int))=true:=decide_eq_true c4
   clear c4
   replace H:=Option.bind_eq_some_iff.mp H
   obtain⟨⟨t146,t147⟩,A50,H⟩:=H
   replace H:(some t147)=some r:=H
   have A5:=Aside0.mk A50
   clear A50
   obtain rfl:=Option.some.inj H
   have p145:0≤(a0:Int):=of_decide_eq_true (by first|(with_reducible assumption)|assumption)
   have q145:a0<(l1.length:Int):=of_decide_eq_true (by first|(with_reducible assumption)|assumption)
   obtain⟨ad145,e145,hx145_0⟩:=Kd.at_int HR1.out a0 p145 q145
   cases e145
   replace p145:=eq_true p145
   replace q145:=eq_true q145
   have hx1_:=HX1.out
   go_enter Try.func68,Try.ntmps68
   go_wp2_with (first|((with_reducible refine gate_callee (f:=49) rfl ?_);refine goesL_ (some 11) rfl rfl Try.func49 (by kernel_rfl) rfl #[.int .i64 (rd l1 a0)] rfl (by exact mA _ _) ?_;(with_reducible refine(fix_Clamp.calls (rd l1 a0) t146 t147 _ A5.out).mono ?_);rintro e w6 ⟨rfl,hb⟩;refine⟨_,rfl,?_⟩;have n0_:=Aside0.mk (below_step (by first|with_reducible exact HB.out|exact bl HB) hb);clear HB;have HB:=n0_;clear n0_;(try clear hb);(try clear hb2);(try clear hk);(try clear hi)))
   go_ret
   exact⟨by first|rfl|(simp [errW_none,errW_some]<;>rfl)|(simp [*,errW_none,errW_some]<;>rfl),by first|with_reducible exact HB.out|exact bl HB⟩
  ·rw [if_neg c4] at H
   exact absurd H (by simp)
 ·rw [if_neg c3] at H
  exact absurd H (by simp)
def sum_changed.l0:Nat→List Int→Int→Int→Option (Bool)
  | 0,_,_,_=>none
  | k+1,x0,x19,x20=>if x20<x19 then ((sum_changed_1.f x20 x0).bind fun t148=>(if t148=true then (some true) else (sum_changed.l0 k x0 x19 (wrap64 (x20+1))))) else (some false)
def sum_changed.f (k:Nat) (l0:List Int):Option (Bool):=sum_changed.l0 k l0 (l0.length:Int) 0
theorem sum_changed.mono_l:∀ k,(∀ y0 y1 y2,LeO (sum_changed.l0 k y0 y1 y2) (sum_changed.l0 (k+1) y0 y1 y2))
 | 0=>fun _ _ _ r h=>by simp [sum_changed.l0] at h
 | k+1=>by
  have ih0:=sum_changed.mono_l k
  ·intro y0 y1 y2
   unfold sum_changed.l0
   repeat' first
   | (with_reducible exact ih0 _ _ _)
   | (with_reducible exact LeO.refl _)
   | (with_reducible exact LeO.none _)
   | (with_reducible refine LeO.ite ?_ ?_)
   | (with_reducible refine LeO.bind ?_ (fun _=>?_))
   | exact ih0 _ _ _
   | exact LeO.none _
   | refine LeO.ite ?_ ?_
   | refine LeO.bind ?_ (fun _=>?_)
theorem sum_changed.mono:∀ a0 k,LeO (sum_changed.f k a0) (sum_changed.f (k+1) a0):=by
 intro a0 k
 have ih0:=sum_changed.mono_l k
 unfold sum_changed.f
 repeat' first
   | (with_reducible exact ih0 _ _ _)
   | (with_reducible exact LeO.refl _)
   | (with_reducible exact LeO.none _)
   | (with_reducible refine LeO.ite ?_ ?_)
   | (with_reducible refine LeO.bind ?_ (fun _=>?_))
   | exact ih0 _ _ _
   | exact LeO.none _
   | refine LeO.ite ?_ ?_
   | refine LeO.bind ?_ (fun _=>?_)
theorem sum_changed_1.some_ (l:List Int) (i:Nat) (hi:i<l.length):∃ b,sum_changed_1.f (i:Int) l=some b:=by
 unfold sum_changed_1.f fix_Clamp.f fix_within_int.f
 rw [if_pos (by omega),if_pos (by omega)]
 exact⟨_,rfl⟩
theorem sum_changed.zs (l:List Int) (hl:l.length≤64) (zs:List Bool) (hz:zs.length=l.length) (hf:∀ (j:Nat) x,zs[j]? = some x→sum_changed_1.f (j:Int) l=some x):∀ (k i:Nat) (r:Bool),i≤l.length→sum_changed.l0 k l (l.length:Int) (i:Int)=some r→(zs.drop i).any id=r
 | 0,i,r,_,h=>by simp [sum_changed.l0] at h
 | k+1,i,r,hi,h=>by
  simp only [sum_changed.l0] at h
  by_cases c:(i:Int)<(l.length:Int)
  ·rw [if_pos c] at h
   obtain⟨x,hx,h⟩:=Option.bind_eq_some_iff.mp h
   have hw:wrap64 ((i:Int)+1)=((i+1:Nat):Int):=by unfold wrap64;omega
   rw [hw] at h
   have hlt:i<zs.length:=by omega
   have hxi:=hf i zs[i] (List.getElem?_eq_getElem hlt)
   rw [hx] at hxi
   have hxe:=Option.some.inj hxi
   rw [List.drop_eq_getElem_cons hlt,List.any_cons]
   by_cases cx:x=true
   ·rw [if_pos cx] at h
    rw [←hxe,cx]
    simpa using Option.some.inj h
   ·rw [if_neg cx] at h
    rw [←hxe,show x=false by simpa using cx]
    simpa using sum_changed.zs l hl zs hz hf k (i+1) r (by omega) h
  ·rw [if_neg c] at h
   rw [List.drop_of_length_le (by omega)]
   simpa using Option.some.inj h
theorem sum_changed.calls (k:Nat) (A0:Option Addr) (c0:Nat) (l0:List Int) (r:Bool) (w:World) (hr0:Kd.C (Kd.int .i64) w A0 l0.length l0) (hc0:l0.length≤c0) (hlen_:l0.length≤64) (h:sum_changed.f k l0=some r) :
  Calls Try.prog 48 #[.slice A0 l0.length c0] w fun e w'=>e=.returned (.bool r)∧Below w.heap.size w w':=by
 obtain⟨zs,hz,hf⟩:∃ zs:List Bool,zs.length=l0.length∧∀ (j:Nat) x,zs[j]? = some x→sum_changed_1.f (j:Int) l0=some x:=by
  refine⟨(List.range l0.length).map (fun (i:Nat)=>(sum_changed_1.f (i:Int) l0).getD false),by simp,?_⟩
  intro j x hx
  rw [List.getElem?_map] at hx
  by_cases hj:j<l0.length
  ·rw [List.getElem?_range hj] at hx
   obtain⟨b,hb⟩:=sum_changed_1.some_ l0 j hj
   simp [hb] at hx
   rw [hb,hx]
  ·rw [List.getElem?_eq_none (by simpa using hj)] at hx
   simp at hx
 have hr:=sum_changed.zs l0 hlen_ zs hz hf k 0 r (by omega) h
 rw [List.drop_zero] at hr
 rw [←hr]
 exact changed_25 A0 l0.length c0 zs hz hlen_ w (fun j x hx B W' hB hb=>sum_changed_1.calls j A0 c0 l0 x W' (Kd.C_below hr0 hb) hc0 B ⟨hB⟩ (hf j x hx))
def wide_Int.j0:Nat→Bool→Int→Int→Option (Int × Bool)
  | 0,_,_,_=>none
  | k+1,x15,x150000,x150001=>if x15=true then ((fix_Clamp.f (wrap64 ((wrap64 (x150000*4611686018427387904))+x150001))).bind fun bt152=>(some (bt152.1,!bt152.2))) else (if x150000<0 then (some ((-288230376151711744),false)) else (some (288230376151711744,false)))
def wide_Int.f (k:Nat) (a0_0:Int) (a0_1:Int):Option (Int × Bool):=(wide_known.f a0_0 a0_1).bind fun bt150=>(if bt150.1=0 then (wide_Int.j0 k true bt150.1 bt150.2) else (wide_Int.j0 k (bt150.1 == (-1)) bt150.1 bt150.2))
theorem wide_Int.mono_l:∀ k,(∀ y0 y1 y2,LeO (wide_Int.j0 k y0 y1 y2) (wide_Int.j0 (k+1) y0 y1 y2))
 | 0=>fun _ _ _ r h=>by simp [wide_Int.j0] at h
 | k+1=>by
  have ih0:=wide_Int.mono_l k
  ·intro y0 y1 y2
   unfold wide_Int.j0
   repeat' first
   | (with_reducible exact ih0 _ _ _)
   | (with_reducible exact LeO.refl _)
   | (with_reducible exact LeO.none _)
   | (with_reducible refine LeO.ite ?_ ?_)
   | (with_reducible refine LeO.bind ?_ (fun _=>?_))
   | exact ih0 _ _ _
   | exact LeO.none _
   | refine LeO.ite ?_ ?_
   | refine LeO.bind ?_ (fun _=>?_)
theorem wide_Int.mono:∀ a0 a1 k,LeO (wide_Int.f k a0 a1) (wide_Int.f (k+1) a0 a1):=by
 intro a0 a1 k
 have ih0:=wide_Int.mono_l k
 unfold wide_Int.f
 repeat' first
   | (with_reducible exact ih0 _ _ _)
   | (with_reducible exact LeO.refl _)
   | (with_reducible exact LeO.none _)
   | (with_reducible refine LeO.ite ?_ ?_)
   | (with_reducible refine LeO.bind ?_ (fun _=>?_))
   | exact ih0 _ _ _
   | exact LeO.none _
   | refine LeO.ite ?_ ?_
   | refine LeO.bind ?_ (fun _=>?_)
set_option maxHeartbeats 8000000 in
set_option maxRecDepth 100000 in
theorem wide_Int.calls (k:Nat) (a0_0:Int) (a0_1:Int) (r1:Int) (r2:Bool) (w:World) (h:wide_Int.f k a0_0 a0_1=some (r1,r2)) :
  Calls Try.prog 45 #[.agg #[.int .i64 a0_0,.int .i64 a0_1]] w fun e w'=>e=.returned (.tuple #[.int .i64 r1,.bool r2])∧Below w.heap.size w w':=by
 have hu50:=Try.underlying50
 have HB:=Aside0.mk (Below.refl w.heap.size w)
 have H:((wide_known.f a0_0 a0_1).bind fun bt150=>(if bt150.1=0 then (wide_Int.j0 k true bt150.1 bt150.2) else (wide_Int.j0 k (bt150.1 == (-1)) bt150.1 bt150.2)))=some (r1,r2):=h
 clear h
 replace H:=Option.bind_eq_some_iff.mp H
 obtain⟨⟨t150,t151⟩,A20,H⟩:=H
 replace H:(if t150=0 then (wide_Int.j0 k true t150 t151) else (wide_Int.j0 k (t150 == (-1)) t150 t151))=some (r1,r2):=H
 have A2:=Aside0.mk A20
 clear A20
 have HC3:=Aside0.mk H
 clear H
 go_enter Try.func45,Try.ntmps45
 go_upto_region 2 with (first|((with_reducible refine gate_dst (N:=1) rfl ?_);refine box_event ?hg (N:=1) ?hd (cs:=#[.int .i64 a0_0,.int .i64 a0_1]) (t:=50) ?hr ?_;(case hd=>rfl);(case hg=>rfl);(case hr=>first|(go_simp;done)|(go_simp;rfl));intro gb149 hg w4 hbox hb;have n0_:=Aside0.mk (below_step (by first|with_reducible exact HB.out|exact bl HB) hb);have n1_:=Aside0.mk (hbox);have n2_:=Aside0.mk ((by rw [hg];exact(below_size (by first|with_reducible exact HB.out|exact bl HB)):w.heap.size≤gb149));have n3_:=Aside0.mk ((by rw [hg];exact(below_size (by first|with_reducible exact HB.out|exact bl HB)):w.heap.size≤gb149));clear HB;have HB:=n0_;have BK149:=n1_;have GW149:=n2_;have GE149:=n3_;clear n0_ n1_ n2_ n3_;clear hb hbox hg;have hcz5_0:w4.cell? ⟨gb149,0,none⟩=some (.int .i64 a0_0):=(blk_cell BK149.out 0).trans rfl;have hcz5_1:w4.cell? ⟨gb149,1,none⟩=some (.int .i64 a0_1):=(blk_cell BK149.out 1).trans rfl;have hfz5_0:=blk_frozen BK149.out 0;have hfz5_1:=blk_frozen BK149.out 1)|((with_reducible refine gate_callee (f:=62) rfl ?_);refine goesL_ (some 7) rfl rfl Try.func62 (by kernel_rfl) rfl #[.agg #[.int .i64 a0_0,.int .i64 a0_1]] rfl (by exact mA _ _) ?_;(with_reducible refine(wide_known.calls a0_0 a0_1 t150 t151 _ A2.out).mono ?_);rintro e w6 ⟨rfl,hb⟩;refine⟨_,rfl,?_⟩;have n0_:=Aside0.mk (blk_below (bk BK149.out) hb);have n1_:=Aside0.mk (below_step (by repeat (first|with_reducible exact HB.out|exact bl HB|refine bs ?_ GE149)) hb);clear BK149;clear HB;have BK149:=n0_;have HB:=n1_;clear n0_ n1_;(try clear hb);(try clear hb2);(try clear hk);(try clear hi);have hcz7_0:w6.cell? ⟨gb149,0,none⟩=some (.int .i64 a0_0):=(blk_cell BK149.out 0).trans rfl;have hcz7_1:w6.cell? ⟨gb149,1,none⟩=some (.int .i64 a0_1):=(blk_cell BK149.out 1).trans rfl;have hfz7_0:=blk_frozen BK149.out 0;have hfz7_1:=blk_frozen BK149.out 1))
 (try simp only [Act.put,List.setIfInBounds_toArray,List.set_cons_zero,List.set_cons_succ])
 go_cut [15] (fun v15 wc=>∃ (kq:Nat) (x15_2:Bool),v15=.bool x15_2∧Aside0 (wide_Int.j0 kq x15_2 t150 t151=some (r1,r2))∧Aside0 (kq≤k)∧Aside0 (wc.heap[gb149]? = some (.cells #[.int .i64 t150,.int .i64 t151] 50 (0,0)))∧Aside0 (Below w.heap.size w wc))
 case first =>
  have H:=HC3.out
  clear HC3
  by_cases c8:t150=0
  ·rw [if_pos c8] at H
   have c8b0:(t150 == 0)=true:=beq_iff_eq.mpr c8
   have c8b1:(t150 != 0)=false:=bne_eq_false_iff_eq.mpr c8
   clear c8
   (first|rw [c8b0]|(simp only [i64_w,i32_w];rw [c8b0])|skip)
   have H':=Aside0.mk H
   clear H
   have hcz9_0:w6.cell? ⟨gb149,0,none⟩=some (.int .i64 a0_0):=(blk_cell BK149.out 0).trans rfl
   have hcz9_1:w6.cell? ⟨gb149,1,none⟩=some (.int .i64 a0_1):=(blk_cell BK149.out 1).trans rfl
   have hfz9_0:=blk_frozen BK149.out 0
   have hfz9_1:=blk_frozen BK149.out 1
   go_wp2
   go_meet
   case rel=>exact⟨_,(true),(by first|rfl|(simp;done)|(simp [*];done)),H',⟨by first|omega|exact Nat.le_refl _⟩,⟨by try refine bk ?_;refine blk_put (cs:=#[.int .i64 t150,.int .i64 a0_1]) ?_ 1 _ rfl;try refine bk ?_;refine blk_put (cs:=#[.int .i64 a0_0,.int .i64 a0_1]) ?_ 0 _ rfl;try refine bk ?_;exact BK149.out⟩,⟨by repeat (first|with_reducible exact HB.out|exact bl HB|refine bs ?_ GE149)⟩⟩
  ·rw [if_neg c8] at H
   have c8b0:(t150 == 0)=false:=beq_eq_false_iff_ne.mpr c8
   have c8b1:(t150 != 0)=true:=bne_iff_ne.mpr c8
   (first|rw [c8b0]|(simp only [i64_w,i32_w];rw [c8b0])|skip)
   have H':=Aside0.mk H
   clear H
   have hcz10_0:w6.cell? ⟨gb149,0,none⟩=some (.int .i64 a0_0):=(blk_cell BK149.out 0).trans rfl
   have hcz10_1:w6.cell? ⟨gb149,1,none⟩=some (.int .i64 a0_1):=(blk_cell BK149.out 1).trans rfl
   have hfz10_0:=blk_frozen BK149.out 0
   have hfz10_1:=blk_frozen BK149.out 1
   go_wp2
   go_meet
   case rel=>exact⟨_,((t150 == (-1))),(by first|rfl|(simp;done)|(simp [*];done)),H',⟨by first|omega|exact Nat.le_refl _⟩,⟨by try refine bk ?_;refine blk_put (cs:=#[.int .i64 t150,.int .i64 a0_1]) ?_ 1 _ rfl;try refine bk ?_;refine blk_put (cs:=#[.int .i64 a0_0,.int .i64 a0_1]) ?_ 0 _ rfl;try refine bk ?_;exact BK149.out⟩,⟨by repeat (first|with_reducible exact HB.out|exact bl HB|refine bs ?_ GE149)⟩⟩
 case rest =>
  clear HC3
  try clear p2
  try clear c4
  try clear c6
  try clear c8
  try clear c8b0
  try clear c8b1
  try clear hcz10_0
  try clear hcz10_1
  try clear hcz5_0
  try clear hcz5_1
  try clear hcz7_0
  try clear hcz7_1
  try clear hcz9_0
  try clear hcz9_1
  try clear hfz10_0
  try clear hfz10_1
  try clear hfz5_0
  try clear hfz5_1
  try clear hfz7_0
  try clear hfz7_1
  try clear hfz9_0
  try clear hfz9_1
  obtain⟨kq,x15_2,rfl,HA,HJ2,BK149,HB⟩:=hcut
  cases kq with
  | zero=>exact absurd HA.out (by simp [wide_Int.j0])
  | succ kj2 =>
   have H:=HA.out
   clear HA
   simp only [wide_Int.j0] at H
   by_cases c11:x15_2=true
   ·subst c11
    have H1:((fix_Clamp.f (wrap64 ((wrap64 (t150*4611686018427387904))+t151))).bind fun bt152=>(some (bt152.1,!bt152.2)))=some (r1,r2):=by rw [if_pos rfl] at H;exact H
    clear H
    have H:=H1
    clear H1
    replace H:=Option.bind_eq_some_iff.mp H
    obtain⟨⟨t152,t153⟩,A120,H⟩:=H
    replace H:(some (t152,!t153))=some (r1,r2):=H
    have A12:=Aside0.mk A120
    clear A120
    simp only [Option.some.injEq,Prod.mk.injEq] at H
    obtain⟨rfl,rfl⟩:=H
    have hcz13_0:wc.cell? ⟨gb149,0,none⟩=some (.int .i64 t150):=(blk_cell BK149.out 0).trans rfl
    have hcz13_1:wc.cell? ⟨gb149,1,none⟩=some (.int .i64 t151):=(blk_cell BK149.out 1).trans rfl
    have hfz13_0:=blk_frozen BK149.out 0
    have hfz13_1:=blk_frozen BK149.out 1
    go_wp2_with (first|((with_reducible refine gate_callee (f:=49) rfl ?_);refine goesL_ (some 23) rfl rfl Try.func49 (by kernel_rfl) rfl #[.int .i64 (wrap64 ((wrap64 (t150*4611686018427387904))+t151))] rfl (by exact mA _ _) ?_;(with_reducible refine(fix_Clamp.calls (wrap64 ((wrap64 (t150*4611686018427387904))+t151)) t152 t153 _ A12.out).mono ?_);rintro e w14 ⟨rfl,hb⟩;refine⟨_,rfl,?_⟩;have n0_:=Aside0.mk (blk_below (bk BK149.out) hb);have n1_:=Aside0.mk (below_step (by repeat (first|with_reducible exact HB.out|exact bl HB|refine bs ?_ GE149)) hb);clear BK149;clear HB;have BK149:=n0_;have HB:=n1_;clear n0_ n1_;(try clear hb);(try clear hb2);(try clear hk);(try clear hi)))
    go_ret2
    exact⟨by first|rfl|(simp [errW_none,errW_some]<;>rfl)|(simp [*,errW_none,errW_some]<;>rfl),by repeat (first|with_reducible exact HB.out|exact bl HB|refine bs ?_ GE149)⟩
   ·replace c11:=Bool.eq_false_iff.mpr c11
    subst c11
    have H1:(if t150<0 then (some ((-288230376151711744),false)) else (some (288230376151711744,false)))=some (r1,r2):=by rw [if_neg (show ¬(false=true) by decide)] at H;exact H
    clear H
    have H:=H1
    clear H1
    by_cases c15:t150<0
    ·rw [if_pos c15] at H
     have c15b0:decide (t150<0)=true:=decide_eq_true c15
     clear c15
     simp only [Option.some.injEq,Prod.mk.injEq] at H
     obtain⟨rfl,rfl⟩:=H
     have hcz16_0:wc.cell? ⟨gb149,0,none⟩=some (.int .i64 t150):=(blk_cell BK149.out 0).trans rfl
     have hcz16_1:wc.cell? ⟨gb149,1,none⟩=some (.int .i64 t151):=(blk_cell BK149.out 1).trans rfl
     have hfz16_0:=blk_frozen BK149.out 0
     have hfz16_1:=blk_frozen BK149.out 1
     go_wp2
     go_ret2
     exact⟨by first|rfl|(simp [errW_none,errW_some]<;>rfl)|(simp [*,errW_none,errW_some]<;>rfl),by repeat (first|with_reducible exact HB.out|exact bl HB|refine bs ?_ GE149)⟩
    ·rw [if_neg c15] at H
     have c15b0:decide (t150<0)=false:=decide_eq_false c15
     clear c15
     simp only [Option.some.injEq,Prod.mk.injEq] at H
     obtain⟨rfl,rfl⟩:=H
     have hcz17_0:wc.cell? ⟨gb149,0,none⟩=some (.int .i64 t150):=(blk_cell BK149.out 0).trans rfl
     have hcz17_1:wc.cell? ⟨gb149,1,none⟩=some (.int .i64 t151):=(blk_cell BK149.out 1).trans rfl
     have hfz17_0:=blk_frozen BK149.out 0
     have hfz17_1:=blk_frozen BK149.out 1
     go_wp2
     go_ret2
     exact⟨by first|rfl|(simp [errW_none,errW_some]<;>rfl)|(simp [*,errW_none,errW_some]<;>rfl),by repeat (first|with_reducible exact HB.out|exact bl HB|refine bs ?_ GE149)⟩
def wide_Of.f (a0:Int):Option (Int × Int):=some (a0/4611686018427387904,Go.bits .and .i64 a0 4611686018427387903)
set_option maxHeartbeats 8000000 in
set_option maxRecDepth 100000 in
theorem wide_Of.calls (a0:Int) (r1:Int) (r2:Int) (w:World) (h:wide_Of.f a0=some (r1,r2)) :
  Calls Try.prog 66 #[.int .i64 a0] w fun e w'=>e=.returned (.agg #[.int .i64 r1,.int .i64 r2])∧Below w.heap.size w w':=by
 have hu50:=Try.underlying50
 have HB:=Aside0.mk (Below.refl w.heap.size w)
 have H:(some (a0/4611686018427387904,Go.bits .and .i64 a0 4611686018427387903))=some (r1,r2):=h
 clear h
 simp only [Option.some.injEq,Prod.mk.injEq] at H
 obtain⟨rfl,rfl⟩:=H
 go_enter Try.func66,Try.ntmps66
 go_wp2_with (first|((with_reducible refine gate_dst (N:=2) rfl ?_);refine box_event ?hg (N:=2) ?hd (cs:=#[.int .i64 0,.int .i64 0]) (t:=50) ?hr ?_;(case hd=>rfl);(case hg=>rfl);(case hr=>first|(go_simp;done)|(go_simp;rfl));intro gb154 hg w2 hbox hb;have n0_:=Aside0.mk (below_step (by first|with_reducible exact HB.out|exact bl HB) hb);have n1_:=Aside0.mk (hbox);have n2_:=Aside0.mk ((by rw [hg];exact(below_size (by first|with_reducible exact HB.out|exact bl HB)):w.heap.size≤gb154));have n3_:=Aside0.mk ((by rw [hg];exact(below_size (by first|with_reducible exact HB.out|exact bl HB)):w.heap.size≤gb154));clear HB;have HB:=n0_;have BK154:=n1_;have GW154:=n2_;have GE154:=n3_;clear n0_ n1_ n2_ n3_;clear hb hbox hg;have hcz3_0:w2.cell? ⟨gb154,0,none⟩=some (.int .i64 0):=(blk_cell BK154.out 0).trans rfl;have hcz3_1:w2.cell? ⟨gb154,1,none⟩=some (.int .i64 0):=(blk_cell BK154.out 1).trans rfl;have hfz3_0:=blk_frozen BK154.out 0;have hfz3_1:=blk_frozen BK154.out 1))
 refine bodyPost_ret (results_cell_row rfl _ _ gb154 50 #[.int .i64 (a0/4611686018427387904),.int .i64 (Go.bits .and .i64 a0 4611686018427387903)] (0,0) _ rfl (by try refine bk ?_;refine blk_put (cs:=#[.int .i64 (a0/4611686018427387904),.int .i64 0]) ?_ 1 _ rfl;try refine bk ?_;refine blk_put (cs:=#[.int .i64 0,.int .i64 0]) ?_ 0 _ rfl;try refine bk ?_;exact BK154.out) Try.underlying50 rfl (by kernel_rfl)) rfl ?_
 exact⟨by first|rfl|(simp [errW_none,errW_some]<;>rfl)|(simp [*,errW_none,errW_some]<;>rfl),by repeat (first|with_reducible exact HB.out|exact bl HB|refine bs ?_ GE154)⟩
end Go.Proofs.Ytembdogffbcjiaa.B
