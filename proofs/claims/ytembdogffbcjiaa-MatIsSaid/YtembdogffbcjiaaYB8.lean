/- Lemmas of the row, laid by a program. -/
import Derived.Test.YtembdogffbcjiaaYB0
import Derived.Test.YtembdogffbcjiaaYB2
import Derived.Test.YtembdogffbcjiaaYB4
import Derived.Test.YtembdogffbcjiaaYB7
import Derived.Test.YtembdogffbcjiaaYB11
import Derived.Shelf.Abstract
namespace Go.Proofs.Ytembdogffbcjiaa.B
open Go.RowKit Go.Proofs.YtembdogffbcjiaaW.PrintWords Go.Proofs.YtembdogffbcjiaaW.PrintLast Go.Proofs.YtembdogffbcjiaaW.PrintMore
attribute [local go_sem] max2_int min2_int max_two min_two max_three min_three max_four min_four
set_option linter.unusedVariables false
set_option linter.unusedSimpArgs false
def mat_known.f (k:Nat) (l0:List (List Int)):Option ((List (List Int))):=(mat_Sane.f k l0).bind fun t240=>(if t240=true then (some l0) else (some ([]:List (List Int))))
theorem mat_known.mono:∀ a0 k,LeO (mat_known.f k a0) (mat_known.f (k+1) a0):=by
 intro a0 k
 unfold mat_known.f
 repeat' first
   | (with_reducible exact mat_Sane.mono _ _)
   | (with_reducible exact LeO.refl _)
   | (with_reducible exact LeO.none _)
   | (with_reducible refine LeO.ite ?_ ?_)
   | (with_reducible refine LeO.bind ?_ (fun _=>?_))
   | exact mat_Sane.mono _ _
   | exact LeO.none _
   | refine LeO.ite ?_ ?_
   | refine LeO.bind ?_ (fun _=>?_)
set_option maxHeartbeats 8000000 in
set_option maxRecDepth 100000 in
theorem mat_known.calls (k:Nat) (P0_:Nat→Prop) (A0:Option Addr) (c0:Nat) (l0:List (List Int)) (r:List (List Int)) (w:World) (hs0:Kd.V (Kd.slice 3 (Kd.int .i64)) 23 w w.heap.size (fun k_=>P0_ k_) (.slice A0 l0.length c0) l0) (h:mat_known.f k l0=some r) :
  Calls Try.prog 38 #[.slice A0 l0.length c0] w fun e w'=>∃ v0_:Value,e=.returned (v0_)∧Kd.V (Kd.slice 3 (Kd.int .i64)) 23 w' w.heap.size (fun k_=>(P0_ k_∨w.heap.size≤k_)) v0_ r∧Below w.heap.size w w':=by
 have HO0:=Aside0.mk (show Kd.V (Kd.slice 3 (Kd.int .i64)) 23 w w.heap.size (fun k_=>(P0_ k_∨w.heap.size≤k_)) (.slice A0 l0.length c0) l0 from Kd.V_mono hs0 (fun k_ hk=>.inl hk))
 have HB:=Aside0.mk (Below.refl w.heap.size w)
 have H:((mat_Sane.f k l0).bind fun t240=>(if t240=true then (some l0) else (some ([]:List (List Int)))))=some r:=h
 clear h
 replace H:=Option.bind_eq_some_iff.mp H
 obtain⟨t240,A20,H⟩:=H
 replace H:(if t240=true then (some l0) else (some ([]:List (List Int))))=some r:=H
 have A2:=Aside0.mk A20
 clear A20
 by_cases c3:t240=true
 ·subst c3
  have H1:(some l0)=some r:=by rw [if_pos rfl] at H;exact H
  clear H
  have H:=H1
  clear H1
  obtain rfl:=Option.some.inj H
  go_enter Try.func38,Try.ntmps38
  go_wp2_with (first|((with_reducible refine gate_callee (f:=18) rfl ?_);refine goesL_ (some 4) rfl rfl Try.func18 (by kernel_rfl) rfl #[.slice A0 l0.length c0] rfl (by exact mA _ _) ?_;(with_reducible refine(mat_Sane.calls k _ _ l0 true _ ?side1 ?side2 A2.out).mono ?_);(case side1=>first|exact(Kd.V_reads' HO0.out).2.2|exact kC (Kd.V_reads' HO0.out).2.2);(case side2=>exact(Kd.V_reads' HO0.out).2.1);rintro e w' ⟨rfl,⟨nd,rfl⟩⟩;refine⟨_,rfl,?_⟩))
  go_ret
  exact⟨_,by first|rfl|(simp [errW_none,errW_some]<;>rfl)|(simp [*,errW_none,errW_some]<;>rfl),by first|exact HO0.out|exact kV HO0.out,by first|with_reducible exact HB.out|exact bl HB⟩
 ·replace c3:=Bool.eq_false_iff.mpr c3
  subst c3
  have H1:(some ([]:List (List Int)))=some r:=by rw [if_neg (show ¬(false=true) by decide)] at H;exact H
  clear H
  have H:=H1
  clear H1
  obtain rfl:=Option.some.inj H
  go_enter Try.func38,Try.ntmps38
  go_wp2_with (first|((with_reducible refine gate_callee (f:=18) rfl ?_);refine goesL_ (some 4) rfl rfl Try.func18 (by kernel_rfl) rfl #[.slice A0 l0.length c0] rfl (by exact mA _ _) ?_;(with_reducible refine(mat_Sane.calls k _ _ l0 false _ ?side1 ?side2 A2.out).mono ?_);(case side1=>first|exact(Kd.V_reads' HO0.out).2.2|exact kC (Kd.V_reads' HO0.out).2.2);(case side2=>exact(Kd.V_reads' HO0.out).2.1);rintro e w' ⟨rfl,⟨nd,rfl⟩⟩;refine⟨_,rfl,?_⟩))
  go_ret
  exact⟨_,by first|rfl|(simp [errW_none,errW_some]<;>rfl)|(simp [*,errW_none,errW_some]<;>rfl),Kd.V_nil _ _ _ _ _,by first|with_reducible exact HB.out|exact bl HB⟩
def mat_matrix_turned.f (l0:List (List Int)) (a1:Int) (a2:Int):Option (Int × Bool):=if 0≤a2 then (if a2<(l0.length:Int) then (if 0≤a1 then (if a1<((rd_L1 l0 a2).length:Int) then ((fix_Clamp.f (rd (rd_L1 l0 a2) a1)).bind fun bt243=>(some (bt243.1,bt243.2))) else (none)) else (none)) else (none)) else (none)
set_option maxHeartbeats 8000000 in
set_option maxRecDepth 100000 in
theorem mat_matrix_turned.calls (A0:Option Addr) (c0:Nat) (l0:List (List Int)) (a1:Int) (a2:Int) (r1:Int) (r2:Bool) (w:World) (hr0:Kd.C (Kd.slice 3 (Kd.int .i64)) w A0 l0.length l0) (hc0:l0.length≤c0) (h:mat_matrix_turned.f l0 a1 a2=some (r1,r2)) :
  Calls Try.prog 39 #[.slice A0 l0.length c0,.int .i64 a1,.int .i64 a2] w fun e w'=>e=.returned (.tuple #[.int .i64 r1,.bool r2])∧Below w.heap.size w w':=by
 have HR0:=Aside0.mk hr0
 have HC0:=Aside0.mk hc0
 clear hr0 hc0
 have HB:=Aside0.mk (Below.refl w.heap.size w)
 have H:(if 0≤a2 then (if a2<(l0.length:Int) then (if 0≤a1 then (if a1<((rd_L1 l0 a2).length:Int) then ((fix_Clamp.f (rd (rd_L1 l0 a2) a1)).bind fun bt243=>(some (bt243.1,bt243.2))) else (none)) else (none)) else (none)) else (none))=some (r1,r2):=h
 clear h
 by_cases c4:0≤a2
 ·rw [if_pos c4] at H
  have c4b0:decide (0≤a2)=true:=decide_eq_true c4
  clear c4
  by_cases c5:a2<(l0.length:Int)
  ·rw [if_pos c5] at H
   have c5b0:decide (a2<(l0.length:Int))=true:=decide_eq_true c5
   clear c5
   by_cases c6:0≤a1
   ·rw [if_pos c6] at H
    have c6b0:decide (0≤a1)=true:=decide_eq_true c6
    clear c6
    by_cases c7:a1<((rd_L1 l0 a2).length:Int)
    ·rw [if_pos c7] at H
     have c7b0:decide (a1<((rd_L1 l0 a2).length:Int))=true:=decide_eq_true c7
     clear c7
     replace H:=Option.bind_eq_some_iff.mp H
     obtain⟨⟨t243,t244⟩,A80,H⟩:=H
     replace H:(some (t243,t244))=some (r1,r2):=H
     have A8:=Aside0.mk A80
     clear A80
     simp only [Option.some.injEq,Prod.mk.injEq] at H
     obtain⟨rfl,rfl⟩:=H
     have p241:0≤(a2:Int):=of_decide_eq_true (by first|(with_reducible assumption)|assumption)
     have q241:a2<(l0.length:Int):=of_decide_eq_true (by first|(with_reducible assumption)|assumption)
     obtain⟨ad241,A241_0,c241_0,e241,hx241_0,hl241_0,hi241_0⟩:=at_L1 HR0.out a2 p241 q241
     cases e241
     have HR241_0:=Aside0.mk hi241_0
     have HC241_0:=Aside0.mk hl241_0
     clear hi241_0 hl241_0
     replace p241:=eq_true p241
     replace q241:=eq_true q241
     have p242:0≤(a1:Int):=of_decide_eq_true (by first|(with_reducible assumption)|assumption)
     have q242:a1<((rd_L1 l0 a2).length:Int):=of_decide_eq_true (by first|(with_reducible assumption)|assumption)
     obtain⟨ad242,e242,hx242_0⟩:=Kd.at_int HR241_0.out a1 p242 q242
     cases e242
     replace p242:=eq_true p242
     replace q242:=eq_true q242
     go_enter Try.func39,Try.ntmps39
     go_wp2_with (first|((with_reducible refine gate_callee (f:=49) rfl ?_);refine goesL_ (some 15) rfl rfl Try.func49 (by kernel_rfl) rfl #[.int .i64 (rd (rd_L1 l0 a2) a1)] rfl (by exact mA _ _) ?_;(with_reducible refine(fix_Clamp.calls (rd (rd_L1 l0 a2) a1) t243 t244 _ A8.out).mono ?_);rintro e w9 ⟨rfl,hb⟩;refine⟨_,rfl,?_⟩;have n0_:=Aside0.mk (below_step (by first|with_reducible exact HB.out|exact bl HB) hb);clear HB;have HB:=n0_;clear n0_;(try clear hb);(try clear hb2);(try clear hk);(try clear hi)))
     go_ret2
     exact⟨by first|rfl|(simp [errW_none,errW_some]<;>rfl)|(simp [*,errW_none,errW_some]<;>rfl),by first|with_reducible exact HB.out|exact bl HB⟩
    ·rw [if_neg c7] at H
     exact absurd H (by simp)
   ·rw [if_neg c6] at H
    exact absurd H (by simp)
  ·rw [if_neg c5] at H
   exact absurd H (by simp)
 ·rw [if_neg c4] at H
  exact absurd H (by simp)
def mat_Turned.f (k:Nat) (l0:List (List Int)):Option ((List (List Int))):=(mat_known.f k l0).bind fun t245=>((mat_made.f (fun i_ j_=>mat_matrix_turned.f t245 i_ j_) k (t245.length:Int)).bind fun bt248=>(some bt248.1))
theorem mat_Turned.mono:∀ a0 k,LeO (mat_Turned.f k a0) (mat_Turned.f (k+1) a0):=by
 intro a0 k
 unfold mat_Turned.f
 repeat' first
   | (with_reducible exact mat_known.mono _ _)
   | exact mat_made.mono (fun _ _=>LeO.refl _) _ _
   | (with_reducible exact LeO.refl _)
   | (with_reducible exact LeO.none _)
   | (with_reducible refine LeO.ite ?_ ?_)
   | (with_reducible refine LeO.bind ?_ (fun _=>?_))
   | exact mat_known.mono _ _
   | exact mat_made.mono (fun _ _=>LeO.refl _) _ _
   | exact LeO.none _
   | refine LeO.ite ?_ ?_
   | refine LeO.bind ?_ (fun _=>?_)
set_option maxHeartbeats 8000000 in
set_option maxRecDepth 100000 in
theorem mat_Turned.calls (k:Nat) (A0:Option Addr) (c0:Nat) (l0:List (List Int)) (r:List (List Int)) (w:World) (hr0:Kd.C (Kd.slice 3 (Kd.int .i64)) w A0 l0.length l0) (hc0:l0.length≤c0) (h:mat_Turned.f k l0=some r) :
  Calls Try.prog 22 #[.slice A0 l0.length c0] w fun e w'=>∃ v0_:Value,e=.returned (v0_)∧Kd.S (Kd.slice 3 (Kd.int .i64)) 23 w' w.heap.size (fun _=>True) v0_ r∧Below w.heap.size w w':=by
 have HR0:=Aside0.mk hr0
 have HC0:=Aside0.mk hc0
 clear hr0 hc0
 have HB:=Aside0.mk (Below.refl w.heap.size w)
 have H:((mat_known.f k l0).bind fun t245=>((mat_made.f (fun i_ j_=>mat_matrix_turned.f t245 i_ j_) k (t245.length:Int)).bind fun bt248=>(some bt248.1)))=some r:=h
 clear h
 replace H:=Option.bind_eq_some_iff.mp H
 obtain⟨t245,A20,H⟩:=H
 replace H:((mat_made.f (fun i_ j_=>mat_matrix_turned.f t245 i_ j_) k (t245.length:Int)).bind fun bt248=>(some bt248.1))=some r:=H
 have A2:=Aside0.mk A20
 clear A20
 replace H:=Option.bind_eq_some_iff.mp H
 obtain⟨⟨t248,t249⟩,A30,H⟩:=H
 replace H:(some t248)=some r:=H
 have A3:=Aside0.mk A30
 clear A30
 obtain rfl:=Option.some.inj H
 go_enter Try.func22,Try.ntmps22
 go_wp2_with (first|((with_reducible refine gate_callee (f:=38) rfl ?_);refine goesL_ (some 7) rfl rfl Try.func38 (by kernel_rfl) rfl #[.slice A0 l0.length c0] rfl (by exact mA _ _) ?_;(with_reducible refine(mat_known.calls k (fun k_=>k_<w.heap.size) _ _ l0 t245 _ ?side1 A2.out).mono ?_);(case side1=>exact Kd.V_mk HC0.out (Kd.F_below (Kd.C_F (Kd.heap_slice 3 (Kd.heap_int .i64)) HR0.out) (by first|with_reducible exact HB.out|exact bl HB)));rintro e w4 ⟨v246,rfl,ho0,hb⟩;refine⟨_,rfl,?_⟩;have n0_:=Aside0.mk (Kd.V_lower (Kd.V_mono (ok':=fun k_=>True) ho0 (fun k_ hk_=>trivial)) (below_size (by first|with_reducible exact HB.out|exact bl HB)));have n1_:=Aside0.mk (below_step (by first|with_reducible exact HB.out|exact bl HB) hb);clear HB;have HO247:=n0_;have HB:=n1_;clear n0_ n1_;(try clear hb);(try clear hb2);(try clear hk);(try clear hi);(try clear ho0);obtain⟨Ao5,co5,eo5⟩:=Kd.V_slice HO247.out;subst eo5)|((with_reducible refine gate_callee (f:=27) rfl ?_);refine goesL_ (some 13) rfl rfl Try.func27 (by kernel_rfl) rfl #[.int .i64 (t245.length:Int),.func (.func 39) #[.slice Ao5 t245.length co5] #[]] rfl (by exact mA _ _) ?_;refine(mat_made.calls (fun i_ j_=>mat_matrix_turned.f t245 i_ j_) 39 #[.slice Ao5 t245.length co5] #[] k (t245.length:Int) t248 t249 _ (enters_of Try.func39 (by kernel_rfl) rfl) ⟨fun i_ j_ r1_ r2_ W_ hb_ hf_=>calls_of_args (by simp) (mat_matrix_turned.calls _ _ t245 i_ j_ r1_ r2_ W_ (Kd.C_below (Kd.V_reads' HO247.out).2.2 hb_) (Kd.V_reads' HO247.out).2.1 hf_)⟩ A3.out).mono ?_;rintro e w6 ⟨v250,rfl,ho0,hb⟩;refine⟨_,rfl,?_⟩;have n0_:=Aside0.mk (Kd.V_elder' (by first|exact HO247.out|exact kV HO247.out) (Kd.S_base ho0) hb);have n1_:=Aside0.mk (Kd.S_lower ho0 (below_size (by first|with_reducible exact HB.out|exact bl HB)));have n2_:=Aside0.mk (below_step (by first|with_reducible exact HB.out|exact bl HB) hb);clear HO247;clear HB;have HO247:=n0_;have HO251:=n1_;have HB:=n2_;clear n0_ n1_ n2_;(try clear hb);(try clear hb2);(try clear hk);(try clear hi);(try clear ho0)))
 go_ret
 exact⟨_,by first|rfl|(simp [errW_none,errW_some]<;>rfl)|(simp [*,errW_none,errW_some]<;>rfl),by first|exact HO251.out|exact kS HO251.out,by first|with_reducible exact HB.out|exact bl HB⟩
theorem sum_cut.own (A:Option Addr) (c:Nat) (l m:List Int) (j:Int) (hm:l.take (j:Int).toNat=m) (hj:(if 64<(l.length:Int) then 64 else (l.length:Int))=j) (hc:l.length≤c) (w:World) :
  Calls Try.prog 44 #[.slice A l.length c] w fun e w'=>e=.returned (.slice A m.length c)∧w=w':=by
 have h0:0≤j:=by rw [←hj];split<;>omega
 have h1:j≤(l.length:Int):=by rw [←hj];split<;>omega
 rw [show m.length=j.toNat from (by rw [←hm,List.length_take];omega)]
 obtain⟨i06,hi06,_,hsz6,_⟩:=info_parts info3
 have hcut6:=cut_to (P:=Try.prog) 23 3 .i64 Try.underlying23 hi06 A l.length c j h0 h1 hc
 go_enter Try.func44,Try.ntmps44
 go_wp2
 go_ret
 exact⟨rfl,rfl⟩
def sum_Mean.l0:Nat→List Int→Int→Int→Int→Int→Option (Int × Bool)
  | 0,_,_,_,_,_=>none
  | k+1,x0,x4,x5,x19,x20=>if x20<x19 then (if 0≤x20 then (if x20<(x0.length:Int) then ((fix_Clamp.f (rd x0 x20)).bind fun bt257=>(if (x0.length:Int)=0 then (none) else (sum_Mean.l0 k x0 (wrap64 (x4+(wrap64 (Int.tdiv bt257.1 (x0.length:Int))))) (wrap64 (x5+(wrap64 (bt257.1-(wrap64 ((wrap64 (Int.tdiv bt257.1 (x0.length:Int)))*(x0.length:Int))))))) x19 (wrap64 (x20+1))))) else (none)) else (none)) else (if (wrap64 (2*(x0.length:Int)))=0 then (none) else (if (wrap64 ((wrap64 (Int.tdiv (wrap64 ((wrap64 (2*x5))+(x0.length:Int))) (wrap64 (2*(x0.length:Int)))))*(wrap64 (2*(x0.length:Int))))) > (wrap64 ((wrap64 (2*x5))+(x0.length:Int))) then ((sum_changed.f k x0).bind fun t259=>(some (wrap64 (x4+(wrap64 ((wrap64 (Int.tdiv (wrap64 ((wrap64 (2*x5))+(x0.length:Int))) (wrap64 (2*(x0.length:Int)))))-1))),t259))) else ((sum_changed.f k x0).bind fun t260=>(some (wrap64 (x4+(wrap64 (Int.tdiv (wrap64 ((wrap64 (2*x5))+(x0.length:Int))) (wrap64 (2*(x0.length:Int)))))),t260)))))
def sum_Mean.f (k:Nat) (l0:List Int):Option (Int × Bool):=if 0≤(mn (l0.length:Int) 64) then (if (mn (l0.length:Int) 64)≤(l0.length:Int) then (if ((l0.take ((mn (l0.length:Int) 64):Int).toNat).length:Int)=0 then (some (0,false)) else (sum_Mean.l0 k (l0.take ((mn (l0.length:Int) 64):Int).toNat) 0 0 ((l0.take ((mn (l0.length:Int) 64):Int).toNat).length:Int) 0)) else (none)) else (none)
theorem sum_Mean.mono_l:∀ k,(∀ y0 y1 y2 y3 y4,LeO (sum_Mean.l0 k y0 y1 y2 y3 y4) (sum_Mean.l0 (k+1) y0 y1 y2 y3 y4))
 | 0=>fun _ _ _ _ _ r h=>by simp [sum_Mean.l0] at h
 | k+1=>by
  have ih0:=sum_Mean.mono_l k
  ·intro y0 y1 y2 y3 y4
   unfold sum_Mean.l0
   repeat' first
   | (with_reducible exact ih0 _ _ _ _ _)
   | (with_reducible exact sum_changed.mono _ _)
   | (with_reducible exact LeO.refl _)
   | (with_reducible exact LeO.none _)
   | (with_reducible refine LeO.ite ?_ ?_)
   | (with_reducible refine LeO.bind ?_ (fun _=>?_))
   | exact ih0 _ _ _ _ _
   | exact sum_changed.mono _ _
   | exact LeO.none _
   | refine LeO.ite ?_ ?_
   | refine LeO.bind ?_ (fun _=>?_)
theorem sum_Mean.mono:∀ a0 k,LeO (sum_Mean.f k a0) (sum_Mean.f (k+1) a0):=by
 intro a0 k
 have ih0:=sum_Mean.mono_l k
 unfold sum_Mean.f
 repeat' first
   | (with_reducible exact ih0 _ _ _ _ _)
   | (with_reducible exact sum_changed.mono _ _)
   | (with_reducible exact LeO.refl _)
   | (with_reducible exact LeO.none _)
   | (with_reducible refine LeO.ite ?_ ?_)
   | (with_reducible refine LeO.bind ?_ (fun _=>?_))
   | exact ih0 _ _ _ _ _
   | exact sum_changed.mono _ _
   | exact LeO.none _
   | refine LeO.ite ?_ ?_
   | refine LeO.bind ?_ (fun _=>?_)
set_option maxHeartbeats 8000000 in
set_option maxRecDepth 100000 in
theorem sum_Mean.calls (k:Nat) (A0:Option Addr) (c0:Nat) (l0:List Int) (r1:Int) (r2:Bool) (w:World) (hr0:Kd.C (Kd.int .i64) w A0 l0.length l0) (hc0:l0.length≤c0) (h:sum_Mean.f k l0=some (r1,r2)) :
  Calls Try.prog 57 #[.slice A0 l0.length c0] w fun e w'=>e=.returned (.tuple #[.int .i64 r1,.bool r2])∧Below w.heap.size w w':=by
 have HR0:=Aside0.mk hr0
 have HC0:=Aside0.mk hc0
 clear hr0 hc0
 have HB:=Aside0.mk (Below.refl w.heap.size w)
 have H:(if 0≤(mn (l0.length:Int) 64) then (if (mn (l0.length:Int) 64)≤(l0.length:Int) then (if ((l0.take ((mn (l0.length:Int) 64):Int).toNat).length:Int)=0 then (some (0,false)) else (sum_Mean.l0 k (l0.take ((mn (l0.length:Int) 64):Int).toNat) 0 0 ((l0.take ((mn (l0.length:Int) 64):Int).toNat).length:Int) 0)) else (none)) else (none))=some (r1,r2):=h
 clear h
 obtain⟨ji2,hji2⟩:∃ j_:Int,(mn (l0.length:Int) 64)=j_:=⟨_,rfl⟩
 replace H:(if 0≤(ji2) then (if (ji2)≤(l0.length:Int) then (if ((l0.take ((ji2):Int).toNat).length:Int)=0 then (some (0,false)) else (sum_Mean.l0 k (l0.take ((ji2):Int).toNat) 0 0 ((l0.take ((ji2):Int).toNat).length:Int) 0)) else (none)) else (none))=some (r1,r2):=by first|(rw [hji2] at H;exact H)|(simp only [hji2] at H ⊢;exact H)
 (try (have hji2h:ji2≤64:=by (rw [←hji2];unfold mn;(repeat' split)<;>omega)))
 (try (have hji2g:ji2≤64:=by omega))
 (try (have hji2l:0≤ji2:=by (rw [←hji2];unfold mn;(repeat' split)<;>omega)))
 (try (have hji2m:0≤ji2:=by omega))
 have hji2_:(if 64<(l0.length:Int) then 64 else (l0.length:Int))=ji2:=hji2
 obtain⟨m0,hm0⟩:∃ m_:List Int,(l0.take ((ji2):Int).toNat)=m_:=⟨_,rfl⟩
 rw [hm0] at H
 have hm9:=Aside0.mk (show m0.length≤64 by rw [←hm0,List.length_take];omega)
 by_cases c3:0≤(ji2)
 ·rw [if_pos c3] at H
  have c3b0:=eq_true c3
  have c3b1:decide (0≤(ji2))=true:=decide_eq_true c3
  clear c3
  by_cases c4:(ji2)≤(l0.length:Int)
  ·rw [if_pos c4] at H
   have c4b0:=eq_true c4
   have c4b1:decide ((ji2)≤(l0.length:Int))=true:=decide_eq_true c4
   clear c4
   by_cases c5:(m0.length:Int)=0
   ·rw [if_pos c5] at H
    have c5b0:((m0.length:Int) == 0)=true:=beq_iff_eq.mpr c5
    have c5b1:((m0.length:Int) != 0)=false:=bne_eq_false_iff_eq.mpr c5
    clear c5
    simp only [Option.some.injEq,Prod.mk.injEq] at H
    obtain⟨rfl,rfl⟩:=H
    obtain⟨i06,hi06,_,hsz6,_⟩:=info_parts info3
    obtain⟨hcut6,hA6,hC6⟩:=print_take_of (P:=Try.prog) (Value.int .i64) 0 23 3 .i64 Try.underlying23 hi06 hsz6 A0 c0 l0 (ji2) (of_decide_eq_true (by first|(with_reducible assumption)|assumption)) (of_decide_eq_true (by first|(with_reducible assumption)|assumption)) HC0.out
    rw [hm0] at hA6 hC6
    clear hcut6
    have HR255:=Aside0.mk (Kd.C_of_reads (h1:=fun _=>rfl) (hA6 _ (Kd.reads_of_C HR0.out)))
    have HC255:=Aside0.mk hC6
    clear hA6 hC6 hi06 hsz6
    go_enter Try.func57,Try.ntmps57
    go_wp2_with ((with_reducible refine gate_callee (f:=44) rfl ?_);refine goesL_ (some 14) rfl rfl Try.func44 (by kernel_rfl) rfl #[.slice A0 l0.length c0] rfl (by (try simp only [List.map_toArray,List.map_cons,List.map_nil]);first|done|rfl) ?_;(refine(sum_cut.own A0 c0 l0 m0 _ hm0 hji2_ HC0.out _).mono ?_);rintro e w21_ ⟨rfl,rfl⟩;refine⟨_,rfl,?_⟩)
    go_ret2
    exact⟨by first|rfl|(simp [errW_none,errW_some]<;>rfl)|(simp only [←hji2];first|rfl|(simp [errW_none,errW_some]<;>rfl))|(simp [*,errW_none,errW_some]<;>rfl),by first|with_reducible exact HB.out|exact bl HB⟩
   ·rw [if_neg c5] at H
    have c5b0:((m0.length:Int) == 0)=false:=beq_eq_false_iff_ne.mpr c5
    have c5b1:((m0.length:Int) != 0)=true:=bne_iff_ne.mpr c5
    have c5b2:¬(m0=[]):=fun h_=>c5 (by rw [h_];rfl)
    have H':=Aside0.mk H
    clear H
    obtain⟨i07,hi07,_,hsz7,_⟩:=info_parts info3
    obtain⟨hcut7,hA7,hC7⟩:=print_take_of (P:=Try.prog) (Value.int .i64) 0 23 3 .i64 Try.underlying23 hi07 hsz7 A0 c0 l0 (ji2) (of_decide_eq_true (by first|(with_reducible assumption)|assumption)) (of_decide_eq_true (by first|(with_reducible assumption)|assumption)) HC0.out
    rw [hm0] at hA7 hC7
    clear hcut7
    have HR255:=Aside0.mk (Kd.C_of_reads (h1:=fun _=>rfl) (hA7 _ (Kd.reads_of_C HR0.out)))
    have HC255:=Aside0.mk hC7
    clear hA7 hC7 hi07 hsz7
    go_enter Try.func57,Try.ntmps57
    go_wp2_with ((with_reducible refine gate_callee (f:=44) rfl ?_);refine goesL_ (some 14) rfl rfl Try.func44 (by kernel_rfl) rfl #[.slice A0 l0.length c0] rfl (by (try simp only [List.map_toArray,List.map_cons,List.map_nil]);first|done|rfl) ?_;(refine(sum_cut.own A0 c0 l0 m0 _ hm0 hji2_ HC0.out _).mono ?_);rintro e w21_ ⟨rfl,rfl⟩;refine⟨_,rfl,?_⟩)
    go_loopg [4,5,20] k (fun kq v4 v5 v20 w'=>∃ (x4_1:Int) (x5_1:Int) (x20_1:Int),v4=.int .i64 x4_1∧v5=.int .i64 x5_1∧v20=.int .i64 x20_1∧Aside0 (sum_Mean.l0 kq m0 x4_1 x5_1 (m0.length:Int) x20_1=some (r1,r2))∧Aside0 (kq≤k)∧Aside0 (Below w.heap.size w w'))
    case atStart=>exact⟨(0),(0),(0),(by first|rfl|(simp;done)|(simp [*];done)),(by first|rfl|(simp;done)|(simp [*];done)),(by first|rfl|(simp;done)|(simp [*];done)),H',⟨Nat.le_refl _⟩,⟨by first|with_reducible exact HB.out|exact bl HB⟩⟩
    case round =>
     clear H'
     try clear p2
     try clear c3
     try clear c3b0
     try clear c3b1
     try clear c4
     try clear c4b0
     try clear c4b1
     try clear c5
     try clear c5b0
     try clear c5b1
     try clear c5b2
     obtain⟨x4_1,x5_1,x20_1,rfl,rfl,rfl,HA,HK1,HB⟩:=hrel
     cases gk with
     | zero=>exact absurd HA.out (by simp [sum_Mean.l0])
     | succ k1 =>
      have H:=HA.out
      clear HA
      simp only [sum_Mean.l0] at H
      by_cases c8:x20_1<(m0.length:Int)
      ·rw [if_pos c8] at H
       have c8b0:decide (x20_1<(m0.length:Int))=true:=decide_eq_true c8
       clear c8
       by_cases c9:0≤x20_1
       ·rw [if_pos c9] at H
        have c9b0:decide (0≤x20_1)=true:=decide_eq_true c9
        clear c9
        by_cases c10:x20_1<(m0.length:Int)
        ·rw [if_pos c10] at H
         have c10b0:decide (x20_1<(m0.length:Int))=true:=decide_eq_true c10
         clear c10
         replace H:=Option.bind_eq_some_iff.mp H
         obtain⟨⟨t257,t258⟩,A110,H⟩:=H
         replace H:(if (m0.length:Int)=0 then (none) else (sum_Mean.l0 k1 m0 (wrap64 (x4_1+(wrap64 (Int.tdiv t257 (m0.length:Int))))) (wrap64 (x5_1+(wrap64 (t257-(wrap64 ((wrap64 (Int.tdiv t257 (m0.length:Int)))*(m0.length:Int))))))) (m0.length:Int) (wrap64 (x20_1+1))))=some (r1,r2):=H
         have A11:=Aside0.mk A110
         clear A110
         by_cases c12:(m0.length:Int)=0
         ·rw [if_pos c12] at H
          exact absurd H (by simp)
         ·rw [if_neg c12] at H
          have c12b0:((m0.length:Int) == 0)=false:=beq_eq_false_iff_ne.mpr c12
          have c12b1:((m0.length:Int) != 0)=true:=bne_iff_ne.mpr c12
          have c12b2:¬(m0=[]):=fun h_=>c12 (by rw [h_];rfl)
          have H':=Aside0.mk H
          clear H
          have p256:0≤(x20_1:Int):=of_decide_eq_true (by first|(with_reducible assumption)|assumption)
          have q256:x20_1<(m0.length:Int):=of_decide_eq_true (by first|(with_reducible assumption)|assumption)
          obtain⟨ad256,e256,hx256_0⟩:=Kd.at_int HR255.out x20_1 p256 q256
          cases e256
          replace hx256_0:=(HB.out.cell (World.block_lt_of_cell? w _ hx256_0)).trans hx256_0
          replace p256:=eq_true p256
          replace q256:=eq_true q256
          go_wp2_with (first|((with_reducible refine gate_callee (f:=49) rfl ?_);refine goesL_ (some 28) rfl rfl Try.func49 (by kernel_rfl) rfl #[.int .i64 (rd m0 x20_1)] rfl (by (try simp only [List.map_toArray,List.map_cons,List.map_nil]);first|done|(simp only [hji2];rfl)|rfl|(simp only [List.length_drop,List.length_take];rfl)) ?_;(with_reducible refine(fix_Clamp.calls (rd m0 x20_1) t257 t258 _ A11.out).mono ?_);rintro e w13 ⟨rfl,hb⟩;refine⟨_,rfl,?_⟩;have n0_:=Aside0.mk (below_step (by first|with_reducible exact HB.out|exact bl HB) hb);clear HB;have HB:=n0_;clear n0_;(try clear hb);(try clear hb2);(try clear hk);(try clear hi)))
          go_roundg k1
          case measure=>have:=HK1.out;omega
          case rel=>exact⟨(wrap64 (x4_1+(wrap64 (Int.tdiv t257 (m0.length:Int))))),(wrap64 (x5_1+(wrap64 (t257-(wrap64 ((wrap64 (Int.tdiv t257 (m0.length:Int)))*(m0.length:Int))))))),(wrap64 (x20_1+1)),(by first|rfl|(simp;done)|(simp only [←hji2]<;>(first|rfl|simp))|(simp [*];done)),(by first|rfl|(simp;done)|(simp only [←hji2]<;>(first|rfl|simp))|(simp [*];done)),(by first|rfl|(simp;done)|(simp [*];done)),H',⟨by have:=HK1.out;omega⟩,⟨by first|with_reducible exact HB.out|exact bl HB⟩⟩
        ·rw [if_neg c10] at H
         exact absurd H (by simp)
       ·rw [if_neg c9] at H
        exact absurd H (by simp)
      ·rw [if_neg c8] at H
       have c8b0:decide (x20_1<(m0.length:Int))=false:=decide_eq_false c8
       clear c8
       by_cases c14:(wrap64 (2*(m0.length:Int)))=0
       ·rw [if_pos c14] at H
        exact absurd H (by simp)
       ·rw [if_neg c14] at H
        have c14b0:((wrap64 (2*(m0.length:Int))) == 0)=false:=beq_eq_false_iff_ne.mpr c14
        have c14b1:((wrap64 (2*(m0.length:Int))) != 0)=true:=bne_iff_ne.mpr c14
        by_cases c15:(wrap64 ((wrap64 (Int.tdiv (wrap64 ((wrap64 (2*x5_1))+(m0.length:Int))) (wrap64 (2*(m0.length:Int)))))*(wrap64 (2*(m0.length:Int))))) > (wrap64 ((wrap64 (2*x5_1))+(m0.length:Int)))
        ·rw [if_pos c15] at H
         have c15b0:decide ((wrap64 ((wrap64 (2*x5_1))+(m0.length:Int)))<(wrap64 ((wrap64 (Int.tdiv (wrap64 ((wrap64 (2*x5_1))+(m0.length:Int))) (wrap64 (2*(m0.length:Int)))))*(wrap64 (2*(m0.length:Int))))))=true:=decide_eq_true c15
         clear c15
         replace H:=Option.bind_eq_some_iff.mp H
         obtain⟨t259,A160,H⟩:=H
         replace H:(some (wrap64 (x4_1+(wrap64 ((wrap64 (Int.tdiv (wrap64 ((wrap64 (2*x5_1))+(m0.length:Int))) (wrap64 (2*(m0.length:Int)))))-1))),t259))=some (r1,r2):=H
         have A16:=Aside0.mk A160
         clear A160
         simp only [Option.some.injEq,Prod.mk.injEq] at H
         obtain⟨rfl,rfl⟩:=H
         go_wp2_with (first|((with_reducible refine gate_callee (f:=48) rfl ?_);refine goesL_ (some 69) rfl rfl Try.func48 (by kernel_rfl) rfl #[.slice A0 m0.length c0] rfl (by (try simp only [List.map_toArray,List.map_cons,List.map_nil]);first|done|(rw [show m0.length=(ji2).toNat from (by rw [List.length_take];have h_:((ji2):Int)≤(l0.length:Int):=of_decide_eq_true (by first|(with_reducible assumption)|assumption);omega)]<;>rfl)|(simp only [hji2];rfl)|rfl|(simp only [List.length_drop,List.length_take];rfl)) ?_;(with_reducible refine(sum_changed.calls k1 _ _ m0 t259 _ ?side1 ?side2 ?side9 A16.out).mono ?_);(case side1=>first|exact(Kd.C_below HR255.out HB.out)|exact kC (Kd.C_below HR255.out HB.out));(case side2=>exact HC255.out);(case side9=>first|exact hm9.out|exact hm8.out|(rw [List.length_take];omega));rintro e w17 ⟨rfl,hb⟩;refine⟨_,rfl,?_⟩;have n0_:=Aside0.mk (below_step (by first|with_reducible exact HB.out|exact bl HB) hb);clear HB;have HB:=n0_;clear n0_;(try clear hb);(try clear hb2);(try clear hk);(try clear hi)))
         go_ret2
         exact⟨by first|rfl|(simp [errW_none,errW_some]<;>rfl)|(simp only [←hji2];first|rfl|(simp [errW_none,errW_some]<;>rfl))|(simp [*,errW_none,errW_some]<;>rfl),by first|with_reducible exact HB.out|exact bl HB⟩
        ·rw [if_neg c15] at H
         have c15b0:decide ((wrap64 ((wrap64 (2*x5_1))+(m0.length:Int)))<(wrap64 ((wrap64 (Int.tdiv (wrap64 ((wrap64 (2*x5_1))+(m0.length:Int))) (wrap64 (2*(m0.length:Int)))))*(wrap64 (2*(m0.length:Int))))))=false:=decide_eq_false c15
         clear c15
         replace H:=Option.bind_eq_some_iff.mp H
         obtain⟨t260,A180,H⟩:=H
         replace H:(some (wrap64 (x4_1+(wrap64 (Int.tdiv (wrap64 ((wrap64 (2*x5_1))+(m0.length:Int))) (wrap64 (2*(m0.length:Int)))))),t260))=some (r1,r2):=H
         have A18:=Aside0.mk A180
         clear A180
         simp only [Option.some.injEq,Prod.mk.injEq] at H
         obtain⟨rfl,rfl⟩:=H
         go_wp2_with (first|((with_reducible refine gate_callee (f:=48) rfl ?_);refine goesL_ (some 69) rfl rfl Try.func48 (by kernel_rfl) rfl #[.slice A0 m0.length c0] rfl (by (try simp only [List.map_toArray,List.map_cons,List.map_nil]);first|done|(rw [show m0.length=(ji2).toNat from (by rw [List.length_take];have h_:((ji2):Int)≤(l0.length:Int):=of_decide_eq_true (by first|(with_reducible assumption)|assumption);omega)]<;>rfl)|(simp only [hji2];rfl)|rfl|(simp only [List.length_drop,List.length_take];rfl)) ?_;(with_reducible refine(sum_changed.calls k1 _ _ m0 t260 _ ?side1 ?side2 ?side9 A18.out).mono ?_);(case side1=>first|exact(Kd.C_below HR255.out HB.out)|exact kC (Kd.C_below HR255.out HB.out));(case side2=>exact HC255.out);(case side9=>first|exact hm9.out|exact hm8.out|(rw [List.length_take];omega));rintro e w19 ⟨rfl,hb⟩;refine⟨_,rfl,?_⟩;have n0_:=Aside0.mk (below_step (by first|with_reducible exact HB.out|exact bl HB) hb);clear HB;have HB:=n0_;clear n0_;(try clear hb);(try clear hb2);(try clear hk);(try clear hi)))
         go_ret2
         exact⟨by first|rfl|(simp [errW_none,errW_some]<;>rfl)|(simp only [←hji2];first|rfl|(simp [errW_none,errW_some]<;>rfl))|(simp [*,errW_none,errW_some]<;>rfl),by first|with_reducible exact HB.out|exact bl HB⟩
  ·rw [if_neg c4] at H
   exact absurd H (by simp)
 ·rw [if_neg c3] at H
  exact absurd H (by simp)
def mat_matrix_even.f (k:Nat) (l0:List (List Int)) (a1:Int) (a2:Int):Option (Int × Bool):=if 0≤a1 then (if a1<(l0.length:Int) then (if 0≤a2 then (if a2<((rd_L1 l0 a1).length:Int) then (if a2<(l0.length:Int) then (if a1<((rd_L1 l0 a2).length:Int) then ((sum_Mean.f k (([rd (rd_L1 l0 a1) a2,rd (rd_L1 l0 a2) a1]:List Int))).bind fun bt268=>(some (bt268.1,bt268.2))) else (none)) else (none)) else (none)) else (none)) else (none)) else (none)
theorem mat_matrix_even.mono:∀ a0 a1 a2 k,LeO (mat_matrix_even.f k a0 a1 a2) (mat_matrix_even.f (k+1) a0 a1 a2):=by
 intro a0 a1 a2 k
 unfold mat_matrix_even.f
 repeat' first
   | (with_reducible exact sum_Mean.mono _ _)
   | (with_reducible exact LeO.refl _)
   | (with_reducible exact LeO.none _)
   | (with_reducible refine LeO.ite ?_ ?_)
   | (with_reducible refine LeO.bind ?_ (fun _=>?_))
   | exact sum_Mean.mono _ _
   | exact LeO.none _
   | refine LeO.ite ?_ ?_
   | refine LeO.bind ?_ (fun _=>?_)
def mat_matrix_even.T1:Bool × List (List Nat × List Nat):=(true,[([],[]),([],[]),([0,1],[0,1]),([2],[2]),([],[]),([3,4],[3,4]),([5],[5]),([],[]),([],[]),([7,8],[7,8]),([9],[9]),([],[]),([10,11],[10,11]),([12],[12]),([6,13],[6,13]),([14],[14]),([15],[15]),([15],[15]),([16,15,0,1,2,3,4,5,6,7,8,9,10,11,12,13,14,15,16,17],[16]),([17,18,0,1,2,3,4,5,6,7,8,9,10,11,12,13,14,15,16,17,18],[17])])
def mat_matrix_even.B1:List Nat:=[0,0,3,7,0,31,63,0,0,384,896,0,3968,8064,16383,32767,65535,65535,262143,524287]
theorem mat_matrix_even.tab1:rtab .any (opsOf Try.f42 1)=mat_matrix_even.T1:=by kernel_rfl
theorem mat_matrix_even.bits1:waitsOk mat_matrix_even.T1.2 mat_matrix_even.B1=true:=by kernel_rfl
set_option maxHeartbeats 8000000 in
set_option maxRecDepth 100000 in
theorem mat_matrix_even.calls (k:Nat) (A0:Option Addr) (c0:Nat) (l0:List (List Int)) (a1:Int) (a2:Int) (r1:Int) (r2:Bool) (w:World) (hr0:Kd.C (Kd.slice 3 (Kd.int .i64)) w A0 l0.length l0) (hc0:l0.length≤c0) (h:mat_matrix_even.f k l0 a1 a2=some (r1,r2)) :
  Calls Try.prog 42 #[.slice A0 l0.length c0,.int .i64 a1,.int .i64 a2] w fun e w'=>e=.returned (.tuple #[.int .i64 r1,.bool r2])∧Below w.heap.size w w':=by
 have HR0:=Aside0.mk hr0
 have HC0:=Aside0.mk hc0
 clear hr0 hc0
 have HB:=Aside0.mk (Below.refl w.heap.size w)
 have H:(if 0≤a1 then (if a1<(l0.length:Int) then (if 0≤a2 then (if a2<((rd_L1 l0 a1).length:Int) then (if a2<(l0.length:Int) then (if a1<((rd_L1 l0 a2).length:Int) then ((sum_Mean.f k (([rd (rd_L1 l0 a1) a2,rd (rd_L1 l0 a2) a1]:List Int))).bind fun bt268=>(some (bt268.1,bt268.2))) else (none)) else (none)) else (none)) else (none)) else (none)) else (none))=some (r1,r2):=h
 clear h
 by_cases c4:0≤a1
 ·rw [if_pos c4] at H
  have c4b0:decide (0≤a1)=true:=decide_eq_true c4
  clear c4
  by_cases c5:a1<(l0.length:Int)
  ·rw [if_pos c5] at H
   have c5b0:decide (a1<(l0.length:Int))=true:=decide_eq_true c5
   clear c5
   by_cases c6:0≤a2
   ·rw [if_pos c6] at H
    have c6b0:decide (0≤a2)=true:=decide_eq_true c6
    clear c6
    by_cases c7:a2<((rd_L1 l0 a1).length:Int)
    ·rw [if_pos c7] at H
     have c7b0:decide (a2<((rd_L1 l0 a1).length:Int))=true:=decide_eq_true c7
     clear c7
     by_cases c8:a2<(l0.length:Int)
     ·rw [if_pos c8] at H
      have c8b0:decide (a2<(l0.length:Int))=true:=decide_eq_true c8
      clear c8
      by_cases c9:a1<((rd_L1 l0 a2).length:Int)
      ·rw [if_pos c9] at H
       have c9b0:decide (a1<((rd_L1 l0 a2).length:Int))=true:=decide_eq_true c9
       clear c9
       obtain⟨y265,hy265⟩:∃ y_:List Int,y_=(([rd (rd_L1 l0 a1) a2,rd (rd_L1 l0 a2) a1]:List Int)):=⟨_,rfl⟩
       replace H:((sum_Mean.f k y265).bind fun bt268=>(some (bt268.1,bt268.2)))=some (r1,r2):=by first|(rw [hy265];with_reducible exact H)|(have H2_:=(Option.bind_some _ _).symm.trans H;rw [hy265];with_reducible exact H2_)|(have H2_:=(Option.bind_some _ _).symm.trans H;with_reducible exact H2_)|with_reducible exact H|(rw [hy265];exact H)|exact H
       have Ny265:=Aside0.mk hy265
       clear hy265
       replace H:=Option.bind_eq_some_iff.mp H
       obtain⟨⟨t268,t269⟩,A100,H⟩:=H
       replace H:(some (t268,t269))=some (r1,r2):=H
       have A10:=Aside0.mk A100
       clear A100
       simp only [Option.some.injEq,Prod.mk.injEq] at H
       obtain⟨rfl,rfl⟩:=H
       go_enter Try.func42,Try.ntmps42
       try go_wp2
       have n0_:=Aside0.mk (below_drew1 HB.out)
       clear HB
       have HB:=n0_
       clear n0_
       have p261:0≤(a1:Int):=of_decide_eq_true (by first|(with_reducible assumption)|assumption)
       have q261:a1<(l0.length:Int):=of_decide_eq_true (by first|(with_reducible assumption)|assumption)
       obtain⟨ad261,A261_0,c261_0,e261,hx261_0,hl261_0,hi261_0⟩:=at_L1 HR0.out a1 p261 q261
       have hw261_0:=hx261_0
       cases e261
       replace hx261_0:=(HB.out.cell (World.block_lt_of_cell? w _ hx261_0)).trans hx261_0
       have HR261_0:=Aside0.mk hi261_0
       have HC261_0:=Aside0.mk hl261_0
       clear hi261_0 hl261_0
       replace p261:=eq_true p261
       replace q261:=eq_true q261
       have p262:0≤(a2:Int):=of_decide_eq_true (by first|(with_reducible assumption)|assumption)
       have q262:a2<((rd_L1 l0 a1).length:Int):=of_decide_eq_true (by first|(with_reducible assumption)|assumption)
       obtain⟨ad262,e262,hx262_0⟩:=Kd.at_int HR261_0.out a2 p262 q262
       have hw262_0:=hx262_0
       cases e262
       replace hx262_0:=(HB.out.cell (World.block_lt_of_cell? w _ hx262_0)).trans hx262_0
       replace p262:=eq_true p262
       replace q262:=eq_true q262
       have p263:0≤(a2:Int):=of_decide_eq_true (by first|(with_reducible assumption)|assumption)
       have q263:a2<(l0.length:Int):=of_decide_eq_true (by first|(with_reducible assumption)|assumption)
       obtain⟨ad263,A263_0,c263_0,e263,hx263_0,hl263_0,hi263_0⟩:=at_L1 HR0.out a2 p263 q263
       have hw263_0:=hx263_0
       obtain rfl:ad261=ad263:=(by injection e263)
       replace hx263_0:=(HB.out.cell (World.block_lt_of_cell? w _ hx263_0)).trans hx263_0
       have HR263_0:=Aside0.mk hi263_0
       have HC263_0:=Aside0.mk hl263_0
       clear hi263_0 hl263_0
       replace p263:=eq_true p263
       replace q263:=eq_true q263
       have p264:0≤(a1:Int):=of_decide_eq_true (by first|(with_reducible assumption)|assumption)
       have q264:a1<((rd_L1 l0 a2).length:Int):=of_decide_eq_true (by first|(with_reducible assumption)|assumption)
       obtain⟨ad264,e264,hx264_0⟩:=Kd.at_int HR263_0.out a1 p264 q264
       have hw264_0:=hx264_0
       cases e264
       replace hx264_0:=(HB.out.cell (World.block_lt_of_cell? w _ hx264_0)).trans hx264_0
       replace p264:=eq_true p264
       replace q264:=eq_true q264
       refine start_ (n:=20) (S:=fun w'=>w'.cell? (ad261.add (a1).toNat)=some (.slice (some ad262) (rd_L1 l0 a1).length c261_0)∧w'.cell? (ad262.add (a2).toNat)=some (.int .i64 (rd (rd_L1 l0 a1) a2))∧w'.cell? (ad261.add (a2).toNat)=some (.slice (some ad264) (rd_L1 l0 a2).length c263_0)∧w'.cell? (ad264.add (a1).toNat)=some (.int .i64 (rd (rd_L1 l0 a2) a1))) (ds:=[]) #[ff,ff,ff,ff,ff,ff,ff,ff,ff,ff,ff,ff,ff,ff,ff,ff,ff,ff,ff,ff] (by kernel_rfl) rfl rfl ⟨((HB.out.cell (World.block_lt_of_cell? w _ hw261_0)).trans hw261_0),((HB.out.cell (World.block_lt_of_cell? w _ hw262_0)).trans hw262_0),((HB.out.cell (World.block_lt_of_cell? w _ hw263_0)).trans hw263_0),((HB.out.cell (World.block_lt_of_cell? w _ hw264_0)).trans hw264_0)⟩ (fun hHeld=>?_);refine with_tabW mat_matrix_even.tab1 mat_matrix_even.bits1 (fun HT_ HW_=>?_)
       generalize w.drew=w11 at HB HR261_0 HR263_0 hx261_0 hx262_0 hx263_0 hx264_0 hHeld ⊢
       refine pure_ (i:=0) (N:=some 8) (v:=?_) (a':=?_) #[tt,ff,ff,ff,ff,ff,ff,ff,ff,ff,ff,ff,ff,ff,ff,ff,ff,ff,ff,ff] rfl rfl (any_of HT_.out (by kernel_rfl)) (fun _ _ _ h=>h) (Or.inl ⟨by rfl,?_⟩) ?_ ?_
       rotate_left
       ·intro w'
        go_simp
        with_reducible rfl
       rotate_left
       ·simp only [Act.put,List.setIfInBounds_toArray,List.set_cons_zero,List.set_cons_succ,i64_w,i32_w]
        rfl
       refine pure_ (i:=1) (N:=some 9) (v:=?_) (a':=?_) #[tt,tt,ff,ff,ff,ff,ff,ff,ff,ff,ff,ff,ff,ff,ff,ff,ff,ff,ff,ff] rfl rfl (any_of HT_.out (by kernel_rfl)) (fun _ _ _ h=>h) (Or.inl ⟨by rfl,?_⟩) ?_ ?_
       rotate_left
       ·intro w'
        go_simp
        with_reducible rfl
       rotate_left
       ·simp only [Act.put,List.setIfInBounds_toArray,List.set_cons_zero,List.set_cons_succ,i64_w,i32_w]
        rfl
       refine pure_ (i:=2) (N:=some 10) (v:=?_) (a':=?_) #[tt,tt,tt,ff,ff,ff,ff,ff,ff,ff,ff,ff,ff,ff,ff,ff,ff,ff,ff,ff] rfl rfl (any_of HT_.out (by kernel_rfl)) (fun _ _ _ h=>h) (Or.inl ⟨by rfl,?_⟩) ?_ ?_
       rotate_left
       ·intro w'
        go_simp
        with_reducible rfl
       rotate_left
       ·simp only [Act.put,List.setIfInBounds_toArray,List.set_cons_zero,List.set_cons_succ,i64_w,i32_w]
        rfl
       refine pure_ (i:=4) (N:=some 12) (v:=?_) (a':=?_) #[tt,tt,tt,ff,tt,ff,ff,ff,ff,ff,ff,ff,ff,ff,ff,ff,ff,ff,ff,ff] rfl rfl (any_of HT_.out (by kernel_rfl)) (fun _ _ _ h=>h) (Or.inl ⟨by rfl,?_⟩) ?_ ?_
       rotate_left
       ·intro w'
        go_simp
        with_reducible rfl
       rotate_left
       ·simp only [Act.put,List.setIfInBounds_toArray,List.set_cons_zero,List.set_cons_succ,i64_w,i32_w]
        rfl
       refine pure_ (i:=7) (N:=some 15) (v:=?_) (a':=?_) #[tt,tt,tt,ff,tt,ff,ff,tt,ff,ff,ff,ff,ff,ff,ff,ff,ff,ff,ff,ff] rfl rfl (any_of HT_.out (by kernel_rfl)) (fun _ _ _ h=>h) (Or.inl ⟨by rfl,?_⟩) ?_ ?_
       rotate_left
       ·intro w'
        go_simp
        with_reducible rfl
       rotate_left
       ·simp only [Act.put,List.setIfInBounds_toArray,List.set_cons_zero,List.set_cons_succ,i64_w,i32_w]
        rfl
       refine pure_ (i:=8) (N:=some 16) (v:=?_) (a':=?_) #[tt,tt,tt,ff,tt,ff,ff,tt,tt,ff,ff,ff,ff,ff,ff,ff,ff,ff,ff,ff] rfl rfl (any_of HT_.out (by kernel_rfl)) (fun _ _ _ h=>h) (Or.inl ⟨by rfl,?_⟩) ?_ ?_
       rotate_left
       ·intro w'
        go_simp
        with_reducible rfl
       rotate_left
       ·simp only [Act.put,List.setIfInBounds_toArray,List.set_cons_zero,List.set_cons_succ,i64_w,i32_w]
        rfl
       refine pure_ (i:=9) (N:=some 17) (v:=?_) (a':=?_) #[tt,tt,tt,ff,tt,ff,ff,tt,tt,tt,ff,ff,ff,ff,ff,ff,ff,ff,ff,ff] rfl rfl (any_of HT_.out (by kernel_rfl)) (fun _ _ _ h=>h) (Or.inl ⟨by rfl,?_⟩) ?_ ?_
       rotate_left
       ·intro w'
        go_simp
        with_reducible rfl
       rotate_left
       ·simp only [Act.put,List.setIfInBounds_toArray,List.set_cons_zero,List.set_cons_succ,i64_w,i32_w]
        rfl
       refine pure_ (i:=11) (N:=some 19) (v:=?_) (a':=?_) #[tt,tt,tt,ff,tt,ff,ff,tt,tt,tt,ff,tt,ff,ff,ff,ff,ff,ff,ff,ff] rfl rfl (any_of HT_.out (by kernel_rfl)) (fun _ _ _ h=>h) (Or.inl ⟨by rfl,?_⟩) ?_ ?_
       rotate_left
       ·intro w'
        go_simp
        with_reducible rfl
       rotate_left
       ·simp only [Act.put,List.setIfInBounds_toArray,List.set_cons_zero,List.set_cons_succ,i64_w,i32_w]
        rfl
       refine take_ (i:=3) (N:=some 11) (v:=?_) (a':=?_) #[tt,tt,tt,tt,tt,ff,ff,tt,tt,tt,ff,tt,ff,ff,ff,ff,ff,ff,ff,ff] rfl rfl (take_ofW HT_.out HW_.out (by kernel_rfl)) (fun _ _ _ h=>h) (Or.inl ⟨by rfl,?_⟩) hHeld ?_ ?_
       rotate_left
       ·rintro w' ⟨s0,s1,s2,s3⟩
        go_simp
        with_reducible rfl
       rotate_left
       ·simp only [Act.put,List.setIfInBounds_toArray,List.set_cons_zero,List.set_cons_succ,i64_w,i32_w]
        rfl
       refine pure_ (i:=5) (N:=some 13) (v:=?_) (a':=?_) #[tt,tt,tt,tt,tt,tt,ff,tt,tt,tt,ff,tt,ff,ff,ff,ff,ff,ff,ff,ff] rfl rfl (any_of HT_.out (by kernel_rfl)) (fun _ _ _ h=>h) (Or.inl ⟨by rfl,?_⟩) ?_ ?_
       rotate_left
       ·intro w'
        go_simp
        with_reducible rfl
       rotate_left
       ·simp only [Act.put,List.setIfInBounds_toArray,List.set_cons_zero,List.set_cons_succ,i64_w,i32_w]
        rfl
       refine take_ (i:=6) (N:=some 14) (v:=?_) (a':=?_) #[tt,tt,tt,tt,tt,tt,tt,tt,tt,tt,ff,tt,ff,ff,ff,ff,ff,ff,ff,ff] rfl rfl (take_ofW HT_.out HW_.out (by kernel_rfl)) (fun _ _ _ h=>h) (Or.inl ⟨by rfl,?_⟩) hHeld ?_ ?_
       rotate_left
       ·rintro w' ⟨s0,s1,s2,s3⟩
        go_simp
        with_reducible rfl
       rotate_left
       ·simp only [Act.put,List.setIfInBounds_toArray,List.set_cons_zero,List.set_cons_succ,i64_w,i32_w]
        rfl
       refine take_ (i:=10) (N:=some 18) (v:=?_) (a':=?_) #[tt,tt,tt,tt,tt,tt,tt,tt,tt,tt,tt,tt,ff,ff,ff,ff,ff,ff,ff,ff] rfl rfl (take_ofW HT_.out HW_.out (by kernel_rfl)) (fun _ _ _ h=>h) (Or.inl ⟨by rfl,?_⟩) hHeld ?_ ?_
       rotate_left
       ·rintro w' ⟨s0,s1,s2,s3⟩
        go_simp
        with_reducible rfl
       rotate_left
       ·simp only [Act.put,List.setIfInBounds_toArray,List.set_cons_zero,List.set_cons_succ,i64_w,i32_w]
        rfl
       refine pure_ (i:=12) (N:=some 20) (v:=?_) (a':=?_) #[tt,tt,tt,tt,tt,tt,tt,tt,tt,tt,tt,tt,tt,ff,ff,ff,ff,ff,ff,ff] rfl rfl (any_of HT_.out (by kernel_rfl)) (fun _ _ _ h=>h) (Or.inl ⟨by rfl,?_⟩) ?_ ?_
       rotate_left
       ·intro w'
        go_simp
        with_reducible rfl
       rotate_left
       ·simp only [Act.put,List.setIfInBounds_toArray,List.set_cons_zero,List.set_cons_succ,i64_w,i32_w]
        rfl
       refine take_ (i:=13) (N:=some 21) (v:=?_) (a':=?_) #[tt,tt,tt,tt,tt,tt,tt,tt,tt,tt,tt,tt,tt,tt,ff,ff,ff,ff,ff,ff] rfl rfl (take_ofW HT_.out HW_.out (by kernel_rfl)) (fun _ _ _ h=>h) (Or.inl ⟨by rfl,?_⟩) hHeld ?_ ?_
       rotate_left
       ·rintro w' ⟨s0,s1,s2,s3⟩
        go_simp
        with_reducible rfl
       rotate_left
       ·simp only [Act.put,List.setIfInBounds_toArray,List.set_cons_zero,List.set_cons_succ,i64_w,i32_w]
        rfl
       refine one_ (i:=14) (N:=some 22) #[tt,tt,tt,tt,tt,tt,tt,tt,tt,tt,tt,tt,tt,tt,tt,ff,ff,ff,ff,ff] rfl rfl (one_of HT_.out (by kernel_rfl)) (by decide) (fun K hK=>?_)
       refine Kd.R_lit_step (Kd.int .i64) _ 3 ?hg (N:=22) ?hd (xs:=([rd (rd_L1 l0 a1) a2,rd (rd_L1 l0 a2) a1]:List Int)) (inner:=[.int .i64 (rd (rd_L1 l0 a1) a2),.int .i64 (rd (rd_L1 l0 a2) a1)]) (ok:=fun _=>True) (okp:=fun _=>True) ?hr ?hp (fun _ hk=>hk) trivial (Below.refl _ _) (Nat.le_refl _) (by simp) ?_;(case hd=>rfl);(case hg=>rfl);(case hr=>first|(go_simp;done)|(go_simp;rfl));(case hp=>exact(Reps.one (show Kd.M (Kd.int .i64) _ _ _ (rd (rd_L1 l0 a1) a2) [.int .i64 (rd (rd_L1 l0 a1) a2)] from rfl) (Reps.one (show Kd.M (Kd.int .i64) _ _ _ (rd (rd_L1 l0 a2) a1) [.int .i64 (rd (rd_L1 l0 a2) a1)] from rfl) (Reps.none _ _))))
       intro v266 w12 ho13 hb hg_ hnew_
       clear hg_ hnew_
       (first|rw [←Ny265.out] at ho13|(simp only [Int.reduceToNat] at ho13;rw [←Ny265.out] at ho13))
       have n0_:=Aside0.mk (Kd.R_lower ho13 (below_size (by first|with_reducible exact HB.out|exact bl HB)))
       have n1_:=Aside0.mk (below_step (by first|with_reducible exact HB.out|exact bl HB) hb)
       clear HB
       have HO267:=n0_
       have HB:=n1_
       clear n0_ n1_
       clear hb ho13
       obtain⟨Ao14,co14,eo14⟩:=Kd.R_slice HO267.out
       (first|subst eo14|(injection eo14 with f1_ f2_ f3_;have f4_:=f1_.symm;have f5_:=f3_.symm;clear f1_ f2_ f3_;subst f4_;subst f5_))
       refine hK.out _ _ ⟨((HB.out.cell (World.block_lt_of_cell? w _ hw261_0)).trans hw261_0),((HB.out.cell (World.block_lt_of_cell? w _ hw262_0)).trans hw262_0),((HB.out.cell (World.block_lt_of_cell? w _ hw263_0)).trans hw263_0),((HB.out.cell (World.block_lt_of_cell? w _ hw264_0)).trans hw264_0)⟩ (fun hHeld=>?_)
       clear hK K
       refine norm_ (a':=?_) ?_ ?_
       rotate_left
       ·show Act.put _ (some 22) _=_
        simp only [Act.put,List.setIfInBounds_toArray,List.set_cons_zero,List.set_cons_succ,i64_w,i32_w]
        rfl
       refine one_ (i:=15) (N:=some 23) #[tt,tt,tt,tt,tt,tt,tt,tt,tt,tt,tt,tt,tt,tt,tt,tt,ff,ff,ff,ff] rfl rfl (one_of HT_.out (by kernel_rfl)) (by decide) (fun K hK=>?_)
       refine goes_ Try.func57 (by kernel_rfl) rfl #[.slice Ao14 y265.length co14] (by rfl) rfl rfl (by exact mA _ _) ?_
       with_reducible refine(sum_Mean.calls k _ _ y265 t268 t269 _ ?side1 ?side2 A10.out).mono ?_
       (case side1=>first|exact(Kd.R_reads' HO267.out).2.2|exact kC (Kd.R_reads' HO267.out).2.2)
       (case side2=>exact(Kd.R_reads' HO267.out).2.1)
       rintro e w15 ⟨rfl,hb⟩
       refine⟨_,rfl,?_⟩
       have n0_:=Aside0.mk (Kd.R_below (by first|exact HO267.out|exact kR HO267.out) hb)
       have n1_:=Aside0.mk (below_step (by first|with_reducible exact HB.out|exact bl HB) hb)
       clear HO267
       clear HB
       have HO267:=n0_
       have HB:=n1_
       clear n0_ n1_
       (try clear hb)
       (try clear hb2)
       (try clear hk)
       (try clear hi)
       refine hK.out _ _ ⟨((HB.out.cell (World.block_lt_of_cell? w _ hw261_0)).trans hw261_0),((HB.out.cell (World.block_lt_of_cell? w _ hw262_0)).trans hw262_0),((HB.out.cell (World.block_lt_of_cell? w _ hw263_0)).trans hw263_0),((HB.out.cell (World.block_lt_of_cell? w _ hw264_0)).trans hw264_0)⟩ (fun hHeld=>?_)
       clear hK K
       refine norm_ (a':=?_) ?_ ?_
       rotate_left
       ·show Act.put _ (some 23) _=_
        simp only [Act.put,List.setIfInBounds_toArray,List.set_cons_zero,List.set_cons_succ,i64_w,i32_w]
        rfl
       refine pure_ (i:=16) (N:=some 24) (v:=?_) (a':=?_) #[tt,tt,tt,tt,tt,tt,tt,tt,tt,tt,tt,tt,tt,tt,tt,tt,tt,ff,ff,ff] rfl rfl (any_of HT_.out (by kernel_rfl)) (fun _ _ _ h=>h) (Or.inl ⟨by rfl,?_⟩) ?_ ?_
       rotate_left
       ·intro w'
        go_simp
        with_reducible rfl
       rotate_left
       ·simp only [Act.put,List.setIfInBounds_toArray,List.set_cons_zero,List.set_cons_succ,i64_w,i32_w]
        rfl
       refine pure_ (i:=17) (N:=some 25) (v:=?_) (a':=?_) #[tt,tt,tt,tt,tt,tt,tt,tt,tt,tt,tt,tt,tt,tt,tt,tt,tt,tt,ff,ff] rfl rfl (any_of HT_.out (by kernel_rfl)) (fun _ _ _ h=>h) (Or.inl ⟨by rfl,?_⟩) ?_ ?_
       rotate_left
       ·intro w'
        go_simp
        with_reducible rfl
       rotate_left
       ·simp only [Act.put,List.setIfInBounds_toArray,List.set_cons_zero,List.set_cons_succ,i64_w,i32_w]
        rfl
       refine pure_ (i:=18) (N:=some 6) (v:=?_) (a':=?_) #[tt,tt,tt,tt,tt,tt,tt,tt,tt,tt,tt,tt,tt,tt,tt,tt,tt,tt,tt,ff] rfl rfl (any_of HT_.out (by kernel_rfl)) (fun _ _ _ h=>h) (Or.inl ⟨by rfl,?_⟩) ?_ ?_
       rotate_left
       ·intro w'
        go_simp
        with_reducible rfl
       rotate_left
       ·simp only [Act.put,List.setIfInBounds_toArray,List.set_cons_zero,List.set_cons_succ,i64_w,i32_w]
        rfl
       refine pure_ (i:=19) (N:=some 7) (v:=?_) (a':=?_) #[tt,tt,tt,tt,tt,tt,tt,tt,tt,tt,tt,tt,tt,tt,tt,tt,tt,tt,tt,tt] rfl rfl (any_of HT_.out (by kernel_rfl)) (fun _ _ _ h=>h) (Or.inl ⟨by rfl,?_⟩) ?_ ?_
       rotate_left
       ·intro w'
        go_simp
        with_reducible rfl
       rotate_left
       ·simp only [Act.put,List.setIfInBounds_toArray,List.set_cons_zero,List.set_cons_succ,i64_w,i32_w]
        rfl
       refine done_ (done_of HT_.out (by kernel_rfl)) ?_
       try go_wp2
       go_ret2
       exact⟨by first|rfl|(simp [errW_none,errW_some]<;>rfl)|(simp [*,errW_none,errW_some]<;>rfl),by first|with_reducible exact HB.out|exact bl HB⟩
      ·rw [if_neg c9] at H
       exact absurd H (by simp)
     ·rw [if_neg c8] at H
      exact absurd H (by simp)
    ·rw [if_neg c7] at H
     exact absurd H (by simp)
   ·rw [if_neg c6] at H
    exact absurd H (by simp)
  ·rw [if_neg c5] at H
   exact absurd H (by simp)
 ·rw [if_neg c4] at H
  exact absurd H (by simp)
def mat_Even.f (k:Nat) (l0:List (List Int)):Option ((List (List Int))):=(mat_known.f k l0).bind fun t270=>((mat_made.f (fun i_ j_=>mat_matrix_even.f k t270 i_ j_) k (t270.length:Int)).bind fun bt273=>(some bt273.1))
theorem mat_Even.mono:∀ a0 k,LeO (mat_Even.f k a0) (mat_Even.f (k+1) a0):=by
 intro a0 k
 unfold mat_Even.f
 repeat' first
   | (with_reducible exact mat_known.mono _ _)
   | exact mat_made.mono (fun _ _=>mat_matrix_even.mono _ _ _ _) _ _
   | (with_reducible exact LeO.refl _)
   | (with_reducible exact LeO.none _)
   | (with_reducible refine LeO.ite ?_ ?_)
   | (with_reducible refine LeO.bind ?_ (fun _=>?_))
   | exact mat_known.mono _ _
   | exact mat_made.mono (fun _ _=>mat_matrix_even.mono _ _ _ _) _ _
   | exact LeO.none _
   | refine LeO.ite ?_ ?_
   | refine LeO.bind ?_ (fun _=>?_)
set_option maxHeartbeats 8000000 in
set_option maxRecDepth 100000 in
theorem mat_Even.calls (k:Nat) (A0:Option Addr) (c0:Nat) (l0:List (List Int)) (r:List (List Int)) (w:World) (hr0:Kd.C (Kd.slice 3 (Kd.int .i64)) w A0 l0.length l0) (hc0:l0.length≤c0) (h:mat_Even.f k l0=some r) :
  Calls Try.prog 24 #[.slice A0 l0.length c0] w fun e w'=>∃ v0_:Value,e=.returned (v0_)∧Kd.S (Kd.slice 3 (Kd.int .i64)) 23 w' w.heap.size (fun _=>True) v0_ r∧Below w.heap.size w w':=by
 have HR0:=Aside0.mk hr0
 have HC0:=Aside0.mk hc0
 clear hr0 hc0
 have HB:=Aside0.mk (Below.refl w.heap.size w)
 have H:((mat_known.f k l0).bind fun t270=>((mat_made.f (fun i_ j_=>mat_matrix_even.f k t270 i_ j_) k (t270.length:Int)).bind fun bt273=>(some bt273.1)))=some r:=h
 clear h
 replace H:=Option.bind_eq_some_iff.mp H
 obtain⟨t270,A20,H⟩:=H
 replace H:((mat_made.f (fun i_ j_=>mat_matrix_even.f k t270 i_ j_) k (t270.length:Int)).bind fun bt273=>(some bt273.1))=some r:=H
 have A2:=Aside0.mk A20
 clear A20
 replace H:=Option.bind_eq_some_iff.mp H
 obtain⟨⟨t273,t274⟩,A30,H⟩:=H
 replace H:(some t273)=some r:=H
 have A3:=Aside0.mk A30
 clear A30
 obtain rfl:=Option.some.inj H
 go_enter Try.func24,Try.ntmps24
 go_wp2_with (first|((with_reducible refine gate_callee (f:=38) rfl ?_);refine goesL_ (some 7) rfl rfl Try.func38 (by kernel_rfl) rfl #[.slice A0 l0.length c0] rfl (by exact mA _ _) ?_;(with_reducible refine(mat_known.calls k (fun k_=>k_<w.heap.size) _ _ l0 t270 _ ?side1 A2.out).mono ?_);(case side1=>exact Kd.V_mk HC0.out (Kd.F_below (Kd.C_F (Kd.heap_slice 3 (Kd.heap_int .i64)) HR0.out) (by first|with_reducible exact HB.out|exact bl HB)));rintro e w4 ⟨v271,rfl,ho0,hb⟩;refine⟨_,rfl,?_⟩;have n0_:=Aside0.mk (Kd.V_lower (Kd.V_mono (ok':=fun k_=>True) ho0 (fun k_ hk_=>trivial)) (below_size (by first|with_reducible exact HB.out|exact bl HB)));have n1_:=Aside0.mk (below_step (by first|with_reducible exact HB.out|exact bl HB) hb);clear HB;have HO272:=n0_;have HB:=n1_;clear n0_ n1_;(try clear hb);(try clear hb2);(try clear hk);(try clear hi);(try clear ho0);obtain⟨Ao5,co5,eo5⟩:=Kd.V_slice HO272.out;subst eo5)|((with_reducible refine gate_callee (f:=27) rfl ?_);refine goesL_ (some 13) rfl rfl Try.func27 (by kernel_rfl) rfl #[.int .i64 (t270.length:Int),.func (.func 42) #[.slice Ao5 t270.length co5] #[]] rfl (by exact mA _ _) ?_;refine(mat_made.calls (fun i_ j_=>mat_matrix_even.f k t270 i_ j_) 42 #[.slice Ao5 t270.length co5] #[] k (t270.length:Int) t273 t274 _ (enters_of Try.func42 (by kernel_rfl) rfl) ⟨fun i_ j_ r1_ r2_ W_ hb_ hf_=>calls_of_args (by simp) (mat_matrix_even.calls k _ _ t270 i_ j_ r1_ r2_ W_ (Kd.C_below (Kd.V_reads' HO272.out).2.2 hb_) (Kd.V_reads' HO272.out).2.1 hf_)⟩ A3.out).mono ?_;rintro e w6 ⟨v275,rfl,ho0,hb⟩;refine⟨_,rfl,?_⟩;have n0_:=Aside0.mk (Kd.V_elder' (by first|exact HO272.out|exact kV HO272.out) (Kd.S_base ho0) hb);have n1_:=Aside0.mk (Kd.S_lower ho0 (below_size (by first|with_reducible exact HB.out|exact bl HB)));have n2_:=Aside0.mk (below_step (by first|with_reducible exact HB.out|exact bl HB) hb);clear HO272;clear HB;have HO272:=n0_;have HO276:=n1_;have HB:=n2_;clear n0_ n1_ n2_;(try clear hb);(try clear hb2);(try clear hk);(try clear hi);(try clear ho0)))
 go_ret
 exact⟨_,by first|rfl|(simp [errW_none,errW_some]<;>rfl)|(simp [*,errW_none,errW_some]<;>rfl),by first|exact HO276.out|exact kS HO276.out,by first|with_reducible exact HB.out|exact bl HB⟩
def outriggerlaw08_awake.f (k:Nat)  : Option (Bool):=(some (([(([1,2]:List Int)),(([3,4]:List Int))]:List (List Int)):List (List Int))).bind fun y283=>((mat_One.f k 2).bind fun t286=>((mat_Mul.f k t286 y283).bind fun bt289=>((mat_One.f k 2).bind fun t293=>((mat_Apply.f k t293 (([5,6]:List Int))).bind fun bt299=>((mat_Even.f k y283).bind fun t303=>((mat_Turned.f k y283).bind fun t306=>((mat_Add.f k y283 ([]:List (List Int))).bind fun bt309=>((outriggerref08_Same.f k bt289.1 y283).bind fun t313=>(if t313=true then (if bt289.2=true then (some false) else ((outriggerref08_Ints.f k bt299.1 (([5,6]:List Int))).bind fun t317=>(if t317=true then (if bt299.2=true then (some false) else (if (t303.length:Int)=2 then (if 0<(t303.length:Int) then (if 1<((rd_L1 t303 0).length:Int) then (if (rd (rd_L1 t303 0) 1)=3 then (if 1<(t303.length:Int) then (if 0<((rd_L1 t303 1).length:Int) then (if (rd (rd_L1 t303 1) 0)=3 then (if (t306.length:Int)=2 then (if 0<(t306.length:Int) then (if 1<((rd_L1 t306 0).length:Int) then (if (rd (rd_L1 t306 0) 1)=3 then (if bt309.2=true then ((mat_Sane.f k y283).bind fun t324=>(some t324)) else (some false)) else (some false)) else (none)) else (none)) else (some false)) else (some false)) else (none)) else (none)) else (some false)) else (none)) else (none)) else (some false))) else (some false)))) else (some false))))))))))
theorem outriggerlaw08_awake.mono:∀ k,LeO (outriggerlaw08_awake.f k ) (outriggerlaw08_awake.f (k+1) ):=by
 intro  k
 unfold outriggerlaw08_awake.f
 repeat' first
   | (with_reducible exact mat_Add.mono _ _ _)
   | (with_reducible exact mat_Apply.mono _ _ _)
   | (with_reducible exact mat_Even.mono _ _)
   | (with_reducible exact mat_Mul.mono _ _ _)
   | (with_reducible exact mat_One.mono _ _)
   | (with_reducible exact mat_Sane.mono _ _)
   | (with_reducible exact mat_Turned.mono _ _)
   | (with_reducible exact outriggerref08_Ints.mono _ _ _)
   | (with_reducible exact outriggerref08_Same.mono _ _ _)
   | (with_reducible exact LeO.refl _)
   | (with_reducible exact LeO.none _)
   | (with_reducible refine LeO.ite ?_ ?_)
   | (with_reducible refine LeO.bind ?_ (fun _=>?_))
   | exact mat_Add.mono _ _ _
   | exact mat_Apply.mono _ _ _
   | exact mat_Even.mono _ _
   | exact mat_Mul.mono _ _ _
   | exact mat_One.mono _ _
   | exact mat_Sane.mono _ _
   | exact mat_Turned.mono _ _
   | exact outriggerref08_Ints.mono _ _ _
   | exact outriggerref08_Same.mono _ _ _
   | exact LeO.none _
   | refine LeO.ite ?_ ?_
   | refine LeO.bind ?_ (fun _=>?_)
set_option maxHeartbeats 8000000 in
set_option maxRecDepth 100000 in
theorem outriggerlaw08_awake.calls1 (k:Nat)  (r:Bool) (w:World) (h:outriggerlaw08_awake.f k  = some r) (hr:Aside0 (r=true)) :
  Calls Try.prog 8 #[] w fun e w'=>e=.returned (.bool r)∧Below w.heap.size w w':=by
 have HB:=Aside0.mk (Below.refl w.heap.size w)
 have H:((some (([(([1,2]:List Int)),(([3,4]:List Int))]:List (List Int)):List (List Int))).bind fun y283=>((mat_One.f k 2).bind fun t286=>((mat_Mul.f k t286 y283).bind fun bt289=>((mat_One.f k 2).bind fun t293=>((mat_Apply.f k t293 (([5,6]:List Int))).bind fun bt299=>((mat_Even.f k y283).bind fun t303=>((mat_Turned.f k y283).bind fun t306=>((mat_Add.f k y283 ([]:List (List Int))).bind fun bt309=>((outriggerref08_Same.f k bt289.1 y283).bind fun t313=>(if t313=true then (if bt289.2=true then (some false) else ((outriggerref08_Ints.f k bt299.1 (([5,6]:List Int))).bind fun t317=>(if t317=true then (if bt299.2=true then (some false) else (if (t303.length:Int)=2 then (if 0<(t303.length:Int) then (if 1<((rd_L1 t303 0).length:Int) then (if (rd (rd_L1 t303 0) 1)=3 then (if 1<(t303.length:Int) then (if 0<((rd_L1 t303 1).length:Int) then (if (rd (rd_L1 t303 1) 0)=3 then (if (t306.length:Int)=2 then (if 0<(t306.length:Int) then (if 1<((rd_L1 t306 0).length:Int) then (if (rd (rd_L1 t306 0) 1)=3 then (if bt309.2=true then ((mat_Sane.f k y283).bind fun t324=>(some t324)) else (some false)) else (some false)) else (none)) else (none)) else (some false)) else (some false)) else (none)) else (none)) else (some false)) else (none)) else (none)) else (some false))) else (some false)))) else (some false)))))))))))=some r:=h
 clear h
 obtain⟨y277,hy277⟩:∃ y_:List Int,y_=(([1,2]:List Int)):=⟨_,rfl⟩
 replace H:((some (([y277,(([3,4]:List Int))]:List (List Int)):List (List Int))).bind fun y283=>((mat_One.f k 2).bind fun t286=>((mat_Mul.f k t286 y283).bind fun bt289=>((mat_One.f k 2).bind fun t293=>((mat_Apply.f k t293 (([5,6]:List Int))).bind fun bt299=>((mat_Even.f k y283).bind fun t303=>((mat_Turned.f k y283).bind fun t306=>((mat_Add.f k y283 ([]:List (List Int))).bind fun bt309=>((outriggerref08_Same.f k bt289.1 y283).bind fun t313=>(if t313=true then (if bt289.2=true then (some false) else ((outriggerref08_Ints.f k bt299.1 (([5,6]:List Int))).bind fun t317=>(if t317=true then (if bt299.2=true then (some false) else (if (t303.length:Int)=2 then (if 0<(t303.length:Int) then (if 1<((rd_L1 t303 0).length:Int) then (if (rd (rd_L1 t303 0) 1)=3 then (if 1<(t303.length:Int) then (if 0<((rd_L1 t303 1).length:Int) then (if (rd (rd_L1 t303 1) 0)=3 then (if (t306.length:Int)=2 then (if 0<(t306.length:Int) then (if 1<((rd_L1 t306 0).length:Int) then (if (rd (rd_L1 t306 0) 1)=3 then (if bt309.2=true then ((mat_Sane.f k y283).bind fun t324=>(some t324)) else (some false)) else (some false)) else (none)) else (none)) else (some false)) else (some false)) else (none)) else (none)) else (some false)) else (none)) else (none)) else (some false))) else (some false)))) else (some false)))))))))))=some r:=by first|(rw [hy277];with_reducible exact H)|(have H2_:=(Option.bind_some _ _).symm.trans H;rw [hy277];with_reducible exact H2_)|(have H2_:=(Option.bind_some _ _).symm.trans H;with_reducible exact H2_)|with_reducible exact H|(rw [hy277];exact H)|exact H
 have Ny277:=Aside0.mk hy277
 clear hy277
 obtain⟨y280,hy280⟩:∃ y_:List Int,y_=(([3,4]:List Int)):=⟨_,rfl⟩
 replace H:((some (([y277,y280]:List (List Int)):List (List Int))).bind fun y283=>((mat_One.f k 2).bind fun t286=>((mat_Mul.f k t286 y283).bind fun bt289=>((mat_One.f k 2).bind fun t293=>((mat_Apply.f k t293 (([5,6]:List Int))).bind fun bt299=>((mat_Even.f k y283).bind fun t303=>((mat_Turned.f k y283).bind fun t306=>((mat_Add.f k y283 ([]:List (List Int))).bind fun bt309=>((outriggerref08_Same.f k bt289.1 y283).bind fun t313=>(if t313=true then (if bt289.2=true then (some false) else ((outriggerref08_Ints.f k bt299.1 (([5,6]:List Int))).bind fun t317=>(if t317=true then (if bt299.2=true then (some false) else (if (t303.length:Int)=2 then (if 0<(t303.length:Int) then (if 1<((rd_L1 t303 0).length:Int) then (if (rd (rd_L1 t303 0) 1)=3 then (if 1<(t303.length:Int) then (if 0<((rd_L1 t303 1).length:Int) then (if (rd (rd_L1 t303 1) 0)=3 then (if (t306.length:Int)=2 then (if 0<(t306.length:Int) then (if 1<((rd_L1 t306 0).length:Int) then (if (rd (rd_L1 t306 0) 1)=3 then (if bt309.2=true then ((mat_Sane.f k y283).bind fun t324=>(some t324)) else (some false)) else (some false)) else (none)) else (none)) else (some false)) else (some false)) else (none)) else (none)) else (some false)) else (none)) else (none)) else (some false))) else (some false)))) else (some false)))))))))))=some r:=by first|(rw [hy280];with_reducible exact H)|(have H2_:=(Option.bind_some _ _).symm.trans H;rw [hy280];with_reducible exact H2_)|(have H2_:=(Option.bind_some _ _).symm.trans H;with_reducible exact H2_)|with_reducible exact H|(rw [hy280];exact H)|exact H
 have Ny280:=Aside0.mk hy280
 clear hy280
 obtain⟨y283,hy283⟩:∃ y_:List (List Int),y_=(([y277,y280]:List (List Int))):=⟨_,rfl⟩
 replace H:((mat_One.f k 2).bind fun t286=>((mat_Mul.f k t286 y283).bind fun bt289=>((mat_One.f k 2).bind fun t293=>((mat_Apply.f k t293 (([5,6]:List Int))).bind fun bt299=>((mat_Even.f k y283).bind fun t303=>((mat_Turned.f k y283).bind fun t306=>((mat_Add.f k y283 ([]:List (List Int))).bind fun bt309=>((outriggerref08_Same.f k bt289.1 y283).bind fun t313=>(if t313=true then (if bt289.2=true then (some false) else ((outriggerref08_Ints.f k bt299.1 (([5,6]:List Int))).bind fun t317=>(if t317=true then (if bt299.2=true then (some false) else (if (t303.length:Int)=2 then (if 0<(t303.length:Int) then (if 1<((rd_L1 t303 0).length:Int) then (if (rd (rd_L1 t303 0) 1)=3 then (if 1<(t303.length:Int) then (if 0<((rd_L1 t303 1).length:Int) then (if (rd (rd_L1 t303 1) 0)=3 then (if (t306.length:Int)=2 then (if 0<(t306.length:Int) then (if 1<((rd_L1 t306 0).length:Int) then (if (rd (rd_L1 t306 0) 1)=3 then (if bt309.2=true then ((mat_Sane.f k y283).bind fun t324=>(some t324)) else (some false)) else (some false)) else (none)) else (none)) else (some false)) else (some false)) else (none)) else (none)) else (some false)) else (none)) else (none)) else (some false))) else (some false)))) else (some false))))))))))=some r:=by first|(rw [hy283];with_reducible exact H)|(have H2_:=(Option.bind_some _ _).symm.trans H;rw [hy283];with_reducible exact H2_)|(have H2_:=(Option.bind_some _ _).symm.trans H;with_reducible exact H2_)|with_reducible exact H|(rw [hy283];exact H)|exact H
 have Ny283:=Aside0.mk hy283
 clear hy283
 replace H:=Option.bind_eq_some_iff.mp H
 obtain⟨t286,A10,H⟩:=H
 replace H:((mat_Mul.f k t286 y283).bind fun bt289=>((mat_One.f k 2).bind fun t293=>((mat_Apply.f k t293 (([5,6]:List Int))).bind fun bt299=>((mat_Even.f k y283).bind fun t303=>((mat_Turned.f k y283).bind fun t306=>((mat_Add.f k y283 ([]:List (List Int))).bind fun bt309=>((outriggerref08_Same.f k bt289.1 y283).bind fun t313=>(if t313=true then (if bt289.2=true then (some false) else ((outriggerref08_Ints.f k bt299.1 (([5,6]:List Int))).bind fun t317=>(if t317=true then (if bt299.2=true then (some false) else (if (t303.length:Int)=2 then (if 0<(t303.length:Int) then (if 1<((rd_L1 t303 0).length:Int) then (if (rd (rd_L1 t303 0) 1)=3 then (if 1<(t303.length:Int) then (if 0<((rd_L1 t303 1).length:Int) then (if (rd (rd_L1 t303 1) 0)=3 then (if (t306.length:Int)=2 then (if 0<(t306.length:Int) then (if 1<((rd_L1 t306 0).length:Int) then (if (rd (rd_L1 t306 0) 1)=3 then (if bt309.2=true then ((mat_Sane.f k y283).bind fun t324=>(some t324)) else (some false)) else (some false)) else (none)) else (none)) else (some false)) else (some false)) else (none)) else (none)) else (some false)) else (none)) else (none)) else (some false))) else (some false)))) else (some false)))))))))=some r:=H
 have A1:=Aside0.mk A10
 clear A10
 replace H:=Option.bind_eq_some_iff.mp H
 obtain⟨⟨t289,t290⟩,A20,H⟩:=H
 replace H:((mat_One.f k 2).bind fun t293=>((mat_Apply.f k t293 (([5,6]:List Int))).bind fun bt299=>((mat_Even.f k y283).bind fun t303=>((mat_Turned.f k y283).bind fun t306=>((mat_Add.f k y283 ([]:List (List Int))).bind fun bt309=>((outriggerref08_Same.f k t289 y283).bind fun t313=>(if t313=true then (if t290=true then (some false) else ((outriggerref08_Ints.f k bt299.1 (([5,6]:List Int))).bind fun t317=>(if t317=true then (if bt299.2=true then (some false) else (if (t303.length:Int)=2 then (if 0<(t303.length:Int) then (if 1<((rd_L1 t303 0).length:Int) then (if (rd (rd_L1 t303 0) 1)=3 then (if 1<(t303.length:Int) then (if 0<((rd_L1 t303 1).length:Int) then (if (rd (rd_L1 t303 1) 0)=3 then (if (t306.length:Int)=2 then (if 0<(t306.length:Int) then (if 1<((rd_L1 t306 0).length:Int) then (if (rd (rd_L1 t306 0) 1)=3 then (if bt309.2=true then ((mat_Sane.f k y283).bind fun t324=>(some t324)) else (some false)) else (some false)) else (none)) else (none)) else (some false)) else (some false)) else (none)) else (none)) else (some false)) else (none)) else (none)) else (some false))) else (some false)))) else (some false))))))))=some r:=H
 have A2:=Aside0.mk A20
 clear A20
 replace H:=Option.bind_eq_some_iff.mp H
 obtain⟨t293,A30,H⟩:=H
 replace H:((mat_Apply.f k t293 (([5,6]:List Int))).bind fun bt299=>((mat_Even.f k y283).bind fun t303=>((mat_Turned.f k y283).bind fun t306=>((mat_Add.f k y283 ([]:List (List Int))).bind fun bt309=>((outriggerref08_Same.f k t289 y283).bind fun t313=>(if t313=true then (if t290=true then (some false) else ((outriggerref08_Ints.f k bt299.1 (([5,6]:List Int))).bind fun t317=>(if t317=true then (if bt299.2=true then (some false) else (if (t303.length:Int)=2 then (if 0<(t303.length:Int) then (if 1<((rd_L1 t303 0).length:Int) then (if (rd (rd_L1 t303 0) 1)=3 then (if 1<(t303.length:Int) then (if 0<((rd_L1 t303 1).length:Int) then (if (rd (rd_L1 t303 1) 0)=3 then (if (t306.length:Int)=2 then (if 0<(t306.length:Int) then (if 1<((rd_L1 t306 0).length:Int) then (if (rd (rd_L1 t306 0) 1)=3 then (if bt309.2=true then ((mat_Sane.f k y283).bind fun t324=>(some t324)) else (some false)) else (some false)) else (none)) else (none)) else (some false)) else (some false)) else (none)) else (none)) else (some false)) else (none)) else (none)) else (some false))) else (some false)))) else (some false)))))))=some r:=H
 have A3:=Aside0.mk A30
 clear A30
 obtain⟨y296,hy296⟩:∃ y_:List Int,y_=(([5,6]:List Int)):=⟨_,rfl⟩
 replace H:((mat_Apply.f k t293 y296).bind fun bt299=>((mat_Even.f k y283).bind fun t303=>((mat_Turned.f k y283).bind fun t306=>((mat_Add.f k y283 ([]:List (List Int))).bind fun bt309=>((outriggerref08_Same.f k t289 y283).bind fun t313=>(if t313=true then (if t290=true then (some false) else ((outriggerref08_Ints.f k bt299.1 (([5,6]:List Int))).bind fun t317=>(if t317=true then (if bt299.2=true then (some false) else (if (t303.length:Int)=2 then (if 0<(t303.length:Int) then (if 1<((rd_L1 t303 0).length:Int) then (if (rd (rd_L1 t303 0) 1)=3 then (if 1<(t303.length:Int) then (if 0<((rd_L1 t303 1).length:Int) then (if (rd (rd_L1 t303 1) 0)=3 then (if (t306.length:Int)=2 then (if 0<(t306.length:Int) then (if 1<((rd_L1 t306 0).length:Int) then (if (rd (rd_L1 t306 0) 1)=3 then (if bt309.2=true then ((mat_Sane.f k y283).bind fun t324=>(some t324)) else (some false)) else (some false)) else (none)) else (none)) else (some false)) else (some false)) else (none)) else (none)) else (some false)) else (none)) else (none)) else (some false))) else (some false)))) else (some false)))))))=some r:=by first|(rw [hy296];with_reducible exact H)|(have H2_:=(Option.bind_some _ _).symm.trans H;rw [hy296];with_reducible exact H2_)|(have H2_:=(Option.bind_some _ _).symm.trans H;with_reducible exact H2_)|with_reducible exact H|(rw [hy296];exact H)|exact H
 have Ny296:=Aside0.mk hy296
 clear hy296
 replace H:=Option.bind_eq_some_iff.mp H
 obtain⟨⟨t299,t300⟩,A40,H⟩:=H
 replace H:((mat_Even.f k y283).bind fun t303=>((mat_Turned.f k y283).bind fun t306=>((mat_Add.f k y283 ([]:List (List Int))).bind fun bt309=>((outriggerref08_Same.f k t289 y283).bind fun t313=>(if t313=true then (if t290=true then (some false) else ((outriggerref08_Ints.f k t299 (([5,6]:List Int))).bind fun t317=>(if t317=true then (if t300=true then (some false) else (if (t303.length:Int)=2 then (if 0<(t303.length:Int) then (if 1<((rd_L1 t303 0).length:Int) then (if (rd (rd_L1 t303 0) 1)=3 then (if 1<(t303.length:Int) then (if 0<((rd_L1 t303 1).length:Int) then (if (rd (rd_L1 t303 1) 0)=3 then (if (t306.length:Int)=2 then (if 0<(t306.length:Int) then (if 1<((rd_L1 t306 0).length:Int) then (if (rd (rd_L1 t306 0) 1)=3 then (if bt309.2=true then ((mat_Sane.f k y283).bind fun t324=>(some t324)) else (some false)) else (some false)) else (none)) else (none)) else (some false)) else (some false)) else (none)) else (none)) else (some false)) else (none)) else (none)) else (some false))) else (some false)))) else (some false))))))=some r:=H
 have A4:=Aside0.mk A40
 clear A40
 replace H:=Option.bind_eq_some_iff.mp H
 obtain⟨t303,A50,H⟩:=H
 replace H:((mat_Turned.f k y283).bind fun t306=>((mat_Add.f k y283 ([]:List (List Int))).bind fun bt309=>((outriggerref08_Same.f k t289 y283).bind fun t313=>(if t313=true then (if t290=true then (some false) else ((outriggerref08_Ints.f k t299 (([5,6]:List Int))).bind fun t317=>(if t317=true then (if t300=true then (some false) else (if (t303.length:Int)=2 then (if 0<(t303.length:Int) then (if 1<((rd_L1 t303 0).length:Int) then (if (rd (rd_L1 t303 0) 1)=3 then (if 1<(t303.length:Int) then (if 0<((rd_L1 t303 1).length:Int) then (if (rd (rd_L1 t303 1) 0)=3 then (if (t306.length:Int)=2 then (if 0<(t306.length:Int) then (if 1<((rd_L1 t306 0).length:Int) then (if (rd (rd_L1 t306 0) 1)=3 then (if bt309.2=true then ((mat_Sane.f k y283).bind fun t324=>(some t324)) else (some false)) else (some false)) else (none)) else (none)) else (some false)) else (some false)) else (none)) else (none)) else (some false)) else (none)) else (none)) else (some false))) else (some false)))) else (some false)))))=some r:=H
 have A5:=Aside0.mk A50
 clear A50
 replace H:=Option.bind_eq_some_iff.mp H
 obtain⟨t306,A60,H⟩:=H
 replace H:((mat_Add.f k y283 ([]:List (List Int))).bind fun bt309=>((outriggerref08_Same.f k t289 y283).bind fun t313=>(if t313=true then (if t290=true then (some false) else ((outriggerref08_Ints.f k t299 (([5,6]:List Int))).bind fun t317=>(if t317=true then (if t300=true then (some false) else (if (t303.length:Int)=2 then (if 0<(t303.length:Int) then (if 1<((rd_L1 t303 0).length:Int) then (if (rd (rd_L1 t303 0) 1)=3 then (if 1<(t303.length:Int) then (if 0<((rd_L1 t303 1).length:Int) then (if (rd (rd_L1 t303 1) 0)=3 then (if (t306.length:Int)=2 then (if 0<(t306.length:Int) then (if 1<((rd_L1 t306 0).length:Int) then (if (rd (rd_L1 t306 0) 1)=3 then (if bt309.2=true then ((mat_Sane.f k y283).bind fun t324=>(some t324)) else (some false)) else (some false)) else (none)) else (none)) else (some false)) else (some false)) else (none)) else (none)) else (some false)) else (none)) else (none)) else (some false))) else (some false)))) else (some false))))=some r:=H
 have A6:=Aside0.mk A60
 clear A60
 replace H:=Option.bind_eq_some_iff.mp H
 obtain⟨⟨t309,t310⟩,A70,H⟩:=H
 replace H:((outriggerref08_Same.f k t289 y283).bind fun t313=>(if t313=true then (if t290=true then (some false) else ((outriggerref08_Ints.f k t299 (([5,6]:List Int))).bind fun t317=>(if t317=true then (if t300=true then (some false) else (if (t303.length:Int)=2 then (if 0<(t303.length:Int) then (if 1<((rd_L1 t303 0).length:Int) then (if (rd (rd_L1 t303 0) 1)=3 then (if 1<(t303.length:Int) then (if 0<((rd_L1 t303 1).length:Int) then (if (rd (rd_L1 t303 1) 0)=3 then (if (t306.length:Int)=2 then (if 0<(t306.length:Int) then (if 1<((rd_L1 t306 0).length:Int) then (if (rd (rd_L1 t306 0) 1)=3 then (if t310=true then ((mat_Sane.f k y283).bind fun t324=>(some t324)) else (some false)) else (some false)) else (none)) else (none)) else (some false)) else (some false)) else (none)) else (none)) else (some false)) else (none)) else (none)) else (some false))) else (some false)))) else (some false)))=some r:=H
 have A7:=Aside0.mk A70
 clear A70
 replace H:=Option.bind_eq_some_iff.mp H
 obtain⟨t313,A80,H⟩:=H
 replace H:(if t313=true then (if t290=true then (some false) else ((outriggerref08_Ints.f k t299 (([5,6]:List Int))).bind fun t317=>(if t317=true then (if t300=true then (some false) else (if (t303.length:Int)=2 then (if 0<(t303.length:Int) then (if 1<((rd_L1 t303 0).length:Int) then (if (rd (rd_L1 t303 0) 1)=3 then (if 1<(t303.length:Int) then (if 0<((rd_L1 t303 1).length:Int) then (if (rd (rd_L1 t303 1) 0)=3 then (if (t306.length:Int)=2 then (if 0<(t306.length:Int) then (if 1<((rd_L1 t306 0).length:Int) then (if (rd (rd_L1 t306 0) 1)=3 then (if t310=true then ((mat_Sane.f k y283).bind fun t324=>(some t324)) else (some false)) else (some false)) else (none)) else (none)) else (some false)) else (some false)) else (none)) else (none)) else (some false)) else (none)) else (none)) else (some false))) else (some false)))) else (some false))=some r:=H
 have A8:=Aside0.mk A80
 clear A80
 by_cases c9:t313=true
 ·subst c9
  have H1:(if t290=true then (some false) else ((outriggerref08_Ints.f k t299 (([5,6]:List Int))).bind fun t317=>(if t317=true then (if t300=true then (some false) else (if (t303.length:Int)=2 then (if 0<(t303.length:Int) then (if 1<((rd_L1 t303 0).length:Int) then (if (rd (rd_L1 t303 0) 1)=3 then (if 1<(t303.length:Int) then (if 0<((rd_L1 t303 1).length:Int) then (if (rd (rd_L1 t303 1) 0)=3 then (if (t306.length:Int)=2 then (if 0<(t306.length:Int) then (if 1<((rd_L1 t306 0).length:Int) then (if (rd (rd_L1 t306 0) 1)=3 then (if t310=true then ((mat_Sane.f k y283).bind fun t324=>(some t324)) else (some false)) else (some false)) else (none)) else (none)) else (some false)) else (some false)) else (none)) else (none)) else (some false)) else (none)) else (none)) else (some false))) else (some false))))=some r:=by rw [if_pos rfl] at H;exact H
  clear H
  have H:=H1
  clear H1
  by_cases c10:t290=true
  ·subst c10
   have H1:(some false)=some r:=by rw [if_pos rfl] at H;exact H
   clear H
   have H:=H1
   clear H1
   exact absurd ((Option.some.inj H).trans hr.out) (by decide)
  ·replace c10:=Bool.eq_false_iff.mpr c10
   subst c10
   have H1:((outriggerref08_Ints.f k t299 (([5,6]:List Int))).bind fun t317=>(if t317=true then (if t300=true then (some false) else (if (t303.length:Int)=2 then (if 0<(t303.length:Int) then (if 1<((rd_L1 t303 0).length:Int) then (if (rd (rd_L1 t303 0) 1)=3 then (if 1<(t303.length:Int) then (if 0<((rd_L1 t303 1).length:Int) then (if (rd (rd_L1 t303 1) 0)=3 then (if (t306.length:Int)=2 then (if 0<(t306.length:Int) then (if 1<((rd_L1 t306 0).length:Int) then (if (rd (rd_L1 t306 0) 1)=3 then (if t310=true then ((mat_Sane.f k y283).bind fun t324=>(some t324)) else (some false)) else (some false)) else (none)) else (none)) else (some false)) else (some false)) else (none)) else (none)) else (some false)) else (none)) else (none)) else (some false))) else (some false)))=some r:=by rw [if_neg (show ¬(false=true) by decide)] at H;exact H
   clear H
   have H:=H1
   clear H1
   obtain⟨y314,hy314⟩:∃ y_:List Int,y_=(([5,6]:List Int)):=⟨_,rfl⟩
   replace H:((outriggerref08_Ints.f k t299 y314).bind fun t317=>(if t317=true then (if t300=true then (some false) else (if (t303.length:Int)=2 then (if 0<(t303.length:Int) then (if 1<((rd_L1 t303 0).length:Int) then (if (rd (rd_L1 t303 0) 1)=3 then (if 1<(t303.length:Int) then (if 0<((rd_L1 t303 1).length:Int) then (if (rd (rd_L1 t303 1) 0)=3 then (if (t306.length:Int)=2 then (if 0<(t306.length:Int) then (if 1<((rd_L1 t306 0).length:Int) then (if (rd (rd_L1 t306 0) 1)=3 then (if t310=true then ((mat_Sane.f k y283).bind fun t324=>(some t324)) else (some false)) else (some false)) else (none)) else (none)) else (some false)) else (some false)) else (none)) else (none)) else (some false)) else (none)) else (none)) else (some false))) else (some false)))=some r:=by first|(rw [hy314];with_reducible exact H)|(have H2_:=(Option.bind_some _ _).symm.trans H;rw [hy314];with_reducible exact H2_)|(have H2_:=(Option.bind_some _ _).symm.trans H;with_reducible exact H2_)|with_reducible exact H|(rw [hy314];exact H)|exact H
   have Ny314:=Aside0.mk hy314
   clear hy314
   replace H:=Option.bind_eq_some_iff.mp H
   obtain⟨t317,A330,H⟩:=H
   replace H:(if t317=true then (if t300=true then (some false) else (if (t303.length:Int)=2 then (if 0<(t303.length:Int) then (if 1<((rd_L1 t303 0).length:Int) then (if (rd (rd_L1 t303 0) 1)=3 then (if 1<(t303.length:Int) then (if 0<((rd_L1 t303 1).length:Int) then (if (rd (rd_L1 t303 1) 0)=3 then (if (t306.length:Int)=2 then (if 0<(t306.length:Int) then (if 1<((rd_L1 t306 0).length:Int) then (if (rd (rd_L1 t306 0) 1)=3 then (if t310=true then ((mat_Sane.f k y283).bind fun t324=>(some t324)) else (some false)) else (some false)) else (none)) else (none)) else (some false)) else (some false)) else (none)) else (none)) else (some false)) else (none)) else (none)) else (some false))) else (some false))=some r:=H
   have A33:=Aside0.mk A330
   clear A330
   by_cases c34:t317=true
   ·subst c34
    have H1:(if t300=true then (some false) else (if (t303.length:Int)=2 then (if 0<(t303.length:Int) then (if 1<((rd_L1 t303 0).length:Int) then (if (rd (rd_L1 t303 0) 1)=3 then (if 1<(t303.length:Int) then (if 0<((rd_L1 t303 1).length:Int) then (if (rd (rd_L1 t303 1) 0)=3 then (if (t306.length:Int)=2 then (if 0<(t306.length:Int) then (if 1<((rd_L1 t306 0).length:Int) then (if (rd (rd_L1 t306 0) 1)=3 then (if t310=true then ((mat_Sane.f k y283).bind fun t324=>(some t324)) else (some false)) else (some false)) else (none)) else (none)) else (some false)) else (some false)) else (none)) else (none)) else (some false)) else (none)) else (none)) else (some false)))=some r:=by rw [if_pos rfl] at H;exact H
    clear H
    have H:=H1
    clear H1
    by_cases c35:t300=true
    ·subst c35
     have H1:(some false)=some r:=by rw [if_pos rfl] at H;exact H
     clear H
     have H:=H1
     clear H1
     exact absurd ((Option.some.inj H).trans hr.out) (by decide)
    ·replace c35:=Bool.eq_false_iff.mpr c35
     subst c35
     have H1:(if (t303.length:Int)=2 then (if 0<(t303.length:Int) then (if 1<((rd_L1 t303 0).length:Int) then (if (rd (rd_L1 t303 0) 1)=3 then (if 1<(t303.length:Int) then (if 0<((rd_L1 t303 1).length:Int) then (if (rd (rd_L1 t303 1) 0)=3 then (if (t306.length:Int)=2 then (if 0<(t306.length:Int) then (if 1<((rd_L1 t306 0).length:Int) then (if (rd (rd_L1 t306 0) 1)=3 then (if t310=true then ((mat_Sane.f k y283).bind fun t324=>(some t324)) else (some false)) else (some false)) else (none)) else (none)) else (some false)) else (some false)) else (none)) else (none)) else (some false)) else (none)) else (none)) else (some false))=some r:=by rw [if_neg (show ¬(false=true) by decide)] at H;exact H
     clear H
     have H:=H1
     clear H1
     by_cases c62:(t303.length:Int)=2
     ·rw [if_pos c62] at H
      have c62b0:((t303.length:Int) == 2)=true:=beq_iff_eq.mpr c62
      have c62b1:((t303.length:Int) != 2)=false:=bne_eq_false_iff_eq.mpr c62
      clear c62
      by_cases c63:0<(t303.length:Int)
      ·rw [if_pos c63] at H
       have c63b0:decide (0<(t303.length:Int))=true:=decide_eq_true c63
       have c63b1:decide (0<t303.length)=true:=decide_eq_true (by omega)
       clear c63
       by_cases c64:1<((rd_L1 t303 0).length:Int)
       ·rw [if_pos c64] at H
        have c64b0:decide (1<((rd_L1 t303 0).length:Int))=true:=decide_eq_true c64
        have c64b1:decide (1<(rd_L1 t303 0).length)=true:=decide_eq_true (by omega)
        clear c64
        by_cases c65:(rd (rd_L1 t303 0) 1)=3
        ·rw [if_pos c65] at H
         have c65b0:((rd (rd_L1 t303 0) 1) == 3)=true:=beq_iff_eq.mpr c65
         have c65b1:((rd (rd_L1 t303 0) 1) != 3)=false:=bne_eq_false_iff_eq.mpr c65
         clear c65
         by_cases c66:1<(t303.length:Int)
         ·rw [if_pos c66] at H
          have c66b0:decide (1<(t303.length:Int))=true:=decide_eq_true c66
          have c66b1:decide (1<t303.length)=true:=decide_eq_true (by omega)
          clear c66
          by_cases c67:0<((rd_L1 t303 1).length:Int)
          ·rw [if_pos c67] at H
           have c67b0:decide (0<((rd_L1 t303 1).length:Int))=true:=decide_eq_true c67
           have c67b1:decide (0<(rd_L1 t303 1).length)=true:=decide_eq_true (by omega)
           clear c67
           by_cases c68:(rd (rd_L1 t303 1) 0)=3
           ·rw [if_pos c68] at H
            have c68b0:((rd (rd_L1 t303 1) 0) == 3)=true:=beq_iff_eq.mpr c68
            have c68b1:((rd (rd_L1 t303 1) 0) != 3)=false:=bne_eq_false_iff_eq.mpr c68
            clear c68
            by_cases c69:(t306.length:Int)=2
            ·rw [if_pos c69] at H
             have c69b0:((t306.length:Int) == 2)=true:=beq_iff_eq.mpr c69
             have c69b1:((t306.length:Int) != 2)=false:=bne_eq_false_iff_eq.mpr c69
             clear c69
             by_cases c70:0<(t306.length:Int)
             ·rw [if_pos c70] at H
              have c70b0:decide (0<(t306.length:Int))=true:=decide_eq_true c70
              have c70b1:decide (0<t306.length)=true:=decide_eq_true (by omega)
              clear c70
              by_cases c71:1<((rd_L1 t306 0).length:Int)
              ·rw [if_pos c71] at H
               have c71b0:decide (1<((rd_L1 t306 0).length:Int))=true:=decide_eq_true c71
               have c71b1:decide (1<(rd_L1 t306 0).length)=true:=decide_eq_true (by omega)
               clear c71
               by_cases c72:(rd (rd_L1 t306 0) 1)=3
               ·rw [if_pos c72] at H
                have c72b0:((rd (rd_L1 t306 0) 1) == 3)=true:=beq_iff_eq.mpr c72
                have c72b1:((rd (rd_L1 t306 0) 1) != 3)=false:=bne_eq_false_iff_eq.mpr c72
                clear c72
                by_cases c73:t310=true
                ·subst c73
                 have H1:((mat_Sane.f k y283).bind fun t324=>(some t324))=some r:=by rw [if_pos rfl] at H;exact H
                 clear H
                 have H:=H1
                 clear H1
                 replace H:=Option.bind_eq_some_iff.mp H
                 obtain⟨t324,A740,H⟩:=H
                 replace H:(some t324)=some r:=H
                 have A74:=Aside0.mk A740
                 clear A740
                 clear hr
                 obtain rfl:=Option.some.inj H
                 go_enter Try.func8,Try.ntmps8
                 go_wp2_with (first|((with_reducible refine gate_dst (N:=10) rfl ?_);(try (refine gate_guard (by rfl) ?_;dsimp only));refine Kd.R_lit (Kd.int .i64) _ 3 ?hg (N:=10) ?hd (xs:=([1,2]:List Int)) (inner:=[.int .i64 1,.int .i64 2]) (ok:=fun _=>True) (okp:=fun _=>True) ?hr ?hp (fun _ hk=>hk) trivial (Below.refl _ _) (Nat.le_refl _) (by simp) ?_;(case hd=>rfl);(case hg=>rfl);(case hr=>first|(go_simp;done)|(go_simp;rfl));(case hp=>exact(Reps.one (show Kd.M (Kd.int .i64) _ _ _ 1 [.int .i64 1] from rfl) (Reps.one (show Kd.M (Kd.int .i64) _ _ _ 2 [.int .i64 2] from rfl) (Reps.none _ _))));intro v278 w75 ho76 hb hg_ hnew_;clear hg_ hnew_;(first|rw [←Ny277.out] at ho76|(simp only [Int.reduceToNat] at ho76;rw [←Ny277.out] at ho76));have n0_:=Aside0.mk (Kd.R_lower ho76 (below_size (by first|with_reducible exact HB.out|exact bl HB)));have n1_:=Aside0.mk (below_step (by first|with_reducible exact HB.out|exact bl HB) hb);clear HB;have HO279:=n0_;have HB:=n1_;clear n0_ n1_;clear hb ho76)|((with_reducible refine gate_dst (N:=11) rfl ?_);(try (refine gate_guard (by rfl) ?_;dsimp only));refine Kd.R_lit (Kd.int .i64) _ 3 ?hg (N:=11) ?hd (xs:=([3,4]:List Int)) (inner:=[.int .i64 3,.int .i64 4]) (ok:=fun _=>True) (okp:=fun _=>True) ?hr ?hp (fun _ hk=>hk) trivial (Below.refl _ _) (Nat.le_refl _) (by simp) ?_;(case hd=>rfl);(case hg=>rfl);(case hr=>first|(go_simp;done)|(go_simp;rfl));(case hp=>exact(Reps.one (show Kd.M (Kd.int .i64) _ _ _ 3 [.int .i64 3] from rfl) (Reps.one (show Kd.M (Kd.int .i64) _ _ _ 4 [.int .i64 4] from rfl) (Reps.none _ _))));intro v281 w77 ho78 hb hg_ hnew_;clear hg_ hnew_;(first|rw [←Ny280.out] at ho78|(simp only [Int.reduceToNat] at ho78;rw [←Ny280.out] at ho78));have n0_:=Aside0.mk (Kd.R_elder' (by first|exact HO279.out|exact kR HO279.out) (Kd.R_base ho78) hb);have n1_:=Aside0.mk (Kd.R_lower (Kd.R_new' ho78 (Kd.R_lt (by first|exact HO279.out|exact kR HO279.out))) (below_size (by first|with_reducible exact HB.out|exact bl HB)));have n2_:=Aside0.mk (below_step (by first|with_reducible exact HB.out|exact bl HB) hb);clear HO279;clear HB;have HO279:=n0_;have HO282:=n1_;have HB:=n2_;clear n0_ n1_ n2_;clear hb ho78;obtain⟨Ao79,co79,eo79⟩:=Kd.R_slice HO279.out;subst eo79;obtain⟨Ao80,co80,eo80⟩:=Kd.R_slice HO282.out;subst eo80)|((with_reducible refine gate_dst (N:=12) rfl ?_);(try (refine gate_guard (by rfl) ?_;dsimp only));refine Kd.N_lit (Kd.slice 3 (Kd.int .i64)) _ 23 ?hg (N':=12) ?hd (xs:=([y277,y280]:List (List Int))) (inner:=[.slice Ao79 y277.length co79,.slice Ao80 y280.length co80]) (ok:=(fun _=>True)) (okp:=(fun _=>True)) ?hr ?hp (fun _ hk=>hk) ((show ∀ k_,w77.heap.size≤k_→(fun _=>True) k_ from fun k_ hk=>trivial) _ (Nat.le_refl _)) (Below.refl _ _) (Nat.le_refl _) (by simp) ?_;(case hd=>rfl);(case hg=>rfl);(case hr=>first|(go_simp;done)|(go_simp;rfl));(case hp=>exact(Reps.one (show Kd.FK (Kd.slice 3 (Kd.int .i64)) _ _ y277 [.slice Ao79 y277.length co79] from (Kd.FK_slice_mk (Kd.R_reads' (Kd.R_mono (ok':=(fun _=>True)) (HO279.out) (fun k_ hk=>trivial))).2.1 (Kd.R_F (Kd.R_mono (ok':=(fun _=>True)) (HO279.out) (fun k_ hk=>trivial))))) (Reps.one (show Kd.FK (Kd.slice 3 (Kd.int .i64)) _ _ y280 [.slice Ao80 y280.length co80] from (Kd.FK_slice_mk (Kd.R_reads' (Kd.R_mono (ok':=(fun _=>True)) (HO282.out) (fun k_ hk=>trivial))).2.1 (Kd.R_F (Kd.R_mono (ok':=(fun _=>True)) (HO282.out) (fun k_ hk=>trivial))))) (Reps.none _ _))));intro v284 w81 ho82 hb hg_ hnew_;clear hg_ hnew_;(first|rw [←Ny283.out] at ho82|(simp only [Int.reduceToNat] at ho82;rw [←Ny283.out] at ho82));have n0_:=Aside0.mk (Kd.N_lower ho82 (below_size (by first|with_reducible exact HB.out|exact bl HB)));have n1_:=Aside0.mk (below_step (by first|with_reducible exact HB.out|exact bl HB) hb);clear HB;clear HO279;clear HO282;have HO285:=n0_;have HB:=n1_;clear n0_ n1_;clear hb ho82)|((with_reducible refine gate_callee (f:=20) rfl ?_);refine goesL_ (some 14) rfl rfl Try.func20 (by kernel_rfl) rfl #[.int .i64 2] rfl (by exact mA _ _) ?_;(with_reducible refine(mat_One.calls k 2 t286 _ A1.out).mono ?_);rintro e w83 ⟨v287,rfl,ho0,hb⟩;refine⟨_,rfl,?_⟩;have n0_:=Aside0.mk (Kd.N_elder' (by first|exact HO285.out|exact kN HO285.out) (by first|exact Kd.N_base ho0|exact Kd.N_base (Kd.S_N ho0)) hb);have n1_:=Aside0.mk (Kd.N_lower (Kd.N_mono (ok':=fun k_=>some k_≠(v284:Value).ownBlock) (Kd.S_N (Kd.S_bound ho0)) (fun k_ hk_=>(Kd.fresh' (Kd.N_lt (by first|exact HO285.out|exact kN HO285.out)) k_ hk_.2.1))) (below_size (by first|with_reducible exact HB.out|exact bl HB)));have n2_:=Aside0.mk (below_step (by first|with_reducible exact HB.out|exact bl HB) hb);clear HO285;clear HB;have HO285:=n0_;have HO288:=n1_;have HB:=n2_;clear n0_ n1_ n2_;(try clear hb);(try clear hb2);(try clear hk);(try clear hi);(try clear ho0);obtain⟨Ao84,co84,eo84⟩:=Kd.N_slice HO288.out;subst eo84;obtain⟨Ao85,co85,eo85⟩:=Kd.N_slice HO285.out;subst eo85)|((with_reducible refine gate_callee (f:=12) rfl ?_);refine goesL_ (some 16) rfl rfl Try.func12 (by kernel_rfl) rfl #[.slice Ao84 t286.length co84,.slice Ao85 y283.length co85] rfl (by exact mA _ _) ?_;(with_reducible refine(mat_Mul.calls k _ _ t286 _ _ y283 t289 false _ ?side1 ?side2 ?side3 ?side4 A2.out).mono ?_);(case side1=>first|exact(Kd.N_reads' HO288.out).2.2|exact kC (Kd.N_reads' HO288.out).2.2);(case side2=>exact(Kd.N_reads' HO288.out).2.1);(case side3=>first|exact(Kd.N_reads' HO285.out).2.2|exact kC (Kd.N_reads' HO285.out).2.2);(case side4=>exact(Kd.N_reads' HO285.out).2.1);rintro e w86 ⟨v291,rfl,ho0,hb⟩;refine⟨_,rfl,?_⟩;have n0_:=Aside0.mk (Kd.N_elder' (by first|exact HO285.out|exact kN HO285.out) (by first|exact Kd.N_base ho0|exact Kd.N_base (Kd.S_N ho0)) hb);have n1_:=Aside0.mk (Kd.N_elder' (by first|exact HO288.out|exact kN HO288.out) (by first|exact Kd.N_base ho0|exact Kd.N_base (Kd.S_N ho0)) hb);have n2_:=Aside0.mk (Kd.N_lower (Kd.N_mono (ok':=fun k_=>some k_≠(.slice Ao85 y283.length co85:Value).ownBlock∧some k_≠(.slice Ao84 t286.length co84:Value).ownBlock) (Kd.S_N (Kd.S_bound ho0)) (fun k_ hk_=>⟨(Kd.fresh' (Kd.N_lt (by first|exact HO285.out|exact kN HO285.out)) k_ hk_.2.1),(Kd.fresh' (Kd.N_lt (by first|exact HO288.out|exact kN HO288.out)) k_ hk_.2.1)⟩)) (below_size (by first|with_reducible exact HB.out|exact bl HB)));have n3_:=Aside0.mk (below_step (by first|with_reducible exact HB.out|exact bl HB) hb);clear HO285;clear HO288;clear HB;have HO285:=n0_;have HO288:=n1_;have HO292:=n2_;have HB:=n3_;clear n0_ n1_ n2_ n3_;(try clear hb);(try clear hb2);(try clear hk);(try clear hi);(try clear ho0))|((with_reducible refine gate_callee (f:=20) rfl ?_);refine goesL_ (some 20) rfl rfl Try.func20 (by kernel_rfl) rfl #[.int .i64 2] rfl (by exact mA _ _) ?_;(with_reducible refine(mat_One.calls k 2 t293 _ A3.out).mono ?_);rintro e w87 ⟨v294,rfl,ho0,hb⟩;refine⟨_,rfl,?_⟩;have n0_:=Aside0.mk (Kd.N_elder' (by first|exact HO285.out|exact kN HO285.out) (by first|exact Kd.N_base ho0|exact Kd.N_base (Kd.S_N ho0)) hb);have n1_:=Aside0.mk (Kd.N_elder' (by first|exact HO288.out|exact kN HO288.out) (by first|exact Kd.N_base ho0|exact Kd.N_base (Kd.S_N ho0)) hb);have n2_:=Aside0.mk (Kd.N_elder' (by first|exact HO292.out|exact kN HO292.out) (by first|exact Kd.N_base ho0|exact Kd.N_base (Kd.S_N ho0)) hb);have n3_:=Aside0.mk (Kd.N_lower (Kd.N_mono (ok':=fun k_=>some k_≠(.slice Ao85 y283.length co85:Value).ownBlock∧some k_≠(.slice Ao84 t286.length co84:Value).ownBlock∧some k_≠(v291:Value).ownBlock) (Kd.S_N (Kd.S_bound ho0)) (fun k_ hk_=>⟨(Kd.fresh' (Kd.N_lt (by first|exact HO285.out|exact kN HO285.out)) k_ hk_.2.1),(Kd.fresh' (Kd.N_lt (by first|exact HO288.out|exact kN HO288.out)) k_ hk_.2.1),(Kd.fresh' (Kd.N_lt (by first|exact HO292.out|exact kN HO292.out)) k_ hk_.2.1)⟩)) (below_size (by first|with_reducible exact HB.out|exact bl HB)));have n4_:=Aside0.mk (below_step (by first|with_reducible exact HB.out|exact bl HB) hb);clear HO285;clear HO288;clear HO292;clear HB;have HO285:=n0_;have HO288:=n1_;have HO292:=n2_;have HO295:=n3_;have HB:=n4_;clear n0_ n1_ n2_ n3_ n4_;(try clear hb);(try clear hb2);(try clear hk);(try clear hi);(try clear ho0))|((with_reducible refine gate_dst (N:=21) rfl ?_);(try (refine gate_guard (by rfl) ?_;dsimp only));refine Kd.R_lit (Kd.int .i64) _ 3 ?hg (N:=21) ?hd (xs:=([5,6]:List Int)) (inner:=[.int .i64 5,.int .i64 6]) (ok:=fun _=>True) (okp:=fun _=>True) ?hr ?hp (fun _ hk=>hk) trivial (Below.refl _ _) (Nat.le_refl _) (by simp) ?_;(case hd=>rfl);(case hg=>rfl);(case hr=>first|(go_simp;done)|(go_simp;rfl));(case hp=>exact(Reps.one (show Kd.M (Kd.int .i64) _ _ _ 5 [.int .i64 5] from rfl) (Reps.one (show Kd.M (Kd.int .i64) _ _ _ 6 [.int .i64 6] from rfl) (Reps.none _ _))));intro v297 w88 ho89 hb hg_ hnew_;clear hg_ hnew_;(first|rw [←Ny296.out] at ho89|(simp only [Int.reduceToNat] at ho89;rw [←Ny296.out] at ho89));have n0_:=Aside0.mk (Kd.N_elder' (by first|exact HO285.out|exact kN HO285.out) (Kd.R_base ho89) hb);have n1_:=Aside0.mk (Kd.N_elder' (by first|exact HO288.out|exact kN HO288.out) (Kd.R_base ho89) hb);have n2_:=Aside0.mk (Kd.N_elder' (by first|exact HO292.out|exact kN HO292.out) (Kd.R_base ho89) hb);have n3_:=Aside0.mk (Kd.N_elder' (by first|exact HO295.out|exact kN HO295.out) (Kd.R_base ho89) hb);have n4_:=Aside0.mk (Kd.R_lower ho89 (below_size (by first|with_reducible exact HB.out|exact bl HB)));have n5_:=Aside0.mk (below_step (by first|with_reducible exact HB.out|exact bl HB) hb);clear HO285;clear HO288;clear HO292;clear HO295;clear HB;have HO285:=n0_;have HO288:=n1_;have HO292:=n2_;have HO295:=n3_;have HO298:=n4_;have HB:=n5_;clear n0_ n1_ n2_ n3_ n4_ n5_;clear hb ho89;obtain⟨Ao90,co90,eo90⟩:=Kd.N_slice HO295.out;subst eo90;obtain⟨Ao91,co91,eo91⟩:=Kd.R_slice HO298.out;subst eo91)|((with_reducible refine gate_callee (f:=14) rfl ?_);refine goesL_ (some 22) rfl rfl Try.func14 (by kernel_rfl) rfl #[.slice Ao90 t293.length co90,.slice Ao91 y296.length co91] rfl (by exact mA _ _) ?_;(with_reducible refine(mat_Apply.calls k _ _ t293 _ _ y296 t299 false _ ?side1 ?side2 ?side3 ?side4 A4.out).mono ?_);(case side1=>first|exact(Kd.N_reads' HO295.out).2.2|exact kC (Kd.N_reads' HO295.out).2.2);(case side2=>exact(Kd.N_reads' HO295.out).2.1);(case side3=>first|exact(Kd.R_reads' HO298.out).2.2|exact kC (Kd.R_reads' HO298.out).2.2);(case side4=>exact(Kd.R_reads' HO298.out).2.1);rintro e w92 ⟨v301,rfl,ho0,hb⟩;refine⟨_,rfl,?_⟩;have n0_:=Aside0.mk (Kd.N_elder' (by first|exact HO285.out|exact kN HO285.out) (Kd.R_base ho0) hb);have n1_:=Aside0.mk (Kd.N_elder' (by first|exact HO288.out|exact kN HO288.out) (Kd.R_base ho0) hb);have n2_:=Aside0.mk (Kd.N_elder' (by first|exact HO292.out|exact kN HO292.out) (Kd.R_base ho0) hb);have n3_:=Aside0.mk (Kd.N_elder' (by first|exact HO295.out|exact kN HO295.out) (Kd.R_base ho0) hb);have n4_:=Aside0.mk (Kd.R_elder' (by first|exact HO298.out|exact kR HO298.out) (Kd.R_base ho0) hb);have n5_:=Aside0.mk (Kd.R_lower (Kd.R_new' ho0 (Kd.R_lt (by first|exact HO298.out|exact kR HO298.out))) (below_size (by first|with_reducible exact HB.out|exact bl HB)));have n6_:=Aside0.mk (below_step (by first|with_reducible exact HB.out|exact bl HB) hb);clear HO285;clear HO288;clear HO292;clear HO295;clear HO298;clear HB;have HO285:=n0_;have HO288:=n1_;have HO292:=n2_;have HO295:=n3_;have HO298:=n4_;have HO302:=n5_;have HB:=n6_;clear n0_ n1_ n2_ n3_ n4_ n5_ n6_;(try clear hb);(try clear hb2);(try clear hk);(try clear hi);(try clear ho0))|((with_reducible refine gate_callee (f:=24) rfl ?_);refine goesL_ (some 26) rfl rfl Try.func24 (by kernel_rfl) rfl #[.slice Ao85 y283.length co85] rfl (by exact mA _ _) ?_;(with_reducible refine(mat_Even.calls k _ _ y283 t303 _ ?side1 ?side2 A5.out).mono ?_);(case side1=>first|exact(Kd.N_reads' HO285.out).2.2|exact kC (Kd.N_reads' HO285.out).2.2);(case side2=>exact(Kd.N_reads' HO285.out).2.1);rintro e w93 ⟨v304,rfl,ho0,hb⟩;refine⟨_,rfl,?_⟩;have n0_:=Aside0.mk (Kd.N_elder' (by first|exact HO285.out|exact kN HO285.out) (by first|exact Kd.N_base ho0|exact Kd.N_base (Kd.S_N ho0)) hb);have n1_:=Aside0.mk (Kd.N_elder' (by first|exact HO288.out|exact kN HO288.out) (by first|exact Kd.N_base ho0|exact Kd.N_base (Kd.S_N ho0)) hb);have n2_:=Aside0.mk (Kd.N_elder' (by first|exact HO292.out|exact kN HO292.out) (by first|exact Kd.N_base ho0|exact Kd.N_base (Kd.S_N ho0)) hb);have n3_:=Aside0.mk (Kd.N_elder' (by first|exact HO295.out|exact kN HO295.out) (by first|exact Kd.N_base ho0|exact Kd.N_base (Kd.S_N ho0)) hb);have n4_:=Aside0.mk (Kd.R_below (by first|exact HO298.out|exact kR HO298.out) hb);have n5_:=Aside0.mk (Kd.R_below (by first|exact HO302.out|exact kR HO302.out) hb);have n6_:=Aside0.mk (Kd.N_lower (Kd.N_mono (ok':=fun k_=>some k_≠(.slice Ao85 y283.length co85:Value).ownBlock∧some k_≠(.slice Ao84 t286.length co84:Value).ownBlock∧some k_≠(v291:Value).ownBlock∧some k_≠(.slice Ao90 t293.length co90:Value).ownBlock∧some k_≠(.slice Ao91 y296.length co91:Value).ownBlock∧some k_≠(v301:Value).ownBlock) (Kd.S_N (Kd.S_bound ho0)) (fun k_ hk_=>⟨(Kd.fresh' (Kd.N_lt (by first|exact HO285.out|exact kN HO285.out)) k_ hk_.2.1),(Kd.fresh' (Kd.N_lt (by first|exact HO288.out|exact kN HO288.out)) k_ hk_.2.1),(Kd.fresh' (Kd.N_lt (by first|exact HO292.out|exact kN HO292.out)) k_ hk_.2.1),(Kd.fresh' (Kd.N_lt (by first|exact HO295.out|exact kN HO295.out)) k_ hk_.2.1),(Kd.fresh' (Kd.R_lt (by first|exact HO298.out|exact kR HO298.out)) k_ hk_.2.1),(Kd.fresh' (Kd.R_lt (by first|exact HO302.out|exact kR HO302.out)) k_ hk_.2.1)⟩)) (below_size (by first|with_reducible exact HB.out|exact bl HB)));have n7_:=Aside0.mk (below_step (by first|with_reducible exact HB.out|exact bl HB) hb);clear HO285;clear HO288;clear HO292;clear HO295;clear HO298;clear HO302;clear HB;have HO285:=n0_;have HO288:=n1_;have HO292:=n2_;have HO295:=n3_;have HO298:=n4_;have HO302:=n5_;have HO305:=n6_;have HB:=n7_;clear n0_ n1_ n2_ n3_ n4_ n5_ n6_ n7_;(try clear hb);(try clear hb2);(try clear hk);(try clear hi);(try clear ho0))|((with_reducible refine gate_callee (f:=22) rfl ?_);refine goesL_ (some 28) rfl rfl Try.func22 (by kernel_rfl) rfl #[.slice Ao85 y283.length co85] rfl (by exact mA _ _) ?_;(with_reducible refine(mat_Turned.calls k _ _ y283 t306 _ ?side1 ?side2 A6.out).mono ?_);(case side1=>first|exact(Kd.N_reads' HO285.out).2.2|exact kC (Kd.N_reads' HO285.out).2.2);(case side2=>exact(Kd.N_reads' HO285.out).2.1);rintro e w94 ⟨v307,rfl,ho0,hb⟩;refine⟨_,rfl,?_⟩;have n0_:=Aside0.mk (Kd.N_elder' (by first|exact HO285.out|exact kN HO285.out) (by first|exact Kd.N_base ho0|exact Kd.N_base (Kd.S_N ho0)) hb);have n1_:=Aside0.mk (Kd.N_elder' (by first|exact HO288.out|exact kN HO288.out) (by first|exact Kd.N_base ho0|exact Kd.N_base (Kd.S_N ho0)) hb);have n2_:=Aside0.mk (Kd.N_elder' (by first|exact HO292.out|exact kN HO292.out) (by first|exact Kd.N_base ho0|exact Kd.N_base (Kd.S_N ho0)) hb);have n3_:=Aside0.mk (Kd.N_elder' (by first|exact HO295.out|exact kN HO295.out) (by first|exact Kd.N_base ho0|exact Kd.N_base (Kd.S_N ho0)) hb);have n4_:=Aside0.mk (Kd.R_below (by first|exact HO298.out|exact kR HO298.out) hb);have n5_:=Aside0.mk (Kd.R_below (by first|exact HO302.out|exact kR HO302.out) hb);have n6_:=Aside0.mk (Kd.N_elder' (by first|exact HO305.out|exact kN HO305.out) (by first|exact Kd.N_base ho0|exact Kd.N_base (Kd.S_N ho0)) hb);have n7_:=Aside0.mk (Kd.N_lower (Kd.N_mono (ok':=fun k_=>some k_≠(.slice Ao85 y283.length co85:Value).ownBlock∧some k_≠(.slice Ao84 t286.length co84:Value).ownBlock∧some k_≠(v291:Value).ownBlock∧some k_≠(.slice Ao90 t293.length co90:Value).ownBlock∧some k_≠(.slice Ao91 y296.length co91:Value).ownBlock∧some k_≠(v301:Value).ownBlock∧some k_≠(v304:Value).ownBlock) (Kd.S_N (Kd.S_bound ho0)) (fun k_ hk_=>⟨(Kd.fresh' (Kd.N_lt (by first|exact HO285.out|exact kN HO285.out)) k_ hk_.2.1),(Kd.fresh' (Kd.N_lt (by first|exact HO288.out|exact kN HO288.out)) k_ hk_.2.1),(Kd.fresh' (Kd.N_lt (by first|exact HO292.out|exact kN HO292.out)) k_ hk_.2.1),(Kd.fresh' (Kd.N_lt (by first|exact HO295.out|exact kN HO295.out)) k_ hk_.2.1),(Kd.fresh' (Kd.R_lt (by first|exact HO298.out|exact kR HO298.out)) k_ hk_.2.1),(Kd.fresh' (Kd.R_lt (by first|exact HO302.out|exact kR HO302.out)) k_ hk_.2.1),(Kd.fresh' (Kd.N_lt (by first|exact HO305.out|exact kN HO305.out)) k_ hk_.2.1)⟩)) (below_size (by first|with_reducible exact HB.out|exact bl HB)));have n8_:=Aside0.mk (below_step (by first|with_reducible exact HB.out|exact bl HB) hb);clear HO285;clear HO288;clear HO292;clear HO295;clear HO298;clear HO302;clear HO305;clear HB;have HO285:=n0_;have HO288:=n1_;have HO292:=n2_;have HO295:=n3_;have HO298:=n4_;have HO302:=n5_;have HO305:=n6_;have HO308:=n7_;have HB:=n8_;clear n0_ n1_ n2_ n3_ n4_ n5_ n6_ n7_ n8_;(try clear hb);(try clear hb2);(try clear hk);(try clear hi);(try clear ho0))|((with_reducible refine gate_callee (f:=10) rfl ?_);refine goesL_ (some 31) rfl rfl Try.func10 (by kernel_rfl) rfl #[.slice Ao85 y283.length co85,.slice none 0 0] rfl (by exact mA _ _) ?_;(refine(mat_Add.calls k _ _ y283 _ _ ([]:List (List Int)) t309 true _ ?side1 ?side2 ?side3 ?side4 A7.out).mono ?_);(case side1=>first|exact(Kd.N_reads' HO285.out).2.2|exact kC (Kd.N_reads' HO285.out).2.2);(case side2=>exact(Kd.N_reads' HO285.out).2.1);(case side3=>exact Kd.C_nil _ _);(case side4=>exact Nat.le_refl _);rintro e w95 ⟨v311,rfl,ho0,hb⟩;refine⟨_,rfl,?_⟩;have n0_:=Aside0.mk (Kd.N_elder' (by first|exact HO285.out|exact kN HO285.out) (by first|exact Kd.N_base ho0|exact Kd.N_base (Kd.S_N ho0)) hb);have n1_:=Aside0.mk (Kd.N_elder' (by first|exact HO288.out|exact kN HO288.out) (by first|exact Kd.N_base ho0|exact Kd.N_base (Kd.S_N ho0)) hb);have n2_:=Aside0.mk (Kd.N_elder' (by first|exact HO292.out|exact kN HO292.out) (by first|exact Kd.N_base ho0|exact Kd.N_base (Kd.S_N ho0)) hb);have n3_:=Aside0.mk (Kd.N_elder' (by first|exact HO295.out|exact kN HO295.out) (by first|exact Kd.N_base ho0|exact Kd.N_base (Kd.S_N ho0)) hb);have n4_:=Aside0.mk (Kd.R_below (by first|exact HO298.out|exact kR HO298.out) hb);have n5_:=Aside0.mk (Kd.R_below (by first|exact HO302.out|exact kR HO302.out) hb);have n6_:=Aside0.mk (Kd.N_elder' (by first|exact HO305.out|exact kN HO305.out) (by first|exact Kd.N_base ho0|exact Kd.N_base (Kd.S_N ho0)) hb);have n7_:=Aside0.mk (Kd.N_elder' (by first|exact HO308.out|exact kN HO308.out) (by first|exact Kd.N_base ho0|exact Kd.N_base (Kd.S_N ho0)) hb);have n8_:=Aside0.mk (Kd.N_lower (Kd.N_mono (ok':=fun k_=>some k_≠(.slice Ao85 y283.length co85:Value).ownBlock∧some k_≠(.slice Ao84 t286.length co84:Value).ownBlock∧some k_≠(v291:Value).ownBlock∧some k_≠(.slice Ao90 t293.length co90:Value).ownBlock∧some k_≠(.slice Ao91 y296.length co91:Value).ownBlock∧some k_≠(v301:Value).ownBlock∧some k_≠(v304:Value).ownBlock∧some k_≠(v307:Value).ownBlock) (Kd.S_N (Kd.S_bound ho0)) (fun k_ hk_=>⟨(Kd.fresh' (Kd.N_lt (by first|exact HO285.out|exact kN HO285.out)) k_ hk_.2.1),(Kd.fresh' (Kd.N_lt (by first|exact HO288.out|exact kN HO288.out)) k_ hk_.2.1),(Kd.fresh' (Kd.N_lt (by first|exact HO292.out|exact kN HO292.out)) k_ hk_.2.1),(Kd.fresh' (Kd.N_lt (by first|exact HO295.out|exact kN HO295.out)) k_ hk_.2.1),(Kd.fresh' (Kd.R_lt (by first|exact HO298.out|exact kR HO298.out)) k_ hk_.2.1),(Kd.fresh' (Kd.R_lt (by first|exact HO302.out|exact kR HO302.out)) k_ hk_.2.1),(Kd.fresh' (Kd.N_lt (by first|exact HO305.out|exact kN HO305.out)) k_ hk_.2.1),(Kd.fresh' (Kd.N_lt (by first|exact HO308.out|exact kN HO308.out)) k_ hk_.2.1)⟩)) (below_size (by first|with_reducible exact HB.out|exact bl HB)));have n9_:=Aside0.mk (below_step (by first|with_reducible exact HB.out|exact bl HB) hb);clear HO285;clear HO288;clear HO292;clear HO295;clear HO298;clear HO302;clear HO305;clear HO308;clear HB;have HO285:=n0_;have HO288:=n1_;have HO292:=n2_;have HO295:=n3_;have HO298:=n4_;have HO302:=n5_;have HO305:=n6_;have HO308:=n7_;have HO312:=n8_;have HB:=n9_;clear n0_ n1_ n2_ n3_ n4_ n5_ n6_ n7_ n8_ n9_;(try clear hb);(try clear hb2);(try clear hk);(try clear hi);(try clear ho0);obtain⟨Ao96,co96,eo96⟩:=Kd.N_slice HO292.out;subst eo96)|((with_reducible refine gate_callee (f:=16) rfl ?_);refine goesL_ (some 36) rfl rfl Try.func16 (by kernel_rfl) rfl #[.slice Ao96 t289.length co96,.slice Ao85 y283.length co85] rfl (by exact mA _ _) ?_;(with_reducible refine(outriggerref08_Same.calls k _ _ t289 _ _ y283 true _ ?side1 ?side2 ?side3 ?side4 A8.out).mono ?_);(case side1=>first|exact(Kd.N_reads' HO292.out).2.2|exact kC (Kd.N_reads' HO292.out).2.2);(case side2=>exact(Kd.N_reads' HO292.out).2.1);(case side3=>first|exact(Kd.N_reads' HO285.out).2.2|exact kC (Kd.N_reads' HO285.out).2.2);(case side4=>exact(Kd.N_reads' HO285.out).2.1);rintro e w' ⟨rfl,⟨nd,rfl⟩⟩;refine⟨_,rfl,?_⟩)|((with_reducible refine gate_dst (N:=43) rfl ?_);(try (refine gate_guard (by rfl) ?_;dsimp only));refine Kd.R_lit (Kd.int .i64) _ 3 ?hg (N:=43) ?hd (xs:=([5,6]:List Int)) (inner:=[.int .i64 5,.int .i64 6]) (ok:=fun _=>True) (okp:=fun _=>True) ?hr ?hp (fun _ hk=>hk) trivial (Below.refl _ _) (Nat.le_refl _) (by simp) ?_;(case hd=>rfl);(case hg=>rfl);(case hr=>first|(go_simp;done)|(go_simp;rfl));(case hp=>exact(Reps.one (show Kd.M (Kd.int .i64) _ _ _ 5 [.int .i64 5] from rfl) (Reps.one (show Kd.M (Kd.int .i64) _ _ _ 6 [.int .i64 6] from rfl) (Reps.none _ _))));intro v315 w97 ho98 hb hg_ hnew_;clear hg_ hnew_;(first|rw [←Ny314.out] at ho98|(simp only [Int.reduceToNat] at ho98;rw [←Ny314.out] at ho98));have n0_:=Aside0.mk (Kd.N_elder' (by first|exact HO285.out|exact kN HO285.out) (Kd.R_base ho98) hb);have n1_:=Aside0.mk (Kd.N_elder' (by first|exact HO288.out|exact kN HO288.out) (Kd.R_base ho98) hb);have n2_:=Aside0.mk (Kd.N_elder' (by first|exact HO292.out|exact kN HO292.out) (Kd.R_base ho98) hb);have n3_:=Aside0.mk (Kd.N_elder' (by first|exact HO295.out|exact kN HO295.out) (Kd.R_base ho98) hb);have n4_:=Aside0.mk (Kd.R_elder' (by first|exact HO298.out|exact kR HO298.out) (Kd.R_base ho98) hb);have n5_:=Aside0.mk (Kd.R_elder' (by first|exact HO302.out|exact kR HO302.out) (Kd.R_base ho98) hb);have n6_:=Aside0.mk (Kd.N_elder' (by first|exact HO305.out|exact kN HO305.out) (Kd.R_base ho98) hb);have n7_:=Aside0.mk (Kd.N_elder' (by first|exact HO308.out|exact kN HO308.out) (Kd.R_base ho98) hb);have n8_:=Aside0.mk (Kd.N_elder' (by first|exact HO312.out|exact kN HO312.out) (Kd.R_base ho98) hb);have n9_:=Aside0.mk (Kd.R_lower (Kd.R_new' (Kd.R_new' ho98 (Kd.R_lt (by first|exact HO298.out|exact kR HO298.out))) (Kd.R_lt (by first|exact HO302.out|exact kR HO302.out))) (below_size (by first|with_reducible exact HB.out|exact bl HB)));have n10_:=Aside0.mk (below_step (by first|with_reducible exact HB.out|exact bl HB) hb);clear HO285;clear HO288;clear HO292;clear HO295;clear HO298;clear HO302;clear HO305;clear HO308;clear HO312;clear HB;have HO285:=n0_;have HO288:=n1_;have HO292:=n2_;have HO295:=n3_;have HO298:=n4_;have HO302:=n5_;have HO305:=n6_;have HO308:=n7_;have HO312:=n8_;have HO316:=n9_;have HB:=n10_;clear n0_ n1_ n2_ n3_ n4_ n5_ n6_ n7_ n8_ n9_ n10_;clear hb ho98;obtain⟨Ao99,co99,eo99⟩:=Kd.R_slice HO302.out;subst eo99;obtain⟨Ao100,co100,eo100⟩:=Kd.R_slice HO316.out;subst eo100)|(go_at_call 17;(with_reducible refine(outriggerref08_Ints.calls k _ _ t299 _ _ y314 true _ ?side1 ?side2 ?side3 ?side4 A33.out).mono ?_);(case side1=>first|exact(Kd.R_reads' HO302.out).2.2|exact kC (Kd.R_reads' HO302.out).2.2);(case side2=>exact(Kd.R_reads' HO302.out).2.1);(case side3=>first|exact(Kd.R_reads' HO316.out).2.2|exact kC (Kd.R_reads' HO316.out).2.2);(case side4=>exact(Kd.R_reads' HO316.out).2.1);rintro e w' ⟨rfl,⟨nd,rfl⟩⟩;obtain⟨Ao101,co101,eo101⟩:=Kd.N_slice HO305.out;subst eo101;have p318:0≤(0:Int):=(by omega);have q318:0<(t303.length:Int):=of_decide_eq_true (by first|(with_reducible assumption)|assumption);obtain⟨ad318,A318_0,c318_0,e318,hx318_0,hl318_0,hi318_0⟩:=at_L1 (Kd.N_reads' HO305.out).2.2 0 p318 q318;cases e318;obtain⟨ce318,hce318,hMe318,hcc318⟩:=Kd.N_get HO305.out [] 0 p318 (by first|exact q318|exact of_decide_eq_true (by first|(with_reducible assumption)|assumption)|(have e_:=(Kd.N_reads' HO305.out).1;omega));obtain⟨ua318_0,uc318_0,rfl,ul318_0,ge318_0⟩:=Kd.FK_slice_open hMe318;have hv318_0:=hcc318 0 _ rfl;rw [Nat.add_zero,show((Kd.slice 3 (Kd.int .i64))).sz=1 from rfl,Nat.mul_one] at hv318_0;replace hv318_0:=Option.some.inj (hv318_0.symm.trans hx318_0);injection hv318_0 with hva_ hvn_ hvc_;rw [hva_] at ge318_0;rw [hvc_] at ul318_0;have HL318_0:=Aside0.mk (show Kd.V (Kd.int .i64) 3 _ w.heap.size _ _ (rd_L1 t303 0) from Kd.V_mk ul318_0 ge318_0);clear hva_ hvn_ hvc_ ge318_0 ul318_0;clear hcc318 hce318;have qi318:(0<t303.length)=True:=eq_true (by omega);(try rw [show((0:Int)).toNat=0 from rfl] at hx318_0);(try rw [Addr.add_zero'] at hx318_0);have HR318_0:=Aside0.mk hi318_0;have HC318_0:=Aside0.mk hl318_0;clear hi318_0 hl318_0;replace p318:=eq_true p318;replace q318:=eq_true q318;have p319:0≤(1:Int):=(by omega);have q319:1<((rd_L1 t303 0).length:Int):=of_decide_eq_true (by first|(with_reducible assumption)|assumption);obtain⟨ad319,e319,hx319_0⟩:=Kd.at_int (by repeat (first|(with_reducible exact HR318_0.out)|(with_reducible refine Kd.C_alloc ?_ _)|(with_reducible refine Kd.C_drewN ?_ _)|(with_reducible refine Kd.C_drew ?_)|exact HR318_0.out)) 1 p319 q319;cases e319;(try simp only [show(1:Int).toNat=1 from rfl,Nat.reduceMul,Nat.reduceEqDiff,Go.Addr.add,↓reduceIte] at hx319_0);have qi319:(1<(rd_L1 t303 0).length)=True:=eq_true (by omega);(try rw [show((1:Int)).toNat=1 from rfl] at hx319_0);replace p319:=eq_true p319;replace q319:=eq_true q319;have p320:0≤(1:Int):=(by omega);have q320:1<(t303.length:Int):=of_decide_eq_true (by first|(with_reducible assumption)|assumption);obtain⟨ad320,A320_0,c320_0,e320,hx320_0,hl320_0,hi320_0⟩:=at_L1 (Kd.N_reads' HO305.out).2.2 1 p320 q320;obtain rfl:ad318=ad320:=(by injection e320);obtain⟨ce320,hce320,hMe320,hcc320⟩:=Kd.N_get HO305.out [] 1 p320 (by first|exact q320|exact of_decide_eq_true (by first|(with_reducible assumption)|assumption)|(have e_:=(Kd.N_reads' HO305.out).1;omega));obtain⟨ua320_0,uc320_0,rfl,ul320_0,ge320_0⟩:=Kd.FK_slice_open hMe320;have hv320_0:=hcc320 0 _ rfl;rw [Nat.add_zero,show((Kd.slice 3 (Kd.int .i64))).sz=1 from rfl,Nat.mul_one] at hv320_0;replace hv320_0:=Option.some.inj (hv320_0.symm.trans hx320_0);injection hv320_0 with hva_ hvn_ hvc_;rw [hva_] at ge320_0;rw [hvc_] at ul320_0;have HL320_0:=Aside0.mk (show Kd.V (Kd.int .i64) 3 _ w.heap.size _ _ (rd_L1 t303 1) from Kd.V_mk ul320_0 ge320_0);clear hva_ hvn_ hvc_ ge320_0 ul320_0;clear hcc320 hce320;(try simp only [show(1:Int).toNat=1 from rfl,Nat.reduceMul,Nat.reduceEqDiff,Go.Addr.add,↓reduceIte] at hx320_0);have qi320:(1<t303.length)=True:=eq_true (by omega);(try rw [show((1:Int)).toNat=1 from rfl] at hx320_0);have HR320_0:=Aside0.mk hi320_0;have HC320_0:=Aside0.mk hl320_0;clear hi320_0 hl320_0;replace p320:=eq_true p320;replace q320:=eq_true q320;have p321:0≤(0:Int):=(by omega);have q321:0<((rd_L1 t303 1).length:Int):=of_decide_eq_true (by first|(with_reducible assumption)|assumption);obtain⟨ad321,e321,hx321_0⟩:=Kd.at_int (by repeat (first|(with_reducible exact HR320_0.out)|(with_reducible refine Kd.C_alloc ?_ _)|(with_reducible refine Kd.C_drewN ?_ _)|(with_reducible refine Kd.C_drew ?_)|exact HR320_0.out)) 0 p321 q321;cases e321;have qi321:(0<(rd_L1 t303 1).length)=True:=eq_true (by omega);(try rw [show((0:Int)).toNat=0 from rfl] at hx321_0);(try rw [Addr.add_zero'] at hx321_0);replace p321:=eq_true p321;replace q321:=eq_true q321;obtain⟨Ao102,co102,eo102⟩:=Kd.N_slice HO308.out;subst eo102;have p322:0≤(0:Int):=(by omega);have q322:0<(t306.length:Int):=of_decide_eq_true (by first|(with_reducible assumption)|assumption);obtain⟨ad322,A322_0,c322_0,e322,hx322_0,hl322_0,hi322_0⟩:=at_L1 (Kd.N_reads' HO308.out).2.2 0 p322 q322;cases e322;obtain⟨ce322,hce322,hMe322,hcc322⟩:=Kd.N_get HO308.out [] 0 p322 (by first|exact q322|exact of_decide_eq_true (by first|(with_reducible assumption)|assumption)|(have e_:=(Kd.N_reads' HO308.out).1;omega));obtain⟨ua322_0,uc322_0,rfl,ul322_0,ge322_0⟩:=Kd.FK_slice_open hMe322;have hv322_0:=hcc322 0 _ rfl;rw [Nat.add_zero,show((Kd.slice 3 (Kd.int .i64))).sz=1 from rfl,Nat.mul_one] at hv322_0;replace hv322_0:=Option.some.inj (hv322_0.symm.trans hx322_0);injection hv322_0 with hva_ hvn_ hvc_;rw [hva_] at ge322_0;rw [hvc_] at ul322_0;have HL322_0:=Aside0.mk (show Kd.V (Kd.int .i64) 3 _ w.heap.size _ _ (rd_L1 t306 0) from Kd.V_mk ul322_0 ge322_0);clear hva_ hvn_ hvc_ ge322_0 ul322_0;clear hcc322 hce322;have qi322:(0<t306.length)=True:=eq_true (by omega);(try rw [show((0:Int)).toNat=0 from rfl] at hx322_0);(try rw [Addr.add_zero'] at hx322_0);have HR322_0:=Aside0.mk hi322_0;have HC322_0:=Aside0.mk hl322_0;clear hi322_0 hl322_0;replace p322:=eq_true p322;replace q322:=eq_true q322;have p323:0≤(1:Int):=(by omega);have q323:1<((rd_L1 t306 0).length:Int):=of_decide_eq_true (by first|(with_reducible assumption)|assumption);obtain⟨ad323,e323,hx323_0⟩:=Kd.at_int (by repeat (first|(with_reducible exact HR322_0.out)|(with_reducible refine Kd.C_alloc ?_ _)|(with_reducible refine Kd.C_drewN ?_ _)|(with_reducible refine Kd.C_drew ?_)|exact HR322_0.out)) 1 p323 q323;cases e323;(try simp only [show(1:Int).toNat=1 from rfl,Nat.reduceMul,Nat.reduceEqDiff,Go.Addr.add,↓reduceIte] at hx323_0);have qi323:(1<(rd_L1 t306 0).length)=True:=eq_true (by omega);(try rw [show((1:Int)).toNat=1 from rfl] at hx323_0);replace p323:=eq_true p323;replace q323:=eq_true q323)|(go_at_call 18;(with_reducible refine(mat_Sane.calls k _ _ y283 t324 _ ?side1 ?side2 A74.out).mono ?_);(case side1=>first|exact(Kd.N_reads' HO285.out).2.2|exact kC (Kd.N_reads' HO285.out).2.2);(case side2=>exact(Kd.N_reads' HO285.out).2.1);rintro e w' ⟨rfl,⟨nd,rfl⟩⟩))
                 go_ret
                 exact⟨by first|rfl|(simp [errW_none,errW_some]<;>rfl)|(simp [*,errW_none,errW_some]<;>rfl),by first|with_reducible exact HB.out|exact bl HB⟩
                ·replace c73:=Bool.eq_false_iff.mpr c73
                 subst c73
                 have H1:(some false)=some r:=by rw [if_neg (show ¬(false=true) by decide)] at H;exact H
                 clear H
                 have H:=H1
                 clear H1
                 exact absurd ((Option.some.inj H).trans hr.out) (by decide)
               ·rw [if_neg c72] at H
                have c72b0:((rd (rd_L1 t306 0) 1) == 3)=false:=beq_eq_false_iff_ne.mpr c72
                have c72b1:((rd (rd_L1 t306 0) 1) != 3)=true:=bne_iff_ne.mpr c72
                exact absurd ((Option.some.inj H).trans hr.out) (by decide)
              ·rw [if_neg c71] at H
               exact absurd H (by simp)
             ·rw [if_neg c70] at H
              exact absurd H (by simp)
            ·rw [if_neg c69] at H
             have c69b0:((t306.length:Int) == 2)=false:=beq_eq_false_iff_ne.mpr c69
             have c69b1:((t306.length:Int) != 2)=true:=bne_iff_ne.mpr c69
             exact absurd ((Option.some.inj H).trans hr.out) (by decide)
           ·rw [if_neg c68] at H
            have c68b0:((rd (rd_L1 t303 1) 0) == 3)=false:=beq_eq_false_iff_ne.mpr c68
            have c68b1:((rd (rd_L1 t303 1) 0) != 3)=true:=bne_iff_ne.mpr c68
            exact absurd ((Option.some.inj H).trans hr.out) (by decide)
          ·rw [if_neg c67] at H
           exact absurd H (by simp)
         ·rw [if_neg c66] at H
          exact absurd H (by simp)
        ·rw [if_neg c65] at H
         have c65b0:((rd (rd_L1 t303 0) 1) == 3)=false:=beq_eq_false_iff_ne.mpr c65
         have c65b1:((rd (rd_L1 t303 0) 1) != 3)=true:=bne_iff_ne.mpr c65
         exact absurd ((Option.some.inj H).trans hr.out) (by decide)
       ·rw [if_neg c64] at H
        exact absurd H (by simp)
      ·rw [if_neg c63] at H
       exact absurd H (by simp)
     ·rw [if_neg c62] at H
      have c62b0:((t303.length:Int) == 2)=false:=beq_eq_false_iff_ne.mpr c62
      have c62b1:((t303.length:Int) != 2)=true:=bne_iff_ne.mpr c62
      exact absurd ((Option.some.inj H).trans hr.out) (by decide)
   ·replace c34:=Bool.eq_false_iff.mpr c34
    subst c34
    have H1:(some false)=some r:=by rw [if_neg (show ¬(false=true) by decide)] at H;exact H
    clear H
    have H:=H1
    clear H1
    exact absurd ((Option.some.inj H).trans hr.out) (by decide)
 ·replace c9:=Bool.eq_false_iff.mpr c9
  subst c9
  have H1:(some false)=some r:=by rw [if_neg (show ¬(false=true) by decide)] at H;exact H
  clear H
  have H:=H1
  clear H1
  exact absurd ((Option.some.inj H).trans hr.out) (by decide)
theorem outriggerlaw08_awake.known:outriggerlaw08_awake.f 200=some true:=by decide +kernel
theorem outriggerlaw08_awake.tells {k:Nat} {r:Bool} (h:outriggerlaw08_awake.f k=some r):r=true:=by
 have h1:=at_rounds outriggerlaw08_awake.mono (Nat.le_max_left k 200) h
 have h2:=at_rounds outriggerlaw08_awake.mono (Nat.le_max_right k 200) outriggerlaw08_awake.known
 exact Option.some.inj (h1.symm.trans h2)
theorem outriggerlaw08_awake.calls (k:Nat) (r:Bool) (w:World) (h:outriggerlaw08_awake.f k=some r) :
  Calls Try.prog 8 #[] w fun e w'=>e=.returned (.bool r)∧Below w.heap.size w w':=outriggerlaw08_awake.calls1 k r w h ⟨outriggerlaw08_awake.tells h⟩
end Go.Proofs.Ytembdogffbcjiaa.B
