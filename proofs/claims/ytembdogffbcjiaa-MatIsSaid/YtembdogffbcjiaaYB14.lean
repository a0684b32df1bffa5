/- Lemmas of the row, laid by a program. -/
import Derived.Test.YtembdogffbcjiaaYB0
import Derived.Test.YtembdogffbcjiaaYB11
import Derived.Test.YtembdogffbcjiaaYB12
import Derived.Test.YtembdogffbcjiaaYB13
namespace Go.Proofs.Ytembdogffbcjiaa.B
open Go.RowKit Go.Proofs.YtembdogffbcjiaaW.PrintWords Go.Proofs.YtembdogffbcjiaaW.PrintLast Go.Proofs.YtembdogffbcjiaaW.PrintMore
attribute [local go_sem] max2_int min2_int max_two min_two max_three min_three max_four min_four
set_option linter.unusedVariables false
set_option linter.unusedSimpArgs false
def outriggerref06_Dot.f (k:Nat) (l0:List Int) (l1:List Int):Option (Int × Bool):=if 0≤(mn (l0.length:Int) (l1.length:Int)) then (if (mn (l0.length:Int) (l1.length:Int))≤(l0.length:Int) then ((outriggerref06_cut.f k (l0.take ((mn (l0.length:Int) (l1.length:Int)):Int).toNat)).bind fun bt414=>(if (mn (l0.length:Int) (l1.length:Int))≤(l1.length:Int) then ((outriggerref06_cut.f k (l1.take ((mn (l0.length:Int) (l1.length:Int)):Int).toNat)).bind fun bt419=>((outriggerref06_wide.f k bt414.1 bt419.1).bind fun bt423=>((outriggerref03_Round.f k bt423.1 bt423.2).bind fun bt425=>(if bt414.2=true then (some (bt425.1,true)) else (if bt419.2=true then (some (bt425.1,true)) else (some (bt425.1,bt425.2))))))) else (none))) else (none)) else (none)
set_option maxHeartbeats 8000000 in
set_option maxRecDepth 100000 in
theorem outriggerref06_Dot.calls (k:Nat) (A0:Option Addr) (c0:Nat) (l0:List Int) (A1:Option Addr) (c1:Nat) (l1:List Int) (r1:Int) (r2:Bool) (w:World) (hr0:Kd.C (Kd.int .i64) w A0 l0.length l0) (hc0:l0.length≤c0) (hr1:Kd.C (Kd.int .i64) w A1 l1.length l1) (hc1:l1.length≤c1) (h:outriggerref06_Dot.f k l0 l1=some (r1,r2)) :
  Calls Try.prog 35 #[.slice A0 l0.length c0,.slice A1 l1.length c1] w fun e w'=>e=.returned (.tuple #[.int .i64 r1,.bool r2])∧Below w.heap.size w w':=by
 have HR0:=Aside0.mk hr0
 have HC0:=Aside0.mk hc0
 clear hr0 hc0
 have HR1:=Aside0.mk hr1
 have HC1:=Aside0.mk hc1
 clear hr1 hc1
 have HB:=Aside0.mk (Below.refl w.heap.size w)
 have H:(if 0≤(mn (l0.length:Int) (l1.length:Int)) then (if (mn (l0.length:Int) (l1.length:Int))≤(l0.length:Int) then ((outriggerref06_cut.f k (l0.take ((mn (l0.length:Int) (l1.length:Int)):Int).toNat)).bind fun bt414=>(if (mn (l0.length:Int) (l1.length:Int))≤(l1.length:Int) then ((outriggerref06_cut.f k (l1.take ((mn (l0.length:Int) (l1.length:Int)):Int).toNat)).bind fun bt419=>((outriggerref06_wide.f k bt414.1 bt419.1).bind fun bt423=>((outriggerref03_Round.f k bt423.1 bt423.2).bind fun bt425=>(if bt414.2=true then (some (bt425.1,true)) else (if bt419.2=true then (some (bt425.1,true)) else (some (bt425.1,bt425.2))))))) else (none))) else (none)) else (none))=some (r1,r2):=h
 clear h
 obtain⟨ji3,hji3⟩:∃ j_:Int,(mn (l0.length:Int) (l1.length:Int))=j_:=⟨_,rfl⟩
 replace H:(if 0≤(ji3) then (if (ji3)≤(l0.length:Int) then ((outriggerref06_cut.f k (l0.take ((ji3):Int).toNat)).bind fun bt414=>(if (ji3)≤(l1.length:Int) then ((outriggerref06_cut.f k (l1.take ((ji3):Int).toNat)).bind fun bt419=>((outriggerref06_wide.f k bt414.1 bt419.1).bind fun bt423=>((outriggerref03_Round.f k bt423.1 bt423.2).bind fun bt425=>(if bt414.2=true then (some (bt425.1,true)) else (if bt419.2=true then (some (bt425.1,true)) else (some (bt425.1,bt425.2))))))) else (none))) else (none)) else (none))=some (r1,r2):=by first|(rw [hji3] at H;exact H)|(simp only [hji3] at H ⊢;exact H)
 (try (have hji3l:0≤ji3:=by (rw [←hji3];unfold mn;(repeat' split)<;>omega)))
 (try (have hji3m:0≤ji3:=by omega))
 have hji3_:(if (l1.length:Int)<(l0.length:Int) then (l1.length:Int) else (l0.length:Int))=ji3:=hji3
 have hji3n:(if l1.length<l0.length then (l1.length:Int) else (l0.length:Int))=ji3:=by rw [←hji3_];simp only [Int.ofNat_lt]
 obtain⟨m1_3,hm1_3⟩:∃ m_:List Int,(l1.take ((ji3):Int).toNat)=m_:=⟨_,rfl⟩
 rw [hm1_3] at H
 obtain⟨m0_3,hm0_3⟩:∃ m_:List Int,(l0.take ((ji3):Int).toNat)=m_:=⟨_,rfl⟩
 rw [hm0_3] at H
 by_cases c4:0≤(ji3)
 ·rw [if_pos c4] at H
  have c4b0:=eq_true c4
  have c4b1:decide (0≤(ji3))=true:=decide_eq_true c4
  clear c4
  by_cases c5:(ji3)≤(l0.length:Int)
  ·rw [if_pos c5] at H
   have c5b0:=eq_true c5
   have c5b1:decide ((ji3)≤(l0.length:Int))=true:=decide_eq_true c5
   clear c5
   replace H:=Option.bind_eq_some_iff.mp H
   obtain⟨⟨t414,t415⟩,A60,H⟩:=H
   replace H:(if (ji3)≤(l1.length:Int) then ((outriggerref06_cut.f k m1_3).bind fun bt419=>((outriggerref06_wide.f k t414 bt419.1).bind fun bt423=>((outriggerref03_Round.f k bt423.1 bt423.2).bind fun bt425=>(if t415=true then (some (bt425.1,true)) else (if bt419.2=true then (some (bt425.1,true)) else (some (bt425.1,bt425.2))))))) else (none))=some (r1,r2):=H
   have A6:=Aside0.mk A60
   clear A60
   have c7b0:=eq_true (of_decide_eq_true (by first|(with_reducible assumption)|assumption):0≤(ji3))
   by_cases c8:(ji3)≤(l1.length:Int)
   ·rw [if_pos c8] at H
    have c8b0:=eq_true c8
    have c8b1:decide ((ji3)≤(l1.length:Int))=true:=decide_eq_true c8
    clear c8
    replace H:=Option.bind_eq_some_iff.mp H
    obtain⟨⟨t419,t420⟩,A90,H⟩:=H
    replace H:((outriggerref06_wide.f k t414 t419).bind fun bt423=>((outriggerref03_Round.f k bt423.1 bt423.2).bind fun bt425=>(if t415=true then (some (bt425.1,true)) else (if t420=true then (some (bt425.1,true)) else (some (bt425.1,bt425.2))))))=some (r1,r2):=H
    have A9:=Aside0.mk A90
    clear A90
    replace H:=Option.bind_eq_some_iff.mp H
    obtain⟨⟨t423,t424⟩,A100,H⟩:=H
    replace H:((outriggerref03_Round.f k t423 t424).bind fun bt425=>(if t415=true then (some (bt425.1,true)) else (if t420=true then (some (bt425.1,true)) else (some (bt425.1,bt425.2)))))=some (r1,r2):=H
    have A10:=Aside0.mk A100
    clear A100
    replace H:=Option.bind_eq_some_iff.mp H
    obtain⟨⟨t425,t426⟩,A110,H⟩:=H
    replace H:(if t415=true then (some (t425,true)) else (if t420=true then (some (t425,true)) else (some (t425,t426))))=some (r1,r2):=H
    have A11:=Aside0.mk A110
    clear A110
    by_cases c12:t415=true
    ·subst c12
     have H1:(some (t425,true))=some (r1,r2):=by rw [if_pos rfl] at H;exact H
     clear H
     have H:=H1
     clear H1
     simp only [Option.some.injEq,Prod.mk.injEq] at H
     obtain⟨rfl,rfl⟩:=H
     obtain⟨i013,hi013,_,hsz13,_⟩:=info_parts info3
     obtain⟨hcut13,hA13,hC13⟩:=print_take_of (P:=Try.prog) (Value.int .i64) 0 23 3 .i64 Try.underlying23 hi013 hsz13 A0 c0 l0 (ji3) (of_decide_eq_true (by first|(with_reducible assumption)|assumption)) (of_decide_eq_true (by first|(with_reducible assumption)|assumption)) HC0.out;rw [hm0_3] at hA13 hC13;simp only [hm0_3] at hcut13
     have HR413:=Aside0.mk (Kd.C_of_reads (h1:=fun _=>rfl) (hA13 _ (Kd.reads_of_C HR0.out)))
     have HC413:=Aside0.mk hC13
     clear hA13 hC13 hi013 hsz13
     go_enter Try.func35,Try.ntmps35
     go_wp2_with (first|((with_reducible refine gate_callee (f:=54) rfl ?_);refine goesL_ (some 22) rfl rfl Try.func54 (by kernel_rfl) rfl #[.slice A0 m0_3.length c0] rfl (by (try simp only [List.map_toArray,List.map_cons,List.map_nil]);first|done|(rw [show m0_3.length=(ji3).toNat from (by rw [List.length_take];have h_:((ji3):Int)≤(l0.length:Int):=of_decide_eq_true (by first|(with_reducible assumption)|assumption);omega)]<;>rfl)|(simp only [hji3];rfl)|rfl|(simp only [List.length_drop,List.length_take];rfl)) ?_;(with_reducible refine(outriggerref06_cut.calls k _ _ m0_3 t414 true _ ?side1 ?side2 A6.out).mono ?_);(case side1=>first|exact HR413.out|exact kC HR413.out);(case side2=>exact HC413.out);rintro e w14 ⟨v416,rfl,ho0,hb⟩;refine⟨_,rfl,?_⟩;have n0_:=Aside0.mk (Kd.R_lower ho0 (below_size (by first|with_reducible exact HB.out|exact bl HB)));have n1_:=Aside0.mk (below_step (by first|with_reducible exact HB.out|exact bl HB) hb);clear HB;have HO417:=n0_;have HB:=n1_;clear n0_ n1_;(try clear hb);(try clear hb2);(try clear hk);(try clear hi);(try clear ho0);obtain⟨i015,hi015,_,hsz15,_⟩:=info_parts info3;obtain⟨hcut15,hA15,hC15⟩:=print_take_of (P:=Try.prog) (Value.int .i64) 0 23 3 .i64 Try.underlying23 hi015 hsz15 A1 c1 l1 (ji3) (of_decide_eq_true (by first|(with_reducible assumption)|assumption)) (of_decide_eq_true (by first|(with_reducible assumption)|assumption)) HC1.out;rw [hm1_3] at hA15 hC15;simp only [hm1_3] at hcut15;have HR418:=Aside0.mk (Kd.C_of_reads (h1:=fun _=>rfl) (hA15 _ (Kd.reads_of_C HR1.out)));have HC418:=Aside0.mk hC15;clear hA15 hC15 hi015 hsz15)|((with_reducible refine gate_callee (f:=54) rfl ?_);refine goesL_ (some 29) rfl rfl Try.func54 (by kernel_rfl) rfl #[.slice A1 m1_3.length c1] rfl (by (try simp only [List.map_toArray,List.map_cons,List.map_nil]);first|done|(rw [show m1_3.length=(ji3).toNat from (by rw [List.length_take];have h_:((ji3):Int)≤(l1.length:Int):=of_decide_eq_true (by first|(with_reducible assumption)|assumption);omega)]<;>rfl)|(simp only [hji3];rfl)|rfl|(simp only [List.length_drop,List.length_take];rfl)) ?_;(with_reducible refine(outriggerref06_cut.calls k _ _ m1_3 t419 t420 _ ?side1 ?side2 A9.out).mono ?_);(case side1=>first|exact(Kd.C_below HR418.out HB.out)|exact kC (Kd.C_below HR418.out HB.out));(case side2=>exact HC418.out);rintro e w16 ⟨v421,rfl,ho0,hb⟩;refine⟨_,rfl,?_⟩;have n0_:=Aside0.mk (Kd.R_elder' (by first|exact HO417.out|exact kR HO417.out) (Kd.R_base ho0) hb);have n1_:=Aside0.mk (Kd.R_lower (Kd.R_new' ho0 (Kd.R_lt (by first|exact HO417.out|exact kR HO417.out))) (below_size (by first|with_reducible exact HB.out|exact bl HB)));have n2_:=Aside0.mk (below_step (by first|with_reducible exact HB.out|exact bl HB) hb);clear HO417;clear HB;have HO417:=n0_;have HO422:=n1_;have HB:=n2_;clear n0_ n1_ n2_;(try clear hb);(try clear hb2);(try clear hk);(try clear hi);(try clear ho0);obtain⟨Ao17,co17,eo17⟩:=Kd.R_slice HO417.out;subst eo17;obtain⟨Ao18,co18,eo18⟩:=Kd.R_slice HO422.out;subst eo18)|((with_reducible refine gate_callee (f:=56) rfl ?_);refine goesL_ (some 35) rfl rfl Try.func56 (by kernel_rfl) rfl #[.slice Ao17 t414.length co17,.slice Ao18 t419.length co18] rfl (by exact mA _ _) ?_;(with_reducible refine(outriggerref06_wide.calls k _ _ t414 _ _ t419 t423 t424 _ ?side1 ?side2 ?side3 ?side4 A10.out).mono ?_);(case side1=>first|exact(Kd.R_reads' HO417.out).2.2|exact kC (Kd.R_reads' HO417.out).2.2);(case side2=>exact(Kd.R_reads' HO417.out).2.1);(case side3=>first|exact(Kd.R_reads' HO422.out).2.2|exact kC (Kd.R_reads' HO422.out).2.2);(case side4=>exact(Kd.R_reads' HO422.out).2.1);rintro e w19 ⟨rfl,hb⟩;refine⟨_,rfl,?_⟩;have n0_:=Aside0.mk (Kd.R_below (by first|exact HO417.out|exact kR HO417.out) hb);have n1_:=Aside0.mk (Kd.R_below (by first|exact HO422.out|exact kR HO422.out) hb);have n2_:=Aside0.mk (below_step (by first|with_reducible exact HB.out|exact bl HB) hb);clear HO417;clear HO422;clear HB;have HO417:=n0_;have HO422:=n1_;have HB:=n2_;clear n0_ n1_ n2_;(try clear hb);(try clear hb2);(try clear hk);(try clear hi))|((with_reducible refine gate_callee (f:=55) rfl ?_);refine goesL_ (some 36) rfl rfl Try.func55 (by kernel_rfl) rfl #[.agg #[.int .i64 t423,.int .i64 t424]] rfl (by exact mA _ _) ?_;(with_reducible refine(outriggerref03_Round.calls k t423 t424 t425 t426 _ A11.out).mono ?_);rintro e w20 ⟨rfl,hb⟩;refine⟨_,rfl,?_⟩;have n0_:=Aside0.mk (Kd.R_below (by first|exact HO417.out|exact kR HO417.out) hb);have n1_:=Aside0.mk (Kd.R_below (by first|exact HO422.out|exact kR HO422.out) hb);have n2_:=Aside0.mk (below_step (by first|with_reducible exact HB.out|exact bl HB) hb);clear HO417;clear HO422;clear HB;have HO417:=n0_;have HO422:=n1_;have HB:=n2_;clear n0_ n1_ n2_;(try clear hb);(try clear hb2);(try clear hk);(try clear hi)))
     go_ret2
     exact⟨by first|rfl|(simp [errW_none,errW_some]<;>rfl)|(simp only [←hji3];first|rfl|(simp [errW_none,errW_some]<;>rfl))|(simp [*,errW_none,errW_some]<;>rfl),by first|with_reducible exact HB.out|exact bl HB⟩
    ·replace c12:=Bool.eq_false_iff.mpr c12
     subst c12
     have H1:(if t420=true then (some (t425,true)) else (some (t425,t426)))=some (r1,r2):=by rw [if_neg (show ¬(false=true) by decide)] at H;exact H
     clear H
     have H:=H1
     clear H1
     by_cases c21:t420=true
     ·subst c21
      have H1:(some (t425,true))=some (r1,r2):=by rw [if_pos rfl] at H;exact H
      clear H
      have H:=H1
      clear H1
      simp only [Option.some.injEq,Prod.mk.injEq] at H
      obtain⟨rfl,rfl⟩:=H
      obtain⟨i022,hi022,_,hsz22,_⟩:=info_parts info3
      obtain⟨hcut22,hA22,hC22⟩:=print_take_of (P:=Try.prog) (Value.int .i64) 0 23 3 .i64 Try.underlying23 hi022 hsz22 A0 c0 l0 (ji3) (of_decide_eq_true (by first|(with_reducible assumption)|assumption)) (of_decide_eq_true (by first|(with_reducible assumption)|assumption)) HC0.out;rw [hm0_3] at hA22 hC22;simp only [hm0_3] at hcut22
      have HR413:=Aside0.mk (Kd.C_of_reads (h1:=fun _=>rfl) (hA22 _ (Kd.reads_of_C HR0.out)))
      have HC413:=Aside0.mk hC22
      clear hA22 hC22 hi022 hsz22
      go_enter Try.func35,Try.ntmps35
      go_wp2_with (first|((with_reducible refine gate_callee (f:=54) rfl ?_);refine goesL_ (some 22) rfl rfl Try.func54 (by kernel_rfl) rfl #[.slice A0 m0_3.length c0] rfl (by (try simp only [List.map_toArray,List.map_cons,List.map_nil]);first|done|(rw [show m0_3.length=(ji3).toNat from (by rw [List.length_take];have h_:((ji3):Int)≤(l0.length:Int):=of_decide_eq_true (by first|(with_reducible assumption)|assumption);omega)]<;>rfl)|(simp only [hji3];rfl)|rfl|(simp only [List.length_drop,List.length_take];rfl)) ?_;(with_reducible refine(outriggerref06_cut.calls k _ _ m0_3 t414 false _ ?side1 ?side2 A6.out).mono ?_);(case side1=>first|exact HR413.out|exact kC HR413.out);(case side2=>exact HC413.out);rintro e w23 ⟨v416,rfl,ho0,hb⟩;refine⟨_,rfl,?_⟩;have n0_:=Aside0.mk (Kd.R_lower ho0 (below_size (by first|with_reducible exact HB.out|exact bl HB)));have n1_:=Aside0.mk (below_step (by first|with_reducible exact HB.out|exact bl HB) hb);clear HB;have HO417:=n0_;have HB:=n1_;clear n0_ n1_;(try clear hb);(try clear hb2);(try clear hk);(try clear hi);(try clear ho0);obtain⟨i024,hi024,_,hsz24,_⟩:=info_parts info3;obtain⟨hcut24,hA24,hC24⟩:=print_take_of (P:=Try.prog) (Value.int .i64) 0 23 3 .i64 Try.underlying23 hi024 hsz24 A1 c1 l1 (ji3) (of_decide_eq_true (by first|(with_reducible assumption)|assumption)) (of_decide_eq_true (by first|(with_reducible assumption)|assumption)) HC1.out;rw [hm1_3] at hA24 hC24;simp only [hm1_3] at hcut24;have HR418:=Aside0.mk (Kd.C_of_reads (h1:=fun _=>rfl) (hA24 _ (Kd.reads_of_C HR1.out)));have HC418:=Aside0.mk hC24;clear hA24 hC24 hi024 hsz24)|((with_reducible refine gate_callee (f:=54) rfl ?_);refine goesL_ (some 29) rfl rfl Try.func54 (by kernel_rfl) rfl #[.slice A1 m1_3.length c1] rfl (by (try simp only [List.map_toArray,List.map_cons,List.map_nil]);first|done|(rw [show m1_3.length=(ji3).toNat from (by rw [List.length_take];have h_:((ji3):Int)≤(l1.length:Int):=of_decide_eq_true (by first|(with_reducible assumption)|assumption);omega)]<;>rfl)|(simp only [hji3];rfl)|rfl|(simp only [List.length_drop,List.length_take];rfl)) ?_;(with_reducible refine(outriggerref06_cut.calls k _ _ m1_3 t419 true _ ?side1 ?side2 A9.out).mono ?_);(case side1=>first|exact(Kd.C_below HR418.out HB.out)|exact kC (Kd.C_below HR418.out HB.out));(case side2=>exact HC418.out);rintro e w25 ⟨v421,rfl,ho0,hb⟩;refine⟨_,rfl,?_⟩;have n0_:=Aside0.mk (Kd.R_elder' (by first|exact HO417.out|exact kR HO417.out) (Kd.R_base ho0) hb);have n1_:=Aside0.mk (Kd.R_lower (Kd.R_new' ho0 (Kd.R_lt (by first|exact HO417.out|exact kR HO417.out))) (below_size (by first|with_reducible exact HB.out|exact bl HB)));have n2_:=Aside0.mk (below_step (by first|with_reducible exact HB.out|exact bl HB) hb);clear HO417;clear HB;have HO417:=n0_;have HO422:=n1_;have HB:=n2_;clear n0_ n1_ n2_;(try clear hb);(try clear hb2);(try clear hk);(try clear hi);(try clear ho0);obtain⟨Ao26,co26,eo26⟩:=Kd.R_slice HO417.out;subst eo26;obtain⟨Ao27,co27,eo27⟩:=Kd.R_slice HO422.out;subst eo27)|((with_reducible refine gate_callee (f:=56) rfl ?_);refine goesL_ (some 35) rfl rfl Try.func56 (by kernel_rfl) rfl #[.slice Ao26 t414.length co26,.slice Ao27 t419.length co27] rfl (by exact mA _ _) ?_;(with_reducible refine(outriggerref06_wide.calls k _ _ t414 _ _ t419 t423 t424 _ ?side1 ?side2 ?side3 ?side4 A10.out).mono ?_);(case side1=>first|exact(Kd.R_reads' HO417.out).2.2|exact kC (Kd.R_reads' HO417.out).2.2);(case side2=>exact(Kd.R_reads' HO417.out).2.1);(case side3=>first|exact(Kd.R_reads' HO422.out).2.2|exact kC (Kd.R_reads' HO422.out).2.2);(case side4=>exact(Kd.R_reads' HO422.out).2.1);rintro e w28 ⟨rfl,hb⟩;refine⟨_,rfl,?_⟩;have n0_:=Aside0.mk (Kd.R_below (by first|exact HO417.out|exact kR HO417.out) hb);have n1_:=Aside0.mk (Kd.R_below (by first|exact HO422.out|exact kR HO422.out) hb);have n2_:=Aside0.mk (below_step (by first|with_reducible exact HB.out|exact bl HB) hb);clear HO417;clear HO422;clear HB;have HO417:=n0_;have HO422:=n1_;have HB:=n2_;clear n0_ n1_ n2_;(try clear hb);(try clear hb2);(try clear hk);(try clear hi))|((with_reducible refine gate_callee (f:=55) rfl ?_);refine goesL_ (some 36) rfl rfl Try.func55 (by kernel_rfl) rfl #[.agg #[.int .i64 t423,.int .i64 t424]] rfl (by exact mA _ _) ?_;(with_reducible refine(outriggerref03_Round.calls k t423 t424 t425 t426 _ A11.out).mono ?_);rintro e w29 ⟨rfl,hb⟩;refine⟨_,rfl,?_⟩;have n0_:=Aside0.mk (Kd.R_below (by first|exact HO417.out|exact kR HO417.out) hb);have n1_:=Aside0.mk (Kd.R_below (by first|exact HO422.out|exact kR HO422.out) hb);have n2_:=Aside0.mk (below_step (by first|with_reducible exact HB.out|exact bl HB) hb);clear HO417;clear HO422;clear HB;have HO417:=n0_;have HO422:=n1_;have HB:=n2_;clear n0_ n1_ n2_;(try clear hb);(try clear hb2);(try clear hk);(try clear hi)))
      go_ret2
      exact⟨by first|rfl|(simp [errW_none,errW_some]<;>rfl)|(simp only [←hji3];first|rfl|(simp [errW_none,errW_some]<;>rfl))|(simp [*,errW_none,errW_some]<;>rfl),by first|with_reducible exact HB.out|exact bl HB⟩
     ·replace c21:=Bool.eq_false_iff.mpr c21
      subst c21
      have H1:(some (t425,t426))=some (r1,r2):=by rw [if_neg (show ¬(false=true) by decide)] at H;exact H
      clear H
      have H:=H1
      clear H1
      simp only [Option.some.injEq,Prod.mk.injEq] at H
      obtain⟨rfl,rfl⟩:=H
      obtain⟨i030,hi030,_,hsz30,_⟩:=info_parts info3
      obtain⟨hcut30,hA30,hC30⟩:=print_take_of (P:=Try.prog) (Value.int .i64) 0 23 3 .i64 Try.underlying23 hi030 hsz30 A0 c0 l0 (ji3) (of_decide_eq_true (by first|(with_reducible assumption)|assumption)) (of_decide_eq_true (by first|(with_reducible assumption)|assumption)) HC0.out;rw [hm0_3] at hA30 hC30;simp only [hm0_3] at hcut30
      have HR413:=Aside0.mk (Kd.C_of_reads (h1:=fun _=>rfl) (hA30 _ (Kd.reads_of_C HR0.out)))
      have HC413:=Aside0.mk hC30
      clear hA30 hC30 hi030 hsz30
      go_enter Try.func35,Try.ntmps35
      go_wp2_with (first|((with_reducible refine gate_callee (f:=54) rfl ?_);refine goesL_ (some 22) rfl rfl Try.func54 (by kernel_rfl) rfl #[.slice A0 m0_3.length c0] rfl (by (try simp only [List.map_toArray,List.map_cons,List.map_nil]);first|done|(rw [show m0_3.length=(ji3).toNat from (by rw [List.length_take];have h_:((ji3):Int)≤(l0.length:Int):=of_decide_eq_true (by first|(with_reducible assumption)|assumption);omega)]<;>rfl)|(simp only [hji3];rfl)|rfl|(simp only [List.length_drop,List.length_take];rfl)) ?_;(with_reducible refine(outriggerref06_cut.calls k _ _ m0_3 t414 false _ ?side1 ?side2 A6.out).mono ?_);(case side1=>first|exact HR413.out|exact kC HR413.out);(case side2=>exact HC413.out);rintro e w31 ⟨v416,rfl,ho0,hb⟩;refine⟨_,rfl,?_⟩;have n0_:=Aside0.mk (Kd.R_lower ho0 (below_size (by first|with_reducible exact HB.out|exact bl HB)));have n1_:=Aside0.mk (below_step (by first|with_reducible exact HB.out|exact bl HB) hb);clear HB;have HO417:=n0_;have HB:=n1_;clear n0_ n1_;(try clear hb);(try clear hb2);(try clear hk);(try clear hi);(try clear ho0);obtain⟨i032,hi032,_,hsz32,_⟩:=info_parts info3;obtain⟨hcut32,hA32,hC32⟩:=print_take_of (P:=Try.prog) (Value.int .i64) 0 23 3 .i64 Try.underlying23 hi032 hsz32 A1 c1 l1 (ji3) (of_decide_eq_true (by first|(with_reducible assumption)|assumption)) (of_decide_eq_true (by first|(with_reducible assumption)|assumption)) HC1.out;rw [hm1_3] at hA32 hC32;simp only [hm1_3] at hcut32;have HR418:=Aside0.mk (Kd.C_of_reads (h1:=fun _=>rfl) (hA32 _ (Kd.reads_of_C HR1.out)));have HC418:=Aside0.mk hC32;clear hA32 hC32 hi032 hsz32)|((with_reducible refine gate_callee (f:=54) rfl ?_);refine goesL_ (some 29) rfl rfl Try.func54 (by kernel_rfl) rfl #[.slice A1 m1_3.length c1] rfl (by (try simp only [List.map_toArray,List.map_cons,List.map_nil]);first|done|(rw [show m1_3.length=(ji3).toNat from (by rw [List.length_take];have h_:((ji3):Int)≤(l1.length:Int):=of_decide_eq_true (by first|(with_reducible assumption)|assumption);omega)]<;>rfl)|(simp only [hji3];rfl)|rfl|(simp only [List.length_drop,List.length_take];rfl)) ?_;(with_reducible refine(outriggerref06_cut.calls k _ _ m1_3 t419 false _ ?side1 ?side2 A9.out).mono ?_);(case side1=>first|exact(Kd.C_below HR418.out HB.out)|exact kC (Kd.C_below HR418.out HB.out));(case side2=>exact HC418.out);rintro e w33 ⟨v421,rfl,ho0,hb⟩;refine⟨_,rfl,?_⟩;have n0_:=Aside0.mk (Kd.R_elder' (by first|exact HO417.out|exact kR HO417.out) (Kd.R_base ho0) hb);have n1_:=Aside0.mk (Kd.R_lower (Kd.R_new' ho0 (Kd.R_lt (by first|exact HO417.out|exact kR HO417.out))) (below_size (by first|with_reducible exact HB.out|exact bl HB)));have n2_:=Aside0.mk (below_step (by first|with_reducible exact HB.out|exact bl HB) hb);clear HO417;clear HB;have HO417:=n0_;have HO422:=n1_;have HB:=n2_;clear n0_ n1_ n2_;(try clear hb);(try clear hb2);(try clear hk);(try clear hi);(try clear ho0);obtain⟨Ao34,co34,eo34⟩:=Kd.R_slice HO417.out;subst eo34;obtain⟨Ao35,co35,eo35⟩:=Kd.R_slice HO422.out;subst eo35)|((with_reducible refine gate_callee (f:=56) rfl ?_);refine goesL_ (some 35) rfl rfl Try.func56 (by kernel_rfl) rfl #[.slice Ao34 t414.length co34,.slice Ao35 t419.length co35] rfl (by exact mA _ _) ?_;(with_reducible refine(outriggerref06_wide.calls k _ _ t414 _ _ t419 t423 t424 _ ?side1 ?side2 ?side3 ?side4 A10.out).mono ?_);(case side1=>first|exact(Kd.R_reads' HO417.out).2.2|exact kC (Kd.R_reads' HO417.out).2.2);(case side2=>exact(Kd.R_reads' HO417.out).2.1);(case side3=>first|exact(Kd.R_reads' HO422.out).2.2|exact kC (Kd.R_reads' HO422.out).2.2);(case side4=>exact(Kd.R_reads' HO422.out).2.1);rintro e w36 ⟨rfl,hb⟩;refine⟨_,rfl,?_⟩;have n0_:=Aside0.mk (Kd.R_below (by first|exact HO417.out|exact kR HO417.out) hb);have n1_:=Aside0.mk (Kd.R_below (by first|exact HO422.out|exact kR HO422.out) hb);have n2_:=Aside0.mk (below_step (by first|with_reducible exact HB.out|exact bl HB) hb);clear HO417;clear HO422;clear HB;have HO417:=n0_;have HO422:=n1_;have HB:=n2_;clear n0_ n1_ n2_;(try clear hb);(try clear hb2);(try clear hk);(try clear hi))|((with_reducible refine gate_callee (f:=55) rfl ?_);refine goesL_ (some 36) rfl rfl Try.func55 (by kernel_rfl) rfl #[.agg #[.int .i64 t423,.int .i64 t424]] rfl (by exact mA _ _) ?_;(with_reducible refine(outriggerref03_Round.calls k t423 t424 t425 t426 _ A11.out).mono ?_);rintro e w37 ⟨rfl,hb⟩;refine⟨_,rfl,?_⟩;have n0_:=Aside0.mk (Kd.R_below (by first|exact HO417.out|exact kR HO417.out) hb);have n1_:=Aside0.mk (Kd.R_below (by first|exact HO422.out|exact kR HO422.out) hb);have n2_:=Aside0.mk (below_step (by first|with_reducible exact HB.out|exact bl HB) hb);clear HO417;clear HO422;clear HB;have HO417:=n0_;have HO422:=n1_;have HB:=n2_;clear n0_ n1_ n2_;(try clear hb);(try clear hb2);(try clear hk);(try clear hi)))
      go_ret2
      exact⟨by first|rfl|(simp [errW_none,errW_some]<;>rfl)|(simp only [←hji3];first|rfl|(simp [errW_none,errW_some]<;>rfl))|(simp [*,errW_none,errW_some]<;>rfl),by first|with_reducible exact HB.out|exact bl HB⟩
   ·rw [if_neg c8] at H
    exact absurd H (by simp)
  ·rw [if_neg c5] at H
   exact absurd H (by simp)
 ·rw [if_neg c4] at H
  exact absurd H (by simp)
def outriggerref08_column.l0:Nat→List (List Int)→Int→List Int→Int→Option (List Int)
  | 0,_,_,_,_=>none
  | k+1,x0,x1,x5,x6=>if x6<(x0.length:Int) then (if 0≤x6 then (if 0≤x1 then (if x1<((rd_L1 x0 x6).length:Int) then (if x5.length<17592186044416 then (outriggerref08_column.l0 k x0 x1 (x5++[rd (rd_L1 x0 x6) x1]) (wrap64 (x6+1))) else (none)) else (none)) else (none)) else (none)) else (some x5)
def outriggerref08_column.f (k:Nat) (l0:List (List Int)) (a1:Int):Option (List Int):=outriggerref08_column.l0 k l0 a1 ([]:List Int) 0
set_option maxHeartbeats 8000000 in
set_option maxRecDepth 100000 in
theorem outriggerref08_column.calls (k:Nat) (A0:Option Addr) (c0:Nat) (l0:List (List Int)) (a1:Int) (r:List Int) (w:World) (hr0:Kd.C (Kd.slice 3 (Kd.int .i64)) w A0 l0.length l0) (hc0:l0.length≤c0) (h:outriggerref08_column.f k l0 a1=some r) :
  Calls Try.prog 36 #[.slice A0 l0.length c0,.int .i64 a1] w fun e w'=>∃ v0_:Value,e=.returned (v0_)∧Kd.R (Kd.int .i64) 3 w' w.heap.size (fun _=>True) v0_ r∧Below w.heap.size w w':=by
 have HR0:=Aside0.mk hr0
 have HC0:=Aside0.mk hc0
 clear hr0 hc0
 have HB:=Aside0.mk (Below.refl w.heap.size w)
 have H:(outriggerref08_column.l0 k l0 a1 ([]:List Int) 0)=some r:=h
 clear h
 have H':=Aside0.mk H
 clear H
 go_enter Try.func36,Try.ntmps36
 go_wp2
 go_loopg [5,6] k (fun kq v5 v6 w'=>∃ (x5_1:List Int) (x6_1:Int),v6=.int .i64 x6_1∧Aside0 (outriggerref08_column.l0 kq l0 a1 x5_1 x6_1=some r)∧Aside0 (kq≤k)∧Aside0 (Kd.R (Kd.int .i64) 3 w' w.heap.size (fun _=>True) v5 x5_1)∧Aside0 (Below w.heap.size w w'))
 case atStart=>exact⟨(([]:List Int)),(0),(by first|rfl|(simp;done)|(simp [*];done)),H',⟨Nat.le_refl _⟩,⟨by first|exact Kd.R_nil _ _ _ _ _|exact Kd.N_nil _ _ _ _ _|exact Kd.V_nil _ _ _ _ _|exact Kd.Q_nil _ _ _ _ _|exact Kd.S_nil _ _ _ _ _⟩,⟨by first|with_reducible exact HB.out|exact bl HB⟩⟩
 case round =>
  clear H'
  try clear p2
  obtain⟨x5_1,x6_1,rfl,HA,HK1,HO_5,HB⟩:=hrel
  cases gk with
  | zero=>exact absurd HA.out (by simp [outriggerref08_column.l0])
  | succ k1 =>
   have H:=HA.out
   clear HA
   simp only [outriggerref08_column.l0] at H
   by_cases c3:x6_1<(l0.length:Int)
   ·rw [if_pos c3] at H
    have c3b0:decide (x6_1<(l0.length:Int))=true:=decide_eq_true c3
    clear c3
    by_cases c4:0≤x6_1
    ·rw [if_pos c4] at H
     have c4b0:decide (0≤x6_1)=true:=decide_eq_true c4
     clear c4
     by_cases c5:0≤a1
     ·rw [if_pos c5] at H
      have c5b0:decide (0≤a1)=true:=decide_eq_true c5
      clear c5
      by_cases c6:a1<((rd_L1 l0 x6_1).length:Int)
      ·rw [if_pos c6] at H
       have c6b0:decide (a1<((rd_L1 l0 x6_1).length:Int))=true:=decide_eq_true c6
       clear c6
       by_cases c7:x5_1.length<17592186044416
       ·rw [if_pos c7] at H
        have LMc7:=Aside0.mk c7
        clear c7
        obtain⟨y429,hy429⟩:∃ y_:List Int,y_=(x5_1++[rd (rd_L1 l0 x6_1) a1]):=⟨_,rfl⟩
        replace H:(outriggerref08_column.l0 k1 l0 a1 y429 (wrap64 (x6_1+1)))=some r:=by first|(rw [hy429];with_reducible exact H)|(have H2_:=(Option.bind_some _ _).symm.trans H;rw [hy429];with_reducible exact H2_)|(have H2_:=(Option.bind_some _ _).symm.trans H;with_reducible exact H2_)|with_reducible exact H|(rw [hy429];exact H)|exact H
        have Ny429:=Aside0.mk hy429
        clear hy429
        have H':=Aside0.mk H
        clear H
        have p427:0≤(x6_1:Int):=of_decide_eq_true (by first|(with_reducible assumption)|assumption)
        have q427:x6_1<(l0.length:Int):=of_decide_eq_true (by first|(with_reducible assumption)|assumption)
        obtain⟨ad427,A427_0,c427_0,e427,hx427_0,hl427_0,hi427_0⟩:=at_L1 HR0.out x6_1 p427 q427
        cases e427
        replace hx427_0:=(HB.out.cell (World.block_lt_of_cell? w _ hx427_0)).trans hx427_0
        have HR427_0:=Aside0.mk hi427_0
        have HC427_0:=Aside0.mk hl427_0
        clear hi427_0 hl427_0
        replace p427:=eq_true p427
        replace q427:=eq_true q427
        have p428:0≤(a1:Int):=of_decide_eq_true (by first|(with_reducible assumption)|assumption)
        have q428:a1<((rd_L1 l0 x6_1).length:Int):=of_decide_eq_true (by first|(with_reducible assumption)|assumption)
        obtain⟨ad428,e428,hx428_0⟩:=Kd.at_int HR427_0.out a1 p428 q428
        cases e428
        replace hx428_0:=(HB.out.cell (World.block_lt_of_cell? w _ hx428_0)).trans hx428_0
        replace p428:=eq_true p428
        replace q428:=eq_true q428
        go_wp2_with (first|((with_reducible refine gate_builtin (b:=.append) (xs:=#[.tmp 13,.tmp 21]) rfl ?_);at_builtin;refine Kd.R_append (Kd.int .i64) (w0:=w) w.heap.size rfl (.tmp 13) (.tmp 21) 23 3 (.int .i64 0) 8 rfl Try.underlying23 info3 rfl (by decide) (by omega) u5 x5_1 (rd (rd_L1 l0 x6_1) a1) [.int .i64 (rd (rd_L1 l0 x6_1) a1)] (fun _=>True) (fun _=>False) rfl rfl ?aP (fun _ hk=>hk.elim) ?aF ?aO ?aB ?aS ?aL ?_;(case aP=>exact rfl);(case aB=>exact(by first|with_reducible exact HB.out|exact bl HB));(case aF=>exact(fun _ _=>trivial));(case aO=>exact(by first|exact HO_5.out|exact kR HO_5.out));(case aS=>exact(below_size (by first|with_reducible exact HB.out|exact bl HB)));(case aL=>have:=LMc7.out;omega);intro v430 w8 ho hb hg hat;rw [←Ny429.out] at ho;have n0_:=Aside0.mk (hb);have n1_:=Aside0.mk (ho);clear HB;clear HO_5;have HB:=n0_;have HO431:=n1_;clear n0_ n1_;clear ho hb hg hat))
        go_roundg k1
        case measure=>have:=HK1.out;omega
        case rel=>exact⟨(y429),(wrap64 (x6_1+1)),(by first|rfl|(simp;done)|(simp [*];done)),H',⟨by have:=HK1.out;omega⟩,⟨by first|exact HO431.out|exact kR HO431.out⟩,⟨by first|with_reducible exact HB.out|exact bl HB⟩⟩
       ·rw [if_neg c7] at H
        exact absurd H (by simp)
      ·rw [if_neg c6] at H
       exact absurd H (by simp)
     ·rw [if_neg c5] at H
      exact absurd H (by simp)
    ·rw [if_neg c4] at H
     exact absurd H (by simp)
   ·rw [if_neg c3] at H
    have c3b0:decide (x6_1<(l0.length:Int))=false:=decide_eq_false c3
    clear c3
    obtain rfl:=Option.some.inj H
    go_wp2
    go_ret
    exact⟨_,by first|rfl|(simp [errW_none,errW_some]<;>rfl)|(simp [*,errW_none,errW_some]<;>rfl),by first|exact HO_5.out|exact kR HO_5.out,by first|with_reducible exact HB.out|exact bl HB⟩
mutual
def outriggerref08_Mul.l0:Nat→List (List Int)→List (List Int)→List (List Int)→Bool→Int→Option ((List (List Int)) × Bool)
  | 0,_,_,_,_,_=>none
  | k+1,x0,x1,x6,x7,x8=>if x8<(x0.length:Int) then (outriggerref08_Mul.l1 k x0 x1 x6 x7 x8 ([]:List Int) 0) else (some (x6,x7))
def outriggerref08_Mul.l1:Nat→List (List Int)→List (List Int)→List (List Int)→Bool→Int→List Int→Int→Option ((List (List Int)) × Bool)
  | 0,_,_,_,_,_,_,_=>none
  | k+1,x0,x1,x6,x7,x8,x9,x10=>if x10<(x0.length:Int) then (if 0≤x8 then (if x8<(x0.length:Int) then ((outriggerref08_column.f k x1 x10).bind fun t434=>((outriggerref06_Dot.f k (rd_L1 x0 x8) t434).bind fun bt437=>(if x9.length<17592186044416 then ((some (x9++[bt437.1]:List Int)).bind fun y439=>(if x7=true then (outriggerref08_Mul.l1 k x0 x1 x6 true x8 y439 (wrap64 (x10+1))) else (outriggerref08_Mul.l1 k x0 x1 x6 bt437.2 x8 y439 (wrap64 (x10+1))))) else (none)))) else (none)) else (none)) else (if x6.length<5864062014805 then (outriggerref08_Mul.l0 k x0 x1 (x6++[x9]) x7 (wrap64 (x8+1))) else (none))
end
def outriggerref08_Mul.f (k:Nat) (l0:List (List Int)) (l1:List (List Int)):Option ((List (List Int)) × Bool):=(outriggerref08_both.f k l0 l1).bind fun t432=>(if t432=true then (outriggerref08_Mul.l0 k l0 l1 ([]:List (List Int)) false 0) else (some (([]:List (List Int)),true)))
def outriggerref08_Mul.T12:Bool × List (List Nat × List Nat):=(true,[([],[]),([],[]),([0,1],[0,1]),([2],[2]),([],[]),([],[]),([4,5],[4,5]),([3,6,6],[3,6]),([7],[7]),([8],[8]),([8],[8]),([9,7,0,1,2,3,4,5,6,7,8,9],[9]),([10,11,0,1,2,3,4,5,6,7,8,9,10,11],[10])])
def outriggerref08_Mul.B12:List Nat:=[0,0,3,7,0,0,48,127,255,511,511,1023,4095]
theorem outriggerref08_Mul.tab12:rtab .any (opsOf Try.f13 12)=outriggerref08_Mul.T12:=by kernel_rfl
theorem outriggerref08_Mul.bits12:waitsOk outriggerref08_Mul.T12.2 outriggerref08_Mul.B12=true:=by kernel_rfl
set_option maxHeartbeats 8000000 in
set_option maxRecDepth 100000 in
theorem outriggerref08_Mul.calls (k:Nat) (A0:Option Addr) (c0:Nat) (l0:List (List Int)) (A1:Option Addr) (c1:Nat) (l1:List (List Int)) (r1:List (List Int)) (r2:Bool) (w:World) (hr0:Kd.C (Kd.slice 3 (Kd.int .i64)) w A0 l0.length l0) (hc0:l0.length≤c0) (hr1:Kd.C (Kd.slice 3 (Kd.int .i64)) w A1 l1.length l1) (hc1:l1.length≤c1) (h:outriggerref08_Mul.f k l0 l1=some (r1,r2)) :
  Calls Try.prog 13 #[.slice A0 l0.length c0,.slice A1 l1.length c1] w fun e w'=>∃ v0_:Value,e=.returned (.tuple #[v0_,.bool r2])∧Kd.S (Kd.slice 3 (Kd.int .i64)) 23 w' w.heap.size (fun _=>True) v0_ r1∧Below w.heap.size w w':=by
 have HR0:=Aside0.mk hr0
 have HC0:=Aside0.mk hc0
 clear hr0 hc0
 have HR1:=Aside0.mk hr1
 have HC1:=Aside0.mk hc1
 clear hr1 hc1
 have HB:=Aside0.mk (Below.refl w.heap.size w)
 have H:((outriggerref08_both.f k l0 l1).bind fun t432=>(if t432=true then (outriggerref08_Mul.l0 k l0 l1 ([]:List (List Int)) false 0) else (some (([]:List (List Int)),true))))=some (r1,r2):=h
 clear h
 replace H:=Option.bind_eq_some_iff.mp H
 obtain⟨t432,A30,H⟩:=H
 replace H:(if t432=true then (outriggerref08_Mul.l0 k l0 l1 ([]:List (List Int)) false 0) else (some (([]:List (List Int)),true)))=some (r1,r2):=H
 have A3:=Aside0.mk A30
 clear A30
 by_cases c4:t432=true
 ·subst c4
  have H1:(outriggerref08_Mul.l0 k l0 l1 ([]:List (List Int)) false 0)=some (r1,r2):=by rw [if_pos rfl] at H;exact H
  clear H
  have H:=H1
  clear H1
  have H':=Aside0.mk H
  clear H
  go_enter Try.func13,Try.ntmps13
  go_wp2_with (first|((with_reducible refine gate_callee (f:=30) rfl ?_);refine goesL_ (some 15) rfl rfl Try.func30 (by kernel_rfl) rfl #[.slice A0 l0.length c0,.slice A1 l1.length c1] rfl (by exact mA _ _) ?_;(with_reducible refine(outriggerref08_both.calls k _ _ l0 _ _ l1 true _ ?side1 ?side2 ?side3 ?side4 A3.out).mono ?_);(case side1=>first|exact HR0.out|exact kC HR0.out);(case side2=>exact HC0.out);(case side3=>first|exact HR1.out|exact kC HR1.out);(case side4=>exact HC1.out);rintro e w' ⟨rfl,⟨nd,rfl⟩⟩;refine⟨_,rfl,?_⟩))
  go_loopg [6,7,8] k (fun kq v6 v7 v8 w'=>∃ (x6_1:List (List Int)) (x7_1:Bool) (x8_1:Int),v7=.bool x7_1∧v8=.int .i64 x8_1∧Aside0 (outriggerref08_Mul.l0 kq l0 l1 x6_1 x7_1 x8_1=some (r1,r2))∧Aside0 (kq≤k)∧Aside0 (Kd.S (Kd.slice 3 (Kd.int .i64)) 23 w' w.heap.size (fun _=>True) v6 x6_1)∧Aside0 (Below w.heap.size w w'))
  case atStart=>exact⟨(([]:List (List Int))),(false),(0),(by first|rfl|(simp;done)|(simp [*];done)),(by first|rfl|(simp;done)|(simp [*];done)),H',⟨Nat.le_refl _⟩,⟨by first|exact Kd.S_nil _ _ _ _ _|exact Kd.N_nil _ _ _ _ _|exact Kd.V_nil _ _ _ _ _|exact Kd.Q_nil _ _ _ _ _|exact Kd.R_nil _ _ _ _ _⟩,⟨by first|with_reducible exact HB.out|exact bl HB⟩⟩
  case round =>
   clear H'
   try clear c1
   try clear p2
   try clear c3
   try clear c4
   obtain⟨x6_1,x7_1,x8_1,rfl,rfl,HA,HK1,HO_6,HB⟩:=hrel
   cases gk with
   | zero=>exact absurd HA.out (by simp [outriggerref08_Mul.l0])
   | succ k1 =>
    have H:=HA.out
    clear HA
    simp only [outriggerref08_Mul.l0] at H
    by_cases c5:x8_1<(l0.length:Int)
    ·rw [if_pos c5] at H
     have c5b0:decide (x8_1<(l0.length:Int))=true:=decide_eq_true c5
     clear c5
     have H':=Aside0.mk H
     clear H
     go_wp2
     go_loopg [7,9,10] k1 (fun kq v7 v9 v10 w'=>∃ (x7_2:Bool) (x9_2:List Int) (x10_2:Int),v7=.bool x7_2∧v10=.int .i64 x10_2∧Aside0 (outriggerref08_Mul.l1 kq l0 l1 x6_1 x7_2 x8_1 x9_2 x10_2=some (r1,r2))∧Aside0 (kq≤k1)∧Aside0 (Kd.S (Kd.slice 3 (Kd.int .i64)) 23 w' w.heap.size (fun k_=>some k_≠(v9:Value).ownBlock) u6 x6_1)∧Aside0 (Kd.R (Kd.int .i64) 3 w' w.heap.size (fun _=>True) v9 x9_2)∧Aside0 (Below w.heap.size w w'))
     case atStart=>exact⟨(x7_1),(([]:List Int)),(0),(by first|rfl|(simp;done)|(simp [*];done)),(by first|rfl|(simp;done)|(simp [*];done)),H',⟨Nat.le_refl _⟩,⟨by (with_reducible repeat (first|apply Kd.S_alloc|apply Kd.S_drewN|apply Kd.S_drew));exact Kd.S_mono HO_6.out (fun _ hk=>(by simp [Value.ownBlock]))⟩,⟨by first|exact Kd.R_nil _ _ _ _ _|exact Kd.N_nil _ _ _ _ _|exact Kd.V_nil _ _ _ _ _|exact Kd.Q_nil _ _ _ _ _|exact Kd.S_nil _ _ _ _ _⟩,⟨by first|with_reducible exact HB.out|exact bl HB⟩⟩
     case round =>
      clear H'
      try clear c1
      try clear p2
      try clear c3
      try clear c4
      try clear c5
      try clear c5b0
      try clear p2
      obtain⟨x7_2,x9_2,x10_2,rfl,rfl,HA,HK2,HO_6,HO_9,HB⟩:=hrel
      cases gk with
      | zero=>exact absurd HA.out (by simp [outriggerref08_Mul.l1])
      | succ k2 =>
       have H:=HA.out
       clear HA
       simp only [outriggerref08_Mul.l1] at H
       by_cases c6:x10_2<(l0.length:Int)
       ·rw [if_pos c6] at H
        have c6b0:decide (x10_2<(l0.length:Int))=true:=decide_eq_true c6
        clear c6
        by_cases c7:0≤x8_1
        ·rw [if_pos c7] at H
         have c7b0:decide (0≤x8_1)=true:=decide_eq_true c7
         clear c7
         by_cases c8:x8_1<(l0.length:Int)
         ·rw [if_pos c8] at H
          have c8b0:decide (x8_1<(l0.length:Int))=true:=decide_eq_true c8
          clear c8
          replace H:=Option.bind_eq_some_iff.mp H
          obtain⟨t434,A90,H⟩:=H
          replace H:((outriggerref06_Dot.f k2 (rd_L1 l0 x8_1) t434).bind fun bt437=>(if x9_2.length<17592186044416 then ((some (x9_2++[bt437.1]:List Int)).bind fun y439=>(if x7_2=true then (outriggerref08_Mul.l1 k2 l0 l1 x6_1 true x8_1 y439 (wrap64 (x10_2+1))) else (outriggerref08_Mul.l1 k2 l0 l1 x6_1 bt437.2 x8_1 y439 (wrap64 (x10_2+1))))) else (none)))=some (r1,r2):=H
          have A9:=Aside0.mk A90
          clear A90
          replace H:=Option.bind_eq_some_iff.mp H
          obtain⟨⟨t437,t438⟩,A100,H⟩:=H
          replace H:(if x9_2.length<17592186044416 then ((some (x9_2++[t437]:List Int)).bind fun y439=>(if x7_2=true then (outriggerref08_Mul.l1 k2 l0 l1 x6_1 true x8_1 y439 (wrap64 (x10_2+1))) else (outriggerref08_Mul.l1 k2 l0 l1 x6_1 t438 x8_1 y439 (wrap64 (x10_2+1))))) else (none))=some (r1,r2):=H
          have A10:=Aside0.mk A100
          clear A100
          by_cases c11:x9_2.length<17592186044416
          ·rw [if_pos c11] at H
           have LMc11:=Aside0.mk c11
           clear c11
           obtain⟨y439,hy439⟩:∃ y_:List Int,y_=(x9_2++[t437]):=⟨_,rfl⟩
           replace H:(if x7_2=true then (outriggerref08_Mul.l1 k2 l0 l1 x6_1 true x8_1 y439 (wrap64 (x10_2+1))) else (outriggerref08_Mul.l1 k2 l0 l1 x6_1 t438 x8_1 y439 (wrap64 (x10_2+1))))=some (r1,r2):=by first|(rw [hy439];with_reducible exact H)|(have H2_:=(Option.bind_some _ _).symm.trans H;rw [hy439];with_reducible exact H2_)|(have H2_:=(Option.bind_some _ _).symm.trans H;with_reducible exact H2_)|with_reducible exact H|(rw [hy439];exact H)|exact H
           have Ny439:=Aside0.mk hy439
           clear hy439
           by_cases c12:x7_2=true
           ·subst c12
            have H1:(outriggerref08_Mul.l1 k2 l0 l1 x6_1 true x8_1 y439 (wrap64 (x10_2+1)))=some (r1,r2):=by rw [if_pos rfl] at H;exact H
            clear H
            have H:=H1
            clear H1
            have H':=Aside0.mk H
            clear H
            try go_wp2
            have n0_:=Aside0.mk (Kd.S_drew HO_6.out)
            have n1_:=Aside0.mk (Kd.R_drew HO_9.out)
            have n2_:=Aside0.mk (below_drew1 HB.out)
            clear HO_6
            clear HO_9
            clear HB
            have HO_6:=n0_
            have HO_9:=n1_
            have HB:=n2_
            clear n0_ n1_ n2_
            have p433:0≤(x8_1:Int):=of_decide_eq_true (by first|(with_reducible assumption)|assumption)
            have q433:x8_1<(l0.length:Int):=of_decide_eq_true (by first|(with_reducible assumption)|assumption)
            obtain⟨ad433,A433_0,c433_0,e433,hx433_0,hl433_0,hi433_0⟩:=at_L1 HR0.out x8_1 p433 q433
            have hw433_0:=hx433_0
            cases e433
            replace hx433_0:=(HB.out.cell (World.block_lt_of_cell? w _ hx433_0)).trans hx433_0
            have HR433_0:=Aside0.mk hi433_0
            have HC433_0:=Aside0.mk hl433_0
            clear hi433_0 hl433_0
            replace p433:=eq_true p433
            replace q433:=eq_true q433
            refine start_ (n:=13) (S:=fun w'=>w'.cell? (ad433.add (x8_1).toNat)=some (.slice A433_0 (rd_L1 l0 x8_1).length c433_0)) (ds:=[]) #[ff,ff,ff,ff,ff,ff,ff,ff,ff,ff,ff,ff,ff] (by kernel_rfl) rfl rfl (((HB.out.cell (World.block_lt_of_cell? w _ hw433_0)).trans hw433_0)) (fun hHeld=>?_);refine with_tabW outriggerref08_Mul.tab12 outriggerref08_Mul.bits12 (fun HT_ HW_=>?_)
            generalize wr.drew=w13 at HO_6 HO_9 HB HR433_0 hx433_0 hHeld ⊢
            refine pure_ (i:=0) (N:=some 30) (v:=?_) (a':=?_) #[tt,ff,ff,ff,ff,ff,ff,ff,ff,ff,ff,ff,ff] rfl rfl (any_of HT_.out (by kernel_rfl)) (fun _ _ _ h=>h) (Or.inl ⟨by rfl,?_⟩) ?_ ?_
            rotate_left
            ·intro w'
             go_simp
             with_reducible rfl
            rotate_left
            ·simp only [Act.put,List.setIfInBounds_toArray,List.set_cons_zero,List.set_cons_succ,i64_w,i32_w]
             rfl
            refine pure_ (i:=1) (N:=some 31) (v:=?_) (a':=?_) #[tt,tt,ff,ff,ff,ff,ff,ff,ff,ff,ff,ff,ff] rfl rfl (any_of HT_.out (by kernel_rfl)) (fun _ _ _ h=>h) (Or.inl ⟨by rfl,?_⟩) ?_ ?_
            rotate_left
            ·intro w'
             go_simp
             with_reducible rfl
            rotate_left
            ·simp only [Act.put,List.setIfInBounds_toArray,List.set_cons_zero,List.set_cons_succ,i64_w,i32_w]
             rfl
            refine pure_ (i:=2) (N:=some 32) (v:=?_) (a':=?_) #[tt,tt,tt,ff,ff,ff,ff,ff,ff,ff,ff,ff,ff] rfl rfl (any_of HT_.out (by kernel_rfl)) (fun _ _ _ h=>h) (Or.inl ⟨by rfl,?_⟩) ?_ ?_
            rotate_left
            ·intro w'
             go_simp
             with_reducible rfl
            rotate_left
            ·simp only [Act.put,List.setIfInBounds_toArray,List.set_cons_zero,List.set_cons_succ,i64_w,i32_w]
             rfl
            refine pure_ (i:=4) (N:=some 34) (v:=?_) (a':=?_) #[tt,tt,tt,ff,tt,ff,ff,ff,ff,ff,ff,ff,ff] rfl rfl (any_of HT_.out (by kernel_rfl)) (fun _ _ _ h=>h) (Or.inl ⟨by rfl,?_⟩) ?_ ?_
            rotate_left
            ·intro w'
             go_simp
             with_reducible rfl
            rotate_left
            ·simp only [Act.put,List.setIfInBounds_toArray,List.set_cons_zero,List.set_cons_succ,i64_w,i32_w]
             rfl
            refine pure_ (i:=5) (N:=some 35) (v:=?_) (a':=?_) #[tt,tt,tt,ff,tt,tt,ff,ff,ff,ff,ff,ff,ff] rfl rfl (any_of HT_.out (by kernel_rfl)) (fun _ _ _ h=>h) (Or.inl ⟨by rfl,?_⟩) ?_ ?_
            rotate_left
            ·intro w'
             go_simp
             with_reducible rfl
            rotate_left
            ·simp only [Act.put,List.setIfInBounds_toArray,List.set_cons_zero,List.set_cons_succ,i64_w,i32_w]
             rfl
            refine take_ (i:=3) (N:=some 33) (v:=?_) (a':=?_) #[tt,tt,tt,tt,tt,tt,ff,ff,ff,ff,ff,ff,ff] rfl rfl (take_ofW HT_.out HW_.out (by kernel_rfl)) (fun _ _ _ h=>h) (Or.inl ⟨by rfl,?_⟩) hHeld ?_ ?_
            rotate_left
            ·intro w' s0
             go_simp
             with_reducible rfl
            rotate_left
            ·simp only [Act.put,List.setIfInBounds_toArray,List.set_cons_zero,List.set_cons_succ,i64_w,i32_w]
             rfl
            refine one_ (i:=6) (N:=some 36) #[tt,tt,tt,tt,tt,tt,tt,ff,ff,ff,ff,ff,ff] rfl rfl (one_of HT_.out (by kernel_rfl)) (by decide) (fun K hK=>?_)
            refine goes_ Try.func36 (by kernel_rfl) rfl #[.slice A1 l1.length c1,.int .i64 x10_2] (by rfl) rfl rfl (by exact mA _ _) ?_
            with_reducible refine(outriggerref08_column.calls k2 _ _ l1 x10_2 t434 _ ?side1 ?side2 A9.out).mono ?_
            (case side1=>first|exact(Kd.C_below HR1.out HB.out)|exact kC (Kd.C_below HR1.out HB.out))
            (case side2=>exact HC1.out)
            rintro e w14 ⟨v435,rfl,ho0,hb⟩
            refine⟨_,rfl,?_⟩
            have n0_:=Aside0.mk (Kd.S_elder' (by first|exact HO_6.out|exact kS HO_6.out) (Kd.R_base ho0) hb)
            have n1_:=Aside0.mk (Kd.R_elder' (by first|exact HO_9.out|exact kR HO_9.out) (Kd.R_base ho0) hb)
            have n2_:=Aside0.mk (Kd.R_lower (Kd.R_new' ho0 (Kd.R_lt (by first|exact HO_9.out|exact kR HO_9.out))) (below_size (by first|with_reducible exact HB.out|exact bl HB)))
            have n3_:=Aside0.mk (below_step (by first|with_reducible exact HB.out|exact bl HB) hb)
            clear HO_6
            clear HO_9
            clear HB
            have HO_6:=n0_
            have HO_9:=n1_
            have HO436:=n2_
            have HB:=n3_
            clear n0_ n1_ n2_ n3_
            (try clear hb)
            (try clear hb2)
            (try clear hk)
            (try clear hi)
            (try clear ho0)
            obtain⟨Ao15,co15,eo15⟩:=Kd.R_slice HO436.out
            (first|subst eo15|(injection eo15 with f1_ f2_ f3_;have f4_:=f1_.symm;have f5_:=f3_.symm;clear f1_ f2_ f3_;subst f4_;subst f5_))
            refine hK.out _ _ (((HB.out.cell (World.block_lt_of_cell? w _ hw433_0)).trans hw433_0)) (fun hHeld=>?_)
            clear hK K
            refine norm_ (a':=?_) ?_ ?_
            rotate_left
            ·show Act.put _ (some 36) _=_
             simp only [Act.put,List.setIfInBounds_toArray,List.set_cons_zero,List.set_cons_succ,i64_w,i32_w]
             rfl
            refine one_ (i:=7) (N:=some 37) #[tt,tt,tt,tt,tt,tt,tt,tt,ff,ff,ff,ff,ff] rfl rfl (one_of HT_.out (by kernel_rfl)) (by decide) (fun K hK=>?_)
            refine goes_ Try.func35 (by kernel_rfl) rfl #[.slice A433_0 (rd_L1 l0 x8_1).length c433_0,.slice Ao15 t434.length co15] (by rfl) rfl rfl (by exact mA _ _) ?_
            with_reducible refine(outriggerref06_Dot.calls k2 _ _ (rd_L1 l0 x8_1) _ _ t434 t437 t438 _ ?side1 ?side2 ?side3 ?side4 A10.out).mono ?_
            (case side1=>first|exact(Kd.C_below HR433_0.out HB.out)|exact kC (Kd.C_below HR433_0.out HB.out))
            (case side2=>exact HC433_0.out)
            (case side3=>first|exact(Kd.R_reads' HO436.out).2.2|exact kC (Kd.R_reads' HO436.out).2.2)
            (case side4=>exact(Kd.R_reads' HO436.out).2.1)
            rintro e w16 ⟨rfl,hb⟩
            refine⟨_,rfl,?_⟩
            have n0_:=Aside0.mk (Kd.S_below (by first|exact HO_6.out|exact kS HO_6.out) hb)
            have n1_:=Aside0.mk (Kd.R_below (by first|exact HO_9.out|exact kR HO_9.out) hb)
            have n2_:=Aside0.mk (Kd.R_below (by first|exact HO436.out|exact kR HO436.out) hb)
            have n3_:=Aside0.mk (below_step (by first|with_reducible exact HB.out|exact bl HB) hb)
            clear HO_6
            clear HO_9
            clear HO436
            clear HB
            have HO_6:=n0_
            have HO_9:=n1_
            have HO436:=n2_
            have HB:=n3_
            clear n0_ n1_ n2_ n3_
            (try clear hb)
            (try clear hb2)
            (try clear hk)
            (try clear hi)
            refine hK.out _ _ (((HB.out.cell (World.block_lt_of_cell? w _ hw433_0)).trans hw433_0)) (fun hHeld=>?_)
            clear hK K
            refine norm_ (a':=?_) ?_ ?_
            rotate_left
            ·show Act.put _ (some 37) _=_
             simp only [Act.put,List.setIfInBounds_toArray,List.set_cons_zero,List.set_cons_succ,i64_w,i32_w]
             rfl
            refine pure_ (i:=8) (N:=some 29) (v:=?_) (a':=?_) #[tt,tt,tt,tt,tt,tt,tt,tt,tt,ff,ff,ff,ff] rfl rfl (any_of HT_.out (by kernel_rfl)) (fun _ _ _ h=>h) (Or.inl ⟨by rfl,?_⟩) ?_ ?_
            rotate_left
            ·intro w'
             go_simp
             with_reducible rfl
            rotate_left
            ·simp only [Act.put,List.setIfInBounds_toArray,List.set_cons_zero,List.set_cons_succ,i64_w,i32_w]
             rfl
            refine pure_ (i:=9) (N:=some 38) (v:=?_) (a':=?_) #[tt,tt,tt,tt,tt,tt,tt,tt,tt,tt,ff,ff,ff] rfl rfl (any_of HT_.out (by kernel_rfl)) (fun _ _ _ h=>h) (Or.inl ⟨by rfl,?_⟩) ?_ ?_
            rotate_left
            ·intro w'
             go_simp
             with_reducible rfl
            rotate_left
            ·simp only [Act.put,List.setIfInBounds_toArray,List.set_cons_zero,List.set_cons_succ,i64_w,i32_w]
             rfl
            refine pure_ (i:=10) (N:=some 39) (v:=?_) (a':=?_) #[tt,tt,tt,tt,tt,tt,tt,tt,tt,tt,tt,ff,ff] rfl rfl (any_of HT_.out (by kernel_rfl)) (fun _ _ _ h=>h) (Or.inl ⟨by rfl,?_⟩) ?_ ?_
            rotate_left
            ·intro w'
             go_simp
             with_reducible rfl
            rotate_left
            ·simp only [Act.put,List.setIfInBounds_toArray,List.set_cons_zero,List.set_cons_succ,i64_w,i32_w]
             rfl
            refine pure_ (i:=11) (N:=some 11) (v:=?_) (a':=?_) #[tt,tt,tt,tt,tt,tt,tt,tt,tt,tt,tt,tt,ff] rfl rfl (any_of HT_.out (by kernel_rfl)) (fun _ _ _ h=>h) (Or.inl ⟨by rfl,?_⟩) ?_ ?_
            rotate_left
            ·intro w'
             go_simp
             with_reducible rfl
            rotate_left
            ·simp only [Act.put,List.setIfInBounds_toArray,List.set_cons_zero,List.set_cons_succ,i64_w,i32_w]
             rfl
            refine pure_ (i:=12) (N:=some 12) (v:=?_) (a':=?_) #[tt,tt,tt,tt,tt,tt,tt,tt,tt,tt,tt,tt,tt] rfl rfl (any_of HT_.out (by kernel_rfl)) (fun _ _ _ h=>h) (Or.inl ⟨by rfl,?_⟩) ?_ ?_
            rotate_left
            ·intro w'
             go_simp
             with_reducible rfl
            rotate_left
            ·simp only [Act.put,List.setIfInBounds_toArray,List.set_cons_zero,List.set_cons_succ,i64_w,i32_w]
             rfl
            refine done_ (done_of HT_.out (by kernel_rfl)) ?_
            try go_wp2_with (first|((with_reducible refine gate_builtin (b:=.append) (xs:=#[.tmp 40,.tmp 42]) rfl ?_);at_builtin;refine Kd.R_append (Kd.int .i64) (w0:=w) w.heap.size rfl (.tmp 40) (.tmp 42) 23 3 (.int .i64 0) 8 rfl Try.underlying23 info3 rfl (by decide) (by omega) u9 x9_2 t437 [.int .i64 t437] (fun k_=>some k_≠(.slice Ao15 t434.length co15:Value).ownBlock) (fun _=>False) rfl rfl ?aP (fun _ hk=>hk.elim) ?aF ?aO ?aB ?aS ?aL ?_;(case aP=>exact rfl);(case aB=>exact(by first|with_reducible exact HB.out|exact bl HB));(case aF=>exact(fun k_ hk=>Kd.fresh' (Kd.R_lt (by first|exact HO436.out|exact kR HO436.out)) k_ hk));(case aO=>exact(by (with_reducible repeat (first|apply Kd.R_alloc|apply Kd.R_drewN|apply Kd.R_drew));exact Kd.R_mono HO_9.out (fun _ hk=>hk.2)));(case aS=>exact(below_size (by first|with_reducible exact HB.out|exact bl HB)));(case aL=>have:=LMc11.out;omega);intro v440 w17 ho hb hg hat;rw [←Ny439.out] at ho;have n0_:=Aside0.mk (Kd.S_after (ok:=(fun k_=>some k_≠(.slice Ao15 t434.length co15:Value).ownBlock)) (by (with_reducible repeat (first|apply Kd.S_alloc|apply Kd.S_drewN|apply Kd.S_drew));exact Kd.S_mono HO_6.out (fun _ hk=>⟨hk.2,hk.1⟩)) hg hat);have n1_:=Aside0.mk (Kd.R_after (ok:=(fun _=>True)) (by first|exact HO436.out|exact kR HO436.out) hg hat);have n2_:=Aside0.mk (hb);have n3_:=Aside0.mk (ho);clear HO_6;clear HO436;clear HB;clear HO_9;have HO_6:=n0_;have HO436:=n1_;have HB:=n2_;have HO441:=n3_;clear n0_ n1_ n2_ n3_;clear ho hb hg hat))
            go_roundg k2
            case measure=>have:=HK1.out;have:=HK2.out;omega
            case rel=>exact⟨(true),(y439),(wrap64 (x10_2+1)),(by first|rfl|(simp;done)|(simp [*];done)),(by first|rfl|(simp;done)|(simp [*];done)),H',⟨by have:=HK1.out;have:=HK2.out;omega⟩,⟨by (with_reducible repeat (first|apply Kd.S_alloc|apply Kd.S_drewN|apply Kd.S_drew));exact Kd.S_mono HO_6.out (fun _ hk=>hk.2)⟩,⟨by (with_reducible repeat (first|apply Kd.R_alloc|apply Kd.R_drewN|apply Kd.R_drew));exact Kd.R_mono HO441.out (fun _ hk=>trivial)⟩,⟨by first|with_reducible exact HB.out|exact bl HB⟩⟩
           ·replace c12:=Bool.eq_false_iff.mpr c12
            subst c12
            have H1:(outriggerref08_Mul.l1 k2 l0 l1 x6_1 t438 x8_1 y439 (wrap64 (x10_2+1)))=some (r1,r2):=by rw [if_neg (show ¬(false=true) by decide)] at H;exact H
            clear H
            have H:=H1
            clear H1
            have H':=Aside0.mk H
            clear H
            try go_wp2
            have n0_:=Aside0.mk (Kd.S_drew HO_6.out)
            have n1_:=Aside0.mk (Kd.R_drew HO_9.out)
            have n2_:=Aside0.mk (below_drew1 HB.out)
            clear HO_6
            clear HO_9
            clear HB
            have HO_6:=n0_
            have HO_9:=n1_
            have HB:=n2_
            clear n0_ n1_ n2_
            have p433:0≤(x8_1:Int):=of_decide_eq_true (by first|(with_reducible assumption)|assumption)
            have q433:x8_1<(l0.length:Int):=of_decide_eq_true (by first|(with_reducible assumption)|assumption)
            obtain⟨ad433,A433_0,c433_0,e433,hx433_0,hl433_0,hi433_0⟩:=at_L1 HR0.out x8_1 p433 q433
            have hw433_0:=hx433_0
            cases e433
            replace hx433_0:=(HB.out.cell (World.block_lt_of_cell? w _ hx433_0)).trans hx433_0
            have HR433_0:=Aside0.mk hi433_0
            have HC433_0:=Aside0.mk hl433_0
            clear hi433_0 hl433_0
            replace p433:=eq_true p433
            replace q433:=eq_true q433
            refine start_ (n:=13) (S:=fun w'=>w'.cell? (ad433.add (x8_1).toNat)=some (.slice A433_0 (rd_L1 l0 x8_1).length c433_0)) (ds:=[]) #[ff,ff,ff,ff,ff,ff,ff,ff,ff,ff,ff,ff,ff] (by kernel_rfl) rfl rfl (((HB.out.cell (World.block_lt_of_cell? w _ hw433_0)).trans hw433_0)) (fun hHeld=>?_);refine with_tabW outriggerref08_Mul.tab12 outriggerref08_Mul.bits12 (fun HT_ HW_=>?_)
            generalize wr.drew=w18 at HO_6 HO_9 HB HR433_0 hx433_0 hHeld ⊢
            refine pure_ (i:=0) (N:=some 30) (v:=?_) (a':=?_) #[tt,ff,ff,ff,ff,ff,ff,ff,ff,ff,ff,ff,ff] rfl rfl (any_of HT_.out (by kernel_rfl)) (fun _ _ _ h=>h) (Or.inl ⟨by rfl,?_⟩) ?_ ?_
            rotate_left
            ·intro w'
             go_simp
             with_reducible rfl
            rotate_left
            ·simp only [Act.put,List.setIfInBounds_toArray,List.set_cons_zero,List.set_cons_succ,i64_w,i32_w]
             rfl
            refine pure_ (i:=1) (N:=some 31) (v:=?_) (a':=?_) #[tt,tt,ff,ff,ff,ff,ff,ff,ff,ff,ff,ff,ff] rfl rfl (any_of HT_.out (by kernel_rfl)) (fun _ _ _ h=>h) (Or.inl ⟨by rfl,?_⟩) ?_ ?_
            rotate_left
            ·intro w'
             go_simp
             with_reducible rfl
            rotate_left
            ·simp only [Act.put,List.setIfInBounds_toArray,List.set_cons_zero,List.set_cons_succ,i64_w,i32_w]
             rfl
            refine pure_ (i:=2) (N:=some 32) (v:=?_) (a':=?_) #[tt,tt,tt,ff,ff,ff,ff,ff,ff,ff,ff,ff,ff] rfl rfl (any_of HT_.out (by kernel_rfl)) (fun _ _ _ h=>h) (Or.inl ⟨by rfl,?_⟩) ?_ ?_
            rotate_left
            ·intro w'
             go_simp
             with_reducible rfl
            rotate_left
            ·simp only [Act.put,List.setIfInBounds_toArray,List.set_cons_zero,List.set_cons_succ,i64_w,i32_w]
             rfl
            refine pure_ (i:=4) (N:=some 34) (v:=?_) (a':=?_) #[tt,tt,tt,ff,tt,ff,ff,ff,ff,ff,ff,ff,ff] rfl rfl (any_of HT_.out (by kernel_rfl)) (fun _ _ _ h=>h) (Or.inl ⟨by rfl,?_⟩) ?_ ?_
            rotate_left
            ·intro w'
             go_simp
             with_reducible rfl
            rotate_left
            ·simp only [Act.put,List.setIfInBounds_toArray,List.set_cons_zero,List.set_cons_succ,i64_w,i32_w]
             rfl
            refine pure_ (i:=5) (N:=some 35) (v:=?_) (a':=?_) #[tt,tt,tt,ff,tt,tt,ff,ff,ff,ff,ff,ff,ff] rfl rfl (any_of HT_.out (by kernel_rfl)) (fun _ _ _ h=>h) (Or.inl ⟨by rfl,?_⟩) ?_ ?_
            rotate_left
            ·intro w'
             go_simp
             with_reducible rfl
            rotate_left
            ·simp only [Act.put,List.setIfInBounds_toArray,List.set_cons_zero,List.set_cons_succ,i64_w,i32_w]
             rfl
            refine take_ (i:=3) (N:=some 33) (v:=?_) (a':=?_) #[tt,tt,tt,tt,tt,tt,ff,ff,ff,ff,ff,ff,ff] rfl rfl (take_ofW HT_.out HW_.out (by kernel_rfl)) (fun _ _ _ h=>h) (Or.inl ⟨by rfl,?_⟩) hHeld ?_ ?_
            rotate_left
            ·intro w' s0
             go_simp
             with_reducible rfl
            rotate_left
            ·simp only [Act.put,List.setIfInBounds_toArray,List.set_cons_zero,List.set_cons_succ,i64_w,i32_w]
             rfl
            refine one_ (i:=6) (N:=some 36) #[tt,tt,tt,tt,tt,tt,tt,ff,ff,ff,ff,ff,ff] rfl rfl (one_of HT_.out (by kernel_rfl)) (by decide) (fun K hK=>?_)
            refine goes_ Try.func36 (by kernel_rfl) rfl #[.slice A1 l1.length c1,.int .i64 x10_2] (by rfl) rfl rfl (by exact mA _ _) ?_
            with_reducible refine(outriggerref08_column.calls k2 _ _ l1 x10_2 t434 _ ?side1 ?side2 A9.out).mono ?_
            (case side1=>first|exact(Kd.C_below HR1.out HB.out)|exact kC (Kd.C_below HR1.out HB.out))
            (case side2=>exact HC1.out)
            rintro e w19 ⟨v435,rfl,ho0,hb⟩
            refine⟨_,rfl,?_⟩
            have n0_:=Aside0.mk (Kd.S_elder' (by first|exact HO_6.out|exact kS HO_6.out) (Kd.R_base ho0) hb)
            have n1_:=Aside0.mk (Kd.R_elder' (by first|exact HO_9.out|exact kR HO_9.out) (Kd.R_base ho0) hb)
            have n2_:=Aside0.mk (Kd.R_lower (Kd.R_new' ho0 (Kd.R_lt (by first|exact HO_9.out|exact kR HO_9.out))) (below_size (by first|with_reducible exact HB.out|exact bl HB)))
            have n3_:=Aside0.mk (below_step (by first|with_reducible exact HB.out|exact bl HB) hb)
            clear HO_6
            clear HO_9
            clear HB
            have HO_6:=n0_
            have HO_9:=n1_
            have HO436:=n2_
            have HB:=n3_
            clear n0_ n1_ n2_ n3_
            (try clear hb)
            (try clear hb2)
            (try clear hk)
            (try clear hi)
            (try clear ho0)
            obtain⟨Ao20,co20,eo20⟩:=Kd.R_slice HO436.out
            (first|subst eo20|(injection eo20 with f1_ f2_ f3_;have f4_:=f1_.symm;have f5_:=f3_.symm;clear f1_ f2_ f3_;subst f4_;subst f5_))
            refine hK.out _ _ (((HB.out.cell (World.block_lt_of_cell? w _ hw433_0)).trans hw433_0)) (fun hHeld=>?_)
            clear hK K
            refine norm_ (a':=?_) ?_ ?_
            rotate_left
            ·show Act.put _ (some 36) _=_
             simp only [Act.put,List.setIfInBounds_toArray,List.set_cons_zero,List.set_cons_succ,i64_w,i32_w]
             rfl
            refine one_ (i:=7) (N:=some 37) #[tt,tt,tt,tt,tt,tt,tt,tt,ff,ff,ff,ff,ff] rfl rfl (one_of HT_.out (by kernel_rfl)) (by decide) (fun K hK=>?_)
            refine goes_ Try.func35 (by kernel_rfl) rfl #[.slice A433_0 (rd_L1 l0 x8_1).length c433_0,.slice Ao20 t434.length co20] (by rfl) rfl rfl (by exact mA _ _) ?_
            with_reducible refine(outriggerref06_Dot.calls k2 _ _ (rd_L1 l0 x8_1) _ _ t434 t437 t438 _ ?side1 ?side2 ?side3 ?side4 A10.out).mono ?_
            (case side1=>first|exact(Kd.C_below HR433_0.out HB.out)|exact kC (Kd.C_below HR433_0.out HB.out))
            (case side2=>exact HC433_0.out)
            (case side3=>first|exact(Kd.R_reads' HO436.out).2.2|exact kC (Kd.R_reads' HO436.out).2.2)
            (case side4=>exact(Kd.R_reads' HO436.out).2.1)
            rintro e w21 ⟨rfl,hb⟩
            refine⟨_,rfl,?_⟩
            have n0_:=Aside0.mk (Kd.S_below (by first|exact HO_6.out|exact kS HO_6.out) hb)
            have n1_:=Aside0.mk (Kd.R_below (by first|exact HO_9.out|exact kR HO_9.out) hb)
            have n2_:=Aside0.mk (Kd.R_below (by first|exact HO436.out|exact kR HO436.out) hb)
            have n3_:=Aside0.mk (below_step (by first|with_reducible exact HB.out|exact bl HB) hb)
            clear HO_6
            clear HO_9
            clear HO436
            clear HB
            have HO_6:=n0_
            have HO_9:=n1_
            have HO436:=n2_
            have HB:=n3_
            clear n0_ n1_ n2_ n3_
            (try clear hb)
            (try clear hb2)
            (try clear hk)
            (try clear hi)
            refine hK.out _ _ (((HB.out.cell (World.block_lt_of_cell? w _ hw433_0)).trans hw433_0)) (fun hHeld=>?_)
            clear hK K
            refine norm_ (a':=?_) ?_ ?_
            rotate_left
            ·show Act.put _ (some 37) _=_
             simp only [Act.put,List.setIfInBounds_toArray,List.set_cons_zero,List.set_cons_succ,i64_w,i32_w]
             rfl
            refine pure_ (i:=8) (N:=some 29) (v:=?_) (a':=?_) #[tt,tt,tt,tt,tt,tt,tt,tt,tt,ff,ff,ff,ff] rfl rfl (any_of HT_.out (by kernel_rfl)) (fun _ _ _ h=>h) (Or.inl ⟨by rfl,?_⟩) ?_ ?_
            rotate_left
            ·intro w'
             go_simp
             with_reducible rfl
            rotate_left
            ·simp only [Act.put,List.setIfInBounds_toArray,List.set_cons_zero,List.set_cons_succ,i64_w,i32_w]
             rfl
            refine pure_ (i:=9) (N:=some 38) (v:=?_) (a':=?_) #[tt,tt,tt,tt,tt,tt,tt,tt,tt,tt,ff,ff,ff] rfl rfl (any_of HT_.out (by kernel_rfl)) (fun _ _ _ h=>h) (Or.inl ⟨by rfl,?_⟩) ?_ ?_
            rotate_left
            ·intro w'
             go_simp
             with_reducible rfl
            rotate_left
            ·simp only [Act.put,List.setIfInBounds_toArray,List.set_cons_zero,List.set_cons_succ,i64_w,i32_w]
             rfl
            refine pure_ (i:=10) (N:=some 39) (v:=?_) (a':=?_) #[tt,tt,tt,tt,tt,tt,tt,tt,tt,tt,tt,ff,ff] rfl rfl (any_of HT_.out (by kernel_rfl)) (fun _ _ _ h=>h) (Or.inl ⟨by rfl,?_⟩) ?_ ?_
            rotate_left
            ·intro w'
             go_simp
             with_reducible rfl
            rotate_left
            ·simp only [Act.put,List.setIfInBounds_toArray,List.set_cons_zero,List.set_cons_succ,i64_w,i32_w]
             rfl
            refine pure_ (i:=11) (N:=some 11) (v:=?_) (a':=?_) #[tt,tt,tt,tt,tt,tt,tt,tt,tt,tt,tt,tt,ff] rfl rfl (any_of HT_.out (by kernel_rfl)) (fun _ _ _ h=>h) (Or.inl ⟨by rfl,?_⟩) ?_ ?_
            rotate_left
            ·intro w'
             go_simp
             with_reducible rfl
            rotate_left
            ·simp only [Act.put,List.setIfInBounds_toArray,List.set_cons_zero,List.set_cons_succ,i64_w,i32_w]
             rfl
            refine pure_ (i:=12) (N:=some 12) (v:=?_) (a':=?_) #[tt,tt,tt,tt,tt,tt,tt,tt,tt,tt,tt,tt,tt] rfl rfl (any_of HT_.out (by kernel_rfl)) (fun _ _ _ h=>h) (Or.inl ⟨by rfl,?_⟩) ?_ ?_
            rotate_left
            ·intro w'
             go_simp
             with_reducible rfl
            rotate_left
            ·simp only [Act.put,List.setIfInBounds_toArray,List.set_cons_zero,List.set_cons_succ,i64_w,i32_w]
             rfl
            refine done_ (done_of HT_.out (by kernel_rfl)) ?_
            try go_wp2_with (first|((with_reducible refine gate_builtin (b:=.append) (xs:=#[.tmp 40,.tmp 42]) rfl ?_);at_builtin;refine Kd.R_append (Kd.int .i64) (w0:=w) w.heap.size rfl (.tmp 40) (.tmp 42) 23 3 (.int .i64 0) 8 rfl Try.underlying23 info3 rfl (by decide) (by omega) u9 x9_2 t437 [.int .i64 t437] (fun k_=>some k_≠(.slice Ao20 t434.length co20:Value).ownBlock) (fun _=>False) rfl rfl ?aP (fun _ hk=>hk.elim) ?aF ?aO ?aB ?aS ?aL ?_;(case aP=>exact rfl);(case aB=>exact(by first|with_reducible exact HB.out|exact bl HB));(case aF=>exact(fun k_ hk=>Kd.fresh' (Kd.R_lt (by first|exact HO436.out|exact kR HO436.out)) k_ hk));(case aO=>exact(by (with_reducible repeat (first|apply Kd.R_alloc|apply Kd.R_drewN|apply Kd.R_drew));exact Kd.R_mono HO_9.out (fun _ hk=>hk.2)));(case aS=>exact(below_size (by first|with_reducible exact HB.out|exact bl HB)));(case aL=>have:=LMc11.out;omega);intro v440 w22 ho hb hg hat;rw [←Ny439.out] at ho;have n0_:=Aside0.mk (Kd.S_after (ok:=(fun k_=>some k_≠(.slice Ao20 t434.length co20:Value).ownBlock)) (by (with_reducible repeat (first|apply Kd.S_alloc|apply Kd.S_drewN|apply Kd.S_drew));exact Kd.S_mono HO_6.out (fun _ hk=>⟨hk.2,hk.1⟩)) hg hat);have n1_:=Aside0.mk (Kd.R_after (ok:=(fun _=>True)) (by first|exact HO436.out|exact kR HO436.out) hg hat);have n2_:=Aside0.mk (hb);have n3_:=Aside0.mk (ho);clear HO_6;clear HO436;clear HB;clear HO_9;have HO_6:=n0_;have HO436:=n1_;have HB:=n2_;have HO441:=n3_;clear n0_ n1_ n2_ n3_;clear ho hb hg hat))
            go_roundg k2
            case measure=>have:=HK1.out;have:=HK2.out;omega
            case rel=>exact⟨(t438),(y439),(wrap64 (x10_2+1)),(by first|rfl|(simp;done)|(simp [*];done)),(by first|rfl|(simp;done)|(simp [*];done)),H',⟨by have:=HK1.out;have:=HK2.out;omega⟩,⟨by (with_reducible repeat (first|apply Kd.S_alloc|apply Kd.S_drewN|apply Kd.S_drew));exact Kd.S_mono HO_6.out (fun _ hk=>hk.2)⟩,⟨by (with_reducible repeat (first|apply Kd.R_alloc|apply Kd.R_drewN|apply Kd.R_drew));exact Kd.R_mono HO441.out (fun _ hk=>trivial)⟩,⟨by first|with_reducible exact HB.out|exact bl HB⟩⟩
          ·rw [if_neg c11] at H
           exact absurd H (by simp)
         ·rw [if_neg c8] at H
          exact absurd H (by simp)
        ·rw [if_neg c7] at H
         exact absurd H (by simp)
       ·rw [if_neg c6] at H
        have c6b0:decide (x10_2<(l0.length:Int))=false:=decide_eq_false c6
        clear c6
        by_cases c23:x6_1.length<5864062014805
        ·rw [if_pos c23] at H
         have LMc23:=Aside0.mk c23
         clear c23
         obtain⟨y442,hy442⟩:∃ y_:List (List Int),y_=(x6_1++[x9_2]):=⟨_,rfl⟩
         replace H:(outriggerref08_Mul.l0 k2 l0 l1 y442 x7_2 (wrap64 (x8_1+1)))=some (r1,r2):=by first|(rw [hy442];with_reducible exact H)|(have H2_:=(Option.bind_some _ _).symm.trans H;rw [hy442];with_reducible exact H2_)|(have H2_:=(Option.bind_some _ _).symm.trans H;with_reducible exact H2_)|with_reducible exact H|(rw [hy442];exact H)|exact H
         have Ny442:=Aside0.mk hy442
         clear hy442
         have H':=Aside0.mk H
         clear H
         obtain⟨Ao25,co25,eo25⟩:=Kd.R_slice HO_9.out
         subst eo25
         go_wp2_with (first|((with_reducible refine gate_builtin (b:=.append) (xs:=#[.tmp 48,.tmp 50]) rfl ?_);at_builtin;refine Kd.S_append (Kd.slice 3 (Kd.int .i64)) (w0:=w) w.heap.size rfl (.tmp 48) (.tmp 50) 22 23 (.slice none 0 0) 24 rfl Try.underlying22 info23 rfl (by decide) (by omega) u6 x6_1 x9_2 [.slice Ao25 x9_2.length co25] (fun _=>True) (fun k_=>some k_=(.slice Ao25 x9_2.length co25:Value).ownBlock) rfl rfl ?aP (fun k_ hk_=>((Kd.R_mono (ok':=fun k_=>((fun _=>True)) k_∧some k_≠(u6:Value).ownBlock) (Kd.R_apart' (HO_9.out) (Kd.S_typed HO_6.out) (by decide)) (fun k_ hk=>⟨trivial,hk.2⟩))).1 k_ hk_.symm) ?aF ?aO ?aB ?aS ?aL ?_;(case aP=>exact Kd.M_row (Kd.R_mono (Kd.R_tight rfl (Kd.R_mono (ok':=fun k_=>((fun _=>True)) k_∧some k_≠(u6:Value).ownBlock) (Kd.R_apart' (HO_9.out) (Kd.S_typed HO_6.out) (by decide)) (fun k_ hk=>⟨trivial,hk.2⟩))) (fun _ h_=>h_)));(case aB=>exact(by first|with_reducible exact HB.out|exact bl HB));(case aF=>exact(fun _ _=>trivial));(case aO=>exact(by (with_reducible repeat (first|apply Kd.S_alloc|apply Kd.S_drewN|apply Kd.S_drew));exact Kd.S_mono HO_6.out (fun k_ hk=>⟨trivial,fun e_=>hk e_⟩)));(case aS=>exact(below_size (by first|with_reducible exact HB.out|exact bl HB)));(case aL=>have:=LMc23.out;omega);intro v443 w24 ho hb hg hat;rw [←Ny442.out] at ho;have n0_:=Aside0.mk (hb);have n1_:=Aside0.mk (ho);clear HB;clear HO_6;clear HO_9;have HB:=n0_;have HO444:=n1_;clear n0_ n1_;clear ho hb hg hat))
         go_roundg k2
         case measure=>have:=HK1.out;have:=HK2.out;omega
         case rel=>exact⟨(y442),(x7_2),(wrap64 (x8_1+1)),(by first|rfl|(simp;done)|(simp [*];done)),(by first|rfl|(simp;done)|(simp [*];done)),H',⟨by have:=HK1.out;have:=HK2.out;omega⟩,⟨by first|exact HO444.out|exact kS HO444.out⟩,⟨by first|with_reducible exact HB.out|exact bl HB⟩⟩
        ·rw [if_neg c23] at H
         exact absurd H (by simp)
    ·rw [if_neg c5] at H
     have c5b0:decide (x8_1<(l0.length:Int))=false:=decide_eq_false c5
     clear c5
     simp only [Option.some.injEq,Prod.mk.injEq] at H
     obtain⟨rfl,rfl⟩:=H
     go_wp2
     go_ret2
     exact⟨_,by first|rfl|(simp [errW_none,errW_some]<;>rfl)|(simp [*,errW_none,errW_some]<;>rfl),by first|exact HO_6.out|exact kS HO_6.out,by first|with_reducible exact HB.out|exact bl HB⟩
 ·replace c4:=Bool.eq_false_iff.mpr c4
  subst c4
  have H1:(some (([]:List (List Int)),true))=some (r1,r2):=by rw [if_neg (show ¬(false=true) by decide)] at H;exact H
  clear H
  have H:=H1
  clear H1
  simp only [Option.some.injEq,Prod.mk.injEq] at H
  obtain⟨rfl,rfl⟩:=H
  go_enter Try.func13,Try.ntmps13
  go_wp2_with (first|((with_reducible refine gate_callee (f:=30) rfl ?_);refine goesL_ (some 15) rfl rfl Try.func30 (by kernel_rfl) rfl #[.slice A0 l0.length c0,.slice A1 l1.length c1] rfl (by exact mA _ _) ?_;(with_reducible refine(outriggerref08_both.calls k _ _ l0 _ _ l1 false _ ?side1 ?side2 ?side3 ?side4 A3.out).mono ?_);(case side1=>first|exact HR0.out|exact kC HR0.out);(case side2=>exact HC0.out);(case side3=>first|exact HR1.out|exact kC HR1.out);(case side4=>exact HC1.out);rintro e w' ⟨rfl,⟨nd,rfl⟩⟩;refine⟨_,rfl,?_⟩))
  go_ret2
  exact⟨_,by first|rfl|(simp [errW_none,errW_some]<;>rfl)|(simp [*,errW_none,errW_some]<;>rfl),by first|exact Kd.S_nil _ _ _ _ _|exact Kd.N_nil _ _ _ _ _|exact Kd.V_nil _ _ _ _ _|exact Kd.Q_nil _ _ _ _ _|exact Kd.R_nil _ _ _ _ _,by first|with_reducible exact HB.out|exact bl HB⟩
mutual
def outriggerref08_Apply.j0:Nat→List (List Int)→List Int→Bool→Option (List Int × Bool)
  | 0,_,_,_=>none
  | k+1,x0,x1,x20=>if x20=true then (some (([]:List Int),true)) else (outriggerref08_Apply.l0 k x0 x1 ([]:List Int) false 0)
def outriggerref08_Apply.l0:Nat→List (List Int)→List Int→List Int→Bool→Int→Option (List Int × Bool)
  | 0,_,_,_,_,_=>none
  | k+1,x0,x1,x6,x7,x8=>if x8<(x0.length:Int) then (if 0≤x8 then ((outriggerref06_Dot.f k (rd_L1 x0 x8) x1).bind fun bt447=>(if x6.length<17592186044416 then ((some (x6++[bt447.1]:List Int)).bind fun y449=>(if x7=true then (outriggerref08_Apply.l0 k x0 x1 y449 true (wrap64 (x8+1))) else (outriggerref08_Apply.l0 k x0 x1 y449 bt447.2 (wrap64 (x8+1))))) else (none))) else (none)) else (some (x6,x7))
end
def outriggerref08_Apply.f (k:Nat) (l0:List (List Int)) (l1:List Int):Option (List Int × Bool):=(outriggerref08_Sane.f k l0).bind fun t445=>(if t445=true then (outriggerref08_Apply.j0 k l0 l1 ((l1.length:Int) != (l0.length:Int))) else (outriggerref08_Apply.j0 k l0 l1 true))
set_option maxHeartbeats 8000000 in
set_option maxRecDepth 100000 in
theorem outriggerref08_Apply.calls (k:Nat) (A0:Option Addr) (c0:Nat) (l0:List (List Int)) (A1:Option Addr) (c1:Nat) (l1:List Int) (r1:List Int) (r2:Bool) (w:World) (hr0:Kd.C (Kd.slice 3 (Kd.int .i64)) w A0 l0.length l0) (hc0:l0.length≤c0) (hr1:Kd.C (Kd.int .i64) w A1 l1.length l1) (hc1:l1.length≤c1) (h:outriggerref08_Apply.f k l0 l1=some (r1,r2)) :
  Calls Try.prog 15 #[.slice A0 l0.length c0,.slice A1 l1.length c1] w fun e w'=>∃ v0_:Value,e=.returned (.tuple #[v0_,.bool r2])∧Kd.R (Kd.int .i64) 3 w' w.heap.size (fun _=>True) v0_ r1∧Below w.heap.size w w':=by
 have HR0:=Aside0.mk hr0
 have HC0:=Aside0.mk hc0
 clear hr0 hc0
 have HR1:=Aside0.mk hr1
 have HC1:=Aside0.mk hc1
 clear hr1 hc1
 have HB:=Aside0.mk (Below.refl w.heap.size w)
 have H:((outriggerref08_Sane.f k l0).bind fun t445=>(if t445=true then (outriggerref08_Apply.j0 k l0 l1 ((l1.length:Int) != (l0.length:Int))) else (outriggerref08_Apply.j0 k l0 l1 true)))=some (r1,r2):=h
 clear h
 have HC3:=Aside0.mk H
 clear H
 go_enter Try.func15,Try.ntmps15
 go_upto_region 1 with (fail)
 go_cut [20] (fun v20 wc=>∃ (kq:Nat) (x20_2:Bool),v20=.bool x20_2∧Aside0 (outriggerref08_Apply.j0 kq l0 l1 x20_2=some (r1,r2))∧Aside0 (kq≤k)∧Aside0 (Below w.heap.size w wc))
 case first =>
  have H:=HC3.out
  clear HC3
  replace H:=Option.bind_eq_some_iff.mp H
  obtain⟨t445,A40,H⟩:=H
  replace H:(if t445=true then (outriggerref08_Apply.j0 k l0 l1 ((l1.length:Int) != (l0.length:Int))) else (outriggerref08_Apply.j0 k l0 l1 true))=some (r1,r2):=H
  have A4:=Aside0.mk A40
  clear A40
  by_cases c5:t445=true
  ·subst c5
   have H1:(outriggerref08_Apply.j0 k l0 l1 ((l1.length:Int) != (l0.length:Int)))=some (r1,r2):=by rw [if_pos rfl] at H;exact H
   clear H
   have H:=H1
   clear H1
   have H':=Aside0.mk H
   clear H
   go_wp2_with (first|((with_reducible refine gate_callee (f:=19) rfl ?_);refine goesL_ (some 12) rfl rfl Try.func19 (by kernel_rfl) rfl #[.slice A0 l0.length c0] rfl (by exact mA _ _) ?_;(with_reducible refine(outriggerref08_Sane.calls k _ _ l0 true _ ?side1 ?side2 A4.out).mono ?_);(case side1=>first|exact(Kd.C_below HR0.out HB.out)|exact kC (Kd.C_below HR0.out HB.out));(case side2=>exact HC0.out);rintro e w' ⟨rfl,⟨nd,rfl⟩⟩;refine⟨_,rfl,?_⟩))
   go_meet
   case rel=>exact⟨_,(((l1.length:Int) != (l0.length:Int))),(by first|rfl|(simp;done)|(simp [*];done)),H',⟨by first|omega|exact Nat.le_refl _⟩,⟨by first|with_reducible exact HB.out|exact bl HB⟩⟩
  ·replace c5:=Bool.eq_false_iff.mpr c5
   subst c5
   have H1:(outriggerref08_Apply.j0 k l0 l1 true)=some (r1,r2):=by rw [if_neg (show ¬(false=true) by decide)] at H;exact H
   clear H
   have H:=H1
   clear H1
   have H':=Aside0.mk H
   clear H
   go_wp2_with (first|((with_reducible refine gate_callee (f:=19) rfl ?_);refine goesL_ (some 12) rfl rfl Try.func19 (by kernel_rfl) rfl #[.slice A0 l0.length c0] rfl (by exact mA _ _) ?_;(with_reducible refine(outriggerref08_Sane.calls k _ _ l0 false _ ?side1 ?side2 A4.out).mono ?_);(case side1=>first|exact(Kd.C_below HR0.out HB.out)|exact kC (Kd.C_below HR0.out HB.out));(case side2=>exact HC0.out);rintro e w' ⟨rfl,⟨nd,rfl⟩⟩;refine⟨_,rfl,?_⟩))
   go_meet
   case rel=>exact⟨_,(true),(by first|rfl|(simp;done)|(simp [*];done)),H',⟨by first|omega|exact Nat.le_refl _⟩,⟨by first|with_reducible exact HB.out|exact bl HB⟩⟩
 case rest =>
  clear HC3
  try clear c1
  try clear p2
  try clear c5
  obtain⟨kq,x20_2,rfl,HA,HJ2,HB⟩:=hcut
  cases kq with
  | zero=>exact absurd HA.out (by simp [outriggerref08_Apply.j0])
  | succ kj2 =>
   have H:=HA.out
   clear HA
   simp only [outriggerref08_Apply.j0] at H
   by_cases c6:x20_2=true
   ·subst c6
    have H1:(some (([]:List Int),true))=some (r1,r2):=by rw [if_pos rfl] at H;exact H
    clear H
    have H:=H1
    clear H1
    simp only [Option.some.injEq,Prod.mk.injEq] at H
    obtain⟨rfl,rfl⟩:=H
    go_wp2
    go_ret2
    exact⟨_,by first|rfl|(simp [errW_none,errW_some]<;>rfl)|(simp [*,errW_none,errW_some]<;>rfl),by first|exact Kd.R_nil _ _ _ _ _|exact Kd.N_nil _ _ _ _ _|exact Kd.V_nil _ _ _ _ _|exact Kd.Q_nil _ _ _ _ _|exact Kd.S_nil _ _ _ _ _,by first|with_reducible exact HB.out|exact bl HB⟩
   ·replace c6:=Bool.eq_false_iff.mpr c6
    subst c6
    have H1:(outriggerref08_Apply.l0 kj2 l0 l1 ([]:List Int) false 0)=some (r1,r2):=by rw [if_neg (show ¬(false=true) by decide)] at H;exact H
    clear H
    have H:=H1
    clear H1
    have H':=Aside0.mk H
    clear H
    go_wp2
    go_loopg [6,7,8] kj2 (fun kq v6 v7 v8 w'=>∃ (x6_2:List Int) (x7_2:Bool) (x8_2:Int),v7=.bool x7_2∧v8=.int .i64 x8_2∧Aside0 (outriggerref08_Apply.l0 kq l0 l1 x6_2 x7_2 x8_2=some (r1,r2))∧Aside0 (kq≤kj2)∧Aside0 (Kd.R (Kd.int .i64) 3 w' w.heap.size (fun _=>True) v6 x6_2)∧Aside0 (Below w.heap.size w w'))
    case atStart=>exact⟨(([]:List Int)),(false),(0),(by first|rfl|(simp;done)|(simp [*];done)),(by first|rfl|(simp;done)|(simp [*];done)),H',⟨Nat.le_refl _⟩,⟨by first|exact Kd.R_nil _ _ _ _ _|exact Kd.N_nil _ _ _ _ _|exact Kd.V_nil _ _ _ _ _|exact Kd.Q_nil _ _ _ _ _|exact Kd.S_nil _ _ _ _ _⟩,⟨by first|with_reducible exact HB.out|exact bl HB⟩⟩
    case round =>
     clear H'
     try clear c1
     try clear p2
     try clear c5
     try clear c6
     try clear p2
     obtain⟨x6_2,x7_2,x8_2,rfl,rfl,HA,HK2,HO_6,HB⟩:=hrel
     cases gk with
     | zero=>exact absurd HA.out (by simp [outriggerref08_Apply.l0])
     | succ k2 =>
      have H:=HA.out
      clear HA
      simp only [outriggerref08_Apply.l0] at H
      by_cases c7:x8_2<(l0.length:Int)
      ·rw [if_pos c7] at H
       have c7b0:decide (x8_2<(l0.length:Int))=true:=decide_eq_true c7
       clear c7
       by_cases c8:0≤x8_2
       ·rw [if_pos c8] at H
        have c8b0:decide (0≤x8_2)=true:=decide_eq_true c8
        clear c8
        replace H:=Option.bind_eq_some_iff.mp H
        obtain⟨⟨t447,t448⟩,A90,H⟩:=H
        replace H:(if x6_2.length<17592186044416 then ((some (x6_2++[t447]:List Int)).bind fun y449=>(if x7_2=true then (outriggerref08_Apply.l0 k2 l0 l1 y449 true (wrap64 (x8_2+1))) else (outriggerref08_Apply.l0 k2 l0 l1 y449 t448 (wrap64 (x8_2+1))))) else (none))=some (r1,r2):=H
        have A9:=Aside0.mk A90
        clear A90
        by_cases c10:x6_2.length<17592186044416
        ·rw [if_pos c10] at H
         have LMc10:=Aside0.mk c10
         clear c10
         obtain⟨y449,hy449⟩:∃ y_:List Int,y_=(x6_2++[t447]):=⟨_,rfl⟩
         replace H:(if x7_2=true then (outriggerref08_Apply.l0 k2 l0 l1 y449 true (wrap64 (x8_2+1))) else (outriggerref08_Apply.l0 k2 l0 l1 y449 t448 (wrap64 (x8_2+1))))=some (r1,r2):=by first|(rw [hy449];with_reducible exact H)|(have H2_:=(Option.bind_some _ _).symm.trans H;rw [hy449];with_reducible exact H2_)|(have H2_:=(Option.bind_some _ _).symm.trans H;with_reducible exact H2_)|with_reducible exact H|(rw [hy449];exact H)|exact H
         have Ny449:=Aside0.mk hy449
         clear hy449
         by_cases c11:x7_2=true
         ·subst c11
          have H1:(outriggerref08_Apply.l0 k2 l0 l1 y449 true (wrap64 (x8_2+1)))=some (r1,r2):=by rw [if_pos rfl] at H;exact H
          clear H
          have H:=H1
          clear H1
          have H':=Aside0.mk H
          clear H
          have p446:0≤(x8_2:Int):=of_decide_eq_true (by first|(with_reducible assumption)|assumption)
          have q446:x8_2<(l0.length:Int):=of_decide_eq_true (by first|(with_reducible assumption)|assumption)
          obtain⟨ad446,A446_0,c446_0,e446,hx446_0,hl446_0,hi446_0⟩:=at_L1 HR0.out x8_2 p446 q446
          cases e446
          replace hx446_0:=(HB.out.cell (World.block_lt_of_cell? w _ hx446_0)).trans hx446_0
          have HR446_0:=Aside0.mk hi446_0
          have HC446_0:=Aside0.mk hl446_0
          clear hi446_0 hl446_0
          replace p446:=eq_true p446
          replace q446:=eq_true q446
          go_wp2_with (first|((with_reducible refine gate_callee (f:=35) rfl ?_);refine goesL_ (some 33) rfl rfl Try.func35 (by kernel_rfl) rfl #[.slice A446_0 (rd_L1 l0 x8_2).length c446_0,.slice A1 l1.length c1] rfl (by exact mA _ _) ?_;(with_reducible refine(outriggerref06_Dot.calls k2 _ _ (rd_L1 l0 x8_2) _ _ l1 t447 t448 _ ?side1 ?side2 ?side3 ?side4 A9.out).mono ?_);(case side1=>first|exact(Kd.C_below HR446_0.out HB.out)|exact kC (Kd.C_below HR446_0.out HB.out));(case side2=>exact HC446_0.out);(case side3=>first|exact(Kd.C_below HR1.out HB.out)|exact kC (Kd.C_below HR1.out HB.out));(case side4=>exact HC1.out);rintro e w12 ⟨rfl,hb⟩;refine⟨_,rfl,?_⟩;have n0_:=Aside0.mk (Kd.R_below (by first|exact HO_6.out|exact kR HO_6.out) hb);have n1_:=Aside0.mk (below_step (by first|with_reducible exact HB.out|exact bl HB) hb);clear HO_6;clear HB;have HO_6:=n0_;have HB:=n1_;clear n0_ n1_;(try clear hb);(try clear hb2);(try clear hk);(try clear hi))|((with_reducible refine gate_builtin (b:=.append) (xs:=#[.tmp 36,.tmp 38]) rfl ?_);(try (refine gate_guard (by rfl) ?_;dsimp only));at_builtin;refine Kd.R_append (Kd.int .i64) (w0:=w) w.heap.size rfl (.tmp 36) (.tmp 38) 23 3 (.int .i64 0) 8 rfl Try.underlying23 info3 rfl (by decide) (by omega) u6 x6_2 t447 [.int .i64 t447] (fun _=>True) (fun _=>False) rfl rfl ?aP (fun _ hk=>hk.elim) ?aF ?aO ?aB ?aS ?aL ?_;(case aP=>exact rfl);(case aB=>exact(by first|with_reducible exact HB.out|exact bl HB));(case aF=>exact(fun _ _=>trivial));(case aO=>exact(by first|exact HO_6.out|exact kR HO_6.out));(case aS=>exact(below_size (by first|with_reducible exact HB.out|exact bl HB)));(case aL=>have:=LMc10.out;omega);intro v450 w13 ho hb hg hat;rw [←Ny449.out] at ho;have n0_:=Aside0.mk (hb);have n1_:=Aside0.mk (ho);clear HB;clear HO_6;have HB:=n0_;have HO451:=n1_;clear n0_ n1_;clear ho hb hg hat))
          go_roundg k2
          case measure=>have:=HJ2.out;have:=HK2.out;omega
          case rel=>exact⟨(y449),(true),(wrap64 (x8_2+1)),(by first|rfl|(simp;done)|(simp [*];done)),(by first|rfl|(simp;done)|(simp [*];done)),H',⟨by have:=HJ2.out;have:=HK2.out;omega⟩,⟨by first|exact HO451.out|exact kR HO451.out⟩,⟨by first|with_reducible exact HB.out|exact bl HB⟩⟩
         ·replace c11:=Bool.eq_false_iff.mpr c11
          subst c11
          have H1:(outriggerref08_Apply.l0 k2 l0 l1 y449 t448 (wrap64 (x8_2+1)))=some (r1,r2):=by rw [if_neg (show ¬(false=true) by decide)] at H;exact H
          clear H
          have H:=H1
          clear H1
          have H':=Aside0.mk H
          clear H
          have p446:0≤(x8_2:Int):=of_decide_eq_true (by first|(with_reducible assumption)|assumption)
          have q446:x8_2<(l0.length:Int):=of_decide_eq_true (by first|(with_reducible assumption)|assumption)
          obtain⟨ad446,A446_0,c446_0,e446,hx446_0,hl446_0,hi446_0⟩:=at_L1 HR0.out x8_2 p446 q446
          cases e446
          replace hx446_0:=(HB.out.cell (World.block_lt_of_cell? w _ hx446_0)).trans hx446_0
          have HR446_0:=Aside0.mk hi446_0
          have HC446_0:=Aside0.mk hl446_0
          clear hi446_0 hl446_0
          replace p446:=eq_true p446
          replace q446:=eq_true q446
          go_wp2_with (first|((with_reducible refine gate_callee (f:=35) rfl ?_);refine goesL_ (some 33) rfl rfl Try.func35 (by kernel_rfl) rfl #[.slice A446_0 (rd_L1 l0 x8_2).length c446_0,.slice A1 l1.length c1] rfl (by exact mA _ _) ?_;(with_reducible refine(outriggerref06_Dot.calls k2 _ _ (rd_L1 l0 x8_2) _ _ l1 t447 t448 _ ?side1 ?side2 ?side3 ?side4 A9.out).mono ?_);(case side1=>first|exact(Kd.C_below HR446_0.out HB.out)|exact kC (Kd.C_below HR446_0.out HB.out));(case side2=>exact HC446_0.out);(case side3=>first|exact(Kd.C_below HR1.out HB.out)|exact kC (Kd.C_below HR1.out HB.out));(case side4=>exact HC1.out);rintro e w14 ⟨rfl,hb⟩;refine⟨_,rfl,?_⟩;have n0_:=Aside0.mk (Kd.R_below (by first|exact HO_6.out|exact kR HO_6.out) hb);have n1_:=Aside0.mk (below_step (by first|with_reducible exact HB.out|exact bl HB) hb);clear HO_6;clear HB;have HO_6:=n0_;have HB:=n1_;clear n0_ n1_;(try clear hb);(try clear hb2);(try clear hk);(try clear hi))|((with_reducible refine gate_builtin (b:=.append) (xs:=#[.tmp 36,.tmp 38]) rfl ?_);(try (refine gate_guard (by rfl) ?_;dsimp only));at_builtin;refine Kd.R_append (Kd.int .i64) (w0:=w) w.heap.size rfl (.tmp 36) (.tmp 38) 23 3 (.int .i64 0) 8 rfl Try.underlying23 info3 rfl (by decide) (by omega) u6 x6_2 t447 [.int .i64 t447] (fun _=>True) (fun _=>False) rfl rfl ?aP (fun _ hk=>hk.elim) ?aF ?aO ?aB ?aS ?aL ?_;(case aP=>exact rfl);(case aB=>exact(by first|with_reducible exact HB.out|exact bl HB));(case aF=>exact(fun _ _=>trivial));(case aO=>exact(by first|exact HO_6.out|exact kR HO_6.out));(case aS=>exact(below_size (by first|with_reducible exact HB.out|exact bl HB)));(case aL=>have:=LMc10.out;omega);intro v450 w15 ho hb hg hat;rw [←Ny449.out] at ho;have n0_:=Aside0.mk (hb);have n1_:=Aside0.mk (ho);clear HB;clear HO_6;have HB:=n0_;have HO451:=n1_;clear n0_ n1_;clear ho hb hg hat))
          go_roundg k2
          case measure=>have:=HJ2.out;have:=HK2.out;omega
          case rel=>exact⟨(y449),(t448),(wrap64 (x8_2+1)),(by first|rfl|(simp;done)|(simp [*];done)),(by first|rfl|(simp;done)|(simp [*];done)),H',⟨by have:=HJ2.out;have:=HK2.out;omega⟩,⟨by first|exact HO451.out|exact kR HO451.out⟩,⟨by first|with_reducible exact HB.out|exact bl HB⟩⟩
        ·rw [if_neg c10] at H
         exact absurd H (by simp)
       ·rw [if_neg c8] at H
        exact absurd H (by simp)
      ·rw [if_neg c7] at H
       have c7b0:decide (x8_2<(l0.length:Int))=false:=decide_eq_false c7
       clear c7
       simp only [Option.some.injEq,Prod.mk.injEq] at H
       obtain⟨rfl,rfl⟩:=H
       go_wp2
       go_ret2
       exact⟨_,by first|rfl|(simp [errW_none,errW_some]<;>rfl)|(simp [*,errW_none,errW_some]<;>rfl),by first|exact HO_6.out|exact kR HO_6.out,by first|with_reducible exact HB.out|exact bl HB⟩
mutual
def outriggerref08_One.j0:Nat→Int→Bool→Option ((List (List Int)))
  | 0,_,_=>none
  | k+1,x0,x11=>if x11=true then (some ([]:List (List Int))) else (outriggerref08_One.l0 k x0 ([]:List (List Int)) 0)
def outriggerref08_One.l0:Nat→Int→List (List Int)→Int→Option ((List (List Int)))
  | 0,_,_,_=>none
  | k+1,x0,x3,x4=>if x4<x0 then (if 0≤x0 then (if (x0:Int).toNat≤35184372088832 then ((some (List.replicate (x0:Int).toNat 0:List Int)).bind fun y452=>(if 0≤x4 then (if x4<(y452.length:Int) then (if x3.length<5864062014805 then (outriggerref08_One.l0 k x0 (x3++[(y452.set (x4:Int).toNat 4294967296)]) (wrap64 (x4+1))) else (none)) else (none)) else (none))) else (none)) else (none)) else (some x3)
end
def outriggerref08_One.f (k:Nat) (a0:Int):Option ((List (List Int))):=if a0<1 then (outriggerref08_One.j0 k a0 true) else (outriggerref08_One.j0 k a0 (decide (a0 > 6)))
set_option maxHeartbeats 8000000 in
set_option maxRecDepth 100000 in
theorem outriggerref08_One.calls (k:Nat) (a0:Int) (r:List (List Int)) (w:World) (h:outriggerref08_One.f k a0=some r) :
  Calls Try.prog 21 #[.int .i64 a0] w fun e w'=>∃ v0_:Value,e=.returned (v0_)∧Kd.S (Kd.slice 3 (Kd.int .i64)) 23 w' w.heap.size (fun _=>True) v0_ r∧Below w.heap.size w w':=by
 have HB:=Aside0.mk (Below.refl w.heap.size w)
 have H:(if a0<1 then (outriggerref08_One.j0 k a0 true) else (outriggerref08_One.j0 k a0 (decide (a0 > 6))))=some r:=h
 clear h
 have HC2:=Aside0.mk H
 clear H
 go_enter Try.func21,Try.ntmps21
 go_upto_region 1 with (fail)
 go_cut [11] (fun v11 wc=>∃ (kq:Nat) (x11_1:Bool),v11=.bool x11_1∧Aside0 (outriggerref08_One.j0 kq a0 x11_1=some r)∧Aside0 (kq≤k)∧Aside0 (Below w.heap.size w wc))
 case first =>
  have H:=HC2.out
  clear HC2
  by_cases c3:a0<1
  ·rw [if_pos c3] at H
   have c3b0:decide (a0<1)=true:=decide_eq_true c3
   clear c3
   (first|rw [c3b0]|(simp only [i64_w,i32_w];rw [c3b0])|skip)
   have H':=Aside0.mk H
   clear H
   go_wp2
   go_meet
   case rel=>exact⟨_,(true),(by first|rfl|(simp;done)|(simp [*];done)),H',⟨by first|omega|exact Nat.le_refl _⟩,⟨by first|with_reducible exact HB.out|exact bl HB⟩⟩
  ·rw [if_neg c3] at H
   have c3b0:decide (a0<1)=false:=decide_eq_false c3
   clear c3
   (first|rw [c3b0]|(simp only [i64_w,i32_w];rw [c3b0])|skip)
   have H':=Aside0.mk H
   clear H
   go_wp2
   go_meet
   case rel=>exact⟨_,(decide (a0 > 6)),(by first|rfl|(simp;done)|(simp [*];done)),H',⟨by first|omega|exact Nat.le_refl _⟩,⟨by first|with_reducible exact HB.out|exact bl HB⟩⟩
 case rest =>
  clear HC2
  try clear c2
  try clear p2
  try clear c3
  try clear c3b0
  obtain⟨kq,x11_1,rfl,HA,HJ1,HB⟩:=hcut
  cases kq with
  | zero=>exact absurd HA.out (by simp [outriggerref08_One.j0])
  | succ kj1 =>
   have H:=HA.out
   clear HA
   simp only [outriggerref08_One.j0] at H
   by_cases c4:x11_1=true
   ·subst c4
    have H1:(some ([]:List (List Int)))=some r:=by rw [if_pos rfl] at H;exact H
    clear H
    have H:=H1
    clear H1
    obtain rfl:=Option.some.inj H
    go_wp2
    go_ret
    exact⟨_,by first|rfl|(simp [errW_none,errW_some]<;>rfl)|(simp [*,errW_none,errW_some]<;>rfl),by first|exact Kd.S_nil _ _ _ _ _|exact Kd.N_nil _ _ _ _ _|exact Kd.V_nil _ _ _ _ _|exact Kd.Q_nil _ _ _ _ _|exact Kd.R_nil _ _ _ _ _,by first|with_reducible exact HB.out|exact bl HB⟩
   ·replace c4:=Bool.eq_false_iff.mpr c4
    subst c4
    have H1:(outriggerref08_One.l0 kj1 a0 ([]:List (List Int)) 0)=some r:=by rw [if_neg (show ¬(false=true) by decide)] at H;exact H
    clear H
    have H:=H1
    clear H1
    have H':=Aside0.mk H
    clear H
    go_wp2
    go_loopg [3,4] kj1 (fun kq v3 v4 w'=>∃ (x3_2:List (List Int)) (x4_2:Int),v4=.int .i64 x4_2∧Aside0 (outriggerref08_One.l0 kq a0 x3_2 x4_2=some r)∧Aside0 (kq≤kj1)∧Aside0 (Kd.S (Kd.slice 3 (Kd.int .i64)) 23 w' w.heap.size (fun _=>True) v3 x3_2)∧Aside0 (Below w.heap.size w w'))
    case atStart=>exact⟨(([]:List (List Int))),(0),(by first|rfl|(simp;done)|(simp [*];done)),H',⟨Nat.le_refl _⟩,⟨by first|exact Kd.S_nil _ _ _ _ _|exact Kd.N_nil _ _ _ _ _|exact Kd.V_nil _ _ _ _ _|exact Kd.Q_nil _ _ _ _ _|exact Kd.R_nil _ _ _ _ _⟩,⟨by first|with_reducible exact HB.out|exact bl HB⟩⟩
    case round =>
     clear H'
     try clear c2
     try clear p2
     try clear c3
     try clear c3b0
     try clear c4
     try clear p2
     obtain⟨x3_2,x4_2,rfl,HA,HK2,HO_3,HB⟩:=hrel
     cases gk with
     | zero=>exact absurd HA.out (by simp [outriggerref08_One.l0])
     | succ k2 =>
      have H:=HA.out
      clear HA
      simp only [outriggerref08_One.l0] at H
      by_cases c5:x4_2<a0
      ·rw [if_pos c5] at H
       have c5b0:decide (x4_2<a0)=true:=decide_eq_true c5
       clear c5
       by_cases c6:0≤a0
       ·rw [if_pos c6] at H
        have c6b0:=eq_true c6
        have c6b1:decide (0≤a0)=true:=decide_eq_true c6
        clear c6
        by_cases c7:(a0:Int).toNat≤35184372088832
        ·rw [if_pos c7] at H
         have c7b0:=eq_true c7
         have c7b1:decide ((a0:Int).toNat≤35184372088832)=true:=decide_eq_true c7
         clear c7
         obtain⟨y452,hy452⟩:∃ y_:List Int,y_=(List.replicate (a0:Int).toNat 0):=⟨_,rfl⟩
         replace H:(if 0≤x4_2 then (if x4_2<(y452.length:Int) then (if x3_2.length<5864062014805 then (outriggerref08_One.l0 k2 a0 (x3_2++[(y452.set (x4_2:Int).toNat 4294967296)]) (wrap64 (x4_2+1))) else (none)) else (none)) else (none))=some r:=by first|(rw [hy452];with_reducible exact H)|(have H2_:=(Option.bind_some _ _).symm.trans H;rw [hy452];with_reducible exact H2_)|(have H2_:=(Option.bind_some _ _).symm.trans H;with_reducible exact H2_)|with_reducible exact H|(rw [hy452];exact H)|exact H
         have Ny452:=Aside0.mk hy452
         clear hy452
         by_cases c8:0≤x4_2
         ·rw [if_pos c8] at H
          have c8b0:decide (0≤x4_2)=true:=decide_eq_true c8
          clear c8
          by_cases c9:x4_2<(y452.length:Int)
          ·rw [if_pos c9] at H
           have c9b0:decide (x4_2<(y452.length:Int))=true:=decide_eq_true c9
           clear c9
           obtain⟨y455,hy455⟩:∃ y_:List Int,y_=(y452.set (x4_2:Int).toNat 4294967296):=⟨_,rfl⟩
           replace H:(if x3_2.length<5864062014805 then (outriggerref08_One.l0 k2 a0 (x3_2++[y455]) (wrap64 (x4_2+1))) else (none))=some r:=by first|(rw [hy455];with_reducible exact H)|(have H2_:=(Option.bind_some _ _).symm.trans H;rw [hy455];with_reducible exact H2_)|(have H2_:=(Option.bind_some _ _).symm.trans H;with_reducible exact H2_)|with_reducible exact H|(rw [hy455];exact H)|exact H
           have Ny455:=Aside0.mk hy455
           clear hy455
           by_cases c11:x3_2.length<5864062014805
           ·rw [if_pos c11] at H
            have LMc11:=Aside0.mk c11
            clear c11
            obtain⟨y456,hy456⟩:∃ y_:List (List Int),y_=(x3_2++[y455]):=⟨_,rfl⟩
            replace H:(outriggerref08_One.l0 k2 a0 y456 (wrap64 (x4_2+1)))=some r:=by first|(rw [hy456];with_reducible exact H)|(have H2_:=(Option.bind_some _ _).symm.trans H;rw [hy456];with_reducible exact H2_)|(have H2_:=(Option.bind_some _ _).symm.trans H;with_reducible exact H2_)|with_reducible exact H|(rw [hy456];exact H)|exact H
            have Ny456:=Aside0.mk hy456
            clear hy456
            have H':=Aside0.mk H
            clear H
            go_wp2_with (first|((with_reducible refine gate_dst (N:=18) rfl ?_);refine Kd.R_make (Kd.int .i64) _ 3 rfl (N:=18) rfl 23 _ _ rfl a0 rfl rfl Try.underlying23 (.int .i64 0) 8 info3 rfl (by decide) (by omega) 0 (ok:=fun _=>True) (okp:=fun _=>True) rfl (fun _ hk=>hk) trivial (of_decide_eq_true (by first|(with_reducible assumption)|assumption)) (Nat.le_trans (Nat.mul_le_mul_right _ (of_decide_eq_true (by first|(with_reducible assumption)|assumption):a0.toNat≤35184372088832)) (by omega)) (Below.refl _ _) (Nat.le_refl _) ?_;intro v453 w12 ho13 hb hg_ hnew_;clear hg_ hnew_;(first|rw [←Ny452.out] at ho13|(simp only [Int.reduceToNat] at ho13;rw [←Ny452.out] at ho13));have n0_:=Aside0.mk (Kd.S_elder' (by first|exact HO_3.out|exact kS HO_3.out) (Kd.R_base ho13) hb);have n1_:=Aside0.mk (Kd.R_lower ho13 (below_size (by first|with_reducible exact HB.out|exact bl HB)));have n2_:=Aside0.mk (below_step (by first|with_reducible exact HB.out|exact bl HB) hb);clear HO_3;clear HB;have HO_3:=n0_;have HO454:=n1_;have HB:=n2_;clear n0_ n1_ n2_;clear hb ho13;have p10:0≤(x4_2:Int):=of_decide_eq_true (by first|(with_reducible assumption)|assumption);have q10:(x4_2:Int)<((y452.length:Int):Int):=of_decide_eq_true (by first|(with_reducible assumption)|assumption);obtain⟨go10,co10,eo10,gb10,gl10,cl10,HG10⟩:=Kd.R_form HO454.out (by omega);(first|cases eo10|(injection eo10 with ea_ en_ ec_;(first|subst ea_|(injection ea_ with ea_;subst ea_));subst ec_;clear en_));have GB10:=Aside0.mk gb10;have GG10:=Aside0.mk HG10;clear gb10 gl10 HG10;obtain⟨hx10_0,hf10_0⟩:=Kd.R_celln 0 HO454.out (x4_2:Int) p10 q10;replace p10:=eq_true p10;replace q10:=eq_true q10;obtain⟨hy14_,hz14_⟩:=Kd.R_celln 0 HO454.out (x4_2:Int) (of_decide_eq_true (by first|(with_reducible assumption)|assumption)) (of_decide_eq_true (by first|(with_reducible assumption)|assumption));have HP14:=Kd.R_putg HO454.out (x4_2:Int) 4294967296)|((with_reducible refine gate_store (t:=3) (p:=21) rfl ?_);refine store_event (t:=3) (p:=21) (v:=?vo_w15) (w1:=(w12.setCell ⟨go10,(x4_2:Int).toNat,none⟩ (.int .i64 4294967296))) ?hg ?ho ?hn ?hr ?_;(case ho=>rfl);(case hg=>rfl);(case hn=>rfl);(case hr=>first|(go_simp;done)|(go_simp;rfl));intro w15 hw;have hg:w12.grownBy w15 (some go10):=(by rw [hw];exact HP14.2);have hp_:Kd.R (Kd.int .i64) 3 w15 w.heap.size (fun _=>True) (.slice (some ⟨go10,0,none⟩) y452.length co10) y455:=(by rw [hw,Ny455.out];exact HP14.1);clear HP14;have n0_:=Aside0.mk (Kd.S_after (v:=(.slice (some ⟨go10,0,none⟩) y452.length co10)) (v1:=(.slice (some ⟨go10,0,none⟩) y452.length co10)) (ok:=(fun _=>True)) (by first|exact HO_3.out|exact kS HO_3.out) hg (.inl rfl));have n1_:=Aside0.mk (hp_);have n2_:=Aside0.mk ((by rw [hw];exact below_set (HB.out) GB10.out:Below w.heap.size w w15));clear HO_3;clear HO454;clear HB;have HO_3:=n0_;have HO454:=n1_;have HB:=n2_;clear n0_ n1_ n2_;clear hg hw hp_)|((with_reducible refine gate_builtin (b:=.append) (xs:=#[.tmp 22,.tmp 24]) rfl ?_);at_builtin;refine Kd.S_append (Kd.slice 3 (Kd.int .i64)) (w0:=w) w.heap.size rfl (.tmp 22) (.tmp 24) 22 23 (.slice none 0 0) 24 rfl Try.underlying22 info23 rfl (by decide) (by omega) u3 x3_2 y455 [.slice (some ⟨go10,0,none⟩) y452.length co10] (fun _=>True) (fun k_=>some k_=(.slice (some ⟨go10,0,none⟩) y452.length co10:Value).ownBlock) rfl rfl ?aP (fun k_ hk_=>((Kd.R_mono (ok':=fun k_=>((fun _=>True)) k_∧some k_≠(u3:Value).ownBlock) (Kd.R_apart' (HO454.out) (Kd.S_typed HO_3.out) (by decide)) (fun k_ hk=>⟨trivial,hk.2⟩))).1 k_ hk_.symm) ?aF ?aO ?aB ?aS ?aL ?_;(case aP=>exact Kd.M_row (Kd.R_mono (Kd.R_tight rfl (Kd.R_mono (ok':=fun k_=>((fun _=>True)) k_∧some k_≠(u3:Value).ownBlock) (Kd.R_apart' (HO454.out) (Kd.S_typed HO_3.out) (by decide)) (fun k_ hk=>⟨trivial,hk.2⟩))) (fun _ h_=>h_)));(case aB=>exact(by first|with_reducible exact HB.out|exact bl HB));(case aF=>exact(fun _ _=>trivial));(case aO=>exact(by (with_reducible repeat (first|apply Kd.S_alloc|apply Kd.S_drewN|apply Kd.S_drew));exact Kd.S_mono HO_3.out (fun k_ hk=>⟨trivial,fun e_=>hk.2 e_⟩)));(case aS=>exact(below_size (by first|with_reducible exact HB.out|exact bl HB)));(case aL=>have:=LMc11.out;omega);intro v457 w16 ho hb hg hat;rw [←Ny456.out] at ho;have n0_:=Aside0.mk (hb);have n1_:=Aside0.mk (ho);clear HB;clear HO_3;clear HO454;have HB:=n0_;have HO458:=n1_;clear n0_ n1_;clear ho hb hg hat))
            go_roundg k2
            case measure=>have:=HJ1.out;have:=HK2.out;omega
            case rel=>exact⟨(y456),(wrap64 (x4_2+1)),(by first|rfl|(simp;done)|(simp [*];done)),H',⟨by have:=HJ1.out;have:=HK2.out;omega⟩,⟨by first|exact HO458.out|exact kS HO458.out⟩,⟨by first|with_reducible exact HB.out|exact bl HB⟩⟩
           ·rw [if_neg c11] at H
            exact absurd H (by simp)
          ·rw [if_neg c9] at H
           exact absurd H (by simp)
         ·rw [if_neg c8] at H
          exact absurd H (by simp)
        ·rw [if_neg c7] at H
         exact absurd H (by simp)
       ·rw [if_neg c6] at H
        exact absurd H (by simp)
      ·rw [if_neg c5] at H
       have c5b0:decide (x4_2<a0)=false:=decide_eq_false c5
       clear c5
       obtain rfl:=Option.some.inj H
       go_wp2
       go_ret
       exact⟨_,by first|rfl|(simp [errW_none,errW_some]<;>rfl)|(simp [*,errW_none,errW_some]<;>rfl),by first|exact HO_3.out|exact kS HO_3.out,by first|with_reducible exact HB.out|exact bl HB⟩
def outriggerref08_As.f (k:Nat) (l0:List (List Int)):Option ((List (List Int))):=(outriggerref08_Sane.f k l0).bind fun t459=>(if t459=true then (some l0) else (some ([]:List (List Int))))
set_option maxHeartbeats 8000000 in
set_option maxRecDepth 100000 in
theorem outriggerref08_As.calls (k:Nat) (P0_:Nat→Prop) (A0:Option Addr) (c0:Nat) (l0:List (List Int)) (r:List (List Int)) (w:World) (hs0:Kd.V (Kd.slice 3 (Kd.int .i64)) 23 w w.heap.size (fun k_=>P0_ k_) (.slice A0 l0.length c0) l0) (h:outriggerref08_As.f k l0=some r) :
  Calls Try.prog 40 #[.slice A0 l0.length c0] w fun e w'=>∃ v0_:Value,e=.returned (v0_)∧Kd.V (Kd.slice 3 (Kd.int .i64)) 23 w' w.heap.size (fun k_=>(P0_ k_∨w.heap.size≤k_)) v0_ r∧Below w.heap.size w w':=by
 have HO0:=Aside0.mk (show Kd.V (Kd.slice 3 (Kd.int .i64)) 23 w w.heap.size (fun k_=>(P0_ k_∨w.heap.size≤k_)) (.slice A0 l0.length c0) l0 from Kd.V_mono hs0 (fun k_ hk=>.inl hk))
 have HB:=Aside0.mk (Below.refl w.heap.size w)
 have H:((outriggerref08_Sane.f k l0).bind fun t459=>(if t459=true then (some l0) else (some ([]:List (List Int)))))=some r:=h
 clear h
 replace H:=Option.bind_eq_some_iff.mp H
 obtain⟨t459,A20,H⟩:=H
 replace H:(if t459=true then (some l0) else (some ([]:List (List Int))))=some r:=H
 have A2:=Aside0.mk A20
 clear A20
 by_cases c3:t459=true
 ·subst c3
  have H1:(some l0)=some r:=by rw [if_pos rfl] at H;exact H
  clear H
  have H:=H1
  clear H1
  obtain rfl:=Option.some.inj H
  go_enter Try.func40,Try.ntmps40
  go_wp2_with (first|((with_reducible refine gate_callee (f:=19) rfl ?_);refine goesL_ (some 4) rfl rfl Try.func19 (by kernel_rfl) rfl #[.slice A0 l0.length c0] rfl (by exact mA _ _) ?_;(with_reducible refine(outriggerref08_Sane.calls k _ _ l0 true _ ?side1 ?side2 A2.out).mono ?_);(case side1=>first|exact(Kd.V_reads' HO0.out).2.2|exact kC (Kd.V_reads' HO0.out).2.2);(case side2=>exact(Kd.V_reads' HO0.out).2.1);rintro e w' ⟨rfl,⟨nd,rfl⟩⟩;refine⟨_,rfl,?_⟩))
  go_ret
  exact⟨_,by first|rfl|(simp [errW_none,errW_some]<;>rfl)|(simp [*,errW_none,errW_some]<;>rfl),by first|exact HO0.out|exact kV HO0.out,by first|with_reducible exact HB.out|exact bl HB⟩
 ·replace c3:=Bool.eq_false_iff.mpr c3
  subst c3
  have H1:(some ([]:List (List Int)))=some r:=by rw [if_neg (show ¬(false=true) by decide)] at H;exact H
  clear H
  have H:=H1
  clear H1
  obtain rfl:=Option.some.inj H
  go_enter Try.func40,Try.ntmps40
  go_wp2_with (first|((with_reducible refine gate_callee (f:=19) rfl ?_);refine goesL_ (some 4) rfl rfl Try.func19 (by kernel_rfl) rfl #[.slice A0 l0.length c0] rfl (by exact mA _ _) ?_;(with_reducible refine(outriggerref08_Sane.calls k _ _ l0 false _ ?side1 ?side2 A2.out).mono ?_);(case side1=>first|exact(Kd.V_reads' HO0.out).2.2|exact kC (Kd.V_reads' HO0.out).2.2);(case side2=>exact(Kd.V_reads' HO0.out).2.1);rintro e w' ⟨rfl,⟨nd,rfl⟩⟩;refine⟨_,rfl,?_⟩))
  go_ret
  exact⟨_,by first|rfl|(simp [errW_none,errW_some]<;>rfl)|(simp [*,errW_none,errW_some]<;>rfl),Kd.V_nil _ _ _ _ _,by first|with_reducible exact HB.out|exact bl HB⟩
end Go.Proofs.Ytembdogffbcjiaa.B
