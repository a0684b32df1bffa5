/- Lemmas of the row, laid by a program. -/
import Derived.Test.YtembdogffbcjiaaYB0
import Derived.Test.YtembdogffbcjiaaYB1
import Derived.Test.YtembdogffbcjiaaYB11
import Derived.Test.YtembdogffbcjiaaYB13
import Derived.Test.YtembdogffbcjiaaYB14
import Derived.Test.YtembdogffbcjiaaYSClo
namespace Go.Proofs.Ytembdogffbcjiaa.B
open Go.RowKit Go.Proofs.YtembdogffbcjiaaW.PrintWords Go.Proofs.YtembdogffbcjiaaW.PrintLast Go.Proofs.YtembdogffbcjiaaW.PrintMore
attribute [local go_sem] max2_int min2_int max_two min_two max_three min_three max_four min_four
set_option linter.unusedVariables false
set_option linter.unusedSimpArgs false
attribute [local go_sem high] eqA50
mutual
def outriggerref08_Turned.l0:Nat→List (List Int)→List (List Int)→Int→Option ((List (List Int)))
  | 0,_,_,_=>none
  | k+1,x3,x4,x5=>if x5<(x3.length:Int) then ((outriggerref08_column.f k x3 x5).bind fun t463=>(outriggerref08_Turned.l1 k x3 x4 x5 t463 0)) else (some x4)
def outriggerref08_Turned.l1:Nat→List (List Int)→List (List Int)→Int→List Int→Int→Option ((List (List Int)))
  | 0,_,_,_,_,_=>none
  | k+1,x3,x4,x5,x6,x7=>if x7<(x6.length:Int) then (if 0≤x7 then ((outriggerref01_As.f (rd x6 x7)).bind fun t467=>(outriggerref08_Turned.l1 k x3 x4 x5 (x6.set (x7:Int).toNat t467) (wrap64 (x7+1)))) else (none)) else (if x4.length<5864062014805 then (outriggerref08_Turned.l0 k x3 (x4++[x6]) (wrap64 (x5+1))) else (none))
end
def outriggerref08_Turned.f (k:Nat) (l0:List (List Int)):Option ((List (List Int))):=(outriggerref08_As.f k l0).bind fun t460=>(outriggerref08_Turned.l0 k t460 ([]:List (List Int)) 0)
set_option maxHeartbeats 8000000 in
set_option maxRecDepth 100000 in
theorem outriggerref08_Turned.calls (k:Nat) (A0:Option Addr) (c0:Nat) (l0:List (List Int)) (r:List (List Int)) (w:World) (hr0:Kd.C (Kd.slice 3 (Kd.int .i64)) w A0 l0.length l0) (hc0:l0.length≤c0) (h:outriggerref08_Turned.f k l0=some r) :
  Calls Try.prog 23 #[.slice A0 l0.length c0] w fun e w'=>∃ v0_:Value,e=.returned (v0_)∧Kd.S (Kd.slice 3 (Kd.int .i64)) 23 w' w.heap.size (fun _=>True) v0_ r∧Below w.heap.size w w':=by
 have HR0:=Aside0.mk hr0
 have HC0:=Aside0.mk hc0
 clear hr0 hc0
 have HB:=Aside0.mk (Below.refl w.heap.size w)
 have H:((outriggerref08_As.f k l0).bind fun t460=>(outriggerref08_Turned.l0 k t460 ([]:List (List Int)) 0))=some r:=h
 clear h
 replace H:=Option.bind_eq_some_iff.mp H
 obtain⟨t460,A20,H⟩:=H
 replace H:(outriggerref08_Turned.l0 k t460 ([]:List (List Int)) 0)=some r:=H
 have A2:=Aside0.mk A20
 clear A20
 have H':=Aside0.mk H
 clear H
 go_enter Try.func23,Try.ntmps23
 go_wp2_with (first|((with_reducible refine gate_callee (f:=40) rfl ?_);refine goesL_ (some 9) rfl rfl Try.func40 (by kernel_rfl) rfl #[.slice A0 l0.length c0] rfl (by exact mA _ _) ?_;(with_reducible refine(outriggerref08_As.calls k (fun k_=>k_<w.heap.size) _ _ l0 t460 _ ?side1 A2.out).mono ?_);(case side1=>exact Kd.V_mk HC0.out (Kd.F_below (Kd.C_F (Kd.heap_slice 3 (Kd.heap_int .i64)) HR0.out) (by first|with_reducible exact HB.out|exact bl HB)));rintro e w3 ⟨v461,rfl,ho0,hb⟩;refine⟨_,rfl,?_⟩;have n0_:=Aside0.mk (Kd.V_lower (Kd.V_mono (ok':=fun k_=>True) ho0 (fun k_ hk_=>trivial)) (below_size (by first|with_reducible exact HB.out|exact bl HB)));have n1_:=Aside0.mk (below_step (by first|with_reducible exact HB.out|exact bl HB) hb);clear HB;have HO462:=n0_;have HB:=n1_;clear n0_ n1_;(try clear hb);(try clear hb2);(try clear hk);(try clear hi);(try clear ho0)))
 go_loopg [4,5] k (fun kq v4 v5 w'=>∃ (x4_1:List (List Int)) (x5_1:Int),v5=.int .i64 x5_1∧Aside0 (outriggerref08_Turned.l0 kq t460 x4_1 x5_1=some r)∧Aside0 (kq≤k)∧Aside0 (Kd.V (Kd.slice 3 (Kd.int .i64)) 23 w' w.heap.size (fun k_=>some k_≠(v4:Value).ownBlock) v461 t460)∧Aside0 (Kd.S (Kd.slice 3 (Kd.int .i64)) 23 w' w.heap.size (fun _=>True) v4 x4_1)∧Aside0 (Below w.heap.size w w'))
 case atStart=>exact⟨(([]:List (List Int))),(0),(by first|rfl|(simp;done)|(simp [*];done)),H',⟨Nat.le_refl _⟩,⟨by (with_reducible repeat (first|apply Kd.V_alloc|apply Kd.V_drewN|apply Kd.V_drew));exact Kd.V_mono HO462.out (fun _ hk=>(by simp [Value.ownBlock]))⟩,⟨by first|exact Kd.S_nil _ _ _ _ _|exact Kd.N_nil _ _ _ _ _|exact Kd.V_nil _ _ _ _ _|exact Kd.Q_nil _ _ _ _ _|exact Kd.R_nil _ _ _ _ _⟩,⟨by first|with_reducible exact HB.out|exact bl HB⟩⟩
 case round =>
  clear H'
  try clear c2
  try clear p2
  obtain⟨x4_1,x5_1,rfl,HA,HK1,HO_3,HO_4,HB⟩:=hrel
  cases gk with
  | zero=>exact absurd HA.out (by simp [outriggerref08_Turned.l0])
  | succ k1 =>
   have H:=HA.out
   clear HA
   simp only [outriggerref08_Turned.l0] at H
   by_cases c4:x5_1<(t460.length:Int)
   ·rw [if_pos c4] at H
    have c4b0:decide (x5_1<(t460.length:Int))=true:=decide_eq_true c4
    clear c4
    replace H:=Option.bind_eq_some_iff.mp H
    obtain⟨t463,A50,H⟩:=H
    replace H:(outriggerref08_Turned.l1 k1 t460 x4_1 x5_1 t463 0)=some r:=H
    have A5:=Aside0.mk A50
    clear A50
    have H':=Aside0.mk H
    clear H
    obtain⟨Ao6,co6,eo6⟩:=Kd.V_slice HO_3.out
    subst eo6
    go_wp2_with (first|((with_reducible refine gate_callee (f:=36) rfl ?_);refine goesL_ (some 18) rfl rfl Try.func36 (by kernel_rfl) rfl #[.slice Ao6 t460.length co6,.int .i64 x5_1] rfl (by exact mA _ _) ?_;(with_reducible refine(outriggerref08_column.calls k1 _ _ t460 x5_1 t463 _ ?side1 ?side2 A5.out).mono ?_);(case side1=>first|exact(Kd.V_reads' HO_3.out).2.2|exact kC (Kd.V_reads' HO_3.out).2.2);(case side2=>exact(Kd.V_reads' HO_3.out).2.1);rintro e w7 ⟨v464,rfl,ho0,hb⟩;refine⟨_,rfl,?_⟩;have n0_:=Aside0.mk (Kd.V_elder' (by first|exact HO_3.out|exact kV HO_3.out) (Kd.R_base ho0) hb);have n1_:=Aside0.mk (Kd.S_elder' (by first|exact HO_4.out|exact kS HO_4.out) (Kd.R_base ho0) hb);have n2_:=Aside0.mk (Kd.R_lower ho0 (below_size (by first|with_reducible exact HB.out|exact bl HB)));have n3_:=Aside0.mk (below_step (by first|with_reducible exact HB.out|exact bl HB) hb);clear HO_3;clear HO_4;clear HB;have HO_3:=n0_;have HO_4:=n1_;have HO465:=n2_;have HB:=n3_;clear n0_ n1_ n2_ n3_;(try clear hb);(try clear hb2);(try clear hk);(try clear hi);(try clear ho0)))
    go_loopg [7] k1 (fun kq v7 w'=>∃ (x6_2:List Int) (x7_2:Int),v7=.int .i64 x7_2∧Aside0 (outriggerref08_Turned.l1 kq t460 x4_1 x5_1 x6_2 x7_2=some r)∧Aside0 (kq≤k1)∧Aside0 (Kd.V (Kd.slice 3 (Kd.int .i64)) 23 w' w.heap.size (fun k_=>some k_≠(u4:Value).ownBlock∧some k_≠(v464:Value).ownBlock) (.slice Ao6 t460.length co6) t460)∧Aside0 (Kd.S (Kd.slice 3 (Kd.int .i64)) 23 w' w.heap.size (fun k_=>some k_≠(v464:Value).ownBlock) u4 x4_1)∧Aside0 (Kd.R (Kd.int .i64) 3 w' w.heap.size (fun _=>True) v464 x6_2)∧Aside0 (Below w.heap.size w w'))
    case atStart=>exact⟨(t463),(0),(by first|rfl|(simp;done)|(simp [*];done)),H',⟨Nat.le_refl _⟩,⟨by first|exact HO_3.out|exact kV HO_3.out⟩,⟨by (with_reducible repeat (first|apply Kd.S_alloc|apply Kd.S_drewN|apply Kd.S_drew));exact Kd.S_mono HO_4.out (fun _ hk=>hk.2)⟩,⟨by first|exact HO465.out|exact kR HO465.out⟩,⟨by first|with_reducible exact HB.out|exact bl HB⟩⟩
    case round =>
     clear H'
     try clear c2
     try clear p2
     try clear c3
     try clear c4
     try clear c4b0
     try clear p2
     obtain⟨x6_2,x7_2,rfl,HA,HK2,HO_3,HO_4,HO_6,HB⟩:=hrel
     cases gk with
     | zero=>exact absurd HA.out (by simp [outriggerref08_Turned.l1])
     | succ k2 =>
      have H:=HA.out
      clear HA
      simp only [outriggerref08_Turned.l1] at H
      by_cases c8:x7_2<(x6_2.length:Int)
      ·rw [if_pos c8] at H
       have c8b0:decide (x7_2<(x6_2.length:Int))=true:=decide_eq_true c8
       clear c8
       by_cases c9:0≤x7_2
       ·rw [if_pos c9] at H
        have c9b0:decide (0≤x7_2)=true:=decide_eq_true c9
        clear c9
        replace H:=Option.bind_eq_some_iff.mp H
        obtain⟨t467,A100,H⟩:=H
        replace H:(outriggerref08_Turned.l1 k2 t460 x4_1 x5_1 (x6_2.set (x7_2:Int).toNat t467) (wrap64 (x7_2+1)))=some r:=H
        have A10:=Aside0.mk A100
        clear A100
        obtain⟨y468,hy468⟩:∃ y_:List Int,y_=(x6_2.set (x7_2:Int).toNat t467):=⟨_,rfl⟩
        replace H:(outriggerref08_Turned.l1 k2 t460 x4_1 x5_1 y468 (wrap64 (x7_2+1)))=some r:=by first|(rw [hy468];with_reducible exact H)|(have H2_:=(Option.bind_some _ _).symm.trans H;rw [hy468];with_reducible exact H2_)|(have H2_:=(Option.bind_some _ _).symm.trans H;with_reducible exact H2_)|with_reducible exact H|(rw [hy468];exact H)|exact H
        have Ny468:=Aside0.mk hy468
        clear hy468
        have H':=Aside0.mk H
        clear H
        obtain⟨Ao12,co12,eo12⟩:=Kd.R_slice HO_6.out
        subst eo12
        have p466:0≤(x7_2:Int):=of_decide_eq_true (by first|(with_reducible assumption)|assumption)
        have q466:x7_2<(x6_2.length:Int):=of_decide_eq_true (by first|(with_reducible assumption)|assumption)
        obtain⟨ad466,e466,hx466_0⟩:=Kd.at_int (Kd.R_reads' HO_6.out).2.2 x7_2 p466 q466
        cases e466
        replace p466:=eq_true p466
        replace q466:=eq_true q466
        go_wp2_with (first|((with_reducible refine gate_callee (f:=41) rfl ?_);refine goesL_ (some 31) rfl rfl Try.func41 (by kernel_rfl) rfl #[.int .i64 (rd x6_2 x7_2)] rfl (by exact mA _ _) ?_;(with_reducible refine(outriggerref01_As.calls (rd x6_2 x7_2) t467 _ A10.out).mono ?_);rintro e w' ⟨rfl,⟨nd,rfl⟩⟩;refine⟨_,rfl,?_⟩;(try (rw [drewN_self wr];generalize hq_:World.drewN wr _=wr;have n0_:Aside0 (Kd.V (Kd.slice 3 (Kd.int .i64)) 23 wr w.heap.size (fun k_=>some k_≠(u4:Value).ownBlock∧some k_≠(.slice (some ad466) x6_2.length co12:Value).ownBlock) (.slice Ao6 t460.length co6) t460):=⟨by rw [←hq_];exact(by first|exact HO_3.out|exact kV HO_3.out)⟩;have n1_:Aside0 (Kd.S (Kd.slice 3 (Kd.int .i64)) 23 wr w.heap.size (fun k_=>some k_≠(.slice (some ad466) x6_2.length co12:Value).ownBlock) u4 x4_1):=⟨by rw [←hq_];exact(by first|exact HO_4.out|exact kS HO_4.out)⟩;have n2_:Aside0 (Kd.R (Kd.int .i64) 3 wr w.heap.size (fun _=>True) (.slice (some ad466) x6_2.length co12) x6_2):=⟨by rw [←hq_];exact(by first|exact HO_6.out|exact kR HO_6.out)⟩;have n3_:Aside0 (Below w.heap.size w wr):=⟨by rw [←hq_];exact(by first|with_reducible exact HB.out|exact bl HB)⟩;clear HO_3 HO_4 HO_6 HB hq_;have HO_3:=n0_;have HO_4:=n1_;have HO_6:=n2_;have HB:=n3_;clear n0_ n1_ n2_ n3_));have p11:0≤(x7_2:Int):=of_decide_eq_true (by first|(with_reducible assumption)|assumption);have q11:(x7_2:Int)<((x6_2.length:Int):Int):=of_decide_eq_true (by first|(with_reducible assumption)|assumption);obtain⟨go11,co11,eo11,gb11,gl11,cl11,HG11⟩:=Kd.R_form HO_6.out (by omega);(first|cases eo11|(injection eo11 with ea_ en_ ec_;(first|subst ea_|(injection ea_ with ea_;subst ea_));subst ec_;clear en_));have GB11:=Aside0.mk gb11;have GG11:=Aside0.mk HG11;clear gb11 gl11 HG11;(first|simp only [add_plain] at hx466_0|skip);obtain⟨hx11_0,hf11_0⟩:=Kd.R_celln 0 HO_6.out (x7_2:Int) p11 q11;replace p11:=eq_true p11;replace q11:=eq_true q11;obtain⟨hy13_,hz13_⟩:=Kd.R_celln 0 HO_6.out (x7_2:Int) (of_decide_eq_true (by first|(with_reducible assumption)|assumption)) (of_decide_eq_true (by first|(with_reducible assumption)|assumption));have HP13:=Kd.R_putg HO_6.out (x7_2:Int) t467)|((with_reducible refine gate_store (t:=3) (p:=32) rfl ?_);refine store_event (t:=3) (p:=32) (v:=?vo_w14) (w1:=(wr.setCell ⟨go11,(x7_2:Int).toNat,none⟩ (.int .i64 t467))) ?hg ?ho ?hn ?hr ?_;(case ho=>rfl);(case hg=>rfl);(case hn=>rfl);(case hr=>first|(go_simp;done)|(go_simp;rfl));intro w14 hw;have hg:wr.grownBy w14 (some go11):=(by rw [hw];exact HP13.2);have hp_:Kd.R (Kd.int .i64) 3 w14 w.heap.size (fun _=>True) (.slice (some ⟨go11,0,none⟩) x6_2.length co12) y468:=(by rw [hw,Ny468.out];exact HP13.1);clear HP13;have n0_:=Aside0.mk (Kd.V_afterv (v:=(.slice (some ⟨go11,0,none⟩) x6_2.length co12)) (v1:=(.slice (some ⟨go11,0,none⟩) x6_2.length co12)) (ok:=(fun k_=>some k_≠(u4:Value).ownBlock)) (by first|exact HO_3.out|exact kV HO_3.out) hg (.inl rfl));have n1_:=Aside0.mk (Kd.S_after (v:=(.slice (some ⟨go11,0,none⟩) x6_2.length co12)) (v1:=(.slice (some ⟨go11,0,none⟩) x6_2.length co12)) (ok:=(fun _=>True)) (by (with_reducible repeat (first|apply Kd.S_alloc|apply Kd.S_drewN|apply Kd.S_drew));exact Kd.S_mono HO_4.out (fun _ hk=>⟨trivial,hk⟩)) hg (.inl rfl));have n2_:=Aside0.mk (hp_);have n3_:=Aside0.mk ((by rw [hw];exact below_set (HB.out) GB11.out:Below w.heap.size w w14));clear HO_3;clear HO_4;clear HO_6;clear HB;have HO_3:=n0_;have HO_4:=n1_;have HO_6:=n2_;have HB:=n3_;clear n0_ n1_ n2_ n3_;clear hg hw hp_))
        go_roundg k2
        case measure=>have:=HK1.out;have:=HK2.out;omega
        case rel=>exact⟨(y468),(wrap64 (x7_2+1)),(by first|rfl|(simp;done)|(simp [*];done)),H',⟨by have:=HK1.out;have:=HK2.out;omega⟩,⟨by first|exact HO_3.out|exact kV HO_3.out⟩,⟨by (with_reducible repeat (first|apply Kd.S_alloc|apply Kd.S_drewN|apply Kd.S_drew));exact Kd.S_mono HO_4.out (fun _ hk=>hk.2)⟩,⟨by first|exact HO_6.out|exact kR HO_6.out⟩,⟨by first|with_reducible exact HB.out|exact bl HB⟩⟩
       ·rw [if_neg c9] at H
        exact absurd H (by simp)
      ·rw [if_neg c8] at H
       have c8b0:decide (x7_2<(x6_2.length:Int))=false:=decide_eq_false c8
       clear c8
       by_cases c15:x4_1.length<5864062014805
       ·rw [if_pos c15] at H
        have LMc15:=Aside0.mk c15
        clear c15
        obtain⟨y469,hy469⟩:∃ y_:List (List Int),y_=(x4_1++[x6_2]):=⟨_,rfl⟩
        replace H:(outriggerref08_Turned.l0 k2 t460 y469 (wrap64 (x5_1+1)))=some r:=by first|(rw [hy469];with_reducible exact H)|(have H2_:=(Option.bind_some _ _).symm.trans H;rw [hy469];with_reducible exact H2_)|(have H2_:=(Option.bind_some _ _).symm.trans H;with_reducible exact H2_)|with_reducible exact H|(rw [hy469];exact H)|exact H
        have Ny469:=Aside0.mk hy469
        clear hy469
        have H':=Aside0.mk H
        clear H
        obtain⟨Ao16,co16,eo16⟩:=Kd.R_slice HO_6.out
        subst eo16
        go_wp2_with (first|((with_reducible refine gate_builtin (b:=.append) (xs:=#[.tmp 33,.tmp 35]) rfl ?_);at_builtin;refine Kd.S_append (Kd.slice 3 (Kd.int .i64)) (w0:=w) w.heap.size rfl (.tmp 33) (.tmp 35) 22 23 (.slice none 0 0) 24 rfl Try.underlying22 info23 rfl (by decide) (by omega) u4 x4_1 x6_2 [.slice Ao16 x6_2.length co16] (fun _=>True) (fun k_=>some k_=(.slice Ao16 x6_2.length co16:Value).ownBlock) rfl rfl ?aP (fun k_ hk_=>((Kd.R_mono (ok':=fun k_=>((fun _=>True)) k_∧some k_≠(u4:Value).ownBlock) (Kd.R_apart' (HO_6.out) (Kd.S_typed HO_4.out) (by decide)) (fun k_ hk=>⟨trivial,hk.2⟩))).1 k_ hk_.symm) ?aF ?aO ?aB ?aS ?aL ?_;(case aP=>exact Kd.M_row (Kd.R_mono (Kd.R_tight rfl (Kd.R_mono (ok':=fun k_=>((fun _=>True)) k_∧some k_≠(u4:Value).ownBlock) (Kd.R_apart' (HO_6.out) (Kd.S_typed HO_4.out) (by decide)) (fun k_ hk=>⟨trivial,hk.2⟩))) (fun _ h_=>h_)));(case aB=>exact(by first|with_reducible exact HB.out|exact bl HB));(case aF=>exact(fun _ _=>trivial));(case aO=>exact(by (with_reducible repeat (first|apply Kd.S_alloc|apply Kd.S_drewN|apply Kd.S_drew));exact Kd.S_mono HO_4.out (fun k_ hk=>⟨trivial,fun e_=>hk e_⟩)));(case aS=>exact(below_size (by first|with_reducible exact HB.out|exact bl HB)));(case aL=>have:=LMc15.out;omega);intro v470 w17 ho hb hg hat;rw [←Ny469.out] at ho;have n0_:=Aside0.mk (Kd.V_afterv (ok:=(fun k_=>some k_≠(.slice Ao16 x6_2.length co16:Value).ownBlock)) (by (with_reducible repeat (first|apply Kd.V_alloc|apply Kd.V_drewN|apply Kd.V_drew));exact Kd.V_mono HO_3.out (fun _ hk=>⟨hk.2,hk.1⟩)) hg hat);have n1_:=Aside0.mk (hb);have n2_:=Aside0.mk (ho);clear HO_3;clear HB;clear HO_4;clear HO_6;have HO_3:=n0_;have HB:=n1_;have HO471:=n2_;clear n0_ n1_ n2_;clear ho hb hg hat))
        go_roundg k2
        case measure=>have:=HK1.out;have:=HK2.out;omega
        case rel=>exact⟨(y469),(wrap64 (x5_1+1)),(by first|rfl|(simp;done)|(simp [*];done)),H',⟨by have:=HK1.out;have:=HK2.out;omega⟩,⟨by (with_reducible repeat (first|apply Kd.V_alloc|apply Kd.V_drewN|apply Kd.V_drew));exact Kd.V_mono HO_3.out (fun _ hk=>hk.2)⟩,⟨by first|exact HO471.out|exact kS HO471.out⟩,⟨by first|with_reducible exact HB.out|exact bl HB⟩⟩
       ·rw [if_neg c15] at H
        exact absurd H (by simp)
   ·rw [if_neg c4] at H
    have c4b0:decide (x5_1<(t460.length:Int))=false:=decide_eq_false c4
    clear c4
    obtain rfl:=Option.some.inj H
    obtain⟨Ao18,co18,eo18⟩:=Kd.V_slice HO_3.out
    subst eo18
    go_wp2
    go_ret
    exact⟨_,by first|rfl|(simp [errW_none,errW_some]<;>rfl)|(simp [*,errW_none,errW_some]<;>rfl),by first|exact HO_4.out|exact kS HO_4.out,by first|with_reducible exact HB.out|exact bl HB⟩
mutual
def outriggerref02_Of.l0:Nat→Int→Int→Option (Int × Int)
  | 0,_,_=>none
  | k+1,x3,x4=>if x4<0 then (outriggerref02_Of.l0 k (wrap64 (x3-1)) (wrap64 (x4+4611686018427387904))) else (outriggerref02_Of.l1 k x3 x4)
def outriggerref02_Of.l1:Nat→Int→Int→Option (Int × Int)
  | 0,_,_=>none
  | k+1,x3,x4=>if x4 ≥ 4611686018427387904 then (outriggerref02_Of.l1 k (wrap64 (x3+1)) (wrap64 (x4-4611686018427387904))) else (some (x3,x4))
end
def outriggerref02_Of.f (k:Nat) (a0:Int):Option (Int × Int):=outriggerref02_Of.l0 k 0 a0
set_option maxHeartbeats 8000000 in
set_option maxRecDepth 100000 in
theorem outriggerref02_Of.calls (k:Nat) (a0:Int) (r1:Int) (r2:Int) (w:World) (h:outriggerref02_Of.f k a0=some (r1,r2)) :
  Calls Try.prog 59 #[.int .i64 a0] w fun e w'=>e=.returned (.agg #[.int .i64 r1,.int .i64 r2])∧Below w.heap.size w w':=by
 have hu50:=Try.underlying50
 have HB:=Aside0.mk (Below.refl w.heap.size w)
 have H:(outriggerref02_Of.l0 k 0 a0)=some (r1,r2):=h
 clear h
 have H':=Aside0.mk H
 clear H
 go_enter Try.func59,Try.ntmps59
 go_wp2_with (first|((with_reducible refine gate_dst (N:=2) rfl ?_);refine box_event ?hg (N:=2) ?hd (cs:=#[.int .i64 0,.int .i64 0]) (t:=50) ?hr ?_;(case hd=>rfl);(case hg=>rfl);(case hr=>first|(go_simp;done)|(go_simp;rfl));intro gb472 hg w2 hbox hb;have n0_:=Aside0.mk (below_step (by first|with_reducible exact HB.out|exact bl HB) hb);have n1_:=Aside0.mk (hbox);have n2_:=Aside0.mk ((by rw [hg];exact(below_size (by first|with_reducible exact HB.out|exact bl HB)):w.heap.size≤gb472));have n3_:=Aside0.mk ((by rw [hg];exact(below_size (by first|with_reducible exact HB.out|exact bl HB)):w.heap.size≤gb472));clear HB;have HB:=n0_;have BK472:=n1_;have GW472:=n2_;have GE472:=n3_;clear n0_ n1_ n2_ n3_;clear hb hbox hg))
 go_loopg [3,4] k (fun kq v3 v4 w'=>∃ (x3_1:Int) (x4_1:Int),v3=.int .i64 x3_1∧v4=.int .i64 x4_1∧Aside0 (outriggerref02_Of.l0 kq x3_1 x4_1=some (r1,r2))∧Aside0 (kq≤k)∧Aside0 (w'.heap[gb472]? = some (.cells #[.int .i64 0,.int .i64 0] 50 (0,0)))∧Aside0 (Below w.heap.size w w'))
 case atStart=>exact⟨(0),(a0),(by first|rfl|(simp;done)|(simp [*];done)),(by first|rfl|(simp;done)|(simp [*];done)),H',⟨Nat.le_refl _⟩,⟨by first|exact BK472.out|exact bk BK472.out⟩,⟨by repeat (first|with_reducible exact HB.out|exact bl HB|refine bs ?_ GE472)⟩⟩
 case round =>
  clear H'
  try clear p2
  obtain⟨x3_1,x4_1,rfl,rfl,HA,HK1,BK472,HB⟩:=hrel
  cases gk with
  | zero=>exact absurd HA.out (by simp [outriggerref02_Of.l0])
  | succ k1 =>
   have H:=HA.out
   clear HA
   simp only [outriggerref02_Of.l0] at H
   by_cases c3:x4_1<0
   ·rw [if_pos c3] at H
    have c3b0:decide (x4_1<0)=true:=decide_eq_true c3
    clear c3
    have H':=Aside0.mk H
    clear H
    go_wp2
    go_roundg k1
    case measure=>have:=HK1.out;omega
    case rel=>exact⟨(wrap64 (x3_1-1)),(wrap64 (x4_1+4611686018427387904)),(by first|rfl|(simp;done)|(simp [*];done)),(by first|rfl|(simp;done)|(simp [*];done)),H',⟨by have:=HK1.out;omega⟩,⟨by first|exact BK472.out|exact bk BK472.out⟩,⟨by repeat (first|with_reducible exact HB.out|exact bl HB|refine bs ?_ GE472)⟩⟩
   ·rw [if_neg c3] at H
    have c3b0:decide (x4_1<0)=false:=decide_eq_false c3
    clear c3
    have H':=Aside0.mk H
    clear H
    go_wp2
    go_loopg [3,4] k1 (fun kq v3 v4 w'=>∃ (x3_2:Int) (x4_2:Int),v3=.int .i64 x3_2∧v4=.int .i64 x4_2∧Aside0 (outriggerref02_Of.l1 kq x3_2 x4_2=some (r1,r2))∧Aside0 (kq≤k1)∧Aside0 (w'.heap[gb472]? = some (.cells #[.int .i64 0,.int .i64 0] 50 (0,0)))∧Aside0 (Below w.heap.size w w'))
    case atStart=>exact⟨(x3_1),(x4_1),(by first|rfl|(simp;done)|(simp [*];done)),(by first|rfl|(simp;done)|(simp [*];done)),H',⟨Nat.le_refl _⟩,⟨by first|exact BK472.out|exact bk BK472.out⟩,⟨by repeat (first|with_reducible exact HB.out|exact bl HB|refine bs ?_ GE472)⟩⟩
    case round =>
     clear H'
     try clear p2
     try clear c3
     try clear c3b0
     try clear p2
     obtain⟨x3_2,x4_2,rfl,rfl,HA,HK2,BK472,HB⟩:=hrel
     cases gk with
     | zero=>exact absurd HA.out (by simp [outriggerref02_Of.l1])
     | succ k2 =>
      have H:=HA.out
      clear HA
      simp only [outriggerref02_Of.l1] at H
      by_cases c4:x4_2 ≥ 4611686018427387904
      ·rw [if_pos c4] at H
       have c4b0:decide (4611686018427387904≤x4_2)=true:=decide_eq_true c4
       clear c4
       have H':=Aside0.mk H
       clear H
       go_wp2
       go_roundg k2
       case measure=>have:=HK1.out;have:=HK2.out;omega
       case rel=>exact⟨(wrap64 (x3_2+1)),(wrap64 (x4_2-4611686018427387904)),(by first|rfl|(simp;done)|(simp [*];done)),(by first|rfl|(simp;done)|(simp [*];done)),H',⟨by have:=HK1.out;have:=HK2.out;omega⟩,⟨by first|exact BK472.out|exact bk BK472.out⟩,⟨by repeat (first|with_reducible exact HB.out|exact bl HB|refine bs ?_ GE472)⟩⟩
      ·rw [if_neg c4] at H
       have c4b0:decide (4611686018427387904≤x4_2)=false:=decide_eq_false c4
       clear c4
       simp only [Option.some.injEq,Prod.mk.injEq] at H
       obtain⟨rfl,rfl⟩:=H
       have hcz5_0:wr.cell? ⟨gb472,0,none⟩=some (.int .i64 0):=(blk_cell BK472.out 0).trans rfl
       have hcz5_1:wr.cell? ⟨gb472,1,none⟩=some (.int .i64 0):=(blk_cell BK472.out 1).trans rfl
       have hfz5_0:=blk_frozen BK472.out 0
       have hfz5_1:=blk_frozen BK472.out 1
       go_wp2
       refine bodyPost_ret (results_cell_row rfl _ _ gb472 50 #[.int .i64 x3_2,.int .i64 x4_2] (0,0) _ rfl (by try refine bk ?_;refine blk_put (cs:=#[.int .i64 x3_2,.int .i64 0]) ?_ 1 _ rfl;try refine bk ?_;refine blk_put (cs:=#[.int .i64 0,.int .i64 0]) ?_ 0 _ rfl;try refine bk ?_;exact BK472.out) Try.underlying50 rfl (by kernel_rfl)) rfl ?_
       exact⟨by first|rfl|(simp [errW_none,errW_some]<;>rfl)|(simp [*,errW_none,errW_some]<;>rfl),by repeat (first|with_reducible exact HB.out|exact bl HB|refine bs ?_ GE472)⟩
def outriggerref02_Compare.j0:Nat→Bool→Int→Int→Int→Int→Option (Int)
  | 0,_,_,_,_,_=>none
  | k+1,x11,x478000,x478001,x481000,x481001=>if x11=true then (some (-1)) else (if (x478000 == x481000 && (x478001 == x481001))=true then (some 0) else (some 1))
def outriggerref02_Compare.f (k:Nat) (a0_0:Int) (a0_1:Int) (a1_0:Int) (a1_1:Int):Option (Int):=(outriggerref02_As.f a0_0 a0_1).bind fun bt475=>((outriggerref02_As.f a1_0 a1_1).bind fun bt478=>(if bt475.1<bt478.1 then (outriggerref02_Compare.j0 k true bt475.1 bt475.2 bt478.1 bt478.2) else (if bt475.1=bt478.1 then (outriggerref02_Compare.j0 k (decide (bt475.2<bt478.2)) bt475.1 bt475.2 bt478.1 bt478.2) else (outriggerref02_Compare.j0 k false bt475.1 bt475.2 bt478.1 bt478.2))))
set_option maxHeartbeats 8000000 in
set_option maxRecDepth 100000 in
theorem outriggerref02_Compare.calls (k:Nat) (a0_0:Int) (a0_1:Int) (a1_0:Int) (a1_1:Int) (r:Int) (w:World) (h:outriggerref02_Compare.f k a0_0 a0_1 a1_0 a1_1=some r) :
  Calls Try.prog 60 #[.agg #[.int .i64 a0_0,.int .i64 a0_1],.agg #[.int .i64 a1_0,.int .i64 a1_1]] w fun e w'=>e=.returned (.int .i64 r)∧Below w.heap.size w w':=by
 have hu50:=Try.underlying50
 have HB:=Aside0.mk (Below.refl w.heap.size w)
 have H:((outriggerref02_As.f a0_0 a0_1).bind fun bt475=>((outriggerref02_As.f a1_0 a1_1).bind fun bt478=>(if bt475.1<bt478.1 then (outriggerref02_Compare.j0 k true bt475.1 bt475.2 bt478.1 bt478.2) else (if bt475.1=bt478.1 then (outriggerref02_Compare.j0 k (decide (bt475.2<bt478.2)) bt475.1 bt475.2 bt478.1 bt478.2) else (outriggerref02_Compare.j0 k false bt475.1 bt475.2 bt478.1 bt478.2)))))=some r:=h
 clear h
 replace H:=Option.bind_eq_some_iff.mp H
 obtain⟨⟨t475,t476⟩,A30,H⟩:=H
 replace H:((outriggerref02_As.f a1_0 a1_1).bind fun bt478=>(if t475<bt478.1 then (outriggerref02_Compare.j0 k true t475 t476 bt478.1 bt478.2) else (if t475=bt478.1 then (outriggerref02_Compare.j0 k (decide (t476<bt478.2)) t475 t476 bt478.1 bt478.2) else (outriggerref02_Compare.j0 k false t475 t476 bt478.1 bt478.2))))=some r:=H
 have A3:=Aside0.mk A30
 clear A30
 replace H:=Option.bind_eq_some_iff.mp H
 obtain⟨⟨t478,t479⟩,A40,H⟩:=H
 replace H:(if t475<t478 then (outriggerref02_Compare.j0 k true t475 t476 t478 t479) else (if t475=t478 then (outriggerref02_Compare.j0 k (decide (t476<t479)) t475 t476 t478 t479) else (outriggerref02_Compare.j0 k false t475 t476 t478 t479)))=some r:=H
 have A4:=Aside0.mk A40
 clear A40
 have HC5:=Aside0.mk H
 clear H
 go_enter Try.func60,Try.ntmps60
 go_upto_region 3 with (first|((with_reducible refine gate_dst (N:=2) rfl ?_);refine box_event ?hg (N:=2) ?hd (cs:=#[.int .i64 a0_0,.int .i64 a0_1]) (t:=50) ?hr ?_;(case hd=>rfl);(case hg=>rfl);(case hr=>first|(go_simp;done)|(go_simp;rfl));intro gb473 hg w6 hbox hb;have n0_:=Aside0.mk (below_step (by first|with_reducible exact HB.out|exact bl HB) hb);have n1_:=Aside0.mk (hbox);have n2_:=Aside0.mk ((by rw [hg];exact(below_size (by first|with_reducible exact HB.out|exact bl HB)):w.heap.size≤gb473));have n3_:=Aside0.mk ((by rw [hg];exact(below_size (by first|with_reducible exact HB.out|exact bl HB)):w.heap.size≤gb473));clear HB;have HB:=n0_;have BK473:=n1_;have GW473:=n2_;have GE473:=n3_;clear n0_ n1_ n2_ n3_;clear hb hbox hg)|((with_reducible refine gate_dst (N:=3) rfl ?_);refine box_event ?hg (N:=3) ?hd (cs:=#[.int .i64 a1_0,.int .i64 a1_1]) (t:=50) ?hr ?_;(case hd=>rfl);(case hg=>rfl);(case hr=>first|(go_simp;done)|(go_simp;rfl));intro gb474 hg w7 hbox hb;have n0_:=Aside0.mk (blk_below (bk BK473.out) hb);have n1_:=Aside0.mk (below_step (by repeat (first|with_reducible exact HB.out|exact bl HB|refine bs ?_ GE473)) hb);have n2_:=Aside0.mk (hbox);have n3_:=Aside0.mk ((by rw [hg];exact(below_size (by repeat (first|with_reducible exact HB.out|exact bl HB|refine bs ?_ GE473))):w.heap.size≤gb474));have n4_:=Aside0.mk ((by rw [hg];exact(below_size (by repeat (first|with_reducible exact HB.out|exact bl HB|refine bs ?_ GE473))):w.heap.size≤gb474));have n5_:=Aside0.mk ((by rw [hg];exact Nat.ne_of_lt (blk_lt (bk BK473.out)):gb473≠gb474));have n6_:=Aside0.mk ((by rw [hg];exact Nat.ne_of_gt (blk_lt (bk BK473.out)):gb474≠gb473));clear BK473;clear HB;have BK473:=n0_;have HB:=n1_;have BK474:=n2_;have GW474:=n3_;have GE474:=n4_;have NB473_474:=n5_;have NB474_473:=n6_;clear n0_ n1_ n2_ n3_ n4_ n5_ n6_;clear hb hbox hg;have hnb8:=NB473_474.out;have hnc8:=NB474_473.out;have hcz9_0:w7.cell? ⟨gb473,0,none⟩=some (.int .i64 a0_0):=(blk_cell BK473.out 0).trans rfl;have hcz9_1:w7.cell? ⟨gb473,1,none⟩=some (.int .i64 a0_1):=(blk_cell BK473.out 1).trans rfl;have hfz9_0:=blk_frozen BK473.out 0;have hfz9_1:=blk_frozen BK473.out 1)|((with_reducible refine gate_callee (f:=77) rfl ?_);refine goesL_ (some 8) rfl rfl Try.func77 (by kernel_rfl) rfl #[.agg #[.int .i64 a0_0,.int .i64 a0_1]] rfl (by exact mA _ _) ?_;(with_reducible refine(outriggerref02_As.calls a0_0 a0_1 t475 t476 _ A3.out).mono ?_);rintro e w10 ⟨rfl,hb⟩;refine⟨_,rfl,?_⟩;have n0_:=Aside0.mk (blk_below (bk BK473.out) hb);have n1_:=Aside0.mk (blk_below (bk BK474.out) hb);have n2_:=Aside0.mk (below_step (by repeat (first|with_reducible exact HB.out|exact bl HB|refine bs ?_ GE473|refine bs ?_ GE474)) hb);clear BK473;clear BK474;clear HB;have BK473:=n0_;have BK474:=n1_;have HB:=n2_;clear n0_ n1_ n2_;(try clear hb);(try clear hb2);(try clear hk);(try clear hi))|((with_reducible refine gate_dst (N:=5) rfl ?_);refine box_event ?hg (N:=5) ?hd (cs:=#[.int .i64 0,.int .i64 0]) (t:=50) ?hr ?_;(case hd=>rfl);(case hg=>rfl);(case hr=>first|(go_simp;done)|(go_simp;rfl));intro gb477 hg w11 hbox hb;have n0_:=Aside0.mk (blk_below (bk BK473.out) hb);have n1_:=Aside0.mk (blk_below (bk BK474.out) hb);have n2_:=Aside0.mk (below_step (by repeat (first|with_reducible exact HB.out|exact bl HB|refine bs ?_ GE473|refine bs ?_ GE474)) hb);have n3_:=Aside0.mk (hbox);have n4_:=Aside0.mk ((by rw [hg];exact(below_size (by repeat (first|with_reducible exact HB.out|exact bl HB|refine bs ?_ GE473|refine bs ?_ GE474))):w.heap.size≤gb477));have n5_:=Aside0.mk ((by rw [hg];exact(below_size (by repeat (first|with_reducible exact HB.out|exact bl HB|refine bs ?_ GE473|refine bs ?_ GE474))):w.heap.size≤gb477));have n6_:=Aside0.mk ((by rw [hg];exact Nat.ne_of_lt (blk_lt (bk BK473.out)):gb473≠gb477));have n7_:=Aside0.mk ((by rw [hg];exact Nat.ne_of_gt (blk_lt (bk BK473.out)):gb477≠gb473));have n8_:=Aside0.mk ((by rw [hg];exact Nat.ne_of_lt (blk_lt (bk BK474.out)):gb474≠gb477));have n9_:=Aside0.mk ((by rw [hg];exact Nat.ne_of_gt (blk_lt (bk BK474.out)):gb477≠gb474));clear BK473;clear BK474;clear HB;have BK473:=n0_;have BK474:=n1_;have HB:=n2_;have BK477:=n3_;have GW477:=n4_;have GE477:=n5_;have NB473_477:=n6_;have NB477_473:=n7_;have NB474_477:=n8_;have NB477_474:=n9_;clear n0_ n1_ n2_ n3_ n4_ n5_ n6_ n7_ n8_ n9_;clear hb hbox hg;have hnb12:=NB477_473.out;have hnc12:=NB473_477.out;have hnb13:=NB477_474.out;have hnc13:=NB474_477.out;have hcz14_0:w11.cell? ⟨gb477,0,none⟩=some (.int .i64 0):=(blk_cell BK477.out 0).trans rfl;have hcz14_1:w11.cell? ⟨gb477,1,none⟩=some (.int .i64 0):=(blk_cell BK477.out 1).trans rfl;have hfz14_0:=blk_frozen BK477.out 0;have hfz14_1:=blk_frozen BK477.out 1;have hcz15_0:w11.cell? ⟨gb474,0,none⟩=some (.int .i64 a1_0):=(blk_cell BK474.out 0).trans rfl;have hcz15_1:w11.cell? ⟨gb474,1,none⟩=some (.int .i64 a1_1):=(blk_cell BK474.out 1).trans rfl;have hfz15_0:=blk_frozen BK474.out 0;have hfz15_1:=blk_frozen BK474.out 1)|((with_reducible refine gate_callee (f:=77) rfl ?_);refine goesL_ (some 10) rfl rfl Try.func77 (by kernel_rfl) rfl #[.agg #[.int .i64 a1_0,.int .i64 a1_1]] rfl (by exact mA _ _) ?_;(with_reducible refine(outriggerref02_As.calls a1_0 a1_1 t478 t479 _ A4.out).mono ?_);rintro e w16 ⟨rfl,hb⟩;refine⟨_,rfl,?_⟩;have n0_:=Aside0.mk (blk_below (g:=gb473) (o:=.cells #[.int .i64 a0_0,.int .i64 a0_1] 50 (0,0)) (by try refine bk ?_;refine blk_far ?_ NB473_477.out _;try refine bk ?_;refine blk_far ?_ NB473_477.out _;try refine bk ?_;exact BK473.out) hb);have n1_:=Aside0.mk (blk_below (g:=gb474) (o:=.cells #[.int .i64 a1_0,.int .i64 a1_1] 50 (0,0)) (by try refine bk ?_;refine blk_far ?_ NB474_477.out _;try refine bk ?_;refine blk_far ?_ NB474_477.out _;try refine bk ?_;exact BK474.out) hb);have n2_:=Aside0.mk (blk_below (g:=gb477) (o:=.cells #[.int .i64 t475,.int .i64 t476] 50 (0,0)) (by try refine bk ?_;refine blk_put (cs:=#[.int .i64 t475,.int .i64 0]) ?_ 1 _ rfl;try refine bk ?_;refine blk_put (cs:=#[.int .i64 0,.int .i64 0]) ?_ 0 _ rfl;try refine bk ?_;exact BK477.out) hb);have n3_:=Aside0.mk (below_step (by repeat (first|with_reducible exact HB.out|exact bl HB|refine bs ?_ GE473|refine bs ?_ GE474|refine bs ?_ GE477)) hb);clear BK473;clear BK474;clear BK477;clear HB;have BK473:=n0_;have BK474:=n1_;have BK477:=n2_;have HB:=n3_;clear n0_ n1_ n2_ n3_;(try clear hb);(try clear hb2);(try clear hk);(try clear hi))|((with_reducible refine gate_dst (N:=6) rfl ?_);refine box_event ?hg (N:=6) ?hd (cs:=#[.int .i64 0,.int .i64 0]) (t:=50) ?hr ?_;(case hd=>rfl);(case hg=>rfl);(case hr=>first|(go_simp;done)|(go_simp;rfl));intro gb480 hg w17 hbox hb;have n0_:=Aside0.mk (blk_below (bk BK473.out) hb);have n1_:=Aside0.mk (blk_below (bk BK474.out) hb);have n2_:=Aside0.mk (blk_below (bk BK477.out) hb);have n3_:=Aside0.mk (below_step (by repeat (first|with_reducible exact HB.out|exact bl HB|refine bs ?_ GE473|refine bs ?_ GE474|refine bs ?_ GE477)) hb);have n4_:=Aside0.mk (hbox);have n5_:=Aside0.mk ((by rw [hg];exact(below_size (by repeat (first|with_reducible exact HB.out|exact bl HB|refine bs ?_ GE473|refine bs ?_ GE474|refine bs ?_ GE477))):w.heap.size≤gb480));have n6_:=Aside0.mk ((by rw [hg];exact(below_size (by repeat (first|with_reducible exact HB.out|exact bl HB|refine bs ?_ GE473|refine bs ?_ GE474|refine bs ?_ GE477))):w.heap.size≤gb480));have n7_:=Aside0.mk ((by rw [hg];exact Nat.ne_of_lt (blk_lt (bk BK473.out)):gb473≠gb480));have n8_:=Aside0.mk ((by rw [hg];exact Nat.ne_of_gt (blk_lt (bk BK473.out)):gb480≠gb473));have n9_:=Aside0.mk ((by rw [hg];exact Nat.ne_of_lt (blk_lt (bk BK474.out)):gb474≠gb480));have n10_:=Aside0.mk ((by rw [hg];exact Nat.ne_of_gt (blk_lt (bk BK474.out)):gb480≠gb474));have n11_:=Aside0.mk ((by rw [hg];exact Nat.ne_of_lt (blk_lt (bk BK477.out)):gb477≠gb480));have n12_:=Aside0.mk ((by rw [hg];exact Nat.ne_of_gt (blk_lt (bk BK477.out)):gb480≠gb477));clear BK473;clear BK474;clear BK477;clear HB;have BK473:=n0_;have BK474:=n1_;have BK477:=n2_;have HB:=n3_;have BK480:=n4_;have GW480:=n5_;have GE480:=n6_;have NB473_480:=n7_;have NB480_473:=n8_;have NB474_480:=n9_;have NB480_474:=n10_;have NB477_480:=n11_;have NB480_477:=n12_;clear n0_ n1_ n2_ n3_ n4_ n5_ n6_ n7_ n8_ n9_ n10_ n11_ n12_;clear hb hbox hg;have hnb18:=NB480_473.out;have hnc18:=NB473_480.out;have hnb19:=NB480_474.out;have hnc19:=NB474_480.out;have hnb20:=NB480_477.out;have hnc20:=NB477_480.out;have hcz21_0:w17.cell? ⟨gb480,0,none⟩=some (.int .i64 0):=(blk_cell BK480.out 0).trans rfl;have hcz21_1:w17.cell? ⟨gb480,1,none⟩=some (.int .i64 0):=(blk_cell BK480.out 1).trans rfl;have hfz21_0:=blk_frozen BK480.out 0;have hfz21_1:=blk_frozen BK480.out 1))
 (try simp only [Act.put,List.setIfInBounds_toArray,List.set_cons_zero,List.set_cons_succ])
 go_cut [11] (fun v11 wc=>∃ (kq:Nat) (x11_4:Bool),v11=.bool x11_4∧Aside0 (outriggerref02_Compare.j0 kq x11_4 t475 t476 t478 t479=some r)∧Aside0 (kq≤k)∧Aside0 (wc.heap[gb473]? = some (.cells #[.int .i64 a0_0,.int .i64 a0_1] 50 (0,0)))∧Aside0 (wc.heap[gb474]? = some (.cells #[.int .i64 a1_0,.int .i64 a1_1] 50 (0,0)))∧Aside0 (wc.heap[gb477]? = some (.cells #[.int .i64 t475,.int .i64 t476] 50 (0,0)))∧Aside0 (wc.heap[gb480]? = some (.cells #[.int .i64 t478,.int .i64 t479] 50 (0,0)))∧Aside0 (Below w.heap.size w wc))
 case first =>
  have H:=HC5.out
  clear HC5
  by_cases c22:t475<t478
  ·rw [if_pos c22] at H
   have c22b0:decide (t475<t478)=true:=decide_eq_true c22
   clear c22
   (first|rw [c22b0]|(simp only [i64_w,i32_w];rw [c22b0])|skip)
   have H':=Aside0.mk H
   clear H
   have hnb23:=NB477_473.out
   have hnc23:=NB473_477.out
   have hnb24:=NB477_474.out
   have hnc24:=NB474_477.out
   have hnb25:=NB477_480.out
   have hnc25:=NB480_477.out
   have hcz26_0:w17.cell? ⟨gb477,0,none⟩=some (.int .i64 t475):=(blk_cell BK477.out 0).trans rfl
   have hcz26_1:w17.cell? ⟨gb477,1,none⟩=some (.int .i64 t476):=(blk_cell BK477.out 1).trans rfl
   have hfz26_0:=blk_frozen BK477.out 0
   have hfz26_1:=blk_frozen BK477.out 1
   have hnb27:=NB480_473.out
   have hnc27:=NB473_480.out
   have hnb28:=NB480_474.out
   have hnc28:=NB474_480.out
   have hcz29_0:w17.cell? ⟨gb480,0,none⟩=some (.int .i64 0):=(blk_cell BK480.out 0).trans rfl
   have hcz29_1:w17.cell? ⟨gb480,1,none⟩=some (.int .i64 0):=(blk_cell BK480.out 1).trans rfl
   have hfz29_0:=blk_frozen BK480.out 0
   have hfz29_1:=blk_frozen BK480.out 1
   go_wp2
   go_meet
   case rel=>exact⟨_,(true),(by first|rfl|(simp;done)|(simp [*];done)),H',⟨by first|omega|exact Nat.le_refl _⟩,⟨by try refine bk ?_;refine blk_far ?_ NB473_480.out _;try refine bk ?_;refine blk_far ?_ NB473_480.out _;try refine bk ?_;exact BK473.out⟩,⟨by try refine bk ?_;refine blk_far ?_ NB474_480.out _;try refine bk ?_;refine blk_far ?_ NB474_480.out _;try refine bk ?_;exact BK474.out⟩,⟨by try refine bk ?_;refine blk_far ?_ NB477_480.out _;try refine bk ?_;refine blk_far ?_ NB477_480.out _;try refine bk ?_;exact BK477.out⟩,⟨by try refine bk ?_;refine blk_put (cs:=#[.int .i64 t478,.int .i64 0]) ?_ 1 _ rfl;try refine bk ?_;refine blk_put (cs:=#[.int .i64 0,.int .i64 0]) ?_ 0 _ rfl;try refine bk ?_;exact BK480.out⟩,⟨by repeat (first|with_reducible exact HB.out|exact bl HB|refine bs ?_ GE473|refine bs ?_ GE474|refine bs ?_ GE477|refine bs ?_ GE480)⟩⟩
  ·rw [if_neg c22] at H
   have c22b0:decide (t475<t478)=false:=decide_eq_false c22
   clear c22
   (first|rw [c22b0]|(simp only [i64_w,i32_w];rw [c22b0])|skip)
   by_cases c30:t475=t478
   ·rw [if_pos c30] at H
    have c30b0:(t475 == t478)=true:=beq_iff_eq.mpr c30
    have c30b1:(t475 != t478)=false:=bne_eq_false_iff_eq.mpr c30
    clear c30
    have H':=Aside0.mk H
    clear H
    have hnb31:=NB477_473.out
    have hnc31:=NB473_477.out
    have hnb32:=NB477_474.out
    have hnc32:=NB474_477.out
    have hnb33:=NB477_480.out
    have hnc33:=NB480_477.out
    have hcz34_0:w17.cell? ⟨gb477,0,none⟩=some (.int .i64 t475):=(blk_cell BK477.out 0).trans rfl
    have hcz34_1:w17.cell? ⟨gb477,1,none⟩=some (.int .i64 t476):=(blk_cell BK477.out 1).trans rfl
    have hfz34_0:=blk_frozen BK477.out 0
    have hfz34_1:=blk_frozen BK477.out 1
    have hnb35:=NB480_473.out
    have hnc35:=NB473_480.out
    have hnb36:=NB480_474.out
    have hnc36:=NB474_480.out
    have hcz37_0:w17.cell? ⟨gb480,0,none⟩=some (.int .i64 0):=(blk_cell BK480.out 0).trans rfl
    have hcz37_1:w17.cell? ⟨gb480,1,none⟩=some (.int .i64 0):=(blk_cell BK480.out 1).trans rfl
    have hfz37_0:=blk_frozen BK480.out 0
    have hfz37_1:=blk_frozen BK480.out 1
    go_wp2
    go_meet
    case rel=>exact⟨_,(decide (t476<t479)),(by first|rfl|(simp;done)|(simp [*];done)),H',⟨by first|omega|exact Nat.le_refl _⟩,⟨by try refine bk ?_;refine blk_far ?_ NB473_480.out _;try refine bk ?_;refine blk_far ?_ NB473_480.out _;try refine bk ?_;exact BK473.out⟩,⟨by try refine bk ?_;refine blk_far ?_ NB474_480.out _;try refine bk ?_;refine blk_far ?_ NB474_480.out _;try refine bk ?_;exact BK474.out⟩,⟨by try refine bk ?_;refine blk_far ?_ NB477_480.out _;try refine bk ?_;refine blk_far ?_ NB477_480.out _;try refine bk ?_;exact BK477.out⟩,⟨by try refine bk ?_;refine blk_put (cs:=#[.int .i64 t478,.int .i64 0]) ?_ 1 _ rfl;try refine bk ?_;refine blk_put (cs:=#[.int .i64 0,.int .i64 0]) ?_ 0 _ rfl;try refine bk ?_;exact BK480.out⟩,⟨by repeat (first|with_reducible exact HB.out|exact bl HB|refine bs ?_ GE473|refine bs ?_ GE474|refine bs ?_ GE477|refine bs ?_ GE480)⟩⟩
   ·rw [if_neg c30] at H
    have c30b0:(t475 == t478)=false:=beq_eq_false_iff_ne.mpr c30
    have c30b1:(t475 != t478)=true:=bne_iff_ne.mpr c30
    have H':=Aside0.mk H
    clear H
    have hnb38:=NB477_473.out
    have hnc38:=NB473_477.out
    have hnb39:=NB477_474.out
    have hnc39:=NB474_477.out
    have hnb40:=NB477_480.out
    have hnc40:=NB480_477.out
    have hcz41_0:w17.cell? ⟨gb477,0,none⟩=some (.int .i64 t475):=(blk_cell BK477.out 0).trans rfl
    have hcz41_1:w17.cell? ⟨gb477,1,none⟩=some (.int .i64 t476):=(blk_cell BK477.out 1).trans rfl
    have hfz41_0:=blk_frozen BK477.out 0
    have hfz41_1:=blk_frozen BK477.out 1
    have hnb42:=NB480_473.out
    have hnc42:=NB473_480.out
    have hnb43:=NB480_474.out
    have hnc43:=NB474_480.out
    have hcz44_0:w17.cell? ⟨gb480,0,none⟩=some (.int .i64 0):=(blk_cell BK480.out 0).trans rfl
    have hcz44_1:w17.cell? ⟨gb480,1,none⟩=some (.int .i64 0):=(blk_cell BK480.out 1).trans rfl
    have hfz44_0:=blk_frozen BK480.out 0
    have hfz44_1:=blk_frozen BK480.out 1
    go_wp2
    go_meet
    case rel=>exact⟨_,(false),(by first|rfl|(simp;done)|(simp [*];done)),H',⟨by first|omega|exact Nat.le_refl _⟩,⟨by try refine bk ?_;refine blk_far ?_ NB473_480.out _;try refine bk ?_;refine blk_far ?_ NB473_480.out _;try refine bk ?_;exact BK473.out⟩,⟨by try refine bk ?_;refine blk_far ?_ NB474_480.out _;try refine bk ?_;refine blk_far ?_ NB474_480.out _;try refine bk ?_;exact BK474.out⟩,⟨by try refine bk ?_;refine blk_far ?_ NB477_480.out _;try refine bk ?_;refine blk_far ?_ NB477_480.out _;try refine bk ?_;exact BK477.out⟩,⟨by try refine bk ?_;refine blk_put (cs:=#[.int .i64 t478,.int .i64 0]) ?_ 1 _ rfl;try refine bk ?_;refine blk_put (cs:=#[.int .i64 0,.int .i64 0]) ?_ 0 _ rfl;try refine bk ?_;exact BK480.out⟩,⟨by repeat (first|with_reducible exact HB.out|exact bl HB|refine bs ?_ GE473|refine bs ?_ GE474|refine bs ?_ GE477|refine bs ?_ GE480)⟩⟩
 case rest =>
  clear HC5
  try clear c1
  try clear c2
  try clear p2
  try clear c3
  try clear c4
  try clear c6
  try clear c7
  try clear c8
  try clear c12
  try clear c13
  try clear c18
  try clear c19
  try clear c20
  try clear c22
  try clear c22b0
  try clear c23
  try clear c24
  try clear c25
  try clear c27
  try clear c28
  try clear c30
  try clear c30b0
  try clear c30b1
  try clear c31
  try clear c32
  try clear c33
  try clear c35
  try clear c36
  try clear c38
  try clear c39
  try clear c40
  try clear c42
  try clear c43
  try clear hcz14_0
  try clear hcz14_1
  try clear hcz15_0
  try clear hcz15_1
  try clear hcz21_0
  try clear hcz21_1
  try clear hcz26_0
  try clear hcz26_1
  try clear hcz29_0
  try clear hcz29_1
  try clear hcz34_0
  try clear hcz34_1
  try clear hcz37_0
  try clear hcz37_1
  try clear hcz41_0
  try clear hcz41_1
  try clear hcz44_0
  try clear hcz44_1
  try clear hcz9_0
  try clear hcz9_1
  try clear hfz14_0
  try clear hfz14_1
  try clear hfz15_0
  try clear hfz15_1
  try clear hfz21_0
  try clear hfz21_1
  try clear hfz26_0
  try clear hfz26_1
  try clear hfz29_0
  try clear hfz29_1
  try clear hfz34_0
  try clear hfz34_1
  try clear hfz37_0
  try clear hfz37_1
  try clear hfz41_0
  try clear hfz41_1
  try clear hfz44_0
  try clear hfz44_1
  try clear hfz9_0
  try clear hfz9_1
  obtain⟨kq,x11_4,rfl,HA,HJ4,BK473,BK474,BK477,BK480,HB⟩:=hcut
  cases kq with
  | zero=>exact absurd HA.out (by simp [outriggerref02_Compare.j0])
  | succ kj4 =>
   have H:=HA.out
   clear HA
   simp only [outriggerref02_Compare.j0] at H
   by_cases c45:x11_4=true
   ·subst c45
    have H1:(some (-1))=some r:=by rw [if_pos rfl] at H;exact H
    clear H
    have H:=H1
    clear H1
    obtain rfl:=Option.some.inj H
    go_wp2
    go_ret
    exact⟨by first|rfl|(simp [errW_none,errW_some]<;>rfl)|(simp [*,errW_none,errW_some]<;>rfl),by repeat (first|with_reducible exact HB.out|exact bl HB|refine bs ?_ GE473|refine bs ?_ GE474|refine bs ?_ GE477|refine bs ?_ GE480)⟩
   ·replace c45:=Bool.eq_false_iff.mpr c45
    subst c45
    have H1:(if (t475 == t478 && (t476 == t479))=true then (some 0) else (some 1))=some r:=by rw [if_neg (show ¬(false=true) by decide)] at H;exact H
    clear H
    have H:=H1
    clear H1
    by_cases c46:(t475 == t478 && (t476 == t479))=true
    ·rw [if_pos c46] at H
     have c46b0:(t475 == t478 && (t476 == t479))=true:=c46
     (try (have c46b1:decide (t475=t478 && (t476 == t479))=true:=by simpa using c46))
     (try (have c46b2:(t475 == t478 && (t476 == t479))=true:=by simpa using c46))
     clear c46
     obtain rfl:=Option.some.inj H
     have hnb47:=NB477_473.out
     have hnc47:=NB473_477.out
     have hnb48:=NB477_474.out
     have hnc48:=NB474_477.out
     have hnb49:=NB477_480.out
     have hnc49:=NB480_477.out
     have hcz50_0:wc.cell? ⟨gb477,0,none⟩=some (.int .i64 t475):=(blk_cell BK477.out 0).trans rfl
     have hcz50_1:wc.cell? ⟨gb477,1,none⟩=some (.int .i64 t476):=(blk_cell BK477.out 1).trans rfl
     have hfz50_0:=blk_frozen BK477.out 0
     have hfz50_1:=blk_frozen BK477.out 1
     have hnb51:=NB480_473.out
     have hnc51:=NB473_480.out
     have hnb52:=NB480_474.out
     have hnc52:=NB474_480.out
     have hcz53_0:wc.cell? ⟨gb480,0,none⟩=some (.int .i64 t478):=(blk_cell BK480.out 0).trans rfl
     have hcz53_1:wc.cell? ⟨gb480,1,none⟩=some (.int .i64 t479):=(blk_cell BK480.out 1).trans rfl
     have hfz53_0:=blk_frozen BK480.out 0
     have hfz53_1:=blk_frozen BK480.out 1
     go_wp2
     go_ret
     exact⟨by first|rfl|(simp [errW_none,errW_some]<;>rfl)|(simp [*,errW_none,errW_some]<;>rfl),by repeat (first|with_reducible exact HB.out|exact bl HB|refine bs ?_ GE473|refine bs ?_ GE474|refine bs ?_ GE477|refine bs ?_ GE480)⟩
    ·rw [if_neg c46] at H
     have c46b0:(t475 == t478 && (t476 == t479))=false:=by simpa using c46
     (try (have c46b1:decide (t475=t478 && (t476 == t479))=false:=by simpa using c46))
     (try (have c46b2:(t475 == t478 && (t476 == t479))=false:=by simpa using c46))
     (try (have c46b3:¬(t475=t478 && (t476 == t479)):=by simpa using c46))
     clear c46
     obtain rfl:=Option.some.inj H
     have hnb54:=NB477_473.out
     have hnc54:=NB473_477.out
     have hnb55:=NB477_474.out
     have hnc55:=NB474_477.out
     have hnb56:=NB477_480.out
     have hnc56:=NB480_477.out
     have hcz57_0:wc.cell? ⟨gb477,0,none⟩=some (.int .i64 t475):=(blk_cell BK477.out 0).trans rfl
     have hcz57_1:wc.cell? ⟨gb477,1,none⟩=some (.int .i64 t476):=(blk_cell BK477.out 1).trans rfl
     have hfz57_0:=blk_frozen BK477.out 0
     have hfz57_1:=blk_frozen BK477.out 1
     have hnb58:=NB480_473.out
     have hnc58:=NB473_480.out
     have hnb59:=NB480_474.out
     have hnc59:=NB474_480.out
     have hcz60_0:wc.cell? ⟨gb480,0,none⟩=some (.int .i64 t478):=(blk_cell BK480.out 0).trans rfl
     have hcz60_1:wc.cell? ⟨gb480,1,none⟩=some (.int .i64 t479):=(blk_cell BK480.out 1).trans rfl
     have hfz60_0:=blk_frozen BK480.out 0
     have hfz60_1:=blk_frozen BK480.out 1
     go_wp2
     go_ret
     exact⟨by first|rfl|(simp [errW_none,errW_some]<;>rfl)|(simp [*,errW_none,errW_some]<;>rfl),by repeat (first|with_reducible exact HB.out|exact bl HB|refine bs ?_ GE473|refine bs ?_ GE474|refine bs ?_ GE477|refine bs ?_ GE480)⟩
end Go.Proofs.Ytembdogffbcjiaa.B
