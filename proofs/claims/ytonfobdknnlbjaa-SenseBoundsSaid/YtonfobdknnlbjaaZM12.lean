/- Lemmas of the row, laid by a program. -/
import Derived.Test.YtonfobdknnlbjaaZM0
import Derived.Test.YtonfobdknnlbjaaZM1
import Derived.Test.YtonfobdknnlbjaaZM5
import Derived.Test.YtonfobdknnlbjaaZM8
import Derived.Test.YtonfobdknnlbjaaZM10
import Derived.Test.YtonfobdknnlbjaaZM11
import Derived.Test.YtonfobdknnlbjaaZM4
import Derived.LoopN
import Derived.Outline
import Derived.Laws.BitsLemmas
import Derived.OpenShut
section
namespace Go.Proofs.Ytonfobdknnlbjaa.B
open Go.RowKit Go.Proofs.YtonfobdknnlbjaaW.PrintWords Go.Proofs.YtonfobdknnlbjaaW.PrintLast Go.Proofs.YtonfobdknnlbjaaW.PrintMore
attribute [local go_sem] max2_int min2_int max_two min_two max_three min_three max_four min_four
attribute [local go_sem high] eqA22 eqA24
set_option linter.unusedVariables false
set_option linter.unusedSimpArgs false
def outriggerlaw18_SenseBounds.T6:Bool × List (List Nat × List Nat):=(true,[([],[]),([0],[0]),([1],[1]),([],[]),([3],[3]),([4],[4]),([2,5],[2,5]),([6],[6]),([7],[7]),([8,7],[7,8]),([9,7],[7,9]),([7],[7]),([11,7],[7,11]),([12,7],[7,12]),([13,7],[7,13]),([10,14,7],[7,10,14]),([7,15],[7,15])])
def outriggerlaw18_SenseBounds.B6:List Nat:=[0,1,3,0,8,24,63,127,255,511,1023,255,2303,6399,14591,32767,65535]
theorem outriggerlaw18_SenseBounds.tab6:rtab .any (opsOf Try.f5 6)=outriggerlaw18_SenseBounds.T6:=by kernel_rfl
theorem outriggerlaw18_SenseBounds.bits6:waitsOk outriggerlaw18_SenseBounds.T6.2 outriggerlaw18_SenseBounds.B6=true:=by kernel_rfl
def outriggerlaw18_SenseBounds.G (k:Nat) (a0_0 a0_1 a0_2 a0_3 a0_4 a1_0 a1_1 a1_2:Int):Prop:=∃ r0 r1 r2 s0 s1 s2:Int,∃ ok is sn:Bool,sense_Read.f k a0_0 a0_1 a0_2 a0_3 a0_4 a1_0 a1_1 a1_2=some (r0,r1,r2,ok)∧sense_Read.f k a0_0 a0_1 a0_2 a0_3 288230376151711744 a1_0 a1_1 a1_2=some (s0,s1,s2,is) ∧
  sense_Read.f k a0_0 a0_1 a0_2 a0_3 a0_4 a0_0 a0_1 a0_2=some (0,0,0,sn)∧sense_Sane.f k a0_0 a0_1 a0_2 a0_3 a0_4=some sn∧((¬r0 > mx a0_4 0∧¬r0<wrap64 (-(mx a0_4 0)))∧(¬r1 > mx a0_4 0∧¬r1<wrap64 (-(mx a0_4 0)))∧(¬r2 > mx a0_4 0∧¬r2<wrap64 (-(mx a0_4 0)))) ∧
  ((ok=true∧is=true∧r0=s0∧r1=s1∧r2=s2)∨(ok=false∧r0=0∧r1=0∧r2=0))
set_option maxRecDepth 100000 in
set_option maxHeartbeats 8000000 in
theorem outriggerlaw18_SenseBounds.calls (k:Nat) (a0_0 a0_1 a0_2 a0_3 a0_4 a1_0 a1_1 a1_2:Int) (r:Bool) (w:World) (h:outriggerlaw18_SenseBounds.G k a0_0 a0_1 a0_2 a0_3 a0_4 a1_0 a1_1 a1_2) (hr:Aside0 (r=true)) :
  Calls Try.prog 5 #[.agg #[.int .i64 a0_0,.int .i64 a0_1,.int .i64 a0_2,.int .i64 a0_3,.int .i64 a0_4],.agg #[.int .i64 a1_0,.int .i64 a1_1,.int .i64 a1_2]] w fun e w'=>e=.returned (.bool r)∧Below w.heap.size w w':=by
 obtain rfl:=hr.out
 clear hr
 obtain⟨r0,r1,r2,s0,s1,s2,ok,is,sn,A1,A2,A3,A4,⟨X0,X1,X2⟩,X⟩:=h
 obtain⟨M,hM⟩:∃ m,mx a0_4 0=m:=⟨_,rfl⟩
 rw [hM] at X0 X1 X2
 have hM2:(if a0_4<0 then 0 else a0_4)=M:=hM
 clear hM
 replace A1:=Aside0.mk A1
 replace A2:=Aside0.mk A2
 replace A3:=Aside0.mk A3
 replace A4:=Aside0.mk A4
 replace X0:=Aside0.mk X0
 replace X1:=Aside0.mk X1
 replace X2:=Aside0.mk X2
 rcases X with ⟨rfl,rfl,rfl,rfl,rfl⟩|⟨rfl,rfl,rfl,rfl⟩
 ·have hB:=Bel.refl w
  go_enter Try.func5,Try.ntmps5
  go_wp2_with (first|((with_reducible refine gate_dst (N:=2) rfl ?_);refine box_event ?hg (N:=2) ?hd (cs:=#[.int .i64 a0_0,.int .i64 a0_1,.int .i64 a0_2,.int .i64 a0_3,.int .i64 a0_4]) (t:=24) ?hr ?_;(case hd=>rfl);(case hg=>rfl);(case hr=>first|(go_simp;done)|(go_simp;rfl));intro g_c hg w1 b_c hb;have b_c:Bk w1 g_c #[.int .i64 a0_0,.int .i64 a0_1,.int .i64 a0_2,.int .i64 a0_3,.int .i64 a0_4] 24:=b_c;have l_c:w.heap.size≤g_c:=(by rw [hg];exact Bel.size hB);have mB:=Bel.step hB hb;clear hB;have hB:=mB;clear mB;(try clear hb);clear hg;have c_c0:World.cell? w1 ⟨g_c,0,none⟩=some (.int .i64 a0_0):=(Bk.cell b_c 0).trans rfl;have f_c0:=Bk.frozen b_c 0;have c_c1:World.cell? w1 ⟨g_c,1,none⟩=some (.int .i64 a0_1):=(Bk.cell b_c 1).trans rfl;have f_c1:=Bk.frozen b_c 1;have c_c2:World.cell? w1 ⟨g_c,2,none⟩=some (.int .i64 a0_2):=(Bk.cell b_c 2).trans rfl;have f_c2:=Bk.frozen b_c 2;have c_c3:World.cell? w1 ⟨g_c,3,none⟩=some (.int .i64 a0_3):=(Bk.cell b_c 3).trans rfl;have f_c3:=Bk.frozen b_c 3;have c_c4:World.cell? w1 ⟨g_c,4,none⟩=some (.int .i64 a0_4):=(Bk.cell b_c 4).trans rfl;have f_c4:=Bk.frozen b_c 4)|((with_reducible refine gate_dst (N:=3) rfl ?_);refine box_event ?hg (N:=3) ?hd (cs:=#[.int .i64 a1_0,.int .i64 a1_1,.int .i64 a1_2]) (t:=22) ?hr ?_;(case hd=>rfl);(case hg=>rfl);(case hr=>first|(go_simp;done)|(go_simp;rfl));intro g_v hg w1 b_v hb;have b_v:Bk w1 g_v #[.int .i64 a1_0,.int .i64 a1_1,.int .i64 a1_2] 22:=b_v;have l_v:w.heap.size≤g_v:=(by rw [hg];exact Bel.size hB);have ne_c_v:g_c≠g_v:=(by rw [hg];exact Nat.ne_of_lt (Bk.lt b_c));have ne_v_c:g_v≠g_c:=Ne.symm ne_c_v;have m_c:Bk w1 g_c #[.int .i64 a0_0,.int .i64 a0_1,.int .i64 a0_2,.int .i64 a0_3,.int .i64 a0_4] 24:=Bk.below b_c hb;have mB:=Bel.step hB hb;clear b_c;have b_c:=m_c;clear m_c;clear hB;have hB:=mB;clear mB;(try clear hb);clear hg;have c_c0:World.cell? w1 ⟨g_c,0,none⟩=some (.int .i64 a0_0):=(Bk.cell b_c 0).trans rfl;have f_c0:=Bk.frozen b_c 0;have c_c1:World.cell? w1 ⟨g_c,1,none⟩=some (.int .i64 a0_1):=(Bk.cell b_c 1).trans rfl;have f_c1:=Bk.frozen b_c 1;have c_c2:World.cell? w1 ⟨g_c,2,none⟩=some (.int .i64 a0_2):=(Bk.cell b_c 2).trans rfl;have f_c2:=Bk.frozen b_c 2;have c_c3:World.cell? w1 ⟨g_c,3,none⟩=some (.int .i64 a0_3):=(Bk.cell b_c 3).trans rfl;have f_c3:=Bk.frozen b_c 3;have c_c4:World.cell? w1 ⟨g_c,4,none⟩=some (.int .i64 a0_4):=(Bk.cell b_c 4).trans rfl;have f_c4:=Bk.frozen b_c 4;have c_v0:World.cell? w1 ⟨g_v,0,none⟩=some (.int .i64 a1_0):=(Bk.cell b_v 0).trans rfl;have f_v0:=Bk.frozen b_v 0;have c_v1:World.cell? w1 ⟨g_v,1,none⟩=some (.int .i64 a1_1):=(Bk.cell b_v 1).trans rfl;have f_v1:=Bk.frozen b_v 1;have c_v2:World.cell? w1 ⟨g_v,2,none⟩=some (.int .i64 a1_2):=(Bk.cell b_v 2).trans rfl;have f_v2:=Bk.frozen b_v 2)|((with_reducible refine gate_callee (f:=8) rfl ?_);refine goesL_ (some 14) rfl rfl Try.func8 (by kernel_rfl) rfl #[] rfl (by (try simp only [List.map_toArray,List.map_cons,List.map_nil]);first|done|rfl) ?_;refine(outriggerlaw18_awake.calls 200 true _ outriggerlaw18_awake.known).mono ?_;rintro e w1 ⟨rfl,hb⟩;refine⟨_,rfl,?_⟩;have m_c:Bk w1 g_c #[.int .i64 a0_0,.int .i64 a0_1,.int .i64 a0_2,.int .i64 a0_3,.int .i64 a0_4] 24:=Bk.below b_c hb;have m_v:Bk w1 g_v #[.int .i64 a1_0,.int .i64 a1_1,.int .i64 a1_2] 22:=Bk.below b_v hb;have mB:=Bel.step hB hb;clear b_c;clear b_v;have b_c:=m_c;clear m_c;have b_v:=m_v;clear m_v;clear hB;have hB:=mB;clear mB;(try clear hb);have c_c0:World.cell? w1 ⟨g_c,0,none⟩=some (.int .i64 a0_0):=(Bk.cell b_c 0).trans rfl;have f_c0:=Bk.frozen b_c 0;have c_c1:World.cell? w1 ⟨g_c,1,none⟩=some (.int .i64 a0_1):=(Bk.cell b_c 1).trans rfl;have f_c1:=Bk.frozen b_c 1;have c_c2:World.cell? w1 ⟨g_c,2,none⟩=some (.int .i64 a0_2):=(Bk.cell b_c 2).trans rfl;have f_c2:=Bk.frozen b_c 2;have c_c3:World.cell? w1 ⟨g_c,3,none⟩=some (.int .i64 a0_3):=(Bk.cell b_c 3).trans rfl;have f_c3:=Bk.frozen b_c 3;have c_c4:World.cell? w1 ⟨g_c,4,none⟩=some (.int .i64 a0_4):=(Bk.cell b_c 4).trans rfl;have f_c4:=Bk.frozen b_c 4;have c_v0:World.cell? w1 ⟨g_v,0,none⟩=some (.int .i64 a1_0):=(Bk.cell b_v 0).trans rfl;have f_v0:=Bk.frozen b_v 0;have c_v1:World.cell? w1 ⟨g_v,1,none⟩=some (.int .i64 a1_1):=(Bk.cell b_v 1).trans rfl;have f_v1:=Bk.frozen b_v 1;have c_v2:World.cell? w1 ⟨g_v,2,none⟩=some (.int .i64 a1_2):=(Bk.cell b_v 2).trans rfl;have f_v2:=Bk.frozen b_v 2)|((with_reducible refine gate_callee (f:=9) rfl ?_);refine goesL_ (some 18) rfl rfl Try.func9 (by kernel_rfl) rfl #[.agg #[.int .i64 a0_0,.int .i64 a0_1,.int .i64 a0_2,.int .i64 a0_3,.int .i64 a0_4],.agg #[.int .i64 a1_0,.int .i64 a1_1,.int .i64 a1_2]] rfl (by (try simp only [List.map_toArray,List.map_cons,List.map_nil]);first|done|rfl) ?_;refine(sense_Read.calls k a0_0 a0_1 a0_2 a0_3 a0_4 a1_0 a1_1 a1_2 _ _ _ _ _ A1.out).mono ?_;rintro e w1 ⟨rfl,hb⟩;refine⟨_,rfl,?_⟩;have m_c:Bk w1 g_c #[.int .i64 a0_0,.int .i64 a0_1,.int .i64 a0_2,.int .i64 a0_3,.int .i64 a0_4] 24:=Bk.below b_c hb;have m_v:Bk w1 g_v #[.int .i64 a1_0,.int .i64 a1_1,.int .i64 a1_2] 22:=Bk.below b_v hb;have mB:=Bel.step hB hb;clear b_c;clear b_v;have b_c:=m_c;clear m_c;have b_v:=m_v;clear m_v;clear hB;have hB:=mB;clear mB;(try clear hb);have c_c0:World.cell? w1 ⟨g_c,0,none⟩=some (.int .i64 a0_0):=(Bk.cell b_c 0).trans rfl;have f_c0:=Bk.frozen b_c 0;have c_c1:World.cell? w1 ⟨g_c,1,none⟩=some (.int .i64 a0_1):=(Bk.cell b_c 1).trans rfl;have f_c1:=Bk.frozen b_c 1;have c_c2:World.cell? w1 ⟨g_c,2,none⟩=some (.int .i64 a0_2):=(Bk.cell b_c 2).trans rfl;have f_c2:=Bk.frozen b_c 2;have c_c3:World.cell? w1 ⟨g_c,3,none⟩=some (.int .i64 a0_3):=(Bk.cell b_c 3).trans rfl;have f_c3:=Bk.frozen b_c 3;have c_c4:World.cell? w1 ⟨g_c,4,none⟩=some (.int .i64 a0_4):=(Bk.cell b_c 4).trans rfl;have f_c4:=Bk.frozen b_c 4;have c_v0:World.cell? w1 ⟨g_v,0,none⟩=some (.int .i64 a1_0):=(Bk.cell b_v 0).trans rfl;have f_v0:=Bk.frozen b_v 0;have c_v1:World.cell? w1 ⟨g_v,1,none⟩=some (.int .i64 a1_1):=(Bk.cell b_v 1).trans rfl;have f_v1:=Bk.frozen b_v 1;have c_v2:World.cell? w1 ⟨g_v,2,none⟩=some (.int .i64 a1_2):=(Bk.cell b_v 2).trans rfl;have f_v2:=Bk.frozen b_v 2)|((with_reducible refine gate_dst (N:=6) rfl ?_);refine box_event ?hg (N:=6) ?hd (cs:=#[.int .i64 0,.int .i64 0,.int .i64 0]) (t:=22) ?hr ?_;(case hd=>rfl);(case hg=>rfl);(case hr=>first|(go_simp;done)|(go_simp;rfl));intro g_r hg w1 b_r hb;have b_r:Bk w1 g_r #[.int .i64 0,.int .i64 0,.int .i64 0] 22:=b_r;have l_r:w.heap.size≤g_r:=(by rw [hg];exact Bel.size hB);have ne_c_r:g_c≠g_r:=(by rw [hg];exact Nat.ne_of_lt (Bk.lt b_c));have ne_r_c:g_r≠g_c:=Ne.symm ne_c_r;have ne_v_r:g_v≠g_r:=(by rw [hg];exact Nat.ne_of_lt (Bk.lt b_v));have ne_r_v:g_r≠g_v:=Ne.symm ne_v_r;have m_c:Bk w1 g_c #[.int .i64 a0_0,.int .i64 a0_1,.int .i64 a0_2,.int .i64 a0_3,.int .i64 a0_4] 24:=Bk.below b_c hb;have m_v:Bk w1 g_v #[.int .i64 a1_0,.int .i64 a1_1,.int .i64 a1_2] 22:=Bk.below b_v hb;have mB:=Bel.step hB hb;clear b_c;clear b_v;have b_c:=m_c;clear m_c;have b_v:=m_v;clear m_v;clear hB;have hB:=mB;clear mB;(try clear hb);clear hg;have c_c0:World.cell? w1 ⟨g_c,0,none⟩=some (.int .i64 a0_0):=(Bk.cell b_c 0).trans rfl;have f_c0:=Bk.frozen b_c 0;have c_c1:World.cell? w1 ⟨g_c,1,none⟩=some (.int .i64 a0_1):=(Bk.cell b_c 1).trans rfl;have f_c1:=Bk.frozen b_c 1;have c_c2:World.cell? w1 ⟨g_c,2,none⟩=some (.int .i64 a0_2):=(Bk.cell b_c 2).trans rfl;have f_c2:=Bk.frozen b_c 2;have c_c3:World.cell? w1 ⟨g_c,3,none⟩=some (.int .i64 a0_3):=(Bk.cell b_c 3).trans rfl;have f_c3:=Bk.frozen b_c 3;have c_c4:World.cell? w1 ⟨g_c,4,none⟩=some (.int .i64 a0_4):=(Bk.cell b_c 4).trans rfl;have f_c4:=Bk.frozen b_c 4;have c_v0:World.cell? w1 ⟨g_v,0,none⟩=some (.int .i64 a1_0):=(Bk.cell b_v 0).trans rfl;have f_v0:=Bk.frozen b_v 0;have c_v1:World.cell? w1 ⟨g_v,1,none⟩=some (.int .i64 a1_1):=(Bk.cell b_v 1).trans rfl;have f_v1:=Bk.frozen b_v 1;have c_v2:World.cell? w1 ⟨g_v,2,none⟩=some (.int .i64 a1_2):=(Bk.cell b_v 2).trans rfl;have f_v2:=Bk.frozen b_v 2;have c_r0:World.cell? w1 ⟨g_r,0,none⟩=some (.int .i64 0):=(Bk.cell b_r 0).trans rfl;have f_r0:=Bk.frozen b_r 0;have c_r1:World.cell? w1 ⟨g_r,1,none⟩=some (.int .i64 0):=(Bk.cell b_r 1).trans rfl;have f_r1:=Bk.frozen b_r 1;have c_r2:World.cell? w1 ⟨g_r,2,none⟩=some (.int .i64 0):=(Bk.cell b_r 2).trans rfl;have f_r2:=Bk.frozen b_r 2))
  refine wp_loop_rounds 4 ?_
  rw [rounds_succ]
  go_wp2
  have x0:decide (r0 > M)=false:=decide_eq_false (by have h_:=X0.out.1;omega)
  have x1:decide (r0<wrap64 (-M))=false:=decide_eq_false (by have h_:=X0.out.2;omega)
  have x2:decide (r0<IntKind.i64.wrap (-M))=false:=by rw [i64_w];exact x1
  refine start2_ (n:=17) (S:=fun w'=>Bk w' g_c #[.int .i64 a0_0,.int .i64 a0_1,.int .i64 a0_2,.int .i64 a0_3,.int .i64 a0_4] 24∧Bk w' g_v #[.int .i64 a1_0,.int .i64 a1_1,.int .i64 a1_2] 22∧Bk w' g_r #[.int .i64 r0,.int .i64 r1,.int .i64 r2] 22∧Bel w w') (ds:=[]) #[false,false,false,false,false,false,false,false,false,false,false,false,false,false,false,false,false] (by kernel_rfl) rfl rfl outriggerlaw18_SenseBounds.tab6 outriggerlaw18_SenseBounds.bits6 ⟨Bk.drew (Bk.far (Bk.far (Bk.far b_c ne_c_r 0 (.int .i64 r0)) ne_c_r 1 (.int .i64 r1)) ne_c_r 2 (.int .i64 r2)),Bk.drew (Bk.far (Bk.far (Bk.far b_v ne_v_r 0 (.int .i64 r0)) ne_v_r 1 (.int .i64 r1)) ne_v_r 2 (.int .i64 r2)),Bk.drew (Bk.put (Bk.put (Bk.put b_r 0 (.int .i64 r0) rfl) 1 (.int .i64 r1) rfl) 2 (.int .i64 r2) rfl),Bel.drew (Bel.set (Bel.set (Bel.set hB l_r 0 (.int .i64 r0)) l_r 1 (.int .i64 r1)) l_r 2 (.int .i64 r2))⟩ (fun wn hHeld HT_ HW_=>?_)
  refine pure_ (i:=0) (N:=some 25) (v:=?_) (a':=?_) #[true,false,false,false,false,false,false,false,false,false,false,false,false,false,false,false,false] rfl rfl (any_of HT_.out (by kernel_rfl)) (fun _ _ _ h=>h) (Or.inl ⟨by rfl,?_⟩) ?_ ?_
  rotate_left
  ·intro w'
   go_simp
   with_reducible rfl
  rotate_left
  ·simp only [Act.put,List.setIfInBounds_toArray,List.set_cons_zero,List.set_cons_succ]
   rfl
  refine pure_ (i:=1) (N:=some 26) (v:=?_) (a':=?_) #[true,true,false,false,false,false,false,false,false,false,false,false,false,false,false,false,false] rfl rfl (any_of HT_.out (by kernel_rfl)) (fun _ _ _ h=>h) (Or.inl ⟨by rfl,?_⟩) ?_ ?_
  rotate_left
  ·intro w'
   go_simp
   with_reducible rfl
  rotate_left
  ·simp only [Act.put,List.setIfInBounds_toArray,List.set_cons_zero,List.set_cons_succ]
   rfl
  refine take_ (i:=2) (N:=some 27) (v:=?_) (a':=?_) #[true,true,true,false,false,false,false,false,false,false,false,false,false,false,false,false,false] rfl rfl (take_ofW HT_.out HW_.out (by kernel_rfl)) (fun _ _ _ h=>h) (Or.inl ⟨by rfl,?_⟩) hHeld ?_ ?_
  rotate_left
  ·rintro w' ⟨s0,s1,s2,s3⟩
   have c_r0:World.cell? w' ⟨g_r,0,none⟩=some (.int .i64 r0):=(Bk.cell s2 0).trans rfl
   have c_r1:World.cell? w' ⟨g_r,1,none⟩=some (.int .i64 r1):=(Bk.cell s2 1).trans rfl
   have c_r2:World.cell? w' ⟨g_r,2,none⟩=some (.int .i64 r2):=(Bk.cell s2 2).trans rfl
   go_simp
   with_reducible rfl
  rotate_left
  ·simp only [Act.put,List.setIfInBounds_toArray,List.set_cons_zero,List.set_cons_succ]
   rfl
  refine pure_ (i:=3) (N:=some 28) (v:=?_) (a':=?_) #[true,true,true,true,false,false,false,false,false,false,false,false,false,false,false,false,false] rfl rfl (any_of HT_.out (by kernel_rfl)) (fun _ _ _ h=>h) (Or.inl ⟨by rfl,?_⟩) ?_ ?_
  rotate_left
  ·intro w'
   go_simp
   with_reducible rfl
  rotate_left
  ·simp only [Act.put,List.setIfInBounds_toArray,List.set_cons_zero,List.set_cons_succ]
   rfl
  refine take_ (i:=4) (N:=some 29) (v:=?_) (a':=?_) #[true,true,true,true,true,false,false,false,false,false,false,false,false,false,false,false,false] rfl rfl (take_ofW HT_.out HW_.out (by kernel_rfl)) (fun _ _ _ h=>h) (Or.inl ⟨by rfl,?_⟩) hHeld ?_ ?_
  rotate_left
  ·rintro w' ⟨s0,s1,s2,s3⟩
   have c_c0:World.cell? w' ⟨g_c,0,none⟩=some (.int .i64 a0_0):=(Bk.cell s0 0).trans rfl
   have c_c1:World.cell? w' ⟨g_c,1,none⟩=some (.int .i64 a0_1):=(Bk.cell s0 1).trans rfl
   have c_c2:World.cell? w' ⟨g_c,2,none⟩=some (.int .i64 a0_2):=(Bk.cell s0 2).trans rfl
   have c_c3:World.cell? w' ⟨g_c,3,none⟩=some (.int .i64 a0_3):=(Bk.cell s0 3).trans rfl
   have c_c4:World.cell? w' ⟨g_c,4,none⟩=some (.int .i64 a0_4):=(Bk.cell s0 4).trans rfl
   go_simp
   with_reducible rfl
  rotate_left
  ·simp only [Act.put,List.setIfInBounds_toArray,List.set_cons_zero,List.set_cons_succ]
   rfl
  refine pure_ (i:=5) (N:=some 30) (v:=?_) (a':=?_) #[true,true,true,true,true,true,false,false,false,false,false,false,false,false,false,false,false] rfl rfl (any_of HT_.out (by kernel_rfl)) (fun _ _ _ h=>h) (Or.inl ⟨by rfl,?_⟩) ?_ ?_
  rotate_left
  ·intro w'
   go_simp
   with_reducible rfl
  rotate_left
  ·simp only [Act.put,List.setIfInBounds_toArray,List.set_cons_zero,List.set_cons_succ]
   rfl
  refine pure_ (i:=6) (N:=some 31) (v:=?_) (a':=?_) #[true,true,true,true,true,true,true,false,false,false,false,false,false,false,false,false,false] rfl rfl (any_of HT_.out (by kernel_rfl)) (fun _ _ _ h=>h) (Or.inl ⟨by rfl,?_⟩) ?_ ?_
  rotate_left
  ·intro w'
   go_simp
   with_reducible rfl
  rotate_left
  ·simp only [Act.put,List.setIfInBounds_toArray,List.set_cons_zero,List.set_cons_succ]
   rfl
  refine pure_ (i:=7) (N:=some 32) (v:=?_) (a':=?_) #[true,true,true,true,true,true,true,true,false,false,false,false,false,false,false,false,false] rfl rfl (any_of HT_.out (by kernel_rfl)) (fun _ _ _ h=>h) (Or.inl ⟨by rfl,?_⟩) ?_ ?_
  rotate_left
  ·intro w'
   go_simp
   with_reducible rfl
  rotate_left
  ·simp only [Act.put,List.setIfInBounds_toArray,List.set_cons_zero,List.set_cons_succ]
   rfl
  refine pure_ (i:=8) (N:=some 33) (v:=?_) (a':=?_) #[true,true,true,true,true,true,true,true,true,false,false,false,false,false,false,false,false] rfl rfl (any_of HT_.out (by kernel_rfl)) (fun _ _ _ h=>h) (Or.inl ⟨by rfl,?_⟩) ?_ ?_
  rotate_left
  ·intro w'
   go_simp
   with_reducible rfl
  rotate_left
  ·simp only [Act.put,List.setIfInBounds_toArray,List.set_cons_zero,List.set_cons_succ]
   rfl
  refine pure_ (i:=9) (N:=some 34) (v:=?_) (a':=?_) #[true,true,true,true,true,true,true,true,true,true,false,false,false,false,false,false,false] rfl rfl (any_of HT_.out (by kernel_rfl)) (fun _ _ _ h=>h) (Or.inl ⟨by rfl,?_⟩) ?_ ?_
  rotate_left
  ·intro w'
   go_simp
   with_reducible rfl
  rotate_left
  ·simp only [Act.put,List.setIfInBounds_toArray,List.set_cons_zero,List.set_cons_succ]
   rfl
  refine take_ (i:=10) (N:=some 35) (v:=?_) (a':=?_) #[true,true,true,true,true,true,true,true,true,true,true,false,false,false,false,false,false] rfl rfl (take_ofW HT_.out HW_.out (by kernel_rfl)) (fun _ _ _ h=>h) (Or.inl ⟨by rfl,?_⟩) hHeld ?_ ?_
  rotate_left
  ·rintro w' ⟨s0,s1,s2,s3⟩
   have c_r0:World.cell? w' ⟨g_r,0,none⟩=some (.int .i64 r0):=(Bk.cell s2 0).trans rfl
   have c_r1:World.cell? w' ⟨g_r,1,none⟩=some (.int .i64 r1):=(Bk.cell s2 1).trans rfl
   have c_r2:World.cell? w' ⟨g_r,2,none⟩=some (.int .i64 r2):=(Bk.cell s2 2).trans rfl
   go_simp
   with_reducible rfl
  rotate_left
  ·simp only [Act.put,List.setIfInBounds_toArray,List.set_cons_zero,List.set_cons_succ]
   rfl
  refine pure_ (i:=11) (N:=some 36) (v:=?_) (a':=?_) #[true,true,true,true,true,true,true,true,true,true,true,true,false,false,false,false,false] rfl rfl (any_of HT_.out (by kernel_rfl)) (fun _ _ _ h=>h) (Or.inl ⟨by rfl,?_⟩) ?_ ?_
  rotate_left
  ·intro w'
   go_simp
   with_reducible rfl
  rotate_left
  ·simp only [Act.put,List.setIfInBounds_toArray,List.set_cons_zero,List.set_cons_succ]
   rfl
  refine take_ (i:=12) (N:=some 37) (v:=?_) (a':=?_) #[true,true,true,true,true,true,true,true,true,true,true,true,true,false,false,false,false] rfl rfl (take_ofW HT_.out HW_.out (by kernel_rfl)) (fun _ _ _ h=>h) (Or.inl ⟨by rfl,?_⟩) hHeld ?_ ?_
  rotate_left
  ·rintro w' ⟨s0,s1,s2,s3⟩
   have c_c0:World.cell? w' ⟨g_c,0,none⟩=some (.int .i64 a0_0):=(Bk.cell s0 0).trans rfl
   have c_c1:World.cell? w' ⟨g_c,1,none⟩=some (.int .i64 a0_1):=(Bk.cell s0 1).trans rfl
   have c_c2:World.cell? w' ⟨g_c,2,none⟩=some (.int .i64 a0_2):=(Bk.cell s0 2).trans rfl
   have c_c3:World.cell? w' ⟨g_c,3,none⟩=some (.int .i64 a0_3):=(Bk.cell s0 3).trans rfl
   have c_c4:World.cell? w' ⟨g_c,4,none⟩=some (.int .i64 a0_4):=(Bk.cell s0 4).trans rfl
   go_simp
   with_reducible rfl
  rotate_left
  ·simp only [Act.put,List.setIfInBounds_toArray,List.set_cons_zero,List.set_cons_succ]
   rfl
  refine pure_ (i:=13) (N:=some 38) (v:=?_) (a':=?_) #[true,true,true,true,true,true,true,true,true,true,true,true,true,true,false,false,false] rfl rfl (any_of HT_.out (by kernel_rfl)) (fun _ _ _ h=>h) (Or.inl ⟨by rfl,?_⟩) ?_ ?_
  rotate_left
  ·intro w'
   go_simp
   with_reducible rfl
  rotate_left
  ·simp only [Act.put,List.setIfInBounds_toArray,List.set_cons_zero,List.set_cons_succ]
   rfl
  refine pure_ (i:=14) (N:=some 39) (v:=?_) (a':=?_) #[true,true,true,true,true,true,true,true,true,true,true,true,true,true,true,false,false] rfl rfl (any_of HT_.out (by kernel_rfl)) (fun _ _ _ h=>h) (Or.inl ⟨by rfl,?_⟩) ?_ ?_
  rotate_left
  ·intro w'
   go_simp
   with_reducible rfl
  rotate_left
  ·simp only [Act.put,List.setIfInBounds_toArray,List.set_cons_zero,List.set_cons_succ]
   rfl
  refine pure_ (i:=15) (N:=some 40) (v:=?_) (a':=?_) #[true,true,true,true,true,true,true,true,true,true,true,true,true,true,true,true,false] rfl rfl (any_of HT_.out (by kernel_rfl)) (fun _ _ _ h=>h) (Or.inl ⟨by rfl,?_⟩) ?_ ?_
  rotate_left
  ·intro w'
   go_simp
   with_reducible rfl
  rotate_left
  ·simp only [Act.put,List.setIfInBounds_toArray,List.set_cons_zero,List.set_cons_succ]
   rfl
  refine pure_ (i:=16) (N:=some 41) (v:=?_) (a':=?_) #[true,true,true,true,true,true,true,true,true,true,true,true,true,true,true,true,true] rfl rfl (any_of HT_.out (by kernel_rfl)) (fun _ _ _ h=>h) (Or.inl ⟨by rfl,?_⟩) ?_ ?_
  rotate_left
  ·intro w'
   go_simp
   with_reducible rfl
  rotate_left
  ·simp only [Act.put,List.setIfInBounds_toArray,List.set_cons_zero,List.set_cons_succ]
   rfl
  refine done_ (done_of HT_.out (by kernel_rfl)) ?_
  clear b_c b_v b_r hB
  obtain⟨b_c,b_v,b_r,hB⟩:=hHeld
  have c_c0:World.cell? wn ⟨g_c,0,none⟩=some (.int .i64 a0_0):=(Bk.cell b_c 0).trans rfl
  have f_c0:=Bk.frozen b_c 0
  have c_c1:World.cell? wn ⟨g_c,1,none⟩=some (.int .i64 a0_1):=(Bk.cell b_c 1).trans rfl
  have f_c1:=Bk.frozen b_c 1
  have c_c2:World.cell? wn ⟨g_c,2,none⟩=some (.int .i64 a0_2):=(Bk.cell b_c 2).trans rfl
  have f_c2:=Bk.frozen b_c 2
  have c_c3:World.cell? wn ⟨g_c,3,none⟩=some (.int .i64 a0_3):=(Bk.cell b_c 3).trans rfl
  have f_c3:=Bk.frozen b_c 3
  have c_c4:World.cell? wn ⟨g_c,4,none⟩=some (.int .i64 a0_4):=(Bk.cell b_c 4).trans rfl
  have f_c4:=Bk.frozen b_c 4
  have c_v0:World.cell? wn ⟨g_v,0,none⟩=some (.int .i64 a1_0):=(Bk.cell b_v 0).trans rfl
  have f_v0:=Bk.frozen b_v 0
  have c_v1:World.cell? wn ⟨g_v,1,none⟩=some (.int .i64 a1_1):=(Bk.cell b_v 1).trans rfl
  have f_v1:=Bk.frozen b_v 1
  have c_v2:World.cell? wn ⟨g_v,2,none⟩=some (.int .i64 a1_2):=(Bk.cell b_v 2).trans rfl
  have f_v2:=Bk.frozen b_v 2
  have c_r0:World.cell? wn ⟨g_r,0,none⟩=some (.int .i64 r0):=(Bk.cell b_r 0).trans rfl
  have f_r0:=Bk.frozen b_r 0
  have c_r1:World.cell? wn ⟨g_r,1,none⟩=some (.int .i64 r1):=(Bk.cell b_r 1).trans rfl
  have f_r1:=Bk.frozen b_r 1
  have c_r2:World.cell? wn ⟨g_r,2,none⟩=some (.int .i64 r2):=(Bk.cell b_r 2).trans rfl
  have f_r2:=Bk.frozen b_r 2
  go_wp2
  clear x0 x1 x2
  rw [rounds_succ]
  go_wp2
  have x0:decide (r1 > M)=false:=decide_eq_false (by have h_:=X1.out.1;omega)
  have x1:decide (r1<wrap64 (-M))=false:=decide_eq_false (by have h_:=X1.out.2;omega)
  have x2:decide (r1<IntKind.i64.wrap (-M))=false:=by rw [i64_w];exact x1
  refine start2_ (n:=17) (S:=fun w'=>Bk w' g_c #[.int .i64 a0_0,.int .i64 a0_1,.int .i64 a0_2,.int .i64 a0_3,.int .i64 a0_4] 24∧Bk w' g_v #[.int .i64 a1_0,.int .i64 a1_1,.int .i64 a1_2] 22∧Bk w' g_r #[.int .i64 r0,.int .i64 r1,.int .i64 r2] 22∧Bel w w') (ds:=[]) #[false,false,false,false,false,false,false,false,false,false,false,false,false,false,false,false,false] (by kernel_rfl) rfl rfl outriggerlaw18_SenseBounds.tab6 outriggerlaw18_SenseBounds.bits6 ⟨Bk.drew b_c,Bk.drew b_v,Bk.drew b_r,Bel.drew hB⟩ (fun wn hHeld HT_ HW_=>?_)
  refine pure_ (i:=0) (N:=some 25) (v:=?_) (a':=?_) #[true,false,false,false,false,false,false,false,false,false,false,false,false,false,false,false,false] rfl rfl (any_of HT_.out (by kernel_rfl)) (fun _ _ _ h=>h) (Or.inl ⟨by rfl,?_⟩) ?_ ?_
  rotate_left
  ·intro w'
   go_simp
   with_reducible rfl
  rotate_left
  ·simp only [Act.put,List.setIfInBounds_toArray,List.set_cons_zero,List.set_cons_succ]
   rfl
  refine pure_ (i:=1) (N:=some 26) (v:=?_) (a':=?_) #[true,true,false,false,false,false,false,false,false,false,false,false,false,false,false,false,false] rfl rfl (any_of HT_.out (by kernel_rfl)) (fun _ _ _ h=>h) (Or.inl ⟨by rfl,?_⟩) ?_ ?_
  rotate_left
  ·intro w'
   go_simp
   with_reducible rfl
  rotate_left
  ·simp only [Act.put,List.setIfInBounds_toArray,List.set_cons_zero,List.set_cons_succ]
   rfl
  refine take_ (i:=2) (N:=some 27) (v:=?_) (a':=?_) #[true,true,true,false,false,false,false,false,false,false,false,false,false,false,false,false,false] rfl rfl (take_ofW HT_.out HW_.out (by kernel_rfl)) (fun _ _ _ h=>h) (Or.inl ⟨by rfl,?_⟩) hHeld ?_ ?_
  rotate_left
  ·rintro w' ⟨s0,s1,s2,s3⟩
   have c_r0:World.cell? w' ⟨g_r,0,none⟩=some (.int .i64 r0):=(Bk.cell s2 0).trans rfl
   have c_r1:World.cell? w' ⟨g_r,1,none⟩=some (.int .i64 r1):=(Bk.cell s2 1).trans rfl
   have c_r2:World.cell? w' ⟨g_r,2,none⟩=some (.int .i64 r2):=(Bk.cell s2 2).trans rfl
   go_simp
   with_reducible rfl
  rotate_left
  ·simp only [Act.put,List.setIfInBounds_toArray,List.set_cons_zero,List.set_cons_succ]
   rfl
  refine pure_ (i:=3) (N:=some 28) (v:=?_) (a':=?_) #[true,true,true,true,false,false,false,false,false,false,false,false,false,false,false,false,false] rfl rfl (any_of HT_.out (by kernel_rfl)) (fun _ _ _ h=>h) (Or.inl ⟨by rfl,?_⟩) ?_ ?_
  rotate_left
  ·intro w'
   go_simp
   with_reducible rfl
  rotate_left
  ·simp only [Act.put,List.setIfInBounds_toArray,List.set_cons_zero,List.set_cons_succ]
   rfl
  refine take_ (i:=4) (N:=some 29) (v:=?_) (a':=?_) #[true,true,true,true,true,false,false,false,false,false,false,false,false,false,false,false,false] rfl rfl (take_ofW HT_.out HW_.out (by kernel_rfl)) (fun _ _ _ h=>h) (Or.inl ⟨by rfl,?_⟩) hHeld ?_ ?_
  rotate_left
  ·rintro w' ⟨s0,s1,s2,s3⟩
   have c_c0:World.cell? w' ⟨g_c,0,none⟩=some (.int .i64 a0_0):=(Bk.cell s0 0).trans rfl
   have c_c1:World.cell? w' ⟨g_c,1,none⟩=some (.int .i64 a0_1):=(Bk.cell s0 1).trans rfl
   have c_c2:World.cell? w' ⟨g_c,2,none⟩=some (.int .i64 a0_2):=(Bk.cell s0 2).trans rfl
   have c_c3:World.cell? w' ⟨g_c,3,none⟩=some (.int .i64 a0_3):=(Bk.cell s0 3).trans rfl
   have c_c4:World.cell? w' ⟨g_c,4,none⟩=some (.int .i64 a0_4):=(Bk.cell s0 4).trans rfl
   go_simp
   with_reducible rfl
  rotate_left
  ·simp only [Act.put,List.setIfInBounds_toArray,List.set_cons_zero,List.set_cons_succ]
   rfl
  refine pure_ (i:=5) (N:=some 30) (v:=?_) (a':=?_) #[true,true,true,true,true,true,false,false,false,false,false,false,false,false,false,false,false] rfl rfl (any_of HT_.out (by kernel_rfl)) (fun _ _ _ h=>h) (Or.inl ⟨by rfl,?_⟩) ?_ ?_
  rotate_left
  ·intro w'
   go_simp
   with_reducible rfl
  rotate_left
  ·simp only [Act.put,List.setIfInBounds_toArray,List.set_cons_zero,List.set_cons_succ]
   rfl
  refine pure_ (i:=6) (N:=some 31) (v:=?_) (a':=?_) #[true,true,true,true,true,true,true,false,false,false,false,false,false,false,false,false,false] rfl rfl (any_of HT_.out (by kernel_rfl)) (fun _ _ _ h=>h) (Or.inl ⟨by rfl,?_⟩) ?_ ?_
  rotate_left
  ·intro w'
   go_simp
   with_reducible rfl
  rotate_left
  ·simp only [Act.put,List.setIfInBounds_toArray,List.set_cons_zero,List.set_cons_succ]
   rfl
  refine pure_ (i:=7) (N:=some 32) (v:=?_) (a':=?_) #[true,true,true,true,true,true,true,true,false,false,false,false,false,false,false,false,false] rfl rfl (any_of HT_.out (by kernel_rfl)) (fun _ _ _ h=>h) (Or.inl ⟨by rfl,?_⟩) ?_ ?_
  rotate_left
  ·intro w'
   go_simp
   with_reducible rfl
  rotate_left
  ·simp only [Act.put,List.setIfInBounds_toArray,List.set_cons_zero,List.set_cons_succ]
   rfl
  refine pure_ (i:=8) (N:=some 33) (v:=?_) (a':=?_) #[true,true,true,true,true,true,true,true,true,false,false,false,false,false,false,false,false] rfl rfl (any_of HT_.out (by kernel_rfl)) (fun _ _ _ h=>h) (Or.inl ⟨by rfl,?_⟩) ?_ ?_
  rotate_left
  ·intro w'
   go_simp
   with_reducible rfl
  rotate_left
  ·simp only [Act.put,List.setIfInBounds_toArray,List.set_cons_zero,List.set_cons_succ]
   rfl
  refine pure_ (i:=9) (N:=some 34) (v:=?_) (a':=?_) #[true,true,true,true,true,true,true,true,true,true,false,false,false,false,false,false,false] rfl rfl (any_of HT_.out (by kernel_rfl)) (fun _ _ _ h=>h) (Or.inl ⟨by rfl,?_⟩) ?_ ?_
  rotate_left
  ·intro w'
   go_simp
   with_reducible rfl
  rotate_left
  ·simp only [Act.put,List.setIfInBounds_toArray,List.set_cons_zero,List.set_cons_succ]
   rfl
  refine take_ (i:=10) (N:=some 35) (v:=?_) (a':=?_) #[true,true,true,true,true,true,true,true,true,true,true,false,false,false,false,false,false] rfl rfl (take_ofW HT_.out HW_.out (by kernel_rfl)) (fun _ _ _ h=>h) (Or.inl ⟨by rfl,?_⟩) hHeld ?_ ?_
  rotate_left
  ·rintro w' ⟨s0,s1,s2,s3⟩
   have c_r0:World.cell? w' ⟨g_r,0,none⟩=some (.int .i64 r0):=(Bk.cell s2 0).trans rfl
   have c_r1:World.cell? w' ⟨g_r,1,none⟩=some (.int .i64 r1):=(Bk.cell s2 1).trans rfl
   have c_r2:World.cell? w' ⟨g_r,2,none⟩=some (.int .i64 r2):=(Bk.cell s2 2).trans rfl
   go_simp
   with_reducible rfl
  rotate_left
  ·simp only [Act.put,List.setIfInBounds_toArray,List.set_cons_zero,List.set_cons_succ]
   rfl
  refine pure_ (i:=11) (N:=some 36) (v:=?_) (a':=?_) #[true,true,true,true,true,true,true,true,true,true,true,true,false,false,false,false,false] rfl rfl (any_of HT_.out (by kernel_rfl)) (fun _ _ _ h=>h) (Or.inl ⟨by rfl,?_⟩) ?_ ?_
  rotate_left
  ·intro w'
   go_simp
   with_reducible rfl
  rotate_left
  ·simp only [Act.put,List.setIfInBounds_toArray,List.set_cons_zero,List.set_cons_succ]
   rfl
  refine take_ (i:=12) (N:=some 37) (v:=?_) (a':=?_) #[true,true,true,true,true,true,true,true,true,true,true,true,true,false,false,false,false] rfl rfl (take_ofW HT_.out HW_.out (by kernel_rfl)) (fun _ _ _ h=>h) (Or.inl ⟨by rfl,?_⟩) hHeld ?_ ?_
  rotate_left
  ·rintro w' ⟨s0,s1,s2,s3⟩
   have c_c0:World.cell? w' ⟨g_c,0,none⟩=some (.int .i64 a0_0):=(Bk.cell s0 0).trans rfl
   have c_c1:World.cell? w' ⟨g_c,1,none⟩=some (.int .i64 a0_1):=(Bk.cell s0 1).trans rfl
   have c_c2:World.cell? w' ⟨g_c,2,none⟩=some (.int .i64 a0_2):=(Bk.cell s0 2).trans rfl
   have c_c3:World.cell? w' ⟨g_c,3,none⟩=some (.int .i64 a0_3):=(Bk.cell s0 3).trans rfl
   have c_c4:World.cell? w' ⟨g_c,4,none⟩=some (.int .i64 a0_4):=(Bk.cell s0 4).trans rfl
   go_simp
   with_reducible rfl
  rotate_left
  ·simp only [Act.put,List.setIfInBounds_toArray,List.set_cons_zero,List.set_cons_succ]
   rfl
  refine pure_ (i:=13) (N:=some 38) (v:=?_) (a':=?_) #[true,true,true,true,true,true,true,true,true,true,true,true,true,true,false,false,false] rfl rfl (any_of HT_.out (by kernel_rfl)) (fun _ _ _ h=>h) (Or.inl ⟨by rfl,?_⟩) ?_ ?_
  rotate_left
  ·intro w'
   go_simp
   with_reducible rfl
  rotate_left
  ·simp only [Act.put,List.setIfInBounds_toArray,List.set_cons_zero,List.set_cons_succ]
   rfl
  refine pure_ (i:=14) (N:=some 39) (v:=?_) (a':=?_) #[true,true,true,true,true,true,true,true,true,true,true,true,true,true,true,false,false] rfl rfl (any_of HT_.out (by kernel_rfl)) (fun _ _ _ h=>h) (Or.inl ⟨by rfl,?_⟩) ?_ ?_
  rotate_left
  ·intro w'
   go_simp
   with_reducible rfl
  rotate_left
  ·simp only [Act.put,List.setIfInBounds_toArray,List.set_cons_zero,List.set_cons_succ]
   rfl
  refine pure_ (i:=15) (N:=some 40) (v:=?_) (a':=?_) #[true,true,true,true,true,true,true,true,true,true,true,true,true,true,true,true,false] rfl rfl (any_of HT_.out (by kernel_rfl)) (fun _ _ _ h=>h) (Or.inl ⟨by rfl,?_⟩) ?_ ?_
  rotate_left
  ·intro w'
   go_simp
   with_reducible rfl
  rotate_left
  ·simp only [Act.put,List.setIfInBounds_toArray,List.set_cons_zero,List.set_cons_succ]
   rfl
  refine pure_ (i:=16) (N:=some 41) (v:=?_) (a':=?_) #[true,true,true,true,true,true,true,true,true,true,true,true,true,true,true,true,true] rfl rfl (any_of HT_.out (by kernel_rfl)) (fun _ _ _ h=>h) (Or.inl ⟨by rfl,?_⟩) ?_ ?_
  rotate_left
  ·intro w'
   go_simp
   with_reducible rfl
  rotate_left
  ·simp only [Act.put,List.setIfInBounds_toArray,List.set_cons_zero,List.set_cons_succ]
   rfl
  refine done_ (done_of HT_.out (by kernel_rfl)) ?_
  clear b_c b_v b_r hB
  obtain⟨b_c,b_v,b_r,hB⟩:=hHeld
  have c_c0:World.cell? wn ⟨g_c,0,none⟩=some (.int .i64 a0_0):=(Bk.cell b_c 0).trans rfl
  have f_c0:=Bk.frozen b_c 0
  have c_c1:World.cell? wn ⟨g_c,1,none⟩=some (.int .i64 a0_1):=(Bk.cell b_c 1).trans rfl
  have f_c1:=Bk.frozen b_c 1
  have c_c2:World.cell? wn ⟨g_c,2,none⟩=some (.int .i64 a0_2):=(Bk.cell b_c 2).trans rfl
  have f_c2:=Bk.frozen b_c 2
  have c_c3:World.cell? wn ⟨g_c,3,none⟩=some (.int .i64 a0_3):=(Bk.cell b_c 3).trans rfl
  have f_c3:=Bk.frozen b_c 3
  have c_c4:World.cell? wn ⟨g_c,4,none⟩=some (.int .i64 a0_4):=(Bk.cell b_c 4).trans rfl
  have f_c4:=Bk.frozen b_c 4
  have c_v0:World.cell? wn ⟨g_v,0,none⟩=some (.int .i64 a1_0):=(Bk.cell b_v 0).trans rfl
  have f_v0:=Bk.frozen b_v 0
  have c_v1:World.cell? wn ⟨g_v,1,none⟩=some (.int .i64 a1_1):=(Bk.cell b_v 1).trans rfl
  have f_v1:=Bk.frozen b_v 1
  have c_v2:World.cell? wn ⟨g_v,2,none⟩=some (.int .i64 a1_2):=(Bk.cell b_v 2).trans rfl
  have f_v2:=Bk.frozen b_v 2
  have c_r0:World.cell? wn ⟨g_r,0,none⟩=some (.int .i64 r0):=(Bk.cell b_r 0).trans rfl
  have f_r0:=Bk.frozen b_r 0
  have c_r1:World.cell? wn ⟨g_r,1,none⟩=some (.int .i64 r1):=(Bk.cell b_r 1).trans rfl
  have f_r1:=Bk.frozen b_r 1
  have c_r2:World.cell? wn ⟨g_r,2,none⟩=some (.int .i64 r2):=(Bk.cell b_r 2).trans rfl
  have f_r2:=Bk.frozen b_r 2
  go_wp2
  clear x0 x1 x2
  rw [rounds_succ]
  go_wp2
  have x0:decide (r2 > M)=false:=decide_eq_false (by have h_:=X2.out.1;omega)
  have x1:decide (r2<wrap64 (-M))=false:=decide_eq_false (by have h_:=X2.out.2;omega)
  have x2:decide (r2<IntKind.i64.wrap (-M))=false:=by rw [i64_w];exact x1
  refine start2_ (n:=17) (S:=fun w'=>Bk w' g_c #[.int .i64 a0_0,.int .i64 a0_1,.int .i64 a0_2,.int .i64 a0_3,.int .i64 a0_4] 24∧Bk w' g_v #[.int .i64 a1_0,.int .i64 a1_1,.int .i64 a1_2] 22∧Bk w' g_r #[.int .i64 r0,.int .i64 r1,.int .i64 r2] 22∧Bel w w') (ds:=[]) #[false,false,false,false,false,false,false,false,false,false,false,false,false,false,false,false,false] (by kernel_rfl) rfl rfl outriggerlaw18_SenseBounds.tab6 outriggerlaw18_SenseBounds.bits6 ⟨Bk.drew b_c,Bk.drew b_v,Bk.drew b_r,Bel.drew hB⟩ (fun wn hHeld HT_ HW_=>?_)
  refine pure_ (i:=0) (N:=some 25) (v:=?_) (a':=?_) #[true,false,false,false,false,false,false,false,false,false,false,false,false,false,false,false,false] rfl rfl (any_of HT_.out (by kernel_rfl)) (fun _ _ _ h=>h) (Or.inl ⟨by rfl,?_⟩) ?_ ?_
  rotate_left
  ·intro w'
   go_simp
   with_reducible rfl
  rotate_left
  ·simp only [Act.put,List.setIfInBounds_toArray,List.set_cons_zero,List.set_cons_succ]
   rfl
  refine pure_ (i:=1) (N:=some 26) (v:=?_) (a':=?_) #[true,true,false,false,false,false,false,false,false,false,false,false,false,false,false,false,false] rfl rfl (any_of HT_.out (by kernel_rfl)) (fun _ _ _ h=>h) (Or.inl ⟨by rfl,?_⟩) ?_ ?_
  rotate_left
  ·intro w'
   go_simp
   with_reducible rfl
  rotate_left
  ·simp only [Act.put,List.setIfInBounds_toArray,List.set_cons_zero,List.set_cons_succ]
   rfl
  refine take_ (i:=2) (N:=some 27) (v:=?_) (a':=?_) #[true,true,true,false,false,false,false,false,false,false,false,false,false,false,false,false,false] rfl rfl (take_ofW HT_.out HW_.out (by kernel_rfl)) (fun _ _ _ h=>h) (Or.inl ⟨by rfl,?_⟩) hHeld ?_ ?_
  rotate_left
  ·rintro w' ⟨s0,s1,s2,s3⟩
   have c_r0:World.cell? w' ⟨g_r,0,none⟩=some (.int .i64 r0):=(Bk.cell s2 0).trans rfl
   have c_r1:World.cell? w' ⟨g_r,1,none⟩=some (.int .i64 r1):=(Bk.cell s2 1).trans rfl
   have c_r2:World.cell? w' ⟨g_r,2,none⟩=some (.int .i64 r2):=(Bk.cell s2 2).trans rfl
   go_simp
   with_reducible rfl
  rotate_left
  ·simp only [Act.put,List.setIfInBounds_toArray,List.set_cons_zero,List.set_cons_succ]
   rfl
  refine pure_ (i:=3) (N:=some 28) (v:=?_) (a':=?_) #[true,true,true,true,false,false,false,false,false,false,false,false,false,false,false,false,false] rfl rfl (any_of HT_.out (by kernel_rfl)) (fun _ _ _ h=>h) (Or.inl ⟨by rfl,?_⟩) ?_ ?_
  rotate_left
  ·intro w'
   go_simp
   with_reducible rfl
  rotate_left
  ·simp only [Act.put,List.setIfInBounds_toArray,List.set_cons_zero,List.set_cons_succ]
   rfl
  refine take_ (i:=4) (N:=some 29) (v:=?_) (a':=?_) #[true,true,true,true,true,false,false,false,false,false,false,false,false,false,false,false,false] rfl rfl (take_ofW HT_.out HW_.out (by kernel_rfl)) (fun _ _ _ h=>h) (Or.inl ⟨by rfl,?_⟩) hHeld ?_ ?_
  rotate_left
  ·rintro w' ⟨s0,s1,s2,s3⟩
   have c_c0:World.cell? w' ⟨g_c,0,none⟩=some (.int .i64 a0_0):=(Bk.cell s0 0).trans rfl
   have c_c1:World.cell? w' ⟨g_c,1,none⟩=some (.int .i64 a0_1):=(Bk.cell s0 1).trans rfl
   have c_c2:World.cell? w' ⟨g_c,2,none⟩=some (.int .i64 a0_2):=(Bk.cell s0 2).trans rfl
   have c_c3:World.cell? w' ⟨g_c,3,none⟩=some (.int .i64 a0_3):=(Bk.cell s0 3).trans rfl
   have c_c4:World.cell? w' ⟨g_c,4,none⟩=some (.int .i64 a0_4):=(Bk.cell s0 4).trans rfl
   go_simp
   with_reducible rfl
  rotate_left
  ·simp only [Act.put,List.setIfInBounds_toArray,List.set_cons_zero,List.set_cons_succ]
   rfl
  refine pure_ (i:=5) (N:=some 30) (v:=?_) (a':=?_) #[true,true,true,true,true,true,false,false,false,false,false,false,false,false,false,false,false] rfl rfl (any_of HT_.out (by kernel_rfl)) (fun _ _ _ h=>h) (Or.inl ⟨by rfl,?_⟩) ?_ ?_
  rotate_left
  ·intro w'
   go_simp
   with_reducible rfl
  rotate_left
  ·simp only [Act.put,List.setIfInBounds_toArray,List.set_cons_zero,List.set_cons_succ]
   rfl
  refine pure_ (i:=6) (N:=some 31) (v:=?_) (a':=?_) #[true,true,true,true,true,true,true,false,false,false,false,false,false,false,false,false,false] rfl rfl (any_of HT_.out (by kernel_rfl)) (fun _ _ _ h=>h) (Or.inl ⟨by rfl,?_⟩) ?_ ?_
  rotate_left
  ·intro w'
   go_simp
   with_reducible rfl
  rotate_left
  ·simp only [Act.put,List.setIfInBounds_toArray,List.set_cons_zero,List.set_cons_succ]
   rfl
  refine pure_ (i:=7) (N:=some 32) (v:=?_) (a':=?_) #[true,true,true,true,true,true,true,true,false,false,false,false,false,false,false,false,false] rfl rfl (any_of HT_.out (by kernel_rfl)) (fun _ _ _ h=>h) (Or.inl ⟨by rfl,?_⟩) ?_ ?_
  rotate_left
  ·intro w'
   go_simp
   with_reducible rfl
  rotate_left
  ·simp only [Act.put,List.setIfInBounds_toArray,List.set_cons_zero,List.set_cons_succ]
   rfl
  refine pure_ (i:=8) (N:=some 33) (v:=?_) (a':=?_) #[true,true,true,true,true,true,true,true,true,false,false,false,false,false,false,false,false] rfl rfl (any_of HT_.out (by kernel_rfl)) (fun _ _ _ h=>h) (Or.inl ⟨by rfl,?_⟩) ?_ ?_
  rotate_left
  ·intro w'
   go_simp
   with_reducible rfl
  rotate_left
  ·simp only [Act.put,List.setIfInBounds_toArray,List.set_cons_zero,List.set_cons_succ]
   rfl
  refine pure_ (i:=9) (N:=some 34) (v:=?_) (a':=?_) #[true,true,true,true,true,true,true,true,true,true,false,false,false,false,false,false,false] rfl rfl (any_of HT_.out (by kernel_rfl)) (fun _ _ _ h=>h) (Or.inl ⟨by rfl,?_⟩) ?_ ?_
  rotate_left
  ·intro w'
   go_simp
   with_reducible rfl
  rotate_left
  ·simp only [Act.put,List.setIfInBounds_toArray,List.set_cons_zero,List.set_cons_succ]
   rfl
  refine take_ (i:=10) (N:=some 35) (v:=?_) (a':=?_) #[true,true,true,true,true,true,true,true,true,true,true,false,false,false,false,false,false] rfl rfl (take_ofW HT_.out HW_.out (by kernel_rfl)) (fun _ _ _ h=>h) (Or.inl ⟨by rfl,?_⟩) hHeld ?_ ?_
  rotate_left
  ·rintro w' ⟨s0,s1,s2,s3⟩
   have c_r0:World.cell? w' ⟨g_r,0,none⟩=some (.int .i64 r0):=(Bk.cell s2 0).trans rfl
   have c_r1:World.cell? w' ⟨g_r,1,none⟩=some (.int .i64 r1):=(Bk.cell s2 1).trans rfl
   have c_r2:World.cell? w' ⟨g_r,2,none⟩=some (.int .i64 r2):=(Bk.cell s2 2).trans rfl
   go_simp
   with_reducible rfl
  rotate_left
  ·simp only [Act.put,List.setIfInBounds_toArray,List.set_cons_zero,List.set_cons_succ]
   rfl
  refine pure_ (i:=11) (N:=some 36) (v:=?_) (a':=?_) #[true,true,true,true,true,true,true,true,true,true,true,true,false,false,false,false,false] rfl rfl (any_of HT_.out (by kernel_rfl)) (fun _ _ _ h=>h) (Or.inl ⟨by rfl,?_⟩) ?_ ?_
  rotate_left
  ·intro w'
   go_simp
   with_reducible rfl
  rotate_left
  ·simp only [Act.put,List.setIfInBounds_toArray,List.set_cons_zero,List.set_cons_succ]
   rfl
  refine take_ (i:=12) (N:=some 37) (v:=?_) (a':=?_) #[true,true,true,true,true,true,true,true,true,true,true,true,true,false,false,false,false] rfl rfl (take_ofW HT_.out HW_.out (by kernel_rfl)) (fun _ _ _ h=>h) (Or.inl ⟨by rfl,?_⟩) hHeld ?_ ?_
  rotate_left
  ·rintro w' ⟨s0,s1,s2,s3⟩
   have c_c0:World.cell? w' ⟨g_c,0,none⟩=some (.int .i64 a0_0):=(Bk.cell s0 0).trans rfl
   have c_c1:World.cell? w' ⟨g_c,1,none⟩=some (.int .i64 a0_1):=(Bk.cell s0 1).trans rfl
   have c_c2:World.cell? w' ⟨g_c,2,none⟩=some (.int .i64 a0_2):=(Bk.cell s0 2).trans rfl
   have c_c3:World.cell? w' ⟨g_c,3,none⟩=some (.int .i64 a0_3):=(Bk.cell s0 3).trans rfl
   have c_c4:World.cell? w' ⟨g_c,4,none⟩=some (.int .i64 a0_4):=(Bk.cell s0 4).trans rfl
   go_simp
   with_reducible rfl
  rotate_left
  ·simp only [Act.put,List.setIfInBounds_toArray,List.set_cons_zero,List.set_cons_succ]
   rfl
  refine pure_ (i:=13) (N:=some 38) (v:=?_) (a':=?_) #[true,true,true,true,true,true,true,true,true,true,true,true,true,true,false,false,false] rfl rfl (any_of HT_.out (by kernel_rfl)) (fun _ _ _ h=>h) (Or.inl ⟨by rfl,?_⟩) ?_ ?_
  rotate_left
  ·intro w'
   go_simp
   with_reducible rfl
  rotate_left
  ·simp only [Act.put,List.setIfInBounds_toArray,List.set_cons_zero,List.set_cons_succ]
   rfl
  refine pure_ (i:=14) (N:=some 39) (v:=?_) (a':=?_) #[true,true,true,true,true,true,true,true,true,true,true,true,true,true,true,false,false] rfl rfl (any_of HT_.out (by kernel_rfl)) (fun _ _ _ h=>h) (Or.inl ⟨by rfl,?_⟩) ?_ ?_
  rotate_left
  ·intro w'
   go_simp
   with_reducible rfl
  rotate_left
  ·simp only [Act.put,List.setIfInBounds_toArray,List.set_cons_zero,List.set_cons_succ]
   rfl
  refine pure_ (i:=15) (N:=some 40) (v:=?_) (a':=?_) #[true,true,true,true,true,true,true,true,true,true,true,true,true,true,true,true,false] rfl rfl (any_of HT_.out (by kernel_rfl)) (fun _ _ _ h=>h) (Or.inl ⟨by rfl,?_⟩) ?_ ?_
  rotate_left
  ·intro w'
   go_simp
   with_reducible rfl
  rotate_left
  ·simp only [Act.put,List.setIfInBounds_toArray,List.set_cons_zero,List.set_cons_succ]
   rfl
  refine pure_ (i:=16) (N:=some 41) (v:=?_) (a':=?_) #[true,true,true,true,true,true,true,true,true,true,true,true,true,true,true,true,true] rfl rfl (any_of HT_.out (by kernel_rfl)) (fun _ _ _ h=>h) (Or.inl ⟨by rfl,?_⟩) ?_ ?_
  rotate_left
  ·intro w'
   go_simp
   with_reducible rfl
  rotate_left
  ·simp only [Act.put,List.setIfInBounds_toArray,List.set_cons_zero,List.set_cons_succ]
   rfl
  refine done_ (done_of HT_.out (by kernel_rfl)) ?_
  clear b_c b_v b_r hB
  obtain⟨b_c,b_v,b_r,hB⟩:=hHeld
  have c_c0:World.cell? wn ⟨g_c,0,none⟩=some (.int .i64 a0_0):=(Bk.cell b_c 0).trans rfl
  have f_c0:=Bk.frozen b_c 0
  have c_c1:World.cell? wn ⟨g_c,1,none⟩=some (.int .i64 a0_1):=(Bk.cell b_c 1).trans rfl
  have f_c1:=Bk.frozen b_c 1
  have c_c2:World.cell? wn ⟨g_c,2,none⟩=some (.int .i64 a0_2):=(Bk.cell b_c 2).trans rfl
  have f_c2:=Bk.frozen b_c 2
  have c_c3:World.cell? wn ⟨g_c,3,none⟩=some (.int .i64 a0_3):=(Bk.cell b_c 3).trans rfl
  have f_c3:=Bk.frozen b_c 3
  have c_c4:World.cell? wn ⟨g_c,4,none⟩=some (.int .i64 a0_4):=(Bk.cell b_c 4).trans rfl
  have f_c4:=Bk.frozen b_c 4
  have c_v0:World.cell? wn ⟨g_v,0,none⟩=some (.int .i64 a1_0):=(Bk.cell b_v 0).trans rfl
  have f_v0:=Bk.frozen b_v 0
  have c_v1:World.cell? wn ⟨g_v,1,none⟩=some (.int .i64 a1_1):=(Bk.cell b_v 1).trans rfl
  have f_v1:=Bk.frozen b_v 1
  have c_v2:World.cell? wn ⟨g_v,2,none⟩=some (.int .i64 a1_2):=(Bk.cell b_v 2).trans rfl
  have f_v2:=Bk.frozen b_v 2
  have c_r0:World.cell? wn ⟨g_r,0,none⟩=some (.int .i64 r0):=(Bk.cell b_r 0).trans rfl
  have f_r0:=Bk.frozen b_r 0
  have c_r1:World.cell? wn ⟨g_r,1,none⟩=some (.int .i64 r1):=(Bk.cell b_r 1).trans rfl
  have f_r1:=Bk.frozen b_r 1
  have c_r2:World.cell? wn ⟨g_r,2,none⟩=some (.int .i64 r2):=(Bk.cell b_r 2).trans rfl
  have f_r2:=Bk.frozen b_r 2
  go_wp2
  clear x0 x1 x2
  rw [rounds_succ]
  go_upto_region 10 with (((with_reducible refine gate_dst (N:=9) rfl ?_);refine box_event ?hg (N:=9) ?hd (cs:=#[.int .i64 0,.int .i64 0,.int .i64 0,.int .i64 0,.int .i64 0]) (t:=24) ?hr ?_;(case hd=>rfl);(case hg=>rfl);(case hr=>first|(go_simp;done)|(go_simp;rfl));intro g_d hg w1 b_d hb;have b_d:Bk w1 g_d #[.int .i64 0,.int .i64 0,.int .i64 0,.int .i64 0,.int .i64 0] 24:=b_d;have l_d:w.heap.size≤g_d:=(by rw [hg];exact Bel.size hB);have ne_c_d:g_c≠g_d:=(by rw [hg];exact Nat.ne_of_lt (Bk.lt b_c));have ne_d_c:g_d≠g_c:=Ne.symm ne_c_d;have ne_v_d:g_v≠g_d:=(by rw [hg];exact Nat.ne_of_lt (Bk.lt b_v));have ne_d_v:g_d≠g_v:=Ne.symm ne_v_d;have ne_r_d:g_r≠g_d:=(by rw [hg];exact Nat.ne_of_lt (Bk.lt b_r));have ne_d_r:g_d≠g_r:=Ne.symm ne_r_d;have m_c:Bk w1 g_c #[.int .i64 a0_0,.int .i64 a0_1,.int .i64 a0_2,.int .i64 a0_3,.int .i64 a0_4] 24:=Bk.below b_c hb;have m_v:Bk w1 g_v #[.int .i64 a1_0,.int .i64 a1_1,.int .i64 a1_2] 22:=Bk.below b_v hb;have m_r:Bk w1 g_r #[.int .i64 r0,.int .i64 r1,.int .i64 r2] 22:=Bk.below b_r hb;have mB:=Bel.step hB hb;clear b_c;clear b_v;clear b_r;have b_c:=m_c;clear m_c;have b_v:=m_v;clear m_v;have b_r:=m_r;clear m_r;clear hB;have hB:=mB;clear mB;(try clear hb);clear hg;have c_c0:World.cell? w1 ⟨g_c,0,none⟩=some (.int .i64 a0_0):=(Bk.cell b_c 0).trans rfl;have f_c0:=Bk.frozen b_c 0;have c_c1:World.cell? w1 ⟨g_c,1,none⟩=some (.int .i64 a0_1):=(Bk.cell b_c 1).trans rfl;have f_c1:=Bk.frozen b_c 1;have c_c2:World.cell? w1 ⟨g_c,2,none⟩=some (.int .i64 a0_2):=(Bk.cell b_c 2).trans rfl;have f_c2:=Bk.frozen b_c 2;have c_c3:World.cell? w1 ⟨g_c,3,none⟩=some (.int .i64 a0_3):=(Bk.cell b_c 3).trans rfl;have f_c3:=Bk.frozen b_c 3;have c_c4:World.cell? w1 ⟨g_c,4,none⟩=some (.int .i64 a0_4):=(Bk.cell b_c 4).trans rfl;have f_c4:=Bk.frozen b_c 4;have c_v0:World.cell? w1 ⟨g_v,0,none⟩=some (.int .i64 a1_0):=(Bk.cell b_v 0).trans rfl;have f_v0:=Bk.frozen b_v 0;have c_v1:World.cell? w1 ⟨g_v,1,none⟩=some (.int .i64 a1_1):=(Bk.cell b_v 1).trans rfl;have f_v1:=Bk.frozen b_v 1;have c_v2:World.cell? w1 ⟨g_v,2,none⟩=some (.int .i64 a1_2):=(Bk.cell b_v 2).trans rfl;have f_v2:=Bk.frozen b_v 2;have c_r0:World.cell? w1 ⟨g_r,0,none⟩=some (.int .i64 r0):=(Bk.cell b_r 0).trans rfl;have f_r0:=Bk.frozen b_r 0;have c_r1:World.cell? w1 ⟨g_r,1,none⟩=some (.int .i64 r1):=(Bk.cell b_r 1).trans rfl;have f_r1:=Bk.frozen b_r 1;have c_r2:World.cell? w1 ⟨g_r,2,none⟩=some (.int .i64 r2):=(Bk.cell b_r 2).trans rfl;have f_r2:=Bk.frozen b_r 2;have c_d0:World.cell? w1 ⟨g_d,0,none⟩=some (.int .i64 0):=(Bk.cell b_d 0).trans rfl;have f_d0:=Bk.frozen b_d 0;have c_d1:World.cell? w1 ⟨g_d,1,none⟩=some (.int .i64 0):=(Bk.cell b_d 1).trans rfl;have f_d1:=Bk.frozen b_d 1;have c_d2:World.cell? w1 ⟨g_d,2,none⟩=some (.int .i64 0):=(Bk.cell b_d 2).trans rfl;have f_d2:=Bk.frozen b_d 2;have c_d3:World.cell? w1 ⟨g_d,3,none⟩=some (.int .i64 0):=(Bk.cell b_d 3).trans rfl;have f_d3:=Bk.frozen b_d 3;have c_d4:World.cell? w1 ⟨g_d,4,none⟩=some (.int .i64 0):=(Bk.cell b_d 4).trans rfl;have f_d4:=Bk.frozen b_d 4))
  refine gen_c (fun w'=>Bk w' g_c #[.int .i64 a0_0,.int .i64 a0_1,.int .i64 a0_2,.int .i64 a0_3,.int .i64 a0_4] 24∧Bk w' g_v #[.int .i64 a1_0,.int .i64 a1_1,.int .i64 a1_2] 22∧Bk w' g_r #[.int .i64 r0,.int .i64 r1,.int .i64 r2] 22∧Bk w' g_d #[.int .i64 a0_0,.int .i64 a0_1,.int .i64 a0_2,.int .i64 a0_3,.int .i64 288230376151711744] 24∧Bel w w') ⟨(Bk.far (Bk.far (Bk.far (Bk.far (Bk.far (Bk.far b_c ne_c_d 0 (.int .i64 a0_0)) ne_c_d 1 (.int .i64 a0_1)) ne_c_d 2 (.int .i64 a0_2)) ne_c_d 3 (.int .i64 a0_3)) ne_c_d 4 (.int .i64 a0_4)) ne_c_d 4 (.int .i64 288230376151711744)),(Bk.far (Bk.far (Bk.far (Bk.far (Bk.far (Bk.far b_v ne_v_d 0 (.int .i64 a0_0)) ne_v_d 1 (.int .i64 a0_1)) ne_v_d 2 (.int .i64 a0_2)) ne_v_d 3 (.int .i64 a0_3)) ne_v_d 4 (.int .i64 a0_4)) ne_v_d 4 (.int .i64 288230376151711744)),(Bk.far (Bk.far (Bk.far (Bk.far (Bk.far (Bk.far b_r ne_r_d 0 (.int .i64 a0_0)) ne_r_d 1 (.int .i64 a0_1)) ne_r_d 2 (.int .i64 a0_2)) ne_r_d 3 (.int .i64 a0_3)) ne_r_d 4 (.int .i64 a0_4)) ne_r_d 4 (.int .i64 288230376151711744)),(Bk.put (Bk.put (Bk.put (Bk.put (Bk.put (Bk.put b_d 0 (.int .i64 a0_0) rfl) 1 (.int .i64 a0_1) rfl) 2 (.int .i64 a0_2) rfl) 3 (.int .i64 a0_3) rfl) 4 (.int .i64 a0_4) rfl) 4 (.int .i64 288230376151711744) rfl),(Bel.set (Bel.set (Bel.set (Bel.set (Bel.set (Bel.set hB l_d 0 (.int .i64 a0_0)) l_d 1 (.int .i64 a0_1)) l_d 2 (.int .i64 a0_2)) l_d 3 (.int .i64 a0_3)) l_d 4 (.int .i64 a0_4)) l_d 4 (.int .i64 288230376151711744))⟩ ?_
  clear b_c b_v b_r b_d hB
  rintro wn ⟨b_c,b_v,b_r,b_d,hB⟩
  have c_c0:World.cell? wn ⟨g_c,0,none⟩=some (.int .i64 a0_0):=(Bk.cell b_c 0).trans rfl
  have f_c0:=Bk.frozen b_c 0
  have c_c1:World.cell? wn ⟨g_c,1,none⟩=some (.int .i64 a0_1):=(Bk.cell b_c 1).trans rfl
  have f_c1:=Bk.frozen b_c 1
  have c_c2:World.cell? wn ⟨g_c,2,none⟩=some (.int .i64 a0_2):=(Bk.cell b_c 2).trans rfl
  have f_c2:=Bk.frozen b_c 2
  have c_c3:World.cell? wn ⟨g_c,3,none⟩=some (.int .i64 a0_3):=(Bk.cell b_c 3).trans rfl
  have f_c3:=Bk.frozen b_c 3
  have c_c4:World.cell? wn ⟨g_c,4,none⟩=some (.int .i64 a0_4):=(Bk.cell b_c 4).trans rfl
  have f_c4:=Bk.frozen b_c 4
  have c_v0:World.cell? wn ⟨g_v,0,none⟩=some (.int .i64 a1_0):=(Bk.cell b_v 0).trans rfl
  have f_v0:=Bk.frozen b_v 0
  have c_v1:World.cell? wn ⟨g_v,1,none⟩=some (.int .i64 a1_1):=(Bk.cell b_v 1).trans rfl
  have f_v1:=Bk.frozen b_v 1
  have c_v2:World.cell? wn ⟨g_v,2,none⟩=some (.int .i64 a1_2):=(Bk.cell b_v 2).trans rfl
  have f_v2:=Bk.frozen b_v 2
  have c_r0:World.cell? wn ⟨g_r,0,none⟩=some (.int .i64 r0):=(Bk.cell b_r 0).trans rfl
  have f_r0:=Bk.frozen b_r 0
  have c_r1:World.cell? wn ⟨g_r,1,none⟩=some (.int .i64 r1):=(Bk.cell b_r 1).trans rfl
  have f_r1:=Bk.frozen b_r 1
  have c_r2:World.cell? wn ⟨g_r,2,none⟩=some (.int .i64 r2):=(Bk.cell b_r 2).trans rfl
  have f_r2:=Bk.frozen b_r 2
  have c_d0:World.cell? wn ⟨g_d,0,none⟩=some (.int .i64 a0_0):=(Bk.cell b_d 0).trans rfl
  have f_d0:=Bk.frozen b_d 0
  have c_d1:World.cell? wn ⟨g_d,1,none⟩=some (.int .i64 a0_1):=(Bk.cell b_d 1).trans rfl
  have f_d1:=Bk.frozen b_d 1
  have c_d2:World.cell? wn ⟨g_d,2,none⟩=some (.int .i64 a0_2):=(Bk.cell b_d 2).trans rfl
  have f_d2:=Bk.frozen b_d 2
  have c_d3:World.cell? wn ⟨g_d,3,none⟩=some (.int .i64 a0_3):=(Bk.cell b_d 3).trans rfl
  have f_d3:=Bk.frozen b_d 3
  have c_d4:World.cell? wn ⟨g_d,4,none⟩=some (.int .i64 288230376151711744):=(Bk.cell b_d 4).trans rfl
  have f_d4:=Bk.frozen b_d 4
  go_wp2_with (first|((with_reducible refine gate_dst (N:=47) rfl ?_);(with_reducible refine gate_callee (f:=9) rfl ?_);refine goesL_ (some 47) rfl rfl Try.func9 (by kernel_rfl) rfl #[.agg #[.int .i64 a0_0,.int .i64 a0_1,.int .i64 a0_2,.int .i64 a0_3,.int .i64 288230376151711744],.agg #[.int .i64 a1_0,.int .i64 a1_1,.int .i64 a1_2]] rfl (by (try simp only [List.map_toArray,List.map_cons,List.map_nil]);first|done|rfl) ?_;refine(sense_Read.calls k a0_0 a0_1 a0_2 a0_3 288230376151711744 a1_0 a1_1 a1_2 _ _ _ _ _ A2.out).mono ?_;rintro e w1 ⟨rfl,hb⟩;refine⟨_,rfl,?_⟩;have m_c:Bk w1 g_c #[.int .i64 a0_0,.int .i64 a0_1,.int .i64 a0_2,.int .i64 a0_3,.int .i64 a0_4] 24:=Bk.below b_c hb;have m_v:Bk w1 g_v #[.int .i64 a1_0,.int .i64 a1_1,.int .i64 a1_2] 22:=Bk.below b_v hb;have m_r:Bk w1 g_r #[.int .i64 r0,.int .i64 r1,.int .i64 r2] 22:=Bk.below b_r hb;have m_d:Bk w1 g_d #[.int .i64 a0_0,.int .i64 a0_1,.int .i64 a0_2,.int .i64 a0_3,.int .i64 288230376151711744] 24:=Bk.below b_d hb;have mB:=Bel.step hB hb;clear b_c;clear b_v;clear b_r;clear b_d;have b_c:=m_c;clear m_c;have b_v:=m_v;clear m_v;have b_r:=m_r;clear m_r;have b_d:=m_d;clear m_d;clear hB;have hB:=mB;clear mB;(try clear hb);have c_c0:World.cell? w1 ⟨g_c,0,none⟩=some (.int .i64 a0_0):=(Bk.cell b_c 0).trans rfl;have f_c0:=Bk.frozen b_c 0;have c_c1:World.cell? w1 ⟨g_c,1,none⟩=some (.int .i64 a0_1):=(Bk.cell b_c 1).trans rfl;have f_c1:=Bk.frozen b_c 1;have c_c2:World.cell? w1 ⟨g_c,2,none⟩=some (.int .i64 a0_2):=(Bk.cell b_c 2).trans rfl;have f_c2:=Bk.frozen b_c 2;have c_c3:World.cell? w1 ⟨g_c,3,none⟩=some (.int .i64 a0_3):=(Bk.cell b_c 3).trans rfl;have f_c3:=Bk.frozen b_c 3;have c_c4:World.cell? w1 ⟨g_c,4,none⟩=some (.int .i64 a0_4):=(Bk.cell b_c 4).trans rfl;have f_c4:=Bk.frozen b_c 4;have c_v0:World.cell? w1 ⟨g_v,0,none⟩=some (.int .i64 a1_0):=(Bk.cell b_v 0).trans rfl;have f_v0:=Bk.frozen b_v 0;have c_v1:World.cell? w1 ⟨g_v,1,none⟩=some (.int .i64 a1_1):=(Bk.cell b_v 1).trans rfl;have f_v1:=Bk.frozen b_v 1;have c_v2:World.cell? w1 ⟨g_v,2,none⟩=some (.int .i64 a1_2):=(Bk.cell b_v 2).trans rfl;have f_v2:=Bk.frozen b_v 2;have c_r0:World.cell? w1 ⟨g_r,0,none⟩=some (.int .i64 r0):=(Bk.cell b_r 0).trans rfl;have f_r0:=Bk.frozen b_r 0;have c_r1:World.cell? w1 ⟨g_r,1,none⟩=some (.int .i64 r1):=(Bk.cell b_r 1).trans rfl;have f_r1:=Bk.frozen b_r 1;have c_r2:World.cell? w1 ⟨g_r,2,none⟩=some (.int .i64 r2):=(Bk.cell b_r 2).trans rfl;have f_r2:=Bk.frozen b_r 2;have c_d0:World.cell? w1 ⟨g_d,0,none⟩=some (.int .i64 a0_0):=(Bk.cell b_d 0).trans rfl;have f_d0:=Bk.frozen b_d 0;have c_d1:World.cell? w1 ⟨g_d,1,none⟩=some (.int .i64 a0_1):=(Bk.cell b_d 1).trans rfl;have f_d1:=Bk.frozen b_d 1;have c_d2:World.cell? w1 ⟨g_d,2,none⟩=some (.int .i64 a0_2):=(Bk.cell b_d 2).trans rfl;have f_d2:=Bk.frozen b_d 2;have c_d3:World.cell? w1 ⟨g_d,3,none⟩=some (.int .i64 a0_3):=(Bk.cell b_d 3).trans rfl;have f_d3:=Bk.frozen b_d 3;have c_d4:World.cell? w1 ⟨g_d,4,none⟩=some (.int .i64 288230376151711744):=(Bk.cell b_d 4).trans rfl;have f_d4:=Bk.frozen b_d 4)|((with_reducible refine gate_dst (N:=10) rfl ?_);refine box_event ?hg (N:=10) ?hd (cs:=#[.int .i64 0,.int .i64 0,.int .i64 0]) (t:=22) ?hr ?_;(case hd=>rfl);(case hg=>rfl);(case hr=>first|(go_simp;done)|(go_simp;rfl));intro g_s hg w1 b_s hb;have b_s:Bk w1 g_s #[.int .i64 0,.int .i64 0,.int .i64 0] 22:=b_s;have l_s:w.heap.size≤g_s:=(by rw [hg];exact Bel.size hB);have ne_c_s:g_c≠g_s:=(by rw [hg];exact Nat.ne_of_lt (Bk.lt b_c));have ne_s_c:g_s≠g_c:=Ne.symm ne_c_s;have ne_v_s:g_v≠g_s:=(by rw [hg];exact Nat.ne_of_lt (Bk.lt b_v));have ne_s_v:g_s≠g_v:=Ne.symm ne_v_s;have ne_r_s:g_r≠g_s:=(by rw [hg];exact Nat.ne_of_lt (Bk.lt b_r));have ne_s_r:g_s≠g_r:=Ne.symm ne_r_s;have ne_d_s:g_d≠g_s:=(by rw [hg];exact Nat.ne_of_lt (Bk.lt b_d));have ne_s_d:g_s≠g_d:=Ne.symm ne_d_s;have m_c:Bk w1 g_c #[.int .i64 a0_0,.int .i64 a0_1,.int .i64 a0_2,.int .i64 a0_3,.int .i64 a0_4] 24:=Bk.below b_c hb;have m_v:Bk w1 g_v #[.int .i64 a1_0,.int .i64 a1_1,.int .i64 a1_2] 22:=Bk.below b_v hb;have m_r:Bk w1 g_r #[.int .i64 r0,.int .i64 r1,.int .i64 r2] 22:=Bk.below b_r hb;have m_d:Bk w1 g_d #[.int .i64 a0_0,.int .i64 a0_1,.int .i64 a0_2,.int .i64 a0_3,.int .i64 288230376151711744] 24:=Bk.below b_d hb;have mB:=Bel.step hB hb;clear b_c;clear b_v;clear b_r;clear b_d;have b_c:=m_c;clear m_c;have b_v:=m_v;clear m_v;have b_r:=m_r;clear m_r;have b_d:=m_d;clear m_d;clear hB;have hB:=mB;clear mB;(try clear hb);clear hg;have c_c0:World.cell? w1 ⟨g_c,0,none⟩=some (.int .i64 a0_0):=(Bk.cell b_c 0).trans rfl;have f_c0:=Bk.frozen b_c 0;have c_c1:World.cell? w1 ⟨g_c,1,none⟩=some (.int .i64 a0_1):=(Bk.cell b_c 1).trans rfl;have f_c1:=Bk.frozen b_c 1;have c_c2:World.cell? w1 ⟨g_c,2,none⟩=some (.int .i64 a0_2):=(Bk.cell b_c 2).trans rfl;have f_c2:=Bk.frozen b_c 2;have c_c3:World.cell? w1 ⟨g_c,3,none⟩=some (.int .i64 a0_3):=(Bk.cell b_c 3).trans rfl;have f_c3:=Bk.frozen b_c 3;have c_c4:World.cell? w1 ⟨g_c,4,none⟩=some (.int .i64 a0_4):=(Bk.cell b_c 4).trans rfl;have f_c4:=Bk.frozen b_c 4;have c_v0:World.cell? w1 ⟨g_v,0,none⟩=some (.int .i64 a1_0):=(Bk.cell b_v 0).trans rfl;have f_v0:=Bk.frozen b_v 0;have c_v1:World.cell? w1 ⟨g_v,1,none⟩=some (.int .i64 a1_1):=(Bk.cell b_v 1).trans rfl;have f_v1:=Bk.frozen b_v 1;have c_v2:World.cell? w1 ⟨g_v,2,none⟩=some (.int .i64 a1_2):=(Bk.cell b_v 2).trans rfl;have f_v2:=Bk.frozen b_v 2;have c_r0:World.cell? w1 ⟨g_r,0,none⟩=some (.int .i64 r0):=(Bk.cell b_r 0).trans rfl;have f_r0:=Bk.frozen b_r 0;have c_r1:World.cell? w1 ⟨g_r,1,none⟩=some (.int .i64 r1):=(Bk.cell b_r 1).trans rfl;have f_r1:=Bk.frozen b_r 1;have c_r2:World.cell? w1 ⟨g_r,2,none⟩=some (.int .i64 r2):=(Bk.cell b_r 2).trans rfl;have f_r2:=Bk.frozen b_r 2;have c_d0:World.cell? w1 ⟨g_d,0,none⟩=some (.int .i64 a0_0):=(Bk.cell b_d 0).trans rfl;have f_d0:=Bk.frozen b_d 0;have c_d1:World.cell? w1 ⟨g_d,1,none⟩=some (.int .i64 a0_1):=(Bk.cell b_d 1).trans rfl;have f_d1:=Bk.frozen b_d 1;have c_d2:World.cell? w1 ⟨g_d,2,none⟩=some (.int .i64 a0_2):=(Bk.cell b_d 2).trans rfl;have f_d2:=Bk.frozen b_d 2;have c_d3:World.cell? w1 ⟨g_d,3,none⟩=some (.int .i64 a0_3):=(Bk.cell b_d 3).trans rfl;have f_d3:=Bk.frozen b_d 3;have c_d4:World.cell? w1 ⟨g_d,4,none⟩=some (.int .i64 288230376151711744):=(Bk.cell b_d 4).trans rfl;have f_d4:=Bk.frozen b_d 4;have c_s0:World.cell? w1 ⟨g_s,0,none⟩=some (.int .i64 0):=(Bk.cell b_s 0).trans rfl;have f_s0:=Bk.frozen b_s 0;have c_s1:World.cell? w1 ⟨g_s,1,none⟩=some (.int .i64 0):=(Bk.cell b_s 1).trans rfl;have f_s1:=Bk.frozen b_s 1;have c_s2:World.cell? w1 ⟨g_s,2,none⟩=some (.int .i64 0):=(Bk.cell b_s 2).trans rfl;have f_s2:=Bk.frozen b_s 2)|((with_reducible refine gate_dst (N:=54) rfl ?_);(with_reducible refine gate_callee (f:=9) rfl ?_);refine goesL_ (some 54) rfl rfl Try.func9 (by kernel_rfl) rfl #[.agg #[.int .i64 a0_0,.int .i64 a0_1,.int .i64 a0_2,.int .i64 a0_3,.int .i64 a0_4],.agg #[.int .i64 a0_0,.int .i64 a0_1,.int .i64 a0_2]] rfl (by (try simp only [List.map_toArray,List.map_cons,List.map_nil]);first|done|rfl) ?_;refine(sense_Read.calls k a0_0 a0_1 a0_2 a0_3 a0_4 a0_0 a0_1 a0_2 _ _ _ _ _ A3.out).mono ?_;rintro e w1 ⟨rfl,hb⟩;refine⟨_,rfl,?_⟩;have m_c:Bk w1 g_c #[.int .i64 a0_0,.int .i64 a0_1,.int .i64 a0_2,.int .i64 a0_3,.int .i64 a0_4] 24:=Bk.below (Bk.far (Bk.far (Bk.far b_c ne_c_s 0 (.int .i64 r0)) ne_c_s 1 (.int .i64 r1)) ne_c_s 2 (.int .i64 r2)) hb;have m_v:Bk w1 g_v #[.int .i64 a1_0,.int .i64 a1_1,.int .i64 a1_2] 22:=Bk.below (Bk.far (Bk.far (Bk.far b_v ne_v_s 0 (.int .i64 r0)) ne_v_s 1 (.int .i64 r1)) ne_v_s 2 (.int .i64 r2)) hb;have m_r:Bk w1 g_r #[.int .i64 r0,.int .i64 r1,.int .i64 r2] 22:=Bk.below (Bk.far (Bk.far (Bk.far b_r ne_r_s 0 (.int .i64 r0)) ne_r_s 1 (.int .i64 r1)) ne_r_s 2 (.int .i64 r2)) hb;have m_d:Bk w1 g_d #[.int .i64 a0_0,.int .i64 a0_1,.int .i64 a0_2,.int .i64 a0_3,.int .i64 288230376151711744] 24:=Bk.below (Bk.far (Bk.far (Bk.far b_d ne_d_s 0 (.int .i64 r0)) ne_d_s 1 (.int .i64 r1)) ne_d_s 2 (.int .i64 r2)) hb;have m_s:Bk w1 g_s #[.int .i64 r0,.int .i64 r1,.int .i64 r2] 22:=Bk.below (Bk.put (Bk.put (Bk.put b_s 0 (.int .i64 r0) rfl) 1 (.int .i64 r1) rfl) 2 (.int .i64 r2) rfl) hb;have mB:=Bel.step (Bel.set (Bel.set (Bel.set hB l_s 0 (.int .i64 r0)) l_s 1 (.int .i64 r1)) l_s 2 (.int .i64 r2)) hb;clear b_c;clear b_v;clear b_r;clear b_d;clear b_s;have b_c:=m_c;clear m_c;have b_v:=m_v;clear m_v;have b_r:=m_r;clear m_r;have b_d:=m_d;clear m_d;have b_s:=m_s;clear m_s;clear hB;have hB:=mB;clear mB;(try clear hb);have c_c0:World.cell? w1 ⟨g_c,0,none⟩=some (.int .i64 a0_0):=(Bk.cell b_c 0).trans rfl;have f_c0:=Bk.frozen b_c 0;have c_c1:World.cell? w1 ⟨g_c,1,none⟩=some (.int .i64 a0_1):=(Bk.cell b_c 1).trans rfl;have f_c1:=Bk.frozen b_c 1;have c_c2:World.cell? w1 ⟨g_c,2,none⟩=some (.int .i64 a0_2):=(Bk.cell b_c 2).trans rfl;have f_c2:=Bk.frozen b_c 2;have c_c3:World.cell? w1 ⟨g_c,3,none⟩=some (.int .i64 a0_3):=(Bk.cell b_c 3).trans rfl;have f_c3:=Bk.frozen b_c 3;have c_c4:World.cell? w1 ⟨g_c,4,none⟩=some (.int .i64 a0_4):=(Bk.cell b_c 4).trans rfl;have f_c4:=Bk.frozen b_c 4;have c_v0:World.cell? w1 ⟨g_v,0,none⟩=some (.int .i64 a1_0):=(Bk.cell b_v 0).trans rfl;have f_v0:=Bk.frozen b_v 0;have c_v1:World.cell? w1 ⟨g_v,1,none⟩=some (.int .i64 a1_1):=(Bk.cell b_v 1).trans rfl;have f_v1:=Bk.frozen b_v 1;have c_v2:World.cell? w1 ⟨g_v,2,none⟩=some (.int .i64 a1_2):=(Bk.cell b_v 2).trans rfl;have f_v2:=Bk.frozen b_v 2;have c_r0:World.cell? w1 ⟨g_r,0,none⟩=some (.int .i64 r0):=(Bk.cell b_r 0).trans rfl;have f_r0:=Bk.frozen b_r 0;have c_r1:World.cell? w1 ⟨g_r,1,none⟩=some (.int .i64 r1):=(Bk.cell b_r 1).trans rfl;have f_r1:=Bk.frozen b_r 1;have c_r2:World.cell? w1 ⟨g_r,2,none⟩=some (.int .i64 r2):=(Bk.cell b_r 2).trans rfl;have f_r2:=Bk.frozen b_r 2;have c_d0:World.cell? w1 ⟨g_d,0,none⟩=some (.int .i64 a0_0):=(Bk.cell b_d 0).trans rfl;have f_d0:=Bk.frozen b_d 0;have c_d1:World.cell? w1 ⟨g_d,1,none⟩=some (.int .i64 a0_1):=(Bk.cell b_d 1).trans rfl;have f_d1:=Bk.frozen b_d 1;have c_d2:World.cell? w1 ⟨g_d,2,none⟩=some (.int .i64 a0_2):=(Bk.cell b_d 2).trans rfl;have f_d2:=Bk.frozen b_d 2;have c_d3:World.cell? w1 ⟨g_d,3,none⟩=some (.int .i64 a0_3):=(Bk.cell b_d 3).trans rfl;have f_d3:=Bk.frozen b_d 3;have c_d4:World.cell? w1 ⟨g_d,4,none⟩=some (.int .i64 288230376151711744):=(Bk.cell b_d 4).trans rfl;have f_d4:=Bk.frozen b_d 4;have c_s0:World.cell? w1 ⟨g_s,0,none⟩=some (.int .i64 r0):=(Bk.cell b_s 0).trans rfl;have f_s0:=Bk.frozen b_s 0;have c_s1:World.cell? w1 ⟨g_s,1,none⟩=some (.int .i64 r1):=(Bk.cell b_s 1).trans rfl;have f_s1:=Bk.frozen b_s 1;have c_s2:World.cell? w1 ⟨g_s,2,none⟩=some (.int .i64 r2):=(Bk.cell b_s 2).trans rfl;have f_s2:=Bk.frozen b_s 2)|((with_reducible refine gate_dst (N:=12) rfl ?_);refine box_event ?hg (N:=12) ?hd (cs:=#[.int .i64 0,.int .i64 0,.int .i64 0]) (t:=22) ?hr ?_;(case hd=>rfl);(case hg=>rfl);(case hr=>first|(go_simp;done)|(go_simp;rfl));intro g_z hg w1 b_z hb;have b_z:Bk w1 g_z #[.int .i64 0,.int .i64 0,.int .i64 0] 22:=b_z;have l_z:w.heap.size≤g_z:=(by rw [hg];exact Bel.size hB);have ne_c_z:g_c≠g_z:=(by rw [hg];exact Nat.ne_of_lt (Bk.lt b_c));have ne_z_c:g_z≠g_c:=Ne.symm ne_c_z;have ne_v_z:g_v≠g_z:=(by rw [hg];exact Nat.ne_of_lt (Bk.lt b_v));have ne_z_v:g_z≠g_v:=Ne.symm ne_v_z;have ne_r_z:g_r≠g_z:=(by rw [hg];exact Nat.ne_of_lt (Bk.lt b_r));have ne_z_r:g_z≠g_r:=Ne.symm ne_r_z;have ne_d_z:g_d≠g_z:=(by rw [hg];exact Nat.ne_of_lt (Bk.lt b_d));have ne_z_d:g_z≠g_d:=Ne.symm ne_d_z;have ne_s_z:g_s≠g_z:=(by rw [hg];exact Nat.ne_of_lt (Bk.lt b_s));have ne_z_s:g_z≠g_s:=Ne.symm ne_s_z;have m_c:Bk w1 g_c #[.int .i64 a0_0,.int .i64 a0_1,.int .i64 a0_2,.int .i64 a0_3,.int .i64 a0_4] 24:=Bk.below b_c hb;have m_v:Bk w1 g_v #[.int .i64 a1_0,.int .i64 a1_1,.int .i64 a1_2] 22:=Bk.below b_v hb;have m_r:Bk w1 g_r #[.int .i64 r0,.int .i64 r1,.int .i64 r2] 22:=Bk.below b_r hb;have m_d:Bk w1 g_d #[.int .i64 a0_0,.int .i64 a0_1,.int .i64 a0_2,.int .i64 a0_3,.int .i64 288230376151711744] 24:=Bk.below b_d hb;have m_s:Bk w1 g_s #[.int .i64 r0,.int .i64 r1,.int .i64 r2] 22:=Bk.below b_s hb;have mB:=Bel.step hB hb;clear b_c;clear b_v;clear b_r;clear b_d;clear b_s;have b_c:=m_c;clear m_c;have b_v:=m_v;clear m_v;have b_r:=m_r;clear m_r;have b_d:=m_d;clear m_d;have b_s:=m_s;clear m_s;clear hB;have hB:=mB;clear mB;(try clear hb);clear hg;have c_c0:World.cell? w1 ⟨g_c,0,none⟩=some (.int .i64 a0_0):=(Bk.cell b_c 0).trans rfl;have f_c0:=Bk.frozen b_c 0;have c_c1:World.cell? w1 ⟨g_c,1,none⟩=some (.int .i64 a0_1):=(Bk.cell b_c 1).trans rfl;have f_c1:=Bk.frozen b_c 1;have c_c2:World.cell? w1 ⟨g_c,2,none⟩=some (.int .i64 a0_2):=(Bk.cell b_c 2).trans rfl;have f_c2:=Bk.frozen b_c 2;have c_c3:World.cell? w1 ⟨g_c,3,none⟩=some (.int .i64 a0_3):=(Bk.cell b_c 3).trans rfl;have f_c3:=Bk.frozen b_c 3;have c_c4:World.cell? w1 ⟨g_c,4,none⟩=some (.int .i64 a0_4):=(Bk.cell b_c 4).trans rfl;have f_c4:=Bk.frozen b_c 4;have c_v0:World.cell? w1 ⟨g_v,0,none⟩=some (.int .i64 a1_0):=(Bk.cell b_v 0).trans rfl;have f_v0:=Bk.frozen b_v 0;have c_v1:World.cell? w1 ⟨g_v,1,none⟩=some (.int .i64 a1_1):=(Bk.cell b_v 1).trans rfl;have f_v1:=Bk.frozen b_v 1;have c_v2:World.cell? w1 ⟨g_v,2,none⟩=some (.int .i64 a1_2):=(Bk.cell b_v 2).trans rfl;have f_v2:=Bk.frozen b_v 2;have c_r0:World.cell? w1 ⟨g_r,0,none⟩=some (.int .i64 r0):=(Bk.cell b_r 0).trans rfl;have f_r0:=Bk.frozen b_r 0;have c_r1:World.cell? w1 ⟨g_r,1,none⟩=some (.int .i64 r1):=(Bk.cell b_r 1).trans rfl;have f_r1:=Bk.frozen b_r 1;have c_r2:World.cell? w1 ⟨g_r,2,none⟩=some (.int .i64 r2):=(Bk.cell b_r 2).trans rfl;have f_r2:=Bk.frozen b_r 2;have c_d0:World.cell? w1 ⟨g_d,0,none⟩=some (.int .i64 a0_0):=(Bk.cell b_d 0).trans rfl;have f_d0:=Bk.frozen b_d 0;have c_d1:World.cell? w1 ⟨g_d,1,none⟩=some (.int .i64 a0_1):=(Bk.cell b_d 1).trans rfl;have f_d1:=Bk.frozen b_d 1;have c_d2:World.cell? w1 ⟨g_d,2,none⟩=some (.int .i64 a0_2):=(Bk.cell b_d 2).trans rfl;have f_d2:=Bk.frozen b_d 2;have c_d3:World.cell? w1 ⟨g_d,3,none⟩=some (.int .i64 a0_3):=(Bk.cell b_d 3).trans rfl;have f_d3:=Bk.frozen b_d 3;have c_d4:World.cell? w1 ⟨g_d,4,none⟩=some (.int .i64 288230376151711744):=(Bk.cell b_d 4).trans rfl;have f_d4:=Bk.frozen b_d 4;have c_s0:World.cell? w1 ⟨g_s,0,none⟩=some (.int .i64 r0):=(Bk.cell b_s 0).trans rfl;have f_s0:=Bk.frozen b_s 0;have c_s1:World.cell? w1 ⟨g_s,1,none⟩=some (.int .i64 r1):=(Bk.cell b_s 1).trans rfl;have f_s1:=Bk.frozen b_s 1;have c_s2:World.cell? w1 ⟨g_s,2,none⟩=some (.int .i64 r2):=(Bk.cell b_s 2).trans rfl;have f_s2:=Bk.frozen b_s 2;have c_z0:World.cell? w1 ⟨g_z,0,none⟩=some (.int .i64 0):=(Bk.cell b_z 0).trans rfl;have f_z0:=Bk.frozen b_z 0;have c_z1:World.cell? w1 ⟨g_z,1,none⟩=some (.int .i64 0):=(Bk.cell b_z 1).trans rfl;have f_z1:=Bk.frozen b_z 1;have c_z2:World.cell? w1 ⟨g_z,2,none⟩=some (.int .i64 0):=(Bk.cell b_z 2).trans rfl;have f_z2:=Bk.frozen b_z 2)|((with_reducible refine gate_callee (f:=13) rfl ?_);refine gate_guard (by rfl) ?_;refine goesL_ (some 86) rfl rfl Try.func13 (by kernel_rfl) rfl #[.agg #[.int .i64 a0_0,.int .i64 a0_1,.int .i64 a0_2,.int .i64 a0_3,.int .i64 a0_4]] rfl (by (try simp only [List.map_toArray,List.map_cons,List.map_nil]);first|done|rfl) ?_;refine(sense_Sane.calls k a0_0 a0_1 a0_2 a0_3 a0_4 _ _ A4.out).mono ?_;rintro e w1 ⟨rfl,hb⟩;refine⟨_,rfl,?_⟩;have m_c:Bk w1 g_c #[.int .i64 a0_0,.int .i64 a0_1,.int .i64 a0_2,.int .i64 a0_3,.int .i64 a0_4] 24:=Bk.below (Bk.far (Bk.far (Bk.far b_c ne_c_z 0 (.int .i64 0)) ne_c_z 1 (.int .i64 0)) ne_c_z 2 (.int .i64 0)) hb;have m_v:Bk w1 g_v #[.int .i64 a1_0,.int .i64 a1_1,.int .i64 a1_2] 22:=Bk.below (Bk.far (Bk.far (Bk.far b_v ne_v_z 0 (.int .i64 0)) ne_v_z 1 (.int .i64 0)) ne_v_z 2 (.int .i64 0)) hb;have m_r:Bk w1 g_r #[.int .i64 r0,.int .i64 r1,.int .i64 r2] 22:=Bk.below (Bk.far (Bk.far (Bk.far b_r ne_r_z 0 (.int .i64 0)) ne_r_z 1 (.int .i64 0)) ne_r_z 2 (.int .i64 0)) hb;have m_d:Bk w1 g_d #[.int .i64 a0_0,.int .i64 a0_1,.int .i64 a0_2,.int .i64 a0_3,.int .i64 288230376151711744] 24:=Bk.below (Bk.far (Bk.far (Bk.far b_d ne_d_z 0 (.int .i64 0)) ne_d_z 1 (.int .i64 0)) ne_d_z 2 (.int .i64 0)) hb;have m_s:Bk w1 g_s #[.int .i64 r0,.int .i64 r1,.int .i64 r2] 22:=Bk.below (Bk.far (Bk.far (Bk.far b_s ne_s_z 0 (.int .i64 0)) ne_s_z 1 (.int .i64 0)) ne_s_z 2 (.int .i64 0)) hb;have m_z:Bk w1 g_z #[.int .i64 0,.int .i64 0,.int .i64 0] 22:=Bk.below (Bk.put (Bk.put (Bk.put b_z 0 (.int .i64 0) rfl) 1 (.int .i64 0) rfl) 2 (.int .i64 0) rfl) hb;have mB:=Bel.step (Bel.set (Bel.set (Bel.set hB l_z 0 (.int .i64 0)) l_z 1 (.int .i64 0)) l_z 2 (.int .i64 0)) hb;clear b_c;clear b_v;clear b_r;clear b_d;clear b_s;clear b_z;have b_c:=m_c;clear m_c;have b_v:=m_v;clear m_v;have b_r:=m_r;clear m_r;have b_d:=m_d;clear m_d;have b_s:=m_s;clear m_s;have b_z:=m_z;clear m_z;clear hB;have hB:=mB;clear mB;(try clear hb);have c_c0:World.cell? w1 ⟨g_c,0,none⟩=some (.int .i64 a0_0):=(Bk.cell b_c 0).trans rfl;have f_c0:=Bk.frozen b_c 0;have c_c1:World.cell? w1 ⟨g_c,1,none⟩=some (.int .i64 a0_1):=(Bk.cell b_c 1).trans rfl;have f_c1:=Bk.frozen b_c 1;have c_c2:World.cell? w1 ⟨g_c,2,none⟩=some (.int .i64 a0_2):=(Bk.cell b_c 2).trans rfl;have f_c2:=Bk.frozen b_c 2;have c_c3:World.cell? w1 ⟨g_c,3,none⟩=some (.int .i64 a0_3):=(Bk.cell b_c 3).trans rfl;have f_c3:=Bk.frozen b_c 3;have c_c4:World.cell? w1 ⟨g_c,4,none⟩=some (.int .i64 a0_4):=(Bk.cell b_c 4).trans rfl;have f_c4:=Bk.frozen b_c 4;have c_v0:World.cell? w1 ⟨g_v,0,none⟩=some (.int .i64 a1_0):=(Bk.cell b_v 0).trans rfl;have f_v0:=Bk.frozen b_v 0;have c_v1:World.cell? w1 ⟨g_v,1,none⟩=some (.int .i64 a1_1):=(Bk.cell b_v 1).trans rfl;have f_v1:=Bk.frozen b_v 1;have c_v2:World.cell? w1 ⟨g_v,2,none⟩=some (.int .i64 a1_2):=(Bk.cell b_v 2).trans rfl;have f_v2:=Bk.frozen b_v 2;have c_r0:World.cell? w1 ⟨g_r,0,none⟩=some (.int .i64 r0):=(Bk.cell b_r 0).trans rfl;have f_r0:=Bk.frozen b_r 0;have c_r1:World.cell? w1 ⟨g_r,1,none⟩=some (.int .i64 r1):=(Bk.cell b_r 1).trans rfl;have f_r1:=Bk.frozen b_r 1;have c_r2:World.cell? w1 ⟨g_r,2,none⟩=some (.int .i64 r2):=(Bk.cell b_r 2).trans rfl;have f_r2:=Bk.frozen b_r 2;have c_d0:World.cell? w1 ⟨g_d,0,none⟩=some (.int .i64 a0_0):=(Bk.cell b_d 0).trans rfl;have f_d0:=Bk.frozen b_d 0;have c_d1:World.cell? w1 ⟨g_d,1,none⟩=some (.int .i64 a0_1):=(Bk.cell b_d 1).trans rfl;have f_d1:=Bk.frozen b_d 1;have c_d2:World.cell? w1 ⟨g_d,2,none⟩=some (.int .i64 a0_2):=(Bk.cell b_d 2).trans rfl;have f_d2:=Bk.frozen b_d 2;have c_d3:World.cell? w1 ⟨g_d,3,none⟩=some (.int .i64 a0_3):=(Bk.cell b_d 3).trans rfl;have f_d3:=Bk.frozen b_d 3;have c_d4:World.cell? w1 ⟨g_d,4,none⟩=some (.int .i64 288230376151711744):=(Bk.cell b_d 4).trans rfl;have f_d4:=Bk.frozen b_d 4;have c_s0:World.cell? w1 ⟨g_s,0,none⟩=some (.int .i64 r0):=(Bk.cell b_s 0).trans rfl;have f_s0:=Bk.frozen b_s 0;have c_s1:World.cell? w1 ⟨g_s,1,none⟩=some (.int .i64 r1):=(Bk.cell b_s 1).trans rfl;have f_s1:=Bk.frozen b_s 1;have c_s2:World.cell? w1 ⟨g_s,2,none⟩=some (.int .i64 r2):=(Bk.cell b_s 2).trans rfl;have f_s2:=Bk.frozen b_s 2;have c_z0:World.cell? w1 ⟨g_z,0,none⟩=some (.int .i64 0):=(Bk.cell b_z 0).trans rfl;have f_z0:=Bk.frozen b_z 0;have c_z1:World.cell? w1 ⟨g_z,1,none⟩=some (.int .i64 0):=(Bk.cell b_z 1).trans rfl;have f_z1:=Bk.frozen b_z 1;have c_z2:World.cell? w1 ⟨g_z,2,none⟩=some (.int .i64 0):=(Bk.cell b_z 2).trans rfl;have f_z2:=Bk.frozen b_z 2))
  try go_wp2
  go_ret
  exact⟨rfl,hB⟩
 ·have hB:=Bel.refl w
  go_enter Try.func5,Try.ntmps5
  go_wp2_with (first|((with_reducible refine gate_dst (N:=2) rfl ?_);refine box_event ?hg (N:=2) ?hd (cs:=#[.int .i64 a0_0,.int .i64 a0_1,.int .i64 a0_2,.int .i64 a0_3,.int .i64 a0_4]) (t:=24) ?hr ?_;(case hd=>rfl);(case hg=>rfl);(case hr=>first|(go_simp;done)|(go_simp;rfl));intro g_c hg w1 b_c hb;have b_c:Bk w1 g_c #[.int .i64 a0_0,.int .i64 a0_1,.int .i64 a0_2,.int .i64 a0_3,.int .i64 a0_4] 24:=b_c;have l_c:w.heap.size≤g_c:=(by rw [hg];exact Bel.size hB);have mB:=Bel.step hB hb;clear hB;have hB:=mB;clear mB;(try clear hb);clear hg;have c_c0:World.cell? w1 ⟨g_c,0,none⟩=some (.int .i64 a0_0):=(Bk.cell b_c 0).trans rfl;have f_c0:=Bk.frozen b_c 0;have c_c1:World.cell? w1 ⟨g_c,1,none⟩=some (.int .i64 a0_1):=(Bk.cell b_c 1).trans rfl;have f_c1:=Bk.frozen b_c 1;have c_c2:World.cell? w1 ⟨g_c,2,none⟩=some (.int .i64 a0_2):=(Bk.cell b_c 2).trans rfl;have f_c2:=Bk.frozen b_c 2;have c_c3:World.cell? w1 ⟨g_c,3,none⟩=some (.int .i64 a0_3):=(Bk.cell b_c 3).trans rfl;have f_c3:=Bk.frozen b_c 3;have c_c4:World.cell? w1 ⟨g_c,4,none⟩=some (.int .i64 a0_4):=(Bk.cell b_c 4).trans rfl;have f_c4:=Bk.frozen b_c 4)|((with_reducible refine gate_dst (N:=3) rfl ?_);refine box_event ?hg (N:=3) ?hd (cs:=#[.int .i64 a1_0,.int .i64 a1_1,.int .i64 a1_2]) (t:=22) ?hr ?_;(case hd=>rfl);(case hg=>rfl);(case hr=>first|(go_simp;done)|(go_simp;rfl));intro g_v hg w1 b_v hb;have b_v:Bk w1 g_v #[.int .i64 a1_0,.int .i64 a1_1,.int .i64 a1_2] 22:=b_v;have l_v:w.heap.size≤g_v:=(by rw [hg];exact Bel.size hB);have ne_c_v:g_c≠g_v:=(by rw [hg];exact Nat.ne_of_lt (Bk.lt b_c));have ne_v_c:g_v≠g_c:=Ne.symm ne_c_v;have m_c:Bk w1 g_c #[.int .i64 a0_0,.int .i64 a0_1,.int .i64 a0_2,.int .i64 a0_3,.int .i64 a0_4] 24:=Bk.below b_c hb;have mB:=Bel.step hB hb;clear b_c;have b_c:=m_c;clear m_c;clear hB;have hB:=mB;clear mB;(try clear hb);clear hg;have c_c0:World.cell? w1 ⟨g_c,0,none⟩=some (.int .i64 a0_0):=(Bk.cell b_c 0).trans rfl;have f_c0:=Bk.frozen b_c 0;have c_c1:World.cell? w1 ⟨g_c,1,none⟩=some (.int .i64 a0_1):=(Bk.cell b_c 1).trans rfl;have f_c1:=Bk.frozen b_c 1;have c_c2:World.cell? w1 ⟨g_c,2,none⟩=some (.int .i64 a0_2):=(Bk.cell b_c 2).trans rfl;have f_c2:=Bk.frozen b_c 2;have c_c3:World.cell? w1 ⟨g_c,3,none⟩=some (.int .i64 a0_3):=(Bk.cell b_c 3).trans rfl;have f_c3:=Bk.frozen b_c 3;have c_c4:World.cell? w1 ⟨g_c,4,none⟩=some (.int .i64 a0_4):=(Bk.cell b_c 4).trans rfl;have f_c4:=Bk.frozen b_c 4;have c_v0:World.cell? w1 ⟨g_v,0,none⟩=some (.int .i64 a1_0):=(Bk.cell b_v 0).trans rfl;have f_v0:=Bk.frozen b_v 0;have c_v1:World.cell? w1 ⟨g_v,1,none⟩=some (.int .i64 a1_1):=(Bk.cell b_v 1).trans rfl;have f_v1:=Bk.frozen b_v 1;have c_v2:World.cell? w1 ⟨g_v,2,none⟩=some (.int .i64 a1_2):=(Bk.cell b_v 2).trans rfl;have f_v2:=Bk.frozen b_v 2)|((with_reducible refine gate_callee (f:=8) rfl ?_);refine goesL_ (some 14) rfl rfl Try.func8 (by kernel_rfl) rfl #[] rfl (by (try simp only [List.map_toArray,List.map_cons,List.map_nil]);first|done|rfl) ?_;refine(outriggerlaw18_awake.calls 200 true _ outriggerlaw18_awake.known).mono ?_;rintro e w1 ⟨rfl,hb⟩;refine⟨_,rfl,?_⟩;have m_c:Bk w1 g_c #[.int .i64 a0_0,.int .i64 a0_1,.int .i64 a0_2,.int .i64 a0_3,.int .i64 a0_4] 24:=Bk.below b_c hb;have m_v:Bk w1 g_v #[.int .i64 a1_0,.int .i64 a1_1,.int .i64 a1_2] 22:=Bk.below b_v hb;have mB:=Bel.step hB hb;clear b_c;clear b_v;have b_c:=m_c;clear m_c;have b_v:=m_v;clear m_v;clear hB;have hB:=mB;clear mB;(try clear hb);have c_c0:World.cell? w1 ⟨g_c,0,none⟩=some (.int .i64 a0_0):=(Bk.cell b_c 0).trans rfl;have f_c0:=Bk.frozen b_c 0;have c_c1:World.cell? w1 ⟨g_c,1,none⟩=some (.int .i64 a0_1):=(Bk.cell b_c 1).trans rfl;have f_c1:=Bk.frozen b_c 1;have c_c2:World.cell? w1 ⟨g_c,2,none⟩=some (.int .i64 a0_2):=(Bk.cell b_c 2).trans rfl;have f_c2:=Bk.frozen b_c 2;have c_c3:World.cell? w1 ⟨g_c,3,none⟩=some (.int .i64 a0_3):=(Bk.cell b_c 3).trans rfl;have f_c3:=Bk.frozen b_c 3;have c_c4:World.cell? w1 ⟨g_c,4,none⟩=some (.int .i64 a0_4):=(Bk.cell b_c 4).trans rfl;have f_c4:=Bk.frozen b_c 4;have c_v0:World.cell? w1 ⟨g_v,0,none⟩=some (.int .i64 a1_0):=(Bk.cell b_v 0).trans rfl;have f_v0:=Bk.frozen b_v 0;have c_v1:World.cell? w1 ⟨g_v,1,none⟩=some (.int .i64 a1_1):=(Bk.cell b_v 1).trans rfl;have f_v1:=Bk.frozen b_v 1;have c_v2:World.cell? w1 ⟨g_v,2,none⟩=some (.int .i64 a1_2):=(Bk.cell b_v 2).trans rfl;have f_v2:=Bk.frozen b_v 2)|((with_reducible refine gate_callee (f:=9) rfl ?_);refine goesL_ (some 18) rfl rfl Try.func9 (by kernel_rfl) rfl #[.agg #[.int .i64 a0_0,.int .i64 a0_1,.int .i64 a0_2,.int .i64 a0_3,.int .i64 a0_4],.agg #[.int .i64 a1_0,.int .i64 a1_1,.int .i64 a1_2]] rfl (by (try simp only [List.map_toArray,List.map_cons,List.map_nil]);first|done|rfl) ?_;refine(sense_Read.calls k a0_0 a0_1 a0_2 a0_3 a0_4 a1_0 a1_1 a1_2 _ _ _ _ _ A1.out).mono ?_;rintro e w1 ⟨rfl,hb⟩;refine⟨_,rfl,?_⟩;have m_c:Bk w1 g_c #[.int .i64 a0_0,.int .i64 a0_1,.int .i64 a0_2,.int .i64 a0_3,.int .i64 a0_4] 24:=Bk.below b_c hb;have m_v:Bk w1 g_v #[.int .i64 a1_0,.int .i64 a1_1,.int .i64 a1_2] 22:=Bk.below b_v hb;have mB:=Bel.step hB hb;clear b_c;clear b_v;have b_c:=m_c;clear m_c;have b_v:=m_v;clear m_v;clear hB;have hB:=mB;clear mB;(try clear hb);have c_c0:World.cell? w1 ⟨g_c,0,none⟩=some (.int .i64 a0_0):=(Bk.cell b_c 0).trans rfl;have f_c0:=Bk.frozen b_c 0;have c_c1:World.cell? w1 ⟨g_c,1,none⟩=some (.int .i64 a0_1):=(Bk.cell b_c 1).trans rfl;have f_c1:=Bk.frozen b_c 1;have c_c2:World.cell? w1 ⟨g_c,2,none⟩=some (.int .i64 a0_2):=(Bk.cell b_c 2).trans rfl;have f_c2:=Bk.frozen b_c 2;have c_c3:World.cell? w1 ⟨g_c,3,none⟩=some (.int .i64 a0_3):=(Bk.cell b_c 3).trans rfl;have f_c3:=Bk.frozen b_c 3;have c_c4:World.cell? w1 ⟨g_c,4,none⟩=some (.int .i64 a0_4):=(Bk.cell b_c 4).trans rfl;have f_c4:=Bk.frozen b_c 4;have c_v0:World.cell? w1 ⟨g_v,0,none⟩=some (.int .i64 a1_0):=(Bk.cell b_v 0).trans rfl;have f_v0:=Bk.frozen b_v 0;have c_v1:World.cell? w1 ⟨g_v,1,none⟩=some (.int .i64 a1_1):=(Bk.cell b_v 1).trans rfl;have f_v1:=Bk.frozen b_v 1;have c_v2:World.cell? w1 ⟨g_v,2,none⟩=some (.int .i64 a1_2):=(Bk.cell b_v 2).trans rfl;have f_v2:=Bk.frozen b_v 2)|((with_reducible refine gate_dst (N:=6) rfl ?_);refine box_event ?hg (N:=6) ?hd (cs:=#[.int .i64 0,.int .i64 0,.int .i64 0]) (t:=22) ?hr ?_;(case hd=>rfl);(case hg=>rfl);(case hr=>first|(go_simp;done)|(go_simp;rfl));intro g_r hg w1 b_r hb;have b_r:Bk w1 g_r #[.int .i64 0,.int .i64 0,.int .i64 0] 22:=b_r;have l_r:w.heap.size≤g_r:=(by rw [hg];exact Bel.size hB);have ne_c_r:g_c≠g_r:=(by rw [hg];exact Nat.ne_of_lt (Bk.lt b_c));have ne_r_c:g_r≠g_c:=Ne.symm ne_c_r;have ne_v_r:g_v≠g_r:=(by rw [hg];exact Nat.ne_of_lt (Bk.lt b_v));have ne_r_v:g_r≠g_v:=Ne.symm ne_v_r;have m_c:Bk w1 g_c #[.int .i64 a0_0,.int .i64 a0_1,.int .i64 a0_2,.int .i64 a0_3,.int .i64 a0_4] 24:=Bk.below b_c hb;have m_v:Bk w1 g_v #[.int .i64 a1_0,.int .i64 a1_1,.int .i64 a1_2] 22:=Bk.below b_v hb;have mB:=Bel.step hB hb;clear b_c;clear b_v;have b_c:=m_c;clear m_c;have b_v:=m_v;clear m_v;clear hB;have hB:=mB;clear mB;(try clear hb);clear hg;have c_c0:World.cell? w1 ⟨g_c,0,none⟩=some (.int .i64 a0_0):=(Bk.cell b_c 0).trans rfl;have f_c0:=Bk.frozen b_c 0;have c_c1:World.cell? w1 ⟨g_c,1,none⟩=some (.int .i64 a0_1):=(Bk.cell b_c 1).trans rfl;have f_c1:=Bk.frozen b_c 1;have c_c2:World.cell? w1 ⟨g_c,2,none⟩=some (.int .i64 a0_2):=(Bk.cell b_c 2).trans rfl;have f_c2:=Bk.frozen b_c 2;have c_c3:World.cell? w1 ⟨g_c,3,none⟩=some (.int .i64 a0_3):=(Bk.cell b_c 3).trans rfl;have f_c3:=Bk.frozen b_c 3;have c_c4:World.cell? w1 ⟨g_c,4,none⟩=some (.int .i64 a0_4):=(Bk.cell b_c 4).trans rfl;have f_c4:=Bk.frozen b_c 4;have c_v0:World.cell? w1 ⟨g_v,0,none⟩=some (.int .i64 a1_0):=(Bk.cell b_v 0).trans rfl;have f_v0:=Bk.frozen b_v 0;have c_v1:World.cell? w1 ⟨g_v,1,none⟩=some (.int .i64 a1_1):=(Bk.cell b_v 1).trans rfl;have f_v1:=Bk.frozen b_v 1;have c_v2:World.cell? w1 ⟨g_v,2,none⟩=some (.int .i64 a1_2):=(Bk.cell b_v 2).trans rfl;have f_v2:=Bk.frozen b_v 2;have c_r0:World.cell? w1 ⟨g_r,0,none⟩=some (.int .i64 0):=(Bk.cell b_r 0).trans rfl;have f_r0:=Bk.frozen b_r 0;have c_r1:World.cell? w1 ⟨g_r,1,none⟩=some (.int .i64 0):=(Bk.cell b_r 1).trans rfl;have f_r1:=Bk.frozen b_r 1;have c_r2:World.cell? w1 ⟨g_r,2,none⟩=some (.int .i64 0):=(Bk.cell b_r 2).trans rfl;have f_r2:=Bk.frozen b_r 2))
  refine wp_loop_rounds 4 ?_
  rw [rounds_succ]
  go_wp2
  have x0:decide (0 > M)=false:=decide_eq_false (by have h_:=X0.out.1;omega)
  have x1:decide (0<wrap64 (-M))=false:=decide_eq_false (by have h_:=X0.out.2;omega)
  have x2:decide (0<IntKind.i64.wrap (-M))=false:=by rw [i64_w];exact x1
  refine start2_ (n:=17) (S:=fun w'=>Bk w' g_c #[.int .i64 a0_0,.int .i64 a0_1,.int .i64 a0_2,.int .i64 a0_3,.int .i64 a0_4] 24∧Bk w' g_v #[.int .i64 a1_0,.int .i64 a1_1,.int .i64 a1_2] 22∧Bk w' g_r #[.int .i64 0,.int .i64 0,.int .i64 0] 22∧Bel w w') (ds:=[]) #[false,false,false,false,false,false,false,false,false,false,false,false,false,false,false,false,false] (by kernel_rfl) rfl rfl outriggerlaw18_SenseBounds.tab6 outriggerlaw18_SenseBounds.bits6 ⟨Bk.drew (Bk.far (Bk.far (Bk.far b_c ne_c_r 0 (.int .i64 0)) ne_c_r 1 (.int .i64 0)) ne_c_r 2 (.int .i64 0)),Bk.drew (Bk.far (Bk.far (Bk.far b_v ne_v_r 0 (.int .i64 0)) ne_v_r 1 (.int .i64 0)) ne_v_r 2 (.int .i64 0)),Bk.drew (Bk.put (Bk.put (Bk.put b_r 0 (.int .i64 0) rfl) 1 (.int .i64 0) rfl) 2 (.int .i64 0) rfl),Bel.drew (Bel.set (Bel.set (Bel.set hB l_r 0 (.int .i64 0)) l_r 1 (.int .i64 0)) l_r 2 (.int .i64 0))⟩ (fun wn hHeld HT_ HW_=>?_)
  refine pure_ (i:=0) (N:=some 25) (v:=?_) (a':=?_) #[true,false,false,false,false,false,false,false,false,false,false,false,false,false,false,false,false] rfl rfl (any_of HT_.out (by kernel_rfl)) (fun _ _ _ h=>h) (Or.inl ⟨by rfl,?_⟩) ?_ ?_
  rotate_left
  ·intro w'
   go_simp
   with_reducible rfl
  rotate_left
  ·simp only [Act.put,List.setIfInBounds_toArray,List.set_cons_zero,List.set_cons_succ]
   rfl
  refine pure_ (i:=1) (N:=some 26) (v:=?_) (a':=?_) #[true,true,false,false,false,false,false,false,false,false,false,false,false,false,false,false,false] rfl rfl (any_of HT_.out (by kernel_rfl)) (fun _ _ _ h=>h) (Or.inl ⟨by rfl,?_⟩) ?_ ?_
  rotate_left
  ·intro w'
   go_simp
   with_reducible rfl
  rotate_left
  ·simp only [Act.put,List.setIfInBounds_toArray,List.set_cons_zero,List.set_cons_succ]
   rfl
  refine take_ (i:=2) (N:=some 27) (v:=?_) (a':=?_) #[true,true,true,false,false,false,false,false,false,false,false,false,false,false,false,false,false] rfl rfl (take_ofW HT_.out HW_.out (by kernel_rfl)) (fun _ _ _ h=>h) (Or.inl ⟨by rfl,?_⟩) hHeld ?_ ?_
  rotate_left
  ·rintro w' ⟨s0,s1,s2,s3⟩
   have c_r0:World.cell? w' ⟨g_r,0,none⟩=some (.int .i64 0):=(Bk.cell s2 0).trans rfl
   have c_r1:World.cell? w' ⟨g_r,1,none⟩=some (.int .i64 0):=(Bk.cell s2 1).trans rfl
   have c_r2:World.cell? w' ⟨g_r,2,none⟩=some (.int .i64 0):=(Bk.cell s2 2).trans rfl
   go_simp
   with_reducible rfl
  rotate_left
  ·simp only [Act.put,List.setIfInBounds_toArray,List.set_cons_zero,List.set_cons_succ]
   rfl
  refine pure_ (i:=3) (N:=some 28) (v:=?_) (a':=?_) #[true,true,true,true,false,false,false,false,false,false,false,false,false,false,false,false,false] rfl rfl (any_of HT_.out (by kernel_rfl)) (fun _ _ _ h=>h) (Or.inl ⟨by rfl,?_⟩) ?_ ?_
  rotate_left
  ·intro w'
   go_simp
   with_reducible rfl
  rotate_left
  ·simp only [Act.put,List.setIfInBounds_toArray,List.set_cons_zero,List.set_cons_succ]
   rfl
  refine take_ (i:=4) (N:=some 29) (v:=?_) (a':=?_) #[true,true,true,true,true,false,false,false,false,false,false,false,false,false,false,false,false] rfl rfl (take_ofW HT_.out HW_.out (by kernel_rfl)) (fun _ _ _ h=>h) (Or.inl ⟨by rfl,?_⟩) hHeld ?_ ?_
  rotate_left
  ·rintro w' ⟨s0,s1,s2,s3⟩
   have c_c0:World.cell? w' ⟨g_c,0,none⟩=some (.int .i64 a0_0):=(Bk.cell s0 0).trans rfl
   have c_c1:World.cell? w' ⟨g_c,1,none⟩=some (.int .i64 a0_1):=(Bk.cell s0 1).trans rfl
   have c_c2:World.cell? w' ⟨g_c,2,none⟩=some (.int .i64 a0_2):=(Bk.cell s0 2).trans rfl
   have c_c3:World.cell? w' ⟨g_c,3,none⟩=some (.int .i64 a0_3):=(Bk.cell s0 3).trans rfl
   have c_c4:World.cell? w' ⟨g_c,4,none⟩=some (.int .i64 a0_4):=(Bk.cell s0 4).trans rfl
   go_simp
   with_reducible rfl
  rotate_left
  ·simp only [Act.put,List.setIfInBounds_toArray,List.set_cons_zero,List.set_cons_succ]
   rfl
  refine pure_ (i:=5) (N:=some 30) (v:=?_) (a':=?_) #[true,true,true,true,true,true,false,false,false,false,false,false,false,false,false,false,false] rfl rfl (any_of HT_.out (by kernel_rfl)) (fun _ _ _ h=>h) (Or.inl ⟨by rfl,?_⟩) ?_ ?_
  rotate_left
  ·intro w'
   go_simp
   with_reducible rfl
  rotate_left
  ·simp only [Act.put,List.setIfInBounds_toArray,List.set_cons_zero,List.set_cons_succ]
   rfl
  refine pure_ (i:=6) (N:=some 31) (v:=?_) (a':=?_) #[true,true,true,true,true,true,true,false,false,false,false,false,false,false,false,false,false] rfl rfl (any_of HT_.out (by kernel_rfl)) (fun _ _ _ h=>h) (Or.inl ⟨by rfl,?_⟩) ?_ ?_
  rotate_left
  ·intro w'
   go_simp
   with_reducible rfl
  rotate_left
  ·simp only [Act.put,List.setIfInBounds_toArray,List.set_cons_zero,List.set_cons_succ]
   rfl
  refine pure_ (i:=7) (N:=some 32) (v:=?_) (a':=?_) #[true,true,true,true,true,true,true,true,false,false,false,false,false,false,false,false,false] rfl rfl (any_of HT_.out (by kernel_rfl)) (fun _ _ _ h=>h) (Or.inl ⟨by rfl,?_⟩) ?_ ?_
  rotate_left
  ·intro w'
   go_simp
   with_reducible rfl
  rotate_left
  ·simp only [Act.put,List.setIfInBounds_toArray,List.set_cons_zero,List.set_cons_succ]
   rfl
  refine pure_ (i:=8) (N:=some 33) (v:=?_) (a':=?_) #[true,true,true,true,true,true,true,true,true,false,false,false,false,false,false,false,false] rfl rfl (any_of HT_.out (by kernel_rfl)) (fun _ _ _ h=>h) (Or.inl ⟨by rfl,?_⟩) ?_ ?_
  rotate_left
  ·intro w'
   go_simp
   with_reducible rfl
  rotate_left
  ·simp only [Act.put,List.setIfInBounds_toArray,List.set_cons_zero,List.set_cons_succ]
   rfl
  refine pure_ (i:=9) (N:=some 34) (v:=?_) (a':=?_) #[true,true,true,true,true,true,true,true,true,true,false,false,false,false,false,false,false] rfl rfl (any_of HT_.out (by kernel_rfl)) (fun _ _ _ h=>h) (Or.inl ⟨by rfl,?_⟩) ?_ ?_
  rotate_left
  ·intro w'
   go_simp
   with_reducible rfl
  rotate_left
  ·simp only [Act.put,List.setIfInBounds_toArray,List.set_cons_zero,List.set_cons_succ]
   rfl
  refine take_ (i:=10) (N:=some 35) (v:=?_) (a':=?_) #[true,true,true,true,true,true,true,true,true,true,true,false,false,false,false,false,false] rfl rfl (take_ofW HT_.out HW_.out (by kernel_rfl)) (fun _ _ _ h=>h) (Or.inl ⟨by rfl,?_⟩) hHeld ?_ ?_
  rotate_left
  ·rintro w' ⟨s0,s1,s2,s3⟩
   have c_r0:World.cell? w' ⟨g_r,0,none⟩=some (.int .i64 0):=(Bk.cell s2 0).trans rfl
   have c_r1:World.cell? w' ⟨g_r,1,none⟩=some (.int .i64 0):=(Bk.cell s2 1).trans rfl
   have c_r2:World.cell? w' ⟨g_r,2,none⟩=some (.int .i64 0):=(Bk.cell s2 2).trans rfl
   go_simp
   with_reducible rfl
  rotate_left
  ·simp only [Act.put,List.setIfInBounds_toArray,List.set_cons_zero,List.set_cons_succ]
   rfl
  refine pure_ (i:=11) (N:=some 36) (v:=?_) (a':=?_) #[true,true,true,true,true,true,true,true,true,true,true,true,false,false,false,false,false] rfl rfl (any_of HT_.out (by kernel_rfl)) (fun _ _ _ h=>h) (Or.inl ⟨by rfl,?_⟩) ?_ ?_
  rotate_left
  ·intro w'
   go_simp
   with_reducible rfl
  rotate_left
  ·simp only [Act.put,List.setIfInBounds_toArray,List.set_cons_zero,List.set_cons_succ]
   rfl
  refine take_ (i:=12) (N:=some 37) (v:=?_) (a':=?_) #[true,true,true,true,true,true,true,true,true,true,true,true,true,false,false,false,false] rfl rfl (take_ofW HT_.out HW_.out (by kernel_rfl)) (fun _ _ _ h=>h) (Or.inl ⟨by rfl,?_⟩) hHeld ?_ ?_
  rotate_left
  ·rintro w' ⟨s0,s1,s2,s3⟩
   have c_c0:World.cell? w' ⟨g_c,0,none⟩=some (.int .i64 a0_0):=(Bk.cell s0 0).trans rfl
   have c_c1:World.cell? w' ⟨g_c,1,none⟩=some (.int .i64 a0_1):=(Bk.cell s0 1).trans rfl
   have c_c2:World.cell? w' ⟨g_c,2,none⟩=some (.int .i64 a0_2):=(Bk.cell s0 2).trans rfl
   have c_c3:World.cell? w' ⟨g_c,3,none⟩=some (.int .i64 a0_3):=(Bk.cell s0 3).trans rfl
   have c_c4:World.cell? w' ⟨g_c,4,none⟩=some (.int .i64 a0_4):=(Bk.cell s0 4).trans rfl
   go_simp
   with_reducible rfl
  rotate_left
  ·simp only [Act.put,List.setIfInBounds_toArray,List.set_cons_zero,List.set_cons_succ]
   rfl
  refine pure_ (i:=13) (N:=some 38) (v:=?_) (a':=?_) #[true,true,true,true,true,true,true,true,true,true,true,true,true,true,false,false,false] rfl rfl (any_of HT_.out (by kernel_rfl)) (fun _ _ _ h=>h) (Or.inl ⟨by rfl,?_⟩) ?_ ?_
  rotate_left
  ·intro w'
   go_simp
   with_reducible rfl
  rotate_left
  ·simp only [Act.put,List.setIfInBounds_toArray,List.set_cons_zero,List.set_cons_succ]
   rfl
  refine pure_ (i:=14) (N:=some 39) (v:=?_) (a':=?_) #[true,true,true,true,true,true,true,true,true,true,true,true,true,true,true,false,false] rfl rfl (any_of HT_.out (by kernel_rfl)) (fun _ _ _ h=>h) (Or.inl ⟨by rfl,?_⟩) ?_ ?_
  rotate_left
  ·intro w'
   go_simp
   with_reducible rfl
  rotate_left
  ·simp only [Act.put,List.setIfInBounds_toArray,List.set_cons_zero,List.set_cons_succ]
   rfl
  refine pure_ (i:=15) (N:=some 40) (v:=?_) (a':=?_) #[true,true,true,true,true,true,true,true,true,true,true,true,true,true,true,true,false] rfl rfl (any_of HT_.out (by kernel_rfl)) (fun _ _ _ h=>h) (Or.inl ⟨by rfl,?_⟩) ?_ ?_
  rotate_left
  ·intro w'
   go_simp
   with_reducible rfl
  rotate_left
  ·simp only [Act.put,List.setIfInBounds_toArray,List.set_cons_zero,List.set_cons_succ]
   rfl
  refine pure_ (i:=16) (N:=some 41) (v:=?_) (a':=?_) #[true,true,true,true,true,true,true,true,true,true,true,true,true,true,true,true,true] rfl rfl (any_of HT_.out (by kernel_rfl)) (fun _ _ _ h=>h) (Or.inl ⟨by rfl,?_⟩) ?_ ?_
  rotate_left
  ·intro w'
   go_simp
   with_reducible rfl
  rotate_left
  ·simp only [Act.put,List.setIfInBounds_toArray,List.set_cons_zero,List.set_cons_succ]
   rfl
  refine done_ (done_of HT_.out (by kernel_rfl)) ?_
  clear b_c b_v b_r hB
  obtain⟨b_c,b_v,b_r,hB⟩:=hHeld
  have c_c0:World.cell? wn ⟨g_c,0,none⟩=some (.int .i64 a0_0):=(Bk.cell b_c 0).trans rfl
  have f_c0:=Bk.frozen b_c 0
  have c_c1:World.cell? wn ⟨g_c,1,none⟩=some (.int .i64 a0_1):=(Bk.cell b_c 1).trans rfl
  have f_c1:=Bk.frozen b_c 1
  have c_c2:World.cell? wn ⟨g_c,2,none⟩=some (.int .i64 a0_2):=(Bk.cell b_c 2).trans rfl
  have f_c2:=Bk.frozen b_c 2
  have c_c3:World.cell? wn ⟨g_c,3,none⟩=some (.int .i64 a0_3):=(Bk.cell b_c 3).trans rfl
  have f_c3:=Bk.frozen b_c 3
  have c_c4:World.cell? wn ⟨g_c,4,none⟩=some (.int .i64 a0_4):=(Bk.cell b_c 4).trans rfl
  have f_c4:=Bk.frozen b_c 4
  have c_v0:World.cell? wn ⟨g_v,0,none⟩=some (.int .i64 a1_0):=(Bk.cell b_v 0).trans rfl
  have f_v0:=Bk.frozen b_v 0
  have c_v1:World.cell? wn ⟨g_v,1,none⟩=some (.int .i64 a1_1):=(Bk.cell b_v 1).trans rfl
  have f_v1:=Bk.frozen b_v 1
  have c_v2:World.cell? wn ⟨g_v,2,none⟩=some (.int .i64 a1_2):=(Bk.cell b_v 2).trans rfl
  have f_v2:=Bk.frozen b_v 2
  have c_r0:World.cell? wn ⟨g_r,0,none⟩=some (.int .i64 0):=(Bk.cell b_r 0).trans rfl
  have f_r0:=Bk.frozen b_r 0
  have c_r1:World.cell? wn ⟨g_r,1,none⟩=some (.int .i64 0):=(Bk.cell b_r 1).trans rfl
  have f_r1:=Bk.frozen b_r 1
  have c_r2:World.cell? wn ⟨g_r,2,none⟩=some (.int .i64 0):=(Bk.cell b_r 2).trans rfl
  have f_r2:=Bk.frozen b_r 2
  go_wp2
  clear x0 x1 x2
  rw [rounds_succ]
  go_wp2
  have x0:decide (0 > M)=false:=decide_eq_false (by have h_:=X1.out.1;omega)
  have x1:decide (0<wrap64 (-M))=false:=decide_eq_false (by have h_:=X1.out.2;omega)
  have x2:decide (0<IntKind.i64.wrap (-M))=false:=by rw [i64_w];exact x1
  refine start2_ (n:=17) (S:=fun w'=>Bk w' g_c #[.int .i64 a0_0,.int .i64 a0_1,.int .i64 a0_2,.int .i64 a0_3,.int .i64 a0_4] 24∧Bk w' g_v #[.int .i64 a1_0,.int .i64 a1_1,.int .i64 a1_2] 22∧Bk w' g_r #[.int .i64 0,.int .i64 0,.int .i64 0] 22∧Bel w w') (ds:=[]) #[false,false,false,false,false,false,false,false,false,false,false,false,false,false,false,false,false] (by kernel_rfl) rfl rfl outriggerlaw18_SenseBounds.tab6 outriggerlaw18_SenseBounds.bits6 ⟨Bk.drew b_c,Bk.drew b_v,Bk.drew b_r,Bel.drew hB⟩ (fun wn hHeld HT_ HW_=>?_)
  refine pure_ (i:=0) (N:=some 25) (v:=?_) (a':=?_) #[true,false,false,false,false,false,false,false,false,false,false,false,false,false,false,false,false] rfl rfl (any_of HT_.out (by kernel_rfl)) (fun _ _ _ h=>h) (Or.inl ⟨by rfl,?_⟩) ?_ ?_
  rotate_left
  ·intro w'
   go_simp
   with_reducible rfl
  rotate_left
  ·simp only [Act.put,List.setIfInBounds_toArray,List.set_cons_zero,List.set_cons_succ]
   rfl
  refine pure_ (i:=1) (N:=some 26) (v:=?_) (a':=?_) #[true,true,false,false,false,false,false,false,false,false,false,false,false,false,false,false,false] rfl rfl (any_of HT_.out (by kernel_rfl)) (fun _ _ _ h=>h) (Or.inl ⟨by rfl,?_⟩) ?_ ?_
  rotate_left
  ·intro w'
   go_simp
   with_reducible rfl
  rotate_left
  ·simp only [Act.put,List.setIfInBounds_toArray,List.set_cons_zero,List.set_cons_succ]
   rfl
  refine take_ (i:=2) (N:=some 27) (v:=?_) (a':=?_) #[true,true,true,false,false,false,false,false,false,false,false,false,false,false,false,false,false] rfl rfl (take_ofW HT_.out HW_.out (by kernel_rfl)) (fun _ _ _ h=>h) (Or.inl ⟨by rfl,?_⟩) hHeld ?_ ?_
  rotate_left
  ·rintro w' ⟨s0,s1,s2,s3⟩
   have c_r0:World.cell? w' ⟨g_r,0,none⟩=some (.int .i64 0):=(Bk.cell s2 0).trans rfl
   have c_r1:World.cell? w' ⟨g_r,1,none⟩=some (.int .i64 0):=(Bk.cell s2 1).trans rfl
   have c_r2:World.cell? w' ⟨g_r,2,none⟩=some (.int .i64 0):=(Bk.cell s2 2).trans rfl
   go_simp
   with_reducible rfl
  rotate_left
  ·simp only [Act.put,List.setIfInBounds_toArray,List.set_cons_zero,List.set_cons_succ]
   rfl
  refine pure_ (i:=3) (N:=some 28) (v:=?_) (a':=?_) #[true,true,true,true,false,false,false,false,false,false,false,false,false,false,false,false,false] rfl rfl (any_of HT_.out (by kernel_rfl)) (fun _ _ _ h=>h) (Or.inl ⟨by rfl,?_⟩) ?_ ?_
  rotate_left
  ·intro w'
   go_simp
   with_reducible rfl
  rotate_left
  ·simp only [Act.put,List.setIfInBounds_toArray,List.set_cons_zero,List.set_cons_succ]
   rfl
  refine take_ (i:=4) (N:=some 29) (v:=?_) (a':=?_) #[true,true,true,true,true,false,false,false,false,false,false,false,false,false,false,false,false] rfl rfl (take_ofW HT_.out HW_.out (by kernel_rfl)) (fun _ _ _ h=>h) (Or.inl ⟨by rfl,?_⟩) hHeld ?_ ?_
  rotate_left
  ·rintro w' ⟨s0,s1,s2,s3⟩
   have c_c0:World.cell? w' ⟨g_c,0,none⟩=some (.int .i64 a0_0):=(Bk.cell s0 0).trans rfl
   have c_c1:World.cell? w' ⟨g_c,1,none⟩=some (.int .i64 a0_1):=(Bk.cell s0 1).trans rfl
   have c_c2:World.cell? w' ⟨g_c,2,none⟩=some (.int .i64 a0_2):=(Bk.cell s0 2).trans rfl
   have c_c3:World.cell? w' ⟨g_c,3,none⟩=some (.int .i64 a0_3):=(Bk.cell s0 3).trans rfl
   have c_c4:World.cell? w' ⟨g_c,4,none⟩=some (.int .i64 a0_4):=(Bk.cell s0 4).trans rfl
   go_simp
   with_reducible rfl
  rotate_left
  ·simp only [Act.put,List.setIfInBounds_toArray,List.set_cons_zero,List.set_cons_succ]
   rfl
  refine pure_ (i:=5) (N:=some 30) (v:=?_) (a':=?_) #[true,true,true,true,true,true,false,false,false,false,false,false,false,false,false,false,false] rfl rfl (any_of HT_.out (by kernel_rfl)) (fun _ _ _ h=>h) (Or.inl ⟨by rfl,?_⟩) ?_ ?_
  rotate_left
  ·intro w'
   go_simp
   with_reducible rfl
  rotate_left
  ·simp only [Act.put,List.setIfInBounds_toArray,List.set_cons_zero,List.set_cons_succ]
   rfl
  refine pure_ (i:=6) (N:=some 31) (v:=?_) (a':=?_) #[true,true,true,true,true,true,true,false,false,false,false,false,false,false,false,false,false] rfl rfl (any_of HT_.out (by kernel_rfl)) (fun _ _ _ h=>h) (Or.inl ⟨by rfl,?_⟩) ?_ ?_
  rotate_left
  ·intro w'
   go_simp
   with_reducible rfl
  rotate_left
  ·simp only [Act.put,List.setIfInBounds_toArray,List.set_cons_zero,List.set_cons_succ]
   rfl
  refine pure_ (i:=7) (N:=some 32) (v:=?_) (a':=?_) #[true,true,true,true,true,true,true,true,false,false,false,false,false,false,false,false,false] rfl rfl (any_of HT_.out (by kernel_rfl)) (fun _ _ _ h=>h) (Or.inl ⟨by rfl,?_⟩) ?_ ?_
  rotate_left
  ·intro w'
   go_simp
   with_reducible rfl
  rotate_left
  ·simp only [Act.put,List.setIfInBounds_toArray,List.set_cons_zero,List.set_cons_succ]
   rfl
  refine pure_ (i:=8) (N:=some 33) (v:=?_) (a':=?_) #[true,true,true,true,true,true,true,true,true,false,false,false,false,false,false,false,false] rfl rfl (any_of HT_.out (by kernel_rfl)) (fun _ _ _ h=>h) (Or.inl ⟨by rfl,?_⟩) ?_ ?_
  rotate_left
  ·intro w'
   go_simp
   with_reducible rfl
  rotate_left
  ·simp only [Act.put,List.setIfInBounds_toArray,List.set_cons_zero,List.set_cons_succ]
   rfl
  refine pure_ (i:=9) (N:=some 34) (v:=?_) (a':=?_) #[true,true,true,true,true,true,true,true,true,true,false,false,false,false,false,false,false] rfl rfl (any_of HT_.out (by kernel_rfl)) (fun _ _ _ h=>h) (Or.inl ⟨by rfl,?_⟩) ?_ ?_
  rotate_left
  ·intro w'
   go_simp
   with_reducible rfl
  rotate_left
  ·simp only [Act.put,List.setIfInBounds_toArray,List.set_cons_zero,List.set_cons_succ]
   rfl
  refine take_ (i:=10) (N:=some 35) (v:=?_) (a':=?_) #[true,true,true,true,true,true,true,true,true,true,true,false,false,false,false,false,false] rfl rfl (take_ofW HT_.out HW_.out (by kernel_rfl)) (fun _ _ _ h=>h) (Or.inl ⟨by rfl,?_⟩) hHeld ?_ ?_
  rotate_left
  ·rintro w' ⟨s0,s1,s2,s3⟩
   have c_r0:World.cell? w' ⟨g_r,0,none⟩=some (.int .i64 0):=(Bk.cell s2 0).trans rfl
   have c_r1:World.cell? w' ⟨g_r,1,none⟩=some (.int .i64 0):=(Bk.cell s2 1).trans rfl
   have c_r2:World.cell? w' ⟨g_r,2,none⟩=some (.int .i64 0):=(Bk.cell s2 2).trans rfl
   go_simp
   with_reducible rfl
  rotate_left
  ·simp only [Act.put,List.setIfInBounds_toArray,List.set_cons_zero,List.set_cons_succ]
   rfl
  refine pure_ (i:=11) (N:=some 36) (v:=?_) (a':=?_) #[true,true,true,true,true,true,true,true,true,true,true,true,false,false,false,false,false] rfl rfl (any_of HT_.out (by kernel_rfl)) (fun _ _ _ h=>h) (Or.inl ⟨by rfl,?_⟩) ?_ ?_
  rotate_left
  ·intro w'
   go_simp
   with_reducible rfl
  rotate_left
  ·simp only [Act.put,List.setIfInBounds_toArray,List.set_cons_zero,List.set_cons_succ]
   rfl
  refine take_ (i:=12) (N:=some 37) (v:=?_) (a':=?_) #[true,true,true,true,true,true,true,true,true,true,true,true,true,false,false,false,false] rfl rfl (take_ofW HT_.out HW_.out (by kernel_rfl)) (fun _ _ _ h=>h) (Or.inl ⟨by rfl,?_⟩) hHeld ?_ ?_
  rotate_left
  ·rintro w' ⟨s0,s1,s2,s3⟩
   have c_c0:World.cell? w' ⟨g_c,0,none⟩=some (.int .i64 a0_0):=(Bk.cell s0 0).trans rfl
   have c_c1:World.cell? w' ⟨g_c,1,none⟩=some (.int .i64 a0_1):=(Bk.cell s0 1).trans rfl
   have c_c2:World.cell? w' ⟨g_c,2,none⟩=some (.int .i64 a0_2):=(Bk.cell s0 2).trans rfl
   have c_c3:World.cell? w' ⟨g_c,3,none⟩=some (.int .i64 a0_3):=(Bk.cell s0 3).trans rfl
   have c_c4:World.cell? w' ⟨g_c,4,none⟩=some (.int .i64 a0_4):=(Bk.cell s0 4).trans rfl
   go_simp
   with_reducible rfl
  rotate_left
  ·simp only [Act.put,List.setIfInBounds_toArray,List.set_cons_zero,List.set_cons_succ]
   rfl
  refine pure_ (i:=13) (N:=some 38) (v:=?_) (a':=?_) #[true,true,true,true,true,true,true,true,true,true,true,true,true,true,false,false,false] rfl rfl (any_of HT_.out (by kernel_rfl)) (fun _ _ _ h=>h) (Or.inl ⟨by rfl,?_⟩) ?_ ?_
  rotate_left
  ·intro w'
   go_simp
   with_reducible rfl
  rotate_left
  ·simp only [Act.put,List.setIfInBounds_toArray,List.set_cons_zero,List.set_cons_succ]
   rfl
  refine pure_ (i:=14) (N:=some 39) (v:=?_) (a':=?_) #[true,true,true,true,true,true,true,true,true,true,true,true,true,true,true,false,false] rfl rfl (any_of HT_.out (by kernel_rfl)) (fun _ _ _ h=>h) (Or.inl ⟨by rfl,?_⟩) ?_ ?_
  rotate_left
  ·intro w'
   go_simp
   with_reducible rfl
  rotate_left
  ·simp only [Act.put,List.setIfInBounds_toArray,List.set_cons_zero,List.set_cons_succ]
   rfl
  refine pure_ (i:=15) (N:=some 40) (v:=?_) (a':=?_) #[true,true,true,true,true,true,true,true,true,true,true,true,true,true,true,true,false] rfl rfl (any_of HT_.out (by kernel_rfl)) (fun _ _ _ h=>h) (Or.inl ⟨by rfl,?_⟩) ?_ ?_
  rotate_left
  ·intro w'
   go_simp
   with_reducible rfl
  rotate_left
  ·simp only [Act.put,List.setIfInBounds_toArray,List.set_cons_zero,List.set_cons_succ]
   rfl
  refine pure_ (i:=16) (N:=some 41) (v:=?_) (a':=?_) #[true,true,true,true,true,true,true,true,true,true,true,true,true,true,true,true,true] rfl rfl (any_of HT_.out (by kernel_rfl)) (fun _ _ _ h=>h) (Or.inl ⟨by rfl,?_⟩) ?_ ?_
  rotate_left
  ·intro w'
   go_simp
   with_reducible rfl
  rotate_left
  ·simp only [Act.put,List.setIfInBounds_toArray,List.set_cons_zero,List.set_cons_succ]
   rfl
  refine done_ (done_of HT_.out (by kernel_rfl)) ?_
  clear b_c b_v b_r hB
  obtain⟨b_c,b_v,b_r,hB⟩:=hHeld
  have c_c0:World.cell? wn ⟨g_c,0,none⟩=some (.int .i64 a0_0):=(Bk.cell b_c 0).trans rfl
  have f_c0:=Bk.frozen b_c 0
  have c_c1:World.cell? wn ⟨g_c,1,none⟩=some (.int .i64 a0_1):=(Bk.cell b_c 1).trans rfl
  have f_c1:=Bk.frozen b_c 1
  have c_c2:World.cell? wn ⟨g_c,2,none⟩=some (.int .i64 a0_2):=(Bk.cell b_c 2).trans rfl
  have f_c2:=Bk.frozen b_c 2
  have c_c3:World.cell? wn ⟨g_c,3,none⟩=some (.int .i64 a0_3):=(Bk.cell b_c 3).trans rfl
  have f_c3:=Bk.frozen b_c 3
  have c_c4:World.cell? wn ⟨g_c,4,none⟩=some (.int .i64 a0_4):=(Bk.cell b_c 4).trans rfl
  have f_c4:=Bk.frozen b_c 4
  have c_v0:World.cell? wn ⟨g_v,0,none⟩=some (.int .i64 a1_0):=(Bk.cell b_v 0).trans rfl
  have f_v0:=Bk.frozen b_v 0
  have c_v1:World.cell? wn ⟨g_v,1,none⟩=some (.int .i64 a1_1):=(Bk.cell b_v 1).trans rfl
  have f_v1:=Bk.frozen b_v 1
  have c_v2:World.cell? wn ⟨g_v,2,none⟩=some (.int .i64 a1_2):=(Bk.cell b_v 2).trans rfl
  have f_v2:=Bk.frozen b_v 2
  have c_r0:World.cell? wn ⟨g_r,0,none⟩=some (.int .i64 0):=(Bk.cell b_r 0).trans rfl
  have f_r0:=Bk.frozen b_r 0
  have c_r1:World.cell? wn ⟨g_r,1,none⟩=some (.int .i64 0):=(Bk.cell b_r 1).trans rfl
  have f_r1:=Bk.frozen b_r 1
  have c_r2:World.cell? wn ⟨g_r,2,none⟩=some (.int .i64 0):=(Bk.cell b_r 2).trans rfl
  have f_r2:=Bk.frozen b_r 2
  go_wp2
  clear x0 x1 x2
  rw [rounds_succ]
  go_wp2
  have x0:decide (0 > M)=false:=decide_eq_false (by have h_:=X2.out.1;omega)
  have x1:decide (0<wrap64 (-M))=false:=decide_eq_false (by have h_:=X2.out.2;omega)
  have x2:decide (0<IntKind.i64.wrap (-M))=false:=by rw [i64_w];exact x1
  refine start2_ (n:=17) (S:=fun w'=>Bk w' g_c #[.int .i64 a0_0,.int .i64 a0_1,.int .i64 a0_2,.int .i64 a0_3,.int .i64 a0_4] 24∧Bk w' g_v #[.int .i64 a1_0,.int .i64 a1_1,.int .i64 a1_2] 22∧Bk w' g_r #[.int .i64 0,.int .i64 0,.int .i64 0] 22∧Bel w w') (ds:=[]) #[false,false,false,false,false,false,false,false,false,false,false,false,false,false,false,false,false] (by kernel_rfl) rfl rfl outriggerlaw18_SenseBounds.tab6 outriggerlaw18_SenseBounds.bits6 ⟨Bk.drew b_c,Bk.drew b_v,Bk.drew b_r,Bel.drew hB⟩ (fun wn hHeld HT_ HW_=>?_)
  refine pure_ (i:=0) (N:=some 25) (v:=?_) (a':=?_) #[true,false,false,false,false,false,false,false,false,false,false,false,false,false,false,false,false] rfl rfl (any_of HT_.out (by kernel_rfl)) (fun _ _ _ h=>h) (Or.inl ⟨by rfl,?_⟩) ?_ ?_
  rotate_left
  ·intro w'
   go_simp
   with_reducible rfl
  rotate_left
  ·simp only [Act.put,List.setIfInBounds_toArray,List.set_cons_zero,List.set_cons_succ]
   rfl
  refine pure_ (i:=1) (N:=some 26) (v:=?_) (a':=?_) #[true,true,false,false,false,false,false,false,false,false,false,false,false,false,false,false,false] rfl rfl (any_of HT_.out (by kernel_rfl)) (fun _ _ _ h=>h) (Or.inl ⟨by rfl,?_⟩) ?_ ?_
  rotate_left
  ·intro w'
   go_simp
   with_reducible rfl
  rotate_left
  ·simp only [Act.put,List.setIfInBounds_toArray,List.set_cons_zero,List.set_cons_succ]
   rfl
  refine take_ (i:=2) (N:=some 27) (v:=?_) (a':=?_) #[true,true,true,false,false,false,false,false,false,false,false,false,false,false,false,false,false] rfl rfl (take_ofW HT_.out HW_.out (by kernel_rfl)) (fun _ _ _ h=>h) (Or.inl ⟨by rfl,?_⟩) hHeld ?_ ?_
  rotate_left
  ·rintro w' ⟨s0,s1,s2,s3⟩
   have c_r0:World.cell? w' ⟨g_r,0,none⟩=some (.int .i64 0):=(Bk.cell s2 0).trans rfl
   have c_r1:World.cell? w' ⟨g_r,1,none⟩=some (.int .i64 0):=(Bk.cell s2 1).trans rfl
   have c_r2:World.cell? w' ⟨g_r,2,none⟩=some (.int .i64 0):=(Bk.cell s2 2).trans rfl
   go_simp
   with_reducible rfl
  rotate_left
  ·simp only [Act.put,List.setIfInBounds_toArray,List.set_cons_zero,List.set_cons_succ]
   rfl
  refine pure_ (i:=3) (N:=some 28) (v:=?_) (a':=?_) #[true,true,true,true,false,false,false,false,false,false,false,false,false,false,false,false,false] rfl rfl (any_of HT_.out (by kernel_rfl)) (fun _ _ _ h=>h) (Or.inl ⟨by rfl,?_⟩) ?_ ?_
  rotate_left
  ·intro w'
   go_simp
   with_reducible rfl
  rotate_left
  ·simp only [Act.put,List.setIfInBounds_toArray,List.set_cons_zero,List.set_cons_succ]
   rfl
  refine take_ (i:=4) (N:=some 29) (v:=?_) (a':=?_) #[true,true,true,true,true,false,false,false,false,false,false,false,false,false,false,false,false] rfl rfl (take_ofW HT_.out HW_.out (by kernel_rfl)) (fun _ _ _ h=>h) (Or.inl ⟨by rfl,?_⟩) hHeld ?_ ?_
  rotate_left
  ·rintro w' ⟨s0,s1,s2,s3⟩
   have c_c0:World.cell? w' ⟨g_c,0,none⟩=some (.int .i64 a0_0):=(Bk.cell s0 0).trans rfl
   have c_c1:World.cell? w' ⟨g_c,1,none⟩=some (.int .i64 a0_1):=(Bk.cell s0 1).trans rfl
   have c_c2:World.cell? w' ⟨g_c,2,none⟩=some (.int .i64 a0_2):=(Bk.cell s0 2).trans rfl
   have c_c3:World.cell? w' ⟨g_c,3,none⟩=some (.int .i64 a0_3):=(Bk.cell s0 3).trans rfl
   have c_c4:World.cell? w' ⟨g_c,4,none⟩=some (.int .i64 a0_4):=(Bk.cell s0 4).trans rfl
   go_simp
   with_reducible rfl
  rotate_left
  ·simp only [Act.put,List.setIfInBounds_toArray,List.set_cons_zero,List.set_cons_succ]
   rfl
  refine pure_ (i:=5) (N:=some 30) (v:=?_) (a':=?_) #[true,true,true,true,true,true,false,false,false,false,false,false,false,false,false,false,false] rfl rfl (any_of HT_.out (by kernel_rfl)) (fun _ _ _ h=>h) (Or.inl ⟨by rfl,?_⟩) ?_ ?_
  rotate_left
  ·intro w'
   go_simp
   with_reducible rfl
  rotate_left
  ·simp only [Act.put,List.setIfInBounds_toArray,List.set_cons_zero,List.set_cons_succ]
   rfl
  refine pure_ (i:=6) (N:=some 31) (v:=?_) (a':=?_) #[true,true,true,true,true,true,true,false,false,false,false,false,false,false,false,false,false] rfl rfl (any_of HT_.out (by kernel_rfl)) (fun _ _ _ h=>h) (Or.inl ⟨by rfl,?_⟩) ?_ ?_
  rotate_left
  ·intro w'
   go_simp
   with_reducible rfl
  rotate_left
  ·simp only [Act.put,List.setIfInBounds_toArray,List.set_cons_zero,List.set_cons_succ]
   rfl
  refine pure_ (i:=7) (N:=some 32) (v:=?_) (a':=?_) #[true,true,true,true,true,true,true,true,false,false,false,false,false,false,false,false,false] rfl rfl (any_of HT_.out (by kernel_rfl)) (fun _ _ _ h=>h) (Or.inl ⟨by rfl,?_⟩) ?_ ?_
  rotate_left
  ·intro w'
   go_simp
   with_reducible rfl
  rotate_left
  ·simp only [Act.put,List.setIfInBounds_toArray,List.set_cons_zero,List.set_cons_succ]
   rfl
  refine pure_ (i:=8) (N:=some 33) (v:=?_) (a':=?_) #[true,true,true,true,true,true,true,true,true,false,false,false,false,false,false,false,false] rfl rfl (any_of HT_.out (by kernel_rfl)) (fun _ _ _ h=>h) (Or.inl ⟨by rfl,?_⟩) ?_ ?_
  rotate_left
  ·intro w'
   go_simp
   with_reducible rfl
  rotate_left
  ·simp only [Act.put,List.setIfInBounds_toArray,List.set_cons_zero,List.set_cons_succ]
   rfl
  refine pure_ (i:=9) (N:=some 34) (v:=?_) (a':=?_) #[true,true,true,true,true,true,true,true,true,true,false,false,false,false,false,false,false] rfl rfl (any_of HT_.out (by kernel_rfl)) (fun _ _ _ h=>h) (Or.inl ⟨by rfl,?_⟩) ?_ ?_
  rotate_left
  ·intro w'
   go_simp
   with_reducible rfl
  rotate_left
  ·simp only [Act.put,List.setIfInBounds_toArray,List.set_cons_zero,List.set_cons_succ]
   rfl
  refine take_ (i:=10) (N:=some 35) (v:=?_) (a':=?_) #[true,true,true,true,true,true,true,true,true,true,true,false,false,false,false,false,false] rfl rfl (take_ofW HT_.out HW_.out (by kernel_rfl)) (fun _ _ _ h=>h) (Or.inl ⟨by rfl,?_⟩) hHeld ?_ ?_
  rotate_left
  ·rintro w' ⟨s0,s1,s2,s3⟩
   have c_r0:World.cell? w' ⟨g_r,0,none⟩=some (.int .i64 0):=(Bk.cell s2 0).trans rfl
   have c_r1:World.cell? w' ⟨g_r,1,none⟩=some (.int .i64 0):=(Bk.cell s2 1).trans rfl
   have c_r2:World.cell? w' ⟨g_r,2,none⟩=some (.int .i64 0):=(Bk.cell s2 2).trans rfl
   go_simp
   with_reducible rfl
  rotate_left
  ·simp only [Act.put,List.setIfInBounds_toArray,List.set_cons_zero,List.set_cons_succ]
   rfl
  refine pure_ (i:=11) (N:=some 36) (v:=?_) (a':=?_) #[true,true,true,true,true,true,true,true,true,true,true,true,false,false,false,false,false] rfl rfl (any_of HT_.out (by kernel_rfl)) (fun _ _ _ h=>h) (Or.inl ⟨by rfl,?_⟩) ?_ ?_
  rotate_left
  ·intro w'
   go_simp
   with_reducible rfl
  rotate_left
  ·simp only [Act.put,List.setIfInBounds_toArray,List.set_cons_zero,List.set_cons_succ]
   rfl
  refine take_ (i:=12) (N:=some 37) (v:=?_) (a':=?_) #[true,true,true,true,true,true,true,true,true,true,true,true,true,false,false,false,false] rfl rfl (take_ofW HT_.out HW_.out (by kernel_rfl)) (fun _ _ _ h=>h) (Or.inl ⟨by rfl,?_⟩) hHeld ?_ ?_
  rotate_left
  ·rintro w' ⟨s0,s1,s2,s3⟩
   have c_c0:World.cell? w' ⟨g_c,0,none⟩=some (.int .i64 a0_0):=(Bk.cell s0 0).trans rfl
   have c_c1:World.cell? w' ⟨g_c,1,none⟩=some (.int .i64 a0_1):=(Bk.cell s0 1).trans rfl
   have c_c2:World.cell? w' ⟨g_c,2,none⟩=some (.int .i64 a0_2):=(Bk.cell s0 2).trans rfl
   have c_c3:World.cell? w' ⟨g_c,3,none⟩=some (.int .i64 a0_3):=(Bk.cell s0 3).trans rfl
   have c_c4:World.cell? w' ⟨g_c,4,none⟩=some (.int .i64 a0_4):=(Bk.cell s0 4).trans rfl
   go_simp
   with_reducible rfl
  rotate_left
  ·simp only [Act.put,List.setIfInBounds_toArray,List.set_cons_zero,List.set_cons_succ]
   rfl
  refine pure_ (i:=13) (N:=some 38) (v:=?_) (a':=?_) #[true,true,true,true,true,true,true,true,true,true,true,true,true,true,false,false,false] rfl rfl (any_of HT_.out (by kernel_rfl)) (fun _ _ _ h=>h) (Or.inl ⟨by rfl,?_⟩) ?_ ?_
  rotate_left
  ·intro w'
   go_simp
   with_reducible rfl
  rotate_left
  ·simp only [Act.put,List.setIfInBounds_toArray,List.set_cons_zero,List.set_cons_succ]
   rfl
  refine pure_ (i:=14) (N:=some 39) (v:=?_) (a':=?_) #[true,true,true,true,true,true,true,true,true,true,true,true,true,true,true,false,false] rfl rfl (any_of HT_.out (by kernel_rfl)) (fun _ _ _ h=>h) (Or.inl ⟨by rfl,?_⟩) ?_ ?_
  rotate_left
  ·intro w'
   go_simp
   with_reducible rfl
  rotate_left
  ·simp only [Act.put,List.setIfInBounds_toArray,List.set_cons_zero,List.set_cons_succ]
   rfl
  refine pure_ (i:=15) (N:=some 40) (v:=?_) (a':=?_) #[true,true,true,true,true,true,true,true,true,true,true,true,true,true,true,true,false] rfl rfl (any_of HT_.out (by kernel_rfl)) (fun _ _ _ h=>h) (Or.inl ⟨by rfl,?_⟩) ?_ ?_
  rotate_left
  ·intro w'
   go_simp
   with_reducible rfl
  rotate_left
  ·simp only [Act.put,List.setIfInBounds_toArray,List.set_cons_zero,List.set_cons_succ]
   rfl
  refine pure_ (i:=16) (N:=some 41) (v:=?_) (a':=?_) #[true,true,true,true,true,true,true,true,true,true,true,true,true,true,true,true,true] rfl rfl (any_of HT_.out (by kernel_rfl)) (fun _ _ _ h=>h) (Or.inl ⟨by rfl,?_⟩) ?_ ?_
  rotate_left
  ·intro w'
   go_simp
   with_reducible rfl
  rotate_left
  ·simp only [Act.put,List.setIfInBounds_toArray,List.set_cons_zero,List.set_cons_succ]
   rfl
  refine done_ (done_of HT_.out (by kernel_rfl)) ?_
  clear b_c b_v b_r hB
  obtain⟨b_c,b_v,b_r,hB⟩:=hHeld
  have c_c0:World.cell? wn ⟨g_c,0,none⟩=some (.int .i64 a0_0):=(Bk.cell b_c 0).trans rfl
  have f_c0:=Bk.frozen b_c 0
  have c_c1:World.cell? wn ⟨g_c,1,none⟩=some (.int .i64 a0_1):=(Bk.cell b_c 1).trans rfl
  have f_c1:=Bk.frozen b_c 1
  have c_c2:World.cell? wn ⟨g_c,2,none⟩=some (.int .i64 a0_2):=(Bk.cell b_c 2).trans rfl
  have f_c2:=Bk.frozen b_c 2
  have c_c3:World.cell? wn ⟨g_c,3,none⟩=some (.int .i64 a0_3):=(Bk.cell b_c 3).trans rfl
  have f_c3:=Bk.frozen b_c 3
  have c_c4:World.cell? wn ⟨g_c,4,none⟩=some (.int .i64 a0_4):=(Bk.cell b_c 4).trans rfl
  have f_c4:=Bk.frozen b_c 4
  have c_v0:World.cell? wn ⟨g_v,0,none⟩=some (.int .i64 a1_0):=(Bk.cell b_v 0).trans rfl
  have f_v0:=Bk.frozen b_v 0
  have c_v1:World.cell? wn ⟨g_v,1,none⟩=some (.int .i64 a1_1):=(Bk.cell b_v 1).trans rfl
  have f_v1:=Bk.frozen b_v 1
  have c_v2:World.cell? wn ⟨g_v,2,none⟩=some (.int .i64 a1_2):=(Bk.cell b_v 2).trans rfl
  have f_v2:=Bk.frozen b_v 2
  have c_r0:World.cell? wn ⟨g_r,0,none⟩=some (.int .i64 0):=(Bk.cell b_r 0).trans rfl
  have f_r0:=Bk.frozen b_r 0
  have c_r1:World.cell? wn ⟨g_r,1,none⟩=some (.int .i64 0):=(Bk.cell b_r 1).trans rfl
  have f_r1:=Bk.frozen b_r 1
  have c_r2:World.cell? wn ⟨g_r,2,none⟩=some (.int .i64 0):=(Bk.cell b_r 2).trans rfl
  have f_r2:=Bk.frozen b_r 2
  go_wp2
  clear x0 x1 x2
  rw [rounds_succ]
  go_upto_region 10 with (((with_reducible refine gate_dst (N:=9) rfl ?_);refine box_event ?hg (N:=9) ?hd (cs:=#[.int .i64 0,.int .i64 0,.int .i64 0,.int .i64 0,.int .i64 0]) (t:=24) ?hr ?_;(case hd=>rfl);(case hg=>rfl);(case hr=>first|(go_simp;done)|(go_simp;rfl));intro g_d hg w1 b_d hb;have b_d:Bk w1 g_d #[.int .i64 0,.int .i64 0,.int .i64 0,.int .i64 0,.int .i64 0] 24:=b_d;have l_d:w.heap.size≤g_d:=(by rw [hg];exact Bel.size hB);have ne_c_d:g_c≠g_d:=(by rw [hg];exact Nat.ne_of_lt (Bk.lt b_c));have ne_d_c:g_d≠g_c:=Ne.symm ne_c_d;have ne_v_d:g_v≠g_d:=(by rw [hg];exact Nat.ne_of_lt (Bk.lt b_v));have ne_d_v:g_d≠g_v:=Ne.symm ne_v_d;have ne_r_d:g_r≠g_d:=(by rw [hg];exact Nat.ne_of_lt (Bk.lt b_r));have ne_d_r:g_d≠g_r:=Ne.symm ne_r_d;have m_c:Bk w1 g_c #[.int .i64 a0_0,.int .i64 a0_1,.int .i64 a0_2,.int .i64 a0_3,.int .i64 a0_4] 24:=Bk.below b_c hb;have m_v:Bk w1 g_v #[.int .i64 a1_0,.int .i64 a1_1,.int .i64 a1_2] 22:=Bk.below b_v hb;have m_r:Bk w1 g_r #[.int .i64 0,.int .i64 0,.int .i64 0] 22:=Bk.below b_r hb;have mB:=Bel.step hB hb;clear b_c;clear b_v;clear b_r;have b_c:=m_c;clear m_c;have b_v:=m_v;clear m_v;have b_r:=m_r;clear m_r;clear hB;have hB:=mB;clear mB;(try clear hb);clear hg;have c_c0:World.cell? w1 ⟨g_c,0,none⟩=some (.int .i64 a0_0):=(Bk.cell b_c 0).trans rfl;have f_c0:=Bk.frozen b_c 0;have c_c1:World.cell? w1 ⟨g_c,1,none⟩=some (.int .i64 a0_1):=(Bk.cell b_c 1).trans rfl;have f_c1:=Bk.frozen b_c 1;have c_c2:World.cell? w1 ⟨g_c,2,none⟩=some (.int .i64 a0_2):=(Bk.cell b_c 2).trans rfl;have f_c2:=Bk.frozen b_c 2;have c_c3:World.cell? w1 ⟨g_c,3,none⟩=some (.int .i64 a0_3):=(Bk.cell b_c 3).trans rfl;have f_c3:=Bk.frozen b_c 3;have c_c4:World.cell? w1 ⟨g_c,4,none⟩=some (.int .i64 a0_4):=(Bk.cell b_c 4).trans rfl;have f_c4:=Bk.frozen b_c 4;have c_v0:World.cell? w1 ⟨g_v,0,none⟩=some (.int .i64 a1_0):=(Bk.cell b_v 0).trans rfl;have f_v0:=Bk.frozen b_v 0;have c_v1:World.cell? w1 ⟨g_v,1,none⟩=some (.int .i64 a1_1):=(Bk.cell b_v 1).trans rfl;have f_v1:=Bk.frozen b_v 1;have c_v2:World.cell? w1 ⟨g_v,2,none⟩=some (.int .i64 a1_2):=(Bk.cell b_v 2).trans rfl;have f_v2:=Bk.frozen b_v 2;have c_r0:World.cell? w1 ⟨g_r,0,none⟩=some (.int .i64 0):=(Bk.cell b_r 0).trans rfl;have f_r0:=Bk.frozen b_r 0;have c_r1:World.cell? w1 ⟨g_r,1,none⟩=some (.int .i64 0):=(Bk.cell b_r 1).trans rfl;have f_r1:=Bk.frozen b_r 1;have c_r2:World.cell? w1 ⟨g_r,2,none⟩=some (.int .i64 0):=(Bk.cell b_r 2).trans rfl;have f_r2:=Bk.frozen b_r 2;have c_d0:World.cell? w1 ⟨g_d,0,none⟩=some (.int .i64 0):=(Bk.cell b_d 0).trans rfl;have f_d0:=Bk.frozen b_d 0;have c_d1:World.cell? w1 ⟨g_d,1,none⟩=some (.int .i64 0):=(Bk.cell b_d 1).trans rfl;have f_d1:=Bk.frozen b_d 1;have c_d2:World.cell? w1 ⟨g_d,2,none⟩=some (.int .i64 0):=(Bk.cell b_d 2).trans rfl;have f_d2:=Bk.frozen b_d 2;have c_d3:World.cell? w1 ⟨g_d,3,none⟩=some (.int .i64 0):=(Bk.cell b_d 3).trans rfl;have f_d3:=Bk.frozen b_d 3;have c_d4:World.cell? w1 ⟨g_d,4,none⟩=some (.int .i64 0):=(Bk.cell b_d 4).trans rfl;have f_d4:=Bk.frozen b_d 4))
  refine gen_c (fun w'=>Bk w' g_c #[.int .i64 a0_0,.int .i64 a0_1,.int .i64 a0_2,.int .i64 a0_3,.int .i64 a0_4] 24∧Bk w' g_v #[.int .i64 a1_0,.int .i64 a1_1,.int .i64 a1_2] 22∧Bk w' g_r #[.int .i64 0,.int .i64 0,.int .i64 0] 22∧Bk w' g_d #[.int .i64 a0_0,.int .i64 a0_1,.int .i64 a0_2,.int .i64 a0_3,.int .i64 288230376151711744] 24∧Bel w w') ⟨(Bk.far (Bk.far (Bk.far (Bk.far (Bk.far (Bk.far b_c ne_c_d 0 (.int .i64 a0_0)) ne_c_d 1 (.int .i64 a0_1)) ne_c_d 2 (.int .i64 a0_2)) ne_c_d 3 (.int .i64 a0_3)) ne_c_d 4 (.int .i64 a0_4)) ne_c_d 4 (.int .i64 288230376151711744)),(Bk.far (Bk.far (Bk.far (Bk.far (Bk.far (Bk.far b_v ne_v_d 0 (.int .i64 a0_0)) ne_v_d 1 (.int .i64 a0_1)) ne_v_d 2 (.int .i64 a0_2)) ne_v_d 3 (.int .i64 a0_3)) ne_v_d 4 (.int .i64 a0_4)) ne_v_d 4 (.int .i64 288230376151711744)),(Bk.far (Bk.far (Bk.far (Bk.far (Bk.far (Bk.far b_r ne_r_d 0 (.int .i64 a0_0)) ne_r_d 1 (.int .i64 a0_1)) ne_r_d 2 (.int .i64 a0_2)) ne_r_d 3 (.int .i64 a0_3)) ne_r_d 4 (.int .i64 a0_4)) ne_r_d 4 (.int .i64 288230376151711744)),(Bk.put (Bk.put (Bk.put (Bk.put (Bk.put (Bk.put b_d 0 (.int .i64 a0_0) rfl) 1 (.int .i64 a0_1) rfl) 2 (.int .i64 a0_2) rfl) 3 (.int .i64 a0_3) rfl) 4 (.int .i64 a0_4) rfl) 4 (.int .i64 288230376151711744) rfl),(Bel.set (Bel.set (Bel.set (Bel.set (Bel.set (Bel.set hB l_d 0 (.int .i64 a0_0)) l_d 1 (.int .i64 a0_1)) l_d 2 (.int .i64 a0_2)) l_d 3 (.int .i64 a0_3)) l_d 4 (.int .i64 a0_4)) l_d 4 (.int .i64 288230376151711744))⟩ ?_
  clear b_c b_v b_r b_d hB
  rintro wn ⟨b_c,b_v,b_r,b_d,hB⟩
  have c_c0:World.cell? wn ⟨g_c,0,none⟩=some (.int .i64 a0_0):=(Bk.cell b_c 0).trans rfl
  have f_c0:=Bk.frozen b_c 0
  have c_c1:World.cell? wn ⟨g_c,1,none⟩=some (.int .i64 a0_1):=(Bk.cell b_c 1).trans rfl
  have f_c1:=Bk.frozen b_c 1
  have c_c2:World.cell? wn ⟨g_c,2,none⟩=some (.int .i64 a0_2):=(Bk.cell b_c 2).trans rfl
  have f_c2:=Bk.frozen b_c 2
  have c_c3:World.cell? wn ⟨g_c,3,none⟩=some (.int .i64 a0_3):=(Bk.cell b_c 3).trans rfl
  have f_c3:=Bk.frozen b_c 3
  have c_c4:World.cell? wn ⟨g_c,4,none⟩=some (.int .i64 a0_4):=(Bk.cell b_c 4).trans rfl
  have f_c4:=Bk.frozen b_c 4
  have c_v0:World.cell? wn ⟨g_v,0,none⟩=some (.int .i64 a1_0):=(Bk.cell b_v 0).trans rfl
  have f_v0:=Bk.frozen b_v 0
  have c_v1:World.cell? wn ⟨g_v,1,none⟩=some (.int .i64 a1_1):=(Bk.cell b_v 1).trans rfl
  have f_v1:=Bk.frozen b_v 1
  have c_v2:World.cell? wn ⟨g_v,2,none⟩=some (.int .i64 a1_2):=(Bk.cell b_v 2).trans rfl
  have f_v2:=Bk.frozen b_v 2
  have c_r0:World.cell? wn ⟨g_r,0,none⟩=some (.int .i64 0):=(Bk.cell b_r 0).trans rfl
  have f_r0:=Bk.frozen b_r 0
  have c_r1:World.cell? wn ⟨g_r,1,none⟩=some (.int .i64 0):=(Bk.cell b_r 1).trans rfl
  have f_r1:=Bk.frozen b_r 1
  have c_r2:World.cell? wn ⟨g_r,2,none⟩=some (.int .i64 0):=(Bk.cell b_r 2).trans rfl
  have f_r2:=Bk.frozen b_r 2
  have c_d0:World.cell? wn ⟨g_d,0,none⟩=some (.int .i64 a0_0):=(Bk.cell b_d 0).trans rfl
  have f_d0:=Bk.frozen b_d 0
  have c_d1:World.cell? wn ⟨g_d,1,none⟩=some (.int .i64 a0_1):=(Bk.cell b_d 1).trans rfl
  have f_d1:=Bk.frozen b_d 1
  have c_d2:World.cell? wn ⟨g_d,2,none⟩=some (.int .i64 a0_2):=(Bk.cell b_d 2).trans rfl
  have f_d2:=Bk.frozen b_d 2
  have c_d3:World.cell? wn ⟨g_d,3,none⟩=some (.int .i64 a0_3):=(Bk.cell b_d 3).trans rfl
  have f_d3:=Bk.frozen b_d 3
  have c_d4:World.cell? wn ⟨g_d,4,none⟩=some (.int .i64 288230376151711744):=(Bk.cell b_d 4).trans rfl
  have f_d4:=Bk.frozen b_d 4
  go_wp2_with (first|((with_reducible refine gate_dst (N:=47) rfl ?_);(with_reducible refine gate_callee (f:=9) rfl ?_);refine goesL_ (some 47) rfl rfl Try.func9 (by kernel_rfl) rfl #[.agg #[.int .i64 a0_0,.int .i64 a0_1,.int .i64 a0_2,.int .i64 a0_3,.int .i64 288230376151711744],.agg #[.int .i64 a1_0,.int .i64 a1_1,.int .i64 a1_2]] rfl (by (try simp only [List.map_toArray,List.map_cons,List.map_nil]);first|done|rfl) ?_;refine(sense_Read.calls k a0_0 a0_1 a0_2 a0_3 288230376151711744 a1_0 a1_1 a1_2 _ _ _ _ _ A2.out).mono ?_;rintro e w1 ⟨rfl,hb⟩;refine⟨_,rfl,?_⟩;have m_c:Bk w1 g_c #[.int .i64 a0_0,.int .i64 a0_1,.int .i64 a0_2,.int .i64 a0_3,.int .i64 a0_4] 24:=Bk.below b_c hb;have m_v:Bk w1 g_v #[.int .i64 a1_0,.int .i64 a1_1,.int .i64 a1_2] 22:=Bk.below b_v hb;have m_r:Bk w1 g_r #[.int .i64 0,.int .i64 0,.int .i64 0] 22:=Bk.below b_r hb;have m_d:Bk w1 g_d #[.int .i64 a0_0,.int .i64 a0_1,.int .i64 a0_2,.int .i64 a0_3,.int .i64 288230376151711744] 24:=Bk.below b_d hb;have mB:=Bel.step hB hb;clear b_c;clear b_v;clear b_r;clear b_d;have b_c:=m_c;clear m_c;have b_v:=m_v;clear m_v;have b_r:=m_r;clear m_r;have b_d:=m_d;clear m_d;clear hB;have hB:=mB;clear mB;(try clear hb);have c_c0:World.cell? w1 ⟨g_c,0,none⟩=some (.int .i64 a0_0):=(Bk.cell b_c 0).trans rfl;have f_c0:=Bk.frozen b_c 0;have c_c1:World.cell? w1 ⟨g_c,1,none⟩=some (.int .i64 a0_1):=(Bk.cell b_c 1).trans rfl;have f_c1:=Bk.frozen b_c 1;have c_c2:World.cell? w1 ⟨g_c,2,none⟩=some (.int .i64 a0_2):=(Bk.cell b_c 2).trans rfl;have f_c2:=Bk.frozen b_c 2;have c_c3:World.cell? w1 ⟨g_c,3,none⟩=some (.int .i64 a0_3):=(Bk.cell b_c 3).trans rfl;have f_c3:=Bk.frozen b_c 3;have c_c4:World.cell? w1 ⟨g_c,4,none⟩=some (.int .i64 a0_4):=(Bk.cell b_c 4).trans rfl;have f_c4:=Bk.frozen b_c 4;have c_v0:World.cell? w1 ⟨g_v,0,none⟩=some (.int .i64 a1_0):=(Bk.cell b_v 0).trans rfl;have f_v0:=Bk.frozen b_v 0;have c_v1:World.cell? w1 ⟨g_v,1,none⟩=some (.int .i64 a1_1):=(Bk.cell b_v 1).trans rfl;have f_v1:=Bk.frozen b_v 1;have c_v2:World.cell? w1 ⟨g_v,2,none⟩=some (.int .i64 a1_2):=(Bk.cell b_v 2).trans rfl;have f_v2:=Bk.frozen b_v 2;have c_r0:World.cell? w1 ⟨g_r,0,none⟩=some (.int .i64 0):=(Bk.cell b_r 0).trans rfl;have f_r0:=Bk.frozen b_r 0;have c_r1:World.cell? w1 ⟨g_r,1,none⟩=some (.int .i64 0):=(Bk.cell b_r 1).trans rfl;have f_r1:=Bk.frozen b_r 1;have c_r2:World.cell? w1 ⟨g_r,2,none⟩=some (.int .i64 0):=(Bk.cell b_r 2).trans rfl;have f_r2:=Bk.frozen b_r 2;have c_d0:World.cell? w1 ⟨g_d,0,none⟩=some (.int .i64 a0_0):=(Bk.cell b_d 0).trans rfl;have f_d0:=Bk.frozen b_d 0;have c_d1:World.cell? w1 ⟨g_d,1,none⟩=some (.int .i64 a0_1):=(Bk.cell b_d 1).trans rfl;have f_d1:=Bk.frozen b_d 1;have c_d2:World.cell? w1 ⟨g_d,2,none⟩=some (.int .i64 a0_2):=(Bk.cell b_d 2).trans rfl;have f_d2:=Bk.frozen b_d 2;have c_d3:World.cell? w1 ⟨g_d,3,none⟩=some (.int .i64 a0_3):=(Bk.cell b_d 3).trans rfl;have f_d3:=Bk.frozen b_d 3;have c_d4:World.cell? w1 ⟨g_d,4,none⟩=some (.int .i64 288230376151711744):=(Bk.cell b_d 4).trans rfl;have f_d4:=Bk.frozen b_d 4)|((with_reducible refine gate_dst (N:=10) rfl ?_);refine box_event ?hg (N:=10) ?hd (cs:=#[.int .i64 0,.int .i64 0,.int .i64 0]) (t:=22) ?hr ?_;(case hd=>rfl);(case hg=>rfl);(case hr=>first|(go_simp;done)|(go_simp;rfl));intro g_s hg w1 b_s hb;have b_s:Bk w1 g_s #[.int .i64 0,.int .i64 0,.int .i64 0] 22:=b_s;have l_s:w.heap.size≤g_s:=(by rw [hg];exact Bel.size hB);have ne_c_s:g_c≠g_s:=(by rw [hg];exact Nat.ne_of_lt (Bk.lt b_c));have ne_s_c:g_s≠g_c:=Ne.symm ne_c_s;have ne_v_s:g_v≠g_s:=(by rw [hg];exact Nat.ne_of_lt (Bk.lt b_v));have ne_s_v:g_s≠g_v:=Ne.symm ne_v_s;have ne_r_s:g_r≠g_s:=(by rw [hg];exact Nat.ne_of_lt (Bk.lt b_r));have ne_s_r:g_s≠g_r:=Ne.symm ne_r_s;have ne_d_s:g_d≠g_s:=(by rw [hg];exact Nat.ne_of_lt (Bk.lt b_d));have ne_s_d:g_s≠g_d:=Ne.symm ne_d_s;have m_c:Bk w1 g_c #[.int .i64 a0_0,.int .i64 a0_1,.int .i64 a0_2,.int .i64 a0_3,.int .i64 a0_4] 24:=Bk.below b_c hb;have m_v:Bk w1 g_v #[.int .i64 a1_0,.int .i64 a1_1,.int .i64 a1_2] 22:=Bk.below b_v hb;have m_r:Bk w1 g_r #[.int .i64 0,.int .i64 0,.int .i64 0] 22:=Bk.below b_r hb;have m_d:Bk w1 g_d #[.int .i64 a0_0,.int .i64 a0_1,.int .i64 a0_2,.int .i64 a0_3,.int .i64 288230376151711744] 24:=Bk.below b_d hb;have mB:=Bel.step hB hb;clear b_c;clear b_v;clear b_r;clear b_d;have b_c:=m_c;clear m_c;have b_v:=m_v;clear m_v;have b_r:=m_r;clear m_r;have b_d:=m_d;clear m_d;clear hB;have hB:=mB;clear mB;(try clear hb);clear hg;have c_c0:World.cell? w1 ⟨g_c,0,none⟩=some (.int .i64 a0_0):=(Bk.cell b_c 0).trans rfl;have f_c0:=Bk.frozen b_c 0;have c_c1:World.cell? w1 ⟨g_c,1,none⟩=some (.int .i64 a0_1):=(Bk.cell b_c 1).trans rfl;have f_c1:=Bk.frozen b_c 1;have c_c2:World.cell? w1 ⟨g_c,2,none⟩=some (.int .i64 a0_2):=(Bk.cell b_c 2).trans rfl;have f_c2:=Bk.frozen b_c 2;have c_c3:World.cell? w1 ⟨g_c,3,none⟩=some (.int .i64 a0_3):=(Bk.cell b_c 3).trans rfl;have f_c3:=Bk.frozen b_c 3;have c_c4:World.cell? w1 ⟨g_c,4,none⟩=some (.int .i64 a0_4):=(Bk.cell b_c 4).trans rfl;have f_c4:=Bk.frozen b_c 4;have c_v0:World.cell? w1 ⟨g_v,0,none⟩=some (.int .i64 a1_0):=(Bk.cell b_v 0).trans rfl;have f_v0:=Bk.frozen b_v 0;have c_v1:World.cell? w1 ⟨g_v,1,none⟩=some (.int .i64 a1_1):=(Bk.cell b_v 1).trans rfl;have f_v1:=Bk.frozen b_v 1;have c_v2:World.cell? w1 ⟨g_v,2,none⟩=some (.int .i64 a1_2):=(Bk.cell b_v 2).trans rfl;have f_v2:=Bk.frozen b_v 2;have c_r0:World.cell? w1 ⟨g_r,0,none⟩=some (.int .i64 0):=(Bk.cell b_r 0).trans rfl;have f_r0:=Bk.frozen b_r 0;have c_r1:World.cell? w1 ⟨g_r,1,none⟩=some (.int .i64 0):=(Bk.cell b_r 1).trans rfl;have f_r1:=Bk.frozen b_r 1;have c_r2:World.cell? w1 ⟨g_r,2,none⟩=some (.int .i64 0):=(Bk.cell b_r 2).trans rfl;have f_r2:=Bk.frozen b_r 2;have c_d0:World.cell? w1 ⟨g_d,0,none⟩=some (.int .i64 a0_0):=(Bk.cell b_d 0).trans rfl;have f_d0:=Bk.frozen b_d 0;have c_d1:World.cell? w1 ⟨g_d,1,none⟩=some (.int .i64 a0_1):=(Bk.cell b_d 1).trans rfl;have f_d1:=Bk.frozen b_d 1;have c_d2:World.cell? w1 ⟨g_d,2,none⟩=some (.int .i64 a0_2):=(Bk.cell b_d 2).trans rfl;have f_d2:=Bk.frozen b_d 2;have c_d3:World.cell? w1 ⟨g_d,3,none⟩=some (.int .i64 a0_3):=(Bk.cell b_d 3).trans rfl;have f_d3:=Bk.frozen b_d 3;have c_d4:World.cell? w1 ⟨g_d,4,none⟩=some (.int .i64 288230376151711744):=(Bk.cell b_d 4).trans rfl;have f_d4:=Bk.frozen b_d 4;have c_s0:World.cell? w1 ⟨g_s,0,none⟩=some (.int .i64 0):=(Bk.cell b_s 0).trans rfl;have f_s0:=Bk.frozen b_s 0;have c_s1:World.cell? w1 ⟨g_s,1,none⟩=some (.int .i64 0):=(Bk.cell b_s 1).trans rfl;have f_s1:=Bk.frozen b_s 1;have c_s2:World.cell? w1 ⟨g_s,2,none⟩=some (.int .i64 0):=(Bk.cell b_s 2).trans rfl;have f_s2:=Bk.frozen b_s 2)|((with_reducible refine gate_dst (N:=54) rfl ?_);(with_reducible refine gate_callee (f:=9) rfl ?_);refine goesL_ (some 54) rfl rfl Try.func9 (by kernel_rfl) rfl #[.agg #[.int .i64 a0_0,.int .i64 a0_1,.int .i64 a0_2,.int .i64 a0_3,.int .i64 a0_4],.agg #[.int .i64 a0_0,.int .i64 a0_1,.int .i64 a0_2]] rfl (by (try simp only [List.map_toArray,List.map_cons,List.map_nil]);first|done|rfl) ?_;refine(sense_Read.calls k a0_0 a0_1 a0_2 a0_3 a0_4 a0_0 a0_1 a0_2 _ _ _ _ _ A3.out).mono ?_;rintro e w1 ⟨rfl,hb⟩;refine⟨_,rfl,?_⟩;have m_c:Bk w1 g_c #[.int .i64 a0_0,.int .i64 a0_1,.int .i64 a0_2,.int .i64 a0_3,.int .i64 a0_4] 24:=Bk.below (Bk.far (Bk.far (Bk.far b_c ne_c_s 0 (.int .i64 s0)) ne_c_s 1 (.int .i64 s1)) ne_c_s 2 (.int .i64 s2)) hb;have m_v:Bk w1 g_v #[.int .i64 a1_0,.int .i64 a1_1,.int .i64 a1_2] 22:=Bk.below (Bk.far (Bk.far (Bk.far b_v ne_v_s 0 (.int .i64 s0)) ne_v_s 1 (.int .i64 s1)) ne_v_s 2 (.int .i64 s2)) hb;have m_r:Bk w1 g_r #[.int .i64 0,.int .i64 0,.int .i64 0] 22:=Bk.below (Bk.far (Bk.far (Bk.far b_r ne_r_s 0 (.int .i64 s0)) ne_r_s 1 (.int .i64 s1)) ne_r_s 2 (.int .i64 s2)) hb;have m_d:Bk w1 g_d #[.int .i64 a0_0,.int .i64 a0_1,.int .i64 a0_2,.int .i64 a0_3,.int .i64 288230376151711744] 24:=Bk.below (Bk.far (Bk.far (Bk.far b_d ne_d_s 0 (.int .i64 s0)) ne_d_s 1 (.int .i64 s1)) ne_d_s 2 (.int .i64 s2)) hb;have m_s:Bk w1 g_s #[.int .i64 s0,.int .i64 s1,.int .i64 s2] 22:=Bk.below (Bk.put (Bk.put (Bk.put b_s 0 (.int .i64 s0) rfl) 1 (.int .i64 s1) rfl) 2 (.int .i64 s2) rfl) hb;have mB:=Bel.step (Bel.set (Bel.set (Bel.set hB l_s 0 (.int .i64 s0)) l_s 1 (.int .i64 s1)) l_s 2 (.int .i64 s2)) hb;clear b_c;clear b_v;clear b_r;clear b_d;clear b_s;have b_c:=m_c;clear m_c;have b_v:=m_v;clear m_v;have b_r:=m_r;clear m_r;have b_d:=m_d;clear m_d;have b_s:=m_s;clear m_s;clear hB;have hB:=mB;clear mB;(try clear hb);have c_c0:World.cell? w1 ⟨g_c,0,none⟩=some (.int .i64 a0_0):=(Bk.cell b_c 0).trans rfl;have f_c0:=Bk.frozen b_c 0;have c_c1:World.cell? w1 ⟨g_c,1,none⟩=some (.int .i64 a0_1):=(Bk.cell b_c 1).trans rfl;have f_c1:=Bk.frozen b_c 1;have c_c2:World.cell? w1 ⟨g_c,2,none⟩=some (.int .i64 a0_2):=(Bk.cell b_c 2).trans rfl;have f_c2:=Bk.frozen b_c 2;have c_c3:World.cell? w1 ⟨g_c,3,none⟩=some (.int .i64 a0_3):=(Bk.cell b_c 3).trans rfl;have f_c3:=Bk.frozen b_c 3;have c_c4:World.cell? w1 ⟨g_c,4,none⟩=some (.int .i64 a0_4):=(Bk.cell b_c 4).trans rfl;have f_c4:=Bk.frozen b_c 4;have c_v0:World.cell? w1 ⟨g_v,0,none⟩=some (.int .i64 a1_0):=(Bk.cell b_v 0).trans rfl;have f_v0:=Bk.frozen b_v 0;have c_v1:World.cell? w1 ⟨g_v,1,none⟩=some (.int .i64 a1_1):=(Bk.cell b_v 1).trans rfl;have f_v1:=Bk.frozen b_v 1;have c_v2:World.cell? w1 ⟨g_v,2,none⟩=some (.int .i64 a1_2):=(Bk.cell b_v 2).trans rfl;have f_v2:=Bk.frozen b_v 2;have c_r0:World.cell? w1 ⟨g_r,0,none⟩=some (.int .i64 0):=(Bk.cell b_r 0).trans rfl;have f_r0:=Bk.frozen b_r 0;have c_r1:World.cell? w1 ⟨g_r,1,none⟩=some (.int .i64 0):=(Bk.cell b_r 1).trans rfl;have f_r1:=Bk.frozen b_r 1;have c_r2:World.cell? w1 ⟨g_r,2,none⟩=some (.int .i64 0):=(Bk.cell b_r 2).trans rfl;have f_r2:=Bk.frozen b_r 2;have c_d0:World.cell? w1 ⟨g_d,0,none⟩=some (.int .i64 a0_0):=(Bk.cell b_d 0).trans rfl;have f_d0:=Bk.frozen b_d 0;have c_d1:World.cell? w1 ⟨g_d,1,none⟩=some (.int .i64 a0_1):=(Bk.cell b_d 1).trans rfl;have f_d1:=Bk.frozen b_d 1;have c_d2:World.cell? w1 ⟨g_d,2,none⟩=some (.int .i64 a0_2):=(Bk.cell b_d 2).trans rfl;have f_d2:=Bk.frozen b_d 2;have c_d3:World.cell? w1 ⟨g_d,3,none⟩=some (.int .i64 a0_3):=(Bk.cell b_d 3).trans rfl;have f_d3:=Bk.frozen b_d 3;have c_d4:World.cell? w1 ⟨g_d,4,none⟩=some (.int .i64 288230376151711744):=(Bk.cell b_d 4).trans rfl;have f_d4:=Bk.frozen b_d 4;have c_s0:World.cell? w1 ⟨g_s,0,none⟩=some (.int .i64 s0):=(Bk.cell b_s 0).trans rfl;have f_s0:=Bk.frozen b_s 0;have c_s1:World.cell? w1 ⟨g_s,1,none⟩=some (.int .i64 s1):=(Bk.cell b_s 1).trans rfl;have f_s1:=Bk.frozen b_s 1;have c_s2:World.cell? w1 ⟨g_s,2,none⟩=some (.int .i64 s2):=(Bk.cell b_s 2).trans rfl;have f_s2:=Bk.frozen b_s 2)|((with_reducible refine gate_dst (N:=12) rfl ?_);refine box_event ?hg (N:=12) ?hd (cs:=#[.int .i64 0,.int .i64 0,.int .i64 0]) (t:=22) ?hr ?_;(case hd=>rfl);(case hg=>rfl);(case hr=>first|(go_simp;done)|(go_simp;rfl));intro g_z hg w1 b_z hb;have b_z:Bk w1 g_z #[.int .i64 0,.int .i64 0,.int .i64 0] 22:=b_z;have l_z:w.heap.size≤g_z:=(by rw [hg];exact Bel.size hB);have ne_c_z:g_c≠g_z:=(by rw [hg];exact Nat.ne_of_lt (Bk.lt b_c));have ne_z_c:g_z≠g_c:=Ne.symm ne_c_z;have ne_v_z:g_v≠g_z:=(by rw [hg];exact Nat.ne_of_lt (Bk.lt b_v));have ne_z_v:g_z≠g_v:=Ne.symm ne_v_z;have ne_r_z:g_r≠g_z:=(by rw [hg];exact Nat.ne_of_lt (Bk.lt b_r));have ne_z_r:g_z≠g_r:=Ne.symm ne_r_z;have ne_d_z:g_d≠g_z:=(by rw [hg];exact Nat.ne_of_lt (Bk.lt b_d));have ne_z_d:g_z≠g_d:=Ne.symm ne_d_z;have ne_s_z:g_s≠g_z:=(by rw [hg];exact Nat.ne_of_lt (Bk.lt b_s));have ne_z_s:g_z≠g_s:=Ne.symm ne_s_z;have m_c:Bk w1 g_c #[.int .i64 a0_0,.int .i64 a0_1,.int .i64 a0_2,.int .i64 a0_3,.int .i64 a0_4] 24:=Bk.below b_c hb;have m_v:Bk w1 g_v #[.int .i64 a1_0,.int .i64 a1_1,.int .i64 a1_2] 22:=Bk.below b_v hb;have m_r:Bk w1 g_r #[.int .i64 0,.int .i64 0,.int .i64 0] 22:=Bk.below b_r hb;have m_d:Bk w1 g_d #[.int .i64 a0_0,.int .i64 a0_1,.int .i64 a0_2,.int .i64 a0_3,.int .i64 288230376151711744] 24:=Bk.below b_d hb;have m_s:Bk w1 g_s #[.int .i64 s0,.int .i64 s1,.int .i64 s2] 22:=Bk.below b_s hb;have mB:=Bel.step hB hb;clear b_c;clear b_v;clear b_r;clear b_d;clear b_s;have b_c:=m_c;clear m_c;have b_v:=m_v;clear m_v;have b_r:=m_r;clear m_r;have b_d:=m_d;clear m_d;have b_s:=m_s;clear m_s;clear hB;have hB:=mB;clear mB;(try clear hb);clear hg;have c_c0:World.cell? w1 ⟨g_c,0,none⟩=some (.int .i64 a0_0):=(Bk.cell b_c 0).trans rfl;have f_c0:=Bk.frozen b_c 0;have c_c1:World.cell? w1 ⟨g_c,1,none⟩=some (.int .i64 a0_1):=(Bk.cell b_c 1).trans rfl;have f_c1:=Bk.frozen b_c 1;have c_c2:World.cell? w1 ⟨g_c,2,none⟩=some (.int .i64 a0_2):=(Bk.cell b_c 2).trans rfl;have f_c2:=Bk.frozen b_c 2;have c_c3:World.cell? w1 ⟨g_c,3,none⟩=some (.int .i64 a0_3):=(Bk.cell b_c 3).trans rfl;have f_c3:=Bk.frozen b_c 3;have c_c4:World.cell? w1 ⟨g_c,4,none⟩=some (.int .i64 a0_4):=(Bk.cell b_c 4).trans rfl;have f_c4:=Bk.frozen b_c 4;have c_v0:World.cell? w1 ⟨g_v,0,none⟩=some (.int .i64 a1_0):=(Bk.cell b_v 0).trans rfl;have f_v0:=Bk.frozen b_v 0;have c_v1:World.cell? w1 ⟨g_v,1,none⟩=some (.int .i64 a1_1):=(Bk.cell b_v 1).trans rfl;have f_v1:=Bk.frozen b_v 1;have c_v2:World.cell? w1 ⟨g_v,2,none⟩=some (.int .i64 a1_2):=(Bk.cell b_v 2).trans rfl;have f_v2:=Bk.frozen b_v 2;have c_r0:World.cell? w1 ⟨g_r,0,none⟩=some (.int .i64 0):=(Bk.cell b_r 0).trans rfl;have f_r0:=Bk.frozen b_r 0;have c_r1:World.cell? w1 ⟨g_r,1,none⟩=some (.int .i64 0):=(Bk.cell b_r 1).trans rfl;have f_r1:=Bk.frozen b_r 1;have c_r2:World.cell? w1 ⟨g_r,2,none⟩=some (.int .i64 0):=(Bk.cell b_r 2).trans rfl;have f_r2:=Bk.frozen b_r 2;have c_d0:World.cell? w1 ⟨g_d,0,none⟩=some (.int .i64 a0_0):=(Bk.cell b_d 0).trans rfl;have f_d0:=Bk.frozen b_d 0;have c_d1:World.cell? w1 ⟨g_d,1,none⟩=some (.int .i64 a0_1):=(Bk.cell b_d 1).trans rfl;have f_d1:=Bk.frozen b_d 1;have c_d2:World.cell? w1 ⟨g_d,2,none⟩=some (.int .i64 a0_2):=(Bk.cell b_d 2).trans rfl;have f_d2:=Bk.frozen b_d 2;have c_d3:World.cell? w1 ⟨g_d,3,none⟩=some (.int .i64 a0_3):=(Bk.cell b_d 3).trans rfl;have f_d3:=Bk.frozen b_d 3;have c_d4:World.cell? w1 ⟨g_d,4,none⟩=some (.int .i64 288230376151711744):=(Bk.cell b_d 4).trans rfl;have f_d4:=Bk.frozen b_d 4;have c_s0:World.cell? w1 ⟨g_s,0,none⟩=some (.int .i64 s0):=(Bk.cell b_s 0).trans rfl;have f_s0:=Bk.frozen b_s 0;have c_s1:World.cell? w1 ⟨g_s,1,none⟩=some (.int .i64 s1):=(Bk.cell b_s 1).trans rfl;have f_s1:=Bk.frozen b_s 1;have c_s2:World.cell? w1 ⟨g_s,2,none⟩=some (.int .i64 s2):=(Bk.cell b_s 2).trans rfl;have f_s2:=Bk.frozen b_s 2;have c_z0:World.cell? w1 ⟨g_z,0,none⟩=some (.int .i64 0):=(Bk.cell b_z 0).trans rfl;have f_z0:=Bk.frozen b_z 0;have c_z1:World.cell? w1 ⟨g_z,1,none⟩=some (.int .i64 0):=(Bk.cell b_z 1).trans rfl;have f_z1:=Bk.frozen b_z 1;have c_z2:World.cell? w1 ⟨g_z,2,none⟩=some (.int .i64 0):=(Bk.cell b_z 2).trans rfl;have f_z2:=Bk.frozen b_z 2)|((with_reducible refine gate_callee (f:=13) rfl ?_);refine gate_guard (by rfl) ?_;refine goesL_ (some 86) rfl rfl Try.func13 (by kernel_rfl) rfl #[.agg #[.int .i64 a0_0,.int .i64 a0_1,.int .i64 a0_2,.int .i64 a0_3,.int .i64 a0_4]] rfl (by (try simp only [List.map_toArray,List.map_cons,List.map_nil]);first|done|rfl) ?_;refine(sense_Sane.calls k a0_0 a0_1 a0_2 a0_3 a0_4 _ _ A4.out).mono ?_;rintro e w1 ⟨rfl,hb⟩;refine⟨_,rfl,?_⟩;have m_c:Bk w1 g_c #[.int .i64 a0_0,.int .i64 a0_1,.int .i64 a0_2,.int .i64 a0_3,.int .i64 a0_4] 24:=Bk.below (Bk.far (Bk.far (Bk.far b_c ne_c_z 0 (.int .i64 0)) ne_c_z 1 (.int .i64 0)) ne_c_z 2 (.int .i64 0)) hb;have m_v:Bk w1 g_v #[.int .i64 a1_0,.int .i64 a1_1,.int .i64 a1_2] 22:=Bk.below (Bk.far (Bk.far (Bk.far b_v ne_v_z 0 (.int .i64 0)) ne_v_z 1 (.int .i64 0)) ne_v_z 2 (.int .i64 0)) hb;have m_r:Bk w1 g_r #[.int .i64 0,.int .i64 0,.int .i64 0] 22:=Bk.below (Bk.far (Bk.far (Bk.far b_r ne_r_z 0 (.int .i64 0)) ne_r_z 1 (.int .i64 0)) ne_r_z 2 (.int .i64 0)) hb;have m_d:Bk w1 g_d #[.int .i64 a0_0,.int .i64 a0_1,.int .i64 a0_2,.int .i64 a0_3,.int .i64 288230376151711744] 24:=Bk.below (Bk.far (Bk.far (Bk.far b_d ne_d_z 0 (.int .i64 0)) ne_d_z 1 (.int .i64 0)) ne_d_z 2 (.int .i64 0)) hb;have m_s:Bk w1 g_s #[.int .i64 s0,.int .i64 s1,.int .i64 s2] 22:=Bk.below (Bk.far (Bk.far (Bk.far b_s ne_s_z 0 (.int .i64 0)) ne_s_z 1 (.int .i64 0)) ne_s_z 2 (.int .i64 0)) hb;have m_z:Bk w1 g_z #[.int .i64 0,.int .i64 0,.int .i64 0] 22:=Bk.below (Bk.put (Bk.put (Bk.put b_z 0 (.int .i64 0) rfl) 1 (.int .i64 0) rfl) 2 (.int .i64 0) rfl) hb;have mB:=Bel.step (Bel.set (Bel.set (Bel.set hB l_z 0 (.int .i64 0)) l_z 1 (.int .i64 0)) l_z 2 (.int .i64 0)) hb;clear b_c;clear b_v;clear b_r;clear b_d;clear b_s;clear b_z;have b_c:=m_c;clear m_c;have b_v:=m_v;clear m_v;have b_r:=m_r;clear m_r;have b_d:=m_d;clear m_d;have b_s:=m_s;clear m_s;have b_z:=m_z;clear m_z;clear hB;have hB:=mB;clear mB;(try clear hb);have c_c0:World.cell? w1 ⟨g_c,0,none⟩=some (.int .i64 a0_0):=(Bk.cell b_c 0).trans rfl;have f_c0:=Bk.frozen b_c 0;have c_c1:World.cell? w1 ⟨g_c,1,none⟩=some (.int .i64 a0_1):=(Bk.cell b_c 1).trans rfl;have f_c1:=Bk.frozen b_c 1;have c_c2:World.cell? w1 ⟨g_c,2,none⟩=some (.int .i64 a0_2):=(Bk.cell b_c 2).trans rfl;have f_c2:=Bk.frozen b_c 2;have c_c3:World.cell? w1 ⟨g_c,3,none⟩=some (.int .i64 a0_3):=(Bk.cell b_c 3).trans rfl;have f_c3:=Bk.frozen b_c 3;have c_c4:World.cell? w1 ⟨g_c,4,none⟩=some (.int .i64 a0_4):=(Bk.cell b_c 4).trans rfl;have f_c4:=Bk.frozen b_c 4;have c_v0:World.cell? w1 ⟨g_v,0,none⟩=some (.int .i64 a1_0):=(Bk.cell b_v 0).trans rfl;have f_v0:=Bk.frozen b_v 0;have c_v1:World.cell? w1 ⟨g_v,1,none⟩=some (.int .i64 a1_1):=(Bk.cell b_v 1).trans rfl;have f_v1:=Bk.frozen b_v 1;have c_v2:World.cell? w1 ⟨g_v,2,none⟩=some (.int .i64 a1_2):=(Bk.cell b_v 2).trans rfl;have f_v2:=Bk.frozen b_v 2;have c_r0:World.cell? w1 ⟨g_r,0,none⟩=some (.int .i64 0):=(Bk.cell b_r 0).trans rfl;have f_r0:=Bk.frozen b_r 0;have c_r1:World.cell? w1 ⟨g_r,1,none⟩=some (.int .i64 0):=(Bk.cell b_r 1).trans rfl;have f_r1:=Bk.frozen b_r 1;have c_r2:World.cell? w1 ⟨g_r,2,none⟩=some (.int .i64 0):=(Bk.cell b_r 2).trans rfl;have f_r2:=Bk.frozen b_r 2;have c_d0:World.cell? w1 ⟨g_d,0,none⟩=some (.int .i64 a0_0):=(Bk.cell b_d 0).trans rfl;have f_d0:=Bk.frozen b_d 0;have c_d1:World.cell? w1 ⟨g_d,1,none⟩=some (.int .i64 a0_1):=(Bk.cell b_d 1).trans rfl;have f_d1:=Bk.frozen b_d 1;have c_d2:World.cell? w1 ⟨g_d,2,none⟩=some (.int .i64 a0_2):=(Bk.cell b_d 2).trans rfl;have f_d2:=Bk.frozen b_d 2;have c_d3:World.cell? w1 ⟨g_d,3,none⟩=some (.int .i64 a0_3):=(Bk.cell b_d 3).trans rfl;have f_d3:=Bk.frozen b_d 3;have c_d4:World.cell? w1 ⟨g_d,4,none⟩=some (.int .i64 288230376151711744):=(Bk.cell b_d 4).trans rfl;have f_d4:=Bk.frozen b_d 4;have c_s0:World.cell? w1 ⟨g_s,0,none⟩=some (.int .i64 s0):=(Bk.cell b_s 0).trans rfl;have f_s0:=Bk.frozen b_s 0;have c_s1:World.cell? w1 ⟨g_s,1,none⟩=some (.int .i64 s1):=(Bk.cell b_s 1).trans rfl;have f_s1:=Bk.frozen b_s 1;have c_s2:World.cell? w1 ⟨g_s,2,none⟩=some (.int .i64 s2):=(Bk.cell b_s 2).trans rfl;have f_s2:=Bk.frozen b_s 2;have c_z0:World.cell? w1 ⟨g_z,0,none⟩=some (.int .i64 0):=(Bk.cell b_z 0).trans rfl;have f_z0:=Bk.frozen b_z 0;have c_z1:World.cell? w1 ⟨g_z,1,none⟩=some (.int .i64 0):=(Bk.cell b_z 1).trans rfl;have f_z1:=Bk.frozen b_z 1;have c_z2:World.cell? w1 ⟨g_z,2,none⟩=some (.int .i64 0):=(Bk.cell b_z 2).trans rfl;have f_z2:=Bk.frozen b_z 2))
  try go_wp2
  go_ret
  exact⟨rfl,hB⟩
end Go.Proofs.Ytonfobdknnlbjaa.B
end
section
namespace Go.Proofs.Ytonfobdknnlbjaa.Num
open Go Go.RowKit
theorem w64 {n:Int} (h0:-9223372036854775808≤n) (h1:n≤9223372036854775807):wrap64 n=n:=by
 unfold wrap64
 omega
theorem band64 (x:Int) (i:Nat) (hi:i≤62):Go.bits .and .i64 x (2^i-1)=x%2^i:=by
 have hp:(2:Nat)^i≤2^62:=Nat.pow_le_pow_right (by decide) hi
 have hpos:0<(2:Nat)^i:=Nat.two_pow_pos i
 have hc:((2:Int)^i-1)=((2^i-1:Nat):Int):=by
  rw [Int.natCast_sub hpos];simp
 have hm:(2^i-1:Nat)<2^64:=by omega
 have hxm:x%2^i=((x%18446744073709551616).toNat%2^i:Nat):=by
  have h0:0≤x%18446744073709551616:=Int.emod_nonneg _ (by decide)
  rw [Int.natCast_emod,Int.toNat_of_nonneg h0,Int.natCast_pow]
  have hd:((2:Int)^i)∣18446744073709551616:=⟨2^(64-i),by rw [←Int.pow_add];rw [show i+(64-i)=64 by omega];rfl⟩
  exact(Int.emod_emod_of_dvd x hd).symm
 have hb:(BitVec.ofInt 64 x &&& BitVec.ofInt 64 ((2^i-1:Nat):Int)).toNat=(x%18446744073709551616).toNat%2^i:=by
  rw [BitVec.toNat_and,BitVec.toNat_ofInt,BitVec.ofInt_natCast,BitVec.toNat_ofNat,Nat.mod_eq_of_lt hm,Nat.and_two_pow_sub_one_eq_mod]
  rfl
 have hlt:(x%18446744073709551616).toNat%2^i<2^i:=Nat.mod_lt _ hpos
 rw [hc]
 show IntKind.wrap .i64 ((BitVec.ofInt 64 x &&& BitVec.ofInt 64 ((2^i-1:Nat):Int)).toNat:Int)=_
 rw [hb,hxm,IntKind.wrap_i64]
 omega
theorem wu64 {n:Int} (h0:0≤n) (h1:n<18446744073709551616):IntKind.u64.wrap n=n:=by
 simp only [IntKind.wrap,IntKind.bits,IntKind.signed]
 simp
 omega
theorem u64_wrap (n:Int):IntKind.u64.wrap n=n%18446744073709551616:=by
 simp [IntKind.wrap,IntKind.bits,IntKind.signed]
theorem i64_wrap (n:Int):IntKind.i64.wrap n=wrap64 n:=by
 rw [IntKind.wrap_i64]
 unfold wrap64
 omega
theorem bandu64 (x:Int) (i:Nat) (hi:i≤63):Go.bits .and .u64 x (2^i-1)=x%2^i:=by
 have hp:(2:Nat)^i≤2^63:=Nat.pow_le_pow_right (by decide) hi
 have hpos:0<(2:Nat)^i:=Nat.two_pow_pos i
 have hc:((2:Int)^i-1)=((2^i-1:Nat):Int):=by
  rw [Int.natCast_sub hpos];simp
 have hm:(2^i-1:Nat)<2^64:=by omega
 have hxm:x%2^i=((x%18446744073709551616).toNat%2^i:Nat):=by
  have h0:0≤x%18446744073709551616:=Int.emod_nonneg _ (by decide)
  rw [Int.natCast_emod,Int.toNat_of_nonneg h0,Int.natCast_pow]
  have hd:((2:Int)^i)∣18446744073709551616:=⟨2^(64-i),by rw [←Int.pow_add];rw [show i+(64-i)=64 by omega];rfl⟩
  exact(Int.emod_emod_of_dvd x hd).symm
 have hb:(BitVec.ofInt 64 x &&& BitVec.ofInt 64 ((2^i-1:Nat):Int)).toNat=(x%18446744073709551616).toNat%2^i:=by
  rw [BitVec.toNat_and,BitVec.toNat_ofInt,BitVec.ofInt_natCast,BitVec.toNat_ofNat,Nat.mod_eq_of_lt hm,Nat.and_two_pow_sub_one_eq_mod]
  rfl
 have hlt:(x%18446744073709551616).toNat%2^i<2^i:=Nat.mod_lt _ hpos
 rw [hc]
 show IntKind.wrap .u64 ((BitVec.ofInt 64 x &&& BitVec.ofInt 64 ((2^i-1:Nat):Int)).toNat:Int)=_
 rw [hb,hxm,u64_wrap]
 omega
theorem or_nat (x y:Int) (j:Nat) (hj:j≤63) (hx:x%2^j=0) (hy0:0≤y) (hy1:y<2^j) :
  ∃ m:Int,((BitVec.ofInt 64 x ||| BitVec.ofInt 64 y).toNat:Int)=x+y+18446744073709551616*m:=by
 obtain⟨b,rfl⟩:=Int.eq_ofNat_of_zero_le hy0
 have hb:b<2^j:=by exact_mod_cast hy1
 have hp:(2:Nat)^j≤2^63:=Nat.pow_le_pow_right (by decide) hj
 have hpos:(0:Int)<2^j:=Int.pow_pos (by decide)
 have h0:0≤x%18446744073709551616:=Int.emod_nonneg _ (by decide)
 have hd:((2:Int)^j)∣18446744073709551616:=⟨2^(64-j),by rw [←Int.pow_add];rw [show j+(64-j)=64 by omega];rfl⟩
 have hz:(x%18446744073709551616)%2^j=0:=by rw [Int.emod_emod_of_dvd x hd];exact hx
 have hq:(x%18446744073709551616).toNat=2^j*((x%18446744073709551616).toNat/2^j):=by
  have h1:(x%18446744073709551616).toNat%2^j=0:=by
   have:(((x%18446744073709551616).toNat%2^j:Nat):Int)=0:=by
    rw [Int.natCast_emod,Int.toNat_of_nonneg h0,Int.natCast_pow];exact hz
   exact Int.natCast_eq_zero.mp this
  have:=Nat.div_add_mod (x%18446744073709551616).toNat (2^j)
  omega
 refine⟨- (x/18446744073709551616),?_⟩
 rw [BitVec.toNat_or,BitVec.toNat_ofInt,BitVec.ofInt_natCast,BitVec.toNat_ofNat,Nat.mod_eq_of_lt (show b<2^64 by omega)]
 have hs:(x%((2^64:Nat):Int)).toNat=(x%18446744073709551616).toNat:=rfl
 rw [hs,hq,←Nat.two_pow_add_eq_or_of_lt hb,←hq,Int.natCast_add,Int.toNat_of_nonneg h0]
 omega
theorem bor64 (x y:Int) (j:Nat) (hj:j≤63) (hx:x%2^j=0) (hy0:0≤y) (hy1:y<2^j):Go.bits .or .i64 x y=wrap64 (x+y):=by
 obtain⟨m,hm⟩:=or_nat x y j hj hx hy0 hy1
 show IntKind.wrap .i64 ((BitVec.ofInt 64 x ||| BitVec.ofInt 64 y).toNat:Int)=_
 rw [hm,i64_wrap]
 unfold wrap64
 omega
theorem boru64 (x y:Int) (j:Nat) (hj:j≤63) (hx:x%2^j=0) (hy0:0≤y) (hy1:y<2^j):Go.bits .or .u64 x y=(x+y)%18446744073709551616:=by
 obtain⟨m,hm⟩:=or_nat x y j hj hx hy0 hy1
 show IntKind.wrap .u64 ((BitVec.ofInt 64 x ||| BitVec.ofInt 64 y).toNat:Int)=_
 rw [hm,u64_wrap]
 omega
theorem bnot64 (x:Int) (h0:-9223372036854775808≤x) (h1:x≤9223372036854775807):Go.bits .xor .i64 (-1) x=-1-x:=by
 show IntKind.wrap .i64 ((BitVec.ofInt 64 (-1) ^^^ BitVec.ofInt 64 x).toNat:Int)=_
 have h2:BitVec.ofInt 64 (-1)=BitVec.allOnes 64:=by decide
 rw [h2,BitVec.allOnes_xor,BitVec.toNat_not,BitVec.toNat_ofInt,i64_wrap]
 have h3:0≤x%18446744073709551616:=Int.emod_nonneg _ (by decide)
 have h4:(x%((2^64:Nat):Int)).toNat=(x%18446744073709551616).toNat:=rfl
 rw [h4]
 unfold wrap64
 omega
theorem p62:(2:Int)^62=4611686018427387904:=by decide
theorem bandu62 (x:Int):Go.bits .and .u64 x 4611686018427387903=x%4611686018427387904:=by
 have h:=bandu64 x 62 (by decide)
 rw [p62] at h
 exact h
theorem band62 (x:Int):Go.bits .and .i64 x 4611686018427387903=x%4611686018427387904:=by
 have h:=band64 x 62 (by decide)
 rw [p62] at h
 exact h
theorem p32:(2:Int)^32=4294967296:=by decide
theorem bandu32 (x:Int):Go.bits .and .u64 x 4294967295=x%4294967296:=by
 have h:=bandu64 x 32 (by decide)
 rw [p32] at h
 exact h
end Go.Proofs.Ytonfobdknnlbjaa.Num
end
section
namespace Go.Proofs.Ytonfobdknnlbjaa.B
open Go.RowKit Go.Proofs.YtonfobdknnlbjaaW.PrintWords Go.Proofs.YtonfobdknnlbjaaW.PrintLast Go.Proofs.YtonfobdknnlbjaaW.PrintMore
attribute [local go_sem] max2_int min2_int max_two min_two max_three min_three max_four min_four
set_option linter.unusedVariables false
set_option linter.unusedSimpArgs false
attribute [local go_sem high] eqA22
end Go.Proofs.Ytonfobdknnlbjaa.B
end
section
namespace Go.Proofs.Ytonfobdknnlbjaa.B
open Go.RowKit Go.Proofs.YtonfobdknnlbjaaW.PrintWords Go.Proofs.YtonfobdknnlbjaaW.PrintLast Go.Proofs.YtonfobdknnlbjaaW.PrintMore
attribute [local go_sem] max2_int min2_int max_two min_two max_three min_three max_four min_four
set_option linter.unusedVariables false
set_option linter.unusedSimpArgs false
attribute [local go_sem high] eqA22
end Go.Proofs.Ytonfobdknnlbjaa.B
end
section
namespace Go.Proofs.Ytonfobdknnlbjaa.B
open Go.RowKit Go.Proofs.YtonfobdknnlbjaaW.PrintWords Go.Proofs.YtonfobdknnlbjaaW.PrintLast Go.Proofs.YtonfobdknnlbjaaW.PrintMore
attribute [local go_sem] max2_int min2_int max_two min_two max_three min_three max_four min_four
set_option linter.unusedVariables false
set_option linter.unusedSimpArgs false
end Go.Proofs.Ytonfobdknnlbjaa.B
end
section
namespace Go.Proofs.Ytonfobdknnlbjaa.B
open Go.RowKit Go.Proofs.YtonfobdknnlbjaaW.PrintWords Go.Proofs.YtonfobdknnlbjaaW.PrintLast Go.Proofs.YtonfobdknnlbjaaW.PrintMore
attribute [local go_sem] max2_int min2_int max_two min_two max_three min_three max_four min_four
set_option linter.unusedVariables false
set_option linter.unusedSimpArgs false
end Go.Proofs.Ytonfobdknnlbjaa.B
end
section
namespace Go.Proofs.Ytonfobdknnlbjaa.B
open Go.RowKit Go.Proofs.YtonfobdknnlbjaaW.PrintWords Go.Proofs.YtonfobdknnlbjaaW.PrintLast Go.Proofs.YtonfobdknnlbjaaW.PrintMore
attribute [local go_sem] max2_int min2_int max_two min_two max_three min_three max_four min_four
set_option linter.unusedVariables false
set_option linter.unusedSimpArgs false
end Go.Proofs.Ytonfobdknnlbjaa.B
end
section
namespace Go.Proofs.Ytonfobdknnlbjaa.B
open Go.RowKit Go.Proofs.YtonfobdknnlbjaaW.PrintWords Go.Proofs.YtonfobdknnlbjaaW.PrintLast Go.Proofs.YtonfobdknnlbjaaW.PrintMore
attribute [local go_sem] max2_int min2_int max_two min_two max_three min_three max_four min_four
set_option linter.unusedVariables false
set_option linter.unusedSimpArgs false
end Go.Proofs.Ytonfobdknnlbjaa.B
end
section
namespace Go.Proofs.Ytonfobdknnlbjaa.B
open Go.RowKit Go.Proofs.YtonfobdknnlbjaaW.PrintWords Go.Proofs.YtonfobdknnlbjaaW.PrintLast Go.Proofs.YtonfobdknnlbjaaW.PrintMore
attribute [local go_sem] max2_int min2_int max_two min_two max_three min_three max_four min_four
set_option linter.unusedVariables false
set_option linter.unusedSimpArgs false
end Go.Proofs.Ytonfobdknnlbjaa.B
end
section
namespace Go.Proofs.Ytonfobdknnlbjaa.B
open Go.RowKit Go.Proofs.YtonfobdknnlbjaaW.PrintWords Go.Proofs.YtonfobdknnlbjaaW.PrintLast Go.Proofs.YtonfobdknnlbjaaW.PrintMore
attribute [local go_sem] max2_int min2_int max_two min_two max_three min_three max_four min_four
set_option linter.unusedVariables false
set_option linter.unusedSimpArgs false
attribute [local go_sem high] eqA59
end Go.Proofs.Ytonfobdknnlbjaa.B
end
section
namespace Go.Proofs.Ytonfobdknnlbjaa.B
open Go.RowKit Go.Proofs.YtonfobdknnlbjaaW.PrintWords Go.Proofs.YtonfobdknnlbjaaW.PrintLast Go.Proofs.YtonfobdknnlbjaaW.PrintMore
attribute [local go_sem] max2_int min2_int max_two min_two max_three min_three max_four min_four
set_option linter.unusedVariables false
set_option linter.unusedSimpArgs false
end Go.Proofs.Ytonfobdknnlbjaa.B
end
section
namespace Go.Proofs.Ytonfobdknnlbjaa.B
open Go.RowKit Go.Proofs.YtonfobdknnlbjaaW.PrintWords Go.Proofs.YtonfobdknnlbjaaW.PrintLast Go.Proofs.YtonfobdknnlbjaaW.PrintMore
attribute [local go_sem] max2_int min2_int max_two min_two max_three min_three max_four min_four
set_option linter.unusedVariables false
set_option linter.unusedSimpArgs false
end Go.Proofs.Ytonfobdknnlbjaa.B
end
