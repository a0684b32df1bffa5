/- Lemmas of the rows, laid by a program. -/
import Derived.Test.YtonfobdknnlbjaaZM1
import Derived.Test.YtonfobdknnlbjaaZM5
import Derived.Test.YtonfobdknnlbjaaZM8
import Derived.Test.YtonfobdknnlbjaaZM10
import Derived.Test.YtonfobdknnlbjaaZM11
import Derived.Test.YtonfobdknnlbjaaZM4
import Derived.LoopN
import Derived.Outline
import Derived.Test.YtonfobdknnlbjaaZM12
import Derived.Test.YtonfobdknnlbjaaZM13
section
namespace Go.Proofs.Ytonfobdknnlbjaa.B
open Go.RowKit Go.Proofs.YtonfobdknnlbjaaW.PrintWords Go.Proofs.YtonfobdknnlbjaaW.PrintLast Go.Proofs.YtonfobdknnlbjaaW.PrintMore
attribute [local go_sem] max2_int min2_int max_two min_two max_three min_three max_four min_four
attribute [local go_sem high] eqA22 eqA24
set_option linter.unusedVariables false
set_option linter.unusedSimpArgs false
def outriggerlaw18_SenseBounds.T6:Bool × List (List Nat × List Nat):=(true,[([],[]),([0],[0]),([1],[1]),([],[]),([3],[3]),([4],[4]),([2,5],[2,5]),([6],[6]),([7],[7]),([8,7],[7,8]),([9,7],[7,9]),([7],[7]),([11,7],[7,11]),([12,7],[7,12]),([13,7],[7,13]),([10,14,7],[7,10,14]),([7,15],[7,15])])
def outriggerlaw18_SenseBounds.B6:List Nat:=[0,1,3,0,8,24,63,127,255,511,1023,255,2303,6399,14591,32767,65535]
theorem outriggerlaw18_SenseBounds.tab6:rtab .any (opsOf Try.f5 6)=outriggerlaw18_SenseBounds.T6:=by kernel_rfl
theorem outriggerlaw18_SenseBounds.bits6:waitsOk outriggerlaw18_SenseBounds.T6.2 outriggerlaw18_SenseBounds.B6=true:=by kernel_rfl
def outriggerlaw18_SenseBounds.G (k:Nat) (a0_0 a0_1 a0_2 a0_3 a0_4 a1_0 a1_1 a1_2:Int):Prop:=∃ r0 r1 r2 s0 s1 s2:Int,∃ ok is sn:Bool,sense_Read.f k a0_0 a0_1 a0_2 a0_3 a0_4 a1_0 a1_1 a1_2=some (r0,r1,r2,ok)∧sense_Read.f k a0_0 a0_1 a0_2 a0_3 288230376151711744 a1_0 a1_1 a1_2=some (s0,s1,s2,is) ∧
  sense_Read.f k a0_0 a0_1 a0_2 a0_3 a0_4 a0_0 a0_1 a0_2=some (0,0,0,sn)∧sense_Sane.f k a0_0 a0_1 a0_2 a0_3 a0_4=some sn∧((¬r0 > mx a0_4 0∧¬r0<wrap64 (-(mx a0_4 0)))∧(¬r1 > mx a0_4 0∧¬r1<wrap64 (-(mx a0_4 0)))∧(¬r2 > mx a0_4 0∧¬r2<wrap64 (-(mx a0_4 0)))) ∧
  ((ok=true∧is=true∧r0=s0∧r1=s1∧r2=s2)∨(ok=false∧r0=0∧r1=0∧r2=0))
set_option maxRecDepth 100000 in
set_option maxHeartbeats 8000000 in
theorem outriggerlaw18_SenseBounds.calls (k:Nat) (a0_0 a0_1 a0_2 a0_3 a0_4 a1_0 a1_1 a1_2:Int) (r:Bool) (w:World) (h:outriggerlaw18_SenseBounds.G k a0_0 a0_1 a0_2 a0_3 a0_4 a1_0 a1_1 a1_2) (hr:Aside0 (r=true)) :
  Calls Try.prog 5 #[.agg #[.int .i64 a0_0,.int .i64 a0_1,.int .i64 a0_2,.int .i64 a0_3,.int .i64 a0_4],.agg #[.int .i64 a1_0,.int .i64 a1_1,.int .i64 a1_2]] w fun e w'=>e=.returned (.bool r)∧Below w.heap.size w w':=by
 obtain rfl:=hr.out
 clear hr
 obtain⟨r0,r1,r2,s0,s1,s2,ok,is,sn,A1,A2,A3,A4,⟨X0,X1,X2⟩,X⟩:=h
 obtain⟨M,hM⟩:∃ m,mx a0_4 0=m:=⟨_,rfl⟩
 rw [hM] at X0 X1 X2
 have hM2:(if a0_4<0 then 0 else a0_4)=M:=hM
 clear hM
 replace A1:=Aside0.mk A1
 replace A2:=Aside0.mk A2
 replace A3:=Aside0.mk A3
 replace A4:=Aside0.mk A4
 replace X0:=Aside0.mk X0
 replace X1:=Aside0.mk X1
 replace X2:=Aside0.mk X2
 rcases X with ⟨rfl,rfl,rfl,rfl,rfl⟩|⟨rfl,rfl,rfl,rfl⟩
 ·have hB:=Bel.refl w
  go_enter Try.func5,Try.ntmps5
  go_wp2_with (first|((with_reducible refine gate_dst (N:=2) rfl ?_);refine box_event ?hg (N:=2) ?hd (cs:=#[.int .i64 a0_0,.int .i64 a0_1,.int .i64 a0_2,.int .i64 a0_3,.int .i64 a0_4]) (t:=24) ?hr ?_;(case hd=>rfl);(case hg=>rfl);(case hr=>first|(go_simp;done)|(go_simp;rfl));intro g_c hg w1 b_c hb;have b_c:Bk w1 g_c #[.int .i64 a0_0,.int .i64 a0_1,.int .i64 a0_2,.int .i64 a0_3,.int .i64 a0_4] 24:=b_c;have l_c:w.heap.size≤g_c:=(by rw [hg];exact Bel.size hB);have mB:=Bel.step hB hb;clear hB;have hB:=mB;clear mB;(try clear hb);clear hg;have c_c0:World.cell? w1 ⟨g_c,0,none⟩=some (.int .i64 a0_0):=(Bk.cell b_c 0).trans rfl;have f_c0:=Bk.frozen b_c 0;have c_c1:World.cell? w1 ⟨g_c,1,none⟩=some (.int .i64 a0_1):=(Bk.cell b_c 1).trans rfl;have f_c1:=Bk.frozen b_c 1;have c_c2:World.cell? w1 ⟨g_c,2,none⟩=some (.int .i64 a0_2):=(Bk.cell b_c 2).trans rfl;have f_c2:=Bk.frozen b_c 2;have c_c3:World.cell? w1 ⟨g_c,3,none⟩=some (.int .i64 a0_3):=(Bk.cell b_c 3).trans rfl;have f_c3:=Bk.frozen b_c 3;have c_c4:World.cell? w1 ⟨g_c,4,none⟩=some (.int .i64 a0_4):=(Bk.cell b_c 4).trans rfl;have f_c4:=Bk.frozen b_c 4)|((with_reducible refine gate_dst (N:=3) rfl ?_);refine box_event ?hg (N:=3) ?hd (cs:=#[.int .i64 a1_0,.int .i64 a1_1,.int .i64 a1_2]) (t:=22) ?hr ?_;(case hd=>rfl);(case hg=>rfl);(case hr=>first|(go_simp;done)|(go_simp;rfl));intro g_v hg w1 b_v hb;have b_v:Bk w1 g_v #[.int .i64 a1_0,.int .i64 a1_1,.int .i64 a1_2] 22:=b_v;have l_v:w.heap.size≤g_v:=(by rw [hg];exact Bel.size hB);have ne_c_v:g_c≠g_v:=(by rw [hg];exact Nat.ne_of_lt (Bk.lt b_c));have ne_v_c:g_v≠g_c:=Ne.symm ne_c_v;have m_c:Bk w1 g_c #[.int .i64 a0_0,.int .i64 a0_1,.int .i64 a0_2,.int .i64 a0_3,.int .i64 a0_4] 24:=Bk.below b_c hb;have mB:=Bel.step hB hb;clear b_c;have b_c:=m_c;clear m_c;clear hB;have hB:=mB;clear mB;(try clear hb);clear hg;have c_c0:World.cell? w1 ⟨g_c,0,none⟩=some (.int .i64 a0_0):=(Bk.cell b_c 0).trans rfl;have f_c0:=Bk.frozen b_c 0;have c_c1:World.cell? w1 ⟨g_c,1,none⟩=some (.int .i64 a0_1):=(Bk.cell b_c 1).trans rfl;have f_c1:=Bk.frozen b_c 1;have c_c2:World.cell? w1 ⟨g_c,2,none⟩=some (.int .i64 a0_2):=(Bk.cell b_c 2).trans rfl;have f_c2:=Bk.frozen b_c 2;have c_c3:World.cell? w1 ⟨g_c,3,none⟩=some (.int .i64 a0_3):=(Bk.cell b_c 3).trans rfl;have f_c3:=Bk.frozen b_c 3;have c_c4:World.cell? w1 ⟨g_c,4,none⟩=some (.int .i64 a0_4):=(Bk.cell b_c 4).trans rfl;have f_c4:=Bk.frozen b_c 4;have c_v0:World.cell? w1 ⟨g_v,0,none⟩=some (.int .i64 a1_0):=(Bk.cell b_v 0).trans rfl;have f_v0:=Bk.frozen b_v 0;have c_v1:World.cell? w1 ⟨g_v,1,none⟩=some (.int .i64 a1_1):=(Bk.cell b_v 1).trans rfl;have f_v1:=Bk.frozen b_v 1;have c_v2:World.cell? w1 ⟨g_v,2,none⟩=some (.int .i64 a1_2):=(Bk.cell b_v 2).trans rfl;have f_v2:=Bk.frozen b_v 2)|((with_reducible refine gate_callee (f:=8) rfl ?_);refine goesL_ (some 14) rfl rfl Try.func8 (by kernel_rfl) rfl #[] rfl (by (try simp only [List.map_toArray,List.map_cons,List.map_nil]);first|done|rfl) ?_;refine(outriggerlaw18_awake.calls 200 true _ outriggerlaw18_awake.known).mono ?_;rintro e w1 ⟨rfl,hb⟩;refine⟨_,rfl,?_⟩;have m_c:Bk w1 g_c #[.int .i64 a0_0,.int .i64 a0_1,.int .i64 a0_2,.int .i64 a0_3,.int .i64 a0_4] 24:=Bk.below b_c hb;have m_v:Bk w1 g_v #[.int .i64 a1_0,.int .i64 a1_1,.int .i64 a1_2] 22:=Bk.below b_v hb;have mB:=Bel.step hB hb;clear b_c;clear b_v;have b_c:=m_c;clear m_c;have b_v:=m_v;clear m_v;clear hB;have hB:=mB;clear mB;(try clear hb);have c_c0:World.cell? w1 ⟨g_c,0,none⟩=some (.int .i64 a0_0):=(Bk.cell b_c 0).trans rfl;have f_c0:=Bk.frozen b_c 0;have c_c1:World.cell? w1 ⟨g_c,1,none⟩=some (.int .i64 a0_1):=(Bk.cell b_c 1).trans rfl;have f_c1:=Bk.frozen b_c 1;have c_c2:World.cell? w1 ⟨g_c,2,none⟩=some (.int .i64 a0_2):=(Bk.cell b_c 2).trans rfl;have f_c2:=Bk.frozen b_c 2;have c_c3:World.cell? w1 ⟨g_c,3,none⟩=some (.int .i64 a0_3):=(Bk.cell b_c 3).trans rfl;have f_c3:=Bk.frozen b_c 3;have c_c4:World.cell? w1 ⟨g_c,4,none⟩=some (.int .i64 a0_4):=(Bk.cell b_c 4).trans rfl;have f_c4:=Bk.frozen b_c 4;have c_v0:World.cell? w1 ⟨g_v,0,none⟩=some (.int .i64 a1_0):=(Bk.cell b_v 0).trans rfl;have f_v0:=Bk.frozen b_v 0;have c_v1:World.cell? w1 ⟨g_v,1,none⟩=some (.int .i64 a1_1):=(Bk.cell b_v 1).trans rfl;have f_v1:=Bk.frozen b_v 1;have c_v2:World.cell? w1 ⟨g_v,2,none⟩=some (.int .i64 a1_2):=(Bk.cell b_v 2).trans rfl;have f_v2:=Bk.frozen b_v 2)|((with_reducible refine gate_callee (f:=9) rfl ?_);refine goesL_ (some 18) rfl rfl Try.func9 (by kernel_rfl) rfl #[.agg #[.int .i64 a0_0,.int .i64 a0_1,.int .i64 a0_2,.int .i64 a0_3,.int .i64 a0_4],.agg #[.int .i64 a1_0,.int .i64 a1_1,.int .i64 a1_2]] rfl (by (try simp only [List.map_toArray,List.map_cons,List.map_nil]);first|done|rfl) ?_;refine(sense_Read.calls k a0_0 a0_1 a0_2 a0_3 a0_4 a1_0 a1_1 a1_2 _ _ _ _ _ A1.out).mono ?_;rintro e w1 ⟨rfl,hb⟩;refine⟨_,rfl,?_⟩;have m_c:Bk w1 g_c #[.int .i64 a0_0,.int .i64 a0_1,.int .i64 a0_2,.int .i64 a0_3,.int .i64 a0_4] 24:=Bk.below b_c hb;have m_v:Bk w1 g_v #[.int .i64 a1_0,.int .i64 a1_1,.int .i64 a1_2] 22:=Bk.below b_v hb;have mB:=Bel.step hB hb;clear b_c;clear b_v;have b_c:=m_c;clear m_c;have b_v:=m_v;clear m_v;clear hB;have hB:=mB;clear mB;(try clear hb);have c_c0:World.cell? w1 ⟨g_c,0,none⟩=some (.int .i64 a0_0):=(Bk.cell b_c 0).trans rfl;have f_c0:=Bk.frozen b_c 0;have c_c1:World.cell? w1 ⟨g_c,1,none⟩=some (.int .i64 a0_1):=(Bk.cell b_c 1).trans rfl;have f_c1:=Bk.frozen b_c 1;have c_c2:World.cell? w1 ⟨g_c,2,none⟩=some (.int .i64 a0_2):=(Bk.cell b_c 2).trans rfl;have f_c2:=Bk.frozen b_c 2;have c_c3:World.cell? w1 ⟨g_c,3,none⟩=some (.int .i64 a0_3):=(Bk.cell b_c 3).trans rfl;have f_c3:=Bk.frozen b_c 3;have c_c4:World.cell? w1 ⟨g_c,4,none⟩=some (.int .i64 a0_4):=(Bk.cell b_c 4).trans rfl;have f_c4:=Bk.frozen b_c 4;have c_v0:World.cell? w1 ⟨g_v,0,none⟩=some (.int .i64 a1_0):=(Bk.cell b_v 0).trans rfl;have f_v0:=Bk.frozen b_v 0;have c_v1:World.cell? w1 ⟨g_v,1,none⟩=some (.int .i64 a1_1):=(Bk.cell b_v 1).trans rfl;have f_v1:=Bk.frozen b_v 1;have c_v2:World.cell? w1 ⟨g_v,2,none⟩=some (.int .i64 a1_2):=(Bk.cell b_v 2).trans rfl;have f_v2:=Bk.frozen b_v 2)|((with_reducible refine gate_dst (N:=6) rfl ?_);refine box_event ?hg (N:=6) ?hd (cs:=#[.int .i64 0,.int .i64 0,.int .i64 0]) (t:=22) ?hr ?_;(case hd=>rfl);(case hg=>rfl);(case hr=>first|(go_simp;done)|(go_simp;rfl));intro g_r hg w1 b_r hb;have b_r:Bk w1 g_r #[.int .i64 0,.int .i64 0,.int .i64 0] 22:=b_r;have l_r:w.heap.size≤g_r:=(by rw [hg];exact Bel.size hB);have ne_c_r:g_c≠g_r:=(by rw [hg];exact Nat.ne_of_lt (Bk.lt b_c));have ne_r_c:g_r≠g_c:=Ne.symm ne_c_r;have ne_v_r:g_v≠g_r:=(by rw [hg];exact Nat.ne_of_lt (Bk.lt b_v));have ne_r_v:g_r≠g_v:=Ne.symm ne_v_r;have m_c:Bk w1 g_c #[.int .i64 a0_0,.int .i64 a0_1,.int .i64 a0_2,.int .i64 a0_3,.int .i64 a0_4] 24:=Bk.below b_c hb;have m_v:Bk w1 g_v #[.int .i64 a1_0,.int .i64 a1_1,.int .i64 a1_2] 22:=Bk.below b_v hb;have mB:=Bel.step hB hb;clear b_c;clear b_v;have b_c:=m_c;clear m_c;have b_v:=m_v;clear m_v;clear hB;have hB:=mB;clear mB;(try clear hb);clear hg;have c_c0:World.cell? w1 ⟨g_c,0,none⟩=some (.int .i64 a0_0):=(Bk.cell b_c 0).trans rfl;have f_c0:=Bk.frozen b_c 0;have c_c1:World.cell? w1 ⟨g_c,1,none⟩=some (.int .i64 a0_1):=(Bk.cell b_c 1).trans rfl;have f_c1:=Bk.frozen b_c 1;have c_c2:World.cell? w1 ⟨g_c,2,none⟩=some (.int .i64 a0_2):=(Bk.cell b_c 2).trans rfl;have f_c2:=Bk.frozen b_c 2;have c_c3:World.cell? w1 ⟨g_c,3,none⟩=some (.int .i64 a0_3):=(Bk.cell b_c 3).trans rfl;have f_c3:=Bk.frozen b_c 3;have c_c4:World.cell? w1 ⟨g_c,4,none⟩=some (.int .i64 a0_4):=(Bk.cell b_c 4).trans rfl;have f_c4:=Bk.frozen b_c 4;have c_v0:World.cell? w1 ⟨g_v,0,none⟩=some (.int .i64 a1_0):=(Bk.cell b_v 0).trans rfl;have f_v0:=Bk.frozen b_v 0;have c_v1:World.cell? w1 ⟨g_v,1,none⟩=some (.int .i64 a1_1):=(Bk.cell b_v 1).trans rfl;have f_v1:=Bk.frozen b_v 1;have c_v2:World.cell? w1 ⟨g_v,2,none⟩=some (.int .i64 a1_2):=(Bk.cell b_v 2).trans rfl;have f_v2:=Bk.frozen b_v 2;have c_r0:World.cell? w1 ⟨g_r,0,none⟩=some (.int .i64 0):=(Bk.cell b_r 0).trans rfl;have f_r0:=Bk.frozen b_r 0;have c_r1:World.cell? w1 ⟨g_r,1,none⟩=some (.int .i64 0):=(Bk.cell b_r 1).trans rfl;have f_r1:=Bk.frozen b_r 1;have c_r2:World.cell? w1 ⟨g_r,2,none⟩=some (.int .i64 0):=(Bk.cell b_r 2).trans rfl;have f_r2:=Bk.frozen b_r 2))
  refine wp_loop_rounds 4 ?_
  rw [rounds_succ]
  go_wp2
  have x0:decide (r0 > M)=false:=decide_eq_false (by have h_:=X0.out.1;omega)
  have x1:decide (r0<wrap64 (-M))=false:=decide_eq_false (by have h_:=X0.out.2;omega)
  have x2:decide (r0<IntKind.i64.wrap (-M))=false:=by rw [i64_w];exact x1
  refine start2_ (n:=17) (S:=fun w'=>Bk w' g_c #[.int .i64 a0_0,.int .i64 a0_1,.int .i64 a0_2,.int .i64 a0_3,.int .i64 a0_4] 24∧Bk w' g_v #[.int .i64 a1_0,.int .i64 a1_1,.int .i64 a1_2] 22∧Bk w' g_r #[.int .i64 r0,.int .i64 r1,.int .i64 r2] 22∧Bel w w') (ds:=[]) #[false,false,false,false,false,false,false,false,false,false,false,false,false,false,false,false,false] (by kernel_rfl) rfl rfl outriggerlaw18_SenseBounds.tab6 outriggerlaw18_SenseBounds.bits6 ⟨Bk.drew (Bk.far (Bk.far (Bk.far b_c ne_c_r 0 (.int .i64 r0)) ne_c_r 1 (.int .i64 r1)) ne_c_r 2 (.int .i64 r2)),Bk.drew (Bk.far (Bk.far (Bk.far b_v ne_v_r 0 (.int .i64 r0)) ne_v_r 1 (.int .i64 r1)) ne_v_r 2 (.int .i64 r2)),Bk.drew (Bk.put (Bk.put (Bk.put b_r 0 (.int .i64 r0) rfl) 1 (.int .i64 r1) rfl) 2 (.int .i64 r2) rfl),Bel.drew (Bel.set (Bel.set (Bel.set hB l_r 0 (.int .i64 r0)) l_r 1 (.int .i64 r1)) l_r 2 (.int .i64 r2))⟩ (fun wn hHeld HT_ HW_=>?_)
  refine pure_ (i:=0) (N:=some 25) (v:=?_) (a':=?_) #[true,false,false,false,false,false,false,false,false,false,false,false,false,false,false,false,false] rfl rfl (any_of HT_.out (by kernel_rfl)) (fun _ _ _ h=>h) (Or.inl ⟨by rfl,?_⟩) ?_ ?_
  rotate_left
  ·intro w'
   go_simp
   with_reducible rfl
  rotate_left
  ·simp only [Act.put,List.setIfInBounds_toArray,List.set_cons_zero,List.set_cons_succ]
   rfl
  refine pure_ (i:=1) (N:=some 26) (v:=?_) (a':=?_) #[true,true,false,false,false,false,false,false,false,false,false,false,false,false,false,false,false] rfl rfl (any_of HT_.out (by kernel_rfl)) (fun _ _ _ h=>h) (Or.inl ⟨by rfl,?_⟩) ?_ ?_
  rotate_left
  ·intro w'
   go_simp
   with_reducible rfl
  rotate_left
  ·simp only [Act.put,List.setIfInBounds_toArray,List.set_cons_zero,List.set_cons_succ]
   rfl
  refine take_ (i:=2) (N:=some 27) (v:=?_) (a':=?_) #[true,true,true,false,false,false,false,false,false,false,false,false,false,false,false,false,false] rfl rfl (take_ofW HT_.out HW_.out (by kernel_rfl)) (fun _ _ _ h=>h) (Or.inl ⟨by rfl,?_⟩) hHeld ?_ ?_
  rotate_left
  ·rintro w' ⟨s0,s1,s2,s3⟩
   have c_r0:World.cell? w' ⟨g_r,0,none⟩=some (.int .i64 r0):=(Bk.cell s2 0).trans rfl
   have c_r1:World.cell? w' ⟨g_r,1,none⟩=some (.int .i64 r1):=(Bk.cell s2 1).trans rfl
   have c_r2:World.cell? w' ⟨g_r,2,none⟩=some (.int .i64 r2):=(Bk.cell s2 2).trans rfl
   go_simp
   with_reducible rfl
  rotate_left
  ·simp only [Act.put,List.setIfInBounds_toArray,List.set_cons_zero,List.set_cons_succ]
   rfl
  refine pure_ (i:=3) (N:=some 28) (v:=?_) (a':=?_) #[true,true,true,true,false,false,false,false,false,false,false,false,false,false,false,false,false] rfl rfl (any_of HT_.out (by kernel_rfl)) (fun _ _ _ h=>h) (Or.inl ⟨by rfl,?_⟩) ?_ ?_
  rotate_left
  ·intro w'
   go_simp
   with_reducible rfl
  rotate_left
  ·simp only [Act.put,List.setIfInBounds_toArray,List.set_cons_zero,List.set_cons_succ]
   rfl
  refine take_ (i:=4) (N:=some 29) (v:=?_) (a':=?_) #[true,true,true,true,true,false,false,false,false,false,false,false,false,false,false,false,false] rfl rfl (take_ofW HT_.out HW_.out (by kernel_rfl)) (fun _ _ _ h=>h) (Or.inl ⟨by rfl,?_⟩) hHeld ?_ ?_
  rotate_left
  ·rintro w' ⟨s0,s1,s2,s3⟩
   have c_c0:World.cell? w' ⟨g_c,0,none⟩=some (.int .i64 a0_0):=(Bk.cell s0 0).trans rfl
   have c_c1:World.cell? w' ⟨g_c,1,none⟩=some (.int .i64 a0_1):=(Bk.cell s0 1).trans rfl
   have c_c2:World.cell? w' ⟨g_c,2,none⟩=some (.int .i64 a0_2):=(Bk.cell s0 2).trans rfl
   have c_c3:World.cell? w' ⟨g_c,3,none⟩=some (.int .i64 a0_3):=(Bk.cell s0 3).trans rfl
   have c_c4:World.cell? w' ⟨g_c,4,none⟩=some (.int .i64 a0_4):=(Bk.cell s0 4).trans rfl
   go_simp
   with_reducible rfl
  rotate_left
  ·simp only [Act.put,List.setIfInBounds_toArray,List.set_cons_zero,List.set_cons_succ]
   rfl
  refine pure_ (i:=5) (N:=some 30) (v:=?_) (a':=?_) #[true,true,true,true,true,true,false,false,false,false,false,false,false,false,false,false,false] rfl rfl (any_of HT_.out (by kernel_rfl)) (fun _ _ _ h=>h) (Or.inl ⟨by rfl,?_⟩) ?_ ?_
  rotate_left
  ·intro w'
   go_simp
   with_reducible rfl
  rotate_left
  ·simp only [Act.put,List.setIfInBounds_toArray,List.set_cons_zero,List.set_cons_succ]
   rfl
  refine pure_ (i:=6) (N:=some 31) (v:=?_) (a':=?_) #[true,true,true,true,true,true,true,false,false,false,false,false,false,false,false,false,false] rfl rfl (any_of HT_.out (by kernel_rfl)) (fun _ _ _ h=>h) (Or.inl ⟨by rfl,?_⟩) ?_ ?_
  rotate_left
  ·intro w'
   go_simp
   with_reducible rfl
  rotate_left
  ·simp only [Act.put,List.setIfInBounds_toArray,List.set_cons_zero,List.set_cons_succ]
   rfl
  refine pure_ (i:=7) (N:=some 32) (v:=?_) (a':=?_) #[true,true,true,true,true,true,true,true,false,false,false,false,false,false,false,false,false] rfl rfl (any_of HT_.out (by kernel_rfl)) (fun _ _ _ h=>h) (Or.inl ⟨by rfl,?_⟩) ?_ ?_
  rotate_left
  ·intro w'
   go_simp
   with_reducible rfl
  rotate_left
  ·simp only [Act.put,List.setIfInBounds_toArray,List.set_cons_zero,List.set_cons_succ]
   rfl
  refine pure_ (i:=8) (N:=some 33) (v:=?_) (a':=?_) #[true,true,true,true,true,true,true,true,true,false,false,false,false,false,false,false,false] rfl rfl (any_of HT_.out (by kernel_rfl)) (fun _ _ _ h=>h) (Or.inl ⟨by rfl,?_⟩) ?_ ?_
  rotate_left
  ·intro w'
   go_simp
   with_reducible rfl
  rotate_left
  ·simp only [Act.put,List.setIfInBounds_toArray,List.set_cons_zero,List.set_cons_succ]
   rfl
  refine pure_ (i:=9) (N:=some 34) (v:=?_) (a':=?_) #[true,true,true,true,true,true,true,true,true,true,false,false,false,false,false,false,false] rfl rfl (any_of HT_.out (by kernel_rfl)) (fun _ _ _ h=>h) (Or.inl ⟨by rfl,?_⟩) ?_ ?_
  rotate_left
  ·intro w'
   go_simp
   with_reducible rfl
  rotate_left
  ·simp only [Act.put,List.setIfInBounds_toArray,List.set_cons_zero,List.set_cons_succ]
   rfl
  refine take_ (i:=10) (N:=some 35) (v:=?_) (a':=?_) #[true,true,true,true,true,true,true,true,true,true,true,false,false,false,false,false,false] rfl rfl (take_ofW HT_.out HW_.out (by kernel_rfl)) (fun _ _ _ h=>h) (Or.inl ⟨by rfl,?_⟩) hHeld ?_ ?_
  rotate_left
  ·rintro w' ⟨s0,s1,s2,s3⟩
   have c_r0:World.cell? w' ⟨g_r,0,none⟩=some (.int .i64 r0):=(Bk.cell s2 0).trans rfl
   have c_r1:World.cell? w' ⟨g_r,1,none⟩=some (.int .i64 r1):=(Bk.cell s2 1).trans rfl
   have c_r2:World.cell? w' ⟨g_r,2,none⟩=some (.int .i64 r2):=(Bk.cell s2 2).trans rfl
   go_simp
   with_reducible rfl
  rotate_left
  ·simp only [Act.put,List.setIfInBounds_toArray,List.set_cons_zero,List.set_cons_succ]
   rfl
  refine pure_ (i:=11) (N:=some 36) (v:=?_) (a':=?_) #[true,true,true,true,true,true,true,true,true,true,true,true,false,false,false,false,false] rfl rfl (any_of HT_.out (by kernel_rfl)) (fun _ _ _ h=>h) (Or.inl ⟨by rfl,?_⟩) ?_ ?_
  rotate_left
  ·intro w'
   go_simp
   with_reducible rfl
  rotate_left
  ·simp only [Act.put,List.setIfInBounds_toArray,List.set_cons_zero,List.set_cons_succ]
   rfl
  refine take_ (i:=12) (N:=some 37) (v:=?_) (a':=?_) #[true,true,true,true,true,true,true,true,true,true,true,true,true,false,false,false,false] rfl rfl (take_ofW HT_.out HW_.out (by kernel_rfl)) (fun _ _ _ h=>h) (Or.inl ⟨by rfl,?_⟩) hHeld ?_ ?_
  rotate_left
  ·rintro w' ⟨s0,s1,s2,s3⟩
   have c_c0:World.cell? w' ⟨g_c,0,none⟩=some (.int .i64 a0_0):=(Bk.cell s0 0).trans rfl
   have c_c1:World.cell? w' ⟨g_c,1,none⟩=some (.int .i64 a0_1):=(Bk.cell s0 1).trans rfl
   have c_c2:World.cell? w' ⟨g_c,2,none⟩=some (.int .i64 a0_2):=(Bk.cell s0 2).trans rfl
   have c_c3:World.cell? w' ⟨g_c,3,none⟩=some (.int .i64 a0_3):=(Bk.cell s0 3).trans rfl
   have c_c4:World.cell? w' ⟨g_c,4,none⟩=some (.int .i64 a0_4):=(Bk.cell s0 4).trans rfl
   go_simp
   with_reducible rfl
  rotate_left
  ·simp only [Act.put,List.setIfInBounds_toArray,List.set_cons_zero,List.set_cons_succ]
   rfl
  refine pure_ (i:=13) (N:=some 38) (v:=?_) (a':=?_) #[true,true,true,true,true,true,true,true,true,true,true,true,true,true,false,false,false] rfl rfl (any_of HT_.out (by kernel_rfl)) (fun _ _ _ h=>h) (Or.inl ⟨by rfl,?_⟩) ?_ ?_
  rotate_left
  ·intro w'
   go_simp
   with_reducible rfl
  rotate_left
  ·simp only [Act.put,List.setIfInBounds_toArray,List.set_cons_zero,List.set_cons_succ]
   rfl
  refine pure_ (i:=14) (N:=some 39) (v:=?_) (a':=?_) #[true,true,true,true,true,true,true,true,true,true,true,true,true,true,true,false,false] rfl rfl (any_of HT_.out (by kernel_rfl)) (fun _ _ _ h=>h) (Or.inl ⟨by rfl,?_⟩) ?_ ?_
  rotate_left
  ·intro w'
   go_simp
   with_reducible rfl
  rotate_left
  ·simp only [Act.put,List.setIfInBounds_toArray,List.set_cons_zero,List.set_cons_succ]
   rfl
  refine pure_ (i:=15) (N:=some 40) (v:=?_) (a':=?_) #[true,true,true,true,true,true,true,true,true,true,true,true,true,true,true,true,false] rfl rfl (any_of HT_.out (by kernel_rfl)) (fun _ _ _ h=>h) (Or.inl ⟨by rfl,?_⟩) ?_ ?_
  rotate_left
  ·intro w'
   go_simp
   with_reducible rfl
  rotate_left
  ·simp only [Act.put,List.setIfInBounds_toArray,List.set_cons_zero,List.set_cons_succ]
   rfl
  refine pure_ (i:=16) (N:=some 41) (v:=?_) (a':=?_) #[true,true,true,true,true,true,true,true,true,true,true,true,true,true,true,true,true] rfl rfl (any_of HT_.out (by kernel_rfl)) (fun _ _ _ h=>h) (Or.inl ⟨by rfl,?_⟩) ?_ ?_
  rotate_left
  ·intro w'
   go_simp
   with_reducible rfl
  rotate_left
  ·simp only [Act.put,List.setIfInBounds_toArray,List.set_cons_zero,List.set_cons_succ]
   rfl
  refine done_ (done_of HT_.out (by kernel_rfl)) ?_
  clear b_c b_v b_r hB
  obtain⟨b_c,b_v,b_r,hB⟩:=hHeld
  have c_c0:World.cell? wn ⟨g_c,0,none⟩=some (.int .i64 a0_0):=(Bk.cell b_c 0).trans rfl
  have f_c0:=Bk.frozen b_c 0
  have c_c1:World.cell? wn ⟨g_c,1,none⟩=some (.int .i64 a0_1):=(Bk.cell b_c 1).trans rfl
  have f_c1:=Bk.frozen b_c 1
  have c_c2:World.cell? wn ⟨g_c,2,none⟩=some (.int .i64 a0_2):=(Bk.cell b_c 2).trans rfl
  have f_c2:=Bk.frozen b_c 2
  have c_c3:World.cell? wn ⟨g_c,3,none⟩=some (.int .i64 a0_3):=(Bk.cell b_c 3).trans rfl
  have f_c3:=Bk.frozen b_c 3
  have c_c4:World.cell? wn ⟨g_c,4,none⟩=some (.int .i64 a0_4):=(Bk.cell b_c 4).trans rfl
  have f_c4:=Bk.frozen b_c 4
  have c_v0:World.cell? wn ⟨g_v,0,none⟩=some (.int .i64 a1_0):=(Bk.cell b_v 0).trans rfl
  have f_v0:=Bk.frozen b_v 0
  have c_v1:World.cell? wn ⟨g_v,1,none⟩=some (.int .i64 a1_1):=(Bk.cell b_v 1).trans rfl
  have f_v1:=Bk.frozen b_v 1
  have c_v2:World.cell? wn ⟨g_v,2,none⟩=some (.int .i64 a1_2):=(Bk.cell b_v 2).trans rfl
  have f_v2:=Bk.frozen b_v 2
  have c_r0:World.cell? wn ⟨g_r,0,none⟩=some (.int .i64 r0):=(Bk.cell b_r 0).trans rfl
  have f_r0:=Bk.frozen b_r 0
  have c_r1:World.cell? wn ⟨g_r,1,none⟩=some (.int .i64 r1):=(Bk.cell b_r 1).trans rfl
  have f_r1:=Bk.frozen b_r 1
  have c_r2:World.cell? wn ⟨g_r,2,none⟩=some (.int .i64 r2):=(Bk.cell b_r 2).trans rfl
  have f_r2:=Bk.frozen b_r 2
  go_wp2
  clear x0 x1 x2
  rw [rounds_succ]
  go_wp2
  have x0:decide (r1 > M)=false:=decide_eq_false (by have h_:=X1.out.1;omega)
  have x1:decide (r1<wrap64 (-M))=false:=decide_eq_false (by have h_:=X1.out.2;omega)
  have x2:decide (r1<IntKind.i64.wrap (-M))=false:=by rw [i64_w];exact x1
  refine start2_ (n:=17) (S:=fun w'=>Bk w' g_c #[.int .i64 a0_0,.int .i64 a0_1,.int .i64 a0_2,.int .i64 a0_3,.int .i64 a0_4] 24∧Bk w' g_v #[.int .i64 a1_0,.int .i64 a1_1,.int .i64 a1_2] 22∧Bk w' g_r #[.int .i64 r0,.int .i64 r1,.int .i64 r2] 22∧Bel w w') (ds:=[]) #[false,false,false,false,false,false,false,false,false,false,false,false,false,false,false,false,false] (by kernel_rfl) rfl rfl outriggerlaw18_SenseBounds.tab6 outriggerlaw18_SenseBounds.bits6 ⟨Bk.drew b_c,Bk.drew b_v,Bk.drew b_r,Bel.drew hB⟩ (fun wn hHeld HT_ HW_=>?_)
  refine pure_ (i:=0) (N:=some 25) (v:=?_) (a':=?_) #[true,false,false,false,false,false,false,false,false,false,false,false,false,false,false,false,false] rfl rfl (any_of HT_.out (by kernel_rfl)) (fun _ _ _ h=>h) (Or.inl ⟨by rfl,?_⟩) ?_ ?_
  rotate_left
  ·intro w'
   go_simp
   with_reducible rfl
  rotate_left
  ·simp only [Act.put,List.setIfInBounds_toArray,List.set_cons_zero,List.set_cons_succ]
   rfl
  refine pure_ (i:=1) (N:=some 26) (v:=?_) (a':=?_) #[true,true,false,false,false,false,false,false,false,false,false,false,false,false,false,false,false] rfl rfl (any_of HT_.out (by kernel_rfl)) (fun _ _ _ h=>h) (Or.inl ⟨by rfl,?_⟩) ?_ ?_
  rotate_left
  ·intro w'
   go_simp
   with_reducible rfl
  rotate_left
  ·simp only [Act.put,List.setIfInBounds_toArray,List.set_cons_zero,List.set_cons_succ]
   rfl
  refine take_ (i:=2) (N:=some 27) (v:=?_) (a':=?_) #[true,true,true,false,false,false,false,false,false,false,false,false,false,false,false,false,false] rfl rfl (take_ofW HT_.out HW_.out (by kernel_rfl)) (fun _ _ _ h=>h) (Or.inl ⟨by rfl,?_⟩) hHeld ?_ ?_
  rotate_left
  ·rintro w' ⟨s0,s1,s2,s3⟩
   have c_r0:World.cell? w' ⟨g_r,0,none⟩=some (.int .i64 r0):=(Bk.cell s2 0).trans rfl
   have c_r1:World.cell? w' ⟨g_r,1,none⟩=some (.int .i64 r1):=(Bk.cell s2 1).trans rfl
   have c_r2:World.cell? w' ⟨g_r,2,none⟩=some (.int .i64 r2):=(Bk.cell s2 2).trans rfl
   go_simp
   with_reducible rfl
  rotate_left
  ·simp only [Act.put,List.setIfInBounds_toArray,List.set_cons_zero,List.set_cons_succ]
   rfl
  refine pure_ (i:=3) (N:=some 28) (v:=?_) (a':=?_) #[true,true,true,true,false,false,false,false,false,false,false,false,false,false,false,false,false] rfl rfl (any_of HT_.out (by kernel_rfl)) (fun _ _ _ h=>h) (Or.inl ⟨by rfl,?_⟩) ?_ ?_
  rotate_left
  ·intro w'
   go_simp
   with_reducible rfl
  rotate_left
  ·simp only [Act.put,List.setIfInBounds_toArray,List.set_cons_zero,List.set_cons_succ]
   rfl
  refine take_ (i:=4) (N:=some 29) (v:=?_) (a':=?_) #[true,true,true,true,true,false,false,false,false,false,false,false,false,false,false,false,false] rfl rfl (take_ofW HT_.out HW_.out (by kernel_rfl)) (fun _ _ _ h=>h) (Or.inl ⟨by rfl,?_⟩) hHeld ?_ ?_
  rotate_left
  ·rintro w' ⟨s0,s1,s2,s3⟩
   have c_c0:World.cell? w' ⟨g_c,0,none⟩=some (.int .i64 a0_0):=(Bk.cell s0 0).trans rfl
   have c_c1:World.cell? w' ⟨g_c,1,none⟩=some (.int .i64 a0_1):=(Bk.cell s0 1).trans rfl
   have c_c2:World.cell? w' ⟨g_c,2,none⟩=some (.int .i64 a0_2):=(Bk.cell s0 2).trans rfl
   have c_c3:World.cell? w' ⟨g_c,3,none⟩=some (.int .i64 a0_3):=(Bk.cell s0 3).trans rfl
   have c_c4:World.cell? w' ⟨g_c,4,none⟩=some (.int .i64 a0_4):=(Bk.cell s0 4).trans rfl
   go_simp
   with_reducible rfl
  rotate_left
  ·simp only [Act.put,List.setIfInBounds_toArray,List.set_cons_zero,List.set_cons_succ]
   rfl
  refine pure_ (i:=5) (N:=some 30) (v:=?_) (a':=?_) #[true,true,true,true,true,true,false,false,false,false,false,false,false,false,false,false,false] rfl rfl (any_of HT_.out (by kernel_rfl)) (fun _ _ _ h=>h) (Or.inl ⟨by rfl,?_⟩) ?_ ?_
  rotate_left
  ·intro w'
   go_simp
   with_reducible rfl
  rotate_left
  ·simp only [Act.put,List.setIfInBounds_toArray,List.set_cons_zero,List.set_cons_succ]
   rfl
  refine pure_ (i:=6) (N:=some 31) (v:=?_) (a':=?_) #[true,true,true,true,true,true,true,false,false,false,false,false,false,false,false,false,false] rfl rfl (any_of HT_.out (by kernel_rfl)) (fun _ _ _ h=>h) (Or.inl ⟨by rfl,?_⟩) ?_ ?_
  rotate_left
  ·intro w'
   go_simp
   with_reducible rfl
  rotate_left
  ·simp only [Act.put,List.setIfInBounds_toArray,List.set_cons_zero,List.set_cons_succ]
   rfl
  refine pure_ (i:=7) (N:=some 32) (v:=?_) (a':=?_) #[true,true,true,true,true,true,true,true,false,false,false,false,false,false,false,false,false] rfl rfl (any_of HT_.out (by kernel_rfl)) (fun _ _ _ h=>h) (Or.inl ⟨by rfl,?_⟩) ?_ ?_
  rotate_left
  ·intro w'
   go_simp
   with_reducible rfl
  rotate_left
  ·simp only [Act.put,List.setIfInBounds_toArray,List.set_cons_zero,List.set_cons_succ]
   rfl
  refine pure_ (i:=8) (N:=some 33) (v:=?_) (a':=?_) #[true,true,true,true,true,true,true,true,true,false,false,false,false,false,false,false,false] rfl rfl (any_of HT_.out (by kernel_rfl)) (fun _ _ _ h=>h) (Or.inl ⟨by rfl,?_⟩) ?_ ?_
  rotate_left
  ·intro w'
   go_simp
   with_reducible rfl
  rotate_left
  ·simp only [Act.put,List.setIfInBounds_toArray,List.set_cons_zero,List.set_cons_succ]
   rfl
  refine pure_ (i:=9) (N:=some 34) (v:=?_) (a':=?_) #[true,true,true,true,true,true,true,true,true,true,false,false,false,false,false,false,false] rfl rfl (any_of HT_.out (by kernel_rfl)) (fun _ _ _ h=>h) (Or.inl ⟨by rfl,?_⟩) ?_ ?_
  rotate_left
  ·intro w'
   go_simp
   with_reducible rfl
  rotate_left
  ·simp only [Act.put,List.setIfInBounds_toArray,List.set_cons_zero,List.set_cons_succ]
   rfl
  refine take_ (i:=10) (N:=some 35) (v:=?_) (a':=?_) #[true,true,true,true,true,true,true,true,true,true,true,false,false,false,false,false,false] rfl rfl (take_ofW HT_.out HW_.out (by kernel_rfl)) (fun _ _ _ h=>h) (Or.inl ⟨by rfl,?_⟩) hHeld ?_ ?_
  rotate_left
  ·rintro w' ⟨s0,s1,s2,s3⟩
   have c_r0:World.cell? w' ⟨g_r,0,none⟩=some (.int .i64 r0):=(Bk.cell s2 0).trans rfl
   have c_r1:World.cell? w' ⟨g_r,1,none⟩=some (.int .i64 r1):=(Bk.cell s2 1).trans rfl
   have c_r2:World.cell? w' ⟨g_r,2,none⟩=some (.int .i64 r2):=(Bk.cell s2 2).trans rfl
   go_simp
   with_reducible rfl
  rotate_left
  ·simp only [Act.put,List.setIfInBounds_toArray,List.set_cons_zero,List.set_cons_succ]
   rfl
  refine pure_ (i:=11) (N:=some 36) (v:=?_) (a':=?_) #[true,true,true,true,true,true,true,true,true,true,true,true,false,false,false,false,false] rfl rfl (any_of HT_.out (by kernel_rfl)) (fun _ _ _ h=>h) (Or.inl ⟨by rfl,?_⟩) ?_ ?_
  rotate_left
  ·intro w'
   go_simp
   with_reducible rfl
  rotate_left
  ·simp only [Act.put,List.setIfInBounds_toArray,List.set_cons_zero,List.set_cons_succ]
   rfl
  refine take_ (i:=12) (N:=some 37) (v:=?_) (a':=?_) #[true,true,true,true,true,true,true,true,true,true,true,true,true,false,false,false,false] rfl rfl (take_ofW HT_.out HW_.out (by kernel_rfl)) (fun _ _ _ h=>h) (Or.inl ⟨by rfl,?_⟩) hHeld ?_ ?_
  rotate_left
  ·rintro w' ⟨s0,s1,s2,s3⟩
   have c_c0:World.cell? w' ⟨g_c,0,none⟩=some (.int .i64 a0_0):=(Bk.cell s0 0).trans rfl
   have c_c1:World.cell? w' ⟨g_c,1,none⟩=some (.int .i64 a0_1):=(Bk.cell s0 1).trans rfl
   have c_c2:World.cell? w' ⟨g_c,2,none⟩=some (.int .i64 a0_2):=(Bk.cell s0 2).trans rfl
   have c_c3:World.cell? w' ⟨g_c,3,none⟩=some (.int .i64 a0_3):=(Bk.cell s0 3).trans rfl
   have c_c4:World.cell? w' ⟨g_c,4,none⟩=some (.int .i64 a0_4):=(Bk.cell s0 4).trans rfl
   go_simp
   with_reducible rfl
  rotate_left
  ·simp only [Act.put,List.setIfInBounds_toArray,List.set_cons_zero,List.set_cons_succ]
   rfl
  refine pure_ (i:=13) (N:=some 38) (v:=?_) (a':=?_) #[true,true,true,true,true,true,true,true,true,true,true,true,true,true,false,false,false] rfl rfl (any_of HT_.out (by kernel_rfl)) (fun _ _ _ h=>h) (Or.inl ⟨by rfl,?_⟩) ?_ ?_
  rotate_left
  ·intro w'
   go_simp
   with_reducible rfl
  rotate_left
  ·simp only [Act.put,List.setIfInBounds_toArray,List.set_cons_zero,List.set_cons_succ]
   rfl
  refine pure_ (i:=14) (N:=some 39) (v:=?_) (a':=?_) #[true,true,true,true,true,true,true,true,true,true,true,true,true,true,true,false,false] rfl rfl (any_of HT_.out (by kernel_rfl)) (fun _ _ _ h=>h) (Or.inl ⟨by rfl,?_⟩) ?_ ?_
  rotate_left
  ·intro w'
   go_simp
   with_reducible rfl
  rotate_left
  ·simp only [Act.put,List.setIfInBounds_toArray,List.set_cons_zero,List.set_cons_succ]
   rfl
  refine pure_ (i:=15) (N:=some 40) (v:=?_) (a':=?_) #[true,true,true,true,true,true,true,true,true,true,true,true,true,true,true,true,false] rfl rfl (any_of HT_.out (by kernel_rfl)) (fun _ _ _ h=>h) (Or.inl ⟨by rfl,?_⟩) ?_ ?_
  rotate_left
  ·intro w'
   go_simp
   with_reducible rfl
  rotate_left
  ·simp only [Act.put,List.setIfInBounds_toArray,List.set_cons_zero,List.set_cons_succ]
   rfl
  refine pure_ (i:=16) (N:=some 41) (v:=?_) (a':=?_) #[true,true,true,true,true,true,true,true,true,true,true,true,true,true,true,true,true] rfl rfl (any_of HT_.out (by kernel_rfl)) (fun _ _ _ h=>h) (Or.inl ⟨by rfl,?_⟩) ?_ ?_
  rotate_left
  ·intro w'
   go_simp
   with_reducible rfl
  rotate_left
  ·simp only [Act.put,List.setIfInBounds_toArray,List.set_cons_zero,List.set_cons_succ]
   rfl
  refine done_ (done_of HT_.out (by kernel_rfl)) ?_
  clear b_c b_v b_r hB
  obtain⟨b_c,b_v,b_r,hB⟩:=hHeld
  have c_c0:World.cell? wn ⟨g_c,0,none⟩=some (.int .i64 a0_0):=(Bk.cell b_c 0).trans rfl
  have f_c0:=Bk.frozen b_c 0
  have c_c1:World.cell? wn ⟨g_c,1,none⟩=some (.int .i64 a0_1):=(Bk.cell b_c 1).trans rfl
  have f_c1:=Bk.frozen b_c 1
  have c_c2:World.cell? wn ⟨g_c,2,none⟩=some (.int .i64 a0_2):=(Bk.cell b_c 2).trans rfl
  have f_c2:=Bk.frozen b_c 2
  have c_c3:World.cell? wn ⟨g_c,3,none⟩=some (.int .i64 a0_3):=(Bk.cell b_c 3).trans rfl
  have f_c3:=Bk.frozen b_c 3
  have c_c4:World.cell? wn ⟨g_c,4,none⟩=some (.int .i64 a0_4):=(Bk.cell b_c 4).trans rfl
  have f_c4:=Bk.frozen b_c 4
  have c_v0:World.cell? wn ⟨g_v,0,none⟩=some (.int .i64 a1_0):=(Bk.cell b_v 0).trans rfl
  have f_v0:=Bk.frozen b_v 0
  have c_v1:World.cell? wn ⟨g_v,1,none⟩=some (.int .i64 a1_1):=(Bk.cell b_v 1).trans rfl
  have f_v1:=Bk.frozen b_v 1
  have c_v2:World.cell? wn ⟨g_v,2,none⟩=some (.int .i64 a1_2):=(Bk.cell b_v 2).trans rfl
  have f_v2:=Bk.frozen b_v 2
  have c_r0:World.cell? wn ⟨g_r,0,none⟩=some (.int .i64 r0):=(Bk.cell b_r 0).trans rfl
  have f_r0:=Bk.frozen b_r 0
  have c_r1:World.cell? wn ⟨g_r,1,none⟩=some (.int .i64 r1):=(Bk.cell b_r 1).trans rfl
  have f_r1:=Bk.frozen b_r 1
  have c_r2:World.cell? wn ⟨g_r,2,none⟩=some (.int .i64 r2):=(Bk.cell b_r 2).trans rfl
  have f_r2:=Bk.frozen b_r 2
  go_wp2
  clear x0 x1 x2
  rw [rounds_succ]
  go_wp2
  have x0:decide (r2 > M)=false:=decide_eq_false (by have h_:=X2.out.1;omega)
  have x1:decide (r2<wrap64 (-M))=false:=decide_eq_false (by have h_:=X2.out.2;omega)
  have x2:decide (r2<IntKind.i64.wrap (-M))=false:=by rw [i64_w];exact x1
  refine start2_ (n:=17) (S:=fun w'=>Bk w' g_c #[.int .i64 a0_0,.int .i64 a0_1,.int .i64 a0_2,.int .i64 a0_3,.int .i64 a0_4] 24∧Bk w' g_v #[.int .i64 a1_0,.int .i64 a1_1,.int .i64 a1_2] 22∧Bk w' g_r #[.int .i64 r0,.int .i64 r1,.int .i64 r2] 22∧Bel w w') (ds:=[]) #[false,false,false,false,false,false,false,false,false,false,false,false,false,false,false,false,false] (by kernel_rfl) rfl rfl outriggerlaw18_SenseBounds.tab6 outriggerlaw18_SenseBounds.bits6 ⟨Bk.drew b_c,Bk.drew b_v,Bk.drew b_r,Bel.drew hB⟩ (fun wn hHeld HT_ HW_=>?_)
  refine pure_ (i:=0) (N:=some 25) (v:=?_) (a':=?_) #[true,false,false,false,false,false,false,false,false,false,false,false,false,false,false,false,false] rfl rfl (any_of HT_.out (by kernel_rfl)) (fun _ _ _ h=>h) (Or.inl ⟨by rfl,?_⟩) ?_ ?_
  rotate_left
  ·intro w'
   go_simp
   with_reducible rfl
  rotate_left
  ·simp only [Act.put,List.setIfInBounds_toArray,List.set_cons_zero,List.set_cons_succ]
   rfl
  refine pure_ (i:=1) (N:=some 26) (v:=?_) (a':=?_) #[true,true,false,false,false,false,false,false,false,false,false,false,false,false,false,false,false] rfl rfl (any_of HT_.out (by kernel_rfl)) (fun _ _ _ h=>h) (Or.inl ⟨by rfl,?_⟩) ?_ ?_
  rotate_left
  ·intro w'
   go_simp
   with_reducible rfl
  rotate_left
  ·simp only [Act.put,List.setIfInBounds_toArray,List.set_cons_zero,List.set_cons_succ]
   rfl
  refine take_ (i:=2) (N:=some 27) (v:=?_) (a':=?_) #[true,true,true,false,false,false,false,false,false,false,false,false,false,false,false,false,false] rfl rfl (take_ofW HT_.out HW_.out (by kernel_rfl)) (fun _ _ _ h=>h) (Or.inl ⟨by rfl,?_⟩) hHeld ?_ ?_
  rotate_left
  ·rintro w' ⟨s0,s1,s2,s3⟩
   have c_r0:World.cell? w' ⟨g_r,0,none⟩=some (.int .i64 r0):=(Bk.cell s2 0).trans rfl
   have c_r1:World.cell? w' ⟨g_r,1,none⟩=some (.int .i64 r1):=(Bk.cell s2 1).trans rfl
   have c_r2:World.cell? w' ⟨g_r,2,none⟩=some (.int .i64 r2):=(Bk.cell s2 2).trans rfl
   go_simp
   with_reducible rfl
  rotate_left
  ·simp only [Act.put,List.setIfInBounds_toArray,List.set_cons_zero,List.set_cons_succ]
   rfl
  refine pure_ (i:=3) (N:=some 28) (v:=?_) (a':=?_) #[true,true,true,true,false,false,false,false,false,false,false,false,false,false,false,false,false] rfl rfl (any_of HT_.out (by kernel_rfl)) (fun _ _ _ h=>h) (Or.inl ⟨by rfl,?_⟩) ?_ ?_
  rotate_left
  ·intro w'
   go_simp
   with_reducible rfl
  rotate_left
  ·simp only [Act.put,List.setIfInBounds_toArray,List.set_cons_zero,List.set_cons_succ]
   rfl
  refine take_ (i:=4) (N:=some 29) (v:=?_) (a':=?_) #[true,true,true,true,true,false,false,false,false,false,false,false,false,false,false,false,false] rfl rfl (take_ofW HT_.out HW_.out (by kernel_rfl)) (fun _ _ _ h=>h) (Or.inl ⟨by rfl,?_⟩) hHeld ?_ ?_
  rotate_left
  ·rintro w' ⟨s0,s1,s2,s3⟩
   have c_c0:World.cell? w' ⟨g_c,0,none⟩=some (.int .i64 a0_0):=(Bk.cell s0 0).trans rfl
   have c_c1:World.cell? w' ⟨g_c,1,none⟩=some (.int .i64 a0_1):=(Bk.cell s0 1).trans rfl
   have c_c2:World.cell? w' ⟨g_c,2,none⟩=some (.int .i64 a0_2):=(Bk.cell s0 2).trans rfl
   have c_c3:World.cell? w' ⟨g_c,3,none⟩=some (.int .i64 a0_3):=(Bk.cell s0 3).trans rfl
   have c_c4:World.cell? w' ⟨g_c,4,none⟩=some (.int .i64 a0_4):=(Bk.cell s0 4).trans rfl
   go_simp
   with_reducible rfl
  rotate_left
  ·simp only [Act.put,List.setIfInBounds_toArray,List.set_cons_zero,List.set_cons_succ]
   rfl
  refine pure_ (i:=5) (N:=some 30) (v:=?_) (a':=?_) #[true,true,true,true,true,true,false,false,false,false,false,false,false,false,false,false,false] rfl rfl (any_of HT_.out (by kernel_rfl)) (fun _ _ _ h=>h) (Or.inl ⟨by rfl,?_⟩) ?_ ?_
  rotate_left
  ·intro w'
   go_simp
   with_reducible rfl
  rotate_left
  ·simp only [Act.put,List.setIfInBounds_toArray,List.set_cons_zero,List.set_cons_succ]
   rfl
  refine pure_ (i:=6) (N:=some 31) (v:=?_) (a':=?_) #[true,true,true,true,true,true,true,false,false,false,false,false,false,false,false,false,false] rfl rfl (any_of HT_.out (by kernel_rfl)) (fun _ _ _ h=>h) (Or.inl ⟨by rfl,?_⟩) ?_ ?_
  rotate_left
  ·intro w'
   go_simp
   with_reducible rfl
  rotate_left
  ·simp only [Act.put,List.setIfInBounds_toArray,List.set_cons_zero,List.set_cons_succ]
   rfl
  refine pure_ (i:=7) (N:=some 32) (v:=?_) (a':=?_) #[true,true,true,true,true,true,true,true,false,false,false,false,false,false,false,false,false] rfl rfl (any_of HT_.out (by kernel_rfl)) (fun _ _ _ h=>h) (Or.inl ⟨by rfl,?_⟩) ?_ ?_
  rotate_left
  ·intro w'
   go_simp
   with_reducible rfl
  rotate_left
  ·simp only [Act.put,List.setIfInBounds_toArray,List.set_cons_zero,List.set_cons_succ]
   rfl
  refine pure_ (i:=8) (N:=some 33) (v:=?_) (a':=?_) #[true,true,true,true,true,true,true,true,true,false,false,false,false,false,false,false,false] rfl rfl (any_of HT_.out (by kernel_rfl)) (fun _ _ _ h=>h) (Or.inl ⟨by rfl,?_⟩) ?_ ?_
  rotate_left
  ·intro w'
   go_simp
   with_reducible rfl
  rotate_left
  ·simp only [Act.put,List.setIfInBounds_toArray,List.set_cons_zero,List.set_cons_succ]
   rfl
  refine pure_ (i:=9) (N:=some 34) (v:=?_) (a':=?_) #[true,true,true,true,true,true,true,true,true,true,false,false,false,false,false,false,false] rfl rfl (any_of HT_.out (by kernel_rfl)) (fun _ _ _ h=>h) (Or.inl ⟨by rfl,?_⟩) ?_ ?_
  rotate_left
  ·intro w'
   go_simp
   with_reducible rfl
  rotate_left
  ·simp only [Act.put,List.setIfInBounds_toArray,List.set_cons_zero,List.set_cons_succ]
   rfl
  refine take_ (i:=10) (N:=some 35) (v:=?_) (a':=?_) #[true,true,true,true,true,true,true,true,true,true,true,false,false,false,false,false,false] rfl rfl (take_ofW HT_.out HW_.out (by kernel_rfl)) (fun _ _ _ h=>h) (Or.inl ⟨by rfl,?_⟩) hHeld ?_ ?_
  rotate_left
  ·rintro w' ⟨s0,s1,s2,s3⟩
   have c_r0:World.cell? w' ⟨g_r,0,none⟩=some (.int .i64 r0):=(Bk.cell s2 0).trans rfl
   have c_r1:World.cell? w' ⟨g_r,1,none⟩=some (.int .i64 r1):=(Bk.cell s2 1).trans rfl
   have c_r2:World.cell? w' ⟨g_r,2,none⟩=some (.int .i64 r2):=(Bk.cell s2 2).trans rfl
   go_simp
   with_reducible rfl
  rotate_left
  ·simp only [Act.put,List.setIfInBounds_toArray,List.set_cons_zero,List.set_cons_succ]
   rfl
  refine pure_ (i:=11) (N:=some 36) (v:=?_) (a':=?_) #[true,true,true,true,true,true,true,true,true,true,true,true,false,false,false,false,false] rfl rfl (any_of HT_.out (by kernel_rfl)) (fun _ _ _ h=>h) (Or.inl ⟨by rfl,?_⟩) ?_ ?_
  rotate_left
  ·intro w'
   go_simp
   with_reducible rfl
  rotate_left
  ·simp only [Act.put,List.setIfInBounds_toArray,List.set_cons_zero,List.set_cons_succ]
   rfl
  refine take_ (i:=12) (N:=some 37) (v:=?_) (a':=?_) #[true,true,true,true,true,true,true,true,true,true,true,true,true,false,false,false,false] rfl rfl (take_ofW HT_.out HW_.out (by kernel_rfl)) (fun _ _ _ h=>h) (Or.inl ⟨by rfl,?_⟩) hHeld ?_ ?_
  rotate_left
  ·rintro w' ⟨s0,s1,s2,s3⟩
   have c_c0:World.cell? w' ⟨g_c,0,none⟩=some (.int .i64 a0_0):=(Bk.cell s0 0).trans rfl
   have c_c1:World.cell? w' ⟨g_c,1,none⟩=some (.int .i64 a0_1):=(Bk.cell s0 1).trans rfl
   have c_c2:World.cell? w' ⟨g_c,2,none⟩=some (.int .i64 a0_2):=(Bk.cell s0 2).trans rfl
   have c_c3:World.cell? w' ⟨g_c,3,none⟩=some (.int .i64 a0_3):=(Bk.cell s0 3).trans rfl
   have c_c4:World.cell? w' ⟨g_c,4,none⟩=some (.int .i64 a0_4):=(Bk.cell s0 4).trans rfl
   go_simp
   with_reducible rfl
  rotate_left
  ·simp only [Act.put,List.setIfInBounds_toArray,List.set_cons_zero,List.set_cons_succ]
   rfl
  refine pure_ (i:=13) (N:=some 38) (v:=?_) (a':=?_) #[true,true,true,true,true,true,true,true,true,true,true,true,true,true,false,false,false] rfl rfl (any_of HT_.out (by kernel_rfl)) (fun _ _ _ h=>h) (Or.inl ⟨by rfl,?_⟩) ?_ ?_
  rotate_left
  ·intro w'
   go_simp
   with_reducible rfl
  rotate_left
  ·simp only [Act.put,List.setIfInBounds_toArray,List.set_cons_zero,List.set_cons_succ]
   rfl
  refine pure_ (i:=14) (N:=some 39) (v:=?_) (a':=?_) #[true,true,true,true,true,true,true,true,true,true,true,true,true,true,true,false,false] rfl rfl (any_of HT_.out (by kernel_rfl)) (fun _ _ _ h=>h) (Or.inl ⟨by rfl,?_⟩) ?_ ?_
  rotate_left
  ·intro w'
   go_simp
   with_reducible rfl
  rotate_left
  ·simp only [Act.put,List.setIfInBounds_toArray,List.set_cons_zero,List.set_cons_succ]
   rfl
  refine pure_ (i:=15) (N:=some 40) (v:=?_) (a':=?_) #[true,true,true,true,true,true,true,true,true,true,true,true,true,true,true,true,false] rfl rfl (any_of HT_.out (by kernel_rfl)) (fun _ _ _ h=>h) (Or.inl ⟨by rfl,?_⟩) ?_ ?_
  rotate_left
  ·intro w'
   go_simp
   with_reducible rfl
  rotate_left
  ·simp only [Act.put,List.setIfInBounds_toArray,List.set_cons_zero,List.set_cons_succ]
   rfl
  refine pure_ (i:=16) (N:=some 41) (v:=?_) (a':=?_) #[true,true,true,true,true,true,true,true,true,true,true,true,true,true,true,true,true] rfl rfl (any_of HT_.out (by kernel_rfl)) (fun _ _ _ h=>h) (Or.inl ⟨by rfl,?_⟩) ?_ ?_
  rotate_left
  ·intro w'
   go_simp
   with_reducible rfl
  rotate_left
  ·simp only [Act.put,List.setIfInBounds_toArray,List.set_cons_zero,List.set_cons_succ]
   rfl
  refine done_ (done_of HT_.out (by kernel_rfl)) ?_
  clear b_c b_v b_r hB
  obtain⟨b_c,b_v,b_r,hB⟩:=hHeld
  have c_c0:World.cell? wn ⟨g_c,0,none⟩=some (.int .i64 a0_0):=(Bk.cell b_c 0).trans rfl
  have f_c0:=Bk.frozen b_c 0
  have c_c1:World.cell? wn ⟨g_c,1,none⟩=some (.int .i64 a0_1):=(Bk.cell b_c 1).trans rfl
  have f_c1:=Bk.frozen b_c 1
  have c_c2:World.cell? wn ⟨g_c,2,none⟩=some (.int .i64 a0_2):=(Bk.cell b_c 2).trans rfl
  have f_c2:=Bk.frozen b_c 2
  have c_c3:World.cell? wn ⟨g_c,3,none⟩=some (.int .i64 a0_3):=(Bk.cell b_c 3).trans rfl
  have f_c3:=Bk.frozen b_c 3
  have c_c4:World.cell? wn ⟨g_c,4,none⟩=some (.int .i64 a0_4):=(Bk.cell b_c 4).trans rfl
  have f_c4:=Bk.frozen b_c 4
  have c_v0:World.cell? wn ⟨g_v,0,none⟩=some (.int .i64 a1_0):=(Bk.cell b_v 0).trans rfl
  have f_v0:=Bk.frozen b_v 0
  have c_v1:World.cell? wn ⟨g_v,1,none⟩=some (.int .i64 a1_1):=(Bk.cell b_v 1).trans rfl
  have f_v1:=Bk.frozen b_v 1
  have c_v2:World.cell? wn ⟨g_v,2,none⟩=some (.int .i64 a1_2):=(Bk.cell b_v 2).trans rfl
  have f_v2:=Bk.frozen b_v 2
  have c_r0:World.cell? wn ⟨g_r,0,none⟩=some (.int .i64 r0):=(Bk.cell b_r 0).trans rfl
  have f_r0:=Bk.frozen b_r 0
  have c_r1:World.cell? wn ⟨g_r,1,none⟩=some (.int .i64 r1):=(Bk.cell b_r 1).trans rfl
  have f_r1:=Bk.frozen b_r 1
  have c_r2:World.cell? wn ⟨g_r,2,none⟩=some (.int .i64 r2):=(Bk.cell b_r 2).trans rfl
  have f_r2:=Bk.frozen b_r 2
  go_wp2
  clear x0 x1 x2
  rw [rounds_succ]
  go_upto_region 10 with (((with_reducible refine gate_dst (N:=9) rfl ?_);refine box_event ?hg (N:=9) ?hd (cs:=#[.int .i64 0,.int .i64 0,.int .i64 0,.int .i64 0,.int .i64 0]) (t:=24) ?hr ?_;(case hd=>rfl);(case hg=>rfl);(case hr=>first|(go_simp;done)|(go_simp;rfl));intro g_d hg w1 b_d hb;have b_d:Bk w1 g_d #[.int .i64 0,.int .i64 0,.int .i64 0,.int .i64 0,.int .i64 0] 24:=b_d;have l_d:w.heap.size≤g_d:=(by rw [hg];exact Bel.size hB);have ne_c_d:g_c≠g_d:=(by rw [hg];exact Nat.ne_of_lt (Bk.lt b_c));have ne_d_c:g_d≠g_c:=Ne.symm ne_c_d;have ne_v_d:g_v≠g_d:=(by rw [hg];exact Nat.ne_of_lt (Bk.lt b_v));have ne_d_v:g_d≠g_v:=Ne.symm ne_v_d;have ne_r_d:g_r≠g_d:=(by rw [hg];exact Nat.ne_of_lt (Bk.lt b_r));have ne_d_r:g_d≠g_r:=Ne.symm ne_r_d;have m_c:Bk w1 g_c #[.int .i64 a0_0,.int .i64 a0_1,.int .i64 a0_2,.int .i64 a0_3,.int .i64 a0_4] 24:=Bk.below b_c hb;have m_v:Bk w1 g_v #[.int .i64 a1_0,.int .i64 a1_1,.int .i64 a1_2] 22:=Bk.below b_v hb;have m_r:Bk w1 g_r #[.int .i64 r0,.int .i64 r1,.int .i64 r2] 22:=Bk.below b_r hb;have mB:=Bel.step hB hb;clear b_c;clear b_v;clear b_r;have b_c:=m_c;clear m_c;have b_v:=m_v;clear m_v;have b_r:=m_r;clear m_r;clear hB;have hB:=mB;clear mB;(try clear hb);clear hg;have c_c0:World.cell? w1 ⟨g_c,0,none⟩=some (.int .i64 a0_0):=(Bk.cell b_c 0).trans rfl;have f_c0:=Bk.frozen b_c 0;have c_c1:World.cell? w1 ⟨g_c,1,none⟩=some (.int .i64 a0_1):=(Bk.cell b_c 1).trans rfl;have f_c1:=Bk.frozen b_c 1;have c_c2:World.cell? w1 ⟨g_c,2,none⟩=some (.int .i64 a0_2):=(Bk.cell b_c 2).trans rfl;have f_c2:=Bk.frozen b_c 2;have c_c3:World.cell? w1 ⟨g_c,3,none⟩=some (.int .i64 a0_3):=(Bk.cell b_c 3).trans rfl;have f_c3:=Bk.frozen b_c 3;have c_c4:World.cell? w1 ⟨g_c,4,none⟩=some (.int .i64 a0_4):=(Bk.cell b_c 4).trans rfl;have f_c4:=Bk.frozen b_c 4;have c_v0:World.cell? w1 ⟨g_v,0,none⟩=some (.int .i64 a1_0):=(Bk.cell b_v 0).trans rfl;have f_v0:=Bk.frozen b_v 0;have c_v1:World.cell? w1 ⟨g_v,1,none⟩=some (.int .i64 a1_1):=(Bk.cell b_v 1).trans rfl;have f_v1:=Bk.frozen b_v 1;have c_v2:World.cell? w1 ⟨g_v,2,none⟩=some (.int .i64 a1_2):=(Bk.cell b_v 2).trans rfl;have f_v2:=Bk.frozen b_v 2;have c_r0:World.cell? w1 ⟨g_r,0,none⟩=some (.int .i64 r0):=(Bk.cell b_r 0).trans rfl;have f_r0:=Bk.frozen b_r 0;have c_r1:World.cell? w1 ⟨g_r,1,none⟩=some (.int .i64 r1):=(Bk.cell b_r 1).trans rfl;have f_r1:=Bk.frozen b_r 1;have c_r2:World.cell? w1 ⟨g_r,2,none⟩=some (.int .i64 r2):=(Bk.cell b_r 2).trans rfl;have f_r2:=Bk.frozen b_r 2;have c_d0:World.cell? w1 ⟨g_d,0,none⟩=some (.int .i64 0):=(Bk.cell b_d 0).trans rfl;have f_d0:=Bk.frozen b_d 0;have c_d1:World.cell? w1 ⟨g_d,1,none⟩=some (.int .i64 0):=(Bk.cell b_d 1).trans rfl;have f_d1:=Bk.frozen b_d 1;have c_d2:World.cell? w1 ⟨g_d,2,none⟩=some (.int .i64 0):=(Bk.cell b_d 2).trans rfl;have f_d2:=Bk.frozen b_d 2;have c_d3:World.cell? w1 ⟨g_d,3,none⟩=some (.int .i64 0):=(Bk.cell b_d 3).trans rfl;have f_d3:=Bk.frozen b_d 3;have c_d4:World.cell? w1 ⟨g_d,4,none⟩=some (.int .i64 0):=(Bk.cell b_d 4).trans rfl;have f_d4:=Bk.frozen b_d 4))
  refine gen_c (fun w'=>Bk w' g_c #[.int .i64 a0_0,.int .i64 a0_1,.int .i64 a0_2,.int .i64 a0_3,.int .i64 a0_4] 24∧Bk w' g_v #[.int .i64 a1_0,.int .i64 a1_1,.int .i64 a1_2] 22∧Bk w' g_r #[.int .i64 r0,.int .i64 r1,.int .i64 r2] 22∧Bk w' g_d #[.int .i64 a0_0,.int .i64 a0_1,.int .i64 a0_2,.int .i64 a0_3,.int .i64 288230376151711744] 24∧Bel w w') ⟨(Bk.far (Bk.far (Bk.far (Bk.far (Bk.far (Bk.far b_c ne_c_d 0 (.int .i64 a0_0)) ne_c_d 1 (.int .i64 a0_1)) ne_c_d 2 (.int .i64 a0_2)) ne_c_d 3 (.int .i64 a0_3)) ne_c_d 4 (.int .i64 a0_4)) ne_c_d 4 (.int .i64 288230376151711744)),(Bk.far (Bk.far (Bk.far (Bk.far (Bk.far (Bk.far b_v ne_v_d 0 (.int .i64 a0_0)) ne_v_d 1 (.int .i64 a0_1)) ne_v_d 2 (.int .i64 a0_2)) ne_v_d 3 (.int .i64 a0_3)) ne_v_d 4 (.int .i64 a0_4)) ne_v_d 4 (.int .i64 288230376151711744)),(Bk.far (Bk.far (Bk.far (Bk.far (Bk.far (Bk.far b_r ne_r_d 0 (.int .i64 a0_0)) ne_r_d 1 (.int .i64 a0_1)) ne_r_d 2 (.int .i64 a0_2)) ne_r_d 3 (.int .i64 a0_3)) ne_r_d 4 (.int .i64 a0_4)) ne_r_d 4 (.int .i64 288230376151711744)),(Bk.put (Bk.put (Bk.put (Bk.put (Bk.put (Bk.put b_d 0 (.int .i64 a0_0) rfl) 1 (.int .i64 a0_1) rfl) 2 (.int .i64 a0_2) rfl) 3 (.int .i64 a0_3) rfl) 4 (.int .i64 a0_4) rfl) 4 (.int .i64 288230376151711744) rfl),(Bel.set (Bel.set (Bel.set (Bel.set (Bel.set (Bel.set hB l_d 0 (.int .i64 a0_0)) l_d 1 (.int .i64 a0_1)) l_d 2 (.int .i64 a0_2)) l_d 3 (.int .i64 a0_3)) l_d 4 (.int .i64 a0_4)) l_d 4 (.int .i64 288230376151711744))⟩ ?_
  clear b_c b_v b_r b_d hB
  rintro wn ⟨b_c,b_v,b_r,b_d,hB⟩
  have c_c0:World.cell? wn ⟨g_c,0,none⟩=some (.int .i64 a0_0):=(Bk.cell b_c 0).trans rfl
  have f_c0:=Bk.frozen b_c 0
  have c_c1:World.cell? wn ⟨g_c,1,none⟩=some (.int .i64 a0_1):=(Bk.cell b_c 1).trans rfl
  have f_c1:=Bk.frozen b_c 1
  have c_c2:World.cell? wn ⟨g_c,2,none⟩=some (.int .i64 a0_2):=(Bk.cell b_c 2).trans rfl
  have f_c2:=Bk.frozen b_c 2
  have c_c3:World.cell? wn ⟨g_c,3,none⟩=some (.int .i64 a0_3):=(Bk.cell b_c 3).trans rfl
  have f_c3:=Bk.frozen b_c 3
  have c_c4:World.cell? wn ⟨g_c,4,none⟩=some (.int .i64 a0_4):=(Bk.cell b_c 4).trans rfl
  have f_c4:=Bk.frozen b_c 4
  have c_v0:World.cell? wn ⟨g_v,0,none⟩=some (.int .i64 a1_0):=(Bk.cell b_v 0).trans rfl
  have f_v0:=Bk.frozen b_v 0
  have c_v1:World.cell? wn ⟨g_v,1,none⟩=some (.int .i64 a1_1):=(Bk.cell b_v 1).trans rfl
  have f_v1:=Bk.frozen b_v 1
  have c_v2:World.cell? wn ⟨g_v,2,none⟩=some (.int .i64 a1_2):=(Bk.cell b_v 2).trans rfl
  have f_v2:=Bk.frozen b_v 2
  have c_r0:World.cell? wn ⟨g_r,0,none⟩=some (.int .i64 r0):=(Bk.cell b_r 0).trans rfl
  have f_r0:=Bk.frozen b_r 0
  have c_r1:World.cell? wn ⟨g_r,1,none⟩=some (.int .i64 r1):=(Bk.cell b_r 1).trans rfl
  have f_r1:=Bk.frozen b_r 1
  have c_r2:World.cell? wn ⟨g_r,2,none⟩=some (.int .i64 r2):=(Bk.cell b_r 2).trans rfl
  have f_r2:=Bk.frozen b_r 2
  have c_d0:World.cell? wn ⟨g_d,0,none⟩=some (.int .i64 a0_0):=(Bk.cell b_d 0).trans rfl
  have f_d0:=Bk.frozen b_d 0
  have c_d1:World.cell? wn ⟨g_d,1,none⟩=some (.int .i64 a0_1):=(Bk.cell b_d 1).trans rfl
  have f_d1:=Bk.frozen b_d 1
  have c_d2:World.cell? wn ⟨g_d,2,none⟩=some (.int .i64 a0_2):=(Bk.cell b_d 2).trans rfl
  have f_d2:=Bk.frozen b_d 2
  have c_d3:World.cell? wn ⟨g_d,3,none⟩=some (.int .i64 a0_3):=(Bk.cell b_d 3).trans rfl
  have f_d3:=Bk.frozen b_d 3
  have c_d4:World.cell? wn ⟨g_d,4,none⟩=some (.int .i64 288230376151711744):=(Bk.cell b_d 4).trans rfl
  have f_d4:=Bk.frozen b_d 4
  go_wp2_with (first|((with_reducible refine gate_dst (N:=47) rfl ?_);(with_reducible refine gate_callee (f:=9) rfl ?_);refine goesL_ (some 47) rfl rfl Try.func9 (by kernel_rfl) rfl #[.agg #[.int .i64 a0_0,.int .i64 a0_1,.int .i64 a0_2,.int .i64 a0_3,.int .i64 288230376151711744],.agg #[.int .i64 a1_0,.int .i64 a1_1,.int .i64 a1_2]] rfl (by (try simp only [List.map_toArray,List.map_cons,List.map_nil]);first|done|rfl) ?_;refine(sense_Read.calls k a0_0 a0_1 a0_2 a0_3 288230376151711744 a1_0 a1_1 a1_2 _ _ _ _ _ A2.out).mono ?_;rintro e w1 ⟨rfl,hb⟩;refine⟨_,rfl,?_⟩;have m_c:Bk w1 g_c #[.int .i64 a0_0,.int .i64 a0_1,.int .i64 a0_2,.int .i64 a0_3,.int .i64 a0_4] 24:=Bk.below b_c hb;have m_v:Bk w1 g_v #[.int .i64 a1_0,.int .i64 a1_1,.int .i64 a1_2] 22:=Bk.below b_v hb;have m_r:Bk w1 g_r #[.int .i64 r0,.int .i64 r1,.int .i64 r2] 22:=Bk.below b_r hb;have m_d:Bk w1 g_d #[.int .i64 a0_0,.int .i64 a0_1,.int .i64 a0_2,.int .i64 a0_3,.int .i64 288230376151711744] 24:=Bk.below b_d hb;have mB:=Bel.step hB hb;clear b_c;clear b_v;clear b_r;clear b_d;have b_c:=m_c;clear m_c;have b_v:=m_v;clear m_v;have b_r:=m_r;clear m_r;have b_d:=m_d;clear m_d;clear hB;have hB:=mB;clear mB;(try clear hb);have c_c0:World.cell? w1 ⟨g_c,0,none⟩=some (.int .i64 a0_0):=(Bk.cell b_c 0).trans rfl;have f_c0:=Bk.frozen b_c 0;have c_c1:World.cell? w1 ⟨g_c,1,none⟩=some (.int .i64 a0_1):=(Bk.cell b_c 1).trans rfl;have f_c1:=Bk.frozen b_c 1;have c_c2:World.cell? w1 ⟨g_c,2,none⟩=some (.int .i64 a0_2):=(Bk.cell b_c 2).trans rfl;have f_c2:=Bk.frozen b_c 2;have c_c3:World.cell? w1 ⟨g_c,3,none⟩=some (.int .i64 a0_3):=(Bk.cell b_c 3).trans rfl;have f_c3:=Bk.frozen b_c 3;have c_c4:World.cell? w1 ⟨g_c,4,none⟩=some (.int .i64 a0_4):=(Bk.cell b_c 4).trans rfl;have f_c4:=Bk.frozen b_c 4;have c_v0:World.cell? w1 ⟨g_v,0,none⟩=some (.int .i64 a1_0):=(Bk.cell b_v 0).trans rfl;have f_v0:=Bk.frozen b_v 0;have c_v1:World.cell? w1 ⟨g_v,1,none⟩=some (.int .i64 a1_1):=(Bk.cell b_v 1).trans rfl;have f_v1:=Bk.frozen b_v 1;have c_v2:World.cell? w1 ⟨g_v,2,none⟩=some (.int .i64 a1_2):=(Bk.cell b_v 2).trans rfl;have f_v2:=Bk.frozen b_v 2;have c_r0:World.cell? w1 ⟨g_r,0,none⟩=some (.int .i64 r0):=(Bk.cell b_r 0).trans rfl;have f_r0:=Bk.frozen b_r 0;have c_r1:World.cell? w1 ⟨g_r,1,none⟩=some (.int .i64 r1):=(Bk.cell b_r 1).trans rfl;have f_r1:=Bk.frozen b_r 1;have c_r2:World.cell? w1 ⟨g_r,2,none⟩=some (.int .i64 r2):=(Bk.cell b_r 2).trans rfl;have f_r2:=Bk.frozen b_r 2;have c_d0:World.cell? w1 ⟨g_d,0,none⟩=some (.int .i64 a0_0):=(Bk.cell b_d 0).trans rfl;have f_d0:=Bk.frozen b_d 0;have c_d1:World.cell? w1 ⟨g_d,1,none⟩=some (.int .i64 a0_1):=(Bk.cell b_d 1).trans rfl;have f_d1:=Bk.frozen b_d 1;have c_d2:World.cell? w1 ⟨g_d,2,none⟩=some (.int .i64 a0_2):=(Bk.cell b_d 2).trans rfl;have f_d2:=Bk.frozen b_d 2;have c_d3:World.cell? w1 ⟨g_d,3,none⟩=some (.int .i64 a0_3):=(Bk.cell b_d 3).trans rfl;have f_d3:=Bk.frozen b_d 3;have c_d4:World.cell? w1 ⟨g_d,4,none⟩=some (.int .i64 288230376151711744):=(Bk.cell b_d 4).trans rfl;have f_d4:=Bk.frozen b_d 4)|((with_reducible refine gate_dst (N:=10) rfl ?_);refine box_event ?hg (N:=10) ?hd (cs:=#[.int .i64 0,.int .i64 0,.int .i64 0]) (t:=22) ?hr ?_;(case hd=>rfl);(case hg=>rfl);(case hr=>first|(go_simp;done)|(go_simp;rfl));intro g_s hg w1 b_s hb;have b_s:Bk w1 g_s #[.int .i64 0,.int .i64 0,.int .i64 0] 22:=b_s;have l_s:w.heap.size≤g_s:=(by rw [hg];exact Bel.size hB);have ne_c_s:g_c≠g_s:=(by rw [hg];exact Nat.ne_of_lt (Bk.lt b_c));have ne_s_c:g_s≠g_c:=Ne.symm ne_c_s;have ne_v_s:g_v≠g_s:=(by rw [hg];exact Nat.ne_of_lt (Bk.lt b_v));have ne_s_v:g_s≠g_v:=Ne.symm ne_v_s;have ne_r_s:g_r≠g_s:=(by rw [hg];exact Nat.ne_of_lt (Bk.lt b_r));have ne_s_r:g_s≠g_r:=Ne.symm ne_r_s;have ne_d_s:g_d≠g_s:=(by rw [hg];exact Nat.ne_of_lt (Bk.lt b_d));have ne_s_d:g_s≠g_d:=Ne.symm ne_d_s;have m_c:Bk w1 g_c #[.int .i64 a0_0,.int .i64 a0_1,.int .i64 a0_2,.int .i64 a0_3,.int .i64 a0_4] 24:=Bk.below b_c hb;have m_v:Bk w1 g_v #[.int .i64 a1_0,.int .i64 a1_1,.int .i64 a1_2] 22:=Bk.below b_v hb;have m_r:Bk w1 g_r #[.int .i64 r0,.int .i64 r1,.int .i64 r2] 22:=Bk.below b_r hb;have m_d:Bk w1 g_d #[.int .i64 a0_0,.int .i64 a0_1,.int .i64 a0_2,.int .i64 a0_3,.int .i64 288230376151711744] 24:=Bk.below b_d hb;have mB:=Bel.step hB hb;clear b_c;clear b_v;clear b_r;clear b_d;have b_c:=m_c;clear m_c;have b_v:=m_v;clear m_v;have b_r:=m_r;clear m_r;have b_d:=m_d;clear m_d;clear hB;have hB:=mB;clear mB;(try clear hb);clear hg;have c_c0:World.cell? w1 ⟨g_c,0,none⟩=some (.int .i64 a0_0):=(Bk.cell b_c 0).trans rfl;have f_c0:=Bk.frozen b_c 0;have c_c1:World.cell? w1 ⟨g_c,1,none⟩=some (.int .i64 a0_1):=(Bk.cell b_c 1).trans rfl;have f_c1:=Bk.frozen b_c 1;have c_c2:World.cell? w1 ⟨g_c,2,none⟩=some (.int .i64 a0_2):=(Bk.cell b_c 2).trans rfl;have f_c2:=Bk.frozen b_c 2;have c_c3:World.cell? w1 ⟨g_c,3,none⟩=some (.int .i64 a0_3):=(Bk.cell b_c 3).trans rfl;have f_c3:=Bk.frozen b_c 3;have c_c4:World.cell? w1 ⟨g_c,4,none⟩=some (.int .i64 a0_4):=(Bk.cell b_c 4).trans rfl;have f_c4:=Bk.frozen b_c 4;have c_v0:World.cell? w1 ⟨g_v,0,none⟩=some (.int .i64 a1_0):=(Bk.cell b_v 0).trans rfl;have f_v0:=Bk.frozen b_v 0;have c_v1:World.cell? w1 ⟨g_v,1,none⟩=some (.int .i64 a1_1):=(Bk.cell b_v 1).trans rfl;have f_v1:=Bk.frozen b_v 1;have c_v2:World.cell? w1 ⟨g_v,2,none⟩=some (.int .i64 a1_2):=(Bk.cell b_v 2).trans rfl;have f_v2:=Bk.frozen b_v 2;have c_r0:World.cell? w1 ⟨g_r,0,none⟩=some (.int .i64 r0):=(Bk.cell b_r 0).trans rfl;have f_r0:=Bk.frozen b_r 0;have c_r1:World.cell? w1 ⟨g_r,1,none⟩=some (.int .i64 r1):=(Bk.cell b_r 1).trans rfl;have f_r1:=Bk.frozen b_r 1;have c_r2:World.cell? w1 ⟨g_r,2,none⟩=some (.int .i64 r2):=(Bk.cell b_r 2).trans rfl;have f_r2:=Bk.frozen b_r 2;have c_d0:World.cell? w1 ⟨g_d,0,none⟩=some (.int .i64 a0_0):=(Bk.cell b_d 0).trans rfl;have f_d0:=Bk.frozen b_d 0;have c_d1:World.cell? w1 ⟨g_d,1,none⟩=some (.int .i64 a0_1):=(Bk.cell b_d 1).trans rfl;have f_d1:=Bk.frozen b_d 1;have c_d2:World.cell? w1 ⟨g_d,2,none⟩=some (.int .i64 a0_2):=(Bk.cell b_d 2).trans rfl;have f_d2:=Bk.frozen b_d 2;have c_d3:World.cell? w1 ⟨g_d,3,none⟩=some (.int .i64 a0_3):=(Bk.cell b_d 3).trans rfl;have f_d3:=Bk.frozen b_d 3;have c_d4:World.cell? w1 ⟨g_d,4,none⟩=some (.int .i64 288230376151711744):=(Bk.cell b_d 4).trans rfl;have f_d4:=Bk.frozen b_d 4;have c_s0:World.cell? w1 ⟨g_s,0,none⟩=some (.int .i64 0):=(Bk.cell b_s 0).trans rfl;have f_s0:=Bk.frozen b_s 0;have c_s1:World.cell? w1 ⟨g_s,1,none⟩=some (.int .i64 0):=(Bk.cell b_s 1).trans rfl;have f_s1:=Bk.frozen b_s 1;have c_s2:World.cell? w1 ⟨g_s,2,none⟩=some (.int .i64 0):=(Bk.cell b_s 2).trans rfl;have f_s2:=Bk.frozen b_s 2)|((with_reducible refine gate_dst (N:=54) rfl ?_);(with_reducible refine gate_callee (f:=9) rfl ?_);refine goesL_ (some 54) rfl rfl Try.func9 (by kernel_rfl) rfl #[.agg #[.int .i64 a0_0,.int .i64 a0_1,.int .i64 a0_2,.int .i64 a0_3,.int .i64 a0_4],.agg #[.int .i64 a0_0,.int .i64 a0_1,.int .i64 a0_2]] rfl (by (try simp only [List.map_toArray,List.map_cons,List.map_nil]);first|done|rfl) ?_;refine(sense_Read.calls k a0_0 a0_1 a0_2 a0_3 a0_4 a0_0 a0_1 a0_2 _ _ _ _ _ A3.out).mono ?_;rintro e w1 ⟨rfl,hb⟩;refine⟨_,rfl,?_⟩;have m_c:Bk w1 g_c #[.int .i64 a0_0,.int .i64 a0_1,.int .i64 a0_2,.int .i64 a0_3,.int .i64 a0_4] 24:=Bk.below (Bk.far (Bk.far (Bk.far b_c ne_c_s 0 (.int .i64 r0)) ne_c_s 1 (.int .i64 r1)) ne_c_s 2 (.int .i64 r2)) hb;have m_v:Bk w1 g_v #[.int .i64 a1_0,.int .i64 a1_1,.int .i64 a1_2] 22:=Bk.below (Bk.far (Bk.far (Bk.far b_v ne_v_s 0 (.int .i64 r0)) ne_v_s 1 (.int .i64 r1)) ne_v_s 2 (.int .i64 r2)) hb;have m_r:Bk w1 g_r #[.int .i64 r0,.int .i64 r1,.int .i64 r2] 22:=Bk.below (Bk.far (Bk.far (Bk.far b_r ne_r_s 0 (.int .i64 r0)) ne_r_s 1 (.int .i64 r1)) ne_r_s 2 (.int .i64 r2)) hb;have m_d:Bk w1 g_d #[.int .i64 a0_0,.int .i64 a0_1,.int .i64 a0_2,.int .i64 a0_3,.int .i64 288230376151711744] 24:=Bk.below (Bk.far (Bk.far (Bk.far b_d ne_d_s 0 (.int .i64 r0)) ne_d_s 1 (.int .i64 r1)) ne_d_s 2 (.int .i64 r2)) hb;have m_s:Bk w1 g_s #[.int .i64 r0,.int .i64 r1,.int .i64 r2] 22:=Bk.below (Bk.put (Bk.put (Bk.put b_s 0 (.int .i64 r0) rfl) 1 (.int .i64 r1) rfl) 2 (.int .i64 r2) rfl) hb;have mB:=Bel.step (Bel.set (Bel.set (Bel.set hB l_s 0 (.int .i64 r0)) l_s 1 (.int .i64 r1)) l_s 2 (.int .i64 r2)) hb;clear b_c;clear b_v;clear b_r;clear b_d;clear b_s;have b_c:=m_c;clear m_c;have b_v:=m_v;clear m_v;have b_r:=m_r;clear m_r;have b_d:=m_d;clear m_d;have b_s:=m_s;clear m_s;clear hB;have hB:=mB;clear mB;(try clear hb);have c_c0:World.cell? w1 ⟨g_c,0,none⟩=some (.int .i64 a0_0):=(Bk.cell b_c 0).trans rfl;have f_c0:=Bk.frozen b_c 0;have c_c1:World.cell? w1 ⟨g_c,1,none⟩=some (.int .i64 a0_1):=(Bk.cell b_c 1).trans rfl;have f_c1:=Bk.frozen b_c 1;have c_c2:World.cell? w1 ⟨g_c,2,none⟩=some (.int .i64 a0_2):=(Bk.cell b_c 2).trans rfl;have f_c2:=Bk.frozen b_c 2;have c_c3:World.cell? w1 ⟨g_c,3,none⟩=some (.int .i64 a0_3):=(Bk.cell b_c 3).trans rfl;have f_c3:=Bk.frozen b_c 3;have c_c4:World.cell? w1 ⟨g_c,4,none⟩=some (.int .i64 a0_4):=(Bk.cell b_c 4).trans rfl;have f_c4:=Bk.frozen b_c 4;have c_v0:World.cell? w1 ⟨g_v,0,none⟩=some (.int .i64 a1_0):=(Bk.cell b_v 0).trans rfl;have f_v0:=Bk.frozen b_v 0;have c_v1:World.cell? w1 ⟨g_v,1,none⟩=some (.int .i64 a1_1):=(Bk.cell b_v 1).trans rfl;have f_v1:=Bk.frozen b_v 1;have c_v2:World.cell? w1 ⟨g_v,2,none⟩=some (.int .i64 a1_2):=(Bk.cell b_v 2).trans rfl;have f_v2:=Bk.frozen b_v 2;have c_r0:World.cell? w1 ⟨g_r,0,none⟩=some (.int .i64 r0):=(Bk.cell b_r 0).trans rfl;have f_r0:=Bk.frozen b_r 0;have c_r1:World.cell? w1 ⟨g_r,1,none⟩=some (.int .i64 r1):=(Bk.cell b_r 1).trans rfl;have f_r1:=Bk.frozen b_r 1;have c_r2:World.cell? w1 ⟨g_r,2,none⟩=some (.int .i64 r2):=(Bk.cell b_r 2).trans rfl;have f_r2:=Bk.frozen b_r 2;have c_d0:World.cell? w1 ⟨g_d,0,none⟩=some (.int .i64 a0_0):=(Bk.cell b_d 0).trans rfl;have f_d0:=Bk.frozen b_d 0;have c_d1:World.cell? w1 ⟨g_d,1,none⟩=some (.int .i64 a0_1):=(Bk.cell b_d 1).trans rfl;have f_d1:=Bk.frozen b_d 1;have c_d2:World.cell? w1 ⟨g_d,2,none⟩=some (.int .i64 a0_2):=(Bk.cell b_d 2).trans rfl;have f_d2:=Bk.frozen b_d 2;have c_d3:World.cell? w1 ⟨g_d,3,none⟩=some (.int .i64 a0_3):=(Bk.cell b_d 3).trans rfl;have f_d3:=Bk.frozen b_d 3;have c_d4:World.cell? w1 ⟨g_d,4,none⟩=some (.int .i64 288230376151711744):=(Bk.cell b_d 4).trans rfl;have f_d4:=Bk.frozen b_d 4;have c_s0:World.cell? w1 ⟨g_s,0,none⟩=some (.int .i64 r0):=(Bk.cell b_s 0).trans rfl;have f_s0:=Bk.frozen b_s 0;have c_s1:World.cell? w1 ⟨g_s,1,none⟩=some (.int .i64 r1):=(Bk.cell b_s 1).trans rfl;have f_s1:=Bk.frozen b_s 1;have c_s2:World.cell? w1 ⟨g_s,2,none⟩=some (.int .i64 r2):=(Bk.cell b_s 2).trans rfl;have f_s2:=Bk.frozen b_s 2)|((with_reducible refine gate_dst (N:=12) rfl ?_);refine box_event ?hg (N:=12) ?hd (cs:=#[.int .i64 0,.int .i64 0,.int .i64 0]) (t:=22) ?hr ?_;(case hd=>rfl);(case hg=>rfl);(case hr=>first|(go_simp;done)|(go_simp;rfl));intro g_z hg w1 b_z hb;have b_z:Bk w1 g_z #[.int .i64 0,.int .i64 0,.int .i64 0] 22:=b_z;have l_z:w.heap.size≤g_z:=(by rw [hg];exact Bel.size hB);have ne_c_z:g_c≠g_z:=(by rw [hg];exact Nat.ne_of_lt (Bk.lt b_c));have ne_z_c:g_z≠g_c:=Ne.symm ne_c_z;have ne_v_z:g_v≠g_z:=(by rw [hg];exact Nat.ne_of_lt (Bk.lt b_v));have ne_z_v:g_z≠g_v:=Ne.symm ne_v_z;have ne_r_z:g_r≠g_z:=(by rw [hg];exact Nat.ne_of_lt (Bk.lt b_r));have ne_z_r:g_z≠g_r:=Ne.symm ne_r_z;have ne_d_z:g_d≠g_z:=(by rw [hg];exact Nat.ne_of_lt (Bk.lt b_d));have ne_z_d:g_z≠g_d:=Ne.symm ne_d_z;have ne_s_z:g_s≠g_z:=(by rw [hg];exact Nat.ne_of_lt (Bk.lt b_s));have ne_z_s:g_z≠g_s:=Ne.symm ne_s_z;have m_c:Bk w1 g_c #[.int .i64 a0_0,.int .i64 a0_1,.int .i64 a0_2,.int .i64 a0_3,.int .i64 a0_4] 24:=Bk.below b_c hb;have m_v:Bk w1 g_v #[.int .i64 a1_0,.int .i64 a1_1,.int .i64 a1_2] 22:=Bk.below b_v hb;have m_r:Bk w1 g_r #[.int .i64 r0,.int .i64 r1,.int .i64 r2] 22:=Bk.below b_r hb;have m_d:Bk w1 g_d #[.int .i64 a0_0,.int .i64 a0_1,.int .i64 a0_2,.int .i64 a0_3,.int .i64 288230376151711744] 24:=Bk.below b_d hb;have m_s:Bk w1 g_s #[.int .i64 r0,.int .i64 r1,.int .i64 r2] 22:=Bk.below b_s hb;have mB:=Bel.step hB hb;clear b_c;clear b_v;clear b_r;clear b_d;clear b_s;have b_c:=m_c;clear m_c;have b_v:=m_v;clear m_v;have b_r:=m_r;clear m_r;have b_d:=m_d;clear m_d;have b_s:=m_s;clear m_s;clear hB;have hB:=mB;clear mB;(try clear hb);clear hg;have c_c0:World.cell? w1 ⟨g_c,0,none⟩=some (.int .i64 a0_0):=(Bk.cell b_c 0).trans rfl;have f_c0:=Bk.frozen b_c 0;have c_c1:World.cell? w1 ⟨g_c,1,none⟩=some (.int .i64 a0_1):=(Bk.cell b_c 1).trans rfl;have f_c1:=Bk.frozen b_c 1;have c_c2:World.cell? w1 ⟨g_c,2,none⟩=some (.int .i64 a0_2):=(Bk.cell b_c 2).trans rfl;have f_c2:=Bk.frozen b_c 2;have c_c3:World.cell? w1 ⟨g_c,3,none⟩=some (.int .i64 a0_3):=(Bk.cell b_c 3).trans rfl;have f_c3:=Bk.frozen b_c 3;have c_c4:World.cell? w1 ⟨g_c,4,none⟩=some (.int .i64 a0_4):=(Bk.cell b_c 4).trans rfl;have f_c4:=Bk.frozen b_c 4;have c_v0:World.cell? w1 ⟨g_v,0,none⟩=some (.int .i64 a1_0):=(Bk.cell b_v 0).trans rfl;have f_v0:=Bk.frozen b_v 0;have c_v1:World.cell? w1 ⟨g_v,1,none⟩=some (.int .i64 a1_1):=(Bk.cell b_v 1).trans rfl;have f_v1:=Bk.frozen b_v 1;have c_v2:World.cell? w1 ⟨g_v,2,none⟩=some (.int .i64 a1_2):=(Bk.cell b_v 2).trans rfl;have f_v2:=Bk.frozen b_v 2;have c_r0:World.cell? w1 ⟨g_r,0,none⟩=some (.int .i64 r0):=(Bk.cell b_r 0).trans rfl;have f_r0:=Bk.frozen b_r 0;have c_r1:World.cell? w1 ⟨g_r,1,none⟩=some (.int .i64 r1):=(Bk.cell b_r 1).trans rfl;have f_r1:=Bk.frozen b_r 1;have c_r2:World.cell? w1 ⟨g_r,2,none⟩=some (.int .i64 r2):=(Bk.cell b_r 2).trans rfl;have f_r2:=Bk.frozen b_r 2;have c_d0:World.cell? w1 ⟨g_d,0,none⟩=some (.int .i64 a0_0):=(Bk.cell b_d 0).trans rfl;have f_d0:=Bk.frozen b_d 0;have c_d1:World.cell? w1 ⟨g_d,1,none⟩=some (.int .i64 a0_1):=(Bk.cell b_d 1).trans rfl;have f_d1:=Bk.frozen b_d 1;have c_d2:World.cell? w1 ⟨g_d,2,none⟩=some (.int .i64 a0_2):=(Bk.cell b_d 2).trans rfl;have f_d2:=Bk.frozen b_d 2;have c_d3:World.cell? w1 ⟨g_d,3,none⟩=some (.int .i64 a0_3):=(Bk.cell b_d 3).trans rfl;have f_d3:=Bk.frozen b_d 3;have c_d4:World.cell? w1 ⟨g_d,4,none⟩=some (.int .i64 288230376151711744):=(Bk.cell b_d 4).trans rfl;have f_d4:=Bk.frozen b_d 4;have c_s0:World.cell? w1 ⟨g_s,0,none⟩=some (.int .i64 r0):=(Bk.cell b_s 0).trans rfl;have f_s0:=Bk.frozen b_s 0;have c_s1:World.cell? w1 ⟨g_s,1,none⟩=some (.int .i64 r1):=(Bk.cell b_s 1).trans rfl;have f_s1:=Bk.frozen b_s 1;have c_s2:World.cell? w1 ⟨g_s,2,none⟩=some (.int .i64 r2):=(Bk.cell b_s 2).trans rfl;have f_s2:=Bk.frozen b_s 2;have c_z0:World.cell? w1 ⟨g_z,0,none⟩=some (.int .i64 0):=(Bk.cell b_z 0).trans rfl;have f_z0:=Bk.frozen b_z 0;have c_z1:World.cell? w1 ⟨g_z,1,none⟩=some (.int .i64 0):=(Bk.cell b_z 1).trans rfl;have f_z1:=Bk.frozen b_z 1;have c_z2:World.cell? w1 ⟨g_z,2,none⟩=some (.int .i64 0):=(Bk.cell b_z 2).trans rfl;have f_z2:=Bk.frozen b_z 2)|((with_reducible refine gate_callee (f:=13) rfl ?_);refine gate_guard (by rfl) ?_;refine goesL_ (some 86) rfl rfl Try.func13 (by kernel_rfl) rfl #[.agg #[.int .i64 a0_0,.int .i64 a0_1,.int .i64 a0_2,.int .i64 a0_3,.int .i64 a0_4]] rfl (by (try simp only [List.map_toArray,List.map_cons,List.map_nil]);first|done|rfl) ?_;refine(sense_Sane.calls k a0_0 a0_1 a0_2 a0_3 a0_4 _ _ A4.out).mono ?_;rintro e w1 ⟨rfl,hb⟩;refine⟨_,rfl,?_⟩;have m_c:Bk w1 g_c #[.int .i64 a0_0,.int .i64 a0_1,.int .i64 a0_2,.int .i64 a0_3,.int .i64 a0_4] 24:=Bk.below (Bk.far (Bk.far (Bk.far b_c ne_c_z 0 (.int .i64 0)) ne_c_z 1 (.int .i64 0)) ne_c_z 2 (.int .i64 0)) hb;have m_v:Bk w1 g_v #[.int .i64 a1_0,.int .i64 a1_1,.int .i64 a1_2] 22:=Bk.below (Bk.far (Bk.far (Bk.far b_v ne_v_z 0 (.int .i64 0)) ne_v_z 1 (.int .i64 0)) ne_v_z 2 (.int .i64 0)) hb;have m_r:Bk w1 g_r #[.int .i64 r0,.int .i64 r1,.int .i64 r2] 22:=Bk.below (Bk.far (Bk.far (Bk.far b_r ne_r_z 0 (.int .i64 0)) ne_r_z 1 (.int .i64 0)) ne_r_z 2 (.int .i64 0)) hb;have m_d:Bk w1 g_d #[.int .i64 a0_0,.int .i64 a0_1,.int .i64 a0_2,.int .i64 a0_3,.int .i64 288230376151711744] 24:=Bk.below (Bk.far (Bk.far (Bk.far b_d ne_d_z 0 (.int .i64 0)) ne_d_z 1 (.int .i64 0)) ne_d_z 2 (.int .i64 0)) hb;have m_s:Bk w1 g_s #[.int .i64 r0,.int .i64 r1,.int .i64 r2] 22:=Bk.below (Bk.far (Bk.far (Bk.far b_s ne_s_z 0 (.int .i64 0)) ne_s_z 1 (.int .i64 0)) ne_s_z 2 (.int .i64 0)) hb;have m_z:Bk w1 g_z #[.int .i64 0,.int .i64 0,.int .i64 0] 22:=Bk.below (Bk.put (Bk.put (Bk.put b_z 0 (.int .i64 0) rfl) 1 (.int .i64 0) rfl) 2 (.int .i64 0) rfl) hb;have mB:=Bel.step (Bel.set (Bel.set (Bel.set hB l_z 0 (.int .i64 0)) l_z 1 (.int .i64 0)) l_z 2 (.int .i64 0)) hb;clear b_c;clear b_v;clear b_r;clear b_d;clear b_s;clear b_z;have b_c:=m_c;clear m_c;have b_v:=m_v;clear m_v;have b_r:=m_r;clear m_r;have b_d:=m_d;clear m_d;have b_s:=m_s;clear m_s;have b_z:=m_z;clear m_z;clear hB;have hB:=mB;clear mB;(try clear hb);have c_c0:World.cell? w1 ⟨g_c,0,none⟩=some (.int .i64 a0_0):=(Bk.cell b_c 0).trans rfl;have f_c0:=Bk.frozen b_c 0;have c_c1:World.cell? w1 ⟨g_c,1,none⟩=some (.int .i64 a0_1):=(Bk.cell b_c 1).trans rfl;have f_c1:=Bk.frozen b_c 1;have c_c2:World.cell? w1 ⟨g_c,2,none⟩=some (.int .i64 a0_2):=(Bk.cell b_c 2).trans rfl;have f_c2:=Bk.frozen b_c 2;have c_c3:World.cell? w1 ⟨g_c,3,none⟩=some (.int .i64 a0_3):=(Bk.cell b_c 3).trans rfl;have f_c3:=Bk.frozen b_c 3;have c_c4:World.cell? w1 ⟨g_c,4,none⟩=some (.int .i64 a0_4):=(Bk.cell b_c 4).trans rfl;have f_c4:=Bk.frozen b_c 4;have c_v0:World.cell? w1 ⟨g_v,0,none⟩=some (.int .i64 a1_0):=(Bk.cell b_v 0).trans rfl;have f_v0:=Bk.frozen b_v 0;have c_v1:World.cell? w1 ⟨g_v,1,none⟩=some (.int .i64 a1_1):=(Bk.cell b_v 1).trans rfl;have f_v1:=Bk.frozen b_v 1;have c_v2:World.cell? w1 ⟨g_v,2,none⟩=some (.int .i64 a1_2):=(Bk.cell b_v 2).trans rfl;have f_v2:=Bk.frozen b_v 2;have c_r0:World.cell? w1 ⟨g_r,0,none⟩=some (.int .i64 r0):=(Bk.cell b_r 0).trans rfl;have f_r0:=Bk.frozen b_r 0;have c_r1:World.cell? w1 ⟨g_r,1,none⟩=some (.int .i64 r1):=(Bk.cell b_r 1).trans rfl;have f_r1:=Bk.frozen b_r 1;have c_r2:World.cell? w1 ⟨g_r,2,none⟩=some (.int .i64 r2):=(Bk.cell b_r 2).trans rfl;have f_r2:=Bk.frozen b_r 2;have c_d0:World.cell? w1 ⟨g_d,0,none⟩=some (.int .i64 a0_0):=(Bk.cell b_d 0).trans rfl;have f_d0:=Bk.frozen b_d 0;have c_d1:World.cell? w1 ⟨g_d,1,none⟩=some (.int .i64 a0_1):=(Bk.cell b_d 1).trans rfl;have f_d1:=Bk.frozen b_d 1;have c_d2:World.cell? w1 ⟨g_d,2,none⟩=some (.int .i64 a0_2):=(Bk.cell b_d 2).trans rfl;have f_d2:=Bk.frozen b_d 2;have c_d3:World.cell? w1 ⟨g_d,3,none⟩=some (.int .i64 a0_3):=(Bk.cell b_d 3).trans rfl;have f_d3:=Bk.frozen b_d 3;have c_d4:World.cell? w1 ⟨g_d,4,none⟩=some (.int .i64 288230376151711744):=(Bk.cell b_d 4).trans rfl;have f_d4:=Bk.frozen b_d 4;have c_s0:World.cell? w1 ⟨g_s,0,none⟩=some (.int .i64 r0):=(Bk.cell b_s 0).trans rfl;have f_s0:=Bk.frozen b_s 0;have c_s1:World.cell? w1 ⟨g_s,1,none⟩=some (.int .i64 r1):=(Bk.cell b_s 1).trans rfl;have f_s1:=Bk.frozen b_s 1;have c_s2:World.cell? w1 ⟨g_s,2,none⟩=some (.int .i64 r2):=(Bk.cell b_s 2).trans rfl;have f_s2:=Bk.frozen b_s 2;have c_z0:World.cell? w1 ⟨g_z,0,none⟩=some (.int .i64 0):=(Bk.cell b_z 0).trans rfl;have f_z0:=Bk.frozen b_z 0;have c_z1:World.cell? w1 ⟨g_z,1,none⟩=some (.int .i64 0):=(Bk.cell b_z 1).trans rfl;have f_z1:=Bk.frozen b_z 1;have c_z2:World.cell? w1 ⟨g_z,2,none⟩=some (.int .i64 0):=(Bk.cell b_z 2).trans rfl;have f_z2:=Bk.frozen b_z 2))
  try go_wp2
  go_ret
  exact⟨rfl,hB⟩
 ·have hB:=Bel.refl w
  go_enter Try.func5,Try.ntmps5
  go_wp2_with (first|((with_reducible refine gate_dst (N:=2) rfl ?_);refine box_event ?hg (N:=2) ?hd (cs:=#[.int .i64 a0_0,.int .i64 a0_1,.int .i64 a0_2,.int .i64 a0_3,.int .i64 a0_4]) (t:=24) ?hr ?_;(case hd=>rfl);(case hg=>rfl);(case hr=>first|(go_simp;done)|(go_simp;rfl));intro g_c hg w1 b_c hb;have b_c:Bk w1 g_c #[.int .i64 a0_0,.int .i64 a0_1,.int .i64 a0_2,.int .i64 a0_3,.int .i64 a0_4] 24:=b_c;have l_c:w.heap.size≤g_c:=(by rw [hg];exact Bel.size hB);have mB:=Bel.step hB hb;clear hB;have hB:=mB;clear mB;(try clear hb);clear hg;have c_c0:World.cell? w1 ⟨g_c,0,none⟩=some (.int .i64 a0_0):=(Bk.cell b_c 0).trans rfl;have f_c0:=Bk.frozen b_c 0;have c_c1:World.cell? w1 ⟨g_c,1,none⟩=some (.int .i64 a0_1):=(Bk.cell b_c 1).trans rfl;have f_c1:=Bk.frozen b_c 1;have c_c2:World.cell? w1 ⟨g_c,2,none⟩=some (.int .i64 a0_2):=(Bk.cell b_c 2).trans rfl;have f_c2:=Bk.frozen b_c 2;have c_c3:World.cell? w1 ⟨g_c,3,none⟩=some (.int .i64 a0_3):=(Bk.cell b_c 3).trans rfl;have f_c3:=Bk.frozen b_c 3;have c_c4:World.cell? w1 ⟨g_c,4,none⟩=some (.int .i64 a0_4):=(Bk.cell b_c 4).trans rfl;have f_c4:=Bk.frozen b_c 4)|((with_reducible refine gate_dst (N:=3) rfl ?_);refine box_event ?hg (N:=3) ?hd (cs:=#[.int .i64 a1_0,.int .i64 a1_1,.int .i64 a1_2]) (t:=22) ?hr ?_;(case hd=>rfl);(case hg=>rfl);(case hr=>first|(go_simp;done)|(go_simp;rfl));intro g_v hg w1 b_v hb;have b_v:Bk w1 g_v #[.int .i64 a1_0,.int .i64 a1_1,.int .i64 a1_2] 22:=b_v;have l_v:w.heap.size≤g_v:=(by rw [hg];exact Bel.size hB);have ne_c_v:g_c≠g_v:=(by rw [hg];exact Nat.ne_of_lt (Bk.lt b_c));have ne_v_c:g_v≠g_c:=Ne.symm ne_c_v;have m_c:Bk w1 g_c #[.int .i64 a0_0,.int .i64 a0_1,.int .i64 a0_2,.int .i64 a0_3,.int .i64 a0_4] 24:=Bk.below b_c hb;have mB:=Bel.step hB hb;clear b_c;have b_c:=m_c;clear m_c;clear hB;have hB:=mB;clear mB;(try clear hb);clear hg;have c_c0:World.cell? w1 ⟨g_c,0,none⟩=some (.int .i64 a0_0):=(Bk.cell b_c 0).trans rfl;have f_c0:=Bk.frozen b_c 0;have c_c1:World.cell? w1 ⟨g_c,1,none⟩=some (.int .i64 a0_1):=(Bk.cell b_c 1).trans rfl;have f_c1:=Bk.frozen b_c 1;have c_c2:World.cell? w1 ⟨g_c,2,none⟩=some (.int .i64 a0_2):=(Bk.cell b_c 2).trans rfl;have f_c2:=Bk.frozen b_c 2;have c_c3:World.cell? w1 ⟨g_c,3,none⟩=some (.int .i64 a0_3):=(Bk.cell b_c 3).trans rfl;have f_c3:=Bk.frozen b_c 3;have c_c4:World.cell? w1 ⟨g_c,4,none⟩=some (.int .i64 a0_4):=(Bk.cell b_c 4).trans rfl;have f_c4:=Bk.frozen b_c 4;have c_v0:World.cell? w1 ⟨g_v,0,none⟩=some (.int .i64 a1_0):=(Bk.cell b_v 0).trans rfl;have f_v0:=Bk.frozen b_v 0;have c_v1:World.cell? w1 ⟨g_v,1,none⟩=some (.int .i64 a1_1):=(Bk.cell b_v 1).trans rfl;have f_v1:=Bk.frozen b_v 1;have c_v2:World.cell? w1 ⟨g_v,2,none⟩=some (.int .i64 a1_2):=(Bk.cell b_v 2).trans rfl;have f_v2:=Bk.frozen b_v 2)|((with_reducible refine gate_callee (f:=8) rfl ?_);refine goesL_ (some 14) rfl rfl Try.func8 (by kernel_rfl) rfl #[] rfl (by (try simp only [List.map_toArray,List.map_cons,List.map_nil]);first|done|rfl) ?_;refine(outriggerlaw18_awake.calls 200 true _ outriggerlaw18_awake.known).mono ?_;rintro e w1 ⟨rfl,hb⟩;refine⟨_,rfl,?_⟩;have m_c:Bk w1 g_c #[.int .i64 a0_0,.int .i64 a0_1,.int .i64 a0_2,.int .i64 a0_3,.int .i64 a0_4] 24:=Bk.below b_c hb;have m_v:Bk w1 g_v #[.int .i64 a1_0,.int .i64 a1_1,.int .i64 a1_2] 22:=Bk.below b_v hb;have mB:=Bel.step hB hb;clear b_c;clear b_v;have b_c:=m_c;clear m_c;have b_v:=m_v;clear m_v;clear hB;have hB:=mB;clear mB;(try clear hb);have c_c0:World.cell? w1 ⟨g_c,0,none⟩=some (.int .i64 a0_0):=(Bk.cell b_c 0).trans rfl;have f_c0:=Bk.frozen b_c 0;have c_c1:World.cell? w1 ⟨g_c,1,none⟩=some (.int .i64 a0_1):=(Bk.cell b_c 1).trans rfl;have f_c1:=Bk.frozen b_c 1;have c_c2:World.cell? w1 ⟨g_c,2,none⟩=some (.int .i64 a0_2):=(Bk.cell b_c 2).trans rfl;have f_c2:=Bk.frozen b_c 2;have c_c3:World.cell? w1 ⟨g_c,3,none⟩=some (.int .i64 a0_3):=(Bk.cell b_c 3).trans rfl;have f_c3:=Bk.frozen b_c 3;have c_c4:World.cell? w1 ⟨g_c,4,none⟩=some (.int .i64 a0_4):=(Bk.cell b_c 4).trans rfl;have f_c4:=Bk.frozen b_c 4;have c_v0:World.cell? w1 ⟨g_v,0,none⟩=some (.int .i64 a1_0):=(Bk.cell b_v 0).trans rfl;have f_v0:=Bk.frozen b_v 0;have c_v1:World.cell? w1 ⟨g_v,1,none⟩=some (.int .i64 a1_1):=(Bk.cell b_v 1).trans rfl;have f_v1:=Bk.frozen b_v 1;have c_v2:World.cell? w1 ⟨g_v,2,none⟩=some (.int .i64 a1_2):=(Bk.cell b_v 2).trans rfl;have f_v2:=Bk.frozen b_v 2)|((with_reducible refine gate_callee (f:=9) rfl ?_);refine goesL_ (some 18) rfl rfl Try.func9 (by kernel_rfl) rfl #[.agg #[.int .i64 a0_0,.int .i64 a0_1,.int .i64 a0_2,.int .i64 a0_3,.int .i64 a0_4],.agg #[.int .i64 a1_0,.int .i64 a1_1,.int .i64 a1_2]] rfl (by (try simp only [List.map_toArray,List.map_cons,List.map_nil]);first|done|rfl) ?_;refine(sense_Read.calls k a0_0 a0_1 a0_2 a0_3 a0_4 a1_0 a1_1 a1_2 _ _ _ _ _ A1.out).mono ?_;rintro e w1 ⟨rfl,hb⟩;refine⟨_,rfl,?_⟩;have m_c:Bk w1 g_c #[.int .i64 a0_0,.int .i64 a0_1,.int .i64 a0_2,.int .i64 a0_3,.int .i64 a0_4] 24:=Bk.below b_c hb;have m_v:Bk w1 g_v #[.int .i64 a1_0,.int .i64 a1_1,.int .i64 a1_2] 22:=Bk.below b_v hb;have mB:=Bel.step hB hb;clear b_c;clear b_v;have b_c:=m_c;clear m_c;have b_v:=m_v;clear m_v;clear hB;have hB:=mB;clear mB;(try clear hb);have c_c0:World.cell? w1 ⟨g_c,0,none⟩=some (.int .i64 a0_0):=(Bk.cell b_c 0).trans rfl;have f_c0:=Bk.frozen b_c 0;have c_c1:World.cell? w1 ⟨g_c,1,none⟩=some (.int .i64 a0_1):=(Bk.cell b_c 1).trans rfl;have f_c1:=Bk.frozen b_c 1;have c_c2:World.cell? w1 ⟨g_c,2,none⟩=some (.int .i64 a0_2):=(Bk.cell b_c 2).trans rfl;have f_c2:=Bk.frozen b_c 2;have c_c3:World.cell? w1 ⟨g_c,3,none⟩=some (.int .i64 a0_3):=(Bk.cell b_c 3).trans rfl;have f_c3:=Bk.frozen b_c 3;have c_c4:World.cell? w1 ⟨g_c,4,none⟩=some (.int .i64 a0_4):=(Bk.cell b_c 4).trans rfl;have f_c4:=Bk.frozen b_c 4;have c_v0:World.cell? w1 ⟨g_v,0,none⟩=some (.int .i64 a1_0):=(Bk.cell b_v 0).trans rfl;have f_v0:=Bk.frozen b_v 0;have c_v1:World.cell? w1 ⟨g_v,1,none⟩=some (.int .i64 a1_1):=(Bk.cell b_v 1).trans rfl;have f_v1:=Bk.frozen b_v 1;have c_v2:World.cell? w1 ⟨g_v,2,none⟩=some (.int .i64 a1_2):=(Bk.cell b_v 2).trans rfl;have f_v2:=Bk.frozen b_v 2)|((with_reducible refine gate_dst (N:=6) rfl ?_);refine box_event ?hg (N:=6) ?hd (cs:=#[.int .i64 0,.int .i64 0,.int .i64 0]) (t:=22) ?hr ?_;(case hd=>rfl);(case hg=>rfl);(case hr=>first|(go_simp;done)|(go_simp;rfl));intro g_r hg w1 b_r hb;have b_r:Bk w1 g_r #[.int .i64 0,.int .i64 0,.int .i64 0] 22:=b_r;have l_r:w.heap.size≤g_r:=(by rw [hg];exact Bel.size hB);have ne_c_r:g_c≠g_r:=(by rw [hg];exact Nat.ne_of_lt (Bk.lt b_c));have ne_r_c:g_r≠g_c:=Ne.symm ne_c_r;have ne_v_r:g_v≠g_r:=(by rw [hg];exact Nat.ne_of_lt (Bk.lt b_v));have ne_r_v:g_r≠g_v:=Ne.symm ne_v_r;have m_c:Bk w1 g_c #[.int .i64 a0_0,.int .i64 a0_1,.int .i64 a0_2,.int .i64 a0_3,.int .i64 a0_4] 24:=Bk.below b_c hb;have m_v:Bk w1 g_v #[.int .i64 a1_0,.int .i64 a1_1,.int .i64 a1_2] 22:=Bk.below b_v hb;have mB:=Bel.step hB hb;clear b_c;clear b_v;have b_c:=m_c;clear m_c;have b_v:=m_v;clear m_v;clear hB;have hB:=mB;clear mB;(try clear hb);clear hg;have c_c0:World.cell? w1 ⟨g_c,0,none⟩=some (.int .i64 a0_0):=(Bk.cell b_c 0).trans rfl;have f_c0:=Bk.frozen b_c 0;have c_c1:World.cell? w1 ⟨g_c,1,none⟩=some (.int .i64 a0_1):=(Bk.cell b_c 1).trans rfl;have f_c1:=Bk.frozen b_c 1;have c_c2:World.cell? w1 ⟨g_c,2,none⟩=some (.int .i64 a0_2):=(Bk.cell b_c 2).trans rfl;have f_c2:=Bk.frozen b_c 2;have c_c3:World.cell? w1 ⟨g_c,3,none⟩=some (.int .i64 a0_3):=(Bk.cell b_c 3).trans rfl;have f_c3:=Bk.frozen b_c 3;have c_c4:World.cell? w1 ⟨g_c,4,none⟩=some (.int .i64 a0_4):=(Bk.cell b_c 4).trans rfl;have f_c4:=Bk.frozen b_c 4;have c_v0:World.cell? w1 ⟨g_v,0,none⟩=some (.int .i64 a1_0):=(Bk.cell b_v 0).trans rfl;have f_v0:=Bk.frozen b_v 0;have c_v1:World.cell? w1 ⟨g_v,1,none⟩=some (.int .i64 a1_1):=(Bk.cell b_v 1).trans rfl;have f_v1:=Bk.frozen b_v 1;have c_v2:World.cell? w1 ⟨g_v,2,none⟩=some (.int .i64 a1_2):=(Bk.cell b_v 2).trans rfl;have f_v2:=Bk.frozen b_v 2;have c_r0:World.cell? w1 ⟨g_r,0,none⟩=some (.int .i64 0):=(Bk.cell b_r 0).trans rfl;have f_r0:=Bk.frozen b_r 0;have c_r1:World.cell? w1 ⟨g_r,1,none⟩=some (.int .i64 0):=(Bk.cell b_r 1).trans rfl;have f_r1:=Bk.frozen b_r 1;have c_r2:World.cell? w1 ⟨g_r,2,none⟩=some (.int .i64 0):=(Bk.cell b_r 2).trans rfl;have f_r2:=Bk.frozen b_r 2))
  refine wp_loop_rounds 4 ?_
  rw [rounds_succ]
  go_wp2
  have x0:decide (0 > M)=false:=decide_eq_false (by have h_:=X0.out.1;omega)
  have x1:decide (0<wrap64 (-M))=false:=decide_eq_false (by have h_:=X0.out.2;omega)
  have x2:decide (0<IntKind.i64.wrap (-M))=false:=by rw [i64_w];exact x1
  refine start2_ (n:=17) (S:=fun w'=>Bk w' g_c #[.int .i64 a0_0,.int .i64 a0_1,.int .i64 a0_2,.int .i64 a0_3,.int .i64 a0_4] 24∧Bk w' g_v #[.int .i64 a1_0,.int .i64 a1_1,.int .i64 a1_2] 22∧Bk w' g_r #[.int .i64 0,.int .i64 0,.int .i64 0] 22∧Bel w w') (ds:=[]) #[false,false,false,false,false,false,false,false,false,false,false,false,false,false,false,false,false] (by kernel_rfl) rfl rfl outriggerlaw18_SenseBounds.tab6 outriggerlaw18_SenseBounds.bits6 ⟨Bk.drew (Bk.far (Bk.far (Bk.far b_c ne_c_r 0 (.int .i64 0)) ne_c_r 1 (.int .i64 0)) ne_c_r 2 (.int .i64 0)),Bk.drew (Bk.far (Bk.far (Bk.far b_v ne_v_r 0 (.int .i64 0)) ne_v_r 1 (.int .i64 0)) ne_v_r 2 (.int .i64 0)),Bk.drew (Bk.put (Bk.put (Bk.put b_r 0 (.int .i64 0) rfl) 1 (.int .i64 0) rfl) 2 (.int .i64 0) rfl),Bel.drew (Bel.set (Bel.set (Bel.set hB l_r 0 (.int .i64 0)) l_r 1 (.int .i64 0)) l_r 2 (.int .i64 0))⟩ (fun wn hHeld HT_ HW_=>?_)
  refine pure_ (i:=0) (N:=some 25) (v:=?_) (a':=?_) #[true,false,false,false,false,false,false,false,false,false,false,false,false,false,false,false,false] rfl rfl (any_of HT_.out (by kernel_rfl)) (fun _ _ _ h=>h) (Or.inl ⟨by rfl,?_⟩) ?_ ?_
  rotate_left
  ·intro w'
   go_simp
   with_reducible rfl
  rotate_left
  ·simp only [Act.put,List.setIfInBounds_toArray,List.set_cons_zero,List.set_cons_succ]
   rfl
  refine pure_ (i:=1) (N:=some 26) (v:=?_) (a':=?_) #[true,true,false,false,false,false,false,false,false,false,false,false,false,false,false,false,false] rfl rfl (any_of HT_.out (by kernel_rfl)) (fun _ _ _ h=>h) (Or.inl ⟨by rfl,?_⟩) ?_ ?_
  rotate_left
  ·intro w'
   go_simp
   with_reducible rfl
  rotate_left
  ·simp only [Act.put,List.setIfInBounds_toArray,List.set_cons_zero,List.set_cons_succ]
   rfl
  refine take_ (i:=2) (N:=some 27) (v:=?_) (a':=?_) #[true,true,true,false,false,false,false,false,false,false,false,false,false,false,false,false,false] rfl rfl (take_ofW HT_.out HW_.out (by kernel_rfl)) (fun _ _ _ h=>h) (Or.inl ⟨by rfl,?_⟩) hHeld ?_ ?_
  rotate_left
  ·rintro w' ⟨s0,s1,s2,s3⟩
   have c_r0:World.cell? w' ⟨g_r,0,none⟩=some (.int .i64 0):=(Bk.cell s2 0).trans rfl
   have c_r1:World.cell? w' ⟨g_r,1,none⟩=some (.int .i64 0):=(Bk.cell s2 1).trans rfl
   have c_r2:World.cell? w' ⟨g_r,2,none⟩=some (.int .i64 0):=(Bk.cell s2 2).trans rfl
   go_simp
   with_reducible rfl
  rotate_left
  ·simp only [Act.put,List.setIfInBounds_toArray,List.set_cons_zero,List.set_cons_succ]
   rfl
  refine pure_ (i:=3) (N:=some 28) (v:=?_) (a':=?_) #[true,true,true,true,false,false,false,false,false,false,false,false,false,false,false,false,false] rfl rfl (any_of HT_.out (by kernel_rfl)) (fun _ _ _ h=>h) (Or.inl ⟨by rfl,?_⟩) ?_ ?_
  rotate_left
  ·intro w'
   go_simp
   with_reducible rfl
  rotate_left
  ·simp only [Act.put,List.setIfInBounds_toArray,List.set_cons_zero,List.set_cons_succ]
   rfl
  refine take_ (i:=4) (N:=some 29) (v:=?_) (a':=?_) #[true,true,true,true,true,false,false,false,false,false,false,false,false,false,false,false,false] rfl rfl (take_ofW HT_.out HW_.out (by kernel_rfl)) (fun _ _ _ h=>h) (Or.inl ⟨by rfl,?_⟩) hHeld ?_ ?_
  rotate_left
  ·rintro w' ⟨s0,s1,s2,s3⟩
   have c_c0:World.cell? w' ⟨g_c,0,none⟩=some (.int .i64 a0_0):=(Bk.cell s0 0).trans rfl
   have c_c1:World.cell? w' ⟨g_c,1,none⟩=some (.int .i64 a0_1):=(Bk.cell s0 1).trans rfl
   have c_c2:World.cell? w' ⟨g_c,2,none⟩=some (.int .i64 a0_2):=(Bk.cell s0 2).trans rfl
   have c_c3:World.cell? w' ⟨g_c,3,none⟩=some (.int .i64 a0_3):=(Bk.cell s0 3).trans rfl
   have c_c4:World.cell? w' ⟨g_c,4,none⟩=some (.int .i64 a0_4):=(Bk.cell s0 4).trans rfl
   go_simp
   with_reducible rfl
  rotate_left
  ·simp only [Act.put,List.setIfInBounds_toArray,List.set_cons_zero,List.set_cons_succ]
   rfl
  refine pure_ (i:=5) (N:=some 30) (v:=?_) (a':=?_) #[true,true,true,true,true,true,false,false,false,false,false,false,false,false,false,false,false] rfl rfl (any_of HT_.out (by kernel_rfl)) (fun _ _ _ h=>h) (Or.inl ⟨by rfl,?_⟩) ?_ ?_
  rotate_left
  ·intro w'
   go_simp
   with_reducible rfl
  rotate_left
  ·simp only [Act.put,List.setIfInBounds_toArray,List.set_cons_zero,List.set_cons_succ]
   rfl
  refine pure_ (i:=6) (N:=some 31) (v:=?_) (a':=?_) #[true,true,true,true,true,true,true,false,false,false,false,false,false,false,false,false,false] rfl rfl (any_of HT_.out (by kernel_rfl)) (fun _ _ _ h=>h) (Or.inl ⟨by rfl,?_⟩) ?_ ?_
  rotate_left
  ·intro w'
   go_simp
   with_reducible rfl
  rotate_left
  ·simp only [Act.put,List.setIfInBounds_toArray,List.set_cons_zero,List.set_cons_succ]
   rfl
  refine pure_ (i:=7) (N:=some 32) (v:=?_) (a':=?_) #[true,true,true,true,true,true,true,true,false,false,false,false,false,false,false,false,false] rfl rfl (any_of HT_.out (by kernel_rfl)) (fun _ _ _ h=>h) (Or.inl ⟨by rfl,?_⟩) ?_ ?_
  rotate_left
  ·intro w'
   go_simp
   with_reducible rfl
  rotate_left
  ·simp only [Act.put,List.setIfInBounds_toArray,List.set_cons_zero,List.set_cons_succ]
   rfl
  refine pure_ (i:=8) (N:=some 33) (v:=?_) (a':=?_) #[true,true,true,true,true,true,true,true,true,false,false,false,false,false,false,false,false] rfl rfl (any_of HT_.out (by kernel_rfl)) (fun _ _ _ h=>h) (Or.inl ⟨by rfl,?_⟩) ?_ ?_
  rotate_left
  ·intro w'
   go_simp
   with_reducible rfl
  rotate_left
  ·simp only [Act.put,List.setIfInBounds_toArray,List.set_cons_zero,List.set_cons_succ]
   rfl
  refine pure_ (i:=9) (N:=some 34) (v:=?_) (a':=?_) #[true,true,true,true,true,true,true,true,true,true,false,false,false,false,false,false,false] rfl rfl (any_of HT_.out (by kernel_rfl)) (fun _ _ _ h=>h) (Or.inl ⟨by rfl,?_⟩) ?_ ?_
  rotate_left
  ·intro w'
   go_simp
   with_reducible rfl
  rotate_left
  ·simp only [Act.put,List.setIfInBounds_toArray,List.set_cons_zero,List.set_cons_succ]
   rfl
  refine take_ (i:=10) (N:=some 35) (v:=?_) (a':=?_) #[true,true,true,true,true,true,true,true,true,true,true,false,false,false,false,false,false] rfl rfl (take_ofW HT_.out HW_.out (by kernel_rfl)) (fun _ _ _ h=>h) (Or.inl ⟨by rfl,?_⟩) hHeld ?_ ?_
  rotate_left
  ·rintro w' ⟨s0,s1,s2,s3⟩
   have c_r0:World.cell? w' ⟨g_r,0,none⟩=some (.int .i64 0):=(Bk.cell s2 0).trans rfl
   have c_r1:World.cell? w' ⟨g_r,1,none⟩=some (.int .i64 0):=(Bk.cell s2 1).trans rfl
   have c_r2:World.cell? w' ⟨g_r,2,none⟩=some (.int .i64 0):=(Bk.cell s2 2).trans rfl
   go_simp
   with_reducible rfl
  rotate_left
  ·simp only [Act.put,List.setIfInBounds_toArray,List.set_cons_zero,List.set_cons_succ]
   rfl
  refine pure_ (i:=11) (N:=some 36) (v:=?_) (a':=?_) #[true,true,true,true,true,true,true,true,true,true,true,true,false,false,false,false,false] rfl rfl (any_of HT_.out (by kernel_rfl)) (fun _ _ _ h=>h) (Or.inl ⟨by rfl,?_⟩) ?_ ?_
  rotate_left
  ·intro w'
   go_simp
   with_reducible rfl
  rotate_left
  ·simp only [Act.put,List.setIfInBounds_toArray,List.set_cons_zero,List.set_cons_succ]
   rfl
  refine take_ (i:=12) (N:=some 37) (v:=?_) (a':=?_) #[true,true,true,true,true,true,true,true,true,true,true,true,true,false,false,false,false] rfl rfl (take_ofW HT_.out HW_.out (by kernel_rfl)) (fun _ _ _ h=>h) (Or.inl ⟨by rfl,?_⟩) hHeld ?_ ?_
  rotate_left
  ·rintro w' ⟨s0,s1,s2,s3⟩
   have c_c0:World.cell? w' ⟨g_c,0,none⟩=some (.int .i64 a0_0):=(Bk.cell s0 0).trans rfl
   have c_c1:World.cell? w' ⟨g_c,1,none⟩=some (.int .i64 a0_1):=(Bk.cell s0 1).trans rfl
   have c_c2:World.cell? w' ⟨g_c,2,none⟩=some (.int .i64 a0_2):=(Bk.cell s0 2).trans rfl
   have c_c3:World.cell? w' ⟨g_c,3,none⟩=some (.int .i64 a0_3):=(Bk.cell s0 3).trans rfl
   have c_c4:World.cell? w' ⟨g_c,4,none⟩=some (.int .i64 a0_4):=(Bk.cell s0 4).trans rfl
   go_simp
   with_reducible rfl
  rotate_left
  ·simp only [Act.put,List.setIfInBounds_toArray,List.set_cons_zero,List.set_cons_succ]
   rfl
  refine pure_ (i:=13) (N:=some 38) (v:=?_) (a':=?_) #[true,true,true,true,true,true,true,true,true,true,true,true,true,true,false,false,false] rfl rfl (any_of HT_.out (by kernel_rfl)) (fun _ _ _ h=>h) (Or.inl ⟨by rfl,?_⟩) ?_ ?_
  rotate_left
  ·intro w'
   go_simp
   with_reducible rfl
  rotate_left
  ·simp only [Act.put,List.setIfInBounds_toArray,List.set_cons_zero,List.set_cons_succ]
   rfl
  refine pure_ (i:=14) (N:=some 39) (v:=?_) (a':=?_) #[true,true,true,true,true,true,true,true,true,true,true,true,true,true,true,false,false] rfl rfl (any_of HT_.out (by kernel_rfl)) (fun _ _ _ h=>h) (Or.inl ⟨by rfl,?_⟩) ?_ ?_
  rotate_left
  ·intro w'
   go_simp
   with_reducible rfl
  rotate_left
  ·simp only [Act.put,List.setIfInBounds_toArray,List.set_cons_zero,List.set_cons_succ]
   rfl
  refine pure_ (i:=15) (N:=some 40) (v:=?_) (a':=?_) #[true,true,true,true,true,true,true,true,true,true,true,true,true,true,true,true,false] rfl rfl (any_of HT_.out (by kernel_rfl)) (fun _ _ _ h=>h) (Or.inl ⟨by rfl,?_⟩) ?_ ?_
  rotate_left
  ·intro w'
   go_simp
   with_reducible rfl
  rotate_left
  ·simp only [Act.put,List.setIfInBounds_toArray,List.set_cons_zero,List.set_cons_succ]
   rfl
  refine pure_ (i:=16) (N:=some 41) (v:=?_) (a':=?_) #[true,true,true,true,true,true,true,true,true,true,true,true,true,true,true,true,true] rfl rfl (any_of HT_.out (by kernel_rfl)) (fun _ _ _ h=>h) (Or.inl ⟨by rfl,?_⟩) ?_ ?_
  rotate_left
  ·intro w'
   go_simp
   with_reducible rfl
  rotate_left
  ·simp only [Act.put,List.setIfInBounds_toArray,List.set_cons_zero,List.set_cons_succ]
   rfl
  refine done_ (done_of HT_.out (by kernel_rfl)) ?_
  clear b_c b_v b_r hB
  obtain⟨b_c,b_v,b_r,hB⟩:=hHeld
  have c_c0:World.cell? wn ⟨g_c,0,none⟩=some (.int .i64 a0_0):=(Bk.cell b_c 0).trans rfl
  have f_c0:=Bk.frozen b_c 0
  have c_c1:World.cell? wn ⟨g_c,1,none⟩=some (.int .i64 a0_1):=(Bk.cell b_c 1).trans rfl
  have f_c1:=Bk.frozen b_c 1
  have c_c2:World.cell? wn ⟨g_c,2,none⟩=some (.int .i64 a0_2):=(Bk.cell b_c 2).trans rfl
  have f_c2:=Bk.frozen b_c 2
  have c_c3:World.cell? wn ⟨g_c,3,none⟩=some (.int .i64 a0_3):=(Bk.cell b_c 3).trans rfl
  have f_c3:=Bk.frozen b_c 3
  have c_c4:World.cell? wn ⟨g_c,4,none⟩=some (.int .i64 a0_4):=(Bk.cell b_c 4).trans rfl
  have f_c4:=Bk.frozen b_c 4
  have c_v0:World.cell? wn ⟨g_v,0,none⟩=some (.int .i64 a1_0):=(Bk.cell b_v 0).trans rfl
  have f_v0:=Bk.frozen b_v 0
  have c_v1:World.cell? wn ⟨g_v,1,none⟩=some (.int .i64 a1_1):=(Bk.cell b_v 1).trans rfl
  have f_v1:=Bk.frozen b_v 1
  have c_v2:World.cell? wn ⟨g_v,2,none⟩=some (.int .i64 a1_2):=(Bk.cell b_v 2).trans rfl
  have f_v2:=Bk.frozen b_v 2
  have c_r0:World.cell? wn ⟨g_r,0,none⟩=some (.int .i64 0):=(Bk.cell b_r 0).trans rfl
  have f_r0:=Bk.frozen b_r 0
  have c_r1:World.cell? wn ⟨g_r,1,none⟩=some (.int .i64 0):=(Bk.cell b_r 1).trans rfl
  have f_r1:=Bk.frozen b_r 1
  have c_r2:World.cell? wn ⟨g_r,2,none⟩=some (.int .i64 0):=(Bk.cell b_r 2).trans rfl
  have f_r2:=Bk.frozen b_r 2
  go_wp2
  clear x0 x1 x2
  rw [rounds_succ]
  go_wp2
  have x0:decide (0 > M)=false:=decide_eq_false (by have h_:=X1.out.1;omega)
  have x1:decide (0<wrap64 (-M))=false:=decide_eq_false (by have h_:=X1.out.2;omega)
  have x2:decide (0<IntKind.i64.wrap (-M))=false:=by rw [i64_w];exact x1
  refine start2_ (n:=17) (S:=fun w'=>Bk w' g_c #[.int .i64 a0_0,.int .i64 a0_1,.int .i64 a0_2,.int .i64 a0_3,.int .i64 a0_4] 24∧Bk w' g_v #[.int .i64 a1_0,.int .i64 a1_1,.int .i64 a1_2] 22∧Bk w' g_r #[.int .i64 0,.int .i64 0,.int .i64 0] 22∧Bel w w') (ds:=[]) #[false,false,false,false,false,false,false,false,false,false,false,false,false,false,false,false,false] (by kernel_rfl) rfl rfl outriggerlaw18_SenseBounds.tab6 outriggerlaw18_SenseBounds.bits6 ⟨Bk.drew b_c,Bk.drew b_v,Bk.drew b_r,Bel.drew hB⟩ (fun wn hHeld HT_ HW_=>?_)
  refine pure_ (i:=0) (N:=some 25) (v:=?_) (a':=?_) #[true,false,false,false,false,false,false,false,false,false,false,false,false,false,false,false,false] rfl rfl (any_of HT_.out (by kernel_rfl)) (fun _ _ _ h=>h) (Or.inl ⟨by rfl,?_⟩) ?_ ?_
  rotate_left
  ·intro w'
   go_simp
   with_reducible rfl
  rotate_left
  ·simp only [Act.put,List.setIfInBounds_toArray,List.set_cons_zero,List.set_cons_succ]
   rfl
  refine pure_ (i:=1) (N:=some 26) (v:=?_) (a':=?_) #[true,true,false,false,false,false,false,false,false,false,false,false,false,false,false,false,false] rfl rfl (any_of HT_.out (by kernel_rfl)) (fun _ _ _ h=>h) (Or.inl ⟨by rfl,?_⟩) ?_ ?_
  rotate_left
  ·intro w'
   go_simp
   with_reducible rfl
  rotate_left
  ·simp only [Act.put,List.setIfInBounds_toArray,List.set_cons_zero,List.set_cons_succ]
   rfl
  refine take_ (i:=2) (N:=some 27) (v:=?_) (a':=?_) #[true,true,true,false,false,false,false,false,false,false,false,false,false,false,false,false,false] rfl rfl (take_ofW HT_.out HW_.out (by kernel_rfl)) (fun _ _ _ h=>h) (Or.inl ⟨by rfl,?_⟩) hHeld ?_ ?_
  rotate_left
  ·rintro w' ⟨s0,s1,s2,s3⟩
   have c_r0:World.cell? w' ⟨g_r,0,none⟩=some (.int .i64 0):=(Bk.cell s2 0).trans rfl
   have c_r1:World.cell? w' ⟨g_r,1,none⟩=some (.int .i64 0):=(Bk.cell s2 1).trans rfl
   have c_r2:World.cell? w' ⟨g_r,2,none⟩=some (.int .i64 0):=(Bk.cell s2 2).trans rfl
   go_simp
   with_reducible rfl
  rotate_left
  ·simp only [Act.put,List.setIfInBounds_toArray,List.set_cons_zero,List.set_cons_succ]
   rfl
  refine pure_ (i:=3) (N:=some 28) (v:=?_) (a':=?_) #[true,true,true,true,false,false,false,false,false,false,false,false,false,false,false,false,false] rfl rfl (any_of HT_.out (by kernel_rfl)) (fun _ _ _ h=>h) (Or.inl ⟨by rfl,?_⟩) ?_ ?_
  rotate_left
  ·intro w'
   go_simp
   with_reducible rfl
  rotate_left
  ·simp only [Act.put,List.setIfInBounds_toArray,List.set_cons_zero,List.set_cons_succ]
   rfl
  refine take_ (i:=4) (N:=some 29) (v:=?_) (a':=?_) #[true,true,true,true,true,false,false,false,false,false,false,false,false,false,false,false,false] rfl rfl (take_ofW HT_.out HW_.out (by kernel_rfl)) (fun _ _ _ h=>h) (Or.inl ⟨by rfl,?_⟩) hHeld ?_ ?_
  rotate_left
  ·rintro w' ⟨s0,s1,s2,s3⟩
   have c_c0:World.cell? w' ⟨g_c,0,none⟩=some (.int .i64 a0_0):=(Bk.cell s0 0).trans rfl
   have c_c1:World.cell? w' ⟨g_c,1,none⟩=some (.int .i64 a0_1):=(Bk.cell s0 1).trans rfl
   have c_c2:World.cell? w' ⟨g_c,2,none⟩=some (.int .i64 a0_2):=(Bk.cell s0 2).trans rfl
   have c_c3:World.cell? w' ⟨g_c,3,none⟩=some (.int .i64 a0_3):=(Bk.cell s0 3).trans rfl
   have c_c4:World.cell? w' ⟨g_c,4,none⟩=some (.int .i64 a0_4):=(Bk.cell s0 4).trans rfl
   go_simp
   with_reducible rfl
  rotate_left
  ·simp only [Act.put,List.setIfInBounds_toArray,List.set_cons_zero,List.set_cons_succ]
   rfl
  refine pure_ (i:=5) (N:=some 30) (v:=?_) (a':=?_) #[true,true,true,true,true,true,false,false,false,false,false,false,false,false,false,false,false] rfl rfl (any_of HT_.out (by kernel_rfl)) (fun _ _ _ h=>h) (Or.inl ⟨by rfl,?_⟩) ?_ ?_
  rotate_left
  ·intro w'
   go_simp
   with_reducible rfl
  rotate_left
  ·simp only [Act.put,List.setIfInBounds_toArray,List.set_cons_zero,List.set_cons_succ]
   rfl
  refine pure_ (i:=6) (N:=some 31) (v:=?_) (a':=?_) #[true,true,true,true,true,true,true,false,false,false,false,false,false,false,false,false,false] rfl rfl (any_of HT_.out (by kernel_rfl)) (fun _ _ _ h=>h) (Or.inl ⟨by rfl,?_⟩) ?_ ?_
  rotate_left
  ·intro w'
   go_simp
   with_reducible rfl
  rotate_left
  ·simp only [Act.put,List.setIfInBounds_toArray,List.set_cons_zero,List.set_cons_succ]
   rfl
  refine pure_ (i:=7) (N:=some 32) (v:=?_) (a':=?_) #[true,true,true,true,true,true,true,true,false,false,false,false,false,false,false,false,false] rfl rfl (any_of HT_.out (by kernel_rfl)) (fun _ _ _ h=>h) (Or.inl ⟨by rfl,?_⟩) ?_ ?_
  rotate_left
  ·intro w'
   go_simp
   with_reducible rfl
  rotate_left
  ·simp only [Act.put,List.setIfInBounds_toArray,List.set_cons_zero,List.set_cons_succ]
   rfl
  refine pure_ (i:=8) (N:=some 33) (v:=?_) (a':=?_) #[true,true,true,true,true,true,true,true,true,false,false,false,false,false,false,false,false] rfl rfl (any_of HT_.out (by kernel_rfl)) (fun _ _ _ h=>h) (Or.inl ⟨by rfl,?_⟩) ?_ ?_
  rotate_left
  ·intro w'
   go_simp
   with_reducible rfl
  rotate_left
  ·simp only [Act.put,List.setIfInBounds_toArray,List.set_cons_zero,List.set_cons_succ]
   rfl
  refine pure_ (i:=9) (N:=some 34) (v:=?_) (a':=?_) #[true,true,true,true,true,true,true,true,true,true,false,false,false,false,false,false,false] rfl rfl (any_of HT_.out (by kernel_rfl)) (fun _ _ _ h=>h) (Or.inl ⟨by rfl,?_⟩) ?_ ?_
  rotate_left
  ·intro w'
   go_simp
   with_reducible rfl
  rotate_left
  ·simp only [Act.put,List.setIfInBounds_toArray,List.set_cons_zero,List.set_cons_succ]
   rfl
  refine take_ (i:=10) (N:=some 35) (v:=?_) (a':=?_) #[true,true,true,true,true,true,true,true,true,true,true,false,false,false,false,false,false] rfl rfl (take_ofW HT_.out HW_.out (by kernel_rfl)) (fun _ _ _ h=>h) (Or.inl ⟨by rfl,?_⟩) hHeld ?_ ?_
  rotate_left
  ·rintro w' ⟨s0,s1,s2,s3⟩
   have c_r0:World.cell? w' ⟨g_r,0,none⟩=some (.int .i64 0):=(Bk.cell s2 0).trans rfl
   have c_r1:World.cell? w' ⟨g_r,1,none⟩=some (.int .i64 0):=(Bk.cell s2 1).trans rfl
   have c_r2:World.cell? w' ⟨g_r,2,none⟩=some (.int .i64 0):=(Bk.cell s2 2).trans rfl
   go_simp
   with_reducible rfl
  rotate_left
  ·simp only [Act.put,List.setIfInBounds_toArray,List.set_cons_zero,List.set_cons_succ]
   rfl
  refine pure_ (i:=11) (N:=some 36) (v:=?_) (a':=?_) #[true,true,true,true,true,true,true,true,true,true,true,true,false,false,false,false,false] rfl rfl (any_of HT_.out (by kernel_rfl)) (fun _ _ _ h=>h) (Or.inl ⟨by rfl,?_⟩) ?_ ?_
  rotate_left
  ·intro w'
   go_simp
   with_reducible rfl
  rotate_left
  ·simp only [Act.put,List.setIfInBounds_toArray,List.set_cons_zero,List.set_cons_succ]
   rfl
  refine take_ (i:=12) (N:=some 37) (v:=?_) (a':=?_) #[true,true,true,true,true,true,true,true,true,true,true,true,true,false,false,false,false] rfl rfl (take_ofW HT_.out HW_.out (by kernel_rfl)) (fun _ _ _ h=>h) (Or.inl ⟨by rfl,?_⟩) hHeld ?_ ?_
  rotate_left
  ·rintro w' ⟨s0,s1,s2,s3⟩
   have c_c0:World.cell? w' ⟨g_c,0,none⟩=some (.int .i64 a0_0):=(Bk.cell s0 0).trans rfl
   have c_c1:World.cell? w' ⟨g_c,1,none⟩=some (.int .i64 a0_1):=(Bk.cell s0 1).trans rfl
   have c_c2:World.cell? w' ⟨g_c,2,none⟩=some (.int .i64 a0_2):=(Bk.cell s0 2).trans rfl
   have c_c3:World.cell? w' ⟨g_c,3,none⟩=some (.int .i64 a0_3):=(Bk.cell s0 3).trans rfl
   have c_c4:World.cell? w' ⟨g_c,4,none⟩=some (.int .i64 a0_4):=(Bk.cell s0 4).trans rfl
   go_simp
   with_reducible rfl
  rotate_left
  ·simp only [Act.put,List.setIfInBounds_toArray,List.set_cons_zero,List.set_cons_succ]
   rfl
  refine pure_ (i:=13) (N:=some 38) (v:=?_) (a':=?_) #[true,true,true,true,true,true,true,true,true,true,true,true,true,true,false,false,false] rfl rfl (any_of HT_.out (by kernel_rfl)) (fun _ _ _ h=>h) (Or.inl ⟨by rfl,?_⟩) ?_ ?_
  rotate_left
  ·intro w'
   go_simp
   with_reducible rfl
  rotate_left
  ·simp only [Act.put,List.setIfInBounds_toArray,List.set_cons_zero,List.set_cons_succ]
   rfl
  refine pure_ (i:=14) (N:=some 39) (v:=?_) (a':=?_) #[true,true,true,true,true,true,true,true,true,true,true,true,true,true,true,false,false] rfl rfl (any_of HT_.out (by kernel_rfl)) (fun _ _ _ h=>h) (Or.inl ⟨by rfl,?_⟩) ?_ ?_
  rotate_left
  ·intro w'
   go_simp
   with_reducible rfl
  rotate_left
  ·simp only [Act.put,List.setIfInBounds_toArray,List.set_cons_zero,List.set_cons_succ]
   rfl
  refine pure_ (i:=15) (N:=some 40) (v:=?_) (a':=?_) #[true,true,true,true,true,true,true,true,true,true,true,true,true,true,true,true,false] rfl rfl (any_of HT_.out (by kernel_rfl)) (fun _ _ _ h=>h) (Or.inl ⟨by rfl,?_⟩) ?_ ?_
  rotate_left
  ·intro w'
   go_simp
   with_reducible rfl
  rotate_left
  ·simp only [Act.put,List.setIfInBounds_toArray,List.set_cons_zero,List.set_cons_succ]
   rfl
  refine pure_ (i:=16) (N:=some 41) (v:=?_) (a':=?_) #[true,true,true,true,true,true,true,true,true,true,true,true,true,true,true,true,true] rfl rfl (any_of HT_.out (by kernel_rfl)) (fun _ _ _ h=>h) (Or.inl ⟨by rfl,?_⟩) ?_ ?_
  rotate_left
  ·intro w'
   go_simp
   with_reducible rfl
  rotate_left
  ·simp only [Act.put,List.setIfInBounds_toArray,List.set_cons_zero,List.set_cons_succ]
   rfl
  refine done_ (done_of HT_.out (by kernel_rfl)) ?_
  clear b_c b_v b_r hB
  obtain⟨b_c,b_v,b_r,hB⟩:=hHeld
  have c_c0:World.cell? wn ⟨g_c,0,none⟩=some (.int .i64 a0_0):=(Bk.cell b_c 0).trans rfl
  have f_c0:=Bk.frozen b_c 0
  have c_c1:World.cell? wn ⟨g_c,1,none⟩=some (.int .i64 a0_1):=(Bk.cell b_c 1).trans rfl
  have f_c1:=Bk.frozen b_c 1
  have c_c2:World.cell? wn ⟨g_c,2,none⟩=some (.int .i64 a0_2):=(Bk.cell b_c 2).trans rfl
  have f_c2:=Bk.frozen b_c 2
  have c_c3:World.cell? wn ⟨g_c,3,none⟩=some (.int .i64 a0_3):=(Bk.cell b_c 3).trans rfl
  have f_c3:=Bk.frozen b_c 3
  have c_c4:World.cell? wn ⟨g_c,4,none⟩=some (.int .i64 a0_4):=(Bk.cell b_c 4).trans rfl
  have f_c4:=Bk.frozen b_c 4
  have c_v0:World.cell? wn ⟨g_v,0,none⟩=some (.int .i64 a1_0):=(Bk.cell b_v 0).trans rfl
  have f_v0:=Bk.frozen b_v 0
  have c_v1:World.cell? wn ⟨g_v,1,none⟩=some (.int .i64 a1_1):=(Bk.cell b_v 1).trans rfl
  have f_v1:=Bk.frozen b_v 1
  have c_v2:World.cell? wn ⟨g_v,2,none⟩=some (.int .i64 a1_2):=(Bk.cell b_v 2).trans rfl
  have f_v2:=Bk.frozen b_v 2
  have c_r0:World.cell? wn ⟨g_r,0,none⟩=some (.int .i64 0):=(Bk.cell b_r 0).trans rfl
  have f_r0:=Bk.frozen b_r 0
  have c_r1:World.cell? wn ⟨g_r,1,none⟩=some (.int .i64 0):=(Bk.cell b_r 1).trans rfl
  have f_r1:=Bk.frozen b_r 1
  have c_r2:World.cell? wn ⟨g_r,2,none⟩=some (.int .i64 0):=(Bk.cell b_r 2).trans rfl
  have f_r2:=Bk.frozen b_r 2
  go_wp2
  clear x0 x1 x2
  rw [rounds_succ]
  go_wp2
  have x0:decide (0 > M)=false:=decide_eq_false (by have h_:=X2.out.1;omega)
  have x1:decide (0<wrap64 (-M))=false:=decide_eq_false (by have h_:=X2.out.2;omega)
  have x2:decide (0<IntKind.i64.wrap (-M))=false:=by rw [i64_w];exact x1
  refine start2_ (n:=17) (S:=fun w'=>Bk w' g_c #[.int .i64 a0_0,.int .i64 a0_1,.int .i64 a0_2,.int .i64 a0_3,.int .i64 a0_4] 24∧Bk w' g_v #[.int .i64 a1_0,.int .i64 a1_1,.int .i64 a1_2] 22∧Bk w' g_r #[.int .i64 0,.int .i64 0,.int .i64 0] 22∧Bel w w') (ds:=[]) #[false,false,false,false,false,false,false,false,false,false,false,false,false,false,false,false,false] (by kernel_rfl) rfl rfl outriggerlaw18_SenseBounds.tab6 outriggerlaw18_SenseBounds.bits6 ⟨Bk.drew b_c,Bk.drew b_v,Bk.drew b_r,Bel.drew hB⟩ (fun wn hHeld HT_ HW_=>?_)
  refine pure_ (i:=0) (N:=some 25) (v:=?_) (a':=?_) #[true,false,false,false,false,false,false,false,false,false,false,false,false,false,false,false,false] rfl rfl (any_of HT_.out (by kernel_rfl)) (fun _ _ _ h=>h) (Or.inl ⟨by rfl,?_⟩) ?_ ?_
  rotate_left
  ·intro w'
   go_simp
   with_reducible rfl
  rotate_left
  ·simp only [Act.put,List.setIfInBounds_toArray,List.set_cons_zero,List.set_cons_succ]
   rfl
  refine pure_ (i:=1) (N:=some 26) (v:=?_) (a':=?_) #[true,true,false,false,false,false,false,false,false,false,false,false,false,false,false,false,false] rfl rfl (any_of HT_.out (by kernel_rfl)) (fun _ _ _ h=>h) (Or.inl ⟨by rfl,?_⟩) ?_ ?_
  rotate_left
  ·intro w'
   go_simp
   with_reducible rfl
  rotate_left
  ·simp only [Act.put,List.setIfInBounds_toArray,List.set_cons_zero,List.set_cons_succ]
   rfl
  refine take_ (i:=2) (N:=some 27) (v:=?_) (a':=?_) #[true,true,true,false,false,false,false,false,false,false,false,false,false,false,false,false,false] rfl rfl (take_ofW HT_.out HW_.out (by kernel_rfl)) (fun _ _ _ h=>h) (Or.inl ⟨by rfl,?_⟩) hHeld ?_ ?_
  rotate_left
  ·rintro w' ⟨s0,s1,s2,s3⟩
   have c_r0:World.cell? w' ⟨g_r,0,none⟩=some (.int .i64 0):=(Bk.cell s2 0).trans rfl
   have c_r1:World.cell? w' ⟨g_r,1,none⟩=some (.int .i64 0):=(Bk.cell s2 1).trans rfl
   have c_r2:World.cell? w' ⟨g_r,2,none⟩=some (.int .i64 0):=(Bk.cell s2 2).trans rfl
   go_simp
   with_reducible rfl
  rotate_left
  ·simp only [Act.put,List.setIfInBounds_toArray,List.set_cons_zero,List.set_cons_succ]
   rfl
  refine pure_ (i:=3) (N:=some 28) (v:=?_) (a':=?_) #[true,true,true,true,false,false,false,false,false,false,false,false,false,false,false,false,false] rfl rfl (any_of HT_.out (by kernel_rfl)) (fun _ _ _ h=>h) (Or.inl ⟨by rfl,?_⟩) ?_ ?_
  rotate_left
  ·intro w'
   go_simp
   with_reducible rfl
  rotate_left
  ·simp only [Act.put,List.setIfInBounds_toArray,List.set_cons_zero,List.set_cons_succ]
   rfl
  refine take_ (i:=4) (N:=some 29) (v:=?_) (a':=?_) #[true,true,true,true,true,false,false,false,false,false,false,false,false,false,false,false,false] rfl rfl (take_ofW HT_.out HW_.out (by kernel_rfl)) (fun _ _ _ h=>h) (Or.inl ⟨by rfl,?_⟩) hHeld ?_ ?_
  rotate_left
  ·rintro w' ⟨s0,s1,s2,s3⟩
   have c_c0:World.cell? w' ⟨g_c,0,none⟩=some (.int .i64 a0_0):=(Bk.cell s0 0).trans rfl
   have c_c1:World.cell? w' ⟨g_c,1,none⟩=some (.int .i64 a0_1):=(Bk.cell s0 1).trans rfl
   have c_c2:World.cell? w' ⟨g_c,2,none⟩=some (.int .i64 a0_2):=(Bk.cell s0 2).trans rfl
   have c_c3:World.cell? w' ⟨g_c,3,none⟩=some (.int .i64 a0_3):=(Bk.cell s0 3).trans rfl
   have c_c4:World.cell? w' ⟨g_c,4,none⟩=some (.int .i64 a0_4):=(Bk.cell s0 4).trans rfl
   go_simp
   with_reducible rfl
  rotate_left
  ·simp only [Act.put,List.setIfInBounds_toArray,List.set_cons_zero,List.set_cons_succ]
   rfl
  refine pure_ (i:=5) (N:=some 30) (v:=?_) (a':=?_) #[true,true,true,true,true,true,false,false,false,false,false,false,false,false,false,false,false] rfl rfl (any_of HT_.out (by kernel_rfl)) (fun _ _ _ h=>h) (Or.inl ⟨by rfl,?_⟩) ?_ ?_
  rotate_left
  ·intro w'
   go_simp
   with_reducible rfl
  rotate_left
  ·simp only [Act.put,List.setIfInBounds_toArray,List.set_cons_zero,List.set_cons_succ]
   rfl
  refine pure_ (i:=6) (N:=some 31) (v:=?_) (a':=?_) #[true,true,true,true,true,true,true,false,false,false,false,false,false,false,false,false,false] rfl rfl (any_of HT_.out (by kernel_rfl)) (fun _ _ _ h=>h) (Or.inl ⟨by rfl,?_⟩) ?_ ?_
  rotate_left
  ·intro w'
   go_simp
   with_reducible rfl
  rotate_left
  ·simp only [Act.put,List.setIfInBounds_toArray,List.set_cons_zero,List.set_cons_succ]
   rfl
  refine pure_ (i:=7) (N:=some 32) (v:=?_) (a':=?_) #[true,true,true,true,true,true,true,true,false,false,false,false,false,false,false,false,false] rfl rfl (any_of HT_.out (by kernel_rfl)) (fun _ _ _ h=>h) (Or.inl ⟨by rfl,?_⟩) ?_ ?_
  rotate_left
  ·intro w'
   go_simp
   with_reducible rfl
  rotate_left
  ·simp only [Act.put,List.setIfInBounds_toArray,List.set_cons_zero,List.set_cons_succ]
   rfl
  refine pure_ (i:=8) (N:=some 33) (v:=?_) (a':=?_) #[true,true,true,true,true,true,true,true,true,false,false,false,false,false,false,false,false] rfl rfl (any_of HT_.out (by kernel_rfl)) (fun _ _ _ h=>h) (Or.inl ⟨by rfl,?_⟩) ?_ ?_
  rotate_left
  ·intro w'
   go_simp
   with_reducible rfl
  rotate_left
  ·simp only [Act.put,List.setIfInBounds_toArray,List.set_cons_zero,List.set_cons_succ]
   rfl
  refine pure_ (i:=9) (N:=some 34) (v:=?_) (a':=?_) #[true,true,true,true,true,true,true,true,true,true,false,false,false,false,false,false,false] rfl rfl (any_of HT_.out (by kernel_rfl)) (fun _ _ _ h=>h) (Or.inl ⟨by rfl,?_⟩) ?_ ?_
  rotate_left
  ·intro w'
   go_simp
   with_reducible rfl
  rotate_left
  ·simp only [Act.put,List.setIfInBounds_toArray,List.set_cons_zero,List.set_cons_succ]
   rfl
  refine take_ (i:=10) (N:=some 35) (v:=?_) (a':=?_) #[true,true,true,true,true,true,true,true,true,true,true,false,false,false,false,false,false] rfl rfl (take_ofW HT_.out HW_.out (by kernel_rfl)) (fun _ _ _ h=>h) (Or.inl ⟨by rfl,?_⟩) hHeld ?_ ?_
  rotate_left
  ·rintro w' ⟨s0,s1,s2,s3⟩
   have c_r0:World.cell? w' ⟨g_r,0,none⟩=some (.int .i64 0):=(Bk.cell s2 0).trans rfl
   have c_r1:World.cell? w' ⟨g_r,1,none⟩=some (.int .i64 0):=(Bk.cell s2 1).trans rfl
   have c_r2:World.cell? w' ⟨g_r,2,none⟩=some (.int .i64 0):=(Bk.cell s2 2).trans rfl
   go_simp
   with_reducible rfl
  rotate_left
  ·simp only [Act.put,List.setIfInBounds_toArray,List.set_cons_zero,List.set_cons_succ]
   rfl
  refine pure_ (i:=11) (N:=some 36) (v:=?_) (a':=?_) #[true,true,true,true,true,true,true,true,true,true,true,true,false,false,false,false,false] rfl rfl (any_of HT_.out (by kernel_rfl)) (fun _ _ _ h=>h) (Or.inl ⟨by rfl,?_⟩) ?_ ?_
  rotate_left
  ·intro w'
   go_simp
   with_reducible rfl
  rotate_left
  ·simp only [Act.put,List.setIfInBounds_toArray,List.set_cons_zero,List.set_cons_succ]
   rfl
  refine take_ (i:=12) (N:=some 37) (v:=?_) (a':=?_) #[true,true,true,true,true,true,true,true,true,true,true,true,true,false,false,false,false] rfl rfl (take_ofW HT_.out HW_.out (by kernel_rfl)) (fun _ _ _ h=>h) (Or.inl ⟨by rfl,?_⟩) hHeld ?_ ?_
  rotate_left
  ·rintro w' ⟨s0,s1,s2,s3⟩
   have c_c0:World.cell? w' ⟨g_c,0,none⟩=some (.int .i64 a0_0):=(Bk.cell s0 0).trans rfl
   have c_c1:World.cell? w' ⟨g_c,1,none⟩=some (.int .i64 a0_1):=(Bk.cell s0 1).trans rfl
   have c_c2:World.cell? w' ⟨g_c,2,none⟩=some (.int .i64 a0_2):=(Bk.cell s0 2).trans rfl
   have c_c3:World.cell? w' ⟨g_c,3,none⟩=some (.int .i64 a0_3):=(Bk.cell s0 3).trans rfl
   have c_c4:World.cell? w' ⟨g_c,4,none⟩=some (.int .i64 a0_4):=(Bk.cell s0 4).trans rfl
   go_simp
   with_reducible rfl
  rotate_left
  ·simp only [Act.put,List.setIfInBounds_toArray,List.set_cons_zero,List.set_cons_succ]
   rfl
  refine pure_ (i:=13) (N:=some 38) (v:=?_) (a':=?_) #[true,true,true,true,true,true,true,true,true,true,true,true,true,true,false,false,false] rfl rfl (any_of HT_.out (by kernel_rfl)) (fun _ _ _ h=>h) (Or.inl ⟨by rfl,?_⟩) ?_ ?_
  rotate_left
  ·intro w'
   go_simp
   with_reducible rfl
  rotate_left
  ·simp only [Act.put,List.setIfInBounds_toArray,List.set_cons_zero,List.set_cons_succ]
   rfl
  refine pure_ (i:=14) (N:=some 39) (v:=?_) (a':=?_) #[true,true,true,true,true,true,true,true,true,true,true,true,true,true,true,false,false] rfl rfl (any_of HT_.out (by kernel_rfl)) (fun _ _ _ h=>h) (Or.inl ⟨by rfl,?_⟩) ?_ ?_
  rotate_left
  ·intro w'
   go_simp
   with_reducible rfl
  rotate_left
  ·simp only [Act.put,List.setIfInBounds_toArray,List.set_cons_zero,List.set_cons_succ]
   rfl
  refine pure_ (i:=15) (N:=some 40) (v:=?_) (a':=?_) #[true,true,true,true,true,true,true,true,true,true,true,true,true,true,true,true,false] rfl rfl (any_of HT_.out (by kernel_rfl)) (fun _ _ _ h=>h) (Or.inl ⟨by rfl,?_⟩) ?_ ?_
  rotate_left
  ·intro w'
   go_simp
   with_reducible rfl
  rotate_left
  ·simp only [Act.put,List.setIfInBounds_toArray,List.set_cons_zero,List.set_cons_succ]
   rfl
  refine pure_ (i:=16) (N:=some 41) (v:=?_) (a':=?_) #[true,true,true,true,true,true,true,true,true,true,true,true,true,true,true,true,true] rfl rfl (any_of HT_.out (by kernel_rfl)) (fun _ _ _ h=>h) (Or.inl ⟨by rfl,?_⟩) ?_ ?_
  rotate_left
  ·intro w'
   go_simp
   with_reducible rfl
  rotate_left
  ·simp only [Act.put,List.setIfInBounds_toArray,List.set_cons_zero,List.set_cons_succ]
   rfl
  refine done_ (done_of HT_.out (by kernel_rfl)) ?_
  clear b_c b_v b_r hB
  obtain⟨b_c,b_v,b_r,hB⟩:=hHeld
  have c_c0:World.cell? wn ⟨g_c,0,none⟩=some (.int .i64 a0_0):=(Bk.cell b_c 0).trans rfl
  have f_c0:=Bk.frozen b_c 0
  have c_c1:World.cell? wn ⟨g_c,1,none⟩=some (.int .i64 a0_1):=(Bk.cell b_c 1).trans rfl
  have f_c1:=Bk.frozen b_c 1
  have c_c2:World.cell? wn ⟨g_c,2,none⟩=some (.int .i64 a0_2):=(Bk.cell b_c 2).trans rfl
  have f_c2:=Bk.frozen b_c 2
  have c_c3:World.cell? wn ⟨g_c,3,none⟩=some (.int .i64 a0_3):=(Bk.cell b_c 3).trans rfl
  have f_c3:=Bk.frozen b_c 3
  have c_c4:World.cell? wn ⟨g_c,4,none⟩=some (.int .i64 a0_4):=(Bk.cell b_c 4).trans rfl
  have f_c4:=Bk.frozen b_c 4
  have c_v0:World.cell? wn ⟨g_v,0,none⟩=some (.int .i64 a1_0):=(Bk.cell b_v 0).trans rfl
  have f_v0:=Bk.frozen b_v 0
  have c_v1:World.cell? wn ⟨g_v,1,none⟩=some (.int .i64 a1_1):=(Bk.cell b_v 1).trans rfl
  have f_v1:=Bk.frozen b_v 1
  have c_v2:World.cell? wn ⟨g_v,2,none⟩=some (.int .i64 a1_2):=(Bk.cell b_v 2).trans rfl
  have f_v2:=Bk.frozen b_v 2
  have c_r0:World.cell? wn ⟨g_r,0,none⟩=some (.int .i64 0):=(Bk.cell b_r 0).trans rfl
  have f_r0:=Bk.frozen b_r 0
  have c_r1:World.cell? wn ⟨g_r,1,none⟩=some (.int .i64 0):=(Bk.cell b_r 1).trans rfl
  have f_r1:=Bk.frozen b_r 1
  have c_r2:World.cell? wn ⟨g_r,2,none⟩=some (.int .i64 0):=(Bk.cell b_r 2).trans rfl
  have f_r2:=Bk.frozen b_r 2
  go_wp2
  clear x0 x1 x2
  rw [rounds_succ]
  go_upto_region 10 with (((with_reducible refine gate_dst (N:=9) rfl ?_);refine box_event ?hg (N:=9) ?hd (cs:=#[.int .i64 0,.int .i64 0,.int .i64 0,.int .i64 0,.int .i64 0]) (t:=24) ?hr ?_;(case hd=>rfl);(case hg=>rfl);(case hr=>first|(go_simp;done)|(go_simp;rfl));intro g_d hg w1 b_d hb;have b_d:Bk w1 g_d #[.int .i64 0,.int .i64 0,.int .i64 0,.int .i64 0,.int .i64 0] 24:=b_d;have l_d:w.heap.size≤g_d:=(by rw [hg];exact Bel.size hB);have ne_c_d:g_c≠g_d:=(by rw [hg];exact Nat.ne_of_lt (Bk.lt b_c));have ne_d_c:g_d≠g_c:=Ne.symm ne_c_d;have ne_v_d:g_v≠g_d:=(by rw [hg];exact Nat.ne_of_lt (Bk.lt b_v));have ne_d_v:g_d≠g_v:=Ne.symm ne_v_d;have ne_r_d:g_r≠g_d:=(by rw [hg];exact Nat.ne_of_lt (Bk.lt b_r));have ne_d_r:g_d≠g_r:=Ne.symm ne_r_d;have m_c:Bk w1 g_c #[.int .i64 a0_0,.int .i64 a0_1,.int .i64 a0_2,.int .i64 a0_3,.int .i64 a0_4] 24:=Bk.below b_c hb;have m_v:Bk w1 g_v #[.int .i64 a1_0,.int .i64 a1_1,.int .i64 a1_2] 22:=Bk.below b_v hb;have m_r:Bk w1 g_r #[.int .i64 0,.int .i64 0,.int .i64 0] 22:=Bk.below b_r hb;have mB:=Bel.step hB hb;clear b_c;clear b_v;clear b_r;have b_c:=m_c;clear m_c;have b_v:=m_v;clear m_v;have b_r:=m_r;clear m_r;clear hB;have hB:=mB;clear mB;(try clear hb);clear hg;have c_c0:World.cell? w1 ⟨g_c,0,none⟩=some (.int .i64 a0_0):=(Bk.cell b_c 0).trans rfl;have f_c0:=Bk.frozen b_c 0;have c_c1:World.cell? w1 ⟨g_c,1,none⟩=some (.int .i64 a0_1):=(Bk.cell b_c 1).trans rfl;have f_c1:=Bk.frozen b_c 1;have c_c2:World.cell? w1 ⟨g_c,2,none⟩=some (.int .i64 a0_2):=(Bk.cell b_c 2).trans rfl;have f_c2:=Bk.frozen b_c 2;have c_c3:World.cell? w1 ⟨g_c,3,none⟩=some (.int .i64 a0_3):=(Bk.cell b_c 3).trans rfl;have f_c3:=Bk.frozen b_c 3;have c_c4:World.cell? w1 ⟨g_c,4,none⟩=some (.int .i64 a0_4):=(Bk.cell b_c 4).trans rfl;have f_c4:=Bk.frozen b_c 4;have c_v0:World.cell? w1 ⟨g_v,0,none⟩=some (.int .i64 a1_0):=(Bk.cell b_v 0).trans rfl;have f_v0:=Bk.frozen b_v 0;have c_v1:World.cell? w1 ⟨g_v,1,none⟩=some (.int .i64 a1_1):=(Bk.cell b_v 1).trans rfl;have f_v1:=Bk.frozen b_v 1;have c_v2:World.cell? w1 ⟨g_v,2,none⟩=some (.int .i64 a1_2):=(Bk.cell b_v 2).trans rfl;have f_v2:=Bk.frozen b_v 2;have c_r0:World.cell? w1 ⟨g_r,0,none⟩=some (.int .i64 0):=(Bk.cell b_r 0).trans rfl;have f_r0:=Bk.frozen b_r 0;have c_r1:World.cell? w1 ⟨g_r,1,none⟩=some (.int .i64 0):=(Bk.cell b_r 1).trans rfl;have f_r1:=Bk.frozen b_r 1;have c_r2:World.cell? w1 ⟨g_r,2,none⟩=some (.int .i64 0):=(Bk.cell b_r 2).trans rfl;have f_r2:=Bk.frozen b_r 2;have c_d0:World.cell? w1 ⟨g_d,0,none⟩=some (.int .i64 0):=(Bk.cell b_d 0).trans rfl;have f_d0:=Bk.frozen b_d 0;have c_d1:World.cell? w1 ⟨g_d,1,none⟩=some (.int .i64 0):=(Bk.cell b_d 1).trans rfl;have f_d1:=Bk.frozen b_d 1;have c_d2:World.cell? w1 ⟨g_d,2,none⟩=some (.int .i64 0):=(Bk.cell b_d 2).trans rfl;have f_d2:=Bk.frozen b_d 2;have c_d3:World.cell? w1 ⟨g_d,3,none⟩=some (.int .i64 0):=(Bk.cell b_d 3).trans rfl;have f_d3:=Bk.frozen b_d 3;have c_d4:World.cell? w1 ⟨g_d,4,none⟩=some (.int .i64 0):=(Bk.cell b_d 4).trans rfl;have f_d4:=Bk.frozen b_d 4))
  refine gen_c (fun w'=>Bk w' g_c #[.int .i64 a0_0,.int .i64 a0_1,.int .i64 a0_2,.int .i64 a0_3,.int .i64 a0_4] 24∧Bk w' g_v #[.int .i64 a1_0,.int .i64 a1_1,.int .i64 a1_2] 22∧Bk w' g_r #[.int .i64 0,.int .i64 0,.int .i64 0] 22∧Bk w' g_d #[.int .i64 a0_0,.int .i64 a0_1,.int .i64 a0_2,.int .i64 a0_3,.int .i64 288230376151711744] 24∧Bel w w') ⟨(Bk.far (Bk.far (Bk.far (Bk.far (Bk.far (Bk.far b_c ne_c_d 0 (.int .i64 a0_0)) ne_c_d 1 (.int .i64 a0_1)) ne_c_d 2 (.int .i64 a0_2)) ne_c_d 3 (.int .i64 a0_3)) ne_c_d 4 (.int .i64 a0_4)) ne_c_d 4 (.int .i64 288230376151711744)),(Bk.far (Bk.far (Bk.far (Bk.far (Bk.far (Bk.far b_v ne_v_d 0 (.int .i64 a0_0)) ne_v_d 1 (.int .i64 a0_1)) ne_v_d 2 (.int .i64 a0_2)) ne_v_d 3 (.int .i64 a0_3)) ne_v_d 4 (.int .i64 a0_4)) ne_v_d 4 (.int .i64 288230376151711744)),(Bk.far (Bk.far (Bk.far (Bk.far (Bk.far (Bk.far b_r ne_r_d 0 (.int .i64 a0_0)) ne_r_d 1 (.int .i64 a0_1)) ne_r_d 2 (.int .i64 a0_2)) ne_r_d 3 (.int .i64 a0_3)) ne_r_d 4 (.int .i64 a0_4)) ne_r_d 4 (.int .i64 288230376151711744)),(Bk.put (Bk.put (Bk.put (Bk.put (Bk.put (Bk.put b_d 0 (.int .i64 a0_0) rfl) 1 (.int .i64 a0_1) rfl) 2 (.int .i64 a0_2) rfl) 3 (.int .i64 a0_3) rfl) 4 (.int .i64 a0_4) rfl) 4 (.int .i64 288230376151711744) rfl),(Bel.set (Bel.set (Bel.set (Bel.set (Bel.set (Bel.set hB l_d 0 (.int .i64 a0_0)) l_d 1 (.int .i64 a0_1)) l_d 2 (.int .i64 a0_2)) l_d 3 (.int .i64 a0_3)) l_d 4 (.int .i64 a0_4)) l_d 4 (.int .i64 288230376151711744))⟩ ?_
  clear b_c b_v b_r b_d hB
  rintro wn ⟨b_c,b_v,b_r,b_d,hB⟩
  have c_c0:World.cell? wn ⟨g_c,0,none⟩=some (.int .i64 a0_0):=(Bk.cell b_c 0).trans rfl
  have f_c0:=Bk.frozen b_c 0
  have c_c1:World.cell? wn ⟨g_c,1,none⟩=some (.int .i64 a0_1):=(Bk.cell b_c 1).trans rfl
  have f_c1:=Bk.frozen b_c 1
  have c_c2:World.cell? wn ⟨g_c,2,none⟩=some (.int .i64 a0_2):=(Bk.cell b_c 2).trans rfl
  have f_c2:=Bk.frozen b_c 2
  have c_c3:World.cell? wn ⟨g_c,3,none⟩=some (.int .i64 a0_3):=(Bk.cell b_c 3).trans rfl
  have f_c3:=Bk.frozen b_c 3
  have c_c4:World.cell? wn ⟨g_c,4,none⟩=some (.int .i64 a0_4):=(Bk.cell b_c 4).trans rfl
  have f_c4:=Bk.frozen b_c 4
  have c_v0:World.cell? wn ⟨g_v,0,none⟩=some (.int .i64 a1_0):=(Bk.cell b_v 0).trans rfl
  have f_v0:=Bk.frozen b_v 0
  have c_v1:World.cell? wn ⟨g_v,1,none⟩=some (.int .i64 a1_1):=(Bk.cell b_v 1).trans rfl
  have f_v1:=Bk.frozen b_v 1
  have c_v2:World.cell? wn ⟨g_v,2,none⟩=some (.int .i64 a1_2):=(Bk.cell b_v 2).trans rfl
  have f_v2:=Bk.frozen b_v 2
  have c_r0:World.cell? wn ⟨g_r,0,none⟩=some (.int .i64 0):=(Bk.cell b_r 0).trans rfl
  have f_r0:=Bk.frozen b_r 0
  have c_r1:World.cell? wn ⟨g_r,1,none⟩=some (.int .i64 0):=(Bk.cell b_r 1).trans rfl
  have f_r1:=Bk.frozen b_r 1
  have c_r2:World.cell? wn ⟨g_r,2,none⟩=some (.int .i64 0):=(Bk.cell b_r 2).trans rfl
  have f_r2:=Bk.frozen b_r 2
  have c_d0:World.cell? wn ⟨g_d,0,none⟩=some (.int .i64 a0_0):=(Bk.cell b_d 0).trans rfl
  have f_d0:=Bk.frozen b_d 0
  have c_d1:World.cell? wn ⟨g_d,1,none⟩=some (.int .i64 a0_1):=(Bk.cell b_d 1).trans rfl
  have f_d1:=Bk.frozen b_d 1
  have c_d2:World.cell? wn ⟨g_d,2,none⟩=some (.int .i64 a0_2):=(Bk.cell b_d 2).trans rfl
  have f_d2:=Bk.frozen b_d 2
  have c_d3:World.cell? wn ⟨g_d,3,none⟩=some (.int .i64 a0_3):=(Bk.cell b_d 3).trans rfl
  have f_d3:=Bk.frozen b_d 3
  have c_d4:World.cell? wn ⟨g_d,4,none⟩=some (.int .i64 288230376151711744):=(Bk.cell b_d 4).trans rfl
  have f_d4:=Bk.frozen b_d 4
  go_wp2_with (first|((with_reducible refine gate_dst (N:=47) rfl ?_);(with_reducible refine gate_callee (f:=9) rfl ?_);refine goesL_ (some 47) rfl rfl Try.func9 (by kernel_rfl) rfl #[.agg #[.int .i64 a0_0,.int .i64 a0_1,.int .i64 a0_2,.int .i64 a0_3,.int .i64 288230376151711744],.agg #[.int .i64 a1_0,.int .i64 a1_1,.int .i64 a1_2]] rfl (by (try simp only [List.map_toArray,List.map_cons,List.map_nil]);first|done|rfl) ?_;refine(sense_Read.calls k a0_0 a0_1 a0_2 a0_3 288230376151711744 a1_0 a1_1 a1_2 _ _ _ _ _ A2.out).mono ?_;rintro e w1 ⟨rfl,hb⟩;refine⟨_,rfl,?_⟩;have m_c:Bk w1 g_c #[.int .i64 a0_0,.int .i64 a0_1,.int .i64 a0_2,.int .i64 a0_3,.int .i64 a0_4] 24:=Bk.below b_c hb;have m_v:Bk w1 g_v #[.int .i64 a1_0,.int .i64 a1_1,.int .i64 a1_2] 22:=Bk.below b_v hb;have m_r:Bk w1 g_r #[.int .i64 0,.int .i64 0,.int .i64 0] 22:=Bk.below b_r hb;have m_d:Bk w1 g_d #[.int .i64 a0_0,.int .i64 a0_1,.int .i64 a0_2,.int .i64 a0_3,.int .i64 288230376151711744] 24:=Bk.below b_d hb;have mB:=Bel.step hB hb;clear b_c;clear b_v;clear b_r;clear b_d;have b_c:=m_c;clear m_c;have b_v:=m_v;clear m_v;have b_r:=m_r;clear m_r;have b_d:=m_d;clear m_d;clear hB;have hB:=mB;clear mB;(try clear hb);have c_c0:World.cell? w1 ⟨g_c,0,none⟩=some (.int .i64 a0_0):=(Bk.cell b_c 0).trans rfl;have f_c0:=Bk.frozen b_c 0;have c_c1:World.cell? w1 ⟨g_c,1,none⟩=some (.int .i64 a0_1):=(Bk.cell b_c 1).trans rfl;have f_c1:=Bk.frozen b_c 1;have c_c2:World.cell? w1 ⟨g_c,2,none⟩=some (.int .i64 a0_2):=(Bk.cell b_c 2).trans rfl;have f_c2:=Bk.frozen b_c 2;have c_c3:World.cell? w1 ⟨g_c,3,none⟩=some (.int .i64 a0_3):=(Bk.cell b_c 3).trans rfl;have f_c3:=Bk.frozen b_c 3;have c_c4:World.cell? w1 ⟨g_c,4,none⟩=some (.int .i64 a0_4):=(Bk.cell b_c 4).trans rfl;have f_c4:=Bk.frozen b_c 4;have c_v0:World.cell? w1 ⟨g_v,0,none⟩=some (.int .i64 a1_0):=(Bk.cell b_v 0).trans rfl;have f_v0:=Bk.frozen b_v 0;have c_v1:World.cell? w1 ⟨g_v,1,none⟩=some (.int .i64 a1_1):=(Bk.cell b_v 1).trans rfl;have f_v1:=Bk.frozen b_v 1;have c_v2:World.cell? w1 ⟨g_v,2,none⟩=some (.int .i64 a1_2):=(Bk.cell b_v 2).trans rfl;have f_v2:=Bk.frozen b_v 2;have c_r0:World.cell? w1 ⟨g_r,0,none⟩=some (.int .i64 0):=(Bk.cell b_r 0).trans rfl;have f_r0:=Bk.frozen b_r 0;have c_r1:World.cell? w1 ⟨g_r,1,none⟩=some (.int .i64 0):=(Bk.cell b_r 1).trans rfl;have f_r1:=Bk.frozen b_r 1;have c_r2:World.cell? w1 ⟨g_r,2,none⟩=some (.int .i64 0):=(Bk.cell b_r 2).trans rfl;have f_r2:=Bk.frozen b_r 2;have c_d0:World.cell? w1 ⟨g_d,0,none⟩=some (.int .i64 a0_0):=(Bk.cell b_d 0).trans rfl;have f_d0:=Bk.frozen b_d 0;have c_d1:World.cell? w1 ⟨g_d,1,none⟩=some (.int .i64 a0_1):=(Bk.cell b_d 1).trans rfl;have f_d1:=Bk.frozen b_d 1;have c_d2:World.cell? w1 ⟨g_d,2,none⟩=some (.int .i64 a0_2):=(Bk.cell b_d 2).trans rfl;have f_d2:=Bk.frozen b_d 2;have c_d3:World.cell? w1 ⟨g_d,3,none⟩=some (.int .i64 a0_3):=(Bk.cell b_d 3).trans rfl;have f_d3:=Bk.frozen b_d 3;have c_d4:World.cell? w1 ⟨g_d,4,none⟩=some (.int .i64 288230376151711744):=(Bk.cell b_d 4).trans rfl;have f_d4:=Bk.frozen b_d 4)|((with_reducible refine gate_dst (N:=10) rfl ?_);refine box_event ?hg (N:=10) ?hd (cs:=#[.int .i64 0,.int .i64 0,.int .i64 0]) (t:=22) ?hr ?_;(case hd=>rfl);(case hg=>rfl);(case hr=>first|(go_simp;done)|(go_simp;rfl));intro g_s hg w1 b_s hb;have b_s:Bk w1 g_s #[.int .i64 0,.int .i64 0,.int .i64 0] 22:=b_s;have l_s:w.heap.size≤g_s:=(by rw [hg];exact Bel.size hB);have ne_c_s:g_c≠g_s:=(by rw [hg];exact Nat.ne_of_lt (Bk.lt b_c));have ne_s_c:g_s≠g_c:=Ne.symm ne_c_s;have ne_v_s:g_v≠g_s:=(by rw [hg];exact Nat.ne_of_lt (Bk.lt b_v));have ne_s_v:g_s≠g_v:=Ne.symm ne_v_s;have ne_r_s:g_r≠g_s:=(by rw [hg];exact Nat.ne_of_lt (Bk.lt b_r));have ne_s_r:g_s≠g_r:=Ne.symm ne_r_s;have ne_d_s:g_d≠g_s:=(by rw [hg];exact Nat.ne_of_lt (Bk.lt b_d));have ne_s_d:g_s≠g_d:=Ne.symm ne_d_s;have m_c:Bk w1 g_c #[.int .i64 a0_0,.int .i64 a0_1,.int .i64 a0_2,.int .i64 a0_3,.int .i64 a0_4] 24:=Bk.below b_c hb;have m_v:Bk w1 g_v #[.int .i64 a1_0,.int .i64 a1_1,.int .i64 a1_2] 22:=Bk.below b_v hb;have m_r:Bk w1 g_r #[.int .i64 0,.int .i64 0,.int .i64 0] 22:=Bk.below b_r hb;have m_d:Bk w1 g_d #[.int .i64 a0_0,.int .i64 a0_1,.int .i64 a0_2,.int .i64 a0_3,.int .i64 288230376151711744] 24:=Bk.below b_d hb;have mB:=Bel.step hB hb;clear b_c;clear b_v;clear b_r;clear b_d;have b_c:=m_c;clear m_c;have b_v:=m_v;clear m_v;have b_r:=m_r;clear m_r;have b_d:=m_d;clear m_d;clear hB;have hB:=mB;clear mB;(try clear hb);clear hg;have c_c0:World.cell? w1 ⟨g_c,0,none⟩=some (.int .i64 a0_0):=(Bk.cell b_c 0).trans rfl;have f_c0:=Bk.frozen b_c 0;have c_c1:World.cell? w1 ⟨g_c,1,none⟩=some (.int .i64 a0_1):=(Bk.cell b_c 1).trans rfl;have f_c1:=Bk.frozen b_c 1;have c_c2:World.cell? w1 ⟨g_c,2,none⟩=some (.int .i64 a0_2):=(Bk.cell b_c 2).trans rfl;have f_c2:=Bk.frozen b_c 2;have c_c3:World.cell? w1 ⟨g_c,3,none⟩=some (.int .i64 a0_3):=(Bk.cell b_c 3).trans rfl;have f_c3:=Bk.frozen b_c 3;have c_c4:World.cell? w1 ⟨g_c,4,none⟩=some (.int .i64 a0_4):=(Bk.cell b_c 4).trans rfl;have f_c4:=Bk.frozen b_c 4;have c_v0:World.cell? w1 ⟨g_v,0,none⟩=some (.int .i64 a1_0):=(Bk.cell b_v 0).trans rfl;have f_v0:=Bk.frozen b_v 0;have c_v1:World.cell? w1 ⟨g_v,1,none⟩=some (.int .i64 a1_1):=(Bk.cell b_v 1).trans rfl;have f_v1:=Bk.frozen b_v 1;have c_v2:World.cell? w1 ⟨g_v,2,none⟩=some (.int .i64 a1_2):=(Bk.cell b_v 2).trans rfl;have f_v2:=Bk.frozen b_v 2;have c_r0:World.cell? w1 ⟨g_r,0,none⟩=some (.int .i64 0):=(Bk.cell b_r 0).trans rfl;have f_r0:=Bk.frozen b_r 0;have c_r1:World.cell? w1 ⟨g_r,1,none⟩=some (.int .i64 0):=(Bk.cell b_r 1).trans rfl;have f_r1:=Bk.frozen b_r 1;have c_r2:World.cell? w1 ⟨g_r,2,none⟩=some (.int .i64 0):=(Bk.cell b_r 2).trans rfl;have f_r2:=Bk.frozen b_r 2;have c_d0:World.cell? w1 ⟨g_d,0,none⟩=some (.int .i64 a0_0):=(Bk.cell b_d 0).trans rfl;have f_d0:=Bk.frozen b_d 0;have c_d1:World.cell? w1 ⟨g_d,1,none⟩=some (.int .i64 a0_1):=(Bk.cell b_d 1).trans rfl;have f_d1:=Bk.frozen b_d 1;have c_d2:World.cell? w1 ⟨g_d,2,none⟩=some (.int .i64 a0_2):=(Bk.cell b_d 2).trans rfl;have f_d2:=Bk.frozen b_d 2;have c_d3:World.cell? w1 ⟨g_d,3,none⟩=some (.int .i64 a0_3):=(Bk.cell b_d 3).trans rfl;have f_d3:=Bk.frozen b_d 3;have c_d4:World.cell? w1 ⟨g_d,4,none⟩=some (.int .i64 288230376151711744):=(Bk.cell b_d 4).trans rfl;have f_d4:=Bk.frozen b_d 4;have c_s0:World.cell? w1 ⟨g_s,0,none⟩=some (.int .i64 0):=(Bk.cell b_s 0).trans rfl;have f_s0:=Bk.frozen b_s 0;have c_s1:World.cell? w1 ⟨g_s,1,none⟩=some (.int .i64 0):=(Bk.cell b_s 1).trans rfl;have f_s1:=Bk.frozen b_s 1;have c_s2:World.cell? w1 ⟨g_s,2,none⟩=some (.int .i64 0):=(Bk.cell b_s 2).trans rfl;have f_s2:=Bk.frozen b_s 2)|((with_reducible refine gate_dst (N:=54) rfl ?_);(with_reducible refine gate_callee (f:=9) rfl ?_);refine goesL_ (some 54) rfl rfl Try.func9 (by kernel_rfl) rfl #[.agg #[.int .i64 a0_0,.int .i64 a0_1,.int .i64 a0_2,.int .i64 a0_3,.int .i64 a0_4],.agg #[.int .i64 a0_0,.int .i64 a0_1,.int .i64 a0_2]] rfl (by (try simp only [List.map_toArray,List.map_cons,List.map_nil]);first|done|rfl) ?_;refine(sense_Read.calls k a0_0 a0_1 a0_2 a0_3 a0_4 a0_0 a0_1 a0_2 _ _ _ _ _ A3.out).mono ?_;rintro e w1 ⟨rfl,hb⟩;refine⟨_,rfl,?_⟩;have m_c:Bk w1 g_c #[.int .i64 a0_0,.int .i64 a0_1,.int .i64 a0_2,.int .i64 a0_3,.int .i64 a0_4] 24:=Bk.below (Bk.far (Bk.far (Bk.far b_c ne_c_s 0 (.int .i64 s0)) ne_c_s 1 (.int .i64 s1)) ne_c_s 2 (.int .i64 s2)) hb;have m_v:Bk w1 g_v #[.int .i64 a1_0,.int .i64 a1_1,.int .i64 a1_2] 22:=Bk.below (Bk.far (Bk.far (Bk.far b_v ne_v_s 0 (.int .i64 s0)) ne_v_s 1 (.int .i64 s1)) ne_v_s 2 (.int .i64 s2)) hb;have m_r:Bk w1 g_r #[.int .i64 0,.int .i64 0,.int .i64 0] 22:=Bk.below (Bk.far (Bk.far (Bk.far b_r ne_r_s 0 (.int .i64 s0)) ne_r_s 1 (.int .i64 s1)) ne_r_s 2 (.int .i64 s2)) hb;have m_d:Bk w1 g_d #[.int .i64 a0_0,.int .i64 a0_1,.int .i64 a0_2,.int .i64 a0_3,.int .i64 288230376151711744] 24:=Bk.below (Bk.far (Bk.far (Bk.far b_d ne_d_s 0 (.int .i64 s0)) ne_d_s 1 (.int .i64 s1)) ne_d_s 2 (.int .i64 s2)) hb;have m_s:Bk w1 g_s #[.int .i64 s0,.int .i64 s1,.int .i64 s2] 22:=Bk.below (Bk.put (Bk.put (Bk.put b_s 0 (.int .i64 s0) rfl) 1 (.int .i64 s1) rfl) 2 (.int .i64 s2) rfl) hb;have mB:=Bel.step (Bel.set (Bel.set (Bel.set hB l_s 0 (.int .i64 s0)) l_s 1 (.int .i64 s1)) l_s 2 (.int .i64 s2)) hb;clear b_c;clear b_v;clear b_r;clear b_d;clear b_s;have b_c:=m_c;clear m_c;have b_v:=m_v;clear m_v;have b_r:=m_r;clear m_r;have b_d:=m_d;clear m_d;have b_s:=m_s;clear m_s;clear hB;have hB:=mB;clear mB;(try clear hb);have c_c0:World.cell? w1 ⟨g_c,0,none⟩=some (.int .i64 a0_0):=(Bk.cell b_c 0).trans rfl;have f_c0:=Bk.frozen b_c 0;have c_c1:World.cell? w1 ⟨g_c,1,none⟩=some (.int .i64 a0_1):=(Bk.cell b_c 1).trans rfl;have f_c1:=Bk.frozen b_c 1;have c_c2:World.cell? w1 ⟨g_c,2,none⟩=some (.int .i64 a0_2):=(Bk.cell b_c 2).trans rfl;have f_c2:=Bk.frozen b_c 2;have c_c3:World.cell? w1 ⟨g_c,3,none⟩=some (.int .i64 a0_3):=(Bk.cell b_c 3).trans rfl;have f_c3:=Bk.frozen b_c 3;have c_c4:World.cell? w1 ⟨g_c,4,none⟩=some (.int .i64 a0_4):=(Bk.cell b_c 4).trans rfl;have f_c4:=Bk.frozen b_c 4;have c_v0:World.cell? w1 ⟨g_v,0,none⟩=some (.int .i64 a1_0):=(Bk.cell b_v 0).trans rfl;have f_v0:=Bk.frozen b_v 0;have c_v1:World.cell? w1 ⟨g_v,1,none⟩=some (.int .i64 a1_1):=(Bk.cell b_v 1).trans rfl;have f_v1:=Bk.frozen b_v 1;have c_v2:World.cell? w1 ⟨g_v,2,none⟩=some (.int .i64 a1_2):=(Bk.cell b_v 2).trans rfl;have f_v2:=Bk.frozen b_v 2;have c_r0:World.cell? w1 ⟨g_r,0,none⟩=some (.int .i64 0):=(Bk.cell b_r 0).trans rfl;have f_r0:=Bk.frozen b_r 0;have c_r1:World.cell? w1 ⟨g_r,1,none⟩=some (.int .i64 0):=(Bk.cell b_r 1).trans rfl;have f_r1:=Bk.frozen b_r 1;have c_r2:World.cell? w1 ⟨g_r,2,none⟩=some (.int .i64 0):=(Bk.cell b_r 2).trans rfl;have f_r2:=Bk.frozen b_r 2;have c_d0:World.cell? w1 ⟨g_d,0,none⟩=some (.int .i64 a0_0):=(Bk.cell b_d 0).trans rfl;have f_d0:=Bk.frozen b_d 0;have c_d1:World.cell? w1 ⟨g_d,1,none⟩=some (.int .i64 a0_1):=(Bk.cell b_d 1).trans rfl;have f_d1:=Bk.frozen b_d 1;have c_d2:World.cell? w1 ⟨g_d,2,none⟩=some (.int .i64 a0_2):=(Bk.cell b_d 2).trans rfl;have f_d2:=Bk.frozen b_d 2;have c_d3:World.cell? w1 ⟨g_d,3,none⟩=some (.int .i64 a0_3):=(Bk.cell b_d 3).trans rfl;have f_d3:=Bk.frozen b_d 3;have c_d4:World.cell? w1 ⟨g_d,4,none⟩=some (.int .i64 288230376151711744):=(Bk.cell b_d 4).trans rfl;have f_d4:=Bk.frozen b_d 4;have c_s0:World.cell? w1 ⟨g_s,0,none⟩=some (.int .i64 s0):=(Bk.cell b_s 0).trans rfl;have f_s0:=Bk.frozen b_s 0;have c_s1:World.cell? w1 ⟨g_s,1,none⟩=some (.int .i64 s1):=(Bk.cell b_s 1).trans rfl;have f_s1:=Bk.frozen b_s 1;have c_s2:World.cell? w1 ⟨g_s,2,none⟩=some (.int .i64 s2):=(Bk.cell b_s 2).trans rfl;have f_s2:=Bk.frozen b_s 2)|((with_reducible refine gate_dst (N:=12) rfl ?_);refine box_event ?hg (N:=12) ?hd (cs:=#[.int .i64 0,.int .i64 0,.int .i64 0]) (t:=22) ?hr ?_;(case hd=>rfl);(case hg=>rfl);(case hr=>first|(go_simp;done)|(go_simp;rfl));intro g_z hg w1 b_z hb;have b_z:Bk w1 g_z #[.int .i64 0,.int .i64 0,.int .i64 0] 22:=b_z;have l_z:w.heap.size≤g_z:=(by rw [hg];exact Bel.size hB);have ne_c_z:g_c≠g_z:=(by rw [hg];exact Nat.ne_of_lt (Bk.lt b_c));have ne_z_c:g_z≠g_c:=Ne.symm ne_c_z;have ne_v_z:g_v≠g_z:=(by rw [hg];exact Nat.ne_of_lt (Bk.lt b_v));have ne_z_v:g_z≠g_v:=Ne.symm ne_v_z;have ne_r_z:g_r≠g_z:=(by rw [hg];exact Nat.ne_of_lt (Bk.lt b_r));have ne_z_r:g_z≠g_r:=Ne.symm ne_r_z;have ne_d_z:g_d≠g_z:=(by rw [hg];exact Nat.ne_of_lt (Bk.lt b_d));have ne_z_d:g_z≠g_d:=Ne.symm ne_d_z;have ne_s_z:g_s≠g_z:=(by rw [hg];exact Nat.ne_of_lt (Bk.lt b_s));have ne_z_s:g_z≠g_s:=Ne.symm ne_s_z;have m_c:Bk w1 g_c #[.int .i64 a0_0,.int .i64 a0_1,.int .i64 a0_2,.int .i64 a0_3,.int .i64 a0_4] 24:=Bk.below b_c hb;have m_v:Bk w1 g_v #[.int .i64 a1_0,.int .i64 a1_1,.int .i64 a1_2] 22:=Bk.below b_v hb;have m_r:Bk w1 g_r #[.int .i64 0,.int .i64 0,.int .i64 0] 22:=Bk.below b_r hb;have m_d:Bk w1 g_d #[.int .i64 a0_0,.int .i64 a0_1,.int .i64 a0_2,.int .i64 a0_3,.int .i64 288230376151711744] 24:=Bk.below b_d hb;have m_s:Bk w1 g_s #[.int .i64 s0,.int .i64 s1,.int .i64 s2] 22:=Bk.below b_s hb;have mB:=Bel.step hB hb;clear b_c;clear b_v;clear b_r;clear b_d;clear b_s;have b_c:=m_c;clear m_c;have b_v:=m_v;clear m_v;have b_r:=m_r;clear m_r;have b_d:=m_d;clear m_d;have b_s:=m_s;clear m_s;clear hB;have hB:=mB;clear mB;(try clear hb);clear hg;have c_c0:World.cell? w1 ⟨g_c,0,none⟩=some (.int .i64 a0_0):=(Bk.cell b_c 0).trans rfl;have f_c0:=Bk.frozen b_c 0;have c_c1:World.cell? w1 ⟨g_c,1,none⟩=some (.int .i64 a0_1):=(Bk.cell b_c 1).trans rfl;have f_c1:=Bk.frozen b_c 1;have c_c2:World.cell? w1 ⟨g_c,2,none⟩=some (.int .i64 a0_2):=(Bk.cell b_c 2).trans rfl;have f_c2:=Bk.frozen b_c 2;have c_c3:World.cell? w1 ⟨g_c,3,none⟩=some (.int .i64 a0_3):=(Bk.cell b_c 3).trans rfl;have f_c3:=Bk.frozen b_c 3;have c_c4:World.cell? w1 ⟨g_c,4,none⟩=some (.int .i64 a0_4):=(Bk.cell b_c 4).trans rfl;have f_c4:=Bk.frozen b_c 4;have c_v0:World.cell? w1 ⟨g_v,0,none⟩=some (.int .i64 a1_0):=(Bk.cell b_v 0).trans rfl;have f_v0:=Bk.frozen b_v 0;have c_v1:World.cell? w1 ⟨g_v,1,none⟩=some (.int .i64 a1_1):=(Bk.cell b_v 1).trans rfl;have f_v1:=Bk.frozen b_v 1;have c_v2:World.cell? w1 ⟨g_v,2,none⟩=some (.int .i64 a1_2):=(Bk.cell b_v 2).trans rfl;have f_v2:=Bk.frozen b_v 2;have c_r0:World.cell? w1 ⟨g_r,0,none⟩=some (.int .i64 0):=(Bk.cell b_r 0).trans rfl;have f_r0:=Bk.frozen b_r 0;have c_r1:World.cell? w1 ⟨g_r,1,none⟩=some (.int .i64 0):=(Bk.cell b_r 1).trans rfl;have f_r1:=Bk.frozen b_r 1;have c_r2:World.cell? w1 ⟨g_r,2,none⟩=some (.int .i64 0):=(Bk.cell b_r 2).trans rfl;have f_r2:=Bk.frozen b_r 2;have c_d0:World.cell? w1 ⟨g_d,0,none⟩=some (.int .i64 a0_0):=(Bk.cell b_d 0).trans rfl;have f_d0:=Bk.frozen b_d 0;have c_d1:World.cell? w1 ⟨g_d,1,none⟩=some (.int .i64 a0_1):=(Bk.cell b_d 1).trans rfl;have f_d1:=Bk.frozen b_d 1;have c_d2:World.cell? w1 ⟨g_d,2,none⟩=some (.int .i64 a0_2):=(Bk.cell b_d 2).trans rfl;have f_d2:=Bk.frozen b_d 2;have c_d3:World.cell? w1 ⟨g_d,3,none⟩=some (.int .i64 a0_3):=(Bk.cell b_d 3).trans rfl;have f_d3:=Bk.frozen b_d 3;have c_d4:World.cell? w1 ⟨g_d,4,none⟩=some (.int .i64 288230376151711744):=(Bk.cell b_d 4).trans rfl;have f_d4:=Bk.frozen b_d 4;have c_s0:World.cell? w1 ⟨g_s,0,none⟩=some (.int .i64 s0):=(Bk.cell b_s 0).trans rfl;have f_s0:=Bk.frozen b_s 0;have c_s1:World.cell? w1 ⟨g_s,1,none⟩=some (.int .i64 s1):=(Bk.cell b_s 1).trans rfl;have f_s1:=Bk.frozen b_s 1;have c_s2:World.cell? w1 ⟨g_s,2,none⟩=some (.int .i64 s2):=(Bk.cell b_s 2).trans rfl;have f_s2:=Bk.frozen b_s 2;have c_z0:World.cell? w1 ⟨g_z,0,none⟩=some (.int .i64 0):=(Bk.cell b_z 0).trans rfl;have f_z0:=Bk.frozen b_z 0;have c_z1:World.cell? w1 ⟨g_z,1,none⟩=some (.int .i64 0):=(Bk.cell b_z 1).trans rfl;have f_z1:=Bk.frozen b_z 1;have c_z2:World.cell? w1 ⟨g_z,2,none⟩=some (.int .i64 0):=(Bk.cell b_z 2).trans rfl;have f_z2:=Bk.frozen b_z 2)|((with_reducible refine gate_callee (f:=13) rfl ?_);refine gate_guard (by rfl) ?_;refine goesL_ (some 86) rfl rfl Try.func13 (by kernel_rfl) rfl #[.agg #[.int .i64 a0_0,.int .i64 a0_1,.int .i64 a0_2,.int .i64 a0_3,.int .i64 a0_4]] rfl (by (try simp only [List.map_toArray,List.map_cons,List.map_nil]);first|done|rfl) ?_;refine(sense_Sane.calls k a0_0 a0_1 a0_2 a0_3 a0_4 _ _ A4.out).mono ?_;rintro e w1 ⟨rfl,hb⟩;refine⟨_,rfl,?_⟩;have m_c:Bk w1 g_c #[.int .i64 a0_0,.int .i64 a0_1,.int .i64 a0_2,.int .i64 a0_3,.int .i64 a0_4] 24:=Bk.below (Bk.far (Bk.far (Bk.far b_c ne_c_z 0 (.int .i64 0)) ne_c_z 1 (.int .i64 0)) ne_c_z 2 (.int .i64 0)) hb;have m_v:Bk w1 g_v #[.int .i64 a1_0,.int .i64 a1_1,.int .i64 a1_2] 22:=Bk.below (Bk.far (Bk.far (Bk.far b_v ne_v_z 0 (.int .i64 0)) ne_v_z 1 (.int .i64 0)) ne_v_z 2 (.int .i64 0)) hb;have m_r:Bk w1 g_r #[.int .i64 0,.int .i64 0,.int .i64 0] 22:=Bk.below (Bk.far (Bk.far (Bk.far b_r ne_r_z 0 (.int .i64 0)) ne_r_z 1 (.int .i64 0)) ne_r_z 2 (.int .i64 0)) hb;have m_d:Bk w1 g_d #[.int .i64 a0_0,.int .i64 a0_1,.int .i64 a0_2,.int .i64 a0_3,.int .i64 288230376151711744] 24:=Bk.below (Bk.far (Bk.far (Bk.far b_d ne_d_z 0 (.int .i64 0)) ne_d_z 1 (.int .i64 0)) ne_d_z 2 (.int .i64 0)) hb;have m_s:Bk w1 g_s #[.int .i64 s0,.int .i64 s1,.int .i64 s2] 22:=Bk.below (Bk.far (Bk.far (Bk.far b_s ne_s_z 0 (.int .i64 0)) ne_s_z 1 (.int .i64 0)) ne_s_z 2 (.int .i64 0)) hb;have m_z:Bk w1 g_z #[.int .i64 0,.int .i64 0,.int .i64 0] 22:=Bk.below (Bk.put (Bk.put (Bk.put b_z 0 (.int .i64 0) rfl) 1 (.int .i64 0) rfl) 2 (.int .i64 0) rfl) hb;have mB:=Bel.step (Bel.set (Bel.set (Bel.set hB l_z 0 (.int .i64 0)) l_z 1 (.int .i64 0)) l_z 2 (.int .i64 0)) hb;clear b_c;clear b_v;clear b_r;clear b_d;clear b_s;clear b_z;have b_c:=m_c;clear m_c;have b_v:=m_v;clear m_v;have b_r:=m_r;clear m_r;have b_d:=m_d;clear m_d;have b_s:=m_s;clear m_s;have b_z:=m_z;clear m_z;clear hB;have hB:=mB;clear mB;(try clear hb);have c_c0:World.cell? w1 ⟨g_c,0,none⟩=some (.int .i64 a0_0):=(Bk.cell b_c 0).trans rfl;have f_c0:=Bk.frozen b_c 0;have c_c1:World.cell? w1 ⟨g_c,1,none⟩=some (.int .i64 a0_1):=(Bk.cell b_c 1).trans rfl;have f_c1:=Bk.frozen b_c 1;have c_c2:World.cell? w1 ⟨g_c,2,none⟩=some (.int .i64 a0_2):=(Bk.cell b_c 2).trans rfl;have f_c2:=Bk.frozen b_c 2;have c_c3:World.cell? w1 ⟨g_c,3,none⟩=some (.int .i64 a0_3):=(Bk.cell b_c 3).trans rfl;have f_c3:=Bk.frozen b_c 3;have c_c4:World.cell? w1 ⟨g_c,4,none⟩=some (.int .i64 a0_4):=(Bk.cell b_c 4).trans rfl;have f_c4:=Bk.frozen b_c 4;have c_v0:World.cell? w1 ⟨g_v,0,none⟩=some (.int .i64 a1_0):=(Bk.cell b_v 0).trans rfl;have f_v0:=Bk.frozen b_v 0;have c_v1:World.cell? w1 ⟨g_v,1,none⟩=some (.int .i64 a1_1):=(Bk.cell b_v 1).trans rfl;have f_v1:=Bk.frozen b_v 1;have c_v2:World.cell? w1 ⟨g_v,2,none⟩=some (.int .i64 a1_2):=(Bk.cell b_v 2).trans rfl;have f_v2:=Bk.frozen b_v 2;have c_r0:World.cell? w1 ⟨g_r,0,none⟩=some (.int .i64 0):=(Bk.cell b_r 0).trans rfl;have f_r0:=Bk.frozen b_r 0;have c_r1:World.cell? w1 ⟨g_r,1,none⟩=some (.int .i64 0):=(Bk.cell b_r 1).trans rfl;have f_r1:=Bk.frozen b_r 1;have c_r2:World.cell? w1 ⟨g_r,2,none⟩=some (.int .i64 0):=(Bk.cell b_r 2).trans rfl;have f_r2:=Bk.frozen b_r 2;have c_d0:World.cell? w1 ⟨g_d,0,none⟩=some (.int .i64 a0_0):=(Bk.cell b_d 0).trans rfl;have f_d0:=Bk.frozen b_d 0;have c_d1:World.cell? w1 ⟨g_d,1,none⟩=some (.int .i64 a0_1):=(Bk.cell b_d 1).trans rfl;have f_d1:=Bk.frozen b_d 1;have c_d2:World.cell? w1 ⟨g_d,2,none⟩=some (.int .i64 a0_2):=(Bk.cell b_d 2).trans rfl;have f_d2:=Bk.frozen b_d 2;have c_d3:World.cell? w1 ⟨g_d,3,none⟩=some (.int .i64 a0_3):=(Bk.cell b_d 3).trans rfl;have f_d3:=Bk.frozen b_d 3;have c_d4:World.cell? w1 ⟨g_d,4,none⟩=some (.int .i64 288230376151711744):=(Bk.cell b_d 4).trans rfl;have f_d4:=Bk.frozen b_d 4;have c_s0:World.cell? w1 ⟨g_s,0,none⟩=some (.int .i64 s0):=(Bk.cell b_s 0).trans rfl;have f_s0:=Bk.frozen b_s 0;have c_s1:World.cell? w1 ⟨g_s,1,none⟩=some (.int .i64 s1):=(Bk.cell b_s 1).trans rfl;have f_s1:=Bk.frozen b_s 1;have c_s2:World.cell? w1 ⟨g_s,2,none⟩=some (.int .i64 s2):=(Bk.cell b_s 2).trans rfl;have f_s2:=Bk.frozen b_s 2;have c_z0:World.cell? w1 ⟨g_z,0,none⟩=some (.int .i64 0):=(Bk.cell b_z 0).trans rfl;have f_z0:=Bk.frozen b_z 0;have c_z1:World.cell? w1 ⟨g_z,1,none⟩=some (.int .i64 0):=(Bk.cell b_z 1).trans rfl;have f_z1:=Bk.frozen b_z 1;have c_z2:World.cell? w1 ⟨g_z,2,none⟩=some (.int .i64 0):=(Bk.cell b_z 2).trans rfl;have f_z2:=Bk.frozen b_z 2))
  try go_wp2
  go_ret
  exact⟨rfl,hB⟩
end Go.Proofs.Ytonfobdknnlbjaa.B
end
section
namespace Go.Proofs.Ytonfobdknnlbjaa.Pure
open Go Go.RowKit Go.Proofs.Ytonfobdknnlbjaa.B Go.Proofs.Ytonfobdknnlbjaa.Num Go.Proofs.Ytonfobdknnlbjaa.Wide Go.Proofs.Ytonfobdknnlbjaa.Sum Go.Proofs.Ytonfobdknnlbjaa.Rwide Go.Proofs.Ytonfobdknnlbjaa.Rsum Go.Proofs.Ytonfobdknnlbjaa.Over Go.Proofs.Ytonfobdknnlbjaa.Quot Go.Proofs.Ytonfobdknnlbjaa.Rquot Go.Proofs.Ytonfobdknnlbjaa.Vecn Go.Proofs.YtonfobdknnlbjaaW.PrintWords Go.Proofs.YtonfobdknnlbjaaW.PrintLast Go.Proofs.YtonfobdknnlbjaaW.PrintMore
set_option linter.unusedVariables false
theorem farb_no {m n:Int} (hm0:0≤m) (hm1:m≤288230376151711744) (h:farb m n=false):n≤m∧-m≤n:=by
 unfold farb at h
 rw [w64 (n:=-m) (by omega) (by omega)] at h
 simp at h
 omega
theorem farb_in {m n:Int} (hm0:0≤m) (hm1:m≤288230376151711744) (h0:n≤m) (h1:-m≤n):farb m n=false:=by
 unfold farb
 rw [w64 (n:=-m) (by omega) (by omega)]
 simp
 omega
theorem tv_bd (a d:Int):-288230376151711744≤(tv a d).1∧(tv a d).1≤288230376151711744:=⟨cl_lo _,cl_hi _⟩
theorem bound_of {e r:Int} (h0:-9223372036854775808≤e) (h1:e≤9223372036854775807) (h:r=0∨(0≤e∧e≤288230376151711744∧farb e r=false)):¬r > mx e 0∧¬r<wrap64 (-(mx e 0)):=by
 rcases h with rfl|⟨e0,e1,hf⟩
 ·have:0≤mx e 0∧mx e 0≤9223372036854775807:=by unfold mx;split<;>omega
  rw [w64 (by omega) (by omega)]
  omega
 ·have:=farb_no e0 e1 hf
  have hm:mx e 0=e:=by unfold mx;split<;>omega
  rw [hm,w64 (by omega) (by omega)]
  omega
theorem bias_zero {a b c d e:Int} (h:sane5 a b c d e=true):readv a b c d e a b c=(0,0,0,true):=by
 obtain⟨h1,h2,h3,h4,h5,h6,h7⟩:=sane5_says h
 have hs:∀ n,cl n=n→sv n n=(0,false):=by
  intro n hn
  unfold sv cbad
  rw [hn,Int.sub_self,show cl 0=0 by decide]
  simp
 have ht:tv 0 d=(0,false):=by
  unfold tv
  rw [show cl 0=0 by decide,Int.zero_mul,show rv 0=0 by decide,show cl 0=0 by decide,h4]
  simp
 have he:=cl_is h6
 have hf:farb e 0=false:=farb_in h7 he.2 h7 (by omega)
 unfold readv
 have e1:subv a b c a b c=(0,0,0,false):=by
  unfold subv three
  rw [hs a h1,hs b h2,hs c h3]
  rfl
 rw [e1]
 have e2:scv d (0,0,0,false)=(0,0,0,false):=by
  unfold scv three
  simp only
  rw [ht]
  rfl
 rw [e2]
 exact readw_yes h rfl rfl hf hf hf
theorem SenseBounds (a0_0 a0_1 a0_2 a0_3 a0_4 a1_0 a1_1 a1_2:Int) (w0_0:(Lit.int .i64 a0_0).wf=true) (w0_1:(Lit.int .i64 a0_1).wf=true) (w0_2:(Lit.int .i64 a0_2).wf=true) (w0_3:(Lit.int .i64 a0_3).wf=true) (w0_4:(Lit.int .i64 a0_4).wf=true)
  (w1_0:(Lit.int .i64 a1_0).wf=true) (w1_1:(Lit.int .i64 a1_1).wf=true) (w1_2:(Lit.int .i64 a1_2).wf=true):∃ k,outriggerlaw18_SenseBounds.G k a0_0 a0_1 a0_2 a0_3 a0_4 a1_0 a1_1 a1_2:=by
 have hw:=i64_of w0_4
 refine⟨300,?_⟩
 unfold outriggerlaw18_SenseBounds.G
 have hz:sense_Read.f 300 a0_0 a0_1 a0_2 a0_3 a0_4 a0_0 a0_1 a0_2=some (0,0,0,sane5 a0_0 a0_1 a0_2 a0_3 a0_4):=by
  rw [read_is _ _ _ _ _ _ _ _ 296]
  cases h:sane5 a0_0 a0_1 a0_2 a0_3 a0_4
  ·unfold readv readw
   rw [h]
   rfl
  ·rw [bias_zero h]
 refine⟨_,_,_,_,_,_,_,_,_,read_p _ _ _ _ _ _ _ _ 296,read_p _ _ _ _ _ _ _ _ 296,hz,sane5_is _ _ _ _ _ 296,?_,?_⟩
 ·by_cases h:(readv a0_0 a0_1 a0_2 a0_3 a0_4 a1_0 a1_1 a1_2).2.2.2=true
  ·obtain⟨s1,_,_,f1,f2,f3,e1⟩:=readw_ok h
   obtain⟨_,_,_,_,_,h6,h7⟩:=sane5_says s1
   have he:=cl_is h6
   have e2:readv a0_0 a0_1 a0_2 a0_3 a0_4 a1_0 a1_1 a1_2=_:=e1
   rw [e2]
   exact⟨bound_of hw.1 hw.2 (.inr ⟨h7,he.2,f1⟩),bound_of hw.1 hw.2 (.inr ⟨h7,he.2,f2⟩),bound_of hw.1 hw.2 (.inr ⟨h7,he.2,f3⟩)⟩
  ·have e2:readv a0_0 a0_1 a0_2 a0_3 a0_4 a1_0 a1_1 a1_2=(0,0,0,false):=readw_no (Bool.eq_false_iff.mpr h)
   rw [e2]
   exact⟨bound_of hw.1 hw.2 (.inl rfl),bound_of hw.1 hw.2 (.inl rfl),bound_of hw.1 hw.2 (.inl rfl)⟩
 ·by_cases h:(readv a0_0 a0_1 a0_2 a0_3 a0_4 a1_0 a1_1 a1_2).2.2.2=true
  ·obtain⟨s1,b1,c1,f1,f2,f3,e1⟩:=readw_ok h
   obtain⟨g1,g2,g3,g4,g5,h6,h7⟩:=sane5_says s1
   have s2:sane5 a0_0 a0_1 a0_2 a0_3 288230376151711744=true:=sane5_mk g1 g2 g3 g4 g5 (by decide) (by decide)
   have ff:∀ a d:Int,farb 288230376151711744 (tv a d).1=false:=fun a d=>farb_in (by decide) (by decide) (tv_bd a d).2 (tv_bd a d).1
   have e3:=readw_yes (e:=288230376151711744) s2 b1 c1 (ff _ _) (ff _ _) (ff _ _)
   have e4:readv a0_0 a0_1 a0_2 a0_3 288230376151711744 a1_0 a1_1 a1_2=_:=e3
   have e2:readv a0_0 a0_1 a0_2 a0_3 a0_4 a1_0 a1_1 a1_2=_:=e1
   rw [e2,e4]
   exact .inl ⟨rfl,rfl,rfl,rfl,rfl⟩
  ·have e2:readv a0_0 a0_1 a0_2 a0_3 a0_4 a1_0 a1_1 a1_2=(0,0,0,false):=readw_no (Bool.eq_false_iff.mpr h)
   rw [e2]
   exact .inr ⟨rfl,rfl,rfl,rfl⟩
end Go.Proofs.Ytonfobdknnlbjaa.Pure
end
