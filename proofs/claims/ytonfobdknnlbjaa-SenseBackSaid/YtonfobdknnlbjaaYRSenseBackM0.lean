/- Lemmas of the rows, laid by a program. -/
import Derived.Test.YtonfobdknnlbjaaYM1
import Derived.Test.YtonfobdknnlbjaaYM4
import Derived.Test.YtonfobdknnlbjaaYM6
import Derived.Test.YtonfobdknnlbjaaYM8
import Derived.Test.YtonfobdknnlbjaaYM3
import Derived.LoopN
import Derived.Outline
import Derived.Test.YtonfobdknnlbjaaYM9
import Derived.Test.YtonfobdknnlbjaaYM10
section
set_option linter.unusedVariables false
set_option linter.unusedSimpArgs false
namespace Go.Proofs.Ytonfobdknnlbjaa.B
open Go.RowKit Go.Proofs.YtonfobdknnlbjaaW.PrintWords Go.Proofs.YtonfobdknnlbjaaW.PrintLast Go.Proofs.YtonfobdknnlbjaaW.PrintMore
attribute [local go_sem] max2_int min2_int max_two min_two max_three min_three max_four min_four
attribute [local go_sem high] eqA22 eqA24
set_option linter.unusedVariables false
set_option linter.unusedSimpArgs false
def outriggerlaw18_SenseBack.T8:Bool × List (List Nat × List Nat):=(true,[([],[]),([0],[0]),([1],[1]),([2],[2]),([],[]),([4],[4]),([5],[5]),([3,6],[3,6]),([7,3],[7]),([8],[8]),([9,8],[8,9]),([10,8],[8,10]),([11,8,8],[8,11]),([12,8],[8,12]),([8,13],[8,13])])
def outriggerlaw18_SenseBack.B8:List Nat:=[0,1,3,7,0,16,48,127,255,511,1023,2047,4095,8191,16383]
theorem outriggerlaw18_SenseBack.tab8:rtab .any (opsOf Try.f4 8)=outriggerlaw18_SenseBack.T8:=by kernel_rfl
theorem outriggerlaw18_SenseBack.bits8:waitsOk outriggerlaw18_SenseBack.T8.2 outriggerlaw18_SenseBack.B8=true:=by kernel_rfl
def outriggerlaw18_SenseBack.T10:Bool × List (List Nat × List Nat):=(true,[([],[]),([0],[0]),([1],[1]),([],[]),([],[]),([4,3],[3,4]),([5],[5]),([2,6],[2,6]),([7],[7]),([8],[8]),([8],[8]),([9,7,0,1,2,3,4,5,6,7,8,9],[9]),([10,11,0,1,2,3,4,5,6,7,8,9,10,11],[10])])
def outriggerlaw18_SenseBack.B10:List Nat:=[0,1,3,0,0,24,56,127,255,511,511,1023,4095]
theorem outriggerlaw18_SenseBack.tab10:rtab .any (opsOf Try.f4 10)=outriggerlaw18_SenseBack.T10:=by kernel_rfl
theorem outriggerlaw18_SenseBack.bits10:waitsOk outriggerlaw18_SenseBack.T10.2 outriggerlaw18_SenseBack.B10=true:=by kernel_rfl
def outriggerlaw18_SenseBack.T17:Bool × List (List Nat × List Nat):=(true,[([],[]),([0],[0]),([1],[1]),([],[]),([3],[3]),([4],[4]),([2,5],[2,5]),([6],[6]),([7],[7]),([8],[8]),([9,8],[8,9]),([10,8],[8,10]),([8],[8]),([12,8],[8,12]),([13,8],[8,13]),([11,14,8],[8,11,14]),([15,8],[8,15]),([8,16],[8,16])])
def outriggerlaw18_SenseBack.B17:List Nat:=[0,1,3,0,8,24,63,127,255,511,1023,2047,511,4607,12799,32767,65535,131071]
theorem outriggerlaw18_SenseBack.tab17:rtab .any (opsOf Try.f4 17)=outriggerlaw18_SenseBack.T17:=by kernel_rfl
theorem outriggerlaw18_SenseBack.bits17:waitsOk outriggerlaw18_SenseBack.T17.2 outriggerlaw18_SenseBack.B17=true:=by kernel_rfl
def Nt (a b:Int):Prop:=¬a > b
theorem Nt.mk {a b:Int} (h:¬a > b):Nt a b:=h
theorem Nt.out {a b:Int} (h:Nt a b):¬a > b:=h
def outriggerlaw18_SenseBack.K (a0_4 a1_0 a1_1 a1_2 b0 b1 b2 r0 r1 r2:Int) (e0 e1 e2 is:Bool):Prop :=
    ¬b0 > wrap64 (a0_4-65536)→¬b0 > 144115188075855872→e0=false→¬b1 > wrap64 (a0_4-65536)→¬b1 > 144115188075855872→e1=false→¬b2 > wrap64 (a0_4-65536)→¬b2 > 144115188075855872→e2=false→is=true ∧
      (¬wrap64 (r0-a1_0) > 65536∧¬wrap64 (a1_0-r0) > 65536)∧(¬wrap64 (r1-a1_1) > 65536∧¬wrap64 (a1_1-r1) > 65536)∧(¬wrap64 (r2-a1_2) > 65536∧¬wrap64 (a1_2-r2) > 65536)
def outriggerlaw18_SenseBack.G (k:Nat) (a0_0 a0_1 a0_2 a0_3 a0_4 a1_0 a1_1 a1_2:Int):Prop:=∃ n0 n1 n2:Int,∃ ok:Bool,sense_Show.f k a0_0 a0_1 a0_2 a0_3 a0_4 a1_0 a1_1 a1_2=some (n0,n1,n2,ok)∧((ok=false∧n0=0∧n1=0∧n2=0)∨(ok=true∧a0_3<16777216)∨(ok=true∧¬a0_3<16777216∧a0_3 > 1099511627776) ∨
  (ok=true∧¬a0_3<16777216∧¬a0_3 > 1099511627776∧∃ b0 b1 b2 d0 d1 d2:Int,∃ e0 e1 e2:Bool,fix_Abs.f a1_0=some b0∧fix_Abs.f a1_1=some b1∧fix_Abs.f a1_2=some b2∧fix_Sub.f n0 a0_0=some (d0,e0)∧fix_Sub.f n1 a0_1=some (d1,e1)∧fix_Sub.f n2 a0_2=some (d2,e2) ∧
    ∃ r0 r1 r2:Int,∃ is:Bool,sense_Read.f k a0_0 a0_1 a0_2 a0_3 a0_4 n0 n1 n2=some (r0,r1,r2,is) ∧
    outriggerlaw18_SenseBack.K a0_4 a1_0 a1_1 a1_2 b0 b1 b2 r0 r1 r2 e0 e1 e2 is))
set_option maxRecDepth 100000 in
set_option maxHeartbeats 8000000 in
theorem outriggerlaw18_SenseBack.calls (k:Nat) (a0_0 a0_1 a0_2 a0_3 a0_4 a1_0 a1_1 a1_2:Int) (r:Bool) (w:World) (h:outriggerlaw18_SenseBack.G k a0_0 a0_1 a0_2 a0_3 a0_4 a1_0 a1_1 a1_2) (hr:Aside0 (r=true)) :
  Calls Try.prog 4 #[.agg #[.int .i64 a0_0,.int .i64 a0_1,.int .i64 a0_2,.int .i64 a0_3,.int .i64 a0_4],.agg #[.int .i64 a1_0,.int .i64 a1_1,.int .i64 a1_2]] w fun e w'=>e=.returned (.bool r)∧Below w.heap.size w w':=by
 obtain rfl:=hr.out
 clear hr
 obtain⟨n0,n1,n2,ok,A1,X⟩:=h
 replace A1:=Aside0.mk A1
 rcases X with ⟨rfl,rfl,rfl,rfl⟩|⟨rfl,x⟩|⟨rfl,x,x2⟩|⟨rfl,x,x2,b0,b1,b2,d0,d1,d2,e0,e1,e2,B0,B1,B2,D0,D1,D2,r0,r1,r2,is,A2,X⟩
 ·have hB:=Bel.refl w
  go_enter Try.func4,Try.ntmps4
  go_wp2_with (first|((with_reducible refine gate_dst (N:=2) rfl ?_);refine box_event ?hg (N:=2) ?hd (cs:=#[.int .i64 a0_0,.int .i64 a0_1,.int .i64 a0_2,.int .i64 a0_3,.int .i64 a0_4]) (t:=24) ?hr ?_;(case hd=>rfl);(case hg=>rfl);(case hr=>first|(go_simp;done)|(go_simp;rfl));intro g_c hg w1 b_c hb;have b_c:Bk w1 g_c #[.int .i64 a0_0,.int .i64 a0_1,.int .i64 a0_2,.int .i64 a0_3,.int .i64 a0_4] 24:=b_c;have l_c:w.heap.size≤g_c:=(by rw [hg];exact Bel.size hB);have mB:=Bel.step hB hb;clear hB;have hB:=mB;clear mB;(try clear hb);clear hg;have c_c0:World.cell? w1 ⟨g_c,0,none⟩=some (.int .i64 a0_0):=(Bk.cell b_c 0).trans rfl;have f_c0:=Bk.frozen b_c 0;have c_c1:World.cell? w1 ⟨g_c,1,none⟩=some (.int .i64 a0_1):=(Bk.cell b_c 1).trans rfl;have f_c1:=Bk.frozen b_c 1;have c_c2:World.cell? w1 ⟨g_c,2,none⟩=some (.int .i64 a0_2):=(Bk.cell b_c 2).trans rfl;have f_c2:=Bk.frozen b_c 2;have c_c3:World.cell? w1 ⟨g_c,3,none⟩=some (.int .i64 a0_3):=(Bk.cell b_c 3).trans rfl;have f_c3:=Bk.frozen b_c 3;have c_c4:World.cell? w1 ⟨g_c,4,none⟩=some (.int .i64 a0_4):=(Bk.cell b_c 4).trans rfl;have f_c4:=Bk.frozen b_c 4)|((with_reducible refine gate_dst (N:=3) rfl ?_);refine box_event ?hg (N:=3) ?hd (cs:=#[.int .i64 a1_0,.int .i64 a1_1,.int .i64 a1_2]) (t:=22) ?hr ?_;(case hd=>rfl);(case hg=>rfl);(case hr=>first|(go_simp;done)|(go_simp;rfl));intro g_v hg w1 b_v hb;have b_v:Bk w1 g_v #[.int .i64 a1_0,.int .i64 a1_1,.int .i64 a1_2] 22:=b_v;have l_v:w.heap.size≤g_v:=(by rw [hg];exact Bel.size hB);have ne_c_v:g_c≠g_v:=(by rw [hg];exact Nat.ne_of_lt (Bk.lt b_c));have ne_v_c:g_v≠g_c:=Ne.symm ne_c_v;have m_c:Bk w1 g_c #[.int .i64 a0_0,.int .i64 a0_1,.int .i64 a0_2,.int .i64 a0_3,.int .i64 a0_4] 24:=Bk.below b_c hb;have mB:=Bel.step hB hb;clear b_c;have b_c:=m_c;clear m_c;clear hB;have hB:=mB;clear mB;(try clear hb);clear hg;have c_c0:World.cell? w1 ⟨g_c,0,none⟩=some (.int .i64 a0_0):=(Bk.cell b_c 0).trans rfl;have f_c0:=Bk.frozen b_c 0;have c_c1:World.cell? w1 ⟨g_c,1,none⟩=some (.int .i64 a0_1):=(Bk.cell b_c 1).trans rfl;have f_c1:=Bk.frozen b_c 1;have c_c2:World.cell? w1 ⟨g_c,2,none⟩=some (.int .i64 a0_2):=(Bk.cell b_c 2).trans rfl;have f_c2:=Bk.frozen b_c 2;have c_c3:World.cell? w1 ⟨g_c,3,none⟩=some (.int .i64 a0_3):=(Bk.cell b_c 3).trans rfl;have f_c3:=Bk.frozen b_c 3;have c_c4:World.cell? w1 ⟨g_c,4,none⟩=some (.int .i64 a0_4):=(Bk.cell b_c 4).trans rfl;have f_c4:=Bk.frozen b_c 4;have c_v0:World.cell? w1 ⟨g_v,0,none⟩=some (.int .i64 a1_0):=(Bk.cell b_v 0).trans rfl;have f_v0:=Bk.frozen b_v 0;have c_v1:World.cell? w1 ⟨g_v,1,none⟩=some (.int .i64 a1_1):=(Bk.cell b_v 1).trans rfl;have f_v1:=Bk.frozen b_v 1;have c_v2:World.cell? w1 ⟨g_v,2,none⟩=some (.int .i64 a1_2):=(Bk.cell b_v 2).trans rfl;have f_v2:=Bk.frozen b_v 2)|((with_reducible refine gate_callee (f:=8) rfl ?_);refine goesL_ (some 14) rfl rfl Try.func8 (by kernel_rfl) rfl #[] rfl (by (try simp only [List.map_toArray,List.map_cons,List.map_nil]);first|done|rfl) ?_;refine(outriggerlaw18_awake.calls 200 true _ outriggerlaw18_awake.known).mono ?_;rintro e w1 ⟨rfl,hb⟩;refine⟨_,rfl,?_⟩;have m_c:Bk w1 g_c #[.int .i64 a0_0,.int .i64 a0_1,.int .i64 a0_2,.int .i64 a0_3,.int .i64 a0_4] 24:=Bk.below b_c hb;have m_v:Bk w1 g_v #[.int .i64 a1_0,.int .i64 a1_1,.int .i64 a1_2] 22:=Bk.below b_v hb;have mB:=Bel.step hB hb;clear b_c;clear b_v;have b_c:=m_c;clear m_c;have b_v:=m_v;clear m_v;clear hB;have hB:=mB;clear mB;(try clear hb);have c_c0:World.cell? w1 ⟨g_c,0,none⟩=some (.int .i64 a0_0):=(Bk.cell b_c 0).trans rfl;have f_c0:=Bk.frozen b_c 0;have c_c1:World.cell? w1 ⟨g_c,1,none⟩=some (.int .i64 a0_1):=(Bk.cell b_c 1).trans rfl;have f_c1:=Bk.frozen b_c 1;have c_c2:World.cell? w1 ⟨g_c,2,none⟩=some (.int .i64 a0_2):=(Bk.cell b_c 2).trans rfl;have f_c2:=Bk.frozen b_c 2;have c_c3:World.cell? w1 ⟨g_c,3,none⟩=some (.int .i64 a0_3):=(Bk.cell b_c 3).trans rfl;have f_c3:=Bk.frozen b_c 3;have c_c4:World.cell? w1 ⟨g_c,4,none⟩=some (.int .i64 a0_4):=(Bk.cell b_c 4).trans rfl;have f_c4:=Bk.frozen b_c 4;have c_v0:World.cell? w1 ⟨g_v,0,none⟩=some (.int .i64 a1_0):=(Bk.cell b_v 0).trans rfl;have f_v0:=Bk.frozen b_v 0;have c_v1:World.cell? w1 ⟨g_v,1,none⟩=some (.int .i64 a1_1):=(Bk.cell b_v 1).trans rfl;have f_v1:=Bk.frozen b_v 1;have c_v2:World.cell? w1 ⟨g_v,2,none⟩=some (.int .i64 a1_2):=(Bk.cell b_v 2).trans rfl;have f_v2:=Bk.frozen b_v 2)|((with_reducible refine gate_callee (f:=11) rfl ?_);refine goesL_ (some 18) rfl rfl Try.func11 (by kernel_rfl) rfl #[.agg #[.int .i64 a0_0,.int .i64 a0_1,.int .i64 a0_2,.int .i64 a0_3,.int .i64 a0_4],.agg #[.int .i64 a1_0,.int .i64 a1_1,.int .i64 a1_2]] rfl (by (try simp only [List.map_toArray,List.map_cons,List.map_nil]);first|done|rfl) ?_;refine(sense_Show.calls k a0_0 a0_1 a0_2 a0_3 a0_4 a1_0 a1_1 a1_2 _ _ _ _ _ A1.out).mono ?_;rintro e w1 ⟨rfl,hb⟩;refine⟨_,rfl,?_⟩;have m_c:Bk w1 g_c #[.int .i64 a0_0,.int .i64 a0_1,.int .i64 a0_2,.int .i64 a0_3,.int .i64 a0_4] 24:=Bk.below b_c hb;have m_v:Bk w1 g_v #[.int .i64 a1_0,.int .i64 a1_1,.int .i64 a1_2] 22:=Bk.below b_v hb;have mB:=Bel.step hB hb;clear b_c;clear b_v;have b_c:=m_c;clear m_c;have b_v:=m_v;clear m_v;clear hB;have hB:=mB;clear mB;(try clear hb);have c_c0:World.cell? w1 ⟨g_c,0,none⟩=some (.int .i64 a0_0):=(Bk.cell b_c 0).trans rfl;have f_c0:=Bk.frozen b_c 0;have c_c1:World.cell? w1 ⟨g_c,1,none⟩=some (.int .i64 a0_1):=(Bk.cell b_c 1).trans rfl;have f_c1:=Bk.frozen b_c 1;have c_c2:World.cell? w1 ⟨g_c,2,none⟩=some (.int .i64 a0_2):=(Bk.cell b_c 2).trans rfl;have f_c2:=Bk.frozen b_c 2;have c_c3:World.cell? w1 ⟨g_c,3,none⟩=some (.int .i64 a0_3):=(Bk.cell b_c 3).trans rfl;have f_c3:=Bk.frozen b_c 3;have c_c4:World.cell? w1 ⟨g_c,4,none⟩=some (.int .i64 a0_4):=(Bk.cell b_c 4).trans rfl;have f_c4:=Bk.frozen b_c 4;have c_v0:World.cell? w1 ⟨g_v,0,none⟩=some (.int .i64 a1_0):=(Bk.cell b_v 0).trans rfl;have f_v0:=Bk.frozen b_v 0;have c_v1:World.cell? w1 ⟨g_v,1,none⟩=some (.int .i64 a1_1):=(Bk.cell b_v 1).trans rfl;have f_v1:=Bk.frozen b_v 1;have c_v2:World.cell? w1 ⟨g_v,2,none⟩=some (.int .i64 a1_2):=(Bk.cell b_v 2).trans rfl;have f_v2:=Bk.frozen b_v 2)|((with_reducible refine gate_dst (N:=6) rfl ?_);refine box_event ?hg (N:=6) ?hd (cs:=#[.int .i64 0,.int .i64 0,.int .i64 0]) (t:=22) ?hr ?_;(case hd=>rfl);(case hg=>rfl);(case hr=>first|(go_simp;done)|(go_simp;rfl));intro g_s hg w1 b_s hb;have b_s:Bk w1 g_s #[.int .i64 0,.int .i64 0,.int .i64 0] 22:=b_s;have l_s:w.heap.size≤g_s:=(by rw [hg];exact Bel.size hB);have ne_c_s:g_c≠g_s:=(by rw [hg];exact Nat.ne_of_lt (Bk.lt b_c));have ne_s_c:g_s≠g_c:=Ne.symm ne_c_s;have ne_v_s:g_v≠g_s:=(by rw [hg];exact Nat.ne_of_lt (Bk.lt b_v));have ne_s_v:g_s≠g_v:=Ne.symm ne_v_s;have m_c:Bk w1 g_c #[.int .i64 a0_0,.int .i64 a0_1,.int .i64 a0_2,.int .i64 a0_3,.int .i64 a0_4] 24:=Bk.below b_c hb;have m_v:Bk w1 g_v #[.int .i64 a1_0,.int .i64 a1_1,.int .i64 a1_2] 22:=Bk.below b_v hb;have mB:=Bel.step hB hb;clear b_c;clear b_v;have b_c:=m_c;clear m_c;have b_v:=m_v;clear m_v;clear hB;have hB:=mB;clear mB;(try clear hb);clear hg;have c_c0:World.cell? w1 ⟨g_c,0,none⟩=some (.int .i64 a0_0):=(Bk.cell b_c 0).trans rfl;have f_c0:=Bk.frozen b_c 0;have c_c1:World.cell? w1 ⟨g_c,1,none⟩=some (.int .i64 a0_1):=(Bk.cell b_c 1).trans rfl;have f_c1:=Bk.frozen b_c 1;have c_c2:World.cell? w1 ⟨g_c,2,none⟩=some (.int .i64 a0_2):=(Bk.cell b_c 2).trans rfl;have f_c2:=Bk.frozen b_c 2;have c_c3:World.cell? w1 ⟨g_c,3,none⟩=some (.int .i64 a0_3):=(Bk.cell b_c 3).trans rfl;have f_c3:=Bk.frozen b_c 3;have c_c4:World.cell? w1 ⟨g_c,4,none⟩=some (.int .i64 a0_4):=(Bk.cell b_c 4).trans rfl;have f_c4:=Bk.frozen b_c 4;have c_v0:World.cell? w1 ⟨g_v,0,none⟩=some (.int .i64 a1_0):=(Bk.cell b_v 0).trans rfl;have f_v0:=Bk.frozen b_v 0;have c_v1:World.cell? w1 ⟨g_v,1,none⟩=some (.int .i64 a1_1):=(Bk.cell b_v 1).trans rfl;have f_v1:=Bk.frozen b_v 1;have c_v2:World.cell? w1 ⟨g_v,2,none⟩=some (.int .i64 a1_2):=(Bk.cell b_v 2).trans rfl;have f_v2:=Bk.frozen b_v 2;have c_s0:World.cell? w1 ⟨g_s,0,none⟩=some (.int .i64 0):=(Bk.cell b_s 0).trans rfl;have f_s0:=Bk.frozen b_s 0;have c_s1:World.cell? w1 ⟨g_s,1,none⟩=some (.int .i64 0):=(Bk.cell b_s 1).trans rfl;have f_s1:=Bk.frozen b_s 1;have c_s2:World.cell? w1 ⟨g_s,2,none⟩=some (.int .i64 0):=(Bk.cell b_s 2).trans rfl;have f_s2:=Bk.frozen b_s 2))
  try go_wp2
  go_ret
  exact⟨rfl,(Bel.set (Bel.set (Bel.set hB l_s 0 (.int .i64 0)) l_s 1 (.int .i64 0)) l_s 2 (.int .i64 0))⟩
 ·have y0:decide (a0_3<16777216)=true:=decide_eq_true (by omega)
  have hB:=Bel.refl w
  go_enter Try.func4,Try.ntmps4
  go_wp2_with (first|((with_reducible refine gate_dst (N:=2) rfl ?_);refine box_event ?hg (N:=2) ?hd (cs:=#[.int .i64 a0_0,.int .i64 a0_1,.int .i64 a0_2,.int .i64 a0_3,.int .i64 a0_4]) (t:=24) ?hr ?_;(case hd=>rfl);(case hg=>rfl);(case hr=>first|(go_simp;done)|(go_simp;rfl));intro g_c hg w1 b_c hb;have b_c:Bk w1 g_c #[.int .i64 a0_0,.int .i64 a0_1,.int .i64 a0_2,.int .i64 a0_3,.int .i64 a0_4] 24:=b_c;have l_c:w.heap.size≤g_c:=(by rw [hg];exact Bel.size hB);have mB:=Bel.step hB hb;clear hB;have hB:=mB;clear mB;(try clear hb);clear hg;have c_c0:World.cell? w1 ⟨g_c,0,none⟩=some (.int .i64 a0_0):=(Bk.cell b_c 0).trans rfl;have f_c0:=Bk.frozen b_c 0;have c_c1:World.cell? w1 ⟨g_c,1,none⟩=some (.int .i64 a0_1):=(Bk.cell b_c 1).trans rfl;have f_c1:=Bk.frozen b_c 1;have c_c2:World.cell? w1 ⟨g_c,2,none⟩=some (.int .i64 a0_2):=(Bk.cell b_c 2).trans rfl;have f_c2:=Bk.frozen b_c 2;have c_c3:World.cell? w1 ⟨g_c,3,none⟩=some (.int .i64 a0_3):=(Bk.cell b_c 3).trans rfl;have f_c3:=Bk.frozen b_c 3;have c_c4:World.cell? w1 ⟨g_c,4,none⟩=some (.int .i64 a0_4):=(Bk.cell b_c 4).trans rfl;have f_c4:=Bk.frozen b_c 4)|((with_reducible refine gate_dst (N:=3) rfl ?_);refine box_event ?hg (N:=3) ?hd (cs:=#[.int .i64 a1_0,.int .i64 a1_1,.int .i64 a1_2]) (t:=22) ?hr ?_;(case hd=>rfl);(case hg=>rfl);(case hr=>first|(go_simp;done)|(go_simp;rfl));intro g_v hg w1 b_v hb;have b_v:Bk w1 g_v #[.int .i64 a1_0,.int .i64 a1_1,.int .i64 a1_2] 22:=b_v;have l_v:w.heap.size≤g_v:=(by rw [hg];exact Bel.size hB);have ne_c_v:g_c≠g_v:=(by rw [hg];exact Nat.ne_of_lt (Bk.lt b_c));have ne_v_c:g_v≠g_c:=Ne.symm ne_c_v;have m_c:Bk w1 g_c #[.int .i64 a0_0,.int .i64 a0_1,.int .i64 a0_2,.int .i64 a0_3,.int .i64 a0_4] 24:=Bk.below b_c hb;have mB:=Bel.step hB hb;clear b_c;have b_c:=m_c;clear m_c;clear hB;have hB:=mB;clear mB;(try clear hb);clear hg;have c_c0:World.cell? w1 ⟨g_c,0,none⟩=some (.int .i64 a0_0):=(Bk.cell b_c 0).trans rfl;have f_c0:=Bk.frozen b_c 0;have c_c1:World.cell? w1 ⟨g_c,1,none⟩=some (.int .i64 a0_1):=(Bk.cell b_c 1).trans rfl;have f_c1:=Bk.frozen b_c 1;have c_c2:World.cell? w1 ⟨g_c,2,none⟩=some (.int .i64 a0_2):=(Bk.cell b_c 2).trans rfl;have f_c2:=Bk.frozen b_c 2;have c_c3:World.cell? w1 ⟨g_c,3,none⟩=some (.int .i64 a0_3):=(Bk.cell b_c 3).trans rfl;have f_c3:=Bk.frozen b_c 3;have c_c4:World.cell? w1 ⟨g_c,4,none⟩=some (.int .i64 a0_4):=(Bk.cell b_c 4).trans rfl;have f_c4:=Bk.frozen b_c 4;have c_v0:World.cell? w1 ⟨g_v,0,none⟩=some (.int .i64 a1_0):=(Bk.cell b_v 0).trans rfl;have f_v0:=Bk.frozen b_v 0;have c_v1:World.cell? w1 ⟨g_v,1,none⟩=some (.int .i64 a1_1):=(Bk.cell b_v 1).trans rfl;have f_v1:=Bk.frozen b_v 1;have c_v2:World.cell? w1 ⟨g_v,2,none⟩=some (.int .i64 a1_2):=(Bk.cell b_v 2).trans rfl;have f_v2:=Bk.frozen b_v 2)|((with_reducible refine gate_callee (f:=8) rfl ?_);refine goesL_ (some 14) rfl rfl Try.func8 (by kernel_rfl) rfl #[] rfl (by (try simp only [List.map_toArray,List.map_cons,List.map_nil]);first|done|rfl) ?_;refine(outriggerlaw18_awake.calls 200 true _ outriggerlaw18_awake.known).mono ?_;rintro e w1 ⟨rfl,hb⟩;refine⟨_,rfl,?_⟩;have m_c:Bk w1 g_c #[.int .i64 a0_0,.int .i64 a0_1,.int .i64 a0_2,.int .i64 a0_3,.int .i64 a0_4] 24:=Bk.below b_c hb;have m_v:Bk w1 g_v #[.int .i64 a1_0,.int .i64 a1_1,.int .i64 a1_2] 22:=Bk.below b_v hb;have mB:=Bel.step hB hb;clear b_c;clear b_v;have b_c:=m_c;clear m_c;have b_v:=m_v;clear m_v;clear hB;have hB:=mB;clear mB;(try clear hb);have c_c0:World.cell? w1 ⟨g_c,0,none⟩=some (.int .i64 a0_0):=(Bk.cell b_c 0).trans rfl;have f_c0:=Bk.frozen b_c 0;have c_c1:World.cell? w1 ⟨g_c,1,none⟩=some (.int .i64 a0_1):=(Bk.cell b_c 1).trans rfl;have f_c1:=Bk.frozen b_c 1;have c_c2:World.cell? w1 ⟨g_c,2,none⟩=some (.int .i64 a0_2):=(Bk.cell b_c 2).trans rfl;have f_c2:=Bk.frozen b_c 2;have c_c3:World.cell? w1 ⟨g_c,3,none⟩=some (.int .i64 a0_3):=(Bk.cell b_c 3).trans rfl;have f_c3:=Bk.frozen b_c 3;have c_c4:World.cell? w1 ⟨g_c,4,none⟩=some (.int .i64 a0_4):=(Bk.cell b_c 4).trans rfl;have f_c4:=Bk.frozen b_c 4;have c_v0:World.cell? w1 ⟨g_v,0,none⟩=some (.int .i64 a1_0):=(Bk.cell b_v 0).trans rfl;have f_v0:=Bk.frozen b_v 0;have c_v1:World.cell? w1 ⟨g_v,1,none⟩=some (.int .i64 a1_1):=(Bk.cell b_v 1).trans rfl;have f_v1:=Bk.frozen b_v 1;have c_v2:World.cell? w1 ⟨g_v,2,none⟩=some (.int .i64 a1_2):=(Bk.cell b_v 2).trans rfl;have f_v2:=Bk.frozen b_v 2)|((with_reducible refine gate_callee (f:=11) rfl ?_);refine goesL_ (some 18) rfl rfl Try.func11 (by kernel_rfl) rfl #[.agg #[.int .i64 a0_0,.int .i64 a0_1,.int .i64 a0_2,.int .i64 a0_3,.int .i64 a0_4],.agg #[.int .i64 a1_0,.int .i64 a1_1,.int .i64 a1_2]] rfl (by (try simp only [List.map_toArray,List.map_cons,List.map_nil]);first|done|rfl) ?_;refine(sense_Show.calls k a0_0 a0_1 a0_2 a0_3 a0_4 a1_0 a1_1 a1_2 _ _ _ _ _ A1.out).mono ?_;rintro e w1 ⟨rfl,hb⟩;refine⟨_,rfl,?_⟩;have m_c:Bk w1 g_c #[.int .i64 a0_0,.int .i64 a0_1,.int .i64 a0_2,.int .i64 a0_3,.int .i64 a0_4] 24:=Bk.below b_c hb;have m_v:Bk w1 g_v #[.int .i64 a1_0,.int .i64 a1_1,.int .i64 a1_2] 22:=Bk.below b_v hb;have mB:=Bel.step hB hb;clear b_c;clear b_v;have b_c:=m_c;clear m_c;have b_v:=m_v;clear m_v;clear hB;have hB:=mB;clear mB;(try clear hb);have c_c0:World.cell? w1 ⟨g_c,0,none⟩=some (.int .i64 a0_0):=(Bk.cell b_c 0).trans rfl;have f_c0:=Bk.frozen b_c 0;have c_c1:World.cell? w1 ⟨g_c,1,none⟩=some (.int .i64 a0_1):=(Bk.cell b_c 1).trans rfl;have f_c1:=Bk.frozen b_c 1;have c_c2:World.cell? w1 ⟨g_c,2,none⟩=some (.int .i64 a0_2):=(Bk.cell b_c 2).trans rfl;have f_c2:=Bk.frozen b_c 2;have c_c3:World.cell? w1 ⟨g_c,3,none⟩=some (.int .i64 a0_3):=(Bk.cell b_c 3).trans rfl;have f_c3:=Bk.frozen b_c 3;have c_c4:World.cell? w1 ⟨g_c,4,none⟩=some (.int .i64 a0_4):=(Bk.cell b_c 4).trans rfl;have f_c4:=Bk.frozen b_c 4;have c_v0:World.cell? w1 ⟨g_v,0,none⟩=some (.int .i64 a1_0):=(Bk.cell b_v 0).trans rfl;have f_v0:=Bk.frozen b_v 0;have c_v1:World.cell? w1 ⟨g_v,1,none⟩=some (.int .i64 a1_1):=(Bk.cell b_v 1).trans rfl;have f_v1:=Bk.frozen b_v 1;have c_v2:World.cell? w1 ⟨g_v,2,none⟩=some (.int .i64 a1_2):=(Bk.cell b_v 2).trans rfl;have f_v2:=Bk.frozen b_v 2)|((with_reducible refine gate_dst (N:=6) rfl ?_);refine box_event ?hg (N:=6) ?hd (cs:=#[.int .i64 0,.int .i64 0,.int .i64 0]) (t:=22) ?hr ?_;(case hd=>rfl);(case hg=>rfl);(case hr=>first|(go_simp;done)|(go_simp;rfl));intro g_s hg w1 b_s hb;have b_s:Bk w1 g_s #[.int .i64 0,.int .i64 0,.int .i64 0] 22:=b_s;have l_s:w.heap.size≤g_s:=(by rw [hg];exact Bel.size hB);have ne_c_s:g_c≠g_s:=(by rw [hg];exact Nat.ne_of_lt (Bk.lt b_c));have ne_s_c:g_s≠g_c:=Ne.symm ne_c_s;have ne_v_s:g_v≠g_s:=(by rw [hg];exact Nat.ne_of_lt (Bk.lt b_v));have ne_s_v:g_s≠g_v:=Ne.symm ne_v_s;have m_c:Bk w1 g_c #[.int .i64 a0_0,.int .i64 a0_1,.int .i64 a0_2,.int .i64 a0_3,.int .i64 a0_4] 24:=Bk.below b_c hb;have m_v:Bk w1 g_v #[.int .i64 a1_0,.int .i64 a1_1,.int .i64 a1_2] 22:=Bk.below b_v hb;have mB:=Bel.step hB hb;clear b_c;clear b_v;have b_c:=m_c;clear m_c;have b_v:=m_v;clear m_v;clear hB;have hB:=mB;clear mB;(try clear hb);clear hg;have c_c0:World.cell? w1 ⟨g_c,0,none⟩=some (.int .i64 a0_0):=(Bk.cell b_c 0).trans rfl;have f_c0:=Bk.frozen b_c 0;have c_c1:World.cell? w1 ⟨g_c,1,none⟩=some (.int .i64 a0_1):=(Bk.cell b_c 1).trans rfl;have f_c1:=Bk.frozen b_c 1;have c_c2:World.cell? w1 ⟨g_c,2,none⟩=some (.int .i64 a0_2):=(Bk.cell b_c 2).trans rfl;have f_c2:=Bk.frozen b_c 2;have c_c3:World.cell? w1 ⟨g_c,3,none⟩=some (.int .i64 a0_3):=(Bk.cell b_c 3).trans rfl;have f_c3:=Bk.frozen b_c 3;have c_c4:World.cell? w1 ⟨g_c,4,none⟩=some (.int .i64 a0_4):=(Bk.cell b_c 4).trans rfl;have f_c4:=Bk.frozen b_c 4;have c_v0:World.cell? w1 ⟨g_v,0,none⟩=some (.int .i64 a1_0):=(Bk.cell b_v 0).trans rfl;have f_v0:=Bk.frozen b_v 0;have c_v1:World.cell? w1 ⟨g_v,1,none⟩=some (.int .i64 a1_1):=(Bk.cell b_v 1).trans rfl;have f_v1:=Bk.frozen b_v 1;have c_v2:World.cell? w1 ⟨g_v,2,none⟩=some (.int .i64 a1_2):=(Bk.cell b_v 2).trans rfl;have f_v2:=Bk.frozen b_v 2;have c_s0:World.cell? w1 ⟨g_s,0,none⟩=some (.int .i64 0):=(Bk.cell b_s 0).trans rfl;have f_s0:=Bk.frozen b_s 0;have c_s1:World.cell? w1 ⟨g_s,1,none⟩=some (.int .i64 0):=(Bk.cell b_s 1).trans rfl;have f_s1:=Bk.frozen b_s 1;have c_s2:World.cell? w1 ⟨g_s,2,none⟩=some (.int .i64 0):=(Bk.cell b_s 2).trans rfl;have f_s2:=Bk.frozen b_s 2))
  try go_wp2
  go_ret
  exact⟨rfl,(Bel.set (Bel.set (Bel.set hB l_s 0 (.int .i64 n0)) l_s 1 (.int .i64 n1)) l_s 2 (.int .i64 n2))⟩
 ·have y0:decide (a0_3<16777216)=false:=decide_eq_false (by omega)
  have y1:decide (a0_3 > 1099511627776)=true:=decide_eq_true (by omega)
  have hB:=Bel.refl w
  go_enter Try.func4,Try.ntmps4
  go_wp2_with (first|((with_reducible refine gate_dst (N:=2) rfl ?_);refine box_event ?hg (N:=2) ?hd (cs:=#[.int .i64 a0_0,.int .i64 a0_1,.int .i64 a0_2,.int .i64 a0_3,.int .i64 a0_4]) (t:=24) ?hr ?_;(case hd=>rfl);(case hg=>rfl);(case hr=>first|(go_simp;done)|(go_simp;rfl));intro g_c hg w1 b_c hb;have b_c:Bk w1 g_c #[.int .i64 a0_0,.int .i64 a0_1,.int .i64 a0_2,.int .i64 a0_3,.int .i64 a0_4] 24:=b_c;have l_c:w.heap.size≤g_c:=(by rw [hg];exact Bel.size hB);have mB:=Bel.step hB hb;clear hB;have hB:=mB;clear mB;(try clear hb);clear hg;have c_c0:World.cell? w1 ⟨g_c,0,none⟩=some (.int .i64 a0_0):=(Bk.cell b_c 0).trans rfl;have f_c0:=Bk.frozen b_c 0;have c_c1:World.cell? w1 ⟨g_c,1,none⟩=some (.int .i64 a0_1):=(Bk.cell b_c 1).trans rfl;have f_c1:=Bk.frozen b_c 1;have c_c2:World.cell? w1 ⟨g_c,2,none⟩=some (.int .i64 a0_2):=(Bk.cell b_c 2).trans rfl;have f_c2:=Bk.frozen b_c 2;have c_c3:World.cell? w1 ⟨g_c,3,none⟩=some (.int .i64 a0_3):=(Bk.cell b_c 3).trans rfl;have f_c3:=Bk.frozen b_c 3;have c_c4:World.cell? w1 ⟨g_c,4,none⟩=some (.int .i64 a0_4):=(Bk.cell b_c 4).trans rfl;have f_c4:=Bk.frozen b_c 4)|((with_reducible refine gate_dst (N:=3) rfl ?_);refine box_event ?hg (N:=3) ?hd (cs:=#[.int .i64 a1_0,.int .i64 a1_1,.int .i64 a1_2]) (t:=22) ?hr ?_;(case hd=>rfl);(case hg=>rfl);(case hr=>first|(go_simp;done)|(go_simp;rfl));intro g_v hg w1 b_v hb;have b_v:Bk w1 g_v #[.int .i64 a1_0,.int .i64 a1_1,.int .i64 a1_2] 22:=b_v;have l_v:w.heap.size≤g_v:=(by rw [hg];exact Bel.size hB);have ne_c_v:g_c≠g_v:=(by rw [hg];exact Nat.ne_of_lt (Bk.lt b_c));have ne_v_c:g_v≠g_c:=Ne.symm ne_c_v;have m_c:Bk w1 g_c #[.int .i64 a0_0,.int .i64 a0_1,.int .i64 a0_2,.int .i64 a0_3,.int .i64 a0_4] 24:=Bk.below b_c hb;have mB:=Bel.step hB hb;clear b_c;have b_c:=m_c;clear m_c;clear hB;have hB:=mB;clear mB;(try clear hb);clear hg;have c_c0:World.cell? w1 ⟨g_c,0,none⟩=some (.int .i64 a0_0):=(Bk.cell b_c 0).trans rfl;have f_c0:=Bk.frozen b_c 0;have c_c1:World.cell? w1 ⟨g_c,1,none⟩=some (.int .i64 a0_1):=(Bk.cell b_c 1).trans rfl;have f_c1:=Bk.frozen b_c 1;have c_c2:World.cell? w1 ⟨g_c,2,none⟩=some (.int .i64 a0_2):=(Bk.cell b_c 2).trans rfl;have f_c2:=Bk.frozen b_c 2;have c_c3:World.cell? w1 ⟨g_c,3,none⟩=some (.int .i64 a0_3):=(Bk.cell b_c 3).trans rfl;have f_c3:=Bk.frozen b_c 3;have c_c4:World.cell? w1 ⟨g_c,4,none⟩=some (.int .i64 a0_4):=(Bk.cell b_c 4).trans rfl;have f_c4:=Bk.frozen b_c 4;have c_v0:World.cell? w1 ⟨g_v,0,none⟩=some (.int .i64 a1_0):=(Bk.cell b_v 0).trans rfl;have f_v0:=Bk.frozen b_v 0;have c_v1:World.cell? w1 ⟨g_v,1,none⟩=some (.int .i64 a1_1):=(Bk.cell b_v 1).trans rfl;have f_v1:=Bk.frozen b_v 1;have c_v2:World.cell? w1 ⟨g_v,2,none⟩=some (.int .i64 a1_2):=(Bk.cell b_v 2).trans rfl;have f_v2:=Bk.frozen b_v 2)|((with_reducible refine gate_callee (f:=8) rfl ?_);refine goesL_ (some 14) rfl rfl Try.func8 (by kernel_rfl) rfl #[] rfl (by (try simp only [List.map_toArray,List.map_cons,List.map_nil]);first|done|rfl) ?_;refine(outriggerlaw18_awake.calls 200 true _ outriggerlaw18_awake.known).mono ?_;rintro e w1 ⟨rfl,hb⟩;refine⟨_,rfl,?_⟩;have m_c:Bk w1 g_c #[.int .i64 a0_0,.int .i64 a0_1,.int .i64 a0_2,.int .i64 a0_3,.int .i64 a0_4] 24:=Bk.below b_c hb;have m_v:Bk w1 g_v #[.int .i64 a1_0,.int .i64 a1_1,.int .i64 a1_2] 22:=Bk.below b_v hb;have mB:=Bel.step hB hb;clear b_c;clear b_v;have b_c:=m_c;clear m_c;have b_v:=m_v;clear m_v;clear hB;have hB:=mB;clear mB;(try clear hb);have c_c0:World.cell? w1 ⟨g_c,0,none⟩=some (.int .i64 a0_0):=(Bk.cell b_c 0).trans rfl;have f_c0:=Bk.frozen b_c 0;have c_c1:World.cell? w1 ⟨g_c,1,none⟩=some (.int .i64 a0_1):=(Bk.cell b_c 1).trans rfl;have f_c1:=Bk.frozen b_c 1;have c_c2:World.cell? w1 ⟨g_c,2,none⟩=some (.int .i64 a0_2):=(Bk.cell b_c 2).trans rfl;have f_c2:=Bk.frozen b_c 2;have c_c3:World.cell? w1 ⟨g_c,3,none⟩=some (.int .i64 a0_3):=(Bk.cell b_c 3).trans rfl;have f_c3:=Bk.frozen b_c 3;have c_c4:World.cell? w1 ⟨g_c,4,none⟩=some (.int .i64 a0_4):=(Bk.cell b_c 4).trans rfl;have f_c4:=Bk.frozen b_c 4;have c_v0:World.cell? w1 ⟨g_v,0,none⟩=some (.int .i64 a1_0):=(Bk.cell b_v 0).trans rfl;have f_v0:=Bk.frozen b_v 0;have c_v1:World.cell? w1 ⟨g_v,1,none⟩=some (.int .i64 a1_1):=(Bk.cell b_v 1).trans rfl;have f_v1:=Bk.frozen b_v 1;have c_v2:World.cell? w1 ⟨g_v,2,none⟩=some (.int .i64 a1_2):=(Bk.cell b_v 2).trans rfl;have f_v2:=Bk.frozen b_v 2)|((with_reducible refine gate_callee (f:=11) rfl ?_);refine goesL_ (some 18) rfl rfl Try.func11 (by kernel_rfl) rfl #[.agg #[.int .i64 a0_0,.int .i64 a0_1,.int .i64 a0_2,.int .i64 a0_3,.int .i64 a0_4],.agg #[.int .i64 a1_0,.int .i64 a1_1,.int .i64 a1_2]] rfl (by (try simp only [List.map_toArray,List.map_cons,List.map_nil]);first|done|rfl) ?_;refine(sense_Show.calls k a0_0 a0_1 a0_2 a0_3 a0_4 a1_0 a1_1 a1_2 _ _ _ _ _ A1.out).mono ?_;rintro e w1 ⟨rfl,hb⟩;refine⟨_,rfl,?_⟩;have m_c:Bk w1 g_c #[.int .i64 a0_0,.int .i64 a0_1,.int .i64 a0_2,.int .i64 a0_3,.int .i64 a0_4] 24:=Bk.below b_c hb;have m_v:Bk w1 g_v #[.int .i64 a1_0,.int .i64 a1_1,.int .i64 a1_2] 22:=Bk.below b_v hb;have mB:=Bel.step hB hb;clear b_c;clear b_v;have b_c:=m_c;clear m_c;have b_v:=m_v;clear m_v;clear hB;have hB:=mB;clear mB;(try clear hb);have c_c0:World.cell? w1 ⟨g_c,0,none⟩=some (.int .i64 a0_0):=(Bk.cell b_c 0).trans rfl;have f_c0:=Bk.frozen b_c 0;have c_c1:World.cell? w1 ⟨g_c,1,none⟩=some (.int .i64 a0_1):=(Bk.cell b_c 1).trans rfl;have f_c1:=Bk.frozen b_c 1;have c_c2:World.cell? w1 ⟨g_c,2,none⟩=some (.int .i64 a0_2):=(Bk.cell b_c 2).trans rfl;have f_c2:=Bk.frozen b_c 2;have c_c3:World.cell? w1 ⟨g_c,3,none⟩=some (.int .i64 a0_3):=(Bk.cell b_c 3).trans rfl;have f_c3:=Bk.frozen b_c 3;have c_c4:World.cell? w1 ⟨g_c,4,none⟩=some (.int .i64 a0_4):=(Bk.cell b_c 4).trans rfl;have f_c4:=Bk.frozen b_c 4;have c_v0:World.cell? w1 ⟨g_v,0,none⟩=some (.int .i64 a1_0):=(Bk.cell b_v 0).trans rfl;have f_v0:=Bk.frozen b_v 0;have c_v1:World.cell? w1 ⟨g_v,1,none⟩=some (.int .i64 a1_1):=(Bk.cell b_v 1).trans rfl;have f_v1:=Bk.frozen b_v 1;have c_v2:World.cell? w1 ⟨g_v,2,none⟩=some (.int .i64 a1_2):=(Bk.cell b_v 2).trans rfl;have f_v2:=Bk.frozen b_v 2)|((with_reducible refine gate_dst (N:=6) rfl ?_);refine box_event ?hg (N:=6) ?hd (cs:=#[.int .i64 0,.int .i64 0,.int .i64 0]) (t:=22) ?hr ?_;(case hd=>rfl);(case hg=>rfl);(case hr=>first|(go_simp;done)|(go_simp;rfl));intro g_s hg w1 b_s hb;have b_s:Bk w1 g_s #[.int .i64 0,.int .i64 0,.int .i64 0] 22:=b_s;have l_s:w.heap.size≤g_s:=(by rw [hg];exact Bel.size hB);have ne_c_s:g_c≠g_s:=(by rw [hg];exact Nat.ne_of_lt (Bk.lt b_c));have ne_s_c:g_s≠g_c:=Ne.symm ne_c_s;have ne_v_s:g_v≠g_s:=(by rw [hg];exact Nat.ne_of_lt (Bk.lt b_v));have ne_s_v:g_s≠g_v:=Ne.symm ne_v_s;have m_c:Bk w1 g_c #[.int .i64 a0_0,.int .i64 a0_1,.int .i64 a0_2,.int .i64 a0_3,.int .i64 a0_4] 24:=Bk.below b_c hb;have m_v:Bk w1 g_v #[.int .i64 a1_0,.int .i64 a1_1,.int .i64 a1_2] 22:=Bk.below b_v hb;have mB:=Bel.step hB hb;clear b_c;clear b_v;have b_c:=m_c;clear m_c;have b_v:=m_v;clear m_v;clear hB;have hB:=mB;clear mB;(try clear hb);clear hg;have c_c0:World.cell? w1 ⟨g_c,0,none⟩=some (.int .i64 a0_0):=(Bk.cell b_c 0).trans rfl;have f_c0:=Bk.frozen b_c 0;have c_c1:World.cell? w1 ⟨g_c,1,none⟩=some (.int .i64 a0_1):=(Bk.cell b_c 1).trans rfl;have f_c1:=Bk.frozen b_c 1;have c_c2:World.cell? w1 ⟨g_c,2,none⟩=some (.int .i64 a0_2):=(Bk.cell b_c 2).trans rfl;have f_c2:=Bk.frozen b_c 2;have c_c3:World.cell? w1 ⟨g_c,3,none⟩=some (.int .i64 a0_3):=(Bk.cell b_c 3).trans rfl;have f_c3:=Bk.frozen b_c 3;have c_c4:World.cell? w1 ⟨g_c,4,none⟩=some (.int .i64 a0_4):=(Bk.cell b_c 4).trans rfl;have f_c4:=Bk.frozen b_c 4;have c_v0:World.cell? w1 ⟨g_v,0,none⟩=some (.int .i64 a1_0):=(Bk.cell b_v 0).trans rfl;have f_v0:=Bk.frozen b_v 0;have c_v1:World.cell? w1 ⟨g_v,1,none⟩=some (.int .i64 a1_1):=(Bk.cell b_v 1).trans rfl;have f_v1:=Bk.frozen b_v 1;have c_v2:World.cell? w1 ⟨g_v,2,none⟩=some (.int .i64 a1_2):=(Bk.cell b_v 2).trans rfl;have f_v2:=Bk.frozen b_v 2;have c_s0:World.cell? w1 ⟨g_s,0,none⟩=some (.int .i64 0):=(Bk.cell b_s 0).trans rfl;have f_s0:=Bk.frozen b_s 0;have c_s1:World.cell? w1 ⟨g_s,1,none⟩=some (.int .i64 0):=(Bk.cell b_s 1).trans rfl;have f_s1:=Bk.frozen b_s 1;have c_s2:World.cell? w1 ⟨g_s,2,none⟩=some (.int .i64 0):=(Bk.cell b_s 2).trans rfl;have f_s2:=Bk.frozen b_s 2))
  try go_wp2
  go_ret
  exact⟨rfl,(Bel.set (Bel.set (Bel.set hB l_s 0 (.int .i64 n0)) l_s 1 (.int .i64 n1)) l_s 2 (.int .i64 n2))⟩
 ·have y0:decide (a0_3<16777216)=false:=decide_eq_false (by omega)
  have y1:decide (a0_3 > 1099511627776)=false:=decide_eq_false (by omega)
  clear x x2
  replace B0:=Aside0.mk B0
  replace B1:=Aside0.mk B1
  replace B2:=Aside0.mk B2
  replace D0:=Aside0.mk D0
  replace D1:=Aside0.mk D1
  replace D2:=Aside0.mk D2
  replace A2:=Aside0.mk A2
  replace X:=Aside0.mk X
  have hB:=Bel.refl w
  go_enter Try.func4,Try.ntmps4
  go_wp2_with (first|((with_reducible refine gate_dst (N:=2) rfl ?_);refine box_event ?hg (N:=2) ?hd (cs:=#[.int .i64 a0_0,.int .i64 a0_1,.int .i64 a0_2,.int .i64 a0_3,.int .i64 a0_4]) (t:=24) ?hr ?_;(case hd=>rfl);(case hg=>rfl);(case hr=>first|(go_simp;done)|(go_simp;rfl));intro g_c hg w1 b_c hb;have b_c:Bk w1 g_c #[.int .i64 a0_0,.int .i64 a0_1,.int .i64 a0_2,.int .i64 a0_3,.int .i64 a0_4] 24:=b_c;have l_c:w.heap.size≤g_c:=(by rw [hg];exact Bel.size hB);have mB:=Bel.step hB hb;clear hB;have hB:=mB;clear mB;(try clear hb);clear hg;have c_c0:World.cell? w1 ⟨g_c,0,none⟩=some (.int .i64 a0_0):=(Bk.cell b_c 0).trans rfl;have f_c0:=Bk.frozen b_c 0;have c_c1:World.cell? w1 ⟨g_c,1,none⟩=some (.int .i64 a0_1):=(Bk.cell b_c 1).trans rfl;have f_c1:=Bk.frozen b_c 1;have c_c2:World.cell? w1 ⟨g_c,2,none⟩=some (.int .i64 a0_2):=(Bk.cell b_c 2).trans rfl;have f_c2:=Bk.frozen b_c 2;have c_c3:World.cell? w1 ⟨g_c,3,none⟩=some (.int .i64 a0_3):=(Bk.cell b_c 3).trans rfl;have f_c3:=Bk.frozen b_c 3;have c_c4:World.cell? w1 ⟨g_c,4,none⟩=some (.int .i64 a0_4):=(Bk.cell b_c 4).trans rfl;have f_c4:=Bk.frozen b_c 4)|((with_reducible refine gate_dst (N:=3) rfl ?_);refine box_event ?hg (N:=3) ?hd (cs:=#[.int .i64 a1_0,.int .i64 a1_1,.int .i64 a1_2]) (t:=22) ?hr ?_;(case hd=>rfl);(case hg=>rfl);(case hr=>first|(go_simp;done)|(go_simp;rfl));intro g_v hg w1 b_v hb;have b_v:Bk w1 g_v #[.int .i64 a1_0,.int .i64 a1_1,.int .i64 a1_2] 22:=b_v;have l_v:w.heap.size≤g_v:=(by rw [hg];exact Bel.size hB);have ne_c_v:g_c≠g_v:=(by rw [hg];exact Nat.ne_of_lt (Bk.lt b_c));have ne_v_c:g_v≠g_c:=Ne.symm ne_c_v;have m_c:Bk w1 g_c #[.int .i64 a0_0,.int .i64 a0_1,.int .i64 a0_2,.int .i64 a0_3,.int .i64 a0_4] 24:=Bk.below b_c hb;have mB:=Bel.step hB hb;clear b_c;have b_c:=m_c;clear m_c;clear hB;have hB:=mB;clear mB;(try clear hb);clear hg;have c_c0:World.cell? w1 ⟨g_c,0,none⟩=some (.int .i64 a0_0):=(Bk.cell b_c 0).trans rfl;have f_c0:=Bk.frozen b_c 0;have c_c1:World.cell? w1 ⟨g_c,1,none⟩=some (.int .i64 a0_1):=(Bk.cell b_c 1).trans rfl;have f_c1:=Bk.frozen b_c 1;have c_c2:World.cell? w1 ⟨g_c,2,none⟩=some (.int .i64 a0_2):=(Bk.cell b_c 2).trans rfl;have f_c2:=Bk.frozen b_c 2;have c_c3:World.cell? w1 ⟨g_c,3,none⟩=some (.int .i64 a0_3):=(Bk.cell b_c 3).trans rfl;have f_c3:=Bk.frozen b_c 3;have c_c4:World.cell? w1 ⟨g_c,4,none⟩=some (.int .i64 a0_4):=(Bk.cell b_c 4).trans rfl;have f_c4:=Bk.frozen b_c 4;have c_v0:World.cell? w1 ⟨g_v,0,none⟩=some (.int .i64 a1_0):=(Bk.cell b_v 0).trans rfl;have f_v0:=Bk.frozen b_v 0;have c_v1:World.cell? w1 ⟨g_v,1,none⟩=some (.int .i64 a1_1):=(Bk.cell b_v 1).trans rfl;have f_v1:=Bk.frozen b_v 1;have c_v2:World.cell? w1 ⟨g_v,2,none⟩=some (.int .i64 a1_2):=(Bk.cell b_v 2).trans rfl;have f_v2:=Bk.frozen b_v 2)|((with_reducible refine gate_callee (f:=8) rfl ?_);refine goesL_ (some 14) rfl rfl Try.func8 (by kernel_rfl) rfl #[] rfl (by (try simp only [List.map_toArray,List.map_cons,List.map_nil]);first|done|rfl) ?_;refine(outriggerlaw18_awake.calls 200 true _ outriggerlaw18_awake.known).mono ?_;rintro e w1 ⟨rfl,hb⟩;refine⟨_,rfl,?_⟩;have m_c:Bk w1 g_c #[.int .i64 a0_0,.int .i64 a0_1,.int .i64 a0_2,.int .i64 a0_3,.int .i64 a0_4] 24:=Bk.below b_c hb;have m_v:Bk w1 g_v #[.int .i64 a1_0,.int .i64 a1_1,.int .i64 a1_2] 22:=Bk.below b_v hb;have mB:=Bel.step hB hb;clear b_c;clear b_v;have b_c:=m_c;clear m_c;have b_v:=m_v;clear m_v;clear hB;have hB:=mB;clear mB;(try clear hb);have c_c0:World.cell? w1 ⟨g_c,0,none⟩=some (.int .i64 a0_0):=(Bk.cell b_c 0).trans rfl;have f_c0:=Bk.frozen b_c 0;have c_c1:World.cell? w1 ⟨g_c,1,none⟩=some (.int .i64 a0_1):=(Bk.cell b_c 1).trans rfl;have f_c1:=Bk.frozen b_c 1;have c_c2:World.cell? w1 ⟨g_c,2,none⟩=some (.int .i64 a0_2):=(Bk.cell b_c 2).trans rfl;have f_c2:=Bk.frozen b_c 2;have c_c3:World.cell? w1 ⟨g_c,3,none⟩=some (.int .i64 a0_3):=(Bk.cell b_c 3).trans rfl;have f_c3:=Bk.frozen b_c 3;have c_c4:World.cell? w1 ⟨g_c,4,none⟩=some (.int .i64 a0_4):=(Bk.cell b_c 4).trans rfl;have f_c4:=Bk.frozen b_c 4;have c_v0:World.cell? w1 ⟨g_v,0,none⟩=some (.int .i64 a1_0):=(Bk.cell b_v 0).trans rfl;have f_v0:=Bk.frozen b_v 0;have c_v1:World.cell? w1 ⟨g_v,1,none⟩=some (.int .i64 a1_1):=(Bk.cell b_v 1).trans rfl;have f_v1:=Bk.frozen b_v 1;have c_v2:World.cell? w1 ⟨g_v,2,none⟩=some (.int .i64 a1_2):=(Bk.cell b_v 2).trans rfl;have f_v2:=Bk.frozen b_v 2)|((with_reducible refine gate_callee (f:=11) rfl ?_);refine goesL_ (some 18) rfl rfl Try.func11 (by kernel_rfl) rfl #[.agg #[.int .i64 a0_0,.int .i64 a0_1,.int .i64 a0_2,.int .i64 a0_3,.int .i64 a0_4],.agg #[.int .i64 a1_0,.int .i64 a1_1,.int .i64 a1_2]] rfl (by (try simp only [List.map_toArray,List.map_cons,List.map_nil]);first|done|rfl) ?_;refine(sense_Show.calls k a0_0 a0_1 a0_2 a0_3 a0_4 a1_0 a1_1 a1_2 _ _ _ _ _ A1.out).mono ?_;rintro e w1 ⟨rfl,hb⟩;refine⟨_,rfl,?_⟩;have m_c:Bk w1 g_c #[.int .i64 a0_0,.int .i64 a0_1,.int .i64 a0_2,.int .i64 a0_3,.int .i64 a0_4] 24:=Bk.below b_c hb;have m_v:Bk w1 g_v #[.int .i64 a1_0,.int .i64 a1_1,.int .i64 a1_2] 22:=Bk.below b_v hb;have mB:=Bel.step hB hb;clear b_c;clear b_v;have b_c:=m_c;clear m_c;have b_v:=m_v;clear m_v;clear hB;have hB:=mB;clear mB;(try clear hb);have c_c0:World.cell? w1 ⟨g_c,0,none⟩=some (.int .i64 a0_0):=(Bk.cell b_c 0).trans rfl;have f_c0:=Bk.frozen b_c 0;have c_c1:World.cell? w1 ⟨g_c,1,none⟩=some (.int .i64 a0_1):=(Bk.cell b_c 1).trans rfl;have f_c1:=Bk.frozen b_c 1;have c_c2:World.cell? w1 ⟨g_c,2,none⟩=some (.int .i64 a0_2):=(Bk.cell b_c 2).trans rfl;have f_c2:=Bk.frozen b_c 2;have c_c3:World.cell? w1 ⟨g_c,3,none⟩=some (.int .i64 a0_3):=(Bk.cell b_c 3).trans rfl;have f_c3:=Bk.frozen b_c 3;have c_c4:World.cell? w1 ⟨g_c,4,none⟩=some (.int .i64 a0_4):=(Bk.cell b_c 4).trans rfl;have f_c4:=Bk.frozen b_c 4;have c_v0:World.cell? w1 ⟨g_v,0,none⟩=some (.int .i64 a1_0):=(Bk.cell b_v 0).trans rfl;have f_v0:=Bk.frozen b_v 0;have c_v1:World.cell? w1 ⟨g_v,1,none⟩=some (.int .i64 a1_1):=(Bk.cell b_v 1).trans rfl;have f_v1:=Bk.frozen b_v 1;have c_v2:World.cell? w1 ⟨g_v,2,none⟩=some (.int .i64 a1_2):=(Bk.cell b_v 2).trans rfl;have f_v2:=Bk.frozen b_v 2)|((with_reducible refine gate_dst (N:=6) rfl ?_);refine box_event ?hg (N:=6) ?hd (cs:=#[.int .i64 0,.int .i64 0,.int .i64 0]) (t:=22) ?hr ?_;(case hd=>rfl);(case hg=>rfl);(case hr=>first|(go_simp;done)|(go_simp;rfl));intro g_s hg w1 b_s hb;have b_s:Bk w1 g_s #[.int .i64 0,.int .i64 0,.int .i64 0] 22:=b_s;have l_s:w.heap.size≤g_s:=(by rw [hg];exact Bel.size hB);have ne_c_s:g_c≠g_s:=(by rw [hg];exact Nat.ne_of_lt (Bk.lt b_c));have ne_s_c:g_s≠g_c:=Ne.symm ne_c_s;have ne_v_s:g_v≠g_s:=(by rw [hg];exact Nat.ne_of_lt (Bk.lt b_v));have ne_s_v:g_s≠g_v:=Ne.symm ne_v_s;have m_c:Bk w1 g_c #[.int .i64 a0_0,.int .i64 a0_1,.int .i64 a0_2,.int .i64 a0_3,.int .i64 a0_4] 24:=Bk.below b_c hb;have m_v:Bk w1 g_v #[.int .i64 a1_0,.int .i64 a1_1,.int .i64 a1_2] 22:=Bk.below b_v hb;have mB:=Bel.step hB hb;clear b_c;clear b_v;have b_c:=m_c;clear m_c;have b_v:=m_v;clear m_v;clear hB;have hB:=mB;clear mB;(try clear hb);clear hg;have c_c0:World.cell? w1 ⟨g_c,0,none⟩=some (.int .i64 a0_0):=(Bk.cell b_c 0).trans rfl;have f_c0:=Bk.frozen b_c 0;have c_c1:World.cell? w1 ⟨g_c,1,none⟩=some (.int .i64 a0_1):=(Bk.cell b_c 1).trans rfl;have f_c1:=Bk.frozen b_c 1;have c_c2:World.cell? w1 ⟨g_c,2,none⟩=some (.int .i64 a0_2):=(Bk.cell b_c 2).trans rfl;have f_c2:=Bk.frozen b_c 2;have c_c3:World.cell? w1 ⟨g_c,3,none⟩=some (.int .i64 a0_3):=(Bk.cell b_c 3).trans rfl;have f_c3:=Bk.frozen b_c 3;have c_c4:World.cell? w1 ⟨g_c,4,none⟩=some (.int .i64 a0_4):=(Bk.cell b_c 4).trans rfl;have f_c4:=Bk.frozen b_c 4;have c_v0:World.cell? w1 ⟨g_v,0,none⟩=some (.int .i64 a1_0):=(Bk.cell b_v 0).trans rfl;have f_v0:=Bk.frozen b_v 0;have c_v1:World.cell? w1 ⟨g_v,1,none⟩=some (.int .i64 a1_1):=(Bk.cell b_v 1).trans rfl;have f_v1:=Bk.frozen b_v 1;have c_v2:World.cell? w1 ⟨g_v,2,none⟩=some (.int .i64 a1_2):=(Bk.cell b_v 2).trans rfl;have f_v2:=Bk.frozen b_v 2;have c_s0:World.cell? w1 ⟨g_s,0,none⟩=some (.int .i64 0):=(Bk.cell b_s 0).trans rfl;have f_s0:=Bk.frozen b_s 0;have c_s1:World.cell? w1 ⟨g_s,1,none⟩=some (.int .i64 0):=(Bk.cell b_s 1).trans rfl;have f_s1:=Bk.frozen b_s 1;have c_s2:World.cell? w1 ⟨g_s,2,none⟩=some (.int .i64 0):=(Bk.cell b_s 2).trans rfl;have f_s2:=Bk.frozen b_s 2))
  refine wp_loop_rounds 4 ?_
  rw [rounds_succ]
  go_wp2
  by_cases x:b0 > wrap64 (a0_4-65536)
  ·have x0:decide (b0 > wrap64 (a0_4-65536))=true:=decide_eq_true (by omega)
   have x1:decide (b0 > IntKind.i64.wrap (a0_4-65536))=true:=by rw [i64_w];exact x0
   refine start2_ (n:=15) (S:=fun w'=>Bk w' g_c #[.int .i64 a0_0,.int .i64 a0_1,.int .i64 a0_2,.int .i64 a0_3,.int .i64 a0_4] 24∧Bk w' g_v #[.int .i64 a1_0,.int .i64 a1_1,.int .i64 a1_2] 22∧Bk w' g_s #[.int .i64 n0,.int .i64 n1,.int .i64 n2] 22∧Bel w w') (ds:=[]) #[ff,ff,ff,ff,ff,ff,ff,ff,ff,ff,ff,ff,ff,ff,ff] (by kernel_rfl) rfl rfl outriggerlaw18_SenseBack.tab8 outriggerlaw18_SenseBack.bits8 ⟨Bk.drew (Bk.far (Bk.far (Bk.far b_c ne_c_s 0 (.int .i64 n0)) ne_c_s 1 (.int .i64 n1)) ne_c_s 2 (.int .i64 n2)),Bk.drew (Bk.far (Bk.far (Bk.far b_v ne_v_s 0 (.int .i64 n0)) ne_v_s 1 (.int .i64 n1)) ne_v_s 2 (.int .i64 n2)),Bk.drew (Bk.put (Bk.put (Bk.put b_s 0 (.int .i64 n0) rfl) 1 (.int .i64 n1) rfl) 2 (.int .i64 n2) rfl),Bel.drew (Bel.set (Bel.set (Bel.set hB l_s 0 (.int .i64 n0)) l_s 1 (.int .i64 n1)) l_s 2 (.int .i64 n2))⟩ (fun wn hHeld HT_ HW_=>?_)
   refine pure_ (i:=0) (N:=some 46) (v:=?_) (a':=?_) #[tt,ff,ff,ff,ff,ff,ff,ff,ff,ff,ff,ff,ff,ff,ff] rfl rfl (any_of HT_.out (by kernel_rfl)) (fun _ _ _ h=>h) (Or.inl ⟨by rfl,?_⟩) ?_ ?_
   rotate_left
   ·intro w'
    go_simp
    with_reducible rfl
   rotate_left
   ·simp only [Act.put,List.setIfInBounds_toArray,List.set_cons_zero,List.set_cons_succ]
    rfl
   refine pure_ (i:=1) (N:=some 47) (v:=?_) (a':=?_) #[tt,tt,ff,ff,ff,ff,ff,ff,ff,ff,ff,ff,ff,ff,ff] rfl rfl (any_of HT_.out (by kernel_rfl)) (fun _ _ _ h=>h) (Or.inl ⟨by rfl,?_⟩) ?_ ?_
   rotate_left
   ·intro w'
    go_simp
    with_reducible rfl
   rotate_left
   ·simp only [Act.put,List.setIfInBounds_toArray,List.set_cons_zero,List.set_cons_succ]
    rfl
   refine take_ (i:=2) (N:=some 48) (v:=?_) (a':=?_) #[tt,tt,tt,ff,ff,ff,ff,ff,ff,ff,ff,ff,ff,ff,ff] rfl rfl (take_ofW HT_.out HW_.out (by kernel_rfl)) (fun _ _ _ h=>h) (Or.inl ⟨by rfl,?_⟩) hHeld ?_ ?_
   rotate_left
   ·rintro w' ⟨s0,s1,s2,s3⟩
    have c_v0:World.cell? w' ⟨g_v,0,none⟩=some (.int .i64 a1_0):=(Bk.cell s1 0).trans rfl
    have c_v1:World.cell? w' ⟨g_v,1,none⟩=some (.int .i64 a1_1):=(Bk.cell s1 1).trans rfl
    have c_v2:World.cell? w' ⟨g_v,2,none⟩=some (.int .i64 a1_2):=(Bk.cell s1 2).trans rfl
    go_simp
    with_reducible rfl
   rotate_left
   ·simp only [Act.put,List.setIfInBounds_toArray,List.set_cons_zero,List.set_cons_succ]
    rfl
   refine pure_ (i:=4) (N:=some 50) (v:=?_) (a':=?_) #[tt,tt,tt,ff,tt,ff,ff,ff,ff,ff,ff,ff,ff,ff,ff] rfl rfl (any_of HT_.out (by kernel_rfl)) (fun _ _ _ h=>h) (Or.inl ⟨by rfl,?_⟩) ?_ ?_
   rotate_left
   ·intro w'
    go_simp
    with_reducible rfl
   rotate_left
   ·simp only [Act.put,List.setIfInBounds_toArray,List.set_cons_zero,List.set_cons_succ]
    rfl
   refine take_ (i:=5) (N:=some 51) (v:=?_) (a':=?_) #[tt,tt,tt,ff,tt,tt,ff,ff,ff,ff,ff,ff,ff,ff,ff] rfl rfl (take_ofW HT_.out HW_.out (by kernel_rfl)) (fun _ _ _ h=>h) (Or.inl ⟨by rfl,?_⟩) hHeld ?_ ?_
   rotate_left
   ·rintro w' ⟨s0,s1,s2,s3⟩
    have c_c0:World.cell? w' ⟨g_c,0,none⟩=some (.int .i64 a0_0):=(Bk.cell s0 0).trans rfl
    have c_c1:World.cell? w' ⟨g_c,1,none⟩=some (.int .i64 a0_1):=(Bk.cell s0 1).trans rfl
    have c_c2:World.cell? w' ⟨g_c,2,none⟩=some (.int .i64 a0_2):=(Bk.cell s0 2).trans rfl
    have c_c3:World.cell? w' ⟨g_c,3,none⟩=some (.int .i64 a0_3):=(Bk.cell s0 3).trans rfl
    have c_c4:World.cell? w' ⟨g_c,4,none⟩=some (.int .i64 a0_4):=(Bk.cell s0 4).trans rfl
    go_simp
    with_reducible rfl
   rotate_left
   ·simp only [Act.put,List.setIfInBounds_toArray,List.set_cons_zero,List.set_cons_succ]
    rfl
   refine pure_ (i:=6) (N:=some 52) (v:=?_) (a':=?_) #[tt,tt,tt,ff,tt,tt,tt,ff,ff,ff,ff,ff,ff,ff,ff] rfl rfl (any_of HT_.out (by kernel_rfl)) (fun _ _ _ h=>h) (Or.inl ⟨by rfl,?_⟩) ?_ ?_
   rotate_left
   ·intro w'
    go_simp
    with_reducible rfl
   rotate_left
   ·simp only [Act.put,List.setIfInBounds_toArray,List.set_cons_zero,List.set_cons_succ]
    rfl
   refine one_ (i:=3) (N:=some 49) #[tt,tt,tt,tt,tt,tt,tt,ff,ff,ff,ff,ff,ff,ff,ff] rfl rfl (one_of HT_.out (by kernel_rfl)) (by decide) (fun K hK=>?_)
   obtain⟨s0,s1,s2,s3⟩:=hHeld
   refine goes_ (N:=some 49) Try.func17 (by kernel_rfl) rfl #[.int .i64 a1_0] (by rfl) rfl rfl (by (try simp only [List.map_toArray,List.map_cons,List.map_nil]);first|done|rfl) ?_
   refine(fix_Abs.calls a1_0 _ _ B0.out).mono ?_
   rintro e wn ⟨rfl,hb⟩
   refine⟨_,rfl,?_⟩
   refine hK.out _ _ ⟨Bk.below s0 hb,Bk.below s1 hb,Bk.below s2 hb,Bel.step s3 hb⟩ (fun hHeld=>?_)
   clear hK K
   refine norm_ (a':=?_) ?_ ?_
   rotate_left
   ·simp only [Act.put,List.setIfInBounds_toArray,List.set_cons_zero,List.set_cons_succ]
    rfl
   refine pure_ (i:=7) (N:=some 53) (v:=?_) (a':=?_) #[tt,tt,tt,tt,tt,tt,tt,tt,ff,ff,ff,ff,ff,ff,ff] rfl rfl (any_of HT_.out (by kernel_rfl)) (fun _ _ _ h=>h) (Or.inl ⟨by rfl,?_⟩) ?_ ?_
   rotate_left
   ·intro w'
    go_simp
    with_reducible rfl
   rotate_left
   ·simp only [Act.put,List.setIfInBounds_toArray,List.set_cons_zero,List.set_cons_succ]
    rfl
   refine pure_ (i:=8) (N:=some 54) (v:=?_) (a':=?_) #[tt,tt,tt,tt,tt,tt,tt,tt,tt,ff,ff,ff,ff,ff,ff] rfl rfl (any_of HT_.out (by kernel_rfl)) (fun _ _ _ h=>h) (Or.inl ⟨by rfl,?_⟩) ?_ ?_
   rotate_left
   ·intro w'
    go_simp
    with_reducible rfl
   rotate_left
   ·simp only [Act.put,List.setIfInBounds_toArray,List.set_cons_zero,List.set_cons_succ]
    rfl
   refine pure_ (i:=9) (N:=some 55) (v:=undef) (a':=?_) #[tt,tt,tt,tt,tt,tt,tt,tt,tt,tt,ff,ff,ff,ff,ff] rfl rfl (any_of HT_.out (by kernel_rfl)) (fun _ _ _ h=>h) (Or.inr ⟨by rfl,rfl⟩) ?_ ?_
   rotate_left
   ·simp only [Act.put,List.setIfInBounds_toArray,List.set_cons_zero,List.set_cons_succ]
    rfl
   refine pure_ (i:=10) (N:=some 56) (v:=undef) (a':=?_) #[tt,tt,tt,tt,tt,tt,tt,tt,tt,tt,tt,ff,ff,ff,ff] rfl rfl (any_of HT_.out (by kernel_rfl)) (fun _ _ _ h=>h) (Or.inr ⟨by rfl,rfl⟩) ?_ ?_
   rotate_left
   ·simp only [Act.put,List.setIfInBounds_toArray,List.set_cons_zero,List.set_cons_succ]
    rfl
   refine pure_ (i:=11) (N:=some 57) (v:=undef) (a':=?_) #[tt,tt,tt,tt,tt,tt,tt,tt,tt,tt,tt,tt,ff,ff,ff] rfl rfl (any_of HT_.out (by kernel_rfl)) (fun _ _ _ h=>h) (Or.inr ⟨by rfl,rfl⟩) ?_ ?_
   rotate_left
   ·simp only [Act.put,List.setIfInBounds_toArray,List.set_cons_zero,List.set_cons_succ]
    rfl
   refine pure_ (i:=12) (N:=some 58) (v:=undef) (a':=?_) #[tt,tt,tt,tt,tt,tt,tt,tt,tt,tt,tt,tt,tt,ff,ff] rfl rfl (any_of HT_.out (by kernel_rfl)) (fun _ _ _ h=>h) (Or.inr ⟨by rfl,rfl⟩) ?_ ?_
   rotate_left
   ·simp only [Act.put,List.setIfInBounds_toArray,List.set_cons_zero,List.set_cons_succ]
    rfl
   refine pure_ (i:=13) (N:=some 59) (v:=undef) (a':=?_) #[tt,tt,tt,tt,tt,tt,tt,tt,tt,tt,tt,tt,tt,tt,ff] rfl rfl (any_of HT_.out (by kernel_rfl)) (fun _ _ _ h=>h) (Or.inr ⟨by rfl,rfl⟩) ?_ ?_
   rotate_left
   ·simp only [Act.put,List.setIfInBounds_toArray,List.set_cons_zero,List.set_cons_succ]
    rfl
   refine pure_ (i:=14) (N:=some 60) (v:=?_) (a':=?_) #[tt,tt,tt,tt,tt,tt,tt,tt,tt,tt,tt,tt,tt,tt,tt] rfl rfl (any_of HT_.out (by kernel_rfl)) (fun _ _ _ h=>h) (Or.inl ⟨by rfl,?_⟩) ?_ ?_
   rotate_left
   ·intro w'
    go_simp
    with_reducible rfl
   rotate_left
   ·simp only [Act.put,List.setIfInBounds_toArray,List.set_cons_zero,List.set_cons_succ]
    rfl
   refine done_ (done_of HT_.out (by kernel_rfl)) ?_
   clear b_c b_v b_s hB
   obtain⟨b_c,b_v,b_s,hB⟩:=hHeld
   try go_wp2
   go_ret
   exact⟨rfl,hB⟩
  ·have x0:decide (b0 > wrap64 (a0_4-65536))=false:=decide_eq_false (by omega)
   have x1:decide (b0 > IntKind.i64.wrap (a0_4-65536))=false:=by rw [i64_w];exact x0
   by_cases x2:b0 > 144115188075855872
   ·have x3:decide (b0 > 144115188075855872)=true:=decide_eq_true (by omega)
    refine start2_ (n:=15) (S:=fun w'=>Bk w' g_c #[.int .i64 a0_0,.int .i64 a0_1,.int .i64 a0_2,.int .i64 a0_3,.int .i64 a0_4] 24∧Bk w' g_v #[.int .i64 a1_0,.int .i64 a1_1,.int .i64 a1_2] 22∧Bk w' g_s #[.int .i64 n0,.int .i64 n1,.int .i64 n2] 22∧Bel w w') (ds:=[]) #[ff,ff,ff,ff,ff,ff,ff,ff,ff,ff,ff,ff,ff,ff,ff] (by kernel_rfl) rfl rfl outriggerlaw18_SenseBack.tab8 outriggerlaw18_SenseBack.bits8 ⟨Bk.drew (Bk.far (Bk.far (Bk.far b_c ne_c_s 0 (.int .i64 n0)) ne_c_s 1 (.int .i64 n1)) ne_c_s 2 (.int .i64 n2)),Bk.drew (Bk.far (Bk.far (Bk.far b_v ne_v_s 0 (.int .i64 n0)) ne_v_s 1 (.int .i64 n1)) ne_v_s 2 (.int .i64 n2)),Bk.drew (Bk.put (Bk.put (Bk.put b_s 0 (.int .i64 n0) rfl) 1 (.int .i64 n1) rfl) 2 (.int .i64 n2) rfl),Bel.drew (Bel.set (Bel.set (Bel.set hB l_s 0 (.int .i64 n0)) l_s 1 (.int .i64 n1)) l_s 2 (.int .i64 n2))⟩ (fun wn hHeld HT_ HW_=>?_)
    refine pure_ (i:=0) (N:=some 46) (v:=?_) (a':=?_) #[tt,ff,ff,ff,ff,ff,ff,ff,ff,ff,ff,ff,ff,ff,ff] rfl rfl (any_of HT_.out (by kernel_rfl)) (fun _ _ _ h=>h) (Or.inl ⟨by rfl,?_⟩) ?_ ?_
    rotate_left
    ·intro w'
     go_simp
     with_reducible rfl
    rotate_left
    ·simp only [Act.put,List.setIfInBounds_toArray,List.set_cons_zero,List.set_cons_succ]
     rfl
    refine pure_ (i:=1) (N:=some 47) (v:=?_) (a':=?_) #[tt,tt,ff,ff,ff,ff,ff,ff,ff,ff,ff,ff,ff,ff,ff] rfl rfl (any_of HT_.out (by kernel_rfl)) (fun _ _ _ h=>h) (Or.inl ⟨by rfl,?_⟩) ?_ ?_
    rotate_left
    ·intro w'
     go_simp
     with_reducible rfl
    rotate_left
    ·simp only [Act.put,List.setIfInBounds_toArray,List.set_cons_zero,List.set_cons_succ]
     rfl
    refine take_ (i:=2) (N:=some 48) (v:=?_) (a':=?_) #[tt,tt,tt,ff,ff,ff,ff,ff,ff,ff,ff,ff,ff,ff,ff] rfl rfl (take_ofW HT_.out HW_.out (by kernel_rfl)) (fun _ _ _ h=>h) (Or.inl ⟨by rfl,?_⟩) hHeld ?_ ?_
    rotate_left
    ·rintro w' ⟨s0,s1,s2,s3⟩
     have c_v0:World.cell? w' ⟨g_v,0,none⟩=some (.int .i64 a1_0):=(Bk.cell s1 0).trans rfl
     have c_v1:World.cell? w' ⟨g_v,1,none⟩=some (.int .i64 a1_1):=(Bk.cell s1 1).trans rfl
     have c_v2:World.cell? w' ⟨g_v,2,none⟩=some (.int .i64 a1_2):=(Bk.cell s1 2).trans rfl
     go_simp
     with_reducible rfl
    rotate_left
    ·simp only [Act.put,List.setIfInBounds_toArray,List.set_cons_zero,List.set_cons_succ]
     rfl
    refine pure_ (i:=4) (N:=some 50) (v:=?_) (a':=?_) #[tt,tt,tt,ff,tt,ff,ff,ff,ff,ff,ff,ff,ff,ff,ff] rfl rfl (any_of HT_.out (by kernel_rfl)) (fun _ _ _ h=>h) (Or.inl ⟨by rfl,?_⟩) ?_ ?_
    rotate_left
    ·intro w'
     go_simp
     with_reducible rfl
    rotate_left
    ·simp only [Act.put,List.setIfInBounds_toArray,List.set_cons_zero,List.set_cons_succ]
     rfl
    refine take_ (i:=5) (N:=some 51) (v:=?_) (a':=?_) #[tt,tt,tt,ff,tt,tt,ff,ff,ff,ff,ff,ff,ff,ff,ff] rfl rfl (take_ofW HT_.out HW_.out (by kernel_rfl)) (fun _ _ _ h=>h) (Or.inl ⟨by rfl,?_⟩) hHeld ?_ ?_
    rotate_left
    ·rintro w' ⟨s0,s1,s2,s3⟩
     have c_c0:World.cell? w' ⟨g_c,0,none⟩=some (.int .i64 a0_0):=(Bk.cell s0 0).trans rfl
     have c_c1:World.cell? w' ⟨g_c,1,none⟩=some (.int .i64 a0_1):=(Bk.cell s0 1).trans rfl
     have c_c2:World.cell? w' ⟨g_c,2,none⟩=some (.int .i64 a0_2):=(Bk.cell s0 2).trans rfl
     have c_c3:World.cell? w' ⟨g_c,3,none⟩=some (.int .i64 a0_3):=(Bk.cell s0 3).trans rfl
     have c_c4:World.cell? w' ⟨g_c,4,none⟩=some (.int .i64 a0_4):=(Bk.cell s0 4).trans rfl
     go_simp
     with_reducible rfl
    rotate_left
    ·simp only [Act.put,List.setIfInBounds_toArray,List.set_cons_zero,List.set_cons_succ]
     rfl
    refine pure_ (i:=6) (N:=some 52) (v:=?_) (a':=?_) #[tt,tt,tt,ff,tt,tt,tt,ff,ff,ff,ff,ff,ff,ff,ff] rfl rfl (any_of HT_.out (by kernel_rfl)) (fun _ _ _ h=>h) (Or.inl ⟨by rfl,?_⟩) ?_ ?_
    rotate_left
    ·intro w'
     go_simp
     with_reducible rfl
    rotate_left
    ·simp only [Act.put,List.setIfInBounds_toArray,List.set_cons_zero,List.set_cons_succ]
     rfl
    refine one_ (i:=3) (N:=some 49) #[tt,tt,tt,tt,tt,tt,tt,ff,ff,ff,ff,ff,ff,ff,ff] rfl rfl (one_of HT_.out (by kernel_rfl)) (by decide) (fun K hK=>?_)
    obtain⟨s0,s1,s2,s3⟩:=hHeld
    refine goes_ (N:=some 49) Try.func17 (by kernel_rfl) rfl #[.int .i64 a1_0] (by rfl) rfl rfl (by (try simp only [List.map_toArray,List.map_cons,List.map_nil]);first|done|rfl) ?_
    refine(fix_Abs.calls a1_0 _ _ B0.out).mono ?_
    rintro e wn ⟨rfl,hb⟩
    refine⟨_,rfl,?_⟩
    refine hK.out _ _ ⟨Bk.below s0 hb,Bk.below s1 hb,Bk.below s2 hb,Bel.step s3 hb⟩ (fun hHeld=>?_)
    clear hK K
    refine norm_ (a':=?_) ?_ ?_
    rotate_left
    ·simp only [Act.put,List.setIfInBounds_toArray,List.set_cons_zero,List.set_cons_succ]
     rfl
    refine pure_ (i:=7) (N:=some 53) (v:=?_) (a':=?_) #[tt,tt,tt,tt,tt,tt,tt,tt,ff,ff,ff,ff,ff,ff,ff] rfl rfl (any_of HT_.out (by kernel_rfl)) (fun _ _ _ h=>h) (Or.inl ⟨by rfl,?_⟩) ?_ ?_
    rotate_left
    ·intro w'
     go_simp
     with_reducible rfl
    rotate_left
    ·simp only [Act.put,List.setIfInBounds_toArray,List.set_cons_zero,List.set_cons_succ]
     rfl
    refine pure_ (i:=8) (N:=some 54) (v:=?_) (a':=?_) #[tt,tt,tt,tt,tt,tt,tt,tt,tt,ff,ff,ff,ff,ff,ff] rfl rfl (any_of HT_.out (by kernel_rfl)) (fun _ _ _ h=>h) (Or.inl ⟨by rfl,?_⟩) ?_ ?_
    rotate_left
    ·intro w'
     go_simp
     with_reducible rfl
    rotate_left
    ·simp only [Act.put,List.setIfInBounds_toArray,List.set_cons_zero,List.set_cons_succ]
     rfl
    refine pure_ (i:=9) (N:=some 55) (v:=?_) (a':=?_) #[tt,tt,tt,tt,tt,tt,tt,tt,tt,tt,ff,ff,ff,ff,ff] rfl rfl (any_of HT_.out (by kernel_rfl)) (fun _ _ _ h=>h) (Or.inl ⟨by rfl,?_⟩) ?_ ?_
    rotate_left
    ·intro w'
     go_simp
     with_reducible rfl
    rotate_left
    ·simp only [Act.put,List.setIfInBounds_toArray,List.set_cons_zero,List.set_cons_succ]
     rfl
    refine pure_ (i:=10) (N:=some 56) (v:=?_) (a':=?_) #[tt,tt,tt,tt,tt,tt,tt,tt,tt,tt,tt,ff,ff,ff,ff] rfl rfl (any_of HT_.out (by kernel_rfl)) (fun _ _ _ h=>h) (Or.inl ⟨by rfl,?_⟩) ?_ ?_
    rotate_left
    ·intro w'
     go_simp
     with_reducible rfl
    rotate_left
    ·simp only [Act.put,List.setIfInBounds_toArray,List.set_cons_zero,List.set_cons_succ]
     rfl
    refine take_ (i:=11) (N:=some 57) (v:=?_) (a':=?_) #[tt,tt,tt,tt,tt,tt,tt,tt,tt,tt,tt,tt,ff,ff,ff] rfl rfl (take_ofW HT_.out HW_.out (by kernel_rfl)) (fun _ _ _ h=>h) (Or.inl ⟨by rfl,?_⟩) hHeld ?_ ?_
    rotate_left
    ·rintro w' ⟨s0,s1,s2,s3⟩
     have c_v0:World.cell? w' ⟨g_v,0,none⟩=some (.int .i64 a1_0):=(Bk.cell s1 0).trans rfl
     have c_v1:World.cell? w' ⟨g_v,1,none⟩=some (.int .i64 a1_1):=(Bk.cell s1 1).trans rfl
     have c_v2:World.cell? w' ⟨g_v,2,none⟩=some (.int .i64 a1_2):=(Bk.cell s1 2).trans rfl
     go_simp
     with_reducible rfl
    rotate_left
    ·simp only [Act.put,List.setIfInBounds_toArray,List.set_cons_zero,List.set_cons_succ]
     rfl
    refine one_ (i:=12) (N:=some 58) #[tt,tt,tt,tt,tt,tt,tt,tt,tt,tt,tt,tt,tt,ff,ff] rfl rfl (one_of HT_.out (by kernel_rfl)) (by decide) (fun K hK=>?_)
    obtain⟨s0,s1,s2,s3⟩:=hHeld
    refine goes_ (N:=some 58) Try.func17 (by kernel_rfl) rfl #[.int .i64 a1_0] (by rfl) rfl rfl (by (try simp only [List.map_toArray,List.map_cons,List.map_nil]);first|done|rfl) ?_
    refine(fix_Abs.calls a1_0 _ _ B0.out).mono ?_
    rintro e wn ⟨rfl,hb⟩
    refine⟨_,rfl,?_⟩
    refine hK.out _ _ ⟨Bk.below s0 hb,Bk.below s1 hb,Bk.below s2 hb,Bel.step s3 hb⟩ (fun hHeld=>?_)
    clear hK K
    refine norm_ (a':=?_) ?_ ?_
    rotate_left
    ·simp only [Act.put,List.setIfInBounds_toArray,List.set_cons_zero,List.set_cons_succ]
     rfl
    refine pure_ (i:=13) (N:=some 59) (v:=?_) (a':=?_) #[tt,tt,tt,tt,tt,tt,tt,tt,tt,tt,tt,tt,tt,tt,ff] rfl rfl (any_of HT_.out (by kernel_rfl)) (fun _ _ _ h=>h) (Or.inl ⟨by rfl,?_⟩) ?_ ?_
    rotate_left
    ·intro w'
     go_simp
     with_reducible rfl
    rotate_left
    ·simp only [Act.put,List.setIfInBounds_toArray,List.set_cons_zero,List.set_cons_succ]
     rfl
    refine pure_ (i:=14) (N:=some 60) (v:=?_) (a':=?_) #[tt,tt,tt,tt,tt,tt,tt,tt,tt,tt,tt,tt,tt,tt,tt] rfl rfl (any_of HT_.out (by kernel_rfl)) (fun _ _ _ h=>h) (Or.inl ⟨by rfl,?_⟩) ?_ ?_
    rotate_left
    ·intro w'
     go_simp
     with_reducible rfl
    rotate_left
    ·simp only [Act.put,List.setIfInBounds_toArray,List.set_cons_zero,List.set_cons_succ]
     rfl
    refine done_ (done_of HT_.out (by kernel_rfl)) ?_
    clear b_c b_v b_s hB
    obtain⟨b_c,b_v,b_s,hB⟩:=hHeld
    try go_wp2
    go_ret
    exact⟨rfl,hB⟩
   ·have x3:decide (b0 > 144115188075855872)=false:=decide_eq_false (by omega)
    refine start2_ (n:=15) (S:=fun w'=>Bk w' g_c #[.int .i64 a0_0,.int .i64 a0_1,.int .i64 a0_2,.int .i64 a0_3,.int .i64 a0_4] 24∧Bk w' g_v #[.int .i64 a1_0,.int .i64 a1_1,.int .i64 a1_2] 22∧Bk w' g_s #[.int .i64 n0,.int .i64 n1,.int .i64 n2] 22∧Bel w w') (ds:=[]) #[ff,ff,ff,ff,ff,ff,ff,ff,ff,ff,ff,ff,ff,ff,ff] (by kernel_rfl) rfl rfl outriggerlaw18_SenseBack.tab8 outriggerlaw18_SenseBack.bits8 ⟨Bk.drew (Bk.far (Bk.far (Bk.far b_c ne_c_s 0 (.int .i64 n0)) ne_c_s 1 (.int .i64 n1)) ne_c_s 2 (.int .i64 n2)),Bk.drew (Bk.far (Bk.far (Bk.far b_v ne_v_s 0 (.int .i64 n0)) ne_v_s 1 (.int .i64 n1)) ne_v_s 2 (.int .i64 n2)),Bk.drew (Bk.put (Bk.put (Bk.put b_s 0 (.int .i64 n0) rfl) 1 (.int .i64 n1) rfl) 2 (.int .i64 n2) rfl),Bel.drew (Bel.set (Bel.set (Bel.set hB l_s 0 (.int .i64 n0)) l_s 1 (.int .i64 n1)) l_s 2 (.int .i64 n2))⟩ (fun wn hHeld HT_ HW_=>?_)
    refine pure_ (i:=0) (N:=some 46) (v:=?_) (a':=?_) #[tt,ff,ff,ff,ff,ff,ff,ff,ff,ff,ff,ff,ff,ff,ff] rfl rfl (any_of HT_.out (by kernel_rfl)) (fun _ _ _ h=>h) (Or.inl ⟨by rfl,?_⟩) ?_ ?_
    rotate_left
    ·intro w'
     go_simp
     with_reducible rfl
    rotate_left
    ·simp only [Act.put,List.setIfInBounds_toArray,List.set_cons_zero,List.set_cons_succ]
     rfl
    refine pure_ (i:=1) (N:=some 47) (v:=?_) (a':=?_) #[tt,tt,ff,ff,ff,ff,ff,ff,ff,ff,ff,ff,ff,ff,ff] rfl rfl (any_of HT_.out (by kernel_rfl)) (fun _ _ _ h=>h) (Or.inl ⟨by rfl,?_⟩) ?_ ?_
    rotate_left
    ·intro w'
     go_simp
     with_reducible rfl
    rotate_left
    ·simp only [Act.put,List.setIfInBounds_toArray,List.set_cons_zero,List.set_cons_succ]
     rfl
    refine take_ (i:=2) (N:=some 48) (v:=?_) (a':=?_) #[tt,tt,tt,ff,ff,ff,ff,ff,ff,ff,ff,ff,ff,ff,ff] rfl rfl (take_ofW HT_.out HW_.out (by kernel_rfl)) (fun _ _ _ h=>h) (Or.inl ⟨by rfl,?_⟩) hHeld ?_ ?_
    rotate_left
    ·rintro w' ⟨s0,s1,s2,s3⟩
     have c_v0:World.cell? w' ⟨g_v,0,none⟩=some (.int .i64 a1_0):=(Bk.cell s1 0).trans rfl
     have c_v1:World.cell? w' ⟨g_v,1,none⟩=some (.int .i64 a1_1):=(Bk.cell s1 1).trans rfl
     have c_v2:World.cell? w' ⟨g_v,2,none⟩=some (.int .i64 a1_2):=(Bk.cell s1 2).trans rfl
     go_simp
     with_reducible rfl
    rotate_left
    ·simp only [Act.put,List.setIfInBounds_toArray,List.set_cons_zero,List.set_cons_succ]
     rfl
    refine pure_ (i:=4) (N:=some 50) (v:=?_) (a':=?_) #[tt,tt,tt,ff,tt,ff,ff,ff,ff,ff,ff,ff,ff,ff,ff] rfl rfl (any_of HT_.out (by kernel_rfl)) (fun _ _ _ h=>h) (Or.inl ⟨by rfl,?_⟩) ?_ ?_
    rotate_left
    ·intro w'
     go_simp
     with_reducible rfl
    rotate_left
    ·simp only [Act.put,List.setIfInBounds_toArray,List.set_cons_zero,List.set_cons_succ]
     rfl
    refine take_ (i:=5) (N:=some 51) (v:=?_) (a':=?_) #[tt,tt,tt,ff,tt,tt,ff,ff,ff,ff,ff,ff,ff,ff,ff] rfl rfl (take_ofW HT_.out HW_.out (by kernel_rfl)) (fun _ _ _ h=>h) (Or.inl ⟨by rfl,?_⟩) hHeld ?_ ?_
    rotate_left
    ·rintro w' ⟨s0,s1,s2,s3⟩
     have c_c0:World.cell? w' ⟨g_c,0,none⟩=some (.int .i64 a0_0):=(Bk.cell s0 0).trans rfl
     have c_c1:World.cell? w' ⟨g_c,1,none⟩=some (.int .i64 a0_1):=(Bk.cell s0 1).trans rfl
     have c_c2:World.cell? w' ⟨g_c,2,none⟩=some (.int .i64 a0_2):=(Bk.cell s0 2).trans rfl
     have c_c3:World.cell? w' ⟨g_c,3,none⟩=some (.int .i64 a0_3):=(Bk.cell s0 3).trans rfl
     have c_c4:World.cell? w' ⟨g_c,4,none⟩=some (.int .i64 a0_4):=(Bk.cell s0 4).trans rfl
     go_simp
     with_reducible rfl
    rotate_left
    ·simp only [Act.put,List.setIfInBounds_toArray,List.set_cons_zero,List.set_cons_succ]
     rfl
    refine pure_ (i:=6) (N:=some 52) (v:=?_) (a':=?_) #[tt,tt,tt,ff,tt,tt,tt,ff,ff,ff,ff,ff,ff,ff,ff] rfl rfl (any_of HT_.out (by kernel_rfl)) (fun _ _ _ h=>h) (Or.inl ⟨by rfl,?_⟩) ?_ ?_
    rotate_left
    ·intro w'
     go_simp
     with_reducible rfl
    rotate_left
    ·simp only [Act.put,List.setIfInBounds_toArray,List.set_cons_zero,List.set_cons_succ]
     rfl
    refine one_ (i:=3) (N:=some 49) #[tt,tt,tt,tt,tt,tt,tt,ff,ff,ff,ff,ff,ff,ff,ff] rfl rfl (one_of HT_.out (by kernel_rfl)) (by decide) (fun K hK=>?_)
    obtain⟨s0,s1,s2,s3⟩:=hHeld
    refine goes_ (N:=some 49) Try.func17 (by kernel_rfl) rfl #[.int .i64 a1_0] (by rfl) rfl rfl (by (try simp only [List.map_toArray,List.map_cons,List.map_nil]);first|done|rfl) ?_
    refine(fix_Abs.calls a1_0 _ _ B0.out).mono ?_
    rintro e wn ⟨rfl,hb⟩
    refine⟨_,rfl,?_⟩
    refine hK.out _ _ ⟨Bk.below s0 hb,Bk.below s1 hb,Bk.below s2 hb,Bel.step s3 hb⟩ (fun hHeld=>?_)
    clear hK K
    refine norm_ (a':=?_) ?_ ?_
    rotate_left
    ·simp only [Act.put,List.setIfInBounds_toArray,List.set_cons_zero,List.set_cons_succ]
     rfl
    refine pure_ (i:=7) (N:=some 53) (v:=?_) (a':=?_) #[tt,tt,tt,tt,tt,tt,tt,tt,ff,ff,ff,ff,ff,ff,ff] rfl rfl (any_of HT_.out (by kernel_rfl)) (fun _ _ _ h=>h) (Or.inl ⟨by rfl,?_⟩) ?_ ?_
    rotate_left
    ·intro w'
     go_simp
     with_reducible rfl
    rotate_left
    ·simp only [Act.put,List.setIfInBounds_toArray,List.set_cons_zero,List.set_cons_succ]
     rfl
    refine pure_ (i:=8) (N:=some 54) (v:=?_) (a':=?_) #[tt,tt,tt,tt,tt,tt,tt,tt,tt,ff,ff,ff,ff,ff,ff] rfl rfl (any_of HT_.out (by kernel_rfl)) (fun _ _ _ h=>h) (Or.inl ⟨by rfl,?_⟩) ?_ ?_
    rotate_left
    ·intro w'
     go_simp
     with_reducible rfl
    rotate_left
    ·simp only [Act.put,List.setIfInBounds_toArray,List.set_cons_zero,List.set_cons_succ]
     rfl
    refine pure_ (i:=9) (N:=some 55) (v:=?_) (a':=?_) #[tt,tt,tt,tt,tt,tt,tt,tt,tt,tt,ff,ff,ff,ff,ff] rfl rfl (any_of HT_.out (by kernel_rfl)) (fun _ _ _ h=>h) (Or.inl ⟨by rfl,?_⟩) ?_ ?_
    rotate_left
    ·intro w'
     go_simp
     with_reducible rfl
    rotate_left
    ·simp only [Act.put,List.setIfInBounds_toArray,List.set_cons_zero,List.set_cons_succ]
     rfl
    refine pure_ (i:=10) (N:=some 56) (v:=?_) (a':=?_) #[tt,tt,tt,tt,tt,tt,tt,tt,tt,tt,tt,ff,ff,ff,ff] rfl rfl (any_of HT_.out (by kernel_rfl)) (fun _ _ _ h=>h) (Or.inl ⟨by rfl,?_⟩) ?_ ?_
    rotate_left
    ·intro w'
     go_simp
     with_reducible rfl
    rotate_left
    ·simp only [Act.put,List.setIfInBounds_toArray,List.set_cons_zero,List.set_cons_succ]
     rfl
    refine take_ (i:=11) (N:=some 57) (v:=?_) (a':=?_) #[tt,tt,tt,tt,tt,tt,tt,tt,tt,tt,tt,tt,ff,ff,ff] rfl rfl (take_ofW HT_.out HW_.out (by kernel_rfl)) (fun _ _ _ h=>h) (Or.inl ⟨by rfl,?_⟩) hHeld ?_ ?_
    rotate_left
    ·rintro w' ⟨s0,s1,s2,s3⟩
     have c_v0:World.cell? w' ⟨g_v,0,none⟩=some (.int .i64 a1_0):=(Bk.cell s1 0).trans rfl
     have c_v1:World.cell? w' ⟨g_v,1,none⟩=some (.int .i64 a1_1):=(Bk.cell s1 1).trans rfl
     have c_v2:World.cell? w' ⟨g_v,2,none⟩=some (.int .i64 a1_2):=(Bk.cell s1 2).trans rfl
     go_simp
     with_reducible rfl
    rotate_left
    ·simp only [Act.put,List.setIfInBounds_toArray,List.set_cons_zero,List.set_cons_succ]
     rfl
    refine one_ (i:=12) (N:=some 58) #[tt,tt,tt,tt,tt,tt,tt,tt,tt,tt,tt,tt,tt,ff,ff] rfl rfl (one_of HT_.out (by kernel_rfl)) (by decide) (fun K hK=>?_)
    obtain⟨s0,s1,s2,s3⟩:=hHeld
    refine goes_ (N:=some 58) Try.func17 (by kernel_rfl) rfl #[.int .i64 a1_0] (by rfl) rfl rfl (by (try simp only [List.map_toArray,List.map_cons,List.map_nil]);first|done|rfl) ?_
    refine(fix_Abs.calls a1_0 _ _ B0.out).mono ?_
    rintro e wn ⟨rfl,hb⟩
    refine⟨_,rfl,?_⟩
    refine hK.out _ _ ⟨Bk.below s0 hb,Bk.below s1 hb,Bk.below s2 hb,Bel.step s3 hb⟩ (fun hHeld=>?_)
    clear hK K
    refine norm_ (a':=?_) ?_ ?_
    rotate_left
    ·simp only [Act.put,List.setIfInBounds_toArray,List.set_cons_zero,List.set_cons_succ]
     rfl
    refine pure_ (i:=13) (N:=some 59) (v:=?_) (a':=?_) #[tt,tt,tt,tt,tt,tt,tt,tt,tt,tt,tt,tt,tt,tt,ff] rfl rfl (any_of HT_.out (by kernel_rfl)) (fun _ _ _ h=>h) (Or.inl ⟨by rfl,?_⟩) ?_ ?_
    rotate_left
    ·intro w'
     go_simp
     with_reducible rfl
    rotate_left
    ·simp only [Act.put,List.setIfInBounds_toArray,List.set_cons_zero,List.set_cons_succ]
     rfl
    refine pure_ (i:=14) (N:=some 60) (v:=?_) (a':=?_) #[tt,tt,tt,tt,tt,tt,tt,tt,tt,tt,tt,tt,tt,tt,tt] rfl rfl (any_of HT_.out (by kernel_rfl)) (fun _ _ _ h=>h) (Or.inl ⟨by rfl,?_⟩) ?_ ?_
    rotate_left
    ·intro w'
     go_simp
     with_reducible rfl
    rotate_left
    ·simp only [Act.put,List.setIfInBounds_toArray,List.set_cons_zero,List.set_cons_succ]
     rfl
    refine done_ (done_of HT_.out (by kernel_rfl)) ?_
    clear b_c b_v b_s hB
    obtain⟨b_c,b_v,b_s,hB⟩:=hHeld
    go_wp2
    clear x0 x1 x3
    rcases e0 with _|_
    ·refine start2_ (n:=13) (S:=fun w'=>Bk w' g_c #[.int .i64 a0_0,.int .i64 a0_1,.int .i64 a0_2,.int .i64 a0_3,.int .i64 a0_4] 24∧Bk w' g_v #[.int .i64 a1_0,.int .i64 a1_1,.int .i64 a1_2] 22∧Bk w' g_s #[.int .i64 n0,.int .i64 n1,.int .i64 n2] 22∧Bel w w') (ds:=[]) #[ff,ff,ff,ff,ff,ff,ff,ff,ff,ff,ff,ff,ff] (by kernel_rfl) rfl rfl outriggerlaw18_SenseBack.tab10 outriggerlaw18_SenseBack.bits10 ⟨Bk.drew b_c,Bk.drew b_v,Bk.drew b_s,Bel.drew hB⟩ (fun wn hHeld HT_ HW_=>?_)
     refine pure_ (i:=0) (N:=some 63) (v:=?_) (a':=?_) #[tt,ff,ff,ff,ff,ff,ff,ff,ff,ff,ff,ff,ff] rfl rfl (any_of HT_.out (by kernel_rfl)) (fun _ _ _ h=>h) (Or.inl ⟨by rfl,?_⟩) ?_ ?_
     rotate_left
     ·intro w'
      go_simp
      with_reducible rfl
     rotate_left
     ·simp only [Act.put,List.setIfInBounds_toArray,List.set_cons_zero,List.set_cons_succ]
      rfl
     refine pure_ (i:=1) (N:=some 64) (v:=?_) (a':=?_) #[tt,tt,ff,ff,ff,ff,ff,ff,ff,ff,ff,ff,ff] rfl rfl (any_of HT_.out (by kernel_rfl)) (fun _ _ _ h=>h) (Or.inl ⟨by rfl,?_⟩) ?_ ?_
     rotate_left
     ·intro w'
      go_simp
      with_reducible rfl
     rotate_left
     ·simp only [Act.put,List.setIfInBounds_toArray,List.set_cons_zero,List.set_cons_succ]
      rfl
     refine take_ (i:=2) (N:=some 65) (v:=?_) (a':=?_) #[tt,tt,tt,ff,ff,ff,ff,ff,ff,ff,ff,ff,ff] rfl rfl (take_ofW HT_.out HW_.out (by kernel_rfl)) (fun _ _ _ h=>h) (Or.inl ⟨by rfl,?_⟩) hHeld ?_ ?_
     rotate_left
     ·rintro w' ⟨s0,s1,s2,s3⟩
      have c_s0:World.cell? w' ⟨g_s,0,none⟩=some (.int .i64 n0):=(Bk.cell s2 0).trans rfl
      have c_s1:World.cell? w' ⟨g_s,1,none⟩=some (.int .i64 n1):=(Bk.cell s2 1).trans rfl
      have c_s2:World.cell? w' ⟨g_s,2,none⟩=some (.int .i64 n2):=(Bk.cell s2 2).trans rfl
      go_simp
      with_reducible rfl
     rotate_left
     ·simp only [Act.put,List.setIfInBounds_toArray,List.set_cons_zero,List.set_cons_succ]
      rfl
     refine pure_ (i:=3) (N:=some 66) (v:=?_) (a':=?_) #[tt,tt,tt,tt,ff,ff,ff,ff,ff,ff,ff,ff,ff] rfl rfl (any_of HT_.out (by kernel_rfl)) (fun _ _ _ h=>h) (Or.inl ⟨by rfl,?_⟩) ?_ ?_
     rotate_left
     ·intro w'
      go_simp
      with_reducible rfl
     rotate_left
     ·simp only [Act.put,List.setIfInBounds_toArray,List.set_cons_zero,List.set_cons_succ]
      rfl
     refine pure_ (i:=4) (N:=some 67) (v:=?_) (a':=?_) #[tt,tt,tt,tt,tt,ff,ff,ff,ff,ff,ff,ff,ff] rfl rfl (any_of HT_.out (by kernel_rfl)) (fun _ _ _ h=>h) (Or.inl ⟨by rfl,?_⟩) ?_ ?_
     rotate_left
     ·intro w'
      go_simp
      with_reducible rfl
     rotate_left
     ·simp only [Act.put,List.setIfInBounds_toArray,List.set_cons_zero,List.set_cons_succ]
      rfl
     refine pure_ (i:=5) (N:=some 68) (v:=?_) (a':=?_) #[tt,tt,tt,tt,tt,tt,ff,ff,ff,ff,ff,ff,ff] rfl rfl (any_of HT_.out (by kernel_rfl)) (fun _ _ _ h=>h) (Or.inl ⟨by rfl,?_⟩) ?_ ?_
     rotate_left
     ·intro w'
      go_simp
      with_reducible rfl
     rotate_left
     ·simp only [Act.put,List.setIfInBounds_toArray,List.set_cons_zero,List.set_cons_succ]
      rfl
     refine take_ (i:=6) (N:=some 69) (v:=?_) (a':=?_) #[tt,tt,tt,tt,tt,tt,tt,ff,ff,ff,ff,ff,ff] rfl rfl (take_ofW HT_.out HW_.out (by kernel_rfl)) (fun _ _ _ h=>h) (Or.inl ⟨by rfl,?_⟩) hHeld ?_ ?_
     rotate_left
     ·rintro w' ⟨s0,s1,s2,s3⟩
      have c_c0:World.cell? w' ⟨g_c,0,none⟩=some (.int .i64 a0_0):=(Bk.cell s0 0).trans rfl
      have c_c1:World.cell? w' ⟨g_c,1,none⟩=some (.int .i64 a0_1):=(Bk.cell s0 1).trans rfl
      have c_c2:World.cell? w' ⟨g_c,2,none⟩=some (.int .i64 a0_2):=(Bk.cell s0 2).trans rfl
      have c_c3:World.cell? w' ⟨g_c,3,none⟩=some (.int .i64 a0_3):=(Bk.cell s0 3).trans rfl
      have c_c4:World.cell? w' ⟨g_c,4,none⟩=some (.int .i64 a0_4):=(Bk.cell s0 4).trans rfl
      go_simp
      with_reducible rfl
     rotate_left
     ·simp only [Act.put,List.setIfInBounds_toArray,List.set_cons_zero,List.set_cons_succ]
      rfl
     refine one_ (i:=7) (N:=some 70) #[tt,tt,tt,tt,tt,tt,tt,tt,ff,ff,ff,ff,ff] rfl rfl (one_of HT_.out (by kernel_rfl)) (by decide) (fun K hK=>?_)
     obtain⟨s0,s1,s2,s3⟩:=hHeld
     refine goes_ (N:=some 70) Try.func18 (by kernel_rfl) rfl #[.int .i64 n0,.int .i64 a0_0] (by rfl) rfl rfl (by (try simp only [List.map_toArray,List.map_cons,List.map_nil]);first|done|rfl) ?_
     refine(fix_Sub.calls n0 a0_0 _ _ _ D0.out).mono ?_
     rintro e wn ⟨rfl,hb⟩
     refine⟨_,rfl,?_⟩
     refine hK.out _ _ ⟨Bk.below s0 hb,Bk.below s1 hb,Bk.below s2 hb,Bel.step s3 hb⟩ (fun hHeld=>?_)
     clear hK K
     refine norm_ (a':=?_) ?_ ?_
     rotate_left
     ·simp only [Act.put,List.setIfInBounds_toArray,List.set_cons_zero,List.set_cons_succ]
      rfl
     refine pure_ (i:=8) (N:=some 62) (v:=?_) (a':=?_) #[tt,tt,tt,tt,tt,tt,tt,tt,tt,ff,ff,ff,ff] rfl rfl (any_of HT_.out (by kernel_rfl)) (fun _ _ _ h=>h) (Or.inl ⟨by rfl,?_⟩) ?_ ?_
     rotate_left
     ·intro w'
      go_simp
      with_reducible rfl
     rotate_left
     ·simp only [Act.put,List.setIfInBounds_toArray,List.set_cons_zero,List.set_cons_succ]
      rfl
     refine pure_ (i:=9) (N:=some 71) (v:=?_) (a':=?_) #[tt,tt,tt,tt,tt,tt,tt,tt,tt,tt,ff,ff,ff] rfl rfl (any_of HT_.out (by kernel_rfl)) (fun _ _ _ h=>h) (Or.inl ⟨by rfl,?_⟩) ?_ ?_
     rotate_left
     ·intro w'
      go_simp
      with_reducible rfl
     rotate_left
     ·simp only [Act.put,List.setIfInBounds_toArray,List.set_cons_zero,List.set_cons_succ]
      rfl
     refine pure_ (i:=10) (N:=some 72) (v:=?_) (a':=?_) #[tt,tt,tt,tt,tt,tt,tt,tt,tt,tt,tt,ff,ff] rfl rfl (any_of HT_.out (by kernel_rfl)) (fun _ _ _ h=>h) (Or.inl ⟨by rfl,?_⟩) ?_ ?_
     rotate_left
     ·intro w'
      go_simp
      with_reducible rfl
     rotate_left
     ·simp only [Act.put,List.setIfInBounds_toArray,List.set_cons_zero,List.set_cons_succ]
      rfl
     refine pure_ (i:=11) (N:=some 9) (v:=?_) (a':=?_) #[tt,tt,tt,tt,tt,tt,tt,tt,tt,tt,tt,tt,ff] rfl rfl (any_of HT_.out (by kernel_rfl)) (fun _ _ _ h=>h) (Or.inl ⟨by rfl,?_⟩) ?_ ?_
     rotate_left
     ·intro w'
      go_simp
      with_reducible rfl
     rotate_left
     ·simp only [Act.put,List.setIfInBounds_toArray,List.set_cons_zero,List.set_cons_succ]
      rfl
     refine pure_ (i:=12) (N:=some 10) (v:=?_) (a':=?_) #[tt,tt,tt,tt,tt,tt,tt,tt,tt,tt,tt,tt,tt] rfl rfl (any_of HT_.out (by kernel_rfl)) (fun _ _ _ h=>h) (Or.inl ⟨by rfl,?_⟩) ?_ ?_
     rotate_left
     ·intro w'
      go_simp
      with_reducible rfl
     rotate_left
     ·simp only [Act.put,List.setIfInBounds_toArray,List.set_cons_zero,List.set_cons_succ]
      rfl
     refine done_ (done_of HT_.out (by kernel_rfl)) ?_
     clear b_c b_v b_s hB
     obtain⟨b_c,b_v,b_s,hB⟩:=hHeld
     go_wp2
     have hx0:=Nt.mk (show ¬b0 > wrap64 (a0_4-65536) by omega)
     have hy0:=Nt.mk (show ¬b0 > 144115188075855872 by omega)
     clear x x2
     rw [rounds_succ]
     go_wp2
     by_cases x:b1 > wrap64 (a0_4-65536)
     ·have x0:decide (b1 > wrap64 (a0_4-65536))=true:=decide_eq_true (by omega)
      have x1:decide (b1 > IntKind.i64.wrap (a0_4-65536))=true:=by rw [i64_w];exact x0
      refine start2_ (n:=15) (S:=fun w'=>Bk w' g_c #[.int .i64 a0_0,.int .i64 a0_1,.int .i64 a0_2,.int .i64 a0_3,.int .i64 a0_4] 24∧Bk w' g_v #[.int .i64 a1_0,.int .i64 a1_1,.int .i64 a1_2] 22∧Bk w' g_s #[.int .i64 n0,.int .i64 n1,.int .i64 n2] 22∧Bel w w') (ds:=[]) #[ff,ff,ff,ff,ff,ff,ff,ff,ff,ff,ff,ff,ff,ff,ff] (by kernel_rfl) rfl rfl outriggerlaw18_SenseBack.tab8 outriggerlaw18_SenseBack.bits8 ⟨Bk.drew b_c,Bk.drew b_v,Bk.drew b_s,Bel.drew hB⟩ (fun wn hHeld HT_ HW_=>?_)
      refine pure_ (i:=0) (N:=some 46) (v:=?_) (a':=?_) #[tt,ff,ff,ff,ff,ff,ff,ff,ff,ff,ff,ff,ff,ff,ff] rfl rfl (any_of HT_.out (by kernel_rfl)) (fun _ _ _ h=>h) (Or.inl ⟨by rfl,?_⟩) ?_ ?_
      rotate_left
      ·intro w'
       go_simp
       with_reducible rfl
      rotate_left
      ·simp only [Act.put,List.setIfInBounds_toArray,List.set_cons_zero,List.set_cons_succ]
       rfl
      refine pure_ (i:=1) (N:=some 47) (v:=?_) (a':=?_) #[tt,tt,ff,ff,ff,ff,ff,ff,ff,ff,ff,ff,ff,ff,ff] rfl rfl (any_of HT_.out (by kernel_rfl)) (fun _ _ _ h=>h) (Or.inl ⟨by rfl,?_⟩) ?_ ?_
      rotate_left
      ·intro w'
       go_simp
       with_reducible rfl
      rotate_left
      ·simp only [Act.put,List.setIfInBounds_toArray,List.set_cons_zero,List.set_cons_succ]
       rfl
      refine take_ (i:=2) (N:=some 48) (v:=?_) (a':=?_) #[tt,tt,tt,ff,ff,ff,ff,ff,ff,ff,ff,ff,ff,ff,ff] rfl rfl (take_ofW HT_.out HW_.out (by kernel_rfl)) (fun _ _ _ h=>h) (Or.inl ⟨by rfl,?_⟩) hHeld ?_ ?_
      rotate_left
      ·rintro w' ⟨s0,s1,s2,s3⟩
       have c_v0:World.cell? w' ⟨g_v,0,none⟩=some (.int .i64 a1_0):=(Bk.cell s1 0).trans rfl
       have c_v1:World.cell? w' ⟨g_v,1,none⟩=some (.int .i64 a1_1):=(Bk.cell s1 1).trans rfl
       have c_v2:World.cell? w' ⟨g_v,2,none⟩=some (.int .i64 a1_2):=(Bk.cell s1 2).trans rfl
       go_simp
       with_reducible rfl
      rotate_left
      ·simp only [Act.put,List.setIfInBounds_toArray,List.set_cons_zero,List.set_cons_succ]
       rfl
      refine pure_ (i:=4) (N:=some 50) (v:=?_) (a':=?_) #[tt,tt,tt,ff,tt,ff,ff,ff,ff,ff,ff,ff,ff,ff,ff] rfl rfl (any_of HT_.out (by kernel_rfl)) (fun _ _ _ h=>h) (Or.inl ⟨by rfl,?_⟩) ?_ ?_
      rotate_left
      ·intro w'
       go_simp
       with_reducible rfl
      rotate_left
      ·simp only [Act.put,List.setIfInBounds_toArray,List.set_cons_zero,List.set_cons_succ]
       rfl
      refine take_ (i:=5) (N:=some 51) (v:=?_) (a':=?_) #[tt,tt,tt,ff,tt,tt,ff,ff,ff,ff,ff,ff,ff,ff,ff] rfl rfl (take_ofW HT_.out HW_.out (by kernel_rfl)) (fun _ _ _ h=>h) (Or.inl ⟨by rfl,?_⟩) hHeld ?_ ?_
      rotate_left
      ·rintro w' ⟨s0,s1,s2,s3⟩
       have c_c0:World.cell? w' ⟨g_c,0,none⟩=some (.int .i64 a0_0):=(Bk.cell s0 0).trans rfl
       have c_c1:World.cell? w' ⟨g_c,1,none⟩=some (.int .i64 a0_1):=(Bk.cell s0 1).trans rfl
       have c_c2:World.cell? w' ⟨g_c,2,none⟩=some (.int .i64 a0_2):=(Bk.cell s0 2).trans rfl
       have c_c3:World.cell? w' ⟨g_c,3,none⟩=some (.int .i64 a0_3):=(Bk.cell s0 3).trans rfl
       have c_c4:World.cell? w' ⟨g_c,4,none⟩=some (.int .i64 a0_4):=(Bk.cell s0 4).trans rfl
       go_simp
       with_reducible rfl
      rotate_left
      ·simp only [Act.put,List.setIfInBounds_toArray,List.set_cons_zero,List.set_cons_succ]
       rfl
      refine pure_ (i:=6) (N:=some 52) (v:=?_) (a':=?_) #[tt,tt,tt,ff,tt,tt,tt,ff,ff,ff,ff,ff,ff,ff,ff] rfl rfl (any_of HT_.out (by kernel_rfl)) (fun _ _ _ h=>h) (Or.inl ⟨by rfl,?_⟩) ?_ ?_
      rotate_left
      ·intro w'
       go_simp
       with_reducible rfl
      rotate_left
      ·simp only [Act.put,List.setIfInBounds_toArray,List.set_cons_zero,List.set_cons_succ]
       rfl
      refine one_ (i:=3) (N:=some 49) #[tt,tt,tt,tt,tt,tt,tt,ff,ff,ff,ff,ff,ff,ff,ff] rfl rfl (one_of HT_.out (by kernel_rfl)) (by decide) (fun K hK=>?_)
      obtain⟨s0,s1,s2,s3⟩:=hHeld
      refine goes_ (N:=some 49) Try.func17 (by kernel_rfl) rfl #[.int .i64 a1_1] (by rfl) rfl rfl (by (try simp only [List.map_toArray,List.map_cons,List.map_nil]);first|done|rfl) ?_
      refine(fix_Abs.calls a1_1 _ _ B1.out).mono ?_
      rintro e wn ⟨rfl,hb⟩
      refine⟨_,rfl,?_⟩
      refine hK.out _ _ ⟨Bk.below s0 hb,Bk.below s1 hb,Bk.below s2 hb,Bel.step s3 hb⟩ (fun hHeld=>?_)
      clear hK K
      refine norm_ (a':=?_) ?_ ?_
      rotate_left
      ·simp only [Act.put,List.setIfInBounds_toArray,List.set_cons_zero,List.set_cons_succ]
       rfl
      refine pure_ (i:=7) (N:=some 53) (v:=?_) (a':=?_) #[tt,tt,tt,tt,tt,tt,tt,tt,ff,ff,ff,ff,ff,ff,ff] rfl rfl (any_of HT_.out (by kernel_rfl)) (fun _ _ _ h=>h) (Or.inl ⟨by rfl,?_⟩) ?_ ?_
      rotate_left
      ·intro w'
       go_simp
       with_reducible rfl
      rotate_left
      ·simp only [Act.put,List.setIfInBounds_toArray,List.set_cons_zero,List.set_cons_succ]
       rfl
      refine pure_ (i:=8) (N:=some 54) (v:=?_) (a':=?_) #[tt,tt,tt,tt,tt,tt,tt,tt,tt,ff,ff,ff,ff,ff,ff] rfl rfl (any_of HT_.out (by kernel_rfl)) (fun _ _ _ h=>h) (Or.inl ⟨by rfl,?_⟩) ?_ ?_
      rotate_left
      ·intro w'
       go_simp
       with_reducible rfl
      rotate_left
      ·simp only [Act.put,List.setIfInBounds_toArray,List.set_cons_zero,List.set_cons_succ]
       rfl
      refine pure_ (i:=9) (N:=some 55) (v:=undef) (a':=?_) #[tt,tt,tt,tt,tt,tt,tt,tt,tt,tt,ff,ff,ff,ff,ff] rfl rfl (any_of HT_.out (by kernel_rfl)) (fun _ _ _ h=>h) (Or.inr ⟨by rfl,rfl⟩) ?_ ?_
      rotate_left
      ·simp only [Act.put,List.setIfInBounds_toArray,List.set_cons_zero,List.set_cons_succ]
       rfl
      refine pure_ (i:=10) (N:=some 56) (v:=undef) (a':=?_) #[tt,tt,tt,tt,tt,tt,tt,tt,tt,tt,tt,ff,ff,ff,ff] rfl rfl (any_of HT_.out (by kernel_rfl)) (fun _ _ _ h=>h) (Or.inr ⟨by rfl,rfl⟩) ?_ ?_
      rotate_left
      ·simp only [Act.put,List.setIfInBounds_toArray,List.set_cons_zero,List.set_cons_succ]
       rfl
      refine pure_ (i:=11) (N:=some 57) (v:=undef) (a':=?_) #[tt,tt,tt,tt,tt,tt,tt,tt,tt,tt,tt,tt,ff,ff,ff] rfl rfl (any_of HT_.out (by kernel_rfl)) (fun _ _ _ h=>h) (Or.inr ⟨by rfl,rfl⟩) ?_ ?_
      rotate_left
      ·simp only [Act.put,List.setIfInBounds_toArray,List.set_cons_zero,List.set_cons_succ]
       rfl
      refine pure_ (i:=12) (N:=some 58) (v:=undef) (a':=?_) #[tt,tt,tt,tt,tt,tt,tt,tt,tt,tt,tt,tt,tt,ff,ff] rfl rfl (any_of HT_.out (by kernel_rfl)) (fun _ _ _ h=>h) (Or.inr ⟨by rfl,rfl⟩) ?_ ?_
      rotate_left
      ·simp only [Act.put,List.setIfInBounds_toArray,List.set_cons_zero,List.set_cons_succ]
       rfl
      refine pure_ (i:=13) (N:=some 59) (v:=undef) (a':=?_) #[tt,tt,tt,tt,tt,tt,tt,tt,tt,tt,tt,tt,tt,tt,ff] rfl rfl (any_of HT_.out (by kernel_rfl)) (fun _ _ _ h=>h) (Or.inr ⟨by rfl,rfl⟩) ?_ ?_
      rotate_left
      ·simp only [Act.put,List.setIfInBounds_toArray,List.set_cons_zero,List.set_cons_succ]
       rfl
      refine pure_ (i:=14) (N:=some 60) (v:=?_) (a':=?_) #[tt,tt,tt,tt,tt,tt,tt,tt,tt,tt,tt,tt,tt,tt,tt] rfl rfl (any_of HT_.out (by kernel_rfl)) (fun _ _ _ h=>h) (Or.inl ⟨by rfl,?_⟩) ?_ ?_
      rotate_left
      ·intro w'
       go_simp
       with_reducible rfl
      rotate_left
      ·simp only [Act.put,List.setIfInBounds_toArray,List.set_cons_zero,List.set_cons_succ]
       rfl
      refine done_ (done_of HT_.out (by kernel_rfl)) ?_
      clear b_c b_v b_s hB
      obtain⟨b_c,b_v,b_s,hB⟩:=hHeld
      try go_wp2
      go_ret
      exact⟨rfl,hB⟩
     ·have x0:decide (b1 > wrap64 (a0_4-65536))=false:=decide_eq_false (by omega)
      have x1:decide (b1 > IntKind.i64.wrap (a0_4-65536))=false:=by rw [i64_w];exact x0
      by_cases x2:b1 > 144115188075855872
      ·have x3:decide (b1 > 144115188075855872)=true:=decide_eq_true (by omega)
       refine start2_ (n:=15) (S:=fun w'=>Bk w' g_c #[.int .i64 a0_0,.int .i64 a0_1,.int .i64 a0_2,.int .i64 a0_3,.int .i64 a0_4] 24∧Bk w' g_v #[.int .i64 a1_0,.int .i64 a1_1,.int .i64 a1_2] 22∧Bk w' g_s #[.int .i64 n0,.int .i64 n1,.int .i64 n2] 22∧Bel w w') (ds:=[]) #[ff,ff,ff,ff,ff,ff,ff,ff,ff,ff,ff,ff,ff,ff,ff] (by kernel_rfl) rfl rfl outriggerlaw18_SenseBack.tab8 outriggerlaw18_SenseBack.bits8 ⟨Bk.drew b_c,Bk.drew b_v,Bk.drew b_s,Bel.drew hB⟩ (fun wn hHeld HT_ HW_=>?_)
       refine pure_ (i:=0) (N:=some 46) (v:=?_) (a':=?_) #[tt,ff,ff,ff,ff,ff,ff,ff,ff,ff,ff,ff,ff,ff,ff] rfl rfl (any_of HT_.out (by kernel_rfl)) (fun _ _ _ h=>h) (Or.inl ⟨by rfl,?_⟩) ?_ ?_
       rotate_left
       ·intro w'
        go_simp
        with_reducible rfl
       rotate_left
       ·simp only [Act.put,List.setIfInBounds_toArray,List.set_cons_zero,List.set_cons_succ]
        rfl
       refine pure_ (i:=1) (N:=some 47) (v:=?_) (a':=?_) #[tt,tt,ff,ff,ff,ff,ff,ff,ff,ff,ff,ff,ff,ff,ff] rfl rfl (any_of HT_.out (by kernel_rfl)) (fun _ _ _ h=>h) (Or.inl ⟨by rfl,?_⟩) ?_ ?_
       rotate_left
       ·intro w'
        go_simp
        with_reducible rfl
       rotate_left
       ·simp only [Act.put,List.setIfInBounds_toArray,List.set_cons_zero,List.set_cons_succ]
        rfl
       refine take_ (i:=2) (N:=some 48) (v:=?_) (a':=?_) #[tt,tt,tt,ff,ff,ff,ff,ff,ff,ff,ff,ff,ff,ff,ff] rfl rfl (take_ofW HT_.out HW_.out (by kernel_rfl)) (fun _ _ _ h=>h) (Or.inl ⟨by rfl,?_⟩) hHeld ?_ ?_
       rotate_left
       ·rintro w' ⟨s0,s1,s2,s3⟩
        have c_v0:World.cell? w' ⟨g_v,0,none⟩=some (.int .i64 a1_0):=(Bk.cell s1 0).trans rfl
        have c_v1:World.cell? w' ⟨g_v,1,none⟩=some (.int .i64 a1_1):=(Bk.cell s1 1).trans rfl
        have c_v2:World.cell? w' ⟨g_v,2,none⟩=some (.int .i64 a1_2):=(Bk.cell s1 2).trans rfl
        go_simp
        with_reducible rfl
       rotate_left
       ·simp only [Act.put,List.setIfInBounds_toArray,List.set_cons_zero,List.set_cons_succ]
        rfl
       refine pure_ (i:=4) (N:=some 50) (v:=?_) (a':=?_) #[tt,tt,tt,ff,tt,ff,ff,ff,ff,ff,ff,ff,ff,ff,ff] rfl rfl (any_of HT_.out (by kernel_rfl)) (fun _ _ _ h=>h) (Or.inl ⟨by rfl,?_⟩) ?_ ?_
       rotate_left
       ·intro w'
        go_simp
        with_reducible rfl
       rotate_left
       ·simp only [Act.put,List.setIfInBounds_toArray,List.set_cons_zero,List.set_cons_succ]
        rfl
       refine take_ (i:=5) (N:=some 51) (v:=?_) (a':=?_) #[tt,tt,tt,ff,tt,tt,ff,ff,ff,ff,ff,ff,ff,ff,ff] rfl rfl (take_ofW HT_.out HW_.out (by kernel_rfl)) (fun _ _ _ h=>h) (Or.inl ⟨by rfl,?_⟩) hHeld ?_ ?_
       rotate_left
       ·rintro w' ⟨s0,s1,s2,s3⟩
        have c_c0:World.cell? w' ⟨g_c,0,none⟩=some (.int .i64 a0_0):=(Bk.cell s0 0).trans rfl
        have c_c1:World.cell? w' ⟨g_c,1,none⟩=some (.int .i64 a0_1):=(Bk.cell s0 1).trans rfl
        have c_c2:World.cell? w' ⟨g_c,2,none⟩=some (.int .i64 a0_2):=(Bk.cell s0 2).trans rfl
        have c_c3:World.cell? w' ⟨g_c,3,none⟩=some (.int .i64 a0_3):=(Bk.cell s0 3).trans rfl
        have c_c4:World.cell? w' ⟨g_c,4,none⟩=some (.int .i64 a0_4):=(Bk.cell s0 4).trans rfl
        go_simp
        with_reducible rfl
       rotate_left
       ·simp only [Act.put,List.setIfInBounds_toArray,List.set_cons_zero,List.set_cons_succ]
        rfl
       refine pure_ (i:=6) (N:=some 52) (v:=?_) (a':=?_) #[tt,tt,tt,ff,tt,tt,tt,ff,ff,ff,ff,ff,ff,ff,ff] rfl rfl (any_of HT_.out (by kernel_rfl)) (fun _ _ _ h=>h) (Or.inl ⟨by rfl,?_⟩) ?_ ?_
       rotate_left
       ·intro w'
        go_simp
        with_reducible rfl
       rotate_left
       ·simp only [Act.put,List.setIfInBounds_toArray,List.set_cons_zero,List.set_cons_succ]
        rfl
       refine one_ (i:=3) (N:=some 49) #[tt,tt,tt,tt,tt,tt,tt,ff,ff,ff,ff,ff,ff,ff,ff] rfl rfl (one_of HT_.out (by kernel_rfl)) (by decide) (fun K hK=>?_)
       obtain⟨s0,s1,s2,s3⟩:=hHeld
       refine goes_ (N:=some 49) Try.func17 (by kernel_rfl) rfl #[.int .i64 a1_1] (by rfl) rfl rfl (by (try simp only [List.map_toArray,List.map_cons,List.map_nil]);first|done|rfl) ?_
       refine(fix_Abs.calls a1_1 _ _ B1.out).mono ?_
       rintro e wn ⟨rfl,hb⟩
       refine⟨_,rfl,?_⟩
       refine hK.out _ _ ⟨Bk.below s0 hb,Bk.below s1 hb,Bk.below s2 hb,Bel.step s3 hb⟩ (fun hHeld=>?_)
       clear hK K
       refine norm_ (a':=?_) ?_ ?_
       rotate_left
       ·simp only [Act.put,List.setIfInBounds_toArray,List.set_cons_zero,List.set_cons_succ]
        rfl
       refine pure_ (i:=7) (N:=some 53) (v:=?_) (a':=?_) #[tt,tt,tt,tt,tt,tt,tt,tt,ff,ff,ff,ff,ff,ff,ff] rfl rfl (any_of HT_.out (by kernel_rfl)) (fun _ _ _ h=>h) (Or.inl ⟨by rfl,?_⟩) ?_ ?_
       rotate_left
       ·intro w'
        go_simp
        with_reducible rfl
       rotate_left
       ·simp only [Act.put,List.setIfInBounds_toArray,List.set_cons_zero,List.set_cons_succ]
        rfl
       refine pure_ (i:=8) (N:=some 54) (v:=?_) (a':=?_) #[tt,tt,tt,tt,tt,tt,tt,tt,tt,ff,ff,ff,ff,ff,ff] rfl rfl (any_of HT_.out (by kernel_rfl)) (fun _ _ _ h=>h) (Or.inl ⟨by rfl,?_⟩) ?_ ?_
       rotate_left
       ·intro w'
        go_simp
        with_reducible rfl
       rotate_left
       ·simp only [Act.put,List.setIfInBounds_toArray,List.set_cons_zero,List.set_cons_succ]
        rfl
       refine pure_ (i:=9) (N:=some 55) (v:=?_) (a':=?_) #[tt,tt,tt,tt,tt,tt,tt,tt,tt,tt,ff,ff,ff,ff,ff] rfl rfl (any_of HT_.out (by kernel_rfl)) (fun _ _ _ h=>h) (Or.inl ⟨by rfl,?_⟩) ?_ ?_
       rotate_left
       ·intro w'
        go_simp
        with_reducible rfl
       rotate_left
       ·simp only [Act.put,List.setIfInBounds_toArray,List.set_cons_zero,List.set_cons_succ]
        rfl
       refine pure_ (i:=10) (N:=some 56) (v:=?_) (a':=?_) #[tt,tt,tt,tt,tt,tt,tt,tt,tt,tt,tt,ff,ff,ff,ff] rfl rfl (any_of HT_.out (by kernel_rfl)) (fun _ _ _ h=>h) (Or.inl ⟨by rfl,?_⟩) ?_ ?_
       rotate_left
       ·intro w'
        go_simp
        with_reducible rfl
       rotate_left
       ·simp only [Act.put,List.setIfInBounds_toArray,List.set_cons_zero,List.set_cons_succ]
        rfl
       refine take_ (i:=11) (N:=some 57) (v:=?_) (a':=?_) #[tt,tt,tt,tt,tt,tt,tt,tt,tt,tt,tt,tt,ff,ff,ff] rfl rfl (take_ofW HT_.out HW_.out (by kernel_rfl)) (fun _ _ _ h=>h) (Or.inl ⟨by rfl,?_⟩) hHeld ?_ ?_
       rotate_left
       ·rintro w' ⟨s0,s1,s2,s3⟩
        have c_v0:World.cell? w' ⟨g_v,0,none⟩=some (.int .i64 a1_0):=(Bk.cell s1 0).trans rfl
        have c_v1:World.cell? w' ⟨g_v,1,none⟩=some (.int .i64 a1_1):=(Bk.cell s1 1).trans rfl
        have c_v2:World.cell? w' ⟨g_v,2,none⟩=some (.int .i64 a1_2):=(Bk.cell s1 2).trans rfl
        go_simp
        with_reducible rfl
       rotate_left
       ·simp only [Act.put,List.setIfInBounds_toArray,List.set_cons_zero,List.set_cons_succ]
        rfl
       refine one_ (i:=12) (N:=some 58) #[tt,tt,tt,tt,tt,tt,tt,tt,tt,tt,tt,tt,tt,ff,ff] rfl rfl (one_of HT_.out (by kernel_rfl)) (by decide) (fun K hK=>?_)
       obtain⟨s0,s1,s2,s3⟩:=hHeld
       refine goes_ (N:=some 58) Try.func17 (by kernel_rfl) rfl #[.int .i64 a1_1] (by rfl) rfl rfl (by (try simp only [List.map_toArray,List.map_cons,List.map_nil]);first|done|rfl) ?_
       refine(fix_Abs.calls a1_1 _ _ B1.out).mono ?_
       rintro e wn ⟨rfl,hb⟩
       refine⟨_,rfl,?_⟩
       refine hK.out _ _ ⟨Bk.below s0 hb,Bk.below s1 hb,Bk.below s2 hb,Bel.step s3 hb⟩ (fun hHeld=>?_)
       clear hK K
       refine norm_ (a':=?_) ?_ ?_
       rotate_left
       ·simp only [Act.put,List.setIfInBounds_toArray,List.set_cons_zero,List.set_cons_succ]
        rfl
       refine pure_ (i:=13) (N:=some 59) (v:=?_) (a':=?_) #[tt,tt,tt,tt,tt,tt,tt,tt,tt,tt,tt,tt,tt,tt,ff] rfl rfl (any_of HT_.out (by kernel_rfl)) (fun _ _ _ h=>h) (Or.inl ⟨by rfl,?_⟩) ?_ ?_
       rotate_left
       ·intro w'
        go_simp
        with_reducible rfl
       rotate_left
       ·simp only [Act.put,List.setIfInBounds_toArray,List.set_cons_zero,List.set_cons_succ]
        rfl
       refine pure_ (i:=14) (N:=some 60) (v:=?_) (a':=?_) #[tt,tt,tt,tt,tt,tt,tt,tt,tt,tt,tt,tt,tt,tt,tt] rfl rfl (any_of HT_.out (by kernel_rfl)) (fun _ _ _ h=>h) (Or.inl ⟨by rfl,?_⟩) ?_ ?_
       rotate_left
       ·intro w'
        go_simp
        with_reducible rfl
       rotate_left
       ·simp only [Act.put,List.setIfInBounds_toArray,List.set_cons_zero,List.set_cons_succ]
        rfl
       refine done_ (done_of HT_.out (by kernel_rfl)) ?_
       clear b_c b_v b_s hB
       obtain⟨b_c,b_v,b_s,hB⟩:=hHeld
       try go_wp2
       go_ret
       exact⟨rfl,hB⟩
      ·have x3:decide (b1 > 144115188075855872)=false:=decide_eq_false (by omega)
       refine start2_ (n:=15) (S:=fun w'=>Bk w' g_c #[.int .i64 a0_0,.int .i64 a0_1,.int .i64 a0_2,.int .i64 a0_3,.int .i64 a0_4] 24∧Bk w' g_v #[.int .i64 a1_0,.int .i64 a1_1,.int .i64 a1_2] 22∧Bk w' g_s #[.int .i64 n0,.int .i64 n1,.int .i64 n2] 22∧Bel w w') (ds:=[]) #[ff,ff,ff,ff,ff,ff,ff,ff,ff,ff,ff,ff,ff,ff,ff] (by kernel_rfl) rfl rfl outriggerlaw18_SenseBack.tab8 outriggerlaw18_SenseBack.bits8 ⟨Bk.drew b_c,Bk.drew b_v,Bk.drew b_s,Bel.drew hB⟩ (fun wn hHeld HT_ HW_=>?_)
       refine pure_ (i:=0) (N:=some 46) (v:=?_) (a':=?_) #[tt,ff,ff,ff,ff,ff,ff,ff,ff,ff,ff,ff,ff,ff,ff] rfl rfl (any_of HT_.out (by kernel_rfl)) (fun _ _ _ h=>h) (Or.inl ⟨by rfl,?_⟩) ?_ ?_
       rotate_left
       ·intro w'
        go_simp
        with_reducible rfl
       rotate_left
       ·simp only [Act.put,List.setIfInBounds_toArray,List.set_cons_zero,List.set_cons_succ]
        rfl
       refine pure_ (i:=1) (N:=some 47) (v:=?_) (a':=?_) #[tt,tt,ff,ff,ff,ff,ff,ff,ff,ff,ff,ff,ff,ff,ff] rfl rfl (any_of HT_.out (by kernel_rfl)) (fun _ _ _ h=>h) (Or.inl ⟨by rfl,?_⟩) ?_ ?_
       rotate_left
       ·intro w'
        go_simp
        with_reducible rfl
       rotate_left
       ·simp only [Act.put,List.setIfInBounds_toArray,List.set_cons_zero,List.set_cons_succ]
        rfl
       refine take_ (i:=2) (N:=some 48) (v:=?_) (a':=?_) #[tt,tt,tt,ff,ff,ff,ff,ff,ff,ff,ff,ff,ff,ff,ff] rfl rfl (take_ofW HT_.out HW_.out (by kernel_rfl)) (fun _ _ _ h=>h) (Or.inl ⟨by rfl,?_⟩) hHeld ?_ ?_
       rotate_left
       ·rintro w' ⟨s0,s1,s2,s3⟩
        have c_v0:World.cell? w' ⟨g_v,0,none⟩=some (.int .i64 a1_0):=(Bk.cell s1 0).trans rfl
        have c_v1:World.cell? w' ⟨g_v,1,none⟩=some (.int .i64 a1_1):=(Bk.cell s1 1).trans rfl
        have c_v2:World.cell? w' ⟨g_v,2,none⟩=some (.int .i64 a1_2):=(Bk.cell s1 2).trans rfl
        go_simp
        with_reducible rfl
       rotate_left
       ·simp only [Act.put,List.setIfInBounds_toArray,List.set_cons_zero,List.set_cons_succ]
        rfl
       refine pure_ (i:=4) (N:=some 50) (v:=?_) (a':=?_) #[tt,tt,tt,ff,tt,ff,ff,ff,ff,ff,ff,ff,ff,ff,ff] rfl rfl (any_of HT_.out (by kernel_rfl)) (fun _ _ _ h=>h) (Or.inl ⟨by rfl,?_⟩) ?_ ?_
       rotate_left
       ·intro w'
        go_simp
        with_reducible rfl
       rotate_left
       ·simp only [Act.put,List.setIfInBounds_toArray,List.set_cons_zero,List.set_cons_succ]
        rfl
       refine take_ (i:=5) (N:=some 51) (v:=?_) (a':=?_) #[tt,tt,tt,ff,tt,tt,ff,ff,ff,ff,ff,ff,ff,ff,ff] rfl rfl (take_ofW HT_.out HW_.out (by kernel_rfl)) (fun _ _ _ h=>h) (Or.inl ⟨by rfl,?_⟩) hHeld ?_ ?_
       rotate_left
       ·rintro w' ⟨s0,s1,s2,s3⟩
        have c_c0:World.cell? w' ⟨g_c,0,none⟩=some (.int .i64 a0_0):=(Bk.cell s0 0).trans rfl
        have c_c1:World.cell? w' ⟨g_c,1,none⟩=some (.int .i64 a0_1):=(Bk.cell s0 1).trans rfl
        have c_c2:World.cell? w' ⟨g_c,2,none⟩=some (.int .i64 a0_2):=(Bk.cell s0 2).trans rfl
        have c_c3:World.cell? w' ⟨g_c,3,none⟩=some (.int .i64 a0_3):=(Bk.cell s0 3).trans rfl
        have c_c4:World.cell? w' ⟨g_c,4,none⟩=some (.int .i64 a0_4):=(Bk.cell s0 4).trans rfl
        go_simp
        with_reducible rfl
       rotate_left
       ·simp only [Act.put,List.setIfInBounds_toArray,List.set_cons_zero,List.set_cons_succ]
        rfl
       refine pure_ (i:=6) (N:=some 52) (v:=?_) (a':=?_) #[tt,tt,tt,ff,tt,tt,tt,ff,ff,ff,ff,ff,ff,ff,ff] rfl rfl (any_of HT_.out (by kernel_rfl)) (fun _ _ _ h=>h) (Or.inl ⟨by rfl,?_⟩) ?_ ?_
       rotate_left
       ·intro w'
        go_simp
        with_reducible rfl
       rotate_left
       ·simp only [Act.put,List.setIfInBounds_toArray,List.set_cons_zero,List.set_cons_succ]
        rfl
       refine one_ (i:=3) (N:=some 49) #[tt,tt,tt,tt,tt,tt,tt,ff,ff,ff,ff,ff,ff,ff,ff] rfl rfl (one_of HT_.out (by kernel_rfl)) (by decide) (fun K hK=>?_)
       obtain⟨s0,s1,s2,s3⟩:=hHeld
       refine goes_ (N:=some 49) Try.func17 (by kernel_rfl) rfl #[.int .i64 a1_1] (by rfl) rfl rfl (by (try simp only [List.map_toArray,List.map_cons,List.map_nil]);first|done|rfl) ?_
       refine(fix_Abs.calls a1_1 _ _ B1.out).mono ?_
       rintro e wn ⟨rfl,hb⟩
       refine⟨_,rfl,?_⟩
       refine hK.out _ _ ⟨Bk.below s0 hb,Bk.below s1 hb,Bk.below s2 hb,Bel.step s3 hb⟩ (fun hHeld=>?_)
       clear hK K
       refine norm_ (a':=?_) ?_ ?_
       rotate_left
       ·simp only [Act.put,List.setIfInBounds_toArray,List.set_cons_zero,List.set_cons_succ]
        rfl
       refine pure_ (i:=7) (N:=some 53) (v:=?_) (a':=?_) #[tt,tt,tt,tt,tt,tt,tt,tt,ff,ff,ff,ff,ff,ff,ff] rfl rfl (any_of HT_.out (by kernel_rfl)) (fun _ _ _ h=>h) (Or.inl ⟨by rfl,?_⟩) ?_ ?_
       rotate_left
       ·intro w'
        go_simp
        with_reducible rfl
       rotate_left
       ·simp only [Act.put,List.setIfInBounds_toArray,List.set_cons_zero,List.set_cons_succ]
        rfl
       refine pure_ (i:=8) (N:=some 54) (v:=?_) (a':=?_) #[tt,tt,tt,tt,tt,tt,tt,tt,tt,ff,ff,ff,ff,ff,ff] rfl rfl (any_of HT_.out (by kernel_rfl)) (fun _ _ _ h=>h) (Or.inl ⟨by rfl,?_⟩) ?_ ?_
       rotate_left
       ·intro w'
        go_simp
        with_reducible rfl
       rotate_left
       ·simp only [Act.put,List.setIfInBounds_toArray,List.set_cons_zero,List.set_cons_succ]
        rfl
       refine pure_ (i:=9) (N:=some 55) (v:=?_) (a':=?_) #[tt,tt,tt,tt,tt,tt,tt,tt,tt,tt,ff,ff,ff,ff,ff] rfl rfl (any_of HT_.out (by kernel_rfl)) (fun _ _ _ h=>h) (Or.inl ⟨by rfl,?_⟩) ?_ ?_
       rotate_left
       ·intro w'
        go_simp
        with_reducible rfl
       rotate_left
       ·simp only [Act.put,List.setIfInBounds_toArray,List.set_cons_zero,List.set_cons_succ]
        rfl
       refine pure_ (i:=10) (N:=some 56) (v:=?_) (a':=?_) #[tt,tt,tt,tt,tt,tt,tt,tt,tt,tt,tt,ff,ff,ff,ff] rfl rfl (any_of HT_.out (by kernel_rfl)) (fun _ _ _ h=>h) (Or.inl ⟨by rfl,?_⟩) ?_ ?_
       rotate_left
       ·intro w'
        go_simp
        with_reducible rfl
       rotate_left
       ·simp only [Act.put,List.setIfInBounds_toArray,List.set_cons_zero,List.set_cons_succ]
        rfl
       refine take_ (i:=11) (N:=some 57) (v:=?_) (a':=?_) #[tt,tt,tt,tt,tt,tt,tt,tt,tt,tt,tt,tt,ff,ff,ff] rfl rfl (take_ofW HT_.out HW_.out (by kernel_rfl)) (fun _ _ _ h=>h) (Or.inl ⟨by rfl,?_⟩) hHeld ?_ ?_
       rotate_left
       ·rintro w' ⟨s0,s1,s2,s3⟩
        have c_v0:World.cell? w' ⟨g_v,0,none⟩=some (.int .i64 a1_0):=(Bk.cell s1 0).trans rfl
        have c_v1:World.cell? w' ⟨g_v,1,none⟩=some (.int .i64 a1_1):=(Bk.cell s1 1).trans rfl
        have c_v2:World.cell? w' ⟨g_v,2,none⟩=some (.int .i64 a1_2):=(Bk.cell s1 2).trans rfl
        go_simp
        with_reducible rfl
       rotate_left
       ·simp only [Act.put,List.setIfInBounds_toArray,List.set_cons_zero,List.set_cons_succ]
        rfl
       refine one_ (i:=12) (N:=some 58) #[tt,tt,tt,tt,tt,tt,tt,tt,tt,tt,tt,tt,tt,ff,ff] rfl rfl (one_of HT_.out (by kernel_rfl)) (by decide) (fun K hK=>?_)
       obtain⟨s0,s1,s2,s3⟩:=hHeld
       refine goes_ (N:=some 58) Try.func17 (by kernel_rfl) rfl #[.int .i64 a1_1] (by rfl) rfl rfl (by (try simp only [List.map_toArray,List.map_cons,List.map_nil]);first|done|rfl) ?_
       refine(fix_Abs.calls a1_1 _ _ B1.out).mono ?_
       rintro e wn ⟨rfl,hb⟩
       refine⟨_,rfl,?_⟩
       refine hK.out _ _ ⟨Bk.below s0 hb,Bk.below s1 hb,Bk.below s2 hb,Bel.step s3 hb⟩ (fun hHeld=>?_)
       clear hK K
       refine norm_ (a':=?_) ?_ ?_
       rotate_left
       ·simp only [Act.put,List.setIfInBounds_toArray,List.set_cons_zero,List.set_cons_succ]
        rfl
       refine pure_ (i:=13) (N:=some 59) (v:=?_) (a':=?_) #[tt,tt,tt,tt,tt,tt,tt,tt,tt,tt,tt,tt,tt,tt,ff] rfl rfl (any_of HT_.out (by kernel_rfl)) (fun _ _ _ h=>h) (Or.inl ⟨by rfl,?_⟩) ?_ ?_
       rotate_left
       ·intro w'
        go_simp
        with_reducible rfl
       rotate_left
       ·simp only [Act.put,List.setIfInBounds_toArray,List.set_cons_zero,List.set_cons_succ]
        rfl
       refine pure_ (i:=14) (N:=some 60) (v:=?_) (a':=?_) #[tt,tt,tt,tt,tt,tt,tt,tt,tt,tt,tt,tt,tt,tt,tt] rfl rfl (any_of HT_.out (by kernel_rfl)) (fun _ _ _ h=>h) (Or.inl ⟨by rfl,?_⟩) ?_ ?_
       rotate_left
       ·intro w'
        go_simp
        with_reducible rfl
       rotate_left
       ·simp only [Act.put,List.setIfInBounds_toArray,List.set_cons_zero,List.set_cons_succ]
        rfl
       refine done_ (done_of HT_.out (by kernel_rfl)) ?_
       clear b_c b_v b_s hB
       obtain⟨b_c,b_v,b_s,hB⟩:=hHeld
       go_wp2
       clear x0 x1 x3
       rcases e1 with _|_
       ·refine start2_ (n:=13) (S:=fun w'=>Bk w' g_c #[.int .i64 a0_0,.int .i64 a0_1,.int .i64 a0_2,.int .i64 a0_3,.int .i64 a0_4] 24∧Bk w' g_v #[.int .i64 a1_0,.int .i64 a1_1,.int .i64 a1_2] 22∧Bk w' g_s #[.int .i64 n0,.int .i64 n1,.int .i64 n2] 22∧Bel w w') (ds:=[]) #[ff,ff,ff,ff,ff,ff,ff,ff,ff,ff,ff,ff,ff] (by kernel_rfl) rfl rfl outriggerlaw18_SenseBack.tab10 outriggerlaw18_SenseBack.bits10 ⟨Bk.drew b_c,Bk.drew b_v,Bk.drew b_s,Bel.drew hB⟩ (fun wn hHeld HT_ HW_=>?_)
        refine pure_ (i:=0) (N:=some 63) (v:=?_) (a':=?_) #[tt,ff,ff,ff,ff,ff,ff,ff,ff,ff,ff,ff,ff] rfl rfl (any_of HT_.out (by kernel_rfl)) (fun _ _ _ h=>h) (Or.inl ⟨by rfl,?_⟩) ?_ ?_
        rotate_left
        ·intro w'
         go_simp
         with_reducible rfl
        rotate_left
        ·simp only [Act.put,List.setIfInBounds_toArray,List.set_cons_zero,List.set_cons_succ]
         rfl
        refine pure_ (i:=1) (N:=some 64) (v:=?_) (a':=?_) #[tt,tt,ff,ff,ff,ff,ff,ff,ff,ff,ff,ff,ff] rfl rfl (any_of HT_.out (by kernel_rfl)) (fun _ _ _ h=>h) (Or.inl ⟨by rfl,?_⟩) ?_ ?_
        rotate_left
        ·intro w'
         go_simp
         with_reducible rfl
        rotate_left
        ·simp only [Act.put,List.setIfInBounds_toArray,List.set_cons_zero,List.set_cons_succ]
         rfl
        refine take_ (i:=2) (N:=some 65) (v:=?_) (a':=?_) #[tt,tt,tt,ff,ff,ff,ff,ff,ff,ff,ff,ff,ff] rfl rfl (take_ofW HT_.out HW_.out (by kernel_rfl)) (fun _ _ _ h=>h) (Or.inl ⟨by rfl,?_⟩) hHeld ?_ ?_
        rotate_left
        ·rintro w' ⟨s0,s1,s2,s3⟩
         have c_s0:World.cell? w' ⟨g_s,0,none⟩=some (.int .i64 n0):=(Bk.cell s2 0).trans rfl
         have c_s1:World.cell? w' ⟨g_s,1,none⟩=some (.int .i64 n1):=(Bk.cell s2 1).trans rfl
         have c_s2:World.cell? w' ⟨g_s,2,none⟩=some (.int .i64 n2):=(Bk.cell s2 2).trans rfl
         go_simp
         with_reducible rfl
        rotate_left
        ·simp only [Act.put,List.setIfInBounds_toArray,List.set_cons_zero,List.set_cons_succ]
         rfl
        refine pure_ (i:=3) (N:=some 66) (v:=?_) (a':=?_) #[tt,tt,tt,tt,ff,ff,ff,ff,ff,ff,ff,ff,ff] rfl rfl (any_of HT_.out (by kernel_rfl)) (fun _ _ _ h=>h) (Or.inl ⟨by rfl,?_⟩) ?_ ?_
        rotate_left
        ·intro w'
         go_simp
         with_reducible rfl
        rotate_left
        ·simp only [Act.put,List.setIfInBounds_toArray,List.set_cons_zero,List.set_cons_succ]
         rfl
        refine pure_ (i:=4) (N:=some 67) (v:=?_) (a':=?_) #[tt,tt,tt,tt,tt,ff,ff,ff,ff,ff,ff,ff,ff] rfl rfl (any_of HT_.out (by kernel_rfl)) (fun _ _ _ h=>h) (Or.inl ⟨by rfl,?_⟩) ?_ ?_
        rotate_left
        ·intro w'
         go_simp
         with_reducible rfl
        rotate_left
        ·simp only [Act.put,List.setIfInBounds_toArray,List.set_cons_zero,List.set_cons_succ]
         rfl
        refine pure_ (i:=5) (N:=some 68) (v:=?_) (a':=?_) #[tt,tt,tt,tt,tt,tt,ff,ff,ff,ff,ff,ff,ff] rfl rfl (any_of HT_.out (by kernel_rfl)) (fun _ _ _ h=>h) (Or.inl ⟨by rfl,?_⟩) ?_ ?_
        rotate_left
        ·intro w'
         go_simp
         with_reducible rfl
        rotate_left
        ·simp only [Act.put,List.setIfInBounds_toArray,List.set_cons_zero,List.set_cons_succ]
         rfl
        refine take_ (i:=6) (N:=some 69) (v:=?_) (a':=?_) #[tt,tt,tt,tt,tt,tt,tt,ff,ff,ff,ff,ff,ff] rfl rfl (take_ofW HT_.out HW_.out (by kernel_rfl)) (fun _ _ _ h=>h) (Or.inl ⟨by rfl,?_⟩) hHeld ?_ ?_
        rotate_left
        ·rintro w' ⟨s0,s1,s2,s3⟩
         have c_c0:World.cell? w' ⟨g_c,0,none⟩=some (.int .i64 a0_0):=(Bk.cell s0 0).trans rfl
         have c_c1:World.cell? w' ⟨g_c,1,none⟩=some (.int .i64 a0_1):=(Bk.cell s0 1).trans rfl
         have c_c2:World.cell? w' ⟨g_c,2,none⟩=some (.int .i64 a0_2):=(Bk.cell s0 2).trans rfl
         have c_c3:World.cell? w' ⟨g_c,3,none⟩=some (.int .i64 a0_3):=(Bk.cell s0 3).trans rfl
         have c_c4:World.cell? w' ⟨g_c,4,none⟩=some (.int .i64 a0_4):=(Bk.cell s0 4).trans rfl
         go_simp
         with_reducible rfl
        rotate_left
        ·simp only [Act.put,List.setIfInBounds_toArray,List.set_cons_zero,List.set_cons_succ]
         rfl
        refine one_ (i:=7) (N:=some 70) #[tt,tt,tt,tt,tt,tt,tt,tt,ff,ff,ff,ff,ff] rfl rfl (one_of HT_.out (by kernel_rfl)) (by decide) (fun K hK=>?_)
        obtain⟨s0,s1,s2,s3⟩:=hHeld
        refine goes_ (N:=some 70) Try.func18 (by kernel_rfl) rfl #[.int .i64 n1,.int .i64 a0_1] (by rfl) rfl rfl (by (try simp only [List.map_toArray,List.map_cons,List.map_nil]);first|done|rfl) ?_
        refine(fix_Sub.calls n1 a0_1 _ _ _ D1.out).mono ?_
        rintro e wn ⟨rfl,hb⟩
        refine⟨_,rfl,?_⟩
        refine hK.out _ _ ⟨Bk.below s0 hb,Bk.below s1 hb,Bk.below s2 hb,Bel.step s3 hb⟩ (fun hHeld=>?_)
        clear hK K
        refine norm_ (a':=?_) ?_ ?_
        rotate_left
        ·simp only [Act.put,List.setIfInBounds_toArray,List.set_cons_zero,List.set_cons_succ]
         rfl
        refine pure_ (i:=8) (N:=some 62) (v:=?_) (a':=?_) #[tt,tt,tt,tt,tt,tt,tt,tt,tt,ff,ff,ff,ff] rfl rfl (any_of HT_.out (by kernel_rfl)) (fun _ _ _ h=>h) (Or.inl ⟨by rfl,?_⟩) ?_ ?_
        rotate_left
        ·intro w'
         go_simp
         with_reducible rfl
        rotate_left
        ·simp only [Act.put,List.setIfInBounds_toArray,List.set_cons_zero,List.set_cons_succ]
         rfl
        refine pure_ (i:=9) (N:=some 71) (v:=?_) (a':=?_) #[tt,tt,tt,tt,tt,tt,tt,tt,tt,tt,ff,ff,ff] rfl rfl (any_of HT_.out (by kernel_rfl)) (fun _ _ _ h=>h) (Or.inl ⟨by rfl,?_⟩) ?_ ?_
        rotate_left
        ·intro w'
         go_simp
         with_reducible rfl
        rotate_left
        ·simp only [Act.put,List.setIfInBounds_toArray,List.set_cons_zero,List.set_cons_succ]
         rfl
        refine pure_ (i:=10) (N:=some 72) (v:=?_) (a':=?_) #[tt,tt,tt,tt,tt,tt,tt,tt,tt,tt,tt,ff,ff] rfl rfl (any_of HT_.out (by kernel_rfl)) (fun _ _ _ h=>h) (Or.inl ⟨by rfl,?_⟩) ?_ ?_
        rotate_left
        ·intro w'
         go_simp
         with_reducible rfl
        rotate_left
        ·simp only [Act.put,List.setIfInBounds_toArray,List.set_cons_zero,List.set_cons_succ]
         rfl
        refine pure_ (i:=11) (N:=some 9) (v:=?_) (a':=?_) #[tt,tt,tt,tt,tt,tt,tt,tt,tt,tt,tt,tt,ff] rfl rfl (any_of HT_.out (by kernel_rfl)) (fun _ _ _ h=>h) (Or.inl ⟨by rfl,?_⟩) ?_ ?_
        rotate_left
        ·intro w'
         go_simp
         with_reducible rfl
        rotate_left
        ·simp only [Act.put,List.setIfInBounds_toArray,List.set_cons_zero,List.set_cons_succ]
         rfl
        refine pure_ (i:=12) (N:=some 10) (v:=?_) (a':=?_) #[tt,tt,tt,tt,tt,tt,tt,tt,tt,tt,tt,tt,tt] rfl rfl (any_of HT_.out (by kernel_rfl)) (fun _ _ _ h=>h) (Or.inl ⟨by rfl,?_⟩) ?_ ?_
        rotate_left
        ·intro w'
         go_simp
         with_reducible rfl
        rotate_left
        ·simp only [Act.put,List.setIfInBounds_toArray,List.set_cons_zero,List.set_cons_succ]
         rfl
        refine done_ (done_of HT_.out (by kernel_rfl)) ?_
        clear b_c b_v b_s hB
        obtain⟨b_c,b_v,b_s,hB⟩:=hHeld
        go_wp2
        have hx1:=Nt.mk (show ¬b1 > wrap64 (a0_4-65536) by omega)
        have hy1:=Nt.mk (show ¬b1 > 144115188075855872 by omega)
        clear x x2
        rw [rounds_succ]
        go_wp2
        by_cases x:b2 > wrap64 (a0_4-65536)
        ·have x0:decide (b2 > wrap64 (a0_4-65536))=true:=decide_eq_true (by omega)
         have x1:decide (b2 > IntKind.i64.wrap (a0_4-65536))=true:=by rw [i64_w];exact x0
         refine start2_ (n:=15) (S:=fun w'=>Bk w' g_c #[.int .i64 a0_0,.int .i64 a0_1,.int .i64 a0_2,.int .i64 a0_3,.int .i64 a0_4] 24∧Bk w' g_v #[.int .i64 a1_0,.int .i64 a1_1,.int .i64 a1_2] 22∧Bk w' g_s #[.int .i64 n0,.int .i64 n1,.int .i64 n2] 22∧Bel w w') (ds:=[]) #[ff,ff,ff,ff,ff,ff,ff,ff,ff,ff,ff,ff,ff,ff,ff] (by kernel_rfl) rfl rfl outriggerlaw18_SenseBack.tab8 outriggerlaw18_SenseBack.bits8 ⟨Bk.drew b_c,Bk.drew b_v,Bk.drew b_s,Bel.drew hB⟩ (fun wn hHeld HT_ HW_=>?_)
         refine pure_ (i:=0) (N:=some 46) (v:=?_) (a':=?_) #[tt,ff,ff,ff,ff,ff,ff,ff,ff,ff,ff,ff,ff,ff,ff] rfl rfl (any_of HT_.out (by kernel_rfl)) (fun _ _ _ h=>h) (Or.inl ⟨by rfl,?_⟩) ?_ ?_
         rotate_left
         ·intro w'
          go_simp
          with_reducible rfl
         rotate_left
         ·simp only [Act.put,List.setIfInBounds_toArray,List.set_cons_zero,List.set_cons_succ]
          rfl
         refine pure_ (i:=1) (N:=some 47) (v:=?_) (a':=?_) #[tt,tt,ff,ff,ff,ff,ff,ff,ff,ff,ff,ff,ff,ff,ff] rfl rfl (any_of HT_.out (by kernel_rfl)) (fun _ _ _ h=>h) (Or.inl ⟨by rfl,?_⟩) ?_ ?_
         rotate_left
         ·intro w'
          go_simp
          with_reducible rfl
         rotate_left
         ·simp only [Act.put,List.setIfInBounds_toArray,List.set_cons_zero,List.set_cons_succ]
          rfl
         refine take_ (i:=2) (N:=some 48) (v:=?_) (a':=?_) #[tt,tt,tt,ff,ff,ff,ff,ff,ff,ff,ff,ff,ff,ff,ff] rfl rfl (take_ofW HT_.out HW_.out (by kernel_rfl)) (fun _ _ _ h=>h) (Or.inl ⟨by rfl,?_⟩) hHeld ?_ ?_
         rotate_left
         ·rintro w' ⟨s0,s1,s2,s3⟩
          have c_v0:World.cell? w' ⟨g_v,0,none⟩=some (.int .i64 a1_0):=(Bk.cell s1 0).trans rfl
          have c_v1:World.cell? w' ⟨g_v,1,none⟩=some (.int .i64 a1_1):=(Bk.cell s1 1).trans rfl
          have c_v2:World.cell? w' ⟨g_v,2,none⟩=some (.int .i64 a1_2):=(Bk.cell s1 2).trans rfl
          go_simp
          with_reducible rfl
         rotate_left
         ·simp only [Act.put,List.setIfInBounds_toArray,List.set_cons_zero,List.set_cons_succ]
          rfl
         refine pure_ (i:=4) (N:=some 50) (v:=?_) (a':=?_) #[tt,tt,tt,ff,tt,ff,ff,ff,ff,ff,ff,ff,ff,ff,ff] rfl rfl (any_of HT_.out (by kernel_rfl)) (fun _ _ _ h=>h) (Or.inl ⟨by rfl,?_⟩) ?_ ?_
         rotate_left
         ·intro w'
          go_simp
          with_reducible rfl
         rotate_left
         ·simp only [Act.put,List.setIfInBounds_toArray,List.set_cons_zero,List.set_cons_succ]
          rfl
         refine take_ (i:=5) (N:=some 51) (v:=?_) (a':=?_) #[tt,tt,tt,ff,tt,tt,ff,ff,ff,ff,ff,ff,ff,ff,ff] rfl rfl (take_ofW HT_.out HW_.out (by kernel_rfl)) (fun _ _ _ h=>h) (Or.inl ⟨by rfl,?_⟩) hHeld ?_ ?_
         rotate_left
         ·rintro w' ⟨s0,s1,s2,s3⟩
          have c_c0:World.cell? w' ⟨g_c,0,none⟩=some (.int .i64 a0_0):=(Bk.cell s0 0).trans rfl
          have c_c1:World.cell? w' ⟨g_c,1,none⟩=some (.int .i64 a0_1):=(Bk.cell s0 1).trans rfl
          have c_c2:World.cell? w' ⟨g_c,2,none⟩=some (.int .i64 a0_2):=(Bk.cell s0 2).trans rfl
          have c_c3:World.cell? w' ⟨g_c,3,none⟩=some (.int .i64 a0_3):=(Bk.cell s0 3).trans rfl
          have c_c4:World.cell? w' ⟨g_c,4,none⟩=some (.int .i64 a0_4):=(Bk.cell s0 4).trans rfl
          go_simp
          with_reducible rfl
         rotate_left
         ·simp only [Act.put,List.setIfInBounds_toArray,List.set_cons_zero,List.set_cons_succ]
          rfl
         refine pure_ (i:=6) (N:=some 52) (v:=?_) (a':=?_) #[tt,tt,tt,ff,tt,tt,tt,ff,ff,ff,ff,ff,ff,ff,ff] rfl rfl (any_of HT_.out (by kernel_rfl)) (fun _ _ _ h=>h) (Or.inl ⟨by rfl,?_⟩) ?_ ?_
         rotate_left
         ·intro w'
          go_simp
          with_reducible rfl
         rotate_left
         ·simp only [Act.put,List.setIfInBounds_toArray,List.set_cons_zero,List.set_cons_succ]
          rfl
         refine one_ (i:=3) (N:=some 49) #[tt,tt,tt,tt,tt,tt,tt,ff,ff,ff,ff,ff,ff,ff,ff] rfl rfl (one_of HT_.out (by kernel_rfl)) (by decide) (fun K hK=>?_)
         obtain⟨s0,s1,s2,s3⟩:=hHeld
         refine goes_ (N:=some 49) Try.func17 (by kernel_rfl) rfl #[.int .i64 a1_2] (by rfl) rfl rfl (by (try simp only [List.map_toArray,List.map_cons,List.map_nil]);first|done|rfl) ?_
         refine(fix_Abs.calls a1_2 _ _ B2.out).mono ?_
         rintro e wn ⟨rfl,hb⟩
         refine⟨_,rfl,?_⟩
         refine hK.out _ _ ⟨Bk.below s0 hb,Bk.below s1 hb,Bk.below s2 hb,Bel.step s3 hb⟩ (fun hHeld=>?_)
         clear hK K
         refine norm_ (a':=?_) ?_ ?_
         rotate_left
         ·simp only [Act.put,List.setIfInBounds_toArray,List.set_cons_zero,List.set_cons_succ]
          rfl
         refine pure_ (i:=7) (N:=some 53) (v:=?_) (a':=?_) #[tt,tt,tt,tt,tt,tt,tt,tt,ff,ff,ff,ff,ff,ff,ff] rfl rfl (any_of HT_.out (by kernel_rfl)) (fun _ _ _ h=>h) (Or.inl ⟨by rfl,?_⟩) ?_ ?_
         rotate_left
         ·intro w'
          go_simp
          with_reducible rfl
         rotate_left
         ·simp only [Act.put,List.setIfInBounds_toArray,List.set_cons_zero,List.set_cons_succ]
          rfl
         refine pure_ (i:=8) (N:=some 54) (v:=?_) (a':=?_) #[tt,tt,tt,tt,tt,tt,tt,tt,tt,ff,ff,ff,ff,ff,ff] rfl rfl (any_of HT_.out (by kernel_rfl)) (fun _ _ _ h=>h) (Or.inl ⟨by rfl,?_⟩) ?_ ?_
         rotate_left
         ·intro w'
          go_simp
          with_reducible rfl
         rotate_left
         ·simp only [Act.put,List.setIfInBounds_toArray,List.set_cons_zero,List.set_cons_succ]
          rfl
         refine pure_ (i:=9) (N:=some 55) (v:=undef) (a':=?_) #[tt,tt,tt,tt,tt,tt,tt,tt,tt,tt,ff,ff,ff,ff,ff] rfl rfl (any_of HT_.out (by kernel_rfl)) (fun _ _ _ h=>h) (Or.inr ⟨by rfl,rfl⟩) ?_ ?_
         rotate_left
         ·simp only [Act.put,List.setIfInBounds_toArray,List.set_cons_zero,List.set_cons_succ]
          rfl
         refine pure_ (i:=10) (N:=some 56) (v:=undef) (a':=?_) #[tt,tt,tt,tt,tt,tt,tt,tt,tt,tt,tt,ff,ff,ff,ff] rfl rfl (any_of HT_.out (by kernel_rfl)) (fun _ _ _ h=>h) (Or.inr ⟨by rfl,rfl⟩) ?_ ?_
         rotate_left
         ·simp only [Act.put,List.setIfInBounds_toArray,List.set_cons_zero,List.set_cons_succ]
          rfl
         refine pure_ (i:=11) (N:=some 57) (v:=undef) (a':=?_) #[tt,tt,tt,tt,tt,tt,tt,tt,tt,tt,tt,tt,ff,ff,ff] rfl rfl (any_of HT_.out (by kernel_rfl)) (fun _ _ _ h=>h) (Or.inr ⟨by rfl,rfl⟩) ?_ ?_
         rotate_left
         ·simp only [Act.put,List.setIfInBounds_toArray,List.set_cons_zero,List.set_cons_succ]
          rfl
         refine pure_ (i:=12) (N:=some 58) (v:=undef) (a':=?_) #[tt,tt,tt,tt,tt,tt,tt,tt,tt,tt,tt,tt,tt,ff,ff] rfl rfl (any_of HT_.out (by kernel_rfl)) (fun _ _ _ h=>h) (Or.inr ⟨by rfl,rfl⟩) ?_ ?_
         rotate_left
         ·simp only [Act.put,List.setIfInBounds_toArray,List.set_cons_zero,List.set_cons_succ]
          rfl
         refine pure_ (i:=13) (N:=some 59) (v:=undef) (a':=?_) #[tt,tt,tt,tt,tt,tt,tt,tt,tt,tt,tt,tt,tt,tt,ff] rfl rfl (any_of HT_.out (by kernel_rfl)) (fun _ _ _ h=>h) (Or.inr ⟨by rfl,rfl⟩) ?_ ?_
         rotate_left
         ·simp only [Act.put,List.setIfInBounds_toArray,List.set_cons_zero,List.set_cons_succ]
          rfl
         refine pure_ (i:=14) (N:=some 60) (v:=?_) (a':=?_) #[tt,tt,tt,tt,tt,tt,tt,tt,tt,tt,tt,tt,tt,tt,tt] rfl rfl (any_of HT_.out (by kernel_rfl)) (fun _ _ _ h=>h) (Or.inl ⟨by rfl,?_⟩) ?_ ?_
         rotate_left
         ·intro w'
          go_simp
          with_reducible rfl
         rotate_left
         ·simp only [Act.put,List.setIfInBounds_toArray,List.set_cons_zero,List.set_cons_succ]
          rfl
         refine done_ (done_of HT_.out (by kernel_rfl)) ?_
         clear b_c b_v b_s hB
         obtain⟨b_c,b_v,b_s,hB⟩:=hHeld
         try go_wp2
         go_ret
         exact⟨rfl,hB⟩
        ·have x0:decide (b2 > wrap64 (a0_4-65536))=false:=decide_eq_false (by omega)
         have x1:decide (b2 > IntKind.i64.wrap (a0_4-65536))=false:=by rw [i64_w];exact x0
         by_cases x2:b2 > 144115188075855872
         ·have x3:decide (b2 > 144115188075855872)=true:=decide_eq_true (by omega)
          refine start2_ (n:=15) (S:=fun w'=>Bk w' g_c #[.int .i64 a0_0,.int .i64 a0_1,.int .i64 a0_2,.int .i64 a0_3,.int .i64 a0_4] 24∧Bk w' g_v #[.int .i64 a1_0,.int .i64 a1_1,.int .i64 a1_2] 22∧Bk w' g_s #[.int .i64 n0,.int .i64 n1,.int .i64 n2] 22∧Bel w w') (ds:=[]) #[ff,ff,ff,ff,ff,ff,ff,ff,ff,ff,ff,ff,ff,ff,ff] (by kernel_rfl) rfl rfl outriggerlaw18_SenseBack.tab8 outriggerlaw18_SenseBack.bits8 ⟨Bk.drew b_c,Bk.drew b_v,Bk.drew b_s,Bel.drew hB⟩ (fun wn hHeld HT_ HW_=>?_)
          refine pure_ (i:=0) (N:=some 46) (v:=?_) (a':=?_) #[tt,ff,ff,ff,ff,ff,ff,ff,ff,ff,ff,ff,ff,ff,ff] rfl rfl (any_of HT_.out (by kernel_rfl)) (fun _ _ _ h=>h) (Or.inl ⟨by rfl,?_⟩) ?_ ?_
          rotate_left
          ·intro w'
           go_simp
           with_reducible rfl
          rotate_left
          ·simp only [Act.put,List.setIfInBounds_toArray,List.set_cons_zero,List.set_cons_succ]
           rfl
          refine pure_ (i:=1) (N:=some 47) (v:=?_) (a':=?_) #[tt,tt,ff,ff,ff,ff,ff,ff,ff,ff,ff,ff,ff,ff,ff] rfl rfl (any_of HT_.out (by kernel_rfl)) (fun _ _ _ h=>h) (Or.inl ⟨by rfl,?_⟩) ?_ ?_
          rotate_left
          ·intro w'
           go_simp
           with_reducible rfl
          rotate_left
          ·simp only [Act.put,List.setIfInBounds_toArray,List.set_cons_zero,List.set_cons_succ]
           rfl
          refine take_ (i:=2) (N:=some 48) (v:=?_) (a':=?_) #[tt,tt,tt,ff,ff,ff,ff,ff,ff,ff,ff,ff,ff,ff,ff] rfl rfl (take_ofW HT_.out HW_.out (by kernel_rfl)) (fun _ _ _ h=>h) (Or.inl ⟨by rfl,?_⟩) hHeld ?_ ?_
          rotate_left
          ·rintro w' ⟨s0,s1,s2,s3⟩
           have c_v0:World.cell? w' ⟨g_v,0,none⟩=some (.int .i64 a1_0):=(Bk.cell s1 0).trans rfl
           have c_v1:World.cell? w' ⟨g_v,1,none⟩=some (.int .i64 a1_1):=(Bk.cell s1 1).trans rfl
           have c_v2:World.cell? w' ⟨g_v,2,none⟩=some (.int .i64 a1_2):=(Bk.cell s1 2).trans rfl
           go_simp
           with_reducible rfl
          rotate_left
          ·simp only [Act.put,List.setIfInBounds_toArray,List.set_cons_zero,List.set_cons_succ]
           rfl
          refine pure_ (i:=4) (N:=some 50) (v:=?_) (a':=?_) #[tt,tt,tt,ff,tt,ff,ff,ff,ff,ff,ff,ff,ff,ff,ff] rfl rfl (any_of HT_.out (by kernel_rfl)) (fun _ _ _ h=>h) (Or.inl ⟨by rfl,?_⟩) ?_ ?_
          rotate_left
          ·intro w'
           go_simp
           with_reducible rfl
          rotate_left
          ·simp only [Act.put,List.setIfInBounds_toArray,List.set_cons_zero,List.set_cons_succ]
           rfl
          refine take_ (i:=5) (N:=some 51) (v:=?_) (a':=?_) #[tt,tt,tt,ff,tt,tt,ff,ff,ff,ff,ff,ff,ff,ff,ff] rfl rfl (take_ofW HT_.out HW_.out (by kernel_rfl)) (fun _ _ _ h=>h) (Or.inl ⟨by rfl,?_⟩) hHeld ?_ ?_
          rotate_left
          ·rintro w' ⟨s0,s1,s2,s3⟩
           have c_c0:World.cell? w' ⟨g_c,0,none⟩=some (.int .i64 a0_0):=(Bk.cell s0 0).trans rfl
           have c_c1:World.cell? w' ⟨g_c,1,none⟩=some (.int .i64 a0_1):=(Bk.cell s0 1).trans rfl
           have c_c2:World.cell? w' ⟨g_c,2,none⟩=some (.int .i64 a0_2):=(Bk.cell s0 2).trans rfl
           have c_c3:World.cell? w' ⟨g_c,3,none⟩=some (.int .i64 a0_3):=(Bk.cell s0 3).trans rfl
           have c_c4:World.cell? w' ⟨g_c,4,none⟩=some (.int .i64 a0_4):=(Bk.cell s0 4).trans rfl
           go_simp
           with_reducible rfl
          rotate_left
          ·simp only [Act.put,List.setIfInBounds_toArray,List.set_cons_zero,List.set_cons_succ]
           rfl
          refine pure_ (i:=6) (N:=some 52) (v:=?_) (a':=?_) #[tt,tt,tt,ff,tt,tt,tt,ff,ff,ff,ff,ff,ff,ff,ff] rfl rfl (any_of HT_.out (by kernel_rfl)) (fun _ _ _ h=>h) (Or.inl ⟨by rfl,?_⟩) ?_ ?_
          rotate_left
          ·intro w'
           go_simp
           with_reducible rfl
          rotate_left
          ·simp only [Act.put,List.setIfInBounds_toArray,List.set_cons_zero,List.set_cons_succ]
           rfl
          refine one_ (i:=3) (N:=some 49) #[tt,tt,tt,tt,tt,tt,tt,ff,ff,ff,ff,ff,ff,ff,ff] rfl rfl (one_of HT_.out (by kernel_rfl)) (by decide) (fun K hK=>?_)
          obtain⟨s0,s1,s2,s3⟩:=hHeld
          refine goes_ (N:=some 49) Try.func17 (by kernel_rfl) rfl #[.int .i64 a1_2] (by rfl) rfl rfl (by (try simp only [List.map_toArray,List.map_cons,List.map_nil]);first|done|rfl) ?_
          refine(fix_Abs.calls a1_2 _ _ B2.out).mono ?_
          rintro e wn ⟨rfl,hb⟩
          refine⟨_,rfl,?_⟩
          refine hK.out _ _ ⟨Bk.below s0 hb,Bk.below s1 hb,Bk.below s2 hb,Bel.step s3 hb⟩ (fun hHeld=>?_)
          clear hK K
          refine norm_ (a':=?_) ?_ ?_
          rotate_left
          ·simp only [Act.put,List.setIfInBounds_toArray,List.set_cons_zero,List.set_cons_succ]
           rfl
          refine pure_ (i:=7) (N:=some 53) (v:=?_) (a':=?_) #[tt,tt,tt,tt,tt,tt,tt,tt,ff,ff,ff,ff,ff,ff,ff] rfl rfl (any_of HT_.out (by kernel_rfl)) (fun _ _ _ h=>h) (Or.inl ⟨by rfl,?_⟩) ?_ ?_
          rotate_left
          ·intro w'
           go_simp
           with_reducible rfl
          rotate_left
          ·simp only [Act.put,List.setIfInBounds_toArray,List.set_cons_zero,List.set_cons_succ]
           rfl
          refine pure_ (i:=8) (N:=some 54) (v:=?_) (a':=?_) #[tt,tt,tt,tt,tt,tt,tt,tt,tt,ff,ff,ff,ff,ff,ff] rfl rfl (any_of HT_.out (by kernel_rfl)) (fun _ _ _ h=>h) (Or.inl ⟨by rfl,?_⟩) ?_ ?_
          rotate_left
          ·intro w'
           go_simp
           with_reducible rfl
          rotate_left
          ·simp only [Act.put,List.setIfInBounds_toArray,List.set_cons_zero,List.set_cons_succ]
           rfl
          refine pure_ (i:=9) (N:=some 55) (v:=?_) (a':=?_) #[tt,tt,tt,tt,tt,tt,tt,tt,tt,tt,ff,ff,ff,ff,ff] rfl rfl (any_of HT_.out (by kernel_rfl)) (fun _ _ _ h=>h) (Or.inl ⟨by rfl,?_⟩) ?_ ?_
          rotate_left
          ·intro w'
           go_simp
           with_reducible rfl
          rotate_left
          ·simp only [Act.put,List.setIfInBounds_toArray,List.set_cons_zero,List.set_cons_succ]
           rfl
          refine pure_ (i:=10) (N:=some 56) (v:=?_) (a':=?_) #[tt,tt,tt,tt,tt,tt,tt,tt,tt,tt,tt,ff,ff,ff,ff] rfl rfl (any_of HT_.out (by kernel_rfl)) (fun _ _ _ h=>h) (Or.inl ⟨by rfl,?_⟩) ?_ ?_
          rotate_left
          ·intro w'
           go_simp
           with_reducible rfl
          rotate_left
          ·simp only [Act.put,List.setIfInBounds_toArray,List.set_cons_zero,List.set_cons_succ]
           rfl
          refine take_ (i:=11) (N:=some 57) (v:=?_) (a':=?_) #[tt,tt,tt,tt,tt,tt,tt,tt,tt,tt,tt,tt,ff,ff,ff] rfl rfl (take_ofW HT_.out HW_.out (by kernel_rfl)) (fun _ _ _ h=>h) (Or.inl ⟨by rfl,?_⟩) hHeld ?_ ?_
          rotate_left
          ·rintro w' ⟨s0,s1,s2,s3⟩
           have c_v0:World.cell? w' ⟨g_v,0,none⟩=some (.int .i64 a1_0):=(Bk.cell s1 0).trans rfl
           have c_v1:World.cell? w' ⟨g_v,1,none⟩=some (.int .i64 a1_1):=(Bk.cell s1 1).trans rfl
           have c_v2:World.cell? w' ⟨g_v,2,none⟩=some (.int .i64 a1_2):=(Bk.cell s1 2).trans rfl
           go_simp
           with_reducible rfl
          rotate_left
          ·simp only [Act.put,List.setIfInBounds_toArray,List.set_cons_zero,List.set_cons_succ]
           rfl
          refine one_ (i:=12) (N:=some 58) #[tt,tt,tt,tt,tt,tt,tt,tt,tt,tt,tt,tt,tt,ff,ff] rfl rfl (one_of HT_.out (by kernel_rfl)) (by decide) (fun K hK=>?_)
          obtain⟨s0,s1,s2,s3⟩:=hHeld
          refine goes_ (N:=some 58) Try.func17 (by kernel_rfl) rfl #[.int .i64 a1_2] (by rfl) rfl rfl (by (try simp only [List.map_toArray,List.map_cons,List.map_nil]);first|done|rfl) ?_
          refine(fix_Abs.calls a1_2 _ _ B2.out).mono ?_
          rintro e wn ⟨rfl,hb⟩
          refine⟨_,rfl,?_⟩
          refine hK.out _ _ ⟨Bk.below s0 hb,Bk.below s1 hb,Bk.below s2 hb,Bel.step s3 hb⟩ (fun hHeld=>?_)
          clear hK K
          refine norm_ (a':=?_) ?_ ?_
          rotate_left
          ·simp only [Act.put,List.setIfInBounds_toArray,List.set_cons_zero,List.set_cons_succ]
           rfl
          refine pure_ (i:=13) (N:=some 59) (v:=?_) (a':=?_) #[tt,tt,tt,tt,tt,tt,tt,tt,tt,tt,tt,tt,tt,tt,ff] rfl rfl (any_of HT_.out (by kernel_rfl)) (fun _ _ _ h=>h) (Or.inl ⟨by rfl,?_⟩) ?_ ?_
          rotate_left
          ·intro w'
           go_simp
           with_reducible rfl
          rotate_left
          ·simp only [Act.put,List.setIfInBounds_toArray,List.set_cons_zero,List.set_cons_succ]
           rfl
          refine pure_ (i:=14) (N:=some 60) (v:=?_) (a':=?_) #[tt,tt,tt,tt,tt,tt,tt,tt,tt,tt,tt,tt,tt,tt,tt] rfl rfl (any_of HT_.out (by kernel_rfl)) (fun _ _ _ h=>h) (Or.inl ⟨by rfl,?_⟩) ?_ ?_
          rotate_left
          ·intro w'
           go_simp
           with_reducible rfl
          rotate_left
          ·simp only [Act.put,List.setIfInBounds_toArray,List.set_cons_zero,List.set_cons_succ]
           rfl
          refine done_ (done_of HT_.out (by kernel_rfl)) ?_
          clear b_c b_v b_s hB
          obtain⟨b_c,b_v,b_s,hB⟩:=hHeld
          try go_wp2
          go_ret
          exact⟨rfl,hB⟩
         ·have x3:decide (b2 > 144115188075855872)=false:=decide_eq_false (by omega)
          refine start2_ (n:=15) (S:=fun w'=>Bk w' g_c #[.int .i64 a0_0,.int .i64 a0_1,.int .i64 a0_2,.int .i64 a0_3,.int .i64 a0_4] 24∧Bk w' g_v #[.int .i64 a1_0,.int .i64 a1_1,.int .i64 a1_2] 22∧Bk w' g_s #[.int .i64 n0,.int .i64 n1,.int .i64 n2] 22∧Bel w w') (ds:=[]) #[ff,ff,ff,ff,ff,ff,ff,ff,ff,ff,ff,ff,ff,ff,ff] (by kernel_rfl) rfl rfl outriggerlaw18_SenseBack.tab8 outriggerlaw18_SenseBack.bits8 ⟨Bk.drew b_c,Bk.drew b_v,Bk.drew b_s,Bel.drew hB⟩ (fun wn hHeld HT_ HW_=>?_)
          refine pure_ (i:=0) (N:=some 46) (v:=?_) (a':=?_) #[tt,ff,ff,ff,ff,ff,ff,ff,ff,ff,ff,ff,ff,ff,ff] rfl rfl (any_of HT_.out (by kernel_rfl)) (fun _ _ _ h=>h) (Or.inl ⟨by rfl,?_⟩) ?_ ?_
          rotate_left
          ·intro w'
           go_simp
           with_reducible rfl
          rotate_left
          ·simp only [Act.put,List.setIfInBounds_toArray,List.set_cons_zero,List.set_cons_succ]
           rfl
          refine pure_ (i:=1) (N:=some 47) (v:=?_) (a':=?_) #[tt,tt,ff,ff,ff,ff,ff,ff,ff,ff,ff,ff,ff,ff,ff] rfl rfl (any_of HT_.out (by kernel_rfl)) (fun _ _ _ h=>h) (Or.inl ⟨by rfl,?_⟩) ?_ ?_
          rotate_left
          ·intro w'
           go_simp
           with_reducible rfl
          rotate_left
          ·simp only [Act.put,List.setIfInBounds_toArray,List.set_cons_zero,List.set_cons_succ]
           rfl
          refine take_ (i:=2) (N:=some 48) (v:=?_) (a':=?_) #[tt,tt,tt,ff,ff,ff,ff,ff,ff,ff,ff,ff,ff,ff,ff] rfl rfl (take_ofW HT_.out HW_.out (by kernel_rfl)) (fun _ _ _ h=>h) (Or.inl ⟨by rfl,?_⟩) hHeld ?_ ?_
          rotate_left
          ·rintro w' ⟨s0,s1,s2,s3⟩
           have c_v0:World.cell? w' ⟨g_v,0,none⟩=some (.int .i64 a1_0):=(Bk.cell s1 0).trans rfl
           have c_v1:World.cell? w' ⟨g_v,1,none⟩=some (.int .i64 a1_1):=(Bk.cell s1 1).trans rfl
           have c_v2:World.cell? w' ⟨g_v,2,none⟩=some (.int .i64 a1_2):=(Bk.cell s1 2).trans rfl
           go_simp
           with_reducible rfl
          rotate_left
          ·simp only [Act.put,List.setIfInBounds_toArray,List.set_cons_zero,List.set_cons_succ]
           rfl
          refine pure_ (i:=4) (N:=some 50) (v:=?_) (a':=?_) #[tt,tt,tt,ff,tt,ff,ff,ff,ff,ff,ff,ff,ff,ff,ff] rfl rfl (any_of HT_.out (by kernel_rfl)) (fun _ _ _ h=>h) (Or.inl ⟨by rfl,?_⟩) ?_ ?_
          rotate_left
          ·intro w'
           go_simp
           with_reducible rfl
          rotate_left
          ·simp only [Act.put,List.setIfInBounds_toArray,List.set_cons_zero,List.set_cons_succ]
           rfl
          refine take_ (i:=5) (N:=some 51) (v:=?_) (a':=?_) #[tt,tt,tt,ff,tt,tt,ff,ff,ff,ff,ff,ff,ff,ff,ff] rfl rfl (take_ofW HT_.out HW_.out (by kernel_rfl)) (fun _ _ _ h=>h) (Or.inl ⟨by rfl,?_⟩) hHeld ?_ ?_
          rotate_left
          ·rintro w' ⟨s0,s1,s2,s3⟩
           have c_c0:World.cell? w' ⟨g_c,0,none⟩=some (.int .i64 a0_0):=(Bk.cell s0 0).trans rfl
           have c_c1:World.cell? w' ⟨g_c,1,none⟩=some (.int .i64 a0_1):=(Bk.cell s0 1).trans rfl
           have c_c2:World.cell? w' ⟨g_c,2,none⟩=some (.int .i64 a0_2):=(Bk.cell s0 2).trans rfl
           have c_c3:World.cell? w' ⟨g_c,3,none⟩=some (.int .i64 a0_3):=(Bk.cell s0 3).trans rfl
           have c_c4:World.cell? w' ⟨g_c,4,none⟩=some (.int .i64 a0_4):=(Bk.cell s0 4).trans rfl
           go_simp
           with_reducible rfl
          rotate_left
          ·simp only [Act.put,List.setIfInBounds_toArray,List.set_cons_zero,List.set_cons_succ]
           rfl
          refine pure_ (i:=6) (N:=some 52) (v:=?_) (a':=?_) #[tt,tt,tt,ff,tt,tt,tt,ff,ff,ff,ff,ff,ff,ff,ff] rfl rfl (any_of HT_.out (by kernel_rfl)) (fun _ _ _ h=>h) (Or.inl ⟨by rfl,?_⟩) ?_ ?_
          rotate_left
          ·intro w'
           go_simp
           with_reducible rfl
          rotate_left
          ·simp only [Act.put,List.setIfInBounds_toArray,List.set_cons_zero,List.set_cons_succ]
           rfl
          refine one_ (i:=3) (N:=some 49) #[tt,tt,tt,tt,tt,tt,tt,ff,ff,ff,ff,ff,ff,ff,ff] rfl rfl (one_of HT_.out (by kernel_rfl)) (by decide) (fun K hK=>?_)
          obtain⟨s0,s1,s2,s3⟩:=hHeld
          refine goes_ (N:=some 49) Try.func17 (by kernel_rfl) rfl #[.int .i64 a1_2] (by rfl) rfl rfl (by (try simp only [List.map_toArray,List.map_cons,List.map_nil]);first|done|rfl) ?_
          refine(fix_Abs.calls a1_2 _ _ B2.out).mono ?_
          rintro e wn ⟨rfl,hb⟩
          refine⟨_,rfl,?_⟩
          refine hK.out _ _ ⟨Bk.below s0 hb,Bk.below s1 hb,Bk.below s2 hb,Bel.step s3 hb⟩ (fun hHeld=>?_)
          clear hK K
          refine norm_ (a':=?_) ?_ ?_
          rotate_left
          ·simp only [Act.put,List.setIfInBounds_toArray,List.set_cons_zero,List.set_cons_succ]
           rfl
          refine pure_ (i:=7) (N:=some 53) (v:=?_) (a':=?_) #[tt,tt,tt,tt,tt,tt,tt,tt,ff,ff,ff,ff,ff,ff,ff] rfl rfl (any_of HT_.out (by kernel_rfl)) (fun _ _ _ h=>h) (Or.inl ⟨by rfl,?_⟩) ?_ ?_
          rotate_left
          ·intro w'
           go_simp
           with_reducible rfl
          rotate_left
          ·simp only [Act.put,List.setIfInBounds_toArray,List.set_cons_zero,List.set_cons_succ]
           rfl
          refine pure_ (i:=8) (N:=some 54) (v:=?_) (a':=?_) #[tt,tt,tt,tt,tt,tt,tt,tt,tt,ff,ff,ff,ff,ff,ff] rfl rfl (any_of HT_.out (by kernel_rfl)) (fun _ _ _ h=>h) (Or.inl ⟨by rfl,?_⟩) ?_ ?_
          rotate_left
          ·intro w'
           go_simp
           with_reducible rfl
          rotate_left
          ·simp only [Act.put,List.setIfInBounds_toArray,List.set_cons_zero,List.set_cons_succ]
           rfl
          refine pure_ (i:=9) (N:=some 55) (v:=?_) (a':=?_) #[tt,tt,tt,tt,tt,tt,tt,tt,tt,tt,ff,ff,ff,ff,ff] rfl rfl (any_of HT_.out (by kernel_rfl)) (fun _ _ _ h=>h) (Or.inl ⟨by rfl,?_⟩) ?_ ?_
          rotate_left
          ·intro w'
           go_simp
           with_reducible rfl
          rotate_left
          ·simp only [Act.put,List.setIfInBounds_toArray,List.set_cons_zero,List.set_cons_succ]
           rfl
          refine pure_ (i:=10) (N:=some 56) (v:=?_) (a':=?_) #[tt,tt,tt,tt,tt,tt,tt,tt,tt,tt,tt,ff,ff,ff,ff] rfl rfl (any_of HT_.out (by kernel_rfl)) (fun _ _ _ h=>h) (Or.inl ⟨by rfl,?_⟩) ?_ ?_
          rotate_left
          ·intro w'
           go_simp
           with_reducible rfl
          rotate_left
          ·simp only [Act.put,List.setIfInBounds_toArray,List.set_cons_zero,List.set_cons_succ]
           rfl
          refine take_ (i:=11) (N:=some 57) (v:=?_) (a':=?_) #[tt,tt,tt,tt,tt,tt,tt,tt,tt,tt,tt,tt,ff,ff,ff] rfl rfl (take_ofW HT_.out HW_.out (by kernel_rfl)) (fun _ _ _ h=>h) (Or.inl ⟨by rfl,?_⟩) hHeld ?_ ?_
          rotate_left
          ·rintro w' ⟨s0,s1,s2,s3⟩
           have c_v0:World.cell? w' ⟨g_v,0,none⟩=some (.int .i64 a1_0):=(Bk.cell s1 0).trans rfl
           have c_v1:World.cell? w' ⟨g_v,1,none⟩=some (.int .i64 a1_1):=(Bk.cell s1 1).trans rfl
           have c_v2:World.cell? w' ⟨g_v,2,none⟩=some (.int .i64 a1_2):=(Bk.cell s1 2).trans rfl
           go_simp
           with_reducible rfl
          rotate_left
          ·simp only [Act.put,List.setIfInBounds_toArray,List.set_cons_zero,List.set_cons_succ]
           rfl
          refine one_ (i:=12) (N:=some 58) #[tt,tt,tt,tt,tt,tt,tt,tt,tt,tt,tt,tt,tt,ff,ff] rfl rfl (one_of HT_.out (by kernel_rfl)) (by decide) (fun K hK=>?_)
          obtain⟨s0,s1,s2,s3⟩:=hHeld
          refine goes_ (N:=some 58) Try.func17 (by kernel_rfl) rfl #[.int .i64 a1_2] (by rfl) rfl rfl (by (try simp only [List.map_toArray,List.map_cons,List.map_nil]);first|done|rfl) ?_
          refine(fix_Abs.calls a1_2 _ _ B2.out).mono ?_
          rintro e wn ⟨rfl,hb⟩
          refine⟨_,rfl,?_⟩
          refine hK.out _ _ ⟨Bk.below s0 hb,Bk.below s1 hb,Bk.below s2 hb,Bel.step s3 hb⟩ (fun hHeld=>?_)
          clear hK K
          refine norm_ (a':=?_) ?_ ?_
          rotate_left
          ·simp only [Act.put,List.setIfInBounds_toArray,List.set_cons_zero,List.set_cons_succ]
           rfl
          refine pure_ (i:=13) (N:=some 59) (v:=?_) (a':=?_) #[tt,tt,tt,tt,tt,tt,tt,tt,tt,tt,tt,tt,tt,tt,ff] rfl rfl (any_of HT_.out (by kernel_rfl)) (fun _ _ _ h=>h) (Or.inl ⟨by rfl,?_⟩) ?_ ?_
          rotate_left
          ·intro w'
           go_simp
           with_reducible rfl
          rotate_left
          ·simp only [Act.put,List.setIfInBounds_toArray,List.set_cons_zero,List.set_cons_succ]
           rfl
          refine pure_ (i:=14) (N:=some 60) (v:=?_) (a':=?_) #[tt,tt,tt,tt,tt,tt,tt,tt,tt,tt,tt,tt,tt,tt,tt] rfl rfl (any_of HT_.out (by kernel_rfl)) (fun _ _ _ h=>h) (Or.inl ⟨by rfl,?_⟩) ?_ ?_
          rotate_left
          ·intro w'
           go_simp
           with_reducible rfl
          rotate_left
          ·simp only [Act.put,List.setIfInBounds_toArray,List.set_cons_zero,List.set_cons_succ]
           rfl
          refine done_ (done_of HT_.out (by kernel_rfl)) ?_
          clear b_c b_v b_s hB
          obtain⟨b_c,b_v,b_s,hB⟩:=hHeld
          go_wp2
          clear x0 x1 x3
          rcases e2 with _|_
          ·refine start2_ (n:=13) (S:=fun w'=>Bk w' g_c #[.int .i64 a0_0,.int .i64 a0_1,.int .i64 a0_2,.int .i64 a0_3,.int .i64 a0_4] 24∧Bk w' g_v #[.int .i64 a1_0,.int .i64 a1_1,.int .i64 a1_2] 22∧Bk w' g_s #[.int .i64 n0,.int .i64 n1,.int .i64 n2] 22∧Bel w w') (ds:=[]) #[ff,ff,ff,ff,ff,ff,ff,ff,ff,ff,ff,ff,ff] (by kernel_rfl) rfl rfl outriggerlaw18_SenseBack.tab10 outriggerlaw18_SenseBack.bits10 ⟨Bk.drew b_c,Bk.drew b_v,Bk.drew b_s,Bel.drew hB⟩ (fun wn hHeld HT_ HW_=>?_)
           refine pure_ (i:=0) (N:=some 63) (v:=?_) (a':=?_) #[tt,ff,ff,ff,ff,ff,ff,ff,ff,ff,ff,ff,ff] rfl rfl (any_of HT_.out (by kernel_rfl)) (fun _ _ _ h=>h) (Or.inl ⟨by rfl,?_⟩) ?_ ?_
           rotate_left
           ·intro w'
            go_simp
            with_reducible rfl
           rotate_left
           ·simp only [Act.put,List.setIfInBounds_toArray,List.set_cons_zero,List.set_cons_succ]
            rfl
           refine pure_ (i:=1) (N:=some 64) (v:=?_) (a':=?_) #[tt,tt,ff,ff,ff,ff,ff,ff,ff,ff,ff,ff,ff] rfl rfl (any_of HT_.out (by kernel_rfl)) (fun _ _ _ h=>h) (Or.inl ⟨by rfl,?_⟩) ?_ ?_
           rotate_left
           ·intro w'
            go_simp
            with_reducible rfl
           rotate_left
           ·simp only [Act.put,List.setIfInBounds_toArray,List.set_cons_zero,List.set_cons_succ]
            rfl
           refine take_ (i:=2) (N:=some 65) (v:=?_) (a':=?_) #[tt,tt,tt,ff,ff,ff,ff,ff,ff,ff,ff,ff,ff] rfl rfl (take_ofW HT_.out HW_.out (by kernel_rfl)) (fun _ _ _ h=>h) (Or.inl ⟨by rfl,?_⟩) hHeld ?_ ?_
           rotate_left
           ·rintro w' ⟨s0,s1,s2,s3⟩
            have c_s0:World.cell? w' ⟨g_s,0,none⟩=some (.int .i64 n0):=(Bk.cell s2 0).trans rfl
            have c_s1:World.cell? w' ⟨g_s,1,none⟩=some (.int .i64 n1):=(Bk.cell s2 1).trans rfl
            have c_s2:World.cell? w' ⟨g_s,2,none⟩=some (.int .i64 n2):=(Bk.cell s2 2).trans rfl
            go_simp
            with_reducible rfl
           rotate_left
           ·simp only [Act.put,List.setIfInBounds_toArray,List.set_cons_zero,List.set_cons_succ]
            rfl
           refine pure_ (i:=3) (N:=some 66) (v:=?_) (a':=?_) #[tt,tt,tt,tt,ff,ff,ff,ff,ff,ff,ff,ff,ff] rfl rfl (any_of HT_.out (by kernel_rfl)) (fun _ _ _ h=>h) (Or.inl ⟨by rfl,?_⟩) ?_ ?_
           rotate_left
           ·intro w'
            go_simp
            with_reducible rfl
           rotate_left
           ·simp only [Act.put,List.setIfInBounds_toArray,List.set_cons_zero,List.set_cons_succ]
            rfl
           refine pure_ (i:=4) (N:=some 67) (v:=?_) (a':=?_) #[tt,tt,tt,tt,tt,ff,ff,ff,ff,ff,ff,ff,ff] rfl rfl (any_of HT_.out (by kernel_rfl)) (fun _ _ _ h=>h) (Or.inl ⟨by rfl,?_⟩) ?_ ?_
           rotate_left
           ·intro w'
            go_simp
            with_reducible rfl
           rotate_left
           ·simp only [Act.put,List.setIfInBounds_toArray,List.set_cons_zero,List.set_cons_succ]
            rfl
           refine pure_ (i:=5) (N:=some 68) (v:=?_) (a':=?_) #[tt,tt,tt,tt,tt,tt,ff,ff,ff,ff,ff,ff,ff] rfl rfl (any_of HT_.out (by kernel_rfl)) (fun _ _ _ h=>h) (Or.inl ⟨by rfl,?_⟩) ?_ ?_
           rotate_left
           ·intro w'
            go_simp
            with_reducible rfl
           rotate_left
           ·simp only [Act.put,List.setIfInBounds_toArray,List.set_cons_zero,List.set_cons_succ]
            rfl
           refine take_ (i:=6) (N:=some 69) (v:=?_) (a':=?_) #[tt,tt,tt,tt,tt,tt,tt,ff,ff,ff,ff,ff,ff] rfl rfl (take_ofW HT_.out HW_.out (by kernel_rfl)) (fun _ _ _ h=>h) (Or.inl ⟨by rfl,?_⟩) hHeld ?_ ?_
           rotate_left
           ·rintro w' ⟨s0,s1,s2,s3⟩
            have c_c0:World.cell? w' ⟨g_c,0,none⟩=some (.int .i64 a0_0):=(Bk.cell s0 0).trans rfl
            have c_c1:World.cell? w' ⟨g_c,1,none⟩=some (.int .i64 a0_1):=(Bk.cell s0 1).trans rfl
            have c_c2:World.cell? w' ⟨g_c,2,none⟩=some (.int .i64 a0_2):=(Bk.cell s0 2).trans rfl
            have c_c3:World.cell? w' ⟨g_c,3,none⟩=some (.int .i64 a0_3):=(Bk.cell s0 3).trans rfl
            have c_c4:World.cell? w' ⟨g_c,4,none⟩=some (.int .i64 a0_4):=(Bk.cell s0 4).trans rfl
            go_simp
            with_reducible rfl
           rotate_left
           ·simp only [Act.put,List.setIfInBounds_toArray,List.set_cons_zero,List.set_cons_succ]
            rfl
           refine one_ (i:=7) (N:=some 70) #[tt,tt,tt,tt,tt,tt,tt,tt,ff,ff,ff,ff,ff] rfl rfl (one_of HT_.out (by kernel_rfl)) (by decide) (fun K hK=>?_)
           obtain⟨s0,s1,s2,s3⟩:=hHeld
           refine goes_ (N:=some 70) Try.func18 (by kernel_rfl) rfl #[.int .i64 n2,.int .i64 a0_2] (by rfl) rfl rfl (by (try simp only [List.map_toArray,List.map_cons,List.map_nil]);first|done|rfl) ?_
           refine(fix_Sub.calls n2 a0_2 _ _ _ D2.out).mono ?_
           rintro e wn ⟨rfl,hb⟩
           refine⟨_,rfl,?_⟩
           refine hK.out _ _ ⟨Bk.below s0 hb,Bk.below s1 hb,Bk.below s2 hb,Bel.step s3 hb⟩ (fun hHeld=>?_)
           clear hK K
           refine norm_ (a':=?_) ?_ ?_
           rotate_left
           ·simp only [Act.put,List.setIfInBounds_toArray,List.set_cons_zero,List.set_cons_succ]
            rfl
           refine pure_ (i:=8) (N:=some 62) (v:=?_) (a':=?_) #[tt,tt,tt,tt,tt,tt,tt,tt,tt,ff,ff,ff,ff] rfl rfl (any_of HT_.out (by kernel_rfl)) (fun _ _ _ h=>h) (Or.inl ⟨by rfl,?_⟩) ?_ ?_
           rotate_left
           ·intro w'
            go_simp
            with_reducible rfl
           rotate_left
           ·simp only [Act.put,List.setIfInBounds_toArray,List.set_cons_zero,List.set_cons_succ]
            rfl
           refine pure_ (i:=9) (N:=some 71) (v:=?_) (a':=?_) #[tt,tt,tt,tt,tt,tt,tt,tt,tt,tt,ff,ff,ff] rfl rfl (any_of HT_.out (by kernel_rfl)) (fun _ _ _ h=>h) (Or.inl ⟨by rfl,?_⟩) ?_ ?_
           rotate_left
           ·intro w'
            go_simp
            with_reducible rfl
           rotate_left
           ·simp only [Act.put,List.setIfInBounds_toArray,List.set_cons_zero,List.set_cons_succ]
            rfl
           refine pure_ (i:=10) (N:=some 72) (v:=?_) (a':=?_) #[tt,tt,tt,tt,tt,tt,tt,tt,tt,tt,tt,ff,ff] rfl rfl (any_of HT_.out (by kernel_rfl)) (fun _ _ _ h=>h) (Or.inl ⟨by rfl,?_⟩) ?_ ?_
           rotate_left
           ·intro w'
            go_simp
            with_reducible rfl
           rotate_left
           ·simp only [Act.put,List.setIfInBounds_toArray,List.set_cons_zero,List.set_cons_succ]
            rfl
           refine pure_ (i:=11) (N:=some 9) (v:=?_) (a':=?_) #[tt,tt,tt,tt,tt,tt,tt,tt,tt,tt,tt,tt,ff] rfl rfl (any_of HT_.out (by kernel_rfl)) (fun _ _ _ h=>h) (Or.inl ⟨by rfl,?_⟩) ?_ ?_
           rotate_left
           ·intro w'
            go_simp
            with_reducible rfl
           rotate_left
           ·simp only [Act.put,List.setIfInBounds_toArray,List.set_cons_zero,List.set_cons_succ]
            rfl
           refine pure_ (i:=12) (N:=some 10) (v:=?_) (a':=?_) #[tt,tt,tt,tt,tt,tt,tt,tt,tt,tt,tt,tt,tt] rfl rfl (any_of HT_.out (by kernel_rfl)) (fun _ _ _ h=>h) (Or.inl ⟨by rfl,?_⟩) ?_ ?_
           rotate_left
           ·intro w'
            go_simp
            with_reducible rfl
           rotate_left
           ·simp only [Act.put,List.setIfInBounds_toArray,List.set_cons_zero,List.set_cons_succ]
            rfl
           refine done_ (done_of HT_.out (by kernel_rfl)) ?_
           clear b_c b_v b_s hB
           obtain⟨b_c,b_v,b_s,hB⟩:=hHeld
           go_wp2
           have hx2:=Nt.mk (show ¬b2 > wrap64 (a0_4-65536) by omega)
           have hy2:=Nt.mk (show ¬b2 > 144115188075855872 by omega)
           clear x x2
           rw [rounds_succ]
           have X2:=X.out
           unfold outriggerlaw18_SenseBack.K at X2
           obtain⟨rfl,Y0,Y1,Y2⟩:=X2 hx0.out hy0.out rfl hx1.out hy1.out rfl hx2.out hy2.out rfl
           clear X X2
           replace Y0:=Aside0.mk Y0
           replace Y1:=Aside0.mk Y1
           replace Y2:=Aside0.mk Y2
           have c_c0:World.cell? wn ⟨g_c,0,none⟩=some (.int .i64 a0_0):=(Bk.cell b_c 0).trans rfl
           have f_c0:=Bk.frozen b_c 0
           have c_c1:World.cell? wn ⟨g_c,1,none⟩=some (.int .i64 a0_1):=(Bk.cell b_c 1).trans rfl
           have f_c1:=Bk.frozen b_c 1
           have c_c2:World.cell? wn ⟨g_c,2,none⟩=some (.int .i64 a0_2):=(Bk.cell b_c 2).trans rfl
           have f_c2:=Bk.frozen b_c 2
           have c_c3:World.cell? wn ⟨g_c,3,none⟩=some (.int .i64 a0_3):=(Bk.cell b_c 3).trans rfl
           have f_c3:=Bk.frozen b_c 3
           have c_c4:World.cell? wn ⟨g_c,4,none⟩=some (.int .i64 a0_4):=(Bk.cell b_c 4).trans rfl
           have f_c4:=Bk.frozen b_c 4
           have c_v0:World.cell? wn ⟨g_v,0,none⟩=some (.int .i64 a1_0):=(Bk.cell b_v 0).trans rfl
           have f_v0:=Bk.frozen b_v 0
           have c_v1:World.cell? wn ⟨g_v,1,none⟩=some (.int .i64 a1_1):=(Bk.cell b_v 1).trans rfl
           have f_v1:=Bk.frozen b_v 1
           have c_v2:World.cell? wn ⟨g_v,2,none⟩=some (.int .i64 a1_2):=(Bk.cell b_v 2).trans rfl
           have f_v2:=Bk.frozen b_v 2
           have c_s0:World.cell? wn ⟨g_s,0,none⟩=some (.int .i64 n0):=(Bk.cell b_s 0).trans rfl
           have f_s0:=Bk.frozen b_s 0
           have c_s1:World.cell? wn ⟨g_s,1,none⟩=some (.int .i64 n1):=(Bk.cell b_s 1).trans rfl
           have f_s1:=Bk.frozen b_s 1
           have c_s2:World.cell? wn ⟨g_s,2,none⟩=some (.int .i64 n2):=(Bk.cell b_s 2).trans rfl
           have f_s2:=Bk.frozen b_s 2
           go_wp2_with (first|((with_reducible refine gate_dst (N:=78) rfl ?_);(with_reducible refine gate_callee (f:=9) rfl ?_);refine goesL_ (some 78) rfl rfl Try.func9 (by kernel_rfl) rfl #[.agg #[.int .i64 a0_0,.int .i64 a0_1,.int .i64 a0_2,.int .i64 a0_3,.int .i64 a0_4],.agg #[.int .i64 n0,.int .i64 n1,.int .i64 n2]] rfl (by (try simp only [List.map_toArray,List.map_cons,List.map_nil]);first|done|rfl) ?_;refine(sense_Read.calls k a0_0 a0_1 a0_2 a0_3 a0_4 n0 n1 n2 _ _ _ _ _ A2.out).mono ?_;rintro e w1 ⟨rfl,hb⟩;refine⟨_,rfl,?_⟩;have m_c:Bk w1 g_c #[.int .i64 a0_0,.int .i64 a0_1,.int .i64 a0_2,.int .i64 a0_3,.int .i64 a0_4] 24:=Bk.below b_c hb;have m_v:Bk w1 g_v #[.int .i64 a1_0,.int .i64 a1_1,.int .i64 a1_2] 22:=Bk.below b_v hb;have m_s:Bk w1 g_s #[.int .i64 n0,.int .i64 n1,.int .i64 n2] 22:=Bk.below b_s hb;have mB:=Bel.step hB hb;clear b_c;clear b_v;clear b_s;have b_c:=m_c;clear m_c;have b_v:=m_v;clear m_v;have b_s:=m_s;clear m_s;clear hB;have hB:=mB;clear mB;(try clear hb);have c_c0:World.cell? w1 ⟨g_c,0,none⟩=some (.int .i64 a0_0):=(Bk.cell b_c 0).trans rfl;have f_c0:=Bk.frozen b_c 0;have c_c1:World.cell? w1 ⟨g_c,1,none⟩=some (.int .i64 a0_1):=(Bk.cell b_c 1).trans rfl;have f_c1:=Bk.frozen b_c 1;have c_c2:World.cell? w1 ⟨g_c,2,none⟩=some (.int .i64 a0_2):=(Bk.cell b_c 2).trans rfl;have f_c2:=Bk.frozen b_c 2;have c_c3:World.cell? w1 ⟨g_c,3,none⟩=some (.int .i64 a0_3):=(Bk.cell b_c 3).trans rfl;have f_c3:=Bk.frozen b_c 3;have c_c4:World.cell? w1 ⟨g_c,4,none⟩=some (.int .i64 a0_4):=(Bk.cell b_c 4).trans rfl;have f_c4:=Bk.frozen b_c 4;have c_v0:World.cell? w1 ⟨g_v,0,none⟩=some (.int .i64 a1_0):=(Bk.cell b_v 0).trans rfl;have f_v0:=Bk.frozen b_v 0;have c_v1:World.cell? w1 ⟨g_v,1,none⟩=some (.int .i64 a1_1):=(Bk.cell b_v 1).trans rfl;have f_v1:=Bk.frozen b_v 1;have c_v2:World.cell? w1 ⟨g_v,2,none⟩=some (.int .i64 a1_2):=(Bk.cell b_v 2).trans rfl;have f_v2:=Bk.frozen b_v 2;have c_s0:World.cell? w1 ⟨g_s,0,none⟩=some (.int .i64 n0):=(Bk.cell b_s 0).trans rfl;have f_s0:=Bk.frozen b_s 0;have c_s1:World.cell? w1 ⟨g_s,1,none⟩=some (.int .i64 n1):=(Bk.cell b_s 1).trans rfl;have f_s1:=Bk.frozen b_s 1;have c_s2:World.cell? w1 ⟨g_s,2,none⟩=some (.int .i64 n2):=(Bk.cell b_s 2).trans rfl;have f_s2:=Bk.frozen b_s 2)|((with_reducible refine gate_dst (N:=11) rfl ?_);refine box_event ?hg (N:=11) ?hd (cs:=#[.int .i64 0,.int .i64 0,.int .i64 0]) (t:=22) ?hr ?_;(case hd=>rfl);(case hg=>rfl);(case hr=>first|(go_simp;done)|(go_simp;rfl));intro g_r hg w1 b_r hb;have b_r:Bk w1 g_r #[.int .i64 0,.int .i64 0,.int .i64 0] 22:=b_r;have l_r:w.heap.size≤g_r:=(by rw [hg];exact Bel.size hB);have ne_c_r:g_c≠g_r:=(by rw [hg];exact Nat.ne_of_lt (Bk.lt b_c));have ne_r_c:g_r≠g_c:=Ne.symm ne_c_r;have ne_v_r:g_v≠g_r:=(by rw [hg];exact Nat.ne_of_lt (Bk.lt b_v));have ne_r_v:g_r≠g_v:=Ne.symm ne_v_r;have ne_s_r:g_s≠g_r:=(by rw [hg];exact Nat.ne_of_lt (Bk.lt b_s));have ne_r_s:g_r≠g_s:=Ne.symm ne_s_r;have m_c:Bk w1 g_c #[.int .i64 a0_0,.int .i64 a0_1,.int .i64 a0_2,.int .i64 a0_3,.int .i64 a0_4] 24:=Bk.below b_c hb;have m_v:Bk w1 g_v #[.int .i64 a1_0,.int .i64 a1_1,.int .i64 a1_2] 22:=Bk.below b_v hb;have m_s:Bk w1 g_s #[.int .i64 n0,.int .i64 n1,.int .i64 n2] 22:=Bk.below b_s hb;have mB:=Bel.step hB hb;clear b_c;clear b_v;clear b_s;have b_c:=m_c;clear m_c;have b_v:=m_v;clear m_v;have b_s:=m_s;clear m_s;clear hB;have hB:=mB;clear mB;(try clear hb);clear hg;have c_c0:World.cell? w1 ⟨g_c,0,none⟩=some (.int .i64 a0_0):=(Bk.cell b_c 0).trans rfl;have f_c0:=Bk.frozen b_c 0;have c_c1:World.cell? w1 ⟨g_c,1,none⟩=some (.int .i64 a0_1):=(Bk.cell b_c 1).trans rfl;have f_c1:=Bk.frozen b_c 1;have c_c2:World.cell? w1 ⟨g_c,2,none⟩=some (.int .i64 a0_2):=(Bk.cell b_c 2).trans rfl;have f_c2:=Bk.frozen b_c 2;have c_c3:World.cell? w1 ⟨g_c,3,none⟩=some (.int .i64 a0_3):=(Bk.cell b_c 3).trans rfl;have f_c3:=Bk.frozen b_c 3;have c_c4:World.cell? w1 ⟨g_c,4,none⟩=some (.int .i64 a0_4):=(Bk.cell b_c 4).trans rfl;have f_c4:=Bk.frozen b_c 4;have c_v0:World.cell? w1 ⟨g_v,0,none⟩=some (.int .i64 a1_0):=(Bk.cell b_v 0).trans rfl;have f_v0:=Bk.frozen b_v 0;have c_v1:World.cell? w1 ⟨g_v,1,none⟩=some (.int .i64 a1_1):=(Bk.cell b_v 1).trans rfl;have f_v1:=Bk.frozen b_v 1;have c_v2:World.cell? w1 ⟨g_v,2,none⟩=some (.int .i64 a1_2):=(Bk.cell b_v 2).trans rfl;have f_v2:=Bk.frozen b_v 2;have c_s0:World.cell? w1 ⟨g_s,0,none⟩=some (.int .i64 n0):=(Bk.cell b_s 0).trans rfl;have f_s0:=Bk.frozen b_s 0;have c_s1:World.cell? w1 ⟨g_s,1,none⟩=some (.int .i64 n1):=(Bk.cell b_s 1).trans rfl;have f_s1:=Bk.frozen b_s 1;have c_s2:World.cell? w1 ⟨g_s,2,none⟩=some (.int .i64 n2):=(Bk.cell b_s 2).trans rfl;have f_s2:=Bk.frozen b_s 2;have c_r0:World.cell? w1 ⟨g_r,0,none⟩=some (.int .i64 0):=(Bk.cell b_r 0).trans rfl;have f_r0:=Bk.frozen b_r 0;have c_r1:World.cell? w1 ⟨g_r,1,none⟩=some (.int .i64 0):=(Bk.cell b_r 1).trans rfl;have f_r1:=Bk.frozen b_r 1;have c_r2:World.cell? w1 ⟨g_r,2,none⟩=some (.int .i64 0):=(Bk.cell b_r 2).trans rfl;have f_r2:=Bk.frozen b_r 2))
           refine wp_loop_rounds 4 ?_
           rw [rounds_succ]
           go_wp2
           have p0:decide (wrap64 (r0-a1_0) > 65536)=false:=decide_eq_false (by have h_:=Y0.out.1;omega)
           have p1:decide (IntKind.i64.wrap (r0-a1_0) > 65536)=false:=by rw [i64_w];exact p0
           have q0:decide (wrap64 (a1_0-r0) > 65536)=false:=decide_eq_false (by have h_:=Y0.out.2;omega)
           have q1:decide (IntKind.i64.wrap (a1_0-r0) > 65536)=false:=by rw [i64_w];exact q0
           refine start2_ (n:=18) (S:=fun w'=>Bk w' g_c #[.int .i64 a0_0,.int .i64 a0_1,.int .i64 a0_2,.int .i64 a0_3,.int .i64 a0_4] 24∧Bk w' g_v #[.int .i64 a1_0,.int .i64 a1_1,.int .i64 a1_2] 22∧Bk w' g_s #[.int .i64 n0,.int .i64 n1,.int .i64 n2] 22∧Bk w' g_r #[.int .i64 r0,.int .i64 r1,.int .i64 r2] 22∧Bel w w') (ds:=[]) #[ff,ff,ff,ff,ff,ff,ff,ff,ff,ff,ff,ff,ff,ff,ff,ff,ff,ff] (by kernel_rfl) rfl rfl outriggerlaw18_SenseBack.tab17 outriggerlaw18_SenseBack.bits17 ⟨Bk.drew (Bk.far (Bk.far (Bk.far b_c ne_c_r 0 (.int .i64 r0)) ne_c_r 1 (.int .i64 r1)) ne_c_r 2 (.int .i64 r2)),Bk.drew (Bk.far (Bk.far (Bk.far b_v ne_v_r 0 (.int .i64 r0)) ne_v_r 1 (.int .i64 r1)) ne_v_r 2 (.int .i64 r2)),Bk.drew (Bk.far (Bk.far (Bk.far b_s ne_s_r 0 (.int .i64 r0)) ne_s_r 1 (.int .i64 r1)) ne_s_r 2 (.int .i64 r2)),Bk.drew (Bk.put (Bk.put (Bk.put b_r 0 (.int .i64 r0) rfl) 1 (.int .i64 r1) rfl) 2 (.int .i64 r2) rfl),Bel.drew (Bel.set (Bel.set (Bel.set hB l_r 0 (.int .i64 r0)) l_r 1 (.int .i64 r1)) l_r 2 (.int .i64 r2))⟩ (fun wn hHeld HT_ HW_=>?_)
           refine pure_ (i:=0) (N:=some 85) (v:=?_) (a':=?_) #[tt,ff,ff,ff,ff,ff,ff,ff,ff,ff,ff,ff,ff,ff,ff,ff,ff,ff] rfl rfl (any_of HT_.out (by kernel_rfl)) (fun _ _ _ h=>h) (Or.inl ⟨by rfl,?_⟩) ?_ ?_
           rotate_left
           ·intro w'
            go_simp
            with_reducible rfl
           rotate_left
           ·simp only [Act.put,List.setIfInBounds_toArray,List.set_cons_zero,List.set_cons_succ]
            rfl
           refine pure_ (i:=1) (N:=some 86) (v:=?_) (a':=?_) #[tt,tt,ff,ff,ff,ff,ff,ff,ff,ff,ff,ff,ff,ff,ff,ff,ff,ff] rfl rfl (any_of HT_.out (by kernel_rfl)) (fun _ _ _ h=>h) (Or.inl ⟨by rfl,?_⟩) ?_ ?_
           rotate_left
           ·intro w'
            go_simp
            with_reducible rfl
           rotate_left
           ·simp only [Act.put,List.setIfInBounds_toArray,List.set_cons_zero,List.set_cons_succ]
            rfl
           refine take_ (i:=2) (N:=some 87) (v:=?_) (a':=?_) #[tt,tt,tt,ff,ff,ff,ff,ff,ff,ff,ff,ff,ff,ff,ff,ff,ff,ff] rfl rfl (take_ofW HT_.out HW_.out (by kernel_rfl)) (fun _ _ _ h=>h) (Or.inl ⟨by rfl,?_⟩) hHeld ?_ ?_
           rotate_left
           ·rintro w' ⟨s0,s1,s2,s3,s4⟩
            have c_r0:World.cell? w' ⟨g_r,0,none⟩=some (.int .i64 r0):=(Bk.cell s3 0).trans rfl
            have c_r1:World.cell? w' ⟨g_r,1,none⟩=some (.int .i64 r1):=(Bk.cell s3 1).trans rfl
            have c_r2:World.cell? w' ⟨g_r,2,none⟩=some (.int .i64 r2):=(Bk.cell s3 2).trans rfl
            go_simp
            with_reducible rfl
           rotate_left
           ·simp only [Act.put,List.setIfInBounds_toArray,List.set_cons_zero,List.set_cons_succ]
            rfl
           refine pure_ (i:=3) (N:=some 88) (v:=?_) (a':=?_) #[tt,tt,tt,tt,ff,ff,ff,ff,ff,ff,ff,ff,ff,ff,ff,ff,ff,ff] rfl rfl (any_of HT_.out (by kernel_rfl)) (fun _ _ _ h=>h) (Or.inl ⟨by rfl,?_⟩) ?_ ?_
           rotate_left
           ·intro w'
            go_simp
            with_reducible rfl
           rotate_left
           ·simp only [Act.put,List.setIfInBounds_toArray,List.set_cons_zero,List.set_cons_succ]
            rfl
           refine pure_ (i:=4) (N:=some 89) (v:=?_) (a':=?_) #[tt,tt,tt,tt,tt,ff,ff,ff,ff,ff,ff,ff,ff,ff,ff,ff,ff,ff] rfl rfl (any_of HT_.out (by kernel_rfl)) (fun _ _ _ h=>h) (Or.inl ⟨by rfl,?_⟩) ?_ ?_
           rotate_left
           ·intro w'
            go_simp
            with_reducible rfl
           rotate_left
           ·simp only [Act.put,List.setIfInBounds_toArray,List.set_cons_zero,List.set_cons_succ]
            rfl
           refine take_ (i:=5) (N:=some 90) (v:=?_) (a':=?_) #[tt,tt,tt,tt,tt,tt,ff,ff,ff,ff,ff,ff,ff,ff,ff,ff,ff,ff] rfl rfl (take_ofW HT_.out HW_.out (by kernel_rfl)) (fun _ _ _ h=>h) (Or.inl ⟨by rfl,?_⟩) hHeld ?_ ?_
           rotate_left
           ·rintro w' ⟨s0,s1,s2,s3,s4⟩
            have c_v0:World.cell? w' ⟨g_v,0,none⟩=some (.int .i64 a1_0):=(Bk.cell s1 0).trans rfl
            have c_v1:World.cell? w' ⟨g_v,1,none⟩=some (.int .i64 a1_1):=(Bk.cell s1 1).trans rfl
            have c_v2:World.cell? w' ⟨g_v,2,none⟩=some (.int .i64 a1_2):=(Bk.cell s1 2).trans rfl
            go_simp
            with_reducible rfl
           rotate_left
           ·simp only [Act.put,List.setIfInBounds_toArray,List.set_cons_zero,List.set_cons_succ]
            rfl
           refine pure_ (i:=6) (N:=some 91) (v:=?_) (a':=?_) #[tt,tt,tt,tt,tt,tt,tt,ff,ff,ff,ff,ff,ff,ff,ff,ff,ff,ff] rfl rfl (any_of HT_.out (by kernel_rfl)) (fun _ _ _ h=>h) (Or.inl ⟨by rfl,?_⟩) ?_ ?_
           rotate_left
           ·intro w'
            go_simp
            with_reducible rfl
           rotate_left
           ·simp only [Act.put,List.setIfInBounds_toArray,List.set_cons_zero,List.set_cons_succ]
            rfl
           refine pure_ (i:=7) (N:=some 92) (v:=?_) (a':=?_) #[tt,tt,tt,tt,tt,tt,tt,tt,ff,ff,ff,ff,ff,ff,ff,ff,ff,ff] rfl rfl (any_of HT_.out (by kernel_rfl)) (fun _ _ _ h=>h) (Or.inl ⟨by rfl,?_⟩) ?_ ?_
           rotate_left
           ·intro w'
            go_simp
            with_reducible rfl
           rotate_left
           ·simp only [Act.put,List.setIfInBounds_toArray,List.set_cons_zero,List.set_cons_succ]
            rfl
           refine pure_ (i:=8) (N:=some 93) (v:=?_) (a':=?_) #[tt,tt,tt,tt,tt,tt,tt,tt,tt,ff,ff,ff,ff,ff,ff,ff,ff,ff] rfl rfl (any_of HT_.out (by kernel_rfl)) (fun _ _ _ h=>h) (Or.inl ⟨by rfl,?_⟩) ?_ ?_
           rotate_left
           ·intro w'
            go_simp
            with_reducible rfl
           rotate_left
           ·simp only [Act.put,List.setIfInBounds_toArray,List.set_cons_zero,List.set_cons_succ]
            rfl
           refine pure_ (i:=9) (N:=some 94) (v:=?_) (a':=?_) #[tt,tt,tt,tt,tt,tt,tt,tt,tt,tt,ff,ff,ff,ff,ff,ff,ff,ff] rfl rfl (any_of HT_.out (by kernel_rfl)) (fun _ _ _ h=>h) (Or.inl ⟨by rfl,?_⟩) ?_ ?_
           rotate_left
           ·intro w'
            go_simp
            with_reducible rfl
           rotate_left
           ·simp only [Act.put,List.setIfInBounds_toArray,List.set_cons_zero,List.set_cons_succ]
            rfl
           refine pure_ (i:=10) (N:=some 95) (v:=?_) (a':=?_) #[tt,tt,tt,tt,tt,tt,tt,tt,tt,tt,tt,ff,ff,ff,ff,ff,ff,ff] rfl rfl (any_of HT_.out (by kernel_rfl)) (fun _ _ _ h=>h) (Or.inl ⟨by rfl,?_⟩) ?_ ?_
           rotate_left
           ·intro w'
            go_simp
            with_reducible rfl
           rotate_left
           ·simp only [Act.put,List.setIfInBounds_toArray,List.set_cons_zero,List.set_cons_succ]
            rfl
           refine take_ (i:=11) (N:=some 96) (v:=?_) (a':=?_) #[tt,tt,tt,tt,tt,tt,tt,tt,tt,tt,tt,tt,ff,ff,ff,ff,ff,ff] rfl rfl (take_ofW HT_.out HW_.out (by kernel_rfl)) (fun _ _ _ h=>h) (Or.inl ⟨by rfl,?_⟩) hHeld ?_ ?_
           rotate_left
           ·rintro w' ⟨s0,s1,s2,s3,s4⟩
            have c_v0:World.cell? w' ⟨g_v,0,none⟩=some (.int .i64 a1_0):=(Bk.cell s1 0).trans rfl
            have c_v1:World.cell? w' ⟨g_v,1,none⟩=some (.int .i64 a1_1):=(Bk.cell s1 1).trans rfl
            have c_v2:World.cell? w' ⟨g_v,2,none⟩=some (.int .i64 a1_2):=(Bk.cell s1 2).trans rfl
            go_simp
            with_reducible rfl
           rotate_left
           ·simp only [Act.put,List.setIfInBounds_toArray,List.set_cons_zero,List.set_cons_succ]
            rfl
           refine pure_ (i:=12) (N:=some 97) (v:=?_) (a':=?_) #[tt,tt,tt,tt,tt,tt,tt,tt,tt,tt,tt,tt,tt,ff,ff,ff,ff,ff] rfl rfl (any_of HT_.out (by kernel_rfl)) (fun _ _ _ h=>h) (Or.inl ⟨by rfl,?_⟩) ?_ ?_
           rotate_left
           ·intro w'
            go_simp
            with_reducible rfl
           rotate_left
           ·simp only [Act.put,List.setIfInBounds_toArray,List.set_cons_zero,List.set_cons_succ]
            rfl
           refine pure_ (i:=13) (N:=some 98) (v:=?_) (a':=?_) #[tt,tt,tt,tt,tt,tt,tt,tt,tt,tt,tt,tt,tt,tt,ff,ff,ff,ff] rfl rfl (any_of HT_.out (by kernel_rfl)) (fun _ _ _ h=>h) (Or.inl ⟨by rfl,?_⟩) ?_ ?_
           rotate_left
           ·intro w'
            go_simp
            with_reducible rfl
           rotate_left
           ·simp only [Act.put,List.setIfInBounds_toArray,List.set_cons_zero,List.set_cons_succ]
            rfl
           refine take_ (i:=14) (N:=some 99) (v:=?_) (a':=?_) #[tt,tt,tt,tt,tt,tt,tt,tt,tt,tt,tt,tt,tt,tt,tt,ff,ff,ff] rfl rfl (take_ofW HT_.out HW_.out (by kernel_rfl)) (fun _ _ _ h=>h) (Or.inl ⟨by rfl,?_⟩) hHeld ?_ ?_
           rotate_left
           ·rintro w' ⟨s0,s1,s2,s3,s4⟩
            have c_r0:World.cell? w' ⟨g_r,0,none⟩=some (.int .i64 r0):=(Bk.cell s3 0).trans rfl
            have c_r1:World.cell? w' ⟨g_r,1,none⟩=some (.int .i64 r1):=(Bk.cell s3 1).trans rfl
            have c_r2:World.cell? w' ⟨g_r,2,none⟩=some (.int .i64 r2):=(Bk.cell s3 2).trans rfl
            go_simp
            with_reducible rfl
           rotate_left
           ·simp only [Act.put,List.setIfInBounds_toArray,List.set_cons_zero,List.set_cons_succ]
            rfl
           refine pure_ (i:=15) (N:=some 100) (v:=?_) (a':=?_) #[tt,tt,tt,tt,tt,tt,tt,tt,tt,tt,tt,tt,tt,tt,tt,tt,ff,ff] rfl rfl (any_of HT_.out (by kernel_rfl)) (fun _ _ _ h=>h) (Or.inl ⟨by rfl,?_⟩) ?_ ?_
           rotate_left
           ·intro w'
            go_simp
            with_reducible rfl
           rotate_left
           ·simp only [Act.put,List.setIfInBounds_toArray,List.set_cons_zero,List.set_cons_succ]
            rfl
           refine pure_ (i:=16) (N:=some 101) (v:=?_) (a':=?_) #[tt,tt,tt,tt,tt,tt,tt,tt,tt,tt,tt,tt,tt,tt,tt,tt,tt,ff] rfl rfl (any_of HT_.out (by kernel_rfl)) (fun _ _ _ h=>h) (Or.inl ⟨by rfl,?_⟩) ?_ ?_
           rotate_left
           ·intro w'
            go_simp
            with_reducible rfl
           rotate_left
           ·simp only [Act.put,List.setIfInBounds_toArray,List.set_cons_zero,List.set_cons_succ]
            rfl
           refine pure_ (i:=17) (N:=some 102) (v:=?_) (a':=?_) #[tt,tt,tt,tt,tt,tt,tt,tt,tt,tt,tt,tt,tt,tt,tt,tt,tt,tt] rfl rfl (any_of HT_.out (by kernel_rfl)) (fun _ _ _ h=>h) (Or.inl ⟨by rfl,?_⟩) ?_ ?_
           rotate_left
           ·intro w'
            go_simp
            with_reducible rfl
           rotate_left
           ·simp only [Act.put,List.setIfInBounds_toArray,List.set_cons_zero,List.set_cons_succ]
            rfl
           refine done_ (done_of HT_.out (by kernel_rfl)) ?_
           clear b_c b_v b_s b_r hB
           obtain⟨b_c,b_v,b_s,b_r,hB⟩:=hHeld
           have c_r0:World.cell? wn ⟨g_r,0,none⟩=some (.int .i64 r0):=(Bk.cell b_r 0).trans rfl
           have f_r0:=Bk.frozen b_r 0
           have c_r1:World.cell? wn ⟨g_r,1,none⟩=some (.int .i64 r1):=(Bk.cell b_r 1).trans rfl
           have f_r1:=Bk.frozen b_r 1
           have c_r2:World.cell? wn ⟨g_r,2,none⟩=some (.int .i64 r2):=(Bk.cell b_r 2).trans rfl
           have f_r2:=Bk.frozen b_r 2
           have c_v0:World.cell? wn ⟨g_v,0,none⟩=some (.int .i64 a1_0):=(Bk.cell b_v 0).trans rfl
           have f_v0:=Bk.frozen b_v 0
           have c_v1:World.cell? wn ⟨g_v,1,none⟩=some (.int .i64 a1_1):=(Bk.cell b_v 1).trans rfl
           have f_v1:=Bk.frozen b_v 1
           have c_v2:World.cell? wn ⟨g_v,2,none⟩=some (.int .i64 a1_2):=(Bk.cell b_v 2).trans rfl
           have f_v2:=Bk.frozen b_v 2
           go_wp2
           clear p0 p1 q0 q1
           rw [rounds_succ]
           go_wp2
           have p0:decide (wrap64 (r1-a1_1) > 65536)=false:=decide_eq_false (by have h_:=Y1.out.1;omega)
           have p1:decide (IntKind.i64.wrap (r1-a1_1) > 65536)=false:=by rw [i64_w];exact p0
           have q0:decide (wrap64 (a1_1-r1) > 65536)=false:=decide_eq_false (by have h_:=Y1.out.2;omega)
           have q1:decide (IntKind.i64.wrap (a1_1-r1) > 65536)=false:=by rw [i64_w];exact q0
           refine start2_ (n:=18) (S:=fun w'=>Bk w' g_c #[.int .i64 a0_0,.int .i64 a0_1,.int .i64 a0_2,.int .i64 a0_3,.int .i64 a0_4] 24∧Bk w' g_v #[.int .i64 a1_0,.int .i64 a1_1,.int .i64 a1_2] 22∧Bk w' g_s #[.int .i64 n0,.int .i64 n1,.int .i64 n2] 22∧Bk w' g_r #[.int .i64 r0,.int .i64 r1,.int .i64 r2] 22∧Bel w w') (ds:=[]) #[ff,ff,ff,ff,ff,ff,ff,ff,ff,ff,ff,ff,ff,ff,ff,ff,ff,ff] (by kernel_rfl) rfl rfl outriggerlaw18_SenseBack.tab17 outriggerlaw18_SenseBack.bits17 ⟨Bk.drew b_c,Bk.drew b_v,Bk.drew b_s,Bk.drew b_r,Bel.drew hB⟩ (fun wn hHeld HT_ HW_=>?_)
           refine pure_ (i:=0) (N:=some 85) (v:=?_) (a':=?_) #[tt,ff,ff,ff,ff,ff,ff,ff,ff,ff,ff,ff,ff,ff,ff,ff,ff,ff] rfl rfl (any_of HT_.out (by kernel_rfl)) (fun _ _ _ h=>h) (Or.inl ⟨by rfl,?_⟩) ?_ ?_
           rotate_left
           ·intro w'
            go_simp
            with_reducible rfl
           rotate_left
           ·simp only [Act.put,List.setIfInBounds_toArray,List.set_cons_zero,List.set_cons_succ]
            rfl
           refine pure_ (i:=1) (N:=some 86) (v:=?_) (a':=?_) #[tt,tt,ff,ff,ff,ff,ff,ff,ff,ff,ff,ff,ff,ff,ff,ff,ff,ff] rfl rfl (any_of HT_.out (by kernel_rfl)) (fun _ _ _ h=>h) (Or.inl ⟨by rfl,?_⟩) ?_ ?_
           rotate_left
           ·intro w'
            go_simp
            with_reducible rfl
           rotate_left
           ·simp only [Act.put,List.setIfInBounds_toArray,List.set_cons_zero,List.set_cons_succ]
            rfl
           refine take_ (i:=2) (N:=some 87) (v:=?_) (a':=?_) #[tt,tt,tt,ff,ff,ff,ff,ff,ff,ff,ff,ff,ff,ff,ff,ff,ff,ff] rfl rfl (take_ofW HT_.out HW_.out (by kernel_rfl)) (fun _ _ _ h=>h) (Or.inl ⟨by rfl,?_⟩) hHeld ?_ ?_
           rotate_left
           ·rintro w' ⟨s0,s1,s2,s3,s4⟩
            have c_r0:World.cell? w' ⟨g_r,0,none⟩=some (.int .i64 r0):=(Bk.cell s3 0).trans rfl
            have c_r1:World.cell? w' ⟨g_r,1,none⟩=some (.int .i64 r1):=(Bk.cell s3 1).trans rfl
            have c_r2:World.cell? w' ⟨g_r,2,none⟩=some (.int .i64 r2):=(Bk.cell s3 2).trans rfl
            go_simp
            with_reducible rfl
           rotate_left
           ·simp only [Act.put,List.setIfInBounds_toArray,List.set_cons_zero,List.set_cons_succ]
            rfl
           refine pure_ (i:=3) (N:=some 88) (v:=?_) (a':=?_) #[tt,tt,tt,tt,ff,ff,ff,ff,ff,ff,ff,ff,ff,ff,ff,ff,ff,ff] rfl rfl (any_of HT_.out (by kernel_rfl)) (fun _ _ _ h=>h) (Or.inl ⟨by rfl,?_⟩) ?_ ?_
           rotate_left
           ·intro w'
            go_simp
            with_reducible rfl
           rotate_left
           ·simp only [Act.put,List.setIfInBounds_toArray,List.set_cons_zero,List.set_cons_succ]
            rfl
           refine pure_ (i:=4) (N:=some 89) (v:=?_) (a':=?_) #[tt,tt,tt,tt,tt,ff,ff,ff,ff,ff,ff,ff,ff,ff,ff,ff,ff,ff] rfl rfl (any_of HT_.out (by kernel_rfl)) (fun _ _ _ h=>h) (Or.inl ⟨by rfl,?_⟩) ?_ ?_
           rotate_left
           ·intro w'
            go_simp
            with_reducible rfl
           rotate_left
           ·simp only [Act.put,List.setIfInBounds_toArray,List.set_cons_zero,List.set_cons_succ]
            rfl
           refine take_ (i:=5) (N:=some 90) (v:=?_) (a':=?_) #[tt,tt,tt,tt,tt,tt,ff,ff,ff,ff,ff,ff,ff,ff,ff,ff,ff,ff] rfl rfl (take_ofW HT_.out HW_.out (by kernel_rfl)) (fun _ _ _ h=>h) (Or.inl ⟨by rfl,?_⟩) hHeld ?_ ?_
           rotate_left
           ·rintro w' ⟨s0,s1,s2,s3,s4⟩
            have c_v0:World.cell? w' ⟨g_v,0,none⟩=some (.int .i64 a1_0):=(Bk.cell s1 0).trans rfl
            have c_v1:World.cell? w' ⟨g_v,1,none⟩=some (.int .i64 a1_1):=(Bk.cell s1 1).trans rfl
            have c_v2:World.cell? w' ⟨g_v,2,none⟩=some (.int .i64 a1_2):=(Bk.cell s1 2).trans rfl
            go_simp
            with_reducible rfl
           rotate_left
           ·simp only [Act.put,List.setIfInBounds_toArray,List.set_cons_zero,List.set_cons_succ]
            rfl
           refine pure_ (i:=6) (N:=some 91) (v:=?_) (a':=?_) #[tt,tt,tt,tt,tt,tt,tt,ff,ff,ff,ff,ff,ff,ff,ff,ff,ff,ff] rfl rfl (any_of HT_.out (by kernel_rfl)) (fun _ _ _ h=>h) (Or.inl ⟨by rfl,?_⟩) ?_ ?_
           rotate_left
           ·intro w'
            go_simp
            with_reducible rfl
           rotate_left
           ·simp only [Act.put,List.setIfInBounds_toArray,List.set_cons_zero,List.set_cons_succ]
            rfl
           refine pure_ (i:=7) (N:=some 92) (v:=?_) (a':=?_) #[tt,tt,tt,tt,tt,tt,tt,tt,ff,ff,ff,ff,ff,ff,ff,ff,ff,ff] rfl rfl (any_of HT_.out (by kernel_rfl)) (fun _ _ _ h=>h) (Or.inl ⟨by rfl,?_⟩) ?_ ?_
           rotate_left
           ·intro w'
            go_simp
            with_reducible rfl
           rotate_left
           ·simp only [Act.put,List.setIfInBounds_toArray,List.set_cons_zero,List.set_cons_succ]
            rfl
           refine pure_ (i:=8) (N:=some 93) (v:=?_) (a':=?_) #[tt,tt,tt,tt,tt,tt,tt,tt,tt,ff,ff,ff,ff,ff,ff,ff,ff,ff] rfl rfl (any_of HT_.out (by kernel_rfl)) (fun _ _ _ h=>h) (Or.inl ⟨by rfl,?_⟩) ?_ ?_
           rotate_left
           ·intro w'
            go_simp
            with_reducible rfl
           rotate_left
           ·simp only [Act.put,List.setIfInBounds_toArray,List.set_cons_zero,List.set_cons_succ]
            rfl
           refine pure_ (i:=9) (N:=some 94) (v:=?_) (a':=?_) #[tt,tt,tt,tt,tt,tt,tt,tt,tt,tt,ff,ff,ff,ff,ff,ff,ff,ff] rfl rfl (any_of HT_.out (by kernel_rfl)) (fun _ _ _ h=>h) (Or.inl ⟨by rfl,?_⟩) ?_ ?_
           rotate_left
           ·intro w'
            go_simp
            with_reducible rfl
           rotate_left
           ·simp only [Act.put,List.setIfInBounds_toArray,List.set_cons_zero,List.set_cons_succ]
            rfl
           refine pure_ (i:=10) (N:=some 95) (v:=?_) (a':=?_) #[tt,tt,tt,tt,tt,tt,tt,tt,tt,tt,tt,ff,ff,ff,ff,ff,ff,ff] rfl rfl (any_of HT_.out (by kernel_rfl)) (fun _ _ _ h=>h) (Or.inl ⟨by rfl,?_⟩) ?_ ?_
           rotate_left
           ·intro w'
            go_simp
            with_reducible rfl
           rotate_left
           ·simp only [Act.put,List.setIfInBounds_toArray,List.set_cons_zero,List.set_cons_succ]
            rfl
           refine take_ (i:=11) (N:=some 96) (v:=?_) (a':=?_) #[tt,tt,tt,tt,tt,tt,tt,tt,tt,tt,tt,tt,ff,ff,ff,ff,ff,ff] rfl rfl (take_ofW HT_.out HW_.out (by kernel_rfl)) (fun _ _ _ h=>h) (Or.inl ⟨by rfl,?_⟩) hHeld ?_ ?_
           rotate_left
           ·rintro w' ⟨s0,s1,s2,s3,s4⟩
            have c_v0:World.cell? w' ⟨g_v,0,none⟩=some (.int .i64 a1_0):=(Bk.cell s1 0).trans rfl
            have c_v1:World.cell? w' ⟨g_v,1,none⟩=some (.int .i64 a1_1):=(Bk.cell s1 1).trans rfl
            have c_v2:World.cell? w' ⟨g_v,2,none⟩=some (.int .i64 a1_2):=(Bk.cell s1 2).trans rfl
            go_simp
            with_reducible rfl
           rotate_left
           ·simp only [Act.put,List.setIfInBounds_toArray,List.set_cons_zero,List.set_cons_succ]
            rfl
           refine pure_ (i:=12) (N:=some 97) (v:=?_) (a':=?_) #[tt,tt,tt,tt,tt,tt,tt,tt,tt,tt,tt,tt,tt,ff,ff,ff,ff,ff] rfl rfl (any_of HT_.out (by kernel_rfl)) (fun _ _ _ h=>h) (Or.inl ⟨by rfl,?_⟩) ?_ ?_
           rotate_left
           ·intro w'
            go_simp
            with_reducible rfl
           rotate_left
           ·simp only [Act.put,List.setIfInBounds_toArray,List.set_cons_zero,List.set_cons_succ]
            rfl
           refine pure_ (i:=13) (N:=some 98) (v:=?_) (a':=?_) #[tt,tt,tt,tt,tt,tt,tt,tt,tt,tt,tt,tt,tt,tt,ff,ff,ff,ff] rfl rfl (any_of HT_.out (by kernel_rfl)) (fun _ _ _ h=>h) (Or.inl ⟨by rfl,?_⟩) ?_ ?_
           rotate_left
           ·intro w'
            go_simp
            with_reducible rfl
           rotate_left
           ·simp only [Act.put,List.setIfInBounds_toArray,List.set_cons_zero,List.set_cons_succ]
            rfl
           refine take_ (i:=14) (N:=some 99) (v:=?_) (a':=?_) #[tt,tt,tt,tt,tt,tt,tt,tt,tt,tt,tt,tt,tt,tt,tt,ff,ff,ff] rfl rfl (take_ofW HT_.out HW_.out (by kernel_rfl)) (fun _ _ _ h=>h) (Or.inl ⟨by rfl,?_⟩) hHeld ?_ ?_
           rotate_left
           ·rintro w' ⟨s0,s1,s2,s3,s4⟩
            have c_r0:World.cell? w' ⟨g_r,0,none⟩=some (.int .i64 r0):=(Bk.cell s3 0).trans rfl
            have c_r1:World.cell? w' ⟨g_r,1,none⟩=some (.int .i64 r1):=(Bk.cell s3 1).trans rfl
            have c_r2:World.cell? w' ⟨g_r,2,none⟩=some (.int .i64 r2):=(Bk.cell s3 2).trans rfl
            go_simp
            with_reducible rfl
           rotate_left
           ·simp only [Act.put,List.setIfInBounds_toArray,List.set_cons_zero,List.set_cons_succ]
            rfl
           refine pure_ (i:=15) (N:=some 100) (v:=?_) (a':=?_) #[tt,tt,tt,tt,tt,tt,tt,tt,tt,tt,tt,tt,tt,tt,tt,tt,ff,ff] rfl rfl (any_of HT_.out (by kernel_rfl)) (fun _ _ _ h=>h) (Or.inl ⟨by rfl,?_⟩) ?_ ?_
           rotate_left
           ·intro w'
            go_simp
            with_reducible rfl
           rotate_left
           ·simp only [Act.put,List.setIfInBounds_toArray,List.set_cons_zero,List.set_cons_succ]
            rfl
           refine pure_ (i:=16) (N:=some 101) (v:=?_) (a':=?_) #[tt,tt,tt,tt,tt,tt,tt,tt,tt,tt,tt,tt,tt,tt,tt,tt,tt,ff] rfl rfl (any_of HT_.out (by kernel_rfl)) (fun _ _ _ h=>h) (Or.inl ⟨by rfl,?_⟩) ?_ ?_
           rotate_left
           ·intro w'
            go_simp
            with_reducible rfl
           rotate_left
           ·simp only [Act.put,List.setIfInBounds_toArray,List.set_cons_zero,List.set_cons_succ]
            rfl
           refine pure_ (i:=17) (N:=some 102) (v:=?_) (a':=?_) #[tt,tt,tt,tt,tt,tt,tt,tt,tt,tt,tt,tt,tt,tt,tt,tt,tt,tt] rfl rfl (any_of HT_.out (by kernel_rfl)) (fun _ _ _ h=>h) (Or.inl ⟨by rfl,?_⟩) ?_ ?_
           rotate_left
           ·intro w'
            go_simp
            with_reducible rfl
           rotate_left
           ·simp only [Act.put,List.setIfInBounds_toArray,List.set_cons_zero,List.set_cons_succ]
            rfl
           refine done_ (done_of HT_.out (by kernel_rfl)) ?_
           clear b_c b_v b_s b_r hB
           obtain⟨b_c,b_v,b_s,b_r,hB⟩:=hHeld
           have c_r0:World.cell? wn ⟨g_r,0,none⟩=some (.int .i64 r0):=(Bk.cell b_r 0).trans rfl
           have f_r0:=Bk.frozen b_r 0
           have c_r1:World.cell? wn ⟨g_r,1,none⟩=some (.int .i64 r1):=(Bk.cell b_r 1).trans rfl
           have f_r1:=Bk.frozen b_r 1
           have c_r2:World.cell? wn ⟨g_r,2,none⟩=some (.int .i64 r2):=(Bk.cell b_r 2).trans rfl
           have f_r2:=Bk.frozen b_r 2
           have c_v0:World.cell? wn ⟨g_v,0,none⟩=some (.int .i64 a1_0):=(Bk.cell b_v 0).trans rfl
           have f_v0:=Bk.frozen b_v 0
           have c_v1:World.cell? wn ⟨g_v,1,none⟩=some (.int .i64 a1_1):=(Bk.cell b_v 1).trans rfl
           have f_v1:=Bk.frozen b_v 1
           have c_v2:World.cell? wn ⟨g_v,2,none⟩=some (.int .i64 a1_2):=(Bk.cell b_v 2).trans rfl
           have f_v2:=Bk.frozen b_v 2
           go_wp2
           clear p0 p1 q0 q1
           rw [rounds_succ]
           go_wp2
           have p0:decide (wrap64 (r2-a1_2) > 65536)=false:=decide_eq_false (by have h_:=Y2.out.1;omega)
           have p1:decide (IntKind.i64.wrap (r2-a1_2) > 65536)=false:=by rw [i64_w];exact p0
           have q0:decide (wrap64 (a1_2-r2) > 65536)=false:=decide_eq_false (by have h_:=Y2.out.2;omega)
           have q1:decide (IntKind.i64.wrap (a1_2-r2) > 65536)=false:=by rw [i64_w];exact q0
           refine start2_ (n:=18) (S:=fun w'=>Bk w' g_c #[.int .i64 a0_0,.int .i64 a0_1,.int .i64 a0_2,.int .i64 a0_3,.int .i64 a0_4] 24∧Bk w' g_v #[.int .i64 a1_0,.int .i64 a1_1,.int .i64 a1_2] 22∧Bk w' g_s #[.int .i64 n0,.int .i64 n1,.int .i64 n2] 22∧Bk w' g_r #[.int .i64 r0,.int .i64 r1,.int .i64 r2] 22∧Bel w w') (ds:=[]) #[ff,ff,ff,ff,ff,ff,ff,ff,ff,ff,ff,ff,ff,ff,ff,ff,ff,ff] (by kernel_rfl) rfl rfl outriggerlaw18_SenseBack.tab17 outriggerlaw18_SenseBack.bits17 ⟨Bk.drew b_c,Bk.drew b_v,Bk.drew b_s,Bk.drew b_r,Bel.drew hB⟩ (fun wn hHeld HT_ HW_=>?_)
           refine pure_ (i:=0) (N:=some 85) (v:=?_) (a':=?_) #[tt,ff,ff,ff,ff,ff,ff,ff,ff,ff,ff,ff,ff,ff,ff,ff,ff,ff] rfl rfl (any_of HT_.out (by kernel_rfl)) (fun _ _ _ h=>h) (Or.inl ⟨by rfl,?_⟩) ?_ ?_
           rotate_left
           ·intro w'
            go_simp
            with_reducible rfl
           rotate_left
           ·simp only [Act.put,List.setIfInBounds_toArray,List.set_cons_zero,List.set_cons_succ]
            rfl
           refine pure_ (i:=1) (N:=some 86) (v:=?_) (a':=?_) #[tt,tt,ff,ff,ff,ff,ff,ff,ff,ff,ff,ff,ff,ff,ff,ff,ff,ff] rfl rfl (any_of HT_.out (by kernel_rfl)) (fun _ _ _ h=>h) (Or.inl ⟨by rfl,?_⟩) ?_ ?_
           rotate_left
           ·intro w'
            go_simp
            with_reducible rfl
           rotate_left
           ·simp only [Act.put,List.setIfInBounds_toArray,List.set_cons_zero,List.set_cons_succ]
            rfl
           refine take_ (i:=2) (N:=some 87) (v:=?_) (a':=?_) #[tt,tt,tt,ff,ff,ff,ff,ff,ff,ff,ff,ff,ff,ff,ff,ff,ff,ff] rfl rfl (take_ofW HT_.out HW_.out (by kernel_rfl)) (fun _ _ _ h=>h) (Or.inl ⟨by rfl,?_⟩) hHeld ?_ ?_
           rotate_left
           ·rintro w' ⟨s0,s1,s2,s3,s4⟩
            have c_r0:World.cell? w' ⟨g_r,0,none⟩=some (.int .i64 r0):=(Bk.cell s3 0).trans rfl
            have c_r1:World.cell? w' ⟨g_r,1,none⟩=some (.int .i64 r1):=(Bk.cell s3 1).trans rfl
            have c_r2:World.cell? w' ⟨g_r,2,none⟩=some (.int .i64 r2):=(Bk.cell s3 2).trans rfl
            go_simp
            with_reducible rfl
           rotate_left
           ·simp only [Act.put,List.setIfInBounds_toArray,List.set_cons_zero,List.set_cons_succ]
            rfl
           refine pure_ (i:=3) (N:=some 88) (v:=?_) (a':=?_) #[tt,tt,tt,tt,ff,ff,ff,ff,ff,ff,ff,ff,ff,ff,ff,ff,ff,ff] rfl rfl (any_of HT_.out (by kernel_rfl)) (fun _ _ _ h=>h) (Or.inl ⟨by rfl,?_⟩) ?_ ?_
           rotate_left
           ·intro w'
            go_simp
            with_reducible rfl
           rotate_left
           ·simp only [Act.put,List.setIfInBounds_toArray,List.set_cons_zero,List.set_cons_succ]
            rfl
           refine pure_ (i:=4) (N:=some 89) (v:=?_) (a':=?_) #[tt,tt,tt,tt,tt,ff,ff,ff,ff,ff,ff,ff,ff,ff,ff,ff,ff,ff] rfl rfl (any_of HT_.out (by kernel_rfl)) (fun _ _ _ h=>h) (Or.inl ⟨by rfl,?_⟩) ?_ ?_
           rotate_left
           ·intro w'
            go_simp
            with_reducible rfl
           rotate_left
           ·simp only [Act.put,List.setIfInBounds_toArray,List.set_cons_zero,List.set_cons_succ]
            rfl
           refine take_ (i:=5) (N:=some 90) (v:=?_) (a':=?_) #[tt,tt,tt,tt,tt,tt,ff,ff,ff,ff,ff,ff,ff,ff,ff,ff,ff,ff] rfl rfl (take_ofW HT_.out HW_.out (by kernel_rfl)) (fun _ _ _ h=>h) (Or.inl ⟨by rfl,?_⟩) hHeld ?_ ?_
           rotate_left
           ·rintro w' ⟨s0,s1,s2,s3,s4⟩
            have c_v0:World.cell? w' ⟨g_v,0,none⟩=some (.int .i64 a1_0):=(Bk.cell s1 0).trans rfl
            have c_v1:World.cell? w' ⟨g_v,1,none⟩=some (.int .i64 a1_1):=(Bk.cell s1 1).trans rfl
            have c_v2:World.cell? w' ⟨g_v,2,none⟩=some (.int .i64 a1_2):=(Bk.cell s1 2).trans rfl
            go_simp
            with_reducible rfl
           rotate_left
           ·simp only [Act.put,List.setIfInBounds_toArray,List.set_cons_zero,List.set_cons_succ]
            rfl
           refine pure_ (i:=6) (N:=some 91) (v:=?_) (a':=?_) #[tt,tt,tt,tt,tt,tt,tt,ff,ff,ff,ff,ff,ff,ff,ff,ff,ff,ff] rfl rfl (any_of HT_.out (by kernel_rfl)) (fun _ _ _ h=>h) (Or.inl ⟨by rfl,?_⟩) ?_ ?_
           rotate_left
           ·intro w'
            go_simp
            with_reducible rfl
           rotate_left
           ·simp only [Act.put,List.setIfInBounds_toArray,List.set_cons_zero,List.set_cons_succ]
            rfl
           refine pure_ (i:=7) (N:=some 92) (v:=?_) (a':=?_) #[tt,tt,tt,tt,tt,tt,tt,tt,ff,ff,ff,ff,ff,ff,ff,ff,ff,ff] rfl rfl (any_of HT_.out (by kernel_rfl)) (fun _ _ _ h=>h) (Or.inl ⟨by rfl,?_⟩) ?_ ?_
           rotate_left
           ·intro w'
            go_simp
            with_reducible rfl
           rotate_left
           ·simp only [Act.put,List.setIfInBounds_toArray,List.set_cons_zero,List.set_cons_succ]
            rfl
           refine pure_ (i:=8) (N:=some 93) (v:=?_) (a':=?_) #[tt,tt,tt,tt,tt,tt,tt,tt,tt,ff,ff,ff,ff,ff,ff,ff,ff,ff] rfl rfl (any_of HT_.out (by kernel_rfl)) (fun _ _ _ h=>h) (Or.inl ⟨by rfl,?_⟩) ?_ ?_
           rotate_left
           ·intro w'
            go_simp
            with_reducible rfl
           rotate_left
           ·simp only [Act.put,List.setIfInBounds_toArray,List.set_cons_zero,List.set_cons_succ]
            rfl
           refine pure_ (i:=9) (N:=some 94) (v:=?_) (a':=?_) #[tt,tt,tt,tt,tt,tt,tt,tt,tt,tt,ff,ff,ff,ff,ff,ff,ff,ff] rfl rfl (any_of HT_.out (by kernel_rfl)) (fun _ _ _ h=>h) (Or.inl ⟨by rfl,?_⟩) ?_ ?_
           rotate_left
           ·intro w'
            go_simp
            with_reducible rfl
           rotate_left
           ·simp only [Act.put,List.setIfInBounds_toArray,List.set_cons_zero,List.set_cons_succ]
            rfl
           refine pure_ (i:=10) (N:=some 95) (v:=?_) (a':=?_) #[tt,tt,tt,tt,tt,tt,tt,tt,tt,tt,tt,ff,ff,ff,ff,ff,ff,ff] rfl rfl (any_of HT_.out (by kernel_rfl)) (fun _ _ _ h=>h) (Or.inl ⟨by rfl,?_⟩) ?_ ?_
           rotate_left
           ·intro w'
            go_simp
            with_reducible rfl
           rotate_left
           ·simp only [Act.put,List.setIfInBounds_toArray,List.set_cons_zero,List.set_cons_succ]
            rfl
           refine take_ (i:=11) (N:=some 96) (v:=?_) (a':=?_) #[tt,tt,tt,tt,tt,tt,tt,tt,tt,tt,tt,tt,ff,ff,ff,ff,ff,ff] rfl rfl (take_ofW HT_.out HW_.out (by kernel_rfl)) (fun _ _ _ h=>h) (Or.inl ⟨by rfl,?_⟩) hHeld ?_ ?_
           rotate_left
           ·rintro w' ⟨s0,s1,s2,s3,s4⟩
            have c_v0:World.cell? w' ⟨g_v,0,none⟩=some (.int .i64 a1_0):=(Bk.cell s1 0).trans rfl
            have c_v1:World.cell? w' ⟨g_v,1,none⟩=some (.int .i64 a1_1):=(Bk.cell s1 1).trans rfl
            have c_v2:World.cell? w' ⟨g_v,2,none⟩=some (.int .i64 a1_2):=(Bk.cell s1 2).trans rfl
            go_simp
            with_reducible rfl
           rotate_left
           ·simp only [Act.put,List.setIfInBounds_toArray,List.set_cons_zero,List.set_cons_succ]
            rfl
           refine pure_ (i:=12) (N:=some 97) (v:=?_) (a':=?_) #[tt,tt,tt,tt,tt,tt,tt,tt,tt,tt,tt,tt,tt,ff,ff,ff,ff,ff] rfl rfl (any_of HT_.out (by kernel_rfl)) (fun _ _ _ h=>h) (Or.inl ⟨by rfl,?_⟩) ?_ ?_
           rotate_left
           ·intro w'
            go_simp
            with_reducible rfl
           rotate_left
           ·simp only [Act.put,List.setIfInBounds_toArray,List.set_cons_zero,List.set_cons_succ]
            rfl
           refine pure_ (i:=13) (N:=some 98) (v:=?_) (a':=?_) #[tt,tt,tt,tt,tt,tt,tt,tt,tt,tt,tt,tt,tt,tt,ff,ff,ff,ff] rfl rfl (any_of HT_.out (by kernel_rfl)) (fun _ _ _ h=>h) (Or.inl ⟨by rfl,?_⟩) ?_ ?_
           rotate_left
           ·intro w'
            go_simp
            with_reducible rfl
           rotate_left
           ·simp only [Act.put,List.setIfInBounds_toArray,List.set_cons_zero,List.set_cons_succ]
            rfl
           refine take_ (i:=14) (N:=some 99) (v:=?_) (a':=?_) #[tt,tt,tt,tt,tt,tt,tt,tt,tt,tt,tt,tt,tt,tt,tt,ff,ff,ff] rfl rfl (take_ofW HT_.out HW_.out (by kernel_rfl)) (fun _ _ _ h=>h) (Or.inl ⟨by rfl,?_⟩) hHeld ?_ ?_
           rotate_left
           ·rintro w' ⟨s0,s1,s2,s3,s4⟩
            have c_r0:World.cell? w' ⟨g_r,0,none⟩=some (.int .i64 r0):=(Bk.cell s3 0).trans rfl
            have c_r1:World.cell? w' ⟨g_r,1,none⟩=some (.int .i64 r1):=(Bk.cell s3 1).trans rfl
            have c_r2:World.cell? w' ⟨g_r,2,none⟩=some (.int .i64 r2):=(Bk.cell s3 2).trans rfl
            go_simp
            with_reducible rfl
           rotate_left
           ·simp only [Act.put,List.setIfInBounds_toArray,List.set_cons_zero,List.set_cons_succ]
            rfl
           refine pure_ (i:=15) (N:=some 100) (v:=?_) (a':=?_) #[tt,tt,tt,tt,tt,tt,tt,tt,tt,tt,tt,tt,tt,tt,tt,tt,ff,ff] rfl rfl (any_of HT_.out (by kernel_rfl)) (fun _ _ _ h=>h) (Or.inl ⟨by rfl,?_⟩) ?_ ?_
           rotate_left
           ·intro w'
            go_simp
            with_reducible rfl
           rotate_left
           ·simp only [Act.put,List.setIfInBounds_toArray,List.set_cons_zero,List.set_cons_succ]
            rfl
           refine pure_ (i:=16) (N:=some 101) (v:=?_) (a':=?_) #[tt,tt,tt,tt,tt,tt,tt,tt,tt,tt,tt,tt,tt,tt,tt,tt,tt,ff] rfl rfl (any_of HT_.out (by kernel_rfl)) (fun _ _ _ h=>h) (Or.inl ⟨by rfl,?_⟩) ?_ ?_
           rotate_left
           ·intro w'
            go_simp
            with_reducible rfl
           rotate_left
           ·simp only [Act.put,List.setIfInBounds_toArray,List.set_cons_zero,List.set_cons_succ]
            rfl
           refine pure_ (i:=17) (N:=some 102) (v:=?_) (a':=?_) #[tt,tt,tt,tt,tt,tt,tt,tt,tt,tt,tt,tt,tt,tt,tt,tt,tt,tt] rfl rfl (any_of HT_.out (by kernel_rfl)) (fun _ _ _ h=>h) (Or.inl ⟨by rfl,?_⟩) ?_ ?_
           rotate_left
           ·intro w'
            go_simp
            with_reducible rfl
           rotate_left
           ·simp only [Act.put,List.setIfInBounds_toArray,List.set_cons_zero,List.set_cons_succ]
            rfl
           refine done_ (done_of HT_.out (by kernel_rfl)) ?_
           clear b_c b_v b_s b_r hB
           obtain⟨b_c,b_v,b_s,b_r,hB⟩:=hHeld
           have c_r0:World.cell? wn ⟨g_r,0,none⟩=some (.int .i64 r0):=(Bk.cell b_r 0).trans rfl
           have f_r0:=Bk.frozen b_r 0
           have c_r1:World.cell? wn ⟨g_r,1,none⟩=some (.int .i64 r1):=(Bk.cell b_r 1).trans rfl
           have f_r1:=Bk.frozen b_r 1
           have c_r2:World.cell? wn ⟨g_r,2,none⟩=some (.int .i64 r2):=(Bk.cell b_r 2).trans rfl
           have f_r2:=Bk.frozen b_r 2
           have c_v0:World.cell? wn ⟨g_v,0,none⟩=some (.int .i64 a1_0):=(Bk.cell b_v 0).trans rfl
           have f_v0:=Bk.frozen b_v 0
           have c_v1:World.cell? wn ⟨g_v,1,none⟩=some (.int .i64 a1_1):=(Bk.cell b_v 1).trans rfl
           have f_v1:=Bk.frozen b_v 1
           have c_v2:World.cell? wn ⟨g_v,2,none⟩=some (.int .i64 a1_2):=(Bk.cell b_v 2).trans rfl
           have f_v2:=Bk.frozen b_v 2
           go_wp2
           clear p0 p1 q0 q1
           rw [rounds_succ]
           go_wp2
           try go_wp2
           go_ret
           exact⟨rfl,hB⟩
          ·refine start2_ (n:=13) (S:=fun w'=>Bk w' g_c #[.int .i64 a0_0,.int .i64 a0_1,.int .i64 a0_2,.int .i64 a0_3,.int .i64 a0_4] 24∧Bk w' g_v #[.int .i64 a1_0,.int .i64 a1_1,.int .i64 a1_2] 22∧Bk w' g_s #[.int .i64 n0,.int .i64 n1,.int .i64 n2] 22∧Bel w w') (ds:=[]) #[ff,ff,ff,ff,ff,ff,ff,ff,ff,ff,ff,ff,ff] (by kernel_rfl) rfl rfl outriggerlaw18_SenseBack.tab10 outriggerlaw18_SenseBack.bits10 ⟨Bk.drew b_c,Bk.drew b_v,Bk.drew b_s,Bel.drew hB⟩ (fun wn hHeld HT_ HW_=>?_)
           refine pure_ (i:=0) (N:=some 63) (v:=?_) (a':=?_) #[tt,ff,ff,ff,ff,ff,ff,ff,ff,ff,ff,ff,ff] rfl rfl (any_of HT_.out (by kernel_rfl)) (fun _ _ _ h=>h) (Or.inl ⟨by rfl,?_⟩) ?_ ?_
           rotate_left
           ·intro w'
            go_simp
            with_reducible rfl
           rotate_left
           ·simp only [Act.put,List.setIfInBounds_toArray,List.set_cons_zero,List.set_cons_succ]
            rfl
           refine pure_ (i:=1) (N:=some 64) (v:=?_) (a':=?_) #[tt,tt,ff,ff,ff,ff,ff,ff,ff,ff,ff,ff,ff] rfl rfl (any_of HT_.out (by kernel_rfl)) (fun _ _ _ h=>h) (Or.inl ⟨by rfl,?_⟩) ?_ ?_
           rotate_left
           ·intro w'
            go_simp
            with_reducible rfl
           rotate_left
           ·simp only [Act.put,List.setIfInBounds_toArray,List.set_cons_zero,List.set_cons_succ]
            rfl
           refine take_ (i:=2) (N:=some 65) (v:=?_) (a':=?_) #[tt,tt,tt,ff,ff,ff,ff,ff,ff,ff,ff,ff,ff] rfl rfl (take_ofW HT_.out HW_.out (by kernel_rfl)) (fun _ _ _ h=>h) (Or.inl ⟨by rfl,?_⟩) hHeld ?_ ?_
           rotate_left
           ·rintro w' ⟨s0,s1,s2,s3⟩
            have c_s0:World.cell? w' ⟨g_s,0,none⟩=some (.int .i64 n0):=(Bk.cell s2 0).trans rfl
            have c_s1:World.cell? w' ⟨g_s,1,none⟩=some (.int .i64 n1):=(Bk.cell s2 1).trans rfl
            have c_s2:World.cell? w' ⟨g_s,2,none⟩=some (.int .i64 n2):=(Bk.cell s2 2).trans rfl
            go_simp
            with_reducible rfl
           rotate_left
           ·simp only [Act.put,List.setIfInBounds_toArray,List.set_cons_zero,List.set_cons_succ]
            rfl
           refine pure_ (i:=3) (N:=some 66) (v:=?_) (a':=?_) #[tt,tt,tt,tt,ff,ff,ff,ff,ff,ff,ff,ff,ff] rfl rfl (any_of HT_.out (by kernel_rfl)) (fun _ _ _ h=>h) (Or.inl ⟨by rfl,?_⟩) ?_ ?_
           rotate_left
           ·intro w'
            go_simp
            with_reducible rfl
           rotate_left
           ·simp only [Act.put,List.setIfInBounds_toArray,List.set_cons_zero,List.set_cons_succ]
            rfl
           refine pure_ (i:=4) (N:=some 67) (v:=?_) (a':=?_) #[tt,tt,tt,tt,tt,ff,ff,ff,ff,ff,ff,ff,ff] rfl rfl (any_of HT_.out (by kernel_rfl)) (fun _ _ _ h=>h) (Or.inl ⟨by rfl,?_⟩) ?_ ?_
           rotate_left
           ·intro w'
            go_simp
            with_reducible rfl
           rotate_left
           ·simp only [Act.put,List.setIfInBounds_toArray,List.set_cons_zero,List.set_cons_succ]
            rfl
           refine pure_ (i:=5) (N:=some 68) (v:=?_) (a':=?_) #[tt,tt,tt,tt,tt,tt,ff,ff,ff,ff,ff,ff,ff] rfl rfl (any_of HT_.out (by kernel_rfl)) (fun _ _ _ h=>h) (Or.inl ⟨by rfl,?_⟩) ?_ ?_
           rotate_left
           ·intro w'
            go_simp
            with_reducible rfl
           rotate_left
           ·simp only [Act.put,List.setIfInBounds_toArray,List.set_cons_zero,List.set_cons_succ]
            rfl
           refine take_ (i:=6) (N:=some 69) (v:=?_) (a':=?_) #[tt,tt,tt,tt,tt,tt,tt,ff,ff,ff,ff,ff,ff] rfl rfl (take_ofW HT_.out HW_.out (by kernel_rfl)) (fun _ _ _ h=>h) (Or.inl ⟨by rfl,?_⟩) hHeld ?_ ?_
           rotate_left
           ·rintro w' ⟨s0,s1,s2,s3⟩
            have c_c0:World.cell? w' ⟨g_c,0,none⟩=some (.int .i64 a0_0):=(Bk.cell s0 0).trans rfl
            have c_c1:World.cell? w' ⟨g_c,1,none⟩=some (.int .i64 a0_1):=(Bk.cell s0 1).trans rfl
            have c_c2:World.cell? w' ⟨g_c,2,none⟩=some (.int .i64 a0_2):=(Bk.cell s0 2).trans rfl
            have c_c3:World.cell? w' ⟨g_c,3,none⟩=some (.int .i64 a0_3):=(Bk.cell s0 3).trans rfl
            have c_c4:World.cell? w' ⟨g_c,4,none⟩=some (.int .i64 a0_4):=(Bk.cell s0 4).trans rfl
            go_simp
            with_reducible rfl
           rotate_left
           ·simp only [Act.put,List.setIfInBounds_toArray,List.set_cons_zero,List.set_cons_succ]
            rfl
           refine one_ (i:=7) (N:=some 70) #[tt,tt,tt,tt,tt,tt,tt,tt,ff,ff,ff,ff,ff] rfl rfl (one_of HT_.out (by kernel_rfl)) (by decide) (fun K hK=>?_)
           obtain⟨s0,s1,s2,s3⟩:=hHeld
           refine goes_ (N:=some 70) Try.func18 (by kernel_rfl) rfl #[.int .i64 n2,.int .i64 a0_2] (by rfl) rfl rfl (by (try simp only [List.map_toArray,List.map_cons,List.map_nil]);first|done|rfl) ?_
           refine(fix_Sub.calls n2 a0_2 _ _ _ D2.out).mono ?_
           rintro e wn ⟨rfl,hb⟩
           refine⟨_,rfl,?_⟩
           refine hK.out _ _ ⟨Bk.below s0 hb,Bk.below s1 hb,Bk.below s2 hb,Bel.step s3 hb⟩ (fun hHeld=>?_)
           clear hK K
           refine norm_ (a':=?_) ?_ ?_
           rotate_left
           ·simp only [Act.put,List.setIfInBounds_toArray,List.set_cons_zero,List.set_cons_succ]
            rfl
           refine pure_ (i:=8) (N:=some 62) (v:=?_) (a':=?_) #[tt,tt,tt,tt,tt,tt,tt,tt,tt,ff,ff,ff,ff] rfl rfl (any_of HT_.out (by kernel_rfl)) (fun _ _ _ h=>h) (Or.inl ⟨by rfl,?_⟩) ?_ ?_
           rotate_left
           ·intro w'
            go_simp
            with_reducible rfl
           rotate_left
           ·simp only [Act.put,List.setIfInBounds_toArray,List.set_cons_zero,List.set_cons_succ]
            rfl
           refine pure_ (i:=9) (N:=some 71) (v:=?_) (a':=?_) #[tt,tt,tt,tt,tt,tt,tt,tt,tt,tt,ff,ff,ff] rfl rfl (any_of HT_.out (by kernel_rfl)) (fun _ _ _ h=>h) (Or.inl ⟨by rfl,?_⟩) ?_ ?_
           rotate_left
           ·intro w'
            go_simp
            with_reducible rfl
           rotate_left
           ·simp only [Act.put,List.setIfInBounds_toArray,List.set_cons_zero,List.set_cons_succ]
            rfl
           refine pure_ (i:=10) (N:=some 72) (v:=?_) (a':=?_) #[tt,tt,tt,tt,tt,tt,tt,tt,tt,tt,tt,ff,ff] rfl rfl (any_of HT_.out (by kernel_rfl)) (fun _ _ _ h=>h) (Or.inl ⟨by rfl,?_⟩) ?_ ?_
           rotate_left
           ·intro w'
            go_simp
            with_reducible rfl
           rotate_left
           ·simp only [Act.put,List.setIfInBounds_toArray,List.set_cons_zero,List.set_cons_succ]
            rfl
           refine pure_ (i:=11) (N:=some 9) (v:=?_) (a':=?_) #[tt,tt,tt,tt,tt,tt,tt,tt,tt,tt,tt,tt,ff] rfl rfl (any_of HT_.out (by kernel_rfl)) (fun _ _ _ h=>h) (Or.inl ⟨by rfl,?_⟩) ?_ ?_
           rotate_left
           ·intro w'
            go_simp
            with_reducible rfl
           rotate_left
           ·simp only [Act.put,List.setIfInBounds_toArray,List.set_cons_zero,List.set_cons_succ]
            rfl
           refine pure_ (i:=12) (N:=some 10) (v:=?_) (a':=?_) #[tt,tt,tt,tt,tt,tt,tt,tt,tt,tt,tt,tt,tt] rfl rfl (any_of HT_.out (by kernel_rfl)) (fun _ _ _ h=>h) (Or.inl ⟨by rfl,?_⟩) ?_ ?_
           rotate_left
           ·intro w'
            go_simp
            with_reducible rfl
           rotate_left
           ·simp only [Act.put,List.setIfInBounds_toArray,List.set_cons_zero,List.set_cons_succ]
            rfl
           refine done_ (done_of HT_.out (by kernel_rfl)) ?_
           clear b_c b_v b_s hB
           obtain⟨b_c,b_v,b_s,hB⟩:=hHeld
           try go_wp2
           go_ret
           exact⟨rfl,hB⟩
       ·refine start2_ (n:=13) (S:=fun w'=>Bk w' g_c #[.int .i64 a0_0,.int .i64 a0_1,.int .i64 a0_2,.int .i64 a0_3,.int .i64 a0_4] 24∧Bk w' g_v #[.int .i64 a1_0,.int .i64 a1_1,.int .i64 a1_2] 22∧Bk w' g_s #[.int .i64 n0,.int .i64 n1,.int .i64 n2] 22∧Bel w w') (ds:=[]) #[ff,ff,ff,ff,ff,ff,ff,ff,ff,ff,ff,ff,ff] (by kernel_rfl) rfl rfl outriggerlaw18_SenseBack.tab10 outriggerlaw18_SenseBack.bits10 ⟨Bk.drew b_c,Bk.drew b_v,Bk.drew b_s,Bel.drew hB⟩ (fun wn hHeld HT_ HW_=>?_)
        refine pure_ (i:=0) (N:=some 63) (v:=?_) (a':=?_) #[tt,ff,ff,ff,ff,ff,ff,ff,ff,ff,ff,ff,ff] rfl rfl (any_of HT_.out (by kernel_rfl)) (fun _ _ _ h=>h) (Or.inl ⟨by rfl,?_⟩) ?_ ?_
        rotate_left
        ·intro w'
         go_simp
         with_reducible rfl
        rotate_left
        ·simp only [Act.put,List.setIfInBounds_toArray,List.set_cons_zero,List.set_cons_succ]
         rfl
        refine pure_ (i:=1) (N:=some 64) (v:=?_) (a':=?_) #[tt,tt,ff,ff,ff,ff,ff,ff,ff,ff,ff,ff,ff] rfl rfl (any_of HT_.out (by kernel_rfl)) (fun _ _ _ h=>h) (Or.inl ⟨by rfl,?_⟩) ?_ ?_
        rotate_left
        ·intro w'
         go_simp
         with_reducible rfl
        rotate_left
        ·simp only [Act.put,List.setIfInBounds_toArray,List.set_cons_zero,List.set_cons_succ]
         rfl
        refine take_ (i:=2) (N:=some 65) (v:=?_) (a':=?_) #[tt,tt,tt,ff,ff,ff,ff,ff,ff,ff,ff,ff,ff] rfl rfl (take_ofW HT_.out HW_.out (by kernel_rfl)) (fun _ _ _ h=>h) (Or.inl ⟨by rfl,?_⟩) hHeld ?_ ?_
        rotate_left
        ·rintro w' ⟨s0,s1,s2,s3⟩
         have c_s0:World.cell? w' ⟨g_s,0,none⟩=some (.int .i64 n0):=(Bk.cell s2 0).trans rfl
         have c_s1:World.cell? w' ⟨g_s,1,none⟩=some (.int .i64 n1):=(Bk.cell s2 1).trans rfl
         have c_s2:World.cell? w' ⟨g_s,2,none⟩=some (.int .i64 n2):=(Bk.cell s2 2).trans rfl
         go_simp
         with_reducible rfl
        rotate_left
        ·simp only [Act.put,List.setIfInBounds_toArray,List.set_cons_zero,List.set_cons_succ]
         rfl
        refine pure_ (i:=3) (N:=some 66) (v:=?_) (a':=?_) #[tt,tt,tt,tt,ff,ff,ff,ff,ff,ff,ff,ff,ff] rfl rfl (any_of HT_.out (by kernel_rfl)) (fun _ _ _ h=>h) (Or.inl ⟨by rfl,?_⟩) ?_ ?_
        rotate_left
        ·intro w'
         go_simp
         with_reducible rfl
        rotate_left
        ·simp only [Act.put,List.setIfInBounds_toArray,List.set_cons_zero,List.set_cons_succ]
         rfl
        refine pure_ (i:=4) (N:=some 67) (v:=?_) (a':=?_) #[tt,tt,tt,tt,tt,ff,ff,ff,ff,ff,ff,ff,ff] rfl rfl (any_of HT_.out (by kernel_rfl)) (fun _ _ _ h=>h) (Or.inl ⟨by rfl,?_⟩) ?_ ?_
        rotate_left
        ·intro w'
         go_simp
         with_reducible rfl
        rotate_left
        ·simp only [Act.put,List.setIfInBounds_toArray,List.set_cons_zero,List.set_cons_succ]
         rfl
        refine pure_ (i:=5) (N:=some 68) (v:=?_) (a':=?_) #[tt,tt,tt,tt,tt,tt,ff,ff,ff,ff,ff,ff,ff] rfl rfl (any_of HT_.out (by kernel_rfl)) (fun _ _ _ h=>h) (Or.inl ⟨by rfl,?_⟩) ?_ ?_
        rotate_left
        ·intro w'
         go_simp
         with_reducible rfl
        rotate_left
        ·simp only [Act.put,List.setIfInBounds_toArray,List.set_cons_zero,List.set_cons_succ]
         rfl
        refine take_ (i:=6) (N:=some 69) (v:=?_) (a':=?_) #[tt,tt,tt,tt,tt,tt,tt,ff,ff,ff,ff,ff,ff] rfl rfl (take_ofW HT_.out HW_.out (by kernel_rfl)) (fun _ _ _ h=>h) (Or.inl ⟨by rfl,?_⟩) hHeld ?_ ?_
        rotate_left
        ·rintro w' ⟨s0,s1,s2,s3⟩
         have c_c0:World.cell? w' ⟨g_c,0,none⟩=some (.int .i64 a0_0):=(Bk.cell s0 0).trans rfl
         have c_c1:World.cell? w' ⟨g_c,1,none⟩=some (.int .i64 a0_1):=(Bk.cell s0 1).trans rfl
         have c_c2:World.cell? w' ⟨g_c,2,none⟩=some (.int .i64 a0_2):=(Bk.cell s0 2).trans rfl
         have c_c3:World.cell? w' ⟨g_c,3,none⟩=some (.int .i64 a0_3):=(Bk.cell s0 3).trans rfl
         have c_c4:World.cell? w' ⟨g_c,4,none⟩=some (.int .i64 a0_4):=(Bk.cell s0 4).trans rfl
         go_simp
         with_reducible rfl
        rotate_left
        ·simp only [Act.put,List.setIfInBounds_toArray,List.set_cons_zero,List.set_cons_succ]
         rfl
        refine one_ (i:=7) (N:=some 70) #[tt,tt,tt,tt,tt,tt,tt,tt,ff,ff,ff,ff,ff] rfl rfl (one_of HT_.out (by kernel_rfl)) (by decide) (fun K hK=>?_)
        obtain⟨s0,s1,s2,s3⟩:=hHeld
        refine goes_ (N:=some 70) Try.func18 (by kernel_rfl) rfl #[.int .i64 n1,.int .i64 a0_1] (by rfl) rfl rfl (by (try simp only [List.map_toArray,List.map_cons,List.map_nil]);first|done|rfl) ?_
        refine(fix_Sub.calls n1 a0_1 _ _ _ D1.out).mono ?_
        rintro e wn ⟨rfl,hb⟩
        refine⟨_,rfl,?_⟩
        refine hK.out _ _ ⟨Bk.below s0 hb,Bk.below s1 hb,Bk.below s2 hb,Bel.step s3 hb⟩ (fun hHeld=>?_)
        clear hK K
        refine norm_ (a':=?_) ?_ ?_
        rotate_left
        ·simp only [Act.put,List.setIfInBounds_toArray,List.set_cons_zero,List.set_cons_succ]
         rfl
        refine pure_ (i:=8) (N:=some 62) (v:=?_) (a':=?_) #[tt,tt,tt,tt,tt,tt,tt,tt,tt,ff,ff,ff,ff] rfl rfl (any_of HT_.out (by kernel_rfl)) (fun _ _ _ h=>h) (Or.inl ⟨by rfl,?_⟩) ?_ ?_
        rotate_left
        ·intro w'
         go_simp
         with_reducible rfl
        rotate_left
        ·simp only [Act.put,List.setIfInBounds_toArray,List.set_cons_zero,List.set_cons_succ]
         rfl
        refine pure_ (i:=9) (N:=some 71) (v:=?_) (a':=?_) #[tt,tt,tt,tt,tt,tt,tt,tt,tt,tt,ff,ff,ff] rfl rfl (any_of HT_.out (by kernel_rfl)) (fun _ _ _ h=>h) (Or.inl ⟨by rfl,?_⟩) ?_ ?_
        rotate_left
        ·intro w'
         go_simp
         with_reducible rfl
        rotate_left
        ·simp only [Act.put,List.setIfInBounds_toArray,List.set_cons_zero,List.set_cons_succ]
         rfl
        refine pure_ (i:=10) (N:=some 72) (v:=?_) (a':=?_) #[tt,tt,tt,tt,tt,tt,tt,tt,tt,tt,tt,ff,ff] rfl rfl (any_of HT_.out (by kernel_rfl)) (fun _ _ _ h=>h) (Or.inl ⟨by rfl,?_⟩) ?_ ?_
        rotate_left
        ·intro w'
         go_simp
         with_reducible rfl
        rotate_left
        ·simp only [Act.put,List.setIfInBounds_toArray,List.set_cons_zero,List.set_cons_succ]
         rfl
        refine pure_ (i:=11) (N:=some 9) (v:=?_) (a':=?_) #[tt,tt,tt,tt,tt,tt,tt,tt,tt,tt,tt,tt,ff] rfl rfl (any_of HT_.out (by kernel_rfl)) (fun _ _ _ h=>h) (Or.inl ⟨by rfl,?_⟩) ?_ ?_
        rotate_left
        ·intro w'
         go_simp
         with_reducible rfl
        rotate_left
        ·simp only [Act.put,List.setIfInBounds_toArray,List.set_cons_zero,List.set_cons_succ]
         rfl
        refine pure_ (i:=12) (N:=some 10) (v:=?_) (a':=?_) #[tt,tt,tt,tt,tt,tt,tt,tt,tt,tt,tt,tt,tt] rfl rfl (any_of HT_.out (by kernel_rfl)) (fun _ _ _ h=>h) (Or.inl ⟨by rfl,?_⟩) ?_ ?_
        rotate_left
        ·intro w'
         go_simp
         with_reducible rfl
        rotate_left
        ·simp only [Act.put,List.setIfInBounds_toArray,List.set_cons_zero,List.set_cons_succ]
         rfl
        refine done_ (done_of HT_.out (by kernel_rfl)) ?_
        clear b_c b_v b_s hB
        obtain⟨b_c,b_v,b_s,hB⟩:=hHeld
        try go_wp2
        go_ret
        exact⟨rfl,hB⟩
    ·refine start2_ (n:=13) (S:=fun w'=>Bk w' g_c #[.int .i64 a0_0,.int .i64 a0_1,.int .i64 a0_2,.int .i64 a0_3,.int .i64 a0_4] 24∧Bk w' g_v #[.int .i64 a1_0,.int .i64 a1_1,.int .i64 a1_2] 22∧Bk w' g_s #[.int .i64 n0,.int .i64 n1,.int .i64 n2] 22∧Bel w w') (ds:=[]) #[ff,ff,ff,ff,ff,ff,ff,ff,ff,ff,ff,ff,ff] (by kernel_rfl) rfl rfl outriggerlaw18_SenseBack.tab10 outriggerlaw18_SenseBack.bits10 ⟨Bk.drew b_c,Bk.drew b_v,Bk.drew b_s,Bel.drew hB⟩ (fun wn hHeld HT_ HW_=>?_)
     refine pure_ (i:=0) (N:=some 63) (v:=?_) (a':=?_) #[tt,ff,ff,ff,ff,ff,ff,ff,ff,ff,ff,ff,ff] rfl rfl (any_of HT_.out (by kernel_rfl)) (fun _ _ _ h=>h) (Or.inl ⟨by rfl,?_⟩) ?_ ?_
     rotate_left
     ·intro w'
      go_simp
      with_reducible rfl
     rotate_left
     ·simp only [Act.put,List.setIfInBounds_toArray,List.set_cons_zero,List.set_cons_succ]
      rfl
     refine pure_ (i:=1) (N:=some 64) (v:=?_) (a':=?_) #[tt,tt,ff,ff,ff,ff,ff,ff,ff,ff,ff,ff,ff] rfl rfl (any_of HT_.out (by kernel_rfl)) (fun _ _ _ h=>h) (Or.inl ⟨by rfl,?_⟩) ?_ ?_
     rotate_left
     ·intro w'
      go_simp
      with_reducible rfl
     rotate_left
     ·simp only [Act.put,List.setIfInBounds_toArray,List.set_cons_zero,List.set_cons_succ]
      rfl
     refine take_ (i:=2) (N:=some 65) (v:=?_) (a':=?_) #[tt,tt,tt,ff,ff,ff,ff,ff,ff,ff,ff,ff,ff] rfl rfl (take_ofW HT_.out HW_.out (by kernel_rfl)) (fun _ _ _ h=>h) (Or.inl ⟨by rfl,?_⟩) hHeld ?_ ?_
     rotate_left
     ·rintro w' ⟨s0,s1,s2,s3⟩
      have c_s0:World.cell? w' ⟨g_s,0,none⟩=some (.int .i64 n0):=(Bk.cell s2 0).trans rfl
      have c_s1:World.cell? w' ⟨g_s,1,none⟩=some (.int .i64 n1):=(Bk.cell s2 1).trans rfl
      have c_s2:World.cell? w' ⟨g_s,2,none⟩=some (.int .i64 n2):=(Bk.cell s2 2).trans rfl
      go_simp
      with_reducible rfl
     rotate_left
     ·simp only [Act.put,List.setIfInBounds_toArray,List.set_cons_zero,List.set_cons_succ]
      rfl
     refine pure_ (i:=3) (N:=some 66) (v:=?_) (a':=?_) #[tt,tt,tt,tt,ff,ff,ff,ff,ff,ff,ff,ff,ff] rfl rfl (any_of HT_.out (by kernel_rfl)) (fun _ _ _ h=>h) (Or.inl ⟨by rfl,?_⟩) ?_ ?_
     rotate_left
     ·intro w'
      go_simp
      with_reducible rfl
     rotate_left
     ·simp only [Act.put,List.setIfInBounds_toArray,List.set_cons_zero,List.set_cons_succ]
      rfl
     refine pure_ (i:=4) (N:=some 67) (v:=?_) (a':=?_) #[tt,tt,tt,tt,tt,ff,ff,ff,ff,ff,ff,ff,ff] rfl rfl (any_of HT_.out (by kernel_rfl)) (fun _ _ _ h=>h) (Or.inl ⟨by rfl,?_⟩) ?_ ?_
     rotate_left
     ·intro w'
      go_simp
      with_reducible rfl
     rotate_left
     ·simp only [Act.put,List.setIfInBounds_toArray,List.set_cons_zero,List.set_cons_succ]
      rfl
     refine pure_ (i:=5) (N:=some 68) (v:=?_) (a':=?_) #[tt,tt,tt,tt,tt,tt,ff,ff,ff,ff,ff,ff,ff] rfl rfl (any_of HT_.out (by kernel_rfl)) (fun _ _ _ h=>h) (Or.inl ⟨by rfl,?_⟩) ?_ ?_
     rotate_left
     ·intro w'
      go_simp
      with_reducible rfl
     rotate_left
     ·simp only [Act.put,List.setIfInBounds_toArray,List.set_cons_zero,List.set_cons_succ]
      rfl
     refine take_ (i:=6) (N:=some 69) (v:=?_) (a':=?_) #[tt,tt,tt,tt,tt,tt,tt,ff,ff,ff,ff,ff,ff] rfl rfl (take_ofW HT_.out HW_.out (by kernel_rfl)) (fun _ _ _ h=>h) (Or.inl ⟨by rfl,?_⟩) hHeld ?_ ?_
     rotate_left
     ·rintro w' ⟨s0,s1,s2,s3⟩
      have c_c0:World.cell? w' ⟨g_c,0,none⟩=some (.int .i64 a0_0):=(Bk.cell s0 0).trans rfl
      have c_c1:World.cell? w' ⟨g_c,1,none⟩=some (.int .i64 a0_1):=(Bk.cell s0 1).trans rfl
      have c_c2:World.cell? w' ⟨g_c,2,none⟩=some (.int .i64 a0_2):=(Bk.cell s0 2).trans rfl
      have c_c3:World.cell? w' ⟨g_c,3,none⟩=some (.int .i64 a0_3):=(Bk.cell s0 3).trans rfl
      have c_c4:World.cell? w' ⟨g_c,4,none⟩=some (.int .i64 a0_4):=(Bk.cell s0 4).trans rfl
      go_simp
      with_reducible rfl
     rotate_left
     ·simp only [Act.put,List.setIfInBounds_toArray,List.set_cons_zero,List.set_cons_succ]
      rfl
     refine one_ (i:=7) (N:=some 70) #[tt,tt,tt,tt,tt,tt,tt,tt,ff,ff,ff,ff,ff] rfl rfl (one_of HT_.out (by kernel_rfl)) (by decide) (fun K hK=>?_)
     obtain⟨s0,s1,s2,s3⟩:=hHeld
     refine goes_ (N:=some 70) Try.func18 (by kernel_rfl) rfl #[.int .i64 n0,.int .i64 a0_0] (by rfl) rfl rfl (by (try simp only [List.map_toArray,List.map_cons,List.map_nil]);first|done|rfl) ?_
     refine(fix_Sub.calls n0 a0_0 _ _ _ D0.out).mono ?_
     rintro e wn ⟨rfl,hb⟩
     refine⟨_,rfl,?_⟩
     refine hK.out _ _ ⟨Bk.below s0 hb,Bk.below s1 hb,Bk.below s2 hb,Bel.step s3 hb⟩ (fun hHeld=>?_)
     clear hK K
     refine norm_ (a':=?_) ?_ ?_
     rotate_left
     ·simp only [Act.put,List.setIfInBounds_toArray,List.set_cons_zero,List.set_cons_succ]
      rfl
     refine pure_ (i:=8) (N:=some 62) (v:=?_) (a':=?_) #[tt,tt,tt,tt,tt,tt,tt,tt,tt,ff,ff,ff,ff] rfl rfl (any_of HT_.out (by kernel_rfl)) (fun _ _ _ h=>h) (Or.inl ⟨by rfl,?_⟩) ?_ ?_
     rotate_left
     ·intro w'
      go_simp
      with_reducible rfl
     rotate_left
     ·simp only [Act.put,List.setIfInBounds_toArray,List.set_cons_zero,List.set_cons_succ]
      rfl
     refine pure_ (i:=9) (N:=some 71) (v:=?_) (a':=?_) #[tt,tt,tt,tt,tt,tt,tt,tt,tt,tt,ff,ff,ff] rfl rfl (any_of HT_.out (by kernel_rfl)) (fun _ _ _ h=>h) (Or.inl ⟨by rfl,?_⟩) ?_ ?_
     rotate_left
     ·intro w'
      go_simp
      with_reducible rfl
     rotate_left
     ·simp only [Act.put,List.setIfInBounds_toArray,List.set_cons_zero,List.set_cons_succ]
      rfl
     refine pure_ (i:=10) (N:=some 72) (v:=?_) (a':=?_) #[tt,tt,tt,tt,tt,tt,tt,tt,tt,tt,tt,ff,ff] rfl rfl (any_of HT_.out (by kernel_rfl)) (fun _ _ _ h=>h) (Or.inl ⟨by rfl,?_⟩) ?_ ?_
     rotate_left
     ·intro w'
      go_simp
      with_reducible rfl
     rotate_left
     ·simp only [Act.put,List.setIfInBounds_toArray,List.set_cons_zero,List.set_cons_succ]
      rfl
     refine pure_ (i:=11) (N:=some 9) (v:=?_) (a':=?_) #[tt,tt,tt,tt,tt,tt,tt,tt,tt,tt,tt,tt,ff] rfl rfl (any_of HT_.out (by kernel_rfl)) (fun _ _ _ h=>h) (Or.inl ⟨by rfl,?_⟩) ?_ ?_
     rotate_left
     ·intro w'
      go_simp
      with_reducible rfl
     rotate_left
     ·simp only [Act.put,List.setIfInBounds_toArray,List.set_cons_zero,List.set_cons_succ]
      rfl
     refine pure_ (i:=12) (N:=some 10) (v:=?_) (a':=?_) #[tt,tt,tt,tt,tt,tt,tt,tt,tt,tt,tt,tt,tt] rfl rfl (any_of HT_.out (by kernel_rfl)) (fun _ _ _ h=>h) (Or.inl ⟨by rfl,?_⟩) ?_ ?_
     rotate_left
     ·intro w'
      go_simp
      with_reducible rfl
     rotate_left
     ·simp only [Act.put,List.setIfInBounds_toArray,List.set_cons_zero,List.set_cons_succ]
      rfl
     refine done_ (done_of HT_.out (by kernel_rfl)) ?_
     clear b_c b_v b_s hB
     obtain⟨b_c,b_v,b_s,hB⟩:=hHeld
     try go_wp2
     go_ret
     exact⟨rfl,hB⟩
end Go.Proofs.Ytonfobdknnlbjaa.B
end
section
set_option linter.unusedVariables false
set_option linter.unusedSimpArgs false
namespace Go.Proofs.Ytonfobdknnlbjaa.Pure
open Go Go.RowKit Go.Proofs.Ytonfobdknnlbjaa.B Go.Proofs.Ytonfobdknnlbjaa.Num Go.Proofs.Ytonfobdknnlbjaa.Wide Go.Proofs.Ytonfobdknnlbjaa.Sum Go.Proofs.Ytonfobdknnlbjaa.Rwide Go.Proofs.Ytonfobdknnlbjaa.Rsum Go.Proofs.Ytonfobdknnlbjaa.Over Go.Proofs.Ytonfobdknnlbjaa.Quot Go.Proofs.Ytonfobdknnlbjaa.Rquot Go.Proofs.Ytonfobdknnlbjaa.Vecn Go.Proofs.Ytonfobdknnlbjaa.Learn Go.Proofs.YtonfobdknnlbjaaW.PrintWords Go.Proofs.YtonfobdknnlbjaaW.PrintLast Go.Proofs.YtonfobdknnlbjaaW.PrintMore
set_option linter.unusedVariables false
theorem farb_in {m n:Int} (hm0:0≤m) (hm1:m≤288230376151711744) (h0:n≤m) (h1:-m≤n):farb m n=false:=by
 unfold farb
 rw [w64 (n:=-m) (by omega) (by omega)]
 simp
 omega
theorem showw_ok {sn b0 b1 b2:Bool} {o:Int × Int × Int × Bool} (h:(showw sn b0 b1 b2 o).2.2.2=true):sn=true∧b0=false∧b1=false∧b2=false∧o.2.2.2=false∧showw sn b0 b1 b2 o=(o.1,o.2.1,o.2.2.1,true):=by
 unfold showw at h ⊢
 by_cases c:(sn && !b0 && !b1 && !b2 && !o.2.2.2)=true
 ·rw [if_pos c]
  simp at c
  exact⟨c.1.1.1.1,c.1.1.1.2,c.1.1.2,c.1.2,c.2,rfl⟩
 ·rw [if_neg c] at h
  cases h
theorem showw_no {sn b0 b1 b2:Bool} {o:Int × Int × Int × Bool} (h:(showw sn b0 b1 b2 o).2.2.2=false):showw sn b0 b1 b2 o=(0,0,0,false):=by
 unfold showw at h ⊢
 by_cases c:(sn && !b0 && !b1 && !b2 && !o.2.2.2)=true
 ·rw [if_pos c] at h
  cases h
 ·rw [if_neg c]
theorem ovv_ok {v g:Int} (hg0:0<g) (hg:cl g=g) (h:(ovv v g).2=false):cl v=v∧(ovv v g).1=cl (ovv v g).1∧2*g*(ovv v g).1≤2*(v*4294967296)+g∧2*(v*4294967296)+g<2*g*(ovv v g).1+2*g:=by
 unfold ovv at h ⊢
 have hs:=cl_sign v
 by_cases h0:cl v=0
 ·rw [if_pos h0] at h ⊢
  have hv:=hs.2.mp h0
  refine⟨by omega,(by show(0:Int)=cl 0;decide),?_,?_⟩<;>(rw [hv];simp only;omega)
 ·rw [if_neg h0,if_neg (by omega)] at h ⊢
  simp only [Bool.or_eq_false_iff] at h
  obtain⟨h1,h2⟩:=h
  unfold chb at h1
  simp at h1 h2
  have hv:=h1.1
  simp only
  rw [h2,hg,hv]
  refine⟨rfl,?_,?_⟩
  ·have h3:=h2
   rw [hg,hv] at h3
   exact h3.symm
  ·unfold rd2
   rw [if_neg (by omega)]
   unfold rdp
   have m:=Int.mul_ediv_add_emod (2*(v*4294967296)+g) (2*g)
   have l:=Int.emod_lt_of_pos (2*(v*4294967296)+g) (show 0<2*g by omega)
   have p:=Int.emod_nonneg (2*(v*4294967296)+g) (show 2*g≠0 by omega)
   omega
theorem back_one {v g b o r:Int} (hg0:0<g) (hg1:g≤1099511627776) (ho:cl o=o) (h1:2*g*o≤2*(v*4294967296)+g) (h2:2*(v*4294967296)+g<2*g*o+2*g) (hv0:-144115188075855872≤v) (hv1:v≤144115188075855872) :
  (tv o g).2=false∧-65536≤(tv o g).1-v∧(tv o g).1-v≤65536:=by
 have hg:cl g=g:=cl_of (by omega) (by omega)
 have e:2*g*o=2*(o*g):=by rw [Int.mul_assoc,Int.mul_comm g]
 rw [e] at h1 h2
 obtain⟨n,hn⟩:∃ n,o*g=n:=⟨_,rfl⟩
 rw [hn] at h1 h2
 have hr:-65536≤rv n-v∧rv n-v≤65536:=by unfold rv;omega
 unfold tv
 rw [ho,hg,hn]
 have hc:cl (rv n)=rv n:=cl_of (by omega) (by omega)
 rw [hc]
 simp only
 exact⟨by simp,hr.1,hr.2⟩
theorem SenseBack (a0_0 a0_1 a0_2 a0_3 a0_4 a1_0 a1_1 a1_2:Int) (w0_0:(Lit.int .i64 a0_0).wf=true) (w0_1:(Lit.int .i64 a0_1).wf=true) (w0_2:(Lit.int .i64 a0_2).wf=true) (w0_3:(Lit.int .i64 a0_3).wf=true) (w0_4:(Lit.int .i64 a0_4).wf=true)
  (w1_0:(Lit.int .i64 a1_0).wf=true) (w1_1:(Lit.int .i64 a1_1).wf=true) (w1_2:(Lit.int .i64 a1_2).wf=true):∃ k,outriggerlaw18_SenseBack.G k a0_0 a0_1 a0_2 a0_3 a0_4 a1_0 a1_1 a1_2:=by
 refine⟨300,?_⟩
 unfold outriggerlaw18_SenseBack.G
 refine⟨_,_,_,_,show_p _ _ _ _ _ _ _ _ 260,?_⟩
 by_cases h:(showv a0_0 a0_1 a0_2 a0_3 a0_4 a1_0 a1_1 a1_2).2.2.2=true
 ·by_cases c1:a0_3<16777216
  ·exact .inr (.inl ⟨h,c1⟩)
  ·by_cases c2:a0_3 > 1099511627776
   ·exact .inr (.inr (.inl ⟨h,c1,c2⟩))
   ·refine .inr (.inr (.inr ⟨h,c1,c2,?_⟩))
    obtain⟨sn,f0,f1,f2,fo,e1⟩:=showw_ok h
    have e2:showv a0_0 a0_1 a0_2 a0_3 a0_4 a1_0 a1_1 a1_2=_:=e1
    obtain⟨g1,g2,g3,g4,g5,g6,g7⟩:=sane5_says sn
    obtain⟨v0,o0,p0,q0⟩:=ovv_ok g5 g4 f0
    obtain⟨v1,o1,p1,q1⟩:=ovv_ok g5 g4 f1
    obtain⟨v2,o2,p2,q2⟩:=ovv_ok g5 g4 f2
    obtain⟨x0,hx0⟩:∃ x,(ovv a1_0 a0_3).1=x:=⟨_,rfl⟩
    obtain⟨x1,hx1⟩:∃ x,(ovv a1_1 a0_3).1=x:=⟨_,rfl⟩
    obtain⟨x2,hx2⟩:∃ x,(ovv a1_2 a0_3).1=x:=⟨_,rfl⟩
    rw [hx0] at o0 p0 q0 e1 e2 fo
    rw [hx1] at o1 p1 q1 e1 e2 fo
    rw [hx2] at o2 p2 q2 e1 e2 fo
    have s0:(showv a0_0 a0_1 a0_2 a0_3 a0_4 a1_0 a1_1 a1_2).1=(av x0 a0_0).1:=by rw [e2];rfl
    have s1:(showv a0_0 a0_1 a0_2 a0_3 a0_4 a1_0 a1_1 a1_2).2.1=(av x1 a0_1).1:=by rw [e2];rfl
    have s2:(showv a0_0 a0_1 a0_2 a0_3 a0_4 a1_0 a1_1 a1_2).2.2.1=(av x2 a0_2).1:=by rw [e2];rfl
    rw [s0,s1,s2]
    refine⟨_,_,_,_,_,_,_,_,_,abs2_is a1_0,abs2_is a1_1,abs2_is a1_2,fsub_is _ _,fsub_is _ _,fsub_is _ _,_,_,_,_,read_p _ _ _ _ _ _ _ _ 296,?_⟩
    unfold outriggerlaw18_SenseBack.K
    intro k1 k2 k3 k4 k5 k6 k7 k8 k9
    have he:=cl_is g6
    have wm:wrap64 (a0_4-65536)=a0_4-65536:=w64 (by omega) (by omega)
    rw [wm] at k1 k4 k7
    have fo2:(av x0 a0_0).2=false∧(av x1 a0_1).2=false∧(av x2 a0_2).2=false:=by
     unfold three at fo
     simpa [Bool.or_eq_false_iff] using fo
    have one:∀ x b:Int,cl x=x→cl b=b→(av x b).2=false→sv (av x b).1 b=(x,false):=by
     intro x b hx hb hf
     unfold av cbad at hf
     rw [hx,hb] at hf
     simp at hf
     unfold av sv cbad
     simp only
     rw [hx,hb,hf,hf,show x+b-b=x by omega,hx]
     simp
    have d0:=one x0 a0_0 o0.symm g1 fo2.1
    have d1:=one x1 a0_1 o1.symm g2 fo2.2.1
    have d2:=one x2 a0_2 o2.symm g3 fo2.2.2
    have ab:∀ v:Int,cl v=v→¬absi (cl v) > 144115188075855872→¬absi (cl v) > a0_4-65536→-144115188075855872≤v∧v≤144115188075855872∧v≤a0_4-65536∧-(a0_4-65536)≤v:=by
     intro v hv h1 h2
     rw [hv] at h1 h2
     unfold absi at h1 h2
     split at h1<;>split at h2<;>omega
    obtain⟨y0,z0,u0,t0⟩:=ab a1_0 v0 k2 k1
    obtain⟨y1,z1,u1,t1⟩:=ab a1_1 v1 k5 k4
    obtain⟨y2,z2,u2,t2⟩:=ab a1_2 v2 k8 k7
    obtain⟨m0,n0,n0'⟩:=back_one (b:=0) (r:=0) g5 (by omega) o0.symm p0 q0 y0 z0
    obtain⟨m1,n1,n1'⟩:=back_one (b:=0) (r:=0) g5 (by omega) o1.symm p1 q1 y1 z1
    obtain⟨m2,n2,n2'⟩:=back_one (b:=0) (r:=0) g5 (by omega) o2.symm p2 q2 y2 z2
    have rr:readv a0_0 a0_1 a0_2 a0_3 a0_4 (av x0 a0_0).1 (av x1 a0_1).1 (av x2 a0_2).1=((tv x0 a0_3).1,(tv x1 a0_3).1,(tv x2 a0_3).1,true):=by
     unfold readv
     have e3:subv a0_0 a0_1 a0_2 (av x0 a0_0).1 (av x1 a0_1).1 (av x2 a0_2).1=(x0,x1,x2,false):=by
      unfold subv three
      rw [d0,d1,d2]
      rfl
     rw [e3]
     refine readw_yes sn rfl ?_ ?_ ?_ ?_
     ·show((tv x0 a0_3).2 || ((tv x1 a0_3).2 || (tv x2 a0_3).2))=false
      rw [m0,m1,m2]
      rfl
     ·exact farb_in g7 he.2 (show(tv x0 a0_3).1≤a0_4 by omega) (show -a0_4≤(tv x0 a0_3).1 by omega)
     ·exact farb_in g7 he.2 (show(tv x1 a0_3).1≤a0_4 by omega) (show -a0_4≤(tv x1 a0_3).1 by omega)
     ·exact farb_in g7 he.2 (show(tv x2 a0_3).1≤a0_4 by omega) (show -a0_4≤(tv x2 a0_3).1 by omega)
    rw [rr]
    refine⟨rfl,?_,?_,?_⟩
    ·show ¬wrap64 ((tv x0 a0_3).1-a1_0) > 65536∧¬wrap64 (a1_0-(tv x0 a0_3).1) > 65536
     rw [w64 (by omega) (by omega),w64 (by omega) (by omega)]
     omega
    ·show ¬wrap64 ((tv x1 a0_3).1-a1_1) > 65536∧¬wrap64 (a1_1-(tv x1 a0_3).1) > 65536
     rw [w64 (by omega) (by omega),w64 (by omega) (by omega)]
     omega
    ·show ¬wrap64 ((tv x2 a0_3).1-a1_2) > 65536∧¬wrap64 (a1_2-(tv x2 a0_3).1) > 65536
     rw [w64 (by omega) (by omega),w64 (by omega) (by omega)]
     omega
 ·have e2:showv a0_0 a0_1 a0_2 a0_3 a0_4 a1_0 a1_1 a1_2=(0,0,0,false):=showw_no (Bool.eq_false_iff.mpr h)
  rw [e2]
  exact .inl ⟨rfl,rfl,rfl,rfl⟩
end Go.Proofs.Ytonfobdknnlbjaa.Pure
end
