/- Lemmas of the rows, laid by a program. -/
import Derived.Test.YtonfobdknnlbjaaZM11
import Derived.Test.YtonfobdknnlbjaaZM12
import Derived.Test.YtonfobdknnlbjaaZM1
import Derived.Test.YtonfobdknnlbjaaZM2
import Derived.Test.YtonfobdknnlbjaaZM3
import Derived.Test.YtonfobdknnlbjaaZM4
import Derived.Test.YtonfobdknnlbjaaZM5
import Derived.Test.YtonfobdknnlbjaaZM6
import Derived.Test.YtonfobdknnlbjaaZM7
import Derived.Test.YtonfobdknnlbjaaZM8
import Derived.Test.YtonfobdknnlbjaaZM9
import Derived.Test.YtonfobdknnlbjaaZM10
import Derived.Test.YtonfobdknnlbjaaProg
import Derived.Laws.IdiomArrays
import Derived.Lib.SmallJoins
import Derived.Deep.Strs
import Derived.WideOpen
import Derived.ProofKit
import Derived.OpenShut
import Derived.KernelRfl
section
namespace Go.Proofs.Ytonfobdknnlbjaa.Sum
open Go Go.RowKit Go.Proofs.Ytonfobdknnlbjaa.B Go.Proofs.Ytonfobdknnlbjaa.Num Go.Proofs.Ytonfobdknnlbjaa.Wide Go.Proofs.YtonfobdknnlbjaaW.PrintWords Go.Proofs.YtonfobdknnlbjaaW.PrintLast Go.Proofs.YtonfobdknnlbjaaW.PrintMore
theorem w1 (i:Nat) (h:i≤1000):wrap64 ((i:Int)+1)=((i+1:Nat):Int):=by
 rw [w64 (by omega) (by omega)];rfl
def rv (n:Int):Int:=(n+2147483648)/4294967296
theorem round_p (k:Nat) {n:Int} (h0:-5316911983139663491615228241121378304≤n) (h1:n≤5316911983139663491615228241121378304):scale_Round.f (k+1) (hi n) (lo n)=some (cl (rv n),!(cl (rv n) == rv n)):=by
 have hn:Fits n:=by unfold Fits;omega
 have hs:Fits (n+2147483648):=by unfold Fits;omega
 have hv:Fits ((n+2147483648)/2^sh 32):=fits_div hs _
 have h32:(2:Int)^sh 32=4294967296:=by decide
 unfold scale_Round.f
 refine bind_of (of_is _) ?_
 rw [add_p hn (by unfold Fits;omega),addv_ok hs,decide_eq_true hs]
 refine bind_of rfl ?_
 rw [if_pos rfl]
 refine bind_of (down_p hs 32) ?_
 rw [int_p hv]
 refine bind_of rfl ?_
 rw [h32]
 show(if (cl (rv n) == rv n)=true then _ else _)=_
 cases hc:(cl (rv n) == rv n)
 ·rw [if_neg (by simp)];rfl
 ·rw [if_pos rfl]
  exact bind_of (sane_p hn) rfl
theorem schanged_is (a b:Int) (k:Nat):scale_changed.f (k+3) [a,b]=some ((cl a != a) || (cl b != b)):=by
 unfold scale_changed.f
 rw [scale_changed.l0]
 refine yes_of (by simp) (yes_of (by omega) (yes_of (by simp) (bind_of (clamp_is _) ?_)))
 show(if (cl a != a)=true then _ else _)=_
 cases h:(cl a != a)
 ·refine no_of (by simp) ?_
  rw [show wrap64 (0+1)=1 from w64 (by decide) (by decide),scale_changed.l0]
  refine yes_of (by simp) (yes_of (by omega) (yes_of (by simp) (bind_of (clamp_is _) ?_)))
  show(if (cl b != b)=true then _ else _)=_
  cases h2:(cl b != b)
  ·refine no_of (by simp) ?_
   rw [show wrap64 (1+1)=2 from w64 (by decide) (by decide),scale_changed.l0]
   exact no_of (by simp) rfl
  ·exact yes_of rfl rfl
 ·exact yes_of rfl rfl
theorem times_is (a b:Int) (k:Nat):scale_Times.f (k+3) a b=some (cl (rv (cl a*cl b)),!(cl (rv (cl a*cl b)) == rv (cl a*cl b)) || ((cl a != a) || (cl b != b))):=by
 have hb:=mul_fits a b
 unfold scale_Times.f
 refine bind_of (wmul_is a b) (bind_of (round_p (k+2) (by omega) (by omega)) ?_)
 cases hc:(cl (rv (cl a*cl b)) == rv (cl a*cl b))
 ·exact yes_of rfl rfl
 ·exact no_of (by simp) (bind_of (schanged_is a b k) rfl)
end Go.Proofs.Ytonfobdknnlbjaa.Sum
end
section
namespace Go.Proofs.Ytonfobdknnlbjaa.Rwide
open Go Go.RowKit Go.Proofs.Ytonfobdknnlbjaa.B Go.Proofs.Ytonfobdknnlbjaa.Num Go.Proofs.Ytonfobdknnlbjaa.Wide Go.Proofs.YtonfobdknnlbjaaW.PrintWords Go.Proofs.YtonfobdknnlbjaaW.PrintLast Go.Proofs.YtonfobdknnlbjaaW.PrintMore
end Go.Proofs.Ytonfobdknnlbjaa.Rwide
end
section
namespace Go.Proofs.Ytonfobdknnlbjaa.Rsum
open Go Go.RowKit Go.Proofs.Ytonfobdknnlbjaa.B Go.Proofs.Ytonfobdknnlbjaa.Rwide Go.Proofs.Ytonfobdknnlbjaa.Num Go.Proofs.Ytonfobdknnlbjaa.Wide Go.Proofs.Ytonfobdknnlbjaa.Sum Go.Proofs.YtonfobdknnlbjaaW.PrintWords Go.Proofs.YtonfobdknnlbjaaW.PrintLast Go.Proofs.YtonfobdknnlbjaaW.PrintMore
end Go.Proofs.Ytonfobdknnlbjaa.Rsum
end
section
namespace Go.Proofs.Ytonfobdknnlbjaa.Over
open Go Go.RowKit Go.Proofs.Ytonfobdknnlbjaa.B Go.Proofs.Ytonfobdknnlbjaa.Num Go.Proofs.Ytonfobdknnlbjaa.Wide Go.Proofs.YtonfobdknnlbjaaW.PrintWords Go.Proofs.YtonfobdknnlbjaaW.PrintLast Go.Proofs.YtonfobdknnlbjaaW.PrintMore
end Go.Proofs.Ytonfobdknnlbjaa.Over
end
section
namespace Go.Proofs.Ytonfobdknnlbjaa.Quot
open Go Go.RowKit Go.Proofs.Ytonfobdknnlbjaa.B Go.Proofs.Ytonfobdknnlbjaa.Over Go.Proofs.Ytonfobdknnlbjaa.Num Go.Proofs.Ytonfobdknnlbjaa.Wide Go.Proofs.Ytonfobdknnlbjaa.Sum Go.Proofs.YtonfobdknnlbjaaW.PrintWords Go.Proofs.YtonfobdknnlbjaaW.PrintLast Go.Proofs.YtonfobdknnlbjaaW.PrintMore
end Go.Proofs.Ytonfobdknnlbjaa.Quot
end
section
namespace Go.Proofs.Ytonfobdknnlbjaa.Rquot
open Go Go.RowKit Go.Proofs.Ytonfobdknnlbjaa.B Go.Proofs.Ytonfobdknnlbjaa.Over Go.Proofs.Ytonfobdknnlbjaa.Quot Go.Proofs.Ytonfobdknnlbjaa.Rwide Go.Proofs.Ytonfobdknnlbjaa.Rsum Go.Proofs.Ytonfobdknnlbjaa.Num Go.Proofs.Ytonfobdknnlbjaa.Wide Go.Proofs.Ytonfobdknnlbjaa.Sum Go.Proofs.YtonfobdknnlbjaaW.PrintWords Go.Proofs.YtonfobdknnlbjaaW.PrintLast Go.Proofs.YtonfobdknnlbjaaW.PrintMore
end Go.Proofs.Ytonfobdknnlbjaa.Rquot
end
section
namespace Go.Proofs.Ytonfobdknnlbjaa.Vecn
open Go Go.RowKit Go.Proofs.Ytonfobdknnlbjaa.B Go.Proofs.Ytonfobdknnlbjaa.Over Go.Proofs.Ytonfobdknnlbjaa.Quot Go.Proofs.Ytonfobdknnlbjaa.Rquot Go.Proofs.Ytonfobdknnlbjaa.Rwide Go.Proofs.Ytonfobdknnlbjaa.Rsum Go.Proofs.Ytonfobdknnlbjaa.Num Go.Proofs.Ytonfobdknnlbjaa.Wide Go.Proofs.Ytonfobdknnlbjaa.Sum Go.Proofs.YtonfobdknnlbjaaW.PrintWords Go.Proofs.YtonfobdknnlbjaaW.PrintLast Go.Proofs.YtonfobdknnlbjaaW.PrintMore
def tv (a b:Int):Int × Bool:=(cl (rv (cl a*cl b)),!(cl (rv (cl a*cl b)) == rv (cl a*cl b)) || ((cl a != a) || (cl b != b)))
theorem times2_is (a b:Int) (k:Nat):scale_Times.f (k+3) a b=some (tv a b):=times_is a b k
theorem each_is {F:Int→Option (Int × Bool)} {x y z:Int × Bool} (h0:F 0=some x) (h1:F 1=some y) (h2:F 2=some z):vec_each.f F=some (x.1,y.1,z.1,x.2 || (y.2 || z.2)):=by
 obtain⟨x,a⟩:=x
 obtain⟨y,b⟩:=y
 obtain⟨z,c⟩:=z
 unfold vec_each.f
 refine bind_of h0 (bind_of h1 ?_)
 show(if a=true then _ else _)=_
 cases a
 ·refine no_of (by decide) (bind_of h2 ?_)
  show(if b=true then _ else _)=_
  cases b<;>rfl
 ·exact yes_of rfl (bind_of h2 rfl)
def sv (a b:Int):Int × Bool:=(cl (cl a-cl b),cbad a b (cl a-cl b))
def three (x y z:Int × Bool):Int × Int × Int × Bool:=(x.1,y.1,z.1,x.2 || (y.2 || z.2))
theorem vsub_is (a b c d e f:Int):vec_Sub.f a b c d e f=some (three (sv a d) (sv b e) (sv c f)):=by
 unfold vec_Sub.f
 refine bind_of (each_is (x:=sv a d) (y:=sv b e) (z:=sv c f) ?_ ?_ ?_) rfl
 ·exact yes_of rfl (bind_of (fsub_is a d) rfl)
 ·exact no_of (by decide) (yes_of rfl (bind_of (fsub_is b e) rfl))
 ·exact no_of (by decide) (no_of (by decide) (yes_of rfl (bind_of (fsub_is c f) rfl)))
theorem vscale_is (a b c s:Int) (k:Nat):vec_Scale.f (k+3) a b c s=some (three (tv a s) (tv b s) (tv c s)):=by
 unfold vec_Scale.f
 have h0:vec_Scale_1.f (k+3) 0 a b c s=some (tv a s):=yes_of rfl (bind_of (times2_is a s k) rfl)
 refine bind_of h0 (bind_of (each_is (x:=tv a s) (y:=tv b s) (z:=tv c s) h0 ?_ ?_) rfl)
 ·exact no_of (by decide) (yes_of rfl (bind_of (times2_is b s k) rfl))
 ·exact no_of (by decide) (no_of (by decide) (yes_of rfl (bind_of (times2_is c s k) rfl)))
def vb (n:Int):Bool:=!(cl n != n)
theorem value_is (n:Int):sense_value.f n=some (vb n):=bind_of (clamp_is n) rfl
theorem contains3 {F:Int→Option Bool} {p q r:Bool} {x y z:Int} (hx:F x=some p) (hy:F y=some q) (hz:F z=some r) (k:Nat):slices_ContainsFunc_int_int.f F (k+4) [x,y,z]=some (p || (q || r)):=by
 have w:∀ i:Int,0≤i→i≤5→wrap64 (i+1)=i+1:=fun i a b=>w64 (by omega) (by omega)
 unfold slices_ContainsFunc_int_int.f slices_IndexFunc_int_int.f
 show(slices_IndexFunc_int_int.l0 F (k+4) [x,y,z] 3 0).bind _=_
 rw [slices_IndexFunc_int_int.l0]
 cases p
 ·cases q
  ·cases r
   ·refine bind_of (x:=(-1:Int)) (yes_of (by first|decide|simp) (yes_of (by first|decide|simp) (yes_of (by first|decide|simp) (bind_of hx (no_of (by decide) ?_))))) rfl
    rw [w 0 (by decide) (by decide),slices_IndexFunc_int_int.l0]
    refine yes_of (by first|decide|simp) (yes_of (by first|decide|simp) (yes_of (by first|decide|simp) (bind_of hy (no_of (by decide) ?_))))
    rw [w _ (by decide) (by decide),slices_IndexFunc_int_int.l0]
    refine yes_of (by first|decide|simp) (yes_of (by first|decide|simp) (yes_of (by first|decide|simp) (bind_of hz (no_of (by decide) ?_))))
    rw [w _ (by decide) (by decide),slices_IndexFunc_int_int.l0]
    exact no_of (by first|decide|simp) rfl
   ·refine bind_of (x:=(2:Int)) (yes_of (by first|decide|simp) (yes_of (by first|decide|simp) (yes_of (by first|decide|simp) (bind_of hx (no_of (by decide) ?_))))) rfl
    rw [w 0 (by decide) (by decide),slices_IndexFunc_int_int.l0]
    refine yes_of (by first|decide|simp) (yes_of (by first|decide|simp) (yes_of (by first|decide|simp) (bind_of hy (no_of (by decide) ?_))))
    rw [w _ (by decide) (by decide),slices_IndexFunc_int_int.l0]
    exact yes_of (by first|decide|simp) (yes_of (by first|decide|simp) (yes_of (by first|decide|simp) (bind_of hz (yes_of rfl rfl))))
  ·refine bind_of (x:=(1:Int)) (yes_of (by first|decide|simp) (yes_of (by first|decide|simp) (yes_of (by first|decide|simp) (bind_of hx (no_of (by decide) ?_))))) rfl
   rw [w 0 (by decide) (by decide),slices_IndexFunc_int_int.l0]
   exact yes_of (by first|decide|simp) (yes_of (by first|decide|simp) (yes_of (by first|decide|simp) (bind_of hy (yes_of rfl rfl))))
 ·exact bind_of (x:=(0:Int)) (yes_of (by first|decide|simp) (yes_of (by first|decide|simp) (yes_of (by first|decide|simp) (bind_of hx (yes_of rfl rfl))))) rfl
theorem values_is3 (a b c:Int) (k:Nat):sense_values.f (k+4) a b c=some (vb a && (vb b && vb c)):=by
 unfold sense_values.f
 have h:∀ n,sense_values_1.f n=some (!vb n):=fun n=>bind_of (value_is n) rfl
 refine bind_of (contains3 (h a) (h b) (h c) k) ?_
 cases vb a<;>cases vb b<;>cases vb c<;>rfl
def sane5 (a b c d e:Int):Bool:=(vb a && (vb b && vb c)) && (vb d && (decide (d > 0) && (vb e && decide (e ≥ 0))))
theorem sane5_is (a b c d e:Int) (k:Nat):sense_Sane.f (k+4) a b c d e=some (sane5 a b c d e):=by
 unfold sense_Sane.f sane5
 refine bind_of (values_is3 a b c k) ?_
 cases (vb a && (vb b && vb c))
 ·exact no_of (by decide) rfl
 ·refine yes_of rfl (bind_of (value_is d) ?_)
  cases vb d
  ·exact no_of (by decide) rfl
  ·refine yes_of rfl ?_
   by_cases h:d > 0
   ·refine yes_of h (bind_of (value_is e) ?_)
    cases vb e
    ·exact no_of (by decide) (by simp)
    ·exact yes_of rfl (by simp [h])
   ·exact no_of h (by simp [h])
def farb (m n:Int):Bool:=decide (n > m) || decide (n<wrap64 (-m))
theorem far_is (a b c d e n:Int):sense_cal_far.f a b c d e n=some (farb e n):=by
 unfold sense_cal_far.f farb
 by_cases h:n > e
 ·exact yes_of h (by simp [h])
 ·exact no_of h (by simp [h])
def readw (sn:Bool) (e:Int) (sb:Bool) (r:Int × Int × Int × Bool):Int × Int × Int × Bool :=
  if (sn && !sb && !r.2.2.2)=true then (if (farb e r.1 || (farb e r.2.1 || farb e r.2.2.1))=true then (0,0,0,false) else (r.1,r.2.1,r.2.2.1,true)) else (0,0,0,false)
def subv (a b c x y z:Int):Int × Int × Int × Bool:=three (sv x a) (sv y b) (sv z c)
def scv (d:Int) (s:Int × Int × Int × Bool):Int × Int × Int × Bool:=three (tv s.1 d) (tv s.2.1 d) (tv s.2.2.1 d)
def readv (a b c d e x y z:Int):Int × Int × Int × Bool:=readw (sane5 a b c d e) e (subv a b c x y z).2.2.2 (scv d (subv a b c x y z))
theorem readw_eq (sn sb:Bool) (e:Int) (r:Int × Int × Int × Bool) {F:Int→Option Bool} (hF:∀ n,F n=some (farb e n)) (k:Nat) :
  (if (sn && !sb && !r.2.2.2)=true then (slices_ContainsFunc_int_int.f F (k+4) [r.1,r.2.1,r.2.2.1]).bind (fun c=>if c=true then some (0,0,0,false) else some (r.1,r.2.1,r.2.2.1,true)) else some (0,0,0,false))=some (readw sn e sb r):=by
 unfold readw
 by_cases h:(sn && !sb && !r.2.2.2)=true
 ·rw [if_pos h,if_pos h]
  refine bind_of (contains3 (hF _) (hF _) (hF _) k) ?_
  split<;>rfl
 ·rw [if_neg h,if_neg h]
theorem read_is (a b c d e x y z:Int) (k:Nat):sense_Read.f (k+4) a b c d e x y z=some (readv a b c d e x y z):=by
 unfold sense_Read.f readv
 exact bind_of (vsub_is x y z a b c) (bind_of (vscale_is _ _ _ d (k+1)) (bind_of (sane5_is a b c d e k) (readw_eq _ _ e _ (far_is a b c d e) k)))
theorem read_p (a b c d e x y z:Int) (k:Nat):sense_Read.f (k+4) a b c d e x y z=some ((readv a b c d e x y z).1,(readv a b c d e x y z).2.1,(readv a b c d e x y z).2.2.1,(readv a b c d e x y z).2.2.2):=read_is a b c d e x y z k
theorem readw_ok {sn sb:Bool} {e:Int} {r:Int × Int × Int × Bool} (h:(readw sn e sb r).2.2.2=true):sn=true∧sb=false∧r.2.2.2=false∧farb e r.1=false∧farb e r.2.1=false∧farb e r.2.2.1=false∧readw sn e sb r=(r.1,r.2.1,r.2.2.1,true):=by
 unfold readw at h ⊢
 by_cases c:(sn && !sb && !r.2.2.2)=true
 ·rw [if_pos c] at h ⊢
  by_cases c2:(farb e r.1 || (farb e r.2.1 || farb e r.2.2.1))=true
  ·rw [if_pos c2] at h
   cases h
  ·rw [if_neg c2]
   simp at c c2
   exact⟨c.1.1,c.1.2,c.2,c2.1,c2.2.1,c2.2.2,rfl⟩
 ·rw [if_neg c] at h
  cases h
theorem readw_no {sn sb:Bool} {e:Int} {r:Int × Int × Int × Bool} (h:(readw sn e sb r).2.2.2=false):readw sn e sb r=(0,0,0,false):=by
 unfold readw at h ⊢
 by_cases c:(sn && !sb && !r.2.2.2)=true
 ·rw [if_pos c] at h ⊢
  by_cases c2:(farb e r.1 || (farb e r.2.1 || farb e r.2.2.1))=true
  ·rw [if_pos c2]
  ·rw [if_neg c2] at h
   cases h
 ·rw [if_neg c]
theorem readw_yes {sn sb:Bool} {e:Int} {r:Int × Int × Int × Bool} (h1:sn=true) (h2:sb=false) (h3:r.2.2.2=false) (h4:farb e r.1=false) (h5:farb e r.2.1=false) (h6:farb e r.2.2.1=false):readw sn e sb r=(r.1,r.2.1,r.2.2.1,true):=by
 unfold readw
 rw [h1,h2,h3,h4,h5,h6]
 rfl
theorem sane5_says {a b c d e:Int} (h:sane5 a b c d e=true):cl a=a∧cl b=b∧cl c=c∧cl d=d∧0<d∧cl e=e∧0≤e:=by
 unfold sane5 vb at h
 simp at h
 obtain⟨⟨h1,h2,h3⟩,h4,h5,h6,h7⟩:=h
 exact⟨h1,h2,h3,h4,h5,h6,h7⟩
theorem sane5_mk {a b c d e:Int} (h1:cl a=a) (h2:cl b=b) (h3:cl c=c) (h4:cl d=d) (h5:0<d) (h6:cl e=e) (h7:0≤e):sane5 a b c d e=true:=by
 unfold sane5 vb
 simp [h1,h2,h3,h4,h5,h6,h7]
theorem cl_is {a:Int} (h:cl a=a):-288230376151711744≤a∧a≤288230376151711744:=by
 have:=cl_lo a
 have:=cl_hi a
 omega
theorem i64_of {a:Int} (h:(Lit.int .i64 a).wf=true):-9223372036854775808≤a∧a≤9223372036854775807:=by
 have e0:IntKind.i64.min=-9223372036854775808:=by decide
 have e1:IntKind.i64.max=9223372036854775807:=by decide
 simp [Lit.wf,e0,e1] at h
 omega
end Go.Proofs.Ytonfobdknnlbjaa.Vecn
end
section
namespace Go.Proofs.Ytonfobdknnlbjaa
open Go Go.ChangeShapes Go.WideShapes Go.ChangeAt Go.RowKit Go.Joins Go.Deep
theorem array5 {α:Type} {cs:Array α} (h:cs.size=5):∃ c0 c1 c2 c3 c4,cs=#[c0,c1,c2,c3,c4]:=by
 obtain⟨l⟩:=cs
 match l,h with
 | [c0,c1,c2,c3,c4],_=>exact⟨c0,c1,c2,c3,c4,rfl⟩
theorem cells3:Try.prog.cellsOf 3=1:=by kernel_rfl
theorem cells22:Try.prog.cellsOf 22=3:=by kernel_rfl
theorem cells24:Try.prog.cellsOf 24=5:=by kernel_rfl
theorem int_cell {H:Type} {enc:TypeId × Value→H} {w:World} {base:Nat} {sp:Nat→Bool} {held:Bool} {fuel:Nat} {c:Value} {y:DataW H × List MemPlace}
  (h:DataW.trod enc Try.prog w base sp held fuel 3 [c]=some y):∃ n,c=.int .i64 n∧(Lit.int .i64 n).wf=true:=by
 obtain⟨n,e,-,wf⟩:=DataW.trod_int Try.underlying3 h
 simp at e
 exact⟨n,e,wf⟩
theorem array3 {α:Type} {cs:Array α} (h:cs.size=3):∃ c0 c1 c2,cs=#[c0,c1,c2]:=by
 obtain⟨l⟩:=cs
 match l,h with
 | [c0,c1,c2],_=>exact⟨c0,c1,c2,rfl⟩
theorem open_cal {H:Type} {enc:TypeId × Value→H} {w:World} {base:Nat} {sp:Nat→Bool} {held:Bool} {r:Reach} {b0:Nat} {v:Value} {d:DataW H} {p:List MemPlace}
  (hv:Value.okWide Try.prog w r b0 24 v) (h:DataW.Trod enc Try.prog w base sp held 24 v d p) :
  ∃ a b c e f:Int,v=.agg #[.int .i64 a,.int .i64 b,.int .i64 c,.int .i64 e,.int .i64 f]∧(Lit.int .i64 a).wf=true∧(Lit.int .i64 b).wf=true∧(Lit.int .i64 c).wf=true∧(Lit.int .i64 e).wf=true∧(Lit.int .i64 f).wf=true:=by
 obtain⟨cs,rfl,hsz⟩:=okWide_struct Try.underlying24 hv
 obtain⟨c0,c1,c2,c3,c4,rfl⟩:=array5 (hsz.trans cells24)
 obtain⟨fuel,hf⟩:=h
 obtain⟨y0,y1,y2,n,_,_,h0,h1,h2⟩:=trod_struct3 Try.underlying24 hf
 simp [Value.cells,cells3,cells22] at h0 h1 h2
 obtain⟨z0,z1,z2,m,_,g0,g1,g2⟩:=trod_array3 Try.underlying22 cells3 h0
 obtain⟨a,rfl,wa⟩:=int_cell g0
 obtain⟨b,rfl,wb⟩:=int_cell g1
 obtain⟨c,rfl,wc⟩:=int_cell g2
 obtain⟨e,rfl,we⟩:=int_cell h1
 obtain⟨f,rfl,wf⟩:=int_cell h2
 exact⟨a,b,c,e,f,rfl,wa,wb,wc,we,wf⟩
theorem okWide_array {P:Program} {w:World} {r:Reach} {base:Nat} {t e:TypeId} {n:Nat} {v:Value} (ht:P.underlying t=some (.array n e)) (h:Value.okWide P w r base t v):∃ cs,v=.agg cs∧cs.size=P.cellsOf t:=by
 simp only [Value.okWide,ht] at h
 obtain⟨cs,h1,h2,_⟩:=h
 exact⟨cs,h1,h2⟩
theorem open_arr {H:Type} {enc:TypeId × Value→H} {w:World} {base:Nat} {sp:Nat→Bool} {held:Bool} {r:Reach} {b0:Nat} {v:Value} {d:DataW H} {p:List MemPlace}
  (hv:Value.okWide Try.prog w r b0 22 v) (h:DataW.Trod enc Try.prog w base sp held 22 v d p) :
  ∃ a b c:Int,v=.agg #[.int .i64 a,.int .i64 b,.int .i64 c]∧(Lit.int .i64 a).wf=true∧(Lit.int .i64 b).wf=true∧(Lit.int .i64 c).wf=true:=by
 obtain⟨cs,rfl,hsz⟩:=okWide_array Try.underlying22 hv
 obtain⟨c0,c1,c2,rfl⟩:=array3 (hsz.trans cells22)
 obtain⟨fuel,hf⟩:=h
 obtain⟨z0,z1,z2,m,_,g0,g1,g2⟩:=trod_array3 Try.underlying22 cells3 hf
 obtain⟨a,rfl,wa⟩:=int_cell g0
 obtain⟨b,rfl,wb⟩:=int_cell g1
 obtain⟨c,rfl,wc⟩:=int_cell g2
 exact⟨a,b,c,rfl,wa,wb,wc⟩
end Go.Proofs.Ytonfobdknnlbjaa
end
