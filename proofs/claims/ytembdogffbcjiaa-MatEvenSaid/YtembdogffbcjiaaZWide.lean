/- Lemmas that the row leans on; laid by a program of this project out of longer texts: what the row does not name is left out. -/
import Derived.Test.YtembdogffbcjiaaZNum
import Derived.Test.YtembdogffbcjiaaZB2
import Derived.Test.YtembdogffbcjiaaZB3
import Derived.Test.YtembdogffbcjiaaZB4
import Derived.Test.YtembdogffbcjiaaZB5
import Derived.Test.YtembdogffbcjiaaZB6
import Derived.Test.YtembdogffbcjiaaZB7
import Derived.Test.YtembdogffbcjiaaZB8
import Derived.Test.YtembdogffbcjiaaZB9
import Derived.Test.YtembdogffbcjiaaZB10
import Derived.Test.YtembdogffbcjiaaZB11
import Derived.Test.YtembdogffbcjiaaZB12
import Derived.Test.YtembdogffbcjiaaZB13
import Derived.Test.YtembdogffbcjiaaZB14
import Derived.Test.YtembdogffbcjiaaZB15
import Derived.Test.YtembdogffbcjiaaZB16
import Derived.Test.YtembdogffbcjiaaZB17
namespace Go.Proofs.Ytembdogffbcjiaa.Wide
open Go Go.RowKit Go.Proofs.Ytembdogffbcjiaa.B Go.Proofs.Ytembdogffbcjiaa.Num Go.Proofs.YtembdogffbcjiaaW.PrintWords Go.Proofs.YtembdogffbcjiaaW.PrintLast Go.Proofs.YtembdogffbcjiaaW.PrintMore
def cl (n:Int):Int:=if n < -288230376151711744 then -288230376151711744 else if 288230376151711744<n then 288230376151711744 else n
theorem cl_lo (n:Int):-288230376151711744≤cl n:=by unfold cl;split<;>(try split)<;>omega
theorem cl_hi (n:Int):cl n≤288230376151711744:=by unfold cl;split<;>(try split)<;>omega
theorem clamp_is (a:Int):fix_Clamp.f a=some (cl a,(cl a != a)):=by
 unfold fix_Clamp.f fix_within_int.f
 simp only [Option.bind_some]
 have h:mx (-288230376151711744) (mn a 288230376151711744)=cl a:=by
  unfold mx mn cl
  (repeat' split)<;>omega
 rw [h]
def Sane (a b:Int):Prop:=0≤b∧b≤4611686018427387903∧-2305843009213693952≤a∧a<2305843009213693952
instance (a b:Int):Decidable (Sane a b):=by unfold Sane;infer_instance
def Fits (n:Int):Prop:=-10633823966279326983230456482242756608≤n∧n<10633823966279326983230456482242756608
instance (n:Int):Decidable (Fits n):=by unfold Fits;infer_instance
def kn (a b:Int):Int:=if Sane a b then a*4611686018427387904+b else 0
def hi (n:Int):Int:=n/4611686018427387904
def lo (n:Int):Int:=n%4611686018427387904
theorem hi_zero:hi 0=0:=rfl
theorem lo_zero:lo 0=0:=rfl
theorem pair_of {a b:Int} (h:Sane a b):hi (kn a b)=a∧lo (kn a b)=b:=by
 unfold kn
 rw [if_pos h]
 unfold hi lo
 unfold Sane at h
 omega
theorem kn_bad {a b:Int} (h:¬Sane a b):kn a b=0:=by unfold kn;rw [if_neg h]
theorem sane_is (a b:Int):wide_Sane.f a b=some (decide (Sane a b)):=by
 unfold wide_Sane.f
 by_cases h1:b ≥ 0
 ·by_cases h2:b≤4611686018427387903
  ·by_cases h3:a ≥ -2305843009213693952
   ·rw [if_pos h1,if_pos h2,if_pos h3]
    have:(a<2305843009213693952)↔Sane a b:=by unfold Sane;omega
    exact congrArg some (by rw [Bool.eq_iff_iff];simpa using this)
   ·rw [if_pos h1,if_pos h2,if_neg h3]
    have:¬Sane a b:=by unfold Sane;omega
    simp [this]
  ·rw [if_pos h1,if_neg h2]
   have:¬Sane a b:=by unfold Sane;omega
   simp [this]
 ·rw [if_neg h1]
  have:¬Sane a b:=by unfold Sane;omega
  simp [this]
theorem known_is (a b:Int):wide_known.f a b=some (hi (kn a b),lo (kn a b)):=by
 unfold wide_known.f
 rw [sane_is]
 simp only [Option.bind_some]
 by_cases h:Sane a b
 ·rw [if_pos (decide_eq_true h),(pair_of h).1,(pair_of h).2]
 ·rw [if_neg (by simpa using h),kn_bad h,hi_zero,lo_zero]
theorem bind_of {α β:Type} {o:Option α} {x:α} {f:α→Option β} {r:Option β} (h:o=some x) (g:f x=r):o.bind f=r:=by rw [h];exact g
theorem yes_of {α:Type} {c:Prop} [Decidable c] {a b r:α} (h:c) (g:a=r):(if c then a else b)=r:=by rw [if_pos h];exact g
theorem no_of {α:Type} {c:Prop} [Decidable c] {a b r:α} (h:¬c) (g:b=r):(if c then a else b)=r:=by rw [if_neg h];exact g
end Go.Proofs.Ytembdogffbcjiaa.Wide
