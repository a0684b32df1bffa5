/- Lemmas of the rows, laid by a program. -/
import Derived.Test.YtonfobdknnlbjaaYM8
import Derived.Test.YtonfobdknnlbjaaYM1
import Derived.Test.YtonfobdknnlbjaaYM2
import Derived.Test.YtonfobdknnlbjaaYM3
import Derived.Test.YtonfobdknnlbjaaYM4
import Derived.Test.YtonfobdknnlbjaaYM5
import Derived.Test.YtonfobdknnlbjaaYM6
import Derived.Test.YtonfobdknnlbjaaYM7
section
set_option linter.unusedVariables false
set_option linter.unusedSimpArgs false
namespace Go.Proofs.Ytonfobdknnlbjaa.Wide
open Go Go.RowKit Go.Proofs.Ytonfobdknnlbjaa.B Go.Proofs.Ytonfobdknnlbjaa.Num Go.Proofs.YtonfobdknnlbjaaW.PrintWords Go.Proofs.YtonfobdknnlbjaaW.PrintLast Go.Proofs.YtonfobdknnlbjaaW.PrintMore
def cl (n:Int):Int:=if n < -288230376151711744 then -288230376151711744 else if 288230376151711744<n then 288230376151711744 else n
theorem cl_lo (n:Int):-288230376151711744≤cl n:=by unfold cl;split<;>(try split)<;>omega
theorem cl_hi (n:Int):cl n≤288230376151711744:=by unfold cl;split<;>(try split)<;>omega
theorem fknown_is (a:Int):fix_known.f a=some (cl a):=by
 unfold fix_known.f fix_within_int.f
 simp only [Option.bind_some]
 congr 1
 unfold mx mn cl
 (repeat' split)<;>omega
theorem clamp_is (a:Int):fix_Clamp.f a=some (cl a,(cl a != a)):=by
 unfold fix_Clamp.f fix_within_int.f
 simp only [Option.bind_some]
 have h:mx (-288230376151711744) (mn a 288230376151711744)=cl a:=by
  unfold mx mn cl
  (repeat' split)<;>omega
 rw [h]
theorem abs_is (a:Int):fix_Abs.f a=some (mx (cl a) (- cl a)):=by
 have a0:=cl_lo a
 have a1:=cl_hi a
 unfold fix_Abs.f
 simp only [fknown_is,Option.bind_some]
 rw [w64 (n:=- cl a) (by omega) (by omega)]
def Sane (a b:Int):Prop:=0≤b∧b≤4611686018427387903∧-2305843009213693952≤a∧a<2305843009213693952
instance (a b:Int):Decidable (Sane a b):=by unfold Sane;infer_instance
def Fits (n:Int):Prop:=-10633823966279326983230456482242756608≤n∧n<10633823966279326983230456482242756608
instance (n:Int):Decidable (Fits n):=by unfold Fits;infer_instance
def kn (a b:Int):Int:=if Sane a b then a*4611686018427387904+b else 0
def hi (n:Int):Int:=n/4611686018427387904
def lo (n:Int):Int:=n%4611686018427387904
theorem lo_bd (n:Int):0≤lo n∧lo n≤4611686018427387903:=by unfold lo;omega
theorem hi_lo (n:Int):hi n*4611686018427387904+lo n=n:=by unfold hi lo;omega
theorem hi_bd {n:Int} (h:Fits n):-2305843009213693952≤hi n∧hi n<2305843009213693952:=by unfold hi;unfold Fits at h;omega
theorem sane_pair {n:Int} (h:Fits n):Sane (hi n) (lo n):=⟨(lo_bd n).1,(lo_bd n).2,(hi_bd h).1,(hi_bd h).2⟩
theorem kn_pair {n:Int} (h:Fits n):kn (hi n) (lo n)=n:=by unfold kn;rw [if_pos (sane_pair h),hi_lo]
theorem kn_fits (a b:Int):Fits (kn a b):=by
 unfold kn Fits
 split
 ·rename_i h
  unfold Sane at h
  omega
 ·omega
theorem fits_zero:Fits 0:=by unfold Fits;omega
theorem hi_zero:hi 0=0:=rfl
theorem lo_zero:lo 0=0:=rfl
theorem pair_of {a b:Int} (h:Sane a b):hi (kn a b)=a∧lo (kn a b)=b:=by
 unfold kn
 rw [if_pos h]
 unfold hi lo
 unfold Sane at h
 omega
theorem kn_bad {a b:Int} (h:¬Sane a b):kn a b=0:=by unfold kn;rw [if_neg h]
theorem sane_is (a b:Int):wide_Sane.f a b=some (decide (Sane a b)):=by
 unfold wide_Sane.f
 by_cases h1:b ≥ 0
 ·by_cases h2:b≤4611686018427387903
  ·by_cases h3:a ≥ -2305843009213693952
   ·rw [if_pos h1,if_pos h2,if_pos h3]
    have:(a<2305843009213693952)↔Sane a b:=by unfold Sane;omega
    exact congrArg some (by rw [Bool.eq_iff_iff];simpa using this)
   ·rw [if_pos h1,if_pos h2,if_neg h3]
    have:¬Sane a b:=by unfold Sane;omega
    simp [this]
  ·rw [if_pos h1,if_neg h2]
   have:¬Sane a b:=by unfold Sane;omega
   simp [this]
 ·rw [if_neg h1]
  have:¬Sane a b:=by unfold Sane;omega
  simp [this]
theorem known_is (a b:Int):wide_known.f a b=some (hi (kn a b),lo (kn a b)):=by
 unfold wide_known.f
 rw [sane_is]
 simp only [Option.bind_some]
 by_cases h:Sane a b
 ·rw [if_pos (decide_eq_true h),(pair_of h).1,(pair_of h).2]
 ·rw [if_neg (by simpa using h),kn_bad h,hi_zero,lo_zero]
theorem of_is (n:Int):wide_Of.f n=some (hi n,lo n):=by
 unfold wide_Of.f hi lo
 rw [band62]
theorem bind_of {α β:Type} {o:Option α} {x:α} {f:α→Option β} {r:Option β} (h:o=some x) (g:f x=r):o.bind f=r:=by rw [h];exact g
def addv (x y:Int):Int:=if Fits (x+y) then x+y else 0
theorem add_is (a b c d:Int):wide_Add.f a b c d=some (hi (addv (kn a b) (kn c d)),lo (addv (kn a b) (kn c d)),decide (Fits (kn a b+kn c d))):=by
 have hx:=kn_fits a b
 have hy:=kn_fits c d
 unfold wide_Add.f
 refine bind_of (known_is a b) ?_
 refine bind_of (known_is c d) ?_
 generalize kn a b=x at *
 generalize kn c d=y at *
 have hx1:=hi_bd hx
 have hy1:=hi_bd hy
 have hx2:=lo_bd x
 have hy2:=lo_bd y
 have hx3:=hi_lo x
 have hy3:=hi_lo y
 have e1:IntKind.u64.wrap (lo x)=lo x:=wu64 (by omega) (by omega)
 have e2:IntKind.u64.wrap (lo y)=lo y:=wu64 (by omega) (by omega)
 have e3:IntKind.u64.wrap (lo x+lo y)=lo x+lo y:=wu64 (by omega) (by omega)
 have e4:Go.bits .and .u64 (lo x+lo y) 4611686018427387903=(lo x+lo y)%4611686018427387904:=bandu62 _
 have e5:wrap64 ((lo x+lo y)/4611686018427387904)=(lo x+lo y)/4611686018427387904:=w64 (by omega) (by omega)
 have e6:wrap64 (hi x+hi y)=hi x+hi y:=w64 (by omega) (by omega)
 have e7:wrap64 (hi x+hi y+(lo x+lo y)/4611686018427387904)=hi x+hi y+(lo x+lo y)/4611686018427387904:=w64 (by omega) (by omega)
 have e8:wrap64 ((lo x+lo y)%4611686018427387904)=(lo x+lo y)%4611686018427387904:=w64 (by omega) (by omega)
 have p1:hi x+hi y+(lo x+lo y)/4611686018427387904=hi (x+y):=by unfold hi lo at *;omega
 have p2:(lo x+lo y)%4611686018427387904=lo (x+y):=by unfold lo;omega
 have q1:wrap64 (wrap64 (hi x+hi y)+wrap64 (IntKind.u64.wrap (IntKind.u64.wrap (lo x)+IntKind.u64.wrap (lo y))/4611686018427387904))=hi (x+y):=by
  rw [e1,e2,e3,e5,e6,e7,p1]
 have q2:wrap64 (Go.bits .and .u64 (IntKind.u64.wrap (IntKind.u64.wrap (lo x)+IntKind.u64.wrap (lo y))) 4611686018427387903)=lo (x+y):=by
  rw [e1,e2,e3,e4,e8,p2]
 have hk:=known_is (hi (x+y)) (lo (x+y))
 clear e1 e2 e3 e4 e5 e6 e7 e8 p1 p2
 generalize wrap64 (wrap64 (hi x+hi y)+wrap64 (IntKind.u64.wrap (IntKind.u64.wrap (lo x)+IntKind.u64.wrap (lo y))/4611686018427387904))=A at q1 ⊢
 generalize wrap64 (Go.bits .and .u64 (IntKind.u64.wrap (IntKind.u64.wrap (lo x)+IntKind.u64.wrap (lo y))) 4611686018427387903)=B at q2 ⊢
 subst q1 q2
 refine bind_of hk ?_
 by_cases h:Fits (x+y)
 ·have ea:addv x y=x+y:=by unfold addv;rw [if_pos h]
  rw [kn_pair h,if_neg (by simp),ea,decide_eq_true h]
 ·have ea:addv x y=0:=by unfold addv;rw [if_neg h]
  have hs:¬Sane (hi (x+y)) (lo (x+y)):=by
   intro hs
   apply h
   unfold Sane at hs
   unfold Fits
   have:=hi_lo (x+y)
   omega
  have hn:¬x+y=0:=by intro e;apply h;rw [e];exact fits_zero
  rw [kn_bad hs,hi_zero,lo_zero,if_pos,ea,decide_eq_false h,hi_zero,lo_zero]
  have:=hi_lo (x+y)
  simp only [Bool.or_eq_true,Bool.not_eq_true',beq_eq_false_iff_ne]
  omega
theorem lowneg {a b:Int} (h0:0≤b) (h1:b≤4611686018427387903) (h2:-4611686018427387904≤a) (h3:a≤4611686018427387904) :
  wide_neg.f a b=some (hi (-(a*4611686018427387904+b)),lo (-(a*4611686018427387904+b))):=by
 unfold wide_neg.f
 by_cases h:b=0
 ·rw [if_pos h,w64 (by omega) (by omega)]
  subst h
  have e1:hi (-(a*4611686018427387904+0))=-a:=by unfold hi;omega
  have e2:lo (-(a*4611686018427387904+0))=0:=by unfold lo;omega
  rw [e1,e2]
 ·rw [if_neg h,bnot64 a (by omega) (by omega),w64 (by omega) (by omega)]
  have e1:hi (-(a*4611686018427387904+b))=-1-a:=by unfold hi;omega
  have e2:lo (-(a*4611686018427387904+b))=4611686018427387904-b:=by unfold lo;omega
  rw [e1,e2]
theorem int_is (k:Nat) (a b:Int):wide_Int.f (k+1) a b=some (cl (kn a b),(cl (kn a b) == kn a b)):=by
 have hx:=kn_fits a b
 unfold wide_Int.f
 refine bind_of (known_is a b) ?_
 generalize kn a b=x at *
 have h1:=lo_bd x
 have h2:=hi_lo x
 have hb:=hi_bd hx
 by_cases c0:hi x=0
 ·have e1:wrap64 (wrap64 (hi x*4611686018427387904)+lo x)=x:=by
   rw [w64 (n:=hi x*4611686018427387904) (by omega) (by omega),w64 (by omega) (by omega)]
   omega
  rw [if_pos c0]
  simp only [wide_Int.j0,if_true,e1,clamp_is,Option.bind_some]
  congr 2
  rw [Bool.eq_iff_iff]
  simp
 ·by_cases c1:hi x=-1
  ·have e1:wrap64 (wrap64 (hi x*4611686018427387904)+lo x)=x:=by
    rw [w64 (n:=hi x*4611686018427387904) (by omega) (by omega),w64 (by omega) (by omega)]
    omega
   rw [if_neg c0,c1] at *
   simp only [wide_Int.j0,beq_self_eq_true,if_true,e1,clamp_is,Option.bind_some]
   congr 2
   rw [Bool.eq_iff_iff]
   simp
  ·have c2:(hi x == -1)=false:=by simpa using c1
   rw [if_neg c0]
   simp only [wide_Int.j0,c2,Bool.false_eq_true,if_false]
   by_cases c3:hi x<0
   ·rw [if_pos c3]
    have e:cl x=-288230376151711744:=by unfold cl;(repeat' split)<;>omega
    rw [e]
    congr 2
    symm
    simp
    omega
   ·rw [if_neg c3]
    have e:cl x=288230376151711744:=by unfold cl;(repeat' split)<;>omega
    rw [e]
    congr 2
    symm
    simp
    omega
theorem mul64_is {x y:Int} (hx0:0≤x) (hx1:x≤288230376151711744) (hy0:0≤y) (hy1:y≤288230376151711744) :
  bits_Mul64.f x y=some (x*y/18446744073709551616,x*y%18446744073709551616):=by
 unfold bits_Mul64.f
 rw [bandu32,bandu32]
 have ex:x=x/4294967296*4294967296+x%4294967296:=by omega
 have ey:y=y/4294967296*4294967296+y%4294967296:=by omega
 have bx1:0≤x/4294967296:=by omega
 have bx2:x/4294967296≤67108864:=by omega
 have bx3:0≤x%4294967296:=by omega
 have bx4:x%4294967296≤4294967295:=by omega
 have by1:0≤y/4294967296:=by omega
 have by2:y/4294967296≤67108864:=by omega
 have by3:0≤y%4294967296:=by omega
 have by4:y%4294967296≤4294967295:=by omega
 generalize x/4294967296=p at *
 generalize x%4294967296=q at *
 generalize y/4294967296=r at *
 generalize y%4294967296=s at *
 subst ex ey
 have b1:0≤p*r:=Int.mul_nonneg bx1 by1
 have b2:p*r≤67108864*67108864:=Int.mul_le_mul bx2 by2 by1 (by decide)
 have b3:0≤p*s:=Int.mul_nonneg bx1 by3
 have b4:p*s≤67108864*4294967295:=Int.mul_le_mul bx2 by4 by3 (by decide)
 have b5:0≤q*r:=Int.mul_nonneg bx3 by1
 have b6:q*r≤4294967295*67108864:=Int.mul_le_mul bx4 by2 by1 (by decide)
 have b7:0≤q*s:=Int.mul_nonneg bx3 by3
 have b8:q*s≤4294967295*4294967295:=Int.mul_le_mul bx4 by4 by3 (by decide)
 have hp:(p*4294967296+q)*(r*4294967296+s)=p*r*18446744073709551616+(p*s+q*r)*4294967296+q*s:=by
  grind
 rw [hp,bandu32]
 generalize p*r=a at *
 generalize p*s=b at *
 generalize q*r=c at *
 generalize q*s=d at *
 rw [wu64 (n:=d) (by omega) (by omega),wu64 (n:=b) (by omega) (by omega),wu64 (n:=a) (by omega) (by omega),wu64 (n:=c) (by omega) (by omega)]
 rw [wu64 (n:=b+d/4294967296) (by omega) (by omega)]
 rw [wu64 (n:=a+(b+d/4294967296)/4294967296) (by omega) (by omega)]
 rw [wu64 (n:=(b+d/4294967296)%4294967296+c) (by omega) (by omega)]
 rw [wu64 (n:=a+(b+d/4294967296)/4294967296+((b+d/4294967296)%4294967296+c)/4294967296) (by omega) (by omega),u64_wrap]
 have g1:a+(b+d/4294967296)/4294967296+((b+d/4294967296)%4294967296+c)/4294967296=(a*18446744073709551616+(b+c)*4294967296+d)/18446744073709551616:=by omega
 rw [g1]
def ab (x:Int):Int:=mx (cl x) (- cl x)
theorem ab_bd (x:Int):0≤ab x∧ab x≤288230376151711744:=by
 have:=cl_lo x
 have:=cl_hi x
 unfold ab mx
 split<;>omega
theorem mul_fits (a b:Int):-83076749736557242056487941267521536≤cl a*cl b∧cl a*cl b≤83076749736557242056487941267521536:=by
 have a0:=cl_lo a
 have a1:=cl_hi a
 have b0:=cl_lo b
 have b1:=cl_hi b
 generalize cl a=x at *
 generalize cl b=y at *
 have h:(x.natAbs:Int)*(y.natAbs:Int)≤288230376151711744*288230376151711744:=Int.mul_le_mul (by omega) (by omega) (by omega) (by decide)
 rw [←Int.natCast_mul,←Int.natAbs_mul] at h
 omega
theorem ab_mul (a b:Int):ab a*ab b=if (decide (a<0) != decide (b<0))=true then-(cl a*cl b) else cl a*cl b:=by
 have ha:ab a=if a<0 then-cl a else cl a:=by unfold ab mx cl;(repeat' split)<;>omega
 have hb:ab b=if b<0 then-cl b else cl b:=by unfold ab mx cl;(repeat' split)<;>omega
 rw [ha,hb]
 by_cases h1:a<0<;>by_cases h2:b<0<;>simp [h1,h2,Int.neg_mul,Int.mul_neg]
theorem wmul_is (a b:Int):wide_Mul.f a b=some (hi (cl a*cl b),lo (cl a*cl b)):=by
 have ha:=ab_bd a
 have hb:=ab_bd b
 have hm:=mul_fits a b
 have hab:=ab_mul a b
 unfold wide_Mul.f
 refine bind_of (abs_is a) ?_
 refine bind_of (abs_is b) ?_
 have e1:IntKind.u64.wrap (mx (cl a) (- cl a))=ab a:=wu64 (n:=ab a) (by omega) (by omega)
 have e2:IntKind.u64.wrap (mx (cl b) (- cl b))=ab b:=wu64 (n:=ab b) (by omega) (by omega)
 rw [e1,e2]
 refine bind_of (mul64_is ha.1 ha.2 hb.1 hb.2) ?_
 have hp0:0≤ab a*ab b:=Int.mul_nonneg ha.1 hb.1
 have hp1:ab a*ab b≤83076749736557242056487941267521536:=by
  rw [hab]
  split<;>omega
 generalize ab a*ab b=p at *
 generalize cl a*cl b=z at *
 have q1:wrap64 (Go.bits .or .u64 (IntKind.u64.wrap (p/18446744073709551616*4)) (p%18446744073709551616/4611686018427387904))=hi p:=by
  have:=boru64 (IntKind.u64.wrap (p/18446744073709551616*4)) (p%18446744073709551616/4611686018427387904) 2 (by decide) (by rw [wu64 (by omega) (by omega)];omega) (by omega) (by omega)
  rw [this,wu64 (by omega) (by omega),w64 (by omega) (by omega)]
  unfold hi
  omega
 have q2:wrap64 (Go.bits .and .u64 (p%18446744073709551616) 4611686018427387903)=lo p:=by
  rw [bandu62,w64 (by omega) (by omega)]
  unfold lo
  omega
 by_cases h:(decide (a<0) != decide (b<0))=true
 ·rw [if_pos h] at hab
  rw [if_pos h]
  refine bind_of (x:=(hi z,lo z)) ?_ rfl
  have e:∀ {u v u' v':Int},u=u'→v=v'→wide_neg.f u v=wide_neg.f u' v':=by intro u v u' v' h1 h2;rw [h1,h2]
  refine(e q1 q2).trans ?_
  have hl:=lo_bd p
  have hh:-4611686018427387904≤hi p∧hi p≤4611686018427387904:=by unfold hi;omega
  rw [lowneg hl.1 hl.2 hh.1 hh.2,hi_lo]
  have:-p=z:=by omega
  rw [this]
 ·rw [if_neg h] at hab
  rw [if_neg h]
  subst hab
  exact congrArg some (Prod.ext q1 q2)
def sh (k:Int):Nat:=(mx 0 (mn k 200)).toNat
theorem sh_eq (k:Int):mx 0 (mn k 200)=(sh k:Int)∧sh k≤200:=by
 unfold sh mx mn
 constructor<;>(repeat' split)<;>omega
theorem pow_pos' (j:Nat):(0:Int)<2^j:=Int.pow_pos (by decide)
theorem div_pow_add (x:Int) (i j:Nat):x/2^i/2^j=x/2^(i+j):=by
 rw [Int.ediv_ediv_of_nonneg (Int.le_of_lt (pow_pos' i)),Int.pow_add]
theorem div_small {x:Int} {j:Nat} (h0:-(2^j)≤x) (h1:x<2^j):x/2^j=if x<0 then -1 else 0:=by
 have hp:=pow_pos' j
 by_cases h:x<0
 ·rw [if_pos h]
  refine(Int.ediv_eq_iff_of_pos hp).mpr ?_
  omega
 ·rw [if_neg h]
  exact Int.ediv_eq_zero_of_lt (by omega) h1
theorem wrap_mod (n:Int):∃ m:Int,wrap64 n=n+18446744073709551616*m:=⟨- ((n+9223372036854775808)/18446744073709551616),by unfold wrap64;omega⟩
theorem down_is (a b k:Int):wide_Down.f a b k=some (hi (kn a b/2^sh k),lo (kn a b/2^sh k)):=by
 have hx:=kn_fits a b
 obtain⟨hs,hs2⟩:=sh_eq k
 unfold wide_Down.f
 refine bind_of (known_is a b) ?_
 rw [hs]
 generalize kn a b=x at *
 generalize sh k=s at *
 clear hs
 have hb:=hi_bd hx
 have hl:=lo_bd x
 have hh:=hi_lo x
 have hx62:hi x=x/2^62:=by unfold hi;rw [p62]
 by_cases h:(s:Int) ≥ 62
 ·rw [if_pos h]
  obtain⟨j,hj⟩:∃ j:Nat,mn ((s:Int)-62) 62=(j:Int)∧j=min (s-62) 62:=by
   refine⟨min (s-62) 62,?_,rfl⟩
   unfold mn
   split<;>omega
  rw [hj.1,if_pos (by omega)]
  refine bind_of (of_is _) ?_
  have e:hi x/2^((j:Int).toNat)=x/2^s:=by
   rw [Int.toNat_natCast,hx62]
   by_cases h2:s-62≤62
   ·rw [div_pow_add,show 62+j=s by omega]
   ·have h3:x/2^s=x/2^62/2^(s-62):=by rw [div_pow_add,show 62+(s-62)=s by omega]
    have h4:(2:Int)^62≤2^(s-62):=by
     have:(2:Nat)^62≤2^(s-62):=Nat.pow_le_pow_right (by decide) (by omega)
     exact_mod_cast this
    have h5:j=62:=by omega
    rw [h3,h5,←hx62]
    have h6:=p62
    rw [div_small (j:=62) (by omega) (by omega),div_small (j:=s-62) (by omega) (by omega)]
  rw [e]
 ·rw [if_neg h,if_pos (by omega)]
  have hs62:s+(62-s)=62:=by omega
  have hpp:(2:Int)^62=2^(62-s)*2^s:=by rw [←Int.pow_add];rw [show 62-s+s=62 by omega]
  have hq:x/2^s=hi x*2^(62-s)+lo x/2^s:=by
   have e1:x=lo x+hi x*2^(62-s)*2^s:=by
    rw [Int.mul_assoc,←hpp,p62]
    omega
   have hne:(2:Int)^s≠0:=Int.ne_of_gt (pow_pos' s)
   conv=>lhs;rw [e1]
   rw [Int.add_mul_ediv_right _ _ hne,Int.add_comm]
  have r1:shr .i64 (hi x) (s:Int)=hi (x/2^s):=by
   unfold shr
   have e2:min ((s:Int).toNat) IntKind.i64.bits=s:=by
    rw [Int.toNat_natCast]
    show min s 64=s
    omega
   rw [e2]
   have e3:hi (x/2^s)=x/2^s/2^62:=by unfold hi;rw [p62]
   rw [e3,hx62,div_pow_add,div_pow_add,Nat.add_comm]
  have r2:shr .i64 (lo x) (s:Int)=lo x/2^s:=by
   unfold shr
   have e2:min ((s:Int).toNat) IntKind.i64.bits=s:=by
    rw [Int.toNat_natCast]
    show min s 64=s
    omega
   rw [e2]
  have hpos:=pow_pos' (62-s)
  have hl2:lo x/2^s<2^(62-s):=by
   refine Int.ediv_lt_of_lt_mul (pow_pos' s) ?_
   rw [←hpp,p62]
   omega
  have hl1:0≤lo x/2^s:=Int.ediv_nonneg hl.1 (Int.le_of_lt (pow_pos' s))
  have r3:Go.bits .and .i64 (Go.bits .or .i64 (wrap64 (hi x*2^(62-(s:Int)).toNat)) (shr .i64 (lo x) (s:Int))) 4611686018427387903=lo (x/2^s):=by
   rw [r2,show(62-(s:Int)).toNat=62-s by omega]
   obtain⟨m,hm⟩:=wrap_mod (hi x*2^(62-s))
   have hd:(18446744073709551616:Int)=2^(62-s)*2^(s+2):=by
    rw [←Int.pow_add,show 62-s+(s+2)=64 by omega];rfl
   have hz:wrap64 (hi x*2^(62-s))%2^(62-s)=0:=by
    rw [hm,hd,Int.mul_assoc,Int.add_mul_emod_self_left,Int.mul_emod_left]
   rw [bor64 _ _ (62-s) (by omega) hz hl1 hl2,band62,hm,hq]
   obtain⟨m2,hm2⟩:=wrap_mod (hi x*2^(62-s)+18446744073709551616*m+lo x/2^s)
   rw [hm2]
   unfold lo
   omega
  exact congrArg some (Prod.ext r1 r3)
theorem yes_of {α:Type} {c:Prop} [Decidable c] {a b r:α} (h:c) (g:a=r):(if c then a else b)=r:=by rw [if_pos h];exact g
theorem no_of {α:Type} {c:Prop} [Decidable c] {a b r:α} (h:¬c) (g:b=r):(if c then a else b)=r:=by rw [if_neg h];exact g
theorem fits_div {x:Int} (h:Fits x) (j:Nat):Fits (x/2^j):=by
 unfold Fits at *
 have hp:=pow_pos' j
 constructor
 ·refine(Int.le_ediv_iff_mul_le hp).mpr ?_
  have:(1:Int)≤2^j:=hp
  have h2:=Int.mul_le_mul_of_nonneg_left this (show(0:Int)≤10633823966279326983230456482242756608 by decide)
  omega
 ·by_cases h0:x<0
  ·have:=Int.ediv_neg_of_neg_of_pos h0 hp
   omega
  ·have:=Int.ediv_le_self (a:=x) (2^j) (by omega)
   omega
theorem down_p {x:Int} (h:Fits x) (k:Int):wide_Down.f (hi x) (lo x) k=some (hi (x/2^sh k),lo (x/2^sh k)):=by
 rw [down_is,kn_pair h]
theorem add_p {x y:Int} (h:Fits x) (g:Fits y):wide_Add.f (hi x) (lo x) (hi y) (lo y)=some (hi (addv x y),lo (addv x y),decide (Fits (x+y))):=by
 rw [add_is,kn_pair h,kn_pair g]
theorem int_p {x:Int} (h:Fits x) (k:Nat):wide_Int.f (k+1) (hi x) (lo x)=some (cl x,(cl x == x)):=by
 rw [int_is,kn_pair h]
theorem sane_p {x:Int} (h:Fits x):wide_Sane.f (hi x) (lo x)=some true:=by
 rw [sane_is,decide_eq_true (sane_pair h)]
theorem addv_ok {x y:Int} (h:Fits (x+y)):addv x y=x+y:=by unfold addv;rw [if_pos h]
def cbad (a b s:Int):Bool:=(cl s != s) || ((cl a != a) || (cl b != b))
theorem fadd_is (a b:Int):fix_Add.f a b=some (cl (cl a+cl b),cbad a b (cl a+cl b)):=by
 have a0:=cl_lo a
 have a1:=cl_hi a
 have b0:=cl_lo b
 have b1:=cl_hi b
 have hw:wrap64 (cl a+cl b)=cl a+cl b:=w64 (by omega) (by omega)
 unfold fix_Add.f cbad
 simp only [fknown_is,clamp_is,Option.bind_some,hw]
 by_cases h1:cl (cl a+cl b)=cl a+cl b
 ·by_cases h2:cl a=a
  ·have h3:=h1
   rw [h2] at h3
   simp [h2,h3]
  ·simp [h1,h2]
 ·simp [h1]
theorem fsub_is (a b:Int):fix_Sub.f a b=some (cl (cl a-cl b),cbad a b (cl a-cl b)):=by
 have a0:=cl_lo a
 have a1:=cl_hi a
 have b0:=cl_lo b
 have b1:=cl_hi b
 have hw:wrap64 (cl a-cl b)=cl a-cl b:=w64 (by omega) (by omega)
 unfold fix_Sub.f cbad
 simp only [fknown_is,clamp_is,Option.bind_some,hw]
 by_cases h1:cl (cl a-cl b)=cl a-cl b
 ·by_cases h2:cl a=a
  ·have h3:=h1
   rw [h2] at h3
   simp [h2,h3]
  ·simp [h1,h2]
 ·simp [h1]
end Go.Proofs.Ytonfobdknnlbjaa.Wide
end
