/- Lemmas of the rows, laid by a program. -/
import Derived.Test.YtgmkppeghnlcmaaYM6
import Derived.Laws.BitsLemmas
import Derived.OpenShut
section
set_option linter.unusedVariables false
set_option linter.unusedSimpArgs false
namespace Go.Proofs.Ytgmkppeghnlcmaa.W
open Go Go.RowKit
set_option linter.unusedVariables false
set_option linter.unusedSimpArgs false
theorem w64 {n:Int} (h0:-9223372036854775808≤n) (h1:n≤9223372036854775807):wrap64 n=n:=by
 unfold wrap64
 omega
theorem w64_lo (n:Int):-9223372036854775808≤wrap64 n:=by
 unfold wrap64
 omega
theorem w64_hi (n:Int):wrap64 n≤9223372036854775807:=by
 unfold wrap64
 omega
theorem band64 (x:Int) (i:Nat) (hi:i≤62):Go.bits .and .i64 x (2^i-1)=x%2^i:=by
 have hp:(2:Nat)^i≤2^62:=Nat.pow_le_pow_right (by decide) hi
 have hpos:0<(2:Nat)^i:=Nat.two_pow_pos i
 have hc:((2:Int)^i-1)=((2^i-1:Nat):Int):=by
  rw [Int.natCast_sub hpos];simp
 have hm:(2^i-1:Nat)<2^64:=by omega
 have hxm:x%2^i=((x%18446744073709551616).toNat%2^i:Nat):=by
  have h0:0≤x%18446744073709551616:=Int.emod_nonneg _ (by decide)
  rw [Int.natCast_emod,Int.toNat_of_nonneg h0,Int.natCast_pow]
  have hd:((2:Int)^i)∣18446744073709551616:=⟨2^(64-i),by rw [←Int.pow_add];rw [show i+(64-i)=64 by omega];rfl⟩
  exact(Int.emod_emod_of_dvd x hd).symm
 have hb:(BitVec.ofInt 64 x &&& BitVec.ofInt 64 ((2^i-1:Nat):Int)).toNat=(x%18446744073709551616).toNat%2^i:=by
  rw [BitVec.toNat_and,BitVec.toNat_ofInt,BitVec.ofInt_natCast,BitVec.toNat_ofNat,Nat.mod_eq_of_lt hm,Nat.and_two_pow_sub_one_eq_mod]
  rfl
 have hlt:(x%18446744073709551616).toNat%2^i<2^i:=Nat.mod_lt _ hpos
 rw [hc]
 show IntKind.wrap .i64 ((BitVec.ofInt 64 x &&& BitVec.ofInt 64 ((2^i-1:Nat):Int)).toNat:Int)=_
 rw [hb,hxm,IntKind.wrap_i64]
 omega
theorem wu64 {n:Int} (h0:0≤n) (h1:n<18446744073709551616):IntKind.u64.wrap n=n:=by
 simp only [IntKind.wrap,IntKind.bits,IntKind.signed]
 simp
 omega
theorem u64_wrap (n:Int):IntKind.u64.wrap n=n%18446744073709551616:=by
 simp [IntKind.wrap,IntKind.bits,IntKind.signed]
theorem i64_wrap (n:Int):IntKind.i64.wrap n=wrap64 n:=by
 rw [IntKind.wrap_i64]
 unfold wrap64
 omega
theorem bandu64 (x:Int) (i:Nat) (hi:i≤63):Go.bits .and .u64 x (2^i-1)=x%2^i:=by
 have hp:(2:Nat)^i≤2^63:=Nat.pow_le_pow_right (by decide) hi
 have hpos:0<(2:Nat)^i:=Nat.two_pow_pos i
 have hc:((2:Int)^i-1)=((2^i-1:Nat):Int):=by
  rw [Int.natCast_sub hpos];simp
 have hm:(2^i-1:Nat)<2^64:=by omega
 have hxm:x%2^i=((x%18446744073709551616).toNat%2^i:Nat):=by
  have h0:0≤x%18446744073709551616:=Int.emod_nonneg _ (by decide)
  rw [Int.natCast_emod,Int.toNat_of_nonneg h0,Int.natCast_pow]
  have hd:((2:Int)^i)∣18446744073709551616:=⟨2^(64-i),by rw [←Int.pow_add];rw [show i+(64-i)=64 by omega];rfl⟩
  exact(Int.emod_emod_of_dvd x hd).symm
 have hb:(BitVec.ofInt 64 x &&& BitVec.ofInt 64 ((2^i-1:Nat):Int)).toNat=(x%18446744073709551616).toNat%2^i:=by
  rw [BitVec.toNat_and,BitVec.toNat_ofInt,BitVec.ofInt_natCast,BitVec.toNat_ofNat,Nat.mod_eq_of_lt hm,Nat.and_two_pow_sub_one_eq_mod]
  rfl
 have hlt:(x%18446744073709551616).toNat%2^i<2^i:=Nat.mod_lt _ hpos
 rw [hc]
 show IntKind.wrap .u64 ((BitVec.ofInt 64 x &&& BitVec.ofInt 64 ((2^i-1:Nat):Int)).toNat:Int)=_
 rw [hb,hxm,u64_wrap]
 omega
theorem or_nat (x y:Int) (j:Nat) (hj:j≤63) (hx:x%2^j=0) (hy0:0≤y) (hy1:y<2^j) :
  ∃ m:Int,((BitVec.ofInt 64 x ||| BitVec.ofInt 64 y).toNat:Int)=x+y+18446744073709551616*m:=by
 obtain⟨b,rfl⟩:=Int.eq_ofNat_of_zero_le hy0
 have hb:b<2^j:=by exact_mod_cast hy1
 have hp:(2:Nat)^j≤2^63:=Nat.pow_le_pow_right (by decide) hj
 have hpos:(0:Int)<2^j:=Int.pow_pos (by decide)
 have h0:0≤x%18446744073709551616:=Int.emod_nonneg _ (by decide)
 have hd:((2:Int)^j)∣18446744073709551616:=⟨2^(64-j),by rw [←Int.pow_add];rw [show j+(64-j)=64 by omega];rfl⟩
 have hz:(x%18446744073709551616)%2^j=0:=by rw [Int.emod_emod_of_dvd x hd];exact hx
 have hq:(x%18446744073709551616).toNat=2^j*((x%18446744073709551616).toNat/2^j):=by
  have h1:(x%18446744073709551616).toNat%2^j=0:=by
   have:(((x%18446744073709551616).toNat%2^j:Nat):Int)=0:=by
    rw [Int.natCast_emod,Int.toNat_of_nonneg h0,Int.natCast_pow];exact hz
   exact Int.natCast_eq_zero.mp this
  have:=Nat.div_add_mod (x%18446744073709551616).toNat (2^j)
  omega
 refine⟨- (x/18446744073709551616),?_⟩
 rw [BitVec.toNat_or,BitVec.toNat_ofInt,BitVec.ofInt_natCast,BitVec.toNat_ofNat,Nat.mod_eq_of_lt (show b<2^64 by omega)]
 have hs:(x%((2^64:Nat):Int)).toNat=(x%18446744073709551616).toNat:=rfl
 rw [hs,hq,←Nat.two_pow_add_eq_or_of_lt hb,←hq,Int.natCast_add,Int.toNat_of_nonneg h0]
 omega
theorem bor64 (x y:Int) (j:Nat) (hj:j≤63) (hx:x%2^j=0) (hy0:0≤y) (hy1:y<2^j):Go.bits .or .i64 x y=wrap64 (x+y):=by
 obtain⟨m,hm⟩:=or_nat x y j hj hx hy0 hy1
 show IntKind.wrap .i64 ((BitVec.ofInt 64 x ||| BitVec.ofInt 64 y).toNat:Int)=_
 rw [hm,i64_wrap]
 unfold wrap64
 omega
theorem boru64 (x y:Int) (j:Nat) (hj:j≤63) (hx:x%2^j=0) (hy0:0≤y) (hy1:y<2^j):Go.bits .or .u64 x y=(x+y)%18446744073709551616:=by
 obtain⟨m,hm⟩:=or_nat x y j hj hx hy0 hy1
 show IntKind.wrap .u64 ((BitVec.ofInt 64 x ||| BitVec.ofInt 64 y).toNat:Int)=_
 rw [hm,u64_wrap]
 omega
theorem bnot64 (x:Int) (h0:-9223372036854775808≤x) (h1:x≤9223372036854775807):Go.bits .xor .i64 (-1) x=-1-x:=by
 show IntKind.wrap .i64 ((BitVec.ofInt 64 (-1) ^^^ BitVec.ofInt 64 x).toNat:Int)=_
 have h2:BitVec.ofInt 64 (-1)=BitVec.allOnes 64:=by decide
 rw [h2,BitVec.allOnes_xor,BitVec.toNat_not,BitVec.toNat_ofInt,i64_wrap]
 have h3:0≤x%18446744073709551616:=Int.emod_nonneg _ (by decide)
 have h4:(x%((2^64:Nat):Int)).toNat=(x%18446744073709551616).toNat:=rfl
 rw [h4]
 unfold wrap64
 omega
theorem p62:(2:Int)^62=4611686018427387904:=by decide
theorem bandu62 (x:Int):Go.bits .and .u64 x 4611686018427387903=x%4611686018427387904:=by
 have h:=bandu64 x 62 (by decide)
 rw [p62] at h
 exact h
theorem band62 (x:Int):Go.bits .and .i64 x 4611686018427387903=x%4611686018427387904:=by
 have h:=band64 x 62 (by decide)
 rw [p62] at h
 exact h
theorem p32:(2:Int)^32=4294967296:=by decide
theorem bandu32 (x:Int):Go.bits .and .u64 x 4294967295=x%4294967296:=by
 have h:=bandu64 x 32 (by decide)
 rw [p32] at h
 exact h
def mx (a b:Int):Int:=if a<b then b else a
def cl (n:Int):Int:=if n < -288230376151711744 then -288230376151711744 else if 288230376151711744<n then 288230376151711744 else n
theorem cl_lo (n:Int):-288230376151711744≤cl n:=by unfold cl;split<;>(try split)<;>omega
theorem cl_hi (n:Int):cl n≤288230376151711744:=by unfold cl;split<;>(try split)<;>omega
def Sane (a b:Int):Prop:=0≤b∧b≤4611686018427387903∧-2305843009213693952≤a∧a<2305843009213693952
instance (a b:Int):Decidable (Sane a b):=by unfold Sane;infer_instance
def Fits (n:Int):Prop:=-10633823966279326983230456482242756608≤n∧n<10633823966279326983230456482242756608
instance (n:Int):Decidable (Fits n):=by unfold Fits;infer_instance
def kn (a b:Int):Int:=if Sane a b then a*4611686018427387904+b else 0
def hi (n:Int):Int:=n/4611686018427387904
def lo (n:Int):Int:=n%4611686018427387904
theorem lo_bd (n:Int):0≤lo n∧lo n≤4611686018427387903:=by unfold lo;omega
theorem hi_lo (n:Int):hi n*4611686018427387904+lo n=n:=by unfold hi lo;omega
theorem hi_bd {n:Int} (h:Fits n):-2305843009213693952≤hi n∧hi n<2305843009213693952:=by unfold hi;unfold Fits at h;omega
theorem sane_pair {n:Int} (h:Fits n):Sane (hi n) (lo n):=⟨(lo_bd n).1,(lo_bd n).2,(hi_bd h).1,(hi_bd h).2⟩
theorem kn_pair {n:Int} (h:Fits n):kn (hi n) (lo n)=n:=by unfold kn;rw [if_pos (sane_pair h),hi_lo]
theorem kn_fits (a b:Int):Fits (kn a b):=by
 unfold kn Fits
 split
 ·rename_i h
  unfold Sane at h
  omega
 ·omega
theorem fits_zero:Fits 0:=by unfold Fits;omega
theorem hi_zero:hi 0=0:=rfl
theorem lo_zero:lo 0=0:=rfl
theorem pair_of {a b:Int} (h:Sane a b):hi (kn a b)=a∧lo (kn a b)=b:=by
 unfold kn
 rw [if_pos h]
 unfold hi lo
 unfold Sane at h
 omega
theorem kn_of {a b:Int} (h:Sane a b):kn a b=a*4611686018427387904+b:=by unfold kn;rw [if_pos h]
theorem kn_bad {a b:Int} (h:¬Sane a b):kn a b=0:=by unfold kn;rw [if_neg h]
theorem pair_inj {m n:Int} (h:hi m=hi n) (g:lo m=lo n):m=n:=by rw [←hi_lo m,←hi_lo n,h,g]
def addv (x y:Int):Int:=if Fits (x+y) then x+y else 0
theorem addv_fits (x y:Int):Fits (addv x y):=by
 unfold addv
 split
 ·assumption
 ·exact fits_zero
def negv (x:Int):Int:=if Fits (-x) then -x else 0
theorem negv_fits (x:Int):Fits (negv x):=by
 unfold negv
 split
 ·assumption
 ·exact fits_zero
def cmpv (x y:Int):Int:=if x<y then -1 else if y<x then 1 else 0
def ab (x:Int):Int:=mx (cl x) (- cl x)
theorem ab_bd (x:Int):0≤ab x∧ab x≤288230376151711744:=by
 have:=cl_lo x
 have:=cl_hi x
 unfold ab mx
 split<;>omega
theorem mul_fits (a b:Int):-83076749736557242056487941267521536≤cl a*cl b∧cl a*cl b≤83076749736557242056487941267521536:=by
 have a0:=cl_lo a
 have a1:=cl_hi a
 have b0:=cl_lo b
 have b1:=cl_hi b
 generalize cl a=x at *
 generalize cl b=y at *
 have h:(x.natAbs:Int)*(y.natAbs:Int)≤288230376151711744*288230376151711744:=Int.mul_le_mul (by omega) (by omega) (by omega) (by decide)
 rw [←Int.natCast_mul,←Int.natAbs_mul] at h
 omega
theorem fits_mul (a b:Int):Fits (cl a*cl b):=by
 have:=mul_fits a b
 unfold Fits
 omega
theorem ab_mul (a b:Int):ab a*ab b=if (decide (a<0) != decide (b<0))=true then-(cl a*cl b) else cl a*cl b:=by
 have ha:ab a=if a<0 then-cl a else cl a:=by unfold ab mx cl;(repeat' split)<;>omega
 have hb:ab b=if b<0 then-cl b else cl b:=by unfold ab mx cl;(repeat' split)<;>omega
 rw [ha,hb]
 by_cases h1:a<0<;>by_cases h2:b<0<;>simp [h1,h2,Int.neg_mul,Int.mul_neg]
theorem yes_of {α:Type} {c:Prop} [Decidable c] {a b r:α} (h:c) (g:a=r):(if c then a else b)=r:=by rw [if_pos h];exact g
theorem no_of {α:Type} {c:Prop} [Decidable c] {a b r:α} (h:¬c) (g:b=r):(if c then a else b)=r:=by rw [if_neg h];exact g
theorem addv_ok {x y:Int} (h:Fits (x+y)):addv x y=x+y:=by unfold addv;rw [if_pos h]
theorem fits_cl {n:Int} (h0:-9223372036854775808≤n) (h1:n≤9223372036854775807):Fits n:=by unfold Fits;omega
theorem pair_eq {m n:Int}:(hi m == hi n && (lo m == lo n))=true↔m=n:=by
 rw [Bool.and_eq_true,beq_iff_eq,beq_iff_eq]
 exact⟨fun h=>pair_inj h.1 h.2,fun h=>by rw [h];exact⟨rfl,rfl⟩⟩
theorem sq_le {a b:Int} (h0:0≤a) (h:a≤b):a*a≤b*b:=Int.mul_le_mul h h h0 (by omega)
theorem sq_lt {a b v:Int} (hb:0≤b) (h1:a*a≤v) (h2:v<b*b):a<b:=by
 by_cases h:a<b
 ·exact h
 ·exfalso
  have:=sq_le hb (show b≤a by omega)
  omega
theorem sq_succ (r:Int):(r+1)*(r+1)=r*r+2*r+1:=by grind
def Rt (v r:Int):Prop:=0≤r∧r≤288230376151711744∧r*r≤v∧(r=288230376151711744∨v<(r+1)*(r+1))
theorem rt_one {v r s:Int} (h:Rt v r) (g:Rt v s):r=s:=by
 obtain⟨h0,h1,h2,h3⟩:=h
 obtain⟨g0,g1,g2,g3⟩:=g
 have a1:r≤s:=by
  rcases g3 with g3|g3
  ·omega
  ·have:=sq_lt (by omega) h2 g3
   omega
 have a2:s≤r:=by
  rcases h3 with h3|h3
  ·omega
  ·have:=sq_lt (by omega) g2 h3
   omega
 omega
theorem rt_ex {v:Int} (h0:0≤v):∀ n:Nat,∃ r:Int,0≤r∧r≤n∧r*r≤v∧(r=n∨v<(r+1)*(r+1)):=by
 intro n
 induction n with
 | zero=>exact⟨0,by omega,by omega,by omega,Or.inl rfl⟩
 | succ n ih =>
  obtain⟨r,h1,h2,h3,h4⟩:=ih
  rcases h4 with h4|h4
  ·by_cases c:(r+1)*(r+1)≤v
   ·exact⟨r+1,by omega,by omega,c,Or.inl (by omega)⟩
   ·exact⟨r,h1,by omega,h3,Or.inr (by omega)⟩
  ·exact⟨r,h1,by omega,h3,Or.inr h4⟩
theorem rt_is {v:Int} (h0:0≤v):∃ r,Rt v r:=by
 obtain⟨r,h1,h2,h3,h4⟩:=rt_ex h0 288230376151711744
 exact⟨r,h1,h2,h3,h4⟩
open Classical in
noncomputable def rt (v:Int):Int:=if h:∃ r,Rt v r then Classical.choose h else 0
theorem rt_rt {v:Int} (h0:0≤v):Rt v (rt v):=by
 unfold rt
 rw [dif_pos (rt_is h0)]
 exact Classical.choose_spec (rt_is h0)
theorem rt_eq {v r:Int} (h:Rt v r):rt v=r:=by
 have hx:∃ s,Rt v s:=⟨r,h⟩
 unfold rt
 rw [dif_pos hx]
 exact rt_one (Classical.choose_spec hx) h
noncomputable def rbad (v:Int) (bad:Bool):Bool:=if rt v<288230376151711744 then bad else decide (83076749736557242632948693570945025≤v)
theorem rbad_ok {v:Int} (h:v<83076749736557242632948693570945025):rbad v false=false:=by
 unfold rbad
 split
 ·rfl
 ·simpa using h
theorem sq_bd (a:Int):0≤cl a*cl a∧cl a*cl a≤83076749736557242056487941267521536:=by
 have h:=(mul_fits a a).2
 refine⟨?_,h⟩
 by_cases c:0≤cl a
 ·exact Int.mul_nonneg c c
 ·have:=Int.mul_nonneg (show 0≤- cl a by omega) (show 0≤- cl a by omega)
  rw [Int.neg_mul_neg] at this
  exact this
theorem hyp_fits (a b:Int):Fits (cl a*cl a+cl b*cl b):=by
 have h1:=sq_bd a
 have h2:=sq_bd b
 unfold Fits
 omega
end Go.Proofs.Ytgmkppeghnlcmaa.W
end
section
set_option linter.unusedVariables false
set_option linter.unusedSimpArgs false
namespace Go.Proofs.Ytgmkppeghnlcmaa.W
open Go Go.Proofs Go.RowKit X
set_option maxRecDepth 100000
set_option linter.unusedVariables false
set_option linter.unusedSimpArgs false
abbrev kI:Kd:=.int .i64
abbrev kU:Kd:=.int .u64
abbrev kW:Kd:=.cons kI (.cons kI .nil)
abbrev sI1 (C:Int→Int):X.Spec:=⟨[.sc kI],.one (.sc kI),fun x=>some (C x.1)⟩
abbrev sIB (C:Int→Int) (D:Int→Bool):X.Spec:=⟨[.sc kI],.many [.sc kI,.sc .bool],fun x=>some (C x.1,D x.1,())⟩
abbrev sWW (C D:Int→Int→Int):X.Spec:=⟨[.ag kW],.one (.ag kW),fun x=>some (C x.1.1 x.1.2.1,D x.1.1 x.1.2.1,())⟩
abbrev sWB (C:Int→Int→Bool):X.Spec:=⟨[.ag kW],.one (.sc .bool),fun x=>some (C x.1.1 x.1.2.1)⟩
abbrev sU2 (C D:Int→Int→Int):X.Spec:=⟨[.sc kU,.sc kU],.many [.sc kU,.sc kU],fun x=>some (C x.1 x.2.1,D x.1 x.2.1,())⟩
abbrev sI2 (C:Int→Int→Int):X.Spec:=⟨[.sc kI,.sc kI],.one (.sc kI),fun x=>some (C x.1 x.2.1)⟩
abbrev sMul (C D:Int→Int→Int):X.Spec:=⟨[.sc kI,.sc kI],.one (.ag kW),fun x=>some (C x.1 x.2.1,D x.1 x.2.1,())⟩
abbrev sOf (C D:Int→Int):X.Spec:=⟨[.sc kI],.one (.ag kW),fun x=>some (C x.1,D x.1,())⟩
abbrev sAdd (C D:Int→Int→Int→Int→Int) (E:Int→Int→Int→Int→Bool):X.Spec :=
  ⟨[.ag kW,.ag kW],.many [.ag kW,.sc .bool],fun x=>some ((C x.1.1 x.1.2.1 x.2.1.1 x.2.1.2.1,D x.1.1 x.1.2.1 x.2.1.1 x.2.1.2.1,()),E x.1.1 x.1.2.1 x.2.1.1 x.2.1.2.1,())⟩
abbrev sCmp (C:Int→Int→Int→Int→Int):X.Spec:=⟨[.ag kW,.ag kW],.one (.sc kI),fun x=>some (C x.1.1 x.1.2.1 x.2.1.1 x.2.1.2.1)⟩
abbrev sOr (C:Int→Int→Int):X.Spec:=⟨[.sc (.sl kI)],.one (.sc kI),fun x=>match (show List Int from x.1) with|[a,b]=>some (C a b)|_=>none⟩
theorem x_ok {l:List (FuncId × X.Spec)} (h:TabOk Try.prog l):XOk Try.prog (mk (tab l)):=mk_ok (tab_ok h)
theorem spec_tab (l:List (FuncId × X.Spec)) (hl:TabOk Try.prog l) {f:FuncId} {A:List DS} {R:RD} {g:DsT A→R.T} (h:∀ x,fnx (mk (tab l)) nol f A R x=some (g x)) (hen:∃ fn c,(mk (tab l)).fns f=some fn∧fn.body=some c):SpecOk Try.prog f ⟨A,R,fun x=>some (g x)⟩:=spec_run (x_ok hl) h hen
theorem iw (n:Int):IntKind.i64.wrap n=wrap64 n:=i64_wrap n
theorem fd (n:Int) (k:Nat):n.fdiv (2^k)=n/2^k:=by rw [Int.fdiv_eq_ediv_of_nonneg _ (Int.le_of_lt (Int.pow_pos (by decide)))]
theorem andU (a b:Int):IntKind.u64.wrap ((BitVec.ofInt 64 a &&& BitVec.ofInt 64 b).toNat:Int)=Go.bits .and .u64 a b:=rfl
theorem andI (a b:Int):IntKind.i64.wrap ((BitVec.ofInt 64 a &&& BitVec.ofInt 64 b).toNat:Int)=Go.bits .and .i64 a b:=rfl
theorem orU (a b:Int):IntKind.u64.wrap ((BitVec.ofInt 64 a ||| BitVec.ofInt 64 b).toNat:Int)=Go.bits .or .u64 a b:=rfl
theorem orI (a b:Int):IntKind.i64.wrap ((BitVec.ofInt 64 a ||| BitVec.ofInt 64 b).toNat:Int)=Go.bits .or .i64 a b:=rfl
def cR (n:Int):Int:=if -288230376151711744<(if 288230376151711744<n then 288230376151711744 else n) then (if 288230376151711744<n then 288230376151711744 else n) else -288230376151711744
theorem cR_is (n:Int):cR n=cl n:=by unfold cR cl;(repeat' split)<;>omega
theorem run_Clamp (n:Int):fnx (mk (tab [])) nol 38 [.sc kI] (.many [.sc kI,.sc .bool]) (n,())=some (cR n,cR n != n,()):=by kernel_rfl
theorem Clamp_eq (n:Int):fnx (mk (tab [])) nol 38 [.sc kI] (.many [.sc kI,.sc .bool]) (n,())=some (cl n,cl n != n,()):=by
 refine(run_Clamp n).trans ?_
 rw [cR_is]
theorem Clamp_ok:SpecOk Try.prog 38 (sIB cl fun n=>cl n != n):=spec_tab [] trivial (fun ⟨n,_⟩=>Clamp_eq n) ⟨_,_,rfl,rfl⟩
theorem run_known1 (n:Int):fnx (mk (tab [])) nol 85 [.sc kI] (.one (.sc kI)) (n,())=some (cR n):=by kernel_rfl
theorem known1_eq (n:Int):fnx (mk (tab [])) nol 85 [.sc kI] (.one (.sc kI)) (n,())=some (cl n):=by
 refine(run_known1 n).trans ?_
 rw [cR_is]
theorem known1_ok:SpecOk Try.prog 85 (sI1 cl):=spec_tab [] trivial (fun ⟨n,_⟩=>known1_eq n) ⟨_,_,rfl,rfl⟩
def aR (C:Int→Int) (n:Int):Int:=if C n<IntKind.i64.wrap (0-C n) then IntKind.i64.wrap (0-C n) else C n
theorem run_Abs (C:Int→Int) (n:Int):fnx (mk (tab [(85,sI1 C)])) nol 78 [.sc kI] (.one (.sc kI)) (n,())=some (aR C n):=by kernel_rfl
theorem aR_is (n:Int):aR cl n=ab n:=by
 have h0:=cl_lo n
 have h1:=cl_hi n
 have e:IntKind.i64.wrap (0-cl n)=- cl n:=by rw [iw,w64 (by omega) (by omega)];omega
 unfold aR ab mx
 rw [e]
theorem Abs_eq (n:Int):fnx (mk (tab [(85,sI1 cl)])) nol 78 [.sc kI] (.one (.sc kI)) (n,())=some (ab n):=by
 refine(run_Abs cl n).trans ?_
 rw [aR_is]
theorem Abs_ok:SpecOk Try.prog 78 (sI1 ab):=spec_tab [(85,sI1 cl)] ⟨known1_ok,trivial⟩ (fun ⟨n,_⟩=>Abs_eq n) ⟨_,_,rfl,rfl⟩
theorem run_WSane (a b:Int):fnx (mk (tab [])) nol 58 [.ag kW] (.one (.sc .bool)) ((a,b,()),())=bif decide (b ≥ 0) then (bif decide (b≤4611686018427387903) then (bif decide (a ≥ -2305843009213693952) then some (decide (a<2305843009213693952)) else some false) else some false) else some false:=by kernel_rfl
def saneB (a b:Int):Bool:=decide (Sane a b)
theorem sane4 (a b:Int):(bif decide (b ≥ 0) then (bif decide (b≤4611686018427387903) then (bif decide (a ≥ -2305843009213693952) then some (decide (a<2305843009213693952)) else some false) else some false) else some false)=some (saneB a b):=by
 unfold saneB Sane
 by_cases h1:b ≥ 0<;>by_cases h2:b≤4611686018427387903<;>by_cases h3:a ≥ -2305843009213693952<;>by_cases h4:a<2305843009213693952<;>simp [h1,h2,h3,h4]<;>omega
theorem WSane_eq (a b:Int):fnx (mk (tab [])) nol 58 [.ag kW] (.one (.sc .bool)) ((a,b,()),())=some (saneB a b):=by
 refine(run_WSane a b).trans ?_
 exact sane4 a b
theorem WSane_ok:SpecOk Try.prog 58 (sWB saneB):=spec_tab [] trivial (fun ⟨⟨a,b,_⟩,_⟩=>WSane_eq a b) ⟨_,_,rfl,rfl⟩
def knH (a b:Int):Int:=hi (kn a b)
def knL (a b:Int):Int:=lo (kn a b)
theorem run_WKnown (S:Int→Int→Bool) (a b:Int):fnx (mk (tab [(58,sWB S)])) nol 74 [.ag kW] (.one (.ag kW)) ((a,b,()),())=bif S a b then some (a,b,()) else some (0,0,()):=by kernel_rfl
theorem WKnown_eq (a b:Int):fnx (mk (tab [(58,sWB saneB)])) nol 74 [.ag kW] (.one (.ag kW)) ((a,b,()),())=some (knH a b,knL a b,()):=by
 refine(run_WKnown saneB a b).trans ?_
 unfold saneB knH knL
 by_cases h:Sane a b
 ·simp only [decide_eq_true h,cond_true,(pair_of h).1,(pair_of h).2]
  rfl
 ·simp only [decide_eq_false h,cond_false,kn_bad h,hi_zero,lo_zero]
  rfl
theorem WKnown_ok:SpecOk Try.prog 74 (sWW knH knL):=spec_tab [(58,sWB saneB)] ⟨WSane_ok,trivial⟩ (fun ⟨⟨a,b,_⟩,_⟩=>WKnown_eq a b) ⟨_,_,rfl,rfl⟩
theorem run_Of (n:Int):fnx (mk (tab [])) nol 62 [.sc kI] (.one (.ag kW)) (n,())=some (n.fdiv (2^min (Int.toNat 62) 64),IntKind.i64.wrap ((BitVec.ofInt 64 n &&& BitVec.ofInt 64 4611686018427387903).toNat:Int),()):=by kernel_rfl
theorem f62 (n:Int):n.fdiv (2^min (Int.toNat 62) 64)=hi n:=by
 have:min (Int.toNat 62) 64=62:=rfl
 rw [this,fd,p62];rfl
theorem f32 (n:Int):n.fdiv (2^min (Int.toNat 32) 64)=n/4294967296:=by
 have:min (Int.toNat 32) 64=32:=rfl
 rw [this,fd,p32]
theorem Of_eq (n:Int):fnx (mk (tab [])) nol 62 [.sc kI] (.one (.ag kW)) (n,())=some (hi n,lo n,()):=by
 refine(run_Of n).trans ?_
 rw [f62,andI,band62]
 rfl
theorem Of_ok:SpecOk Try.prog 62 (sOf hi lo):=spec_tab [] trivial (fun ⟨n,_⟩=>Of_eq n) ⟨_,_,rfl,rfl⟩
def addH (A B:Int→Int→Int) (a b c d:Int):Int:=IntKind.i64.wrap (IntKind.i64.wrap (A a b+A c d)+IntKind.i64.wrap ((IntKind.u64.wrap (IntKind.u64.wrap (B a b)+IntKind.u64.wrap (B c d))).fdiv (2^min (Int.toNat 62) 64)))
def addL (A B:Int→Int→Int) (a b c d:Int):Int:=IntKind.i64.wrap (IntKind.u64.wrap ((BitVec.ofInt 64 (IntKind.u64.wrap (IntKind.u64.wrap (B a b)+IntKind.u64.wrap (B c d))) &&& BitVec.ofInt 64 4611686018427387903).toNat:Int))
theorem run_Add (A B:Int→Int→Int) (a b c d:Int):fnx (mk (tab [(74,sWW A B)])) nol 61 [.ag kW,.ag kW] (.many [.ag kW,.sc .bool]) ((a,b,()),(c,d,()),()) =
  bif !(A (addH A B a b c d) (addL A B a b c d) == addH A B a b c d && (B (addH A B a b c d) (addL A B a b c d) == addL A B a b c d && true)) then some ((0,0,()),false,()) else some ((addH A B a b c d,addL A B a b c d,()),true,()):=by kernel_rfl
def adH (a b c d:Int):Int:=hi (addv (kn a b) (kn c d))
def adL (a b c d:Int):Int:=lo (addv (kn a b) (kn c d))
def adB (a b c d:Int):Bool:=decide (Fits (kn a b+kn c d))
theorem addHL (a b c d:Int):addH knH knL a b c d=hi (kn a b+kn c d)∧addL knH knL a b c d=lo (kn a b+kn c d):=by
 have hx:=kn_fits a b
 have hy:=kn_fits c d
 unfold addH addL knH knL
 generalize kn a b=x at *
 generalize kn c d=y at *
 have hx1:=hi_bd hx
 have hy1:=hi_bd hy
 have hx2:=lo_bd x
 have hy2:=lo_bd y
 have hx3:=hi_lo x
 have hy3:=hi_lo y
 rw [wu64 (n:=lo x) (by omega) (by omega),wu64 (n:=lo y) (by omega) (by omega),wu64 (n:=lo x+lo y) (by omega) (by omega),f62,andU,bandu62]
 have hd:hi (lo x+lo y)=(lo x+lo y)/4611686018427387904:=rfl
 rw [hd,iw,iw,iw,iw,w64 (n:=hi x+hi y) (by omega) (by omega),w64 (n:=(lo x+lo y)/4611686018427387904) (by omega) (by omega),w64 (by omega) (by omega),w64 (by omega) (by omega)]
 constructor
 ·unfold hi lo at *;omega
 ·unfold lo;omega
theorem Add_eq (a b c d:Int):fnx (mk (tab [(74,sWW knH knL)])) nol 61 [.ag kW,.ag kW] (.many [.ag kW,.sc .bool]) ((a,b,()),(c,d,()),())=some ((adH a b c d,adL a b c d,()),adB a b c d,()):=by
 refine(run_Add knH knL a b c d).trans ?_
 rw [(addHL a b c d).1,(addHL a b c d).2]
 have hx:=kn_fits a b
 have hy:=kn_fits c d
 unfold adH adL adB knH knL
 generalize kn a b=x at *
 generalize kn c d=y at *
 by_cases h:Fits (x+y)
 ·simp only [kn_pair h,addv_ok h,decide_eq_true h,beq_self_eq_true,Bool.and_true,Bool.not_true,cond_false]
  rfl
 ·have ea:addv x y=0:=by unfold addv;rw [if_neg h]
  have hs:¬Sane (hi (x+y)) (lo (x+y)):=by
   intro hs
   apply h
   unfold Sane at hs
   unfold Fits
   have:=hi_lo (x+y)
   omega
  have hn:¬x+y=0:=by intro e;apply h;rw [e];exact fits_zero
  have hb:(0 == hi (x+y) && (0 == lo (x+y) && true))=false:=by
   rw [Bool.and_true]
   cases hc:(0 == hi (x+y) && 0 == lo (x+y)) with
   | false=>rfl
   | true=>exact absurd (pair_eq (m:=0) (n:=x+y) |>.1 hc).symm hn
  simp only [kn_bad hs,hi_zero,lo_zero,hb,Bool.not_false,cond_true,ea,decide_eq_false h]
  rfl
theorem Add_ok:SpecOk Try.prog 61 (sAdd adH adL adB):=spec_tab [(74,sWW knH knL)] ⟨WKnown_ok,trivial⟩ (fun ⟨⟨a,b,_⟩,⟨c,d,_⟩,_⟩=>Add_eq a b c d) ⟨_,_,rfl,rfl⟩
theorem run_neg (a b:Int):fnx (mk (tab [])) nol 79 [.ag kW] (.one (.ag kW)) ((a,b,()),())=bif b == 0 then some (IntKind.i64.wrap (0-a),0,()) else some (IntKind.i64.wrap ((BitVec.ofInt 64 (-1) ^^^ BitVec.ofInt 64 a).toNat:Int),IntKind.i64.wrap (4611686018427387904-b),()):=by kernel_rfl
def ngH (a b:Int):Int:=bif b == 0 then IntKind.i64.wrap (0-a) else IntKind.i64.wrap ((BitVec.ofInt 64 (-1) ^^^ BitVec.ofInt 64 a).toNat:Int)
def ngL (a b:Int):Int:=bif b == 0 then 0 else IntKind.i64.wrap (4611686018427387904-b)
theorem neg_eq (a b:Int):fnx (mk (tab [])) nol 79 [.ag kW] (.one (.ag kW)) ((a,b,()),())=some (ngH a b,ngL a b,()):=by
 refine(run_neg a b).trans ?_
 unfold ngH ngL
 cases b == 0<;>rfl
theorem neg_ok:SpecOk Try.prog 79 (sWW ngH ngL):=spec_tab [] trivial (fun ⟨⟨a,b,_⟩,_⟩=>neg_eq a b) ⟨_,_,rfl,rfl⟩
theorem neg_is {a b:Int} (h0:0≤b) (h1:b≤4611686018427387903) (h2:-4611686018427387904≤a) (h3:a≤4611686018427387904):ngH a b=hi (-(a*4611686018427387904+b))∧ngL a b=lo (-(a*4611686018427387904+b)):=by
 unfold ngH ngL
 by_cases h:b=0
 ·subst h
  simp only [beq_self_eq_true,cond_true]
  rw [iw,w64 (by omega) (by omega)]
  unfold hi lo
  omega
 ·have hb:(b == 0)=false:=by simpa using h
  rw [hb]
  simp only [cond_false]
  have e:IntKind.i64.wrap ((BitVec.ofInt 64 (-1) ^^^ BitVec.ofInt 64 a).toNat:Int)=-1-a:=bnot64 a (by omega) (by omega)
  rw [e,iw,w64 (by omega) (by omega)]
  unfold hi lo
  omega
def m64 (a b:Int):Int:=IntKind.u64.wrap (IntKind.u64.wrap (IntKind.u64.wrap (a.fdiv (2^min (Int.toNat 32) 64)*b.fdiv (2^min (Int.toNat 32) 64))+(IntKind.u64.wrap (IntKind.u64.wrap (a.fdiv (2^min (Int.toNat 32) 64)*IntKind.u64.wrap ((BitVec.ofInt 64 b &&& BitVec.ofInt 64 4294967295).toNat:Int))+(IntKind.u64.wrap (IntKind.u64.wrap ((BitVec.ofInt 64 a &&& BitVec.ofInt 64 4294967295).toNat:Int)*IntKind.u64.wrap ((BitVec.ofInt 64 b &&& BitVec.ofInt 64 4294967295).toNat:Int))).fdiv (2^min (Int.toNat 32) 64))).fdiv (2^min (Int.toNat 32) 64)) +
  (IntKind.u64.wrap (IntKind.u64.wrap ((BitVec.ofInt 64 (IntKind.u64.wrap (IntKind.u64.wrap (a.fdiv (2^min (Int.toNat 32) 64)*IntKind.u64.wrap ((BitVec.ofInt 64 b &&& BitVec.ofInt 64 4294967295).toNat:Int))+(IntKind.u64.wrap (IntKind.u64.wrap ((BitVec.ofInt 64 a &&& BitVec.ofInt 64 4294967295).toNat:Int)*IntKind.u64.wrap ((BitVec.ofInt 64 b &&& BitVec.ofInt 64 4294967295).toNat:Int))).fdiv (2^min (Int.toNat 32) 64))) &&& BitVec.ofInt 64 4294967295).toNat:Int)+IntKind.u64.wrap (IntKind.u64.wrap ((BitVec.ofInt 64 a &&& BitVec.ofInt 64 4294967295).toNat:Int)*b.fdiv (2^min (Int.toNat 32) 64)))).fdiv (2^min (Int.toNat 32) 64))
theorem run_Mul64 (a b:Int):fnx (mk (tab [])) nol 77 [.sc kU,.sc kU] (.many [.sc kU,.sc kU]) (a,b,())=some (m64 a b,IntKind.u64.wrap (a*b),()):=by kernel_rfl
def mLo (a b:Int):Int:=IntKind.u64.wrap (a*b)
theorem Mul64_ok:SpecOk Try.prog 77 (sU2 m64 mLo):=spec_tab [] trivial (fun ⟨a,b,_⟩=>run_Mul64 a b) ⟨_,_,rfl,rfl⟩
theorem m64_is {x y:Int} (hx0:0≤x) (hx1:x≤288230376151711744) (hy0:0≤y) (hy1:y≤288230376151711744):m64 x y=x*y/18446744073709551616∧mLo x y=x*y%18446744073709551616:=by
 unfold m64 mLo
 simp only [f32,andU]
 rw [bandu32,bandu32]
 have ex:x=x/4294967296*4294967296+x%4294967296:=by omega
 have ey:y=y/4294967296*4294967296+y%4294967296:=by omega
 have bx1:0≤x/4294967296:=by omega
 have bx2:x/4294967296≤67108864:=by omega
 have bx3:0≤x%4294967296:=by omega
 have bx4:x%4294967296≤4294967295:=by omega
 have by1:0≤y/4294967296:=by omega
 have by2:y/4294967296≤67108864:=by omega
 have by3:0≤y%4294967296:=by omega
 have by4:y%4294967296≤4294967295:=by omega
 generalize x/4294967296=p at *
 generalize x%4294967296=q at *
 generalize y/4294967296=r at *
 generalize y%4294967296=s at *
 subst ex ey
 have b1:0≤p*r:=Int.mul_nonneg bx1 by1
 have b2:p*r≤67108864*67108864:=Int.mul_le_mul bx2 by2 by1 (by decide)
 have b3:0≤p*s:=Int.mul_nonneg bx1 by3
 have b4:p*s≤67108864*4294967295:=Int.mul_le_mul bx2 by4 by3 (by decide)
 have b5:0≤q*r:=Int.mul_nonneg bx3 by1
 have b6:q*r≤4294967295*67108864:=Int.mul_le_mul bx4 by2 by1 (by decide)
 have b7:0≤q*s:=Int.mul_nonneg bx3 by3
 have b8:q*s≤4294967295*4294967295:=Int.mul_le_mul bx4 by4 by3 (by decide)
 have hp:(p*4294967296+q)*(r*4294967296+s)=p*r*18446744073709551616+(p*s+q*r)*4294967296+q*s:=by
  grind
 rw [hp,bandu32]
 generalize p*r=a at *
 generalize p*s=b at *
 generalize q*r=c at *
 generalize q*s=d at *
 rw [wu64 (n:=d) (by omega) (by omega),wu64 (n:=b) (by omega) (by omega),wu64 (n:=a) (by omega) (by omega),wu64 (n:=c) (by omega) (by omega)]
 rw [wu64 (n:=b+d/4294967296) (by omega) (by omega)]
 rw [wu64 (n:=a+(b+d/4294967296)/4294967296) (by omega) (by omega)]
 rw [wu64 (n:=(b+d/4294967296)%4294967296+c) (by omega) (by omega)]
 rw [wu64 (n:=a+(b+d/4294967296)/4294967296+((b+d/4294967296)%4294967296+c)/4294967296) (by omega) (by omega),u64_wrap]
 have g1:a+(b+d/4294967296)/4294967296+((b+d/4294967296)%4294967296+c)/4294967296=(a*18446744073709551616+(b+c)*4294967296+d)/18446744073709551616:=by omega
 exact⟨g1,rfl⟩
def mwH (A:Int→Int) (M L:Int→Int→Int) (a b:Int):Int:=IntKind.i64.wrap (IntKind.u64.wrap ((BitVec.ofInt 64 (IntKind.u64.wrap (M (IntKind.u64.wrap (A a)) (IntKind.u64.wrap (A b))*2^min (Int.toNat 2) 64)) ||| BitVec.ofInt 64 ((L (IntKind.u64.wrap (A a)) (IntKind.u64.wrap (A b))).fdiv (2^min (Int.toNat 62) 64))).toNat:Int))
def mwL (A:Int→Int) (L:Int→Int→Int) (a b:Int):Int:=IntKind.i64.wrap (IntKind.u64.wrap ((BitVec.ofInt 64 (L (IntKind.u64.wrap (A a)) (IntKind.u64.wrap (A b))) &&& BitVec.ofInt 64 4611686018427387903).toNat:Int))
theorem run_Mul (A:Int→Int) (M L H N:Int→Int→Int) (a b:Int):fnx (mk (tab [(78,sI1 A),(77,sU2 M L),(79,sWW H N)])) nol 60 [.sc kI,.sc kI] (.one (.ag kW)) (a,b,()) =
  bif !decide (a<0) == decide (b<0) then some (H (mwH A M L a b) (mwL A L a b),N (mwH A M L a b) (mwL A L a b),()) else some (mwH A M L a b,mwL A L a b,()):=by kernel_rfl
def muH (a b:Int):Int:=hi (cl a*cl b)
def muL (a b:Int):Int:=lo (cl a*cl b)
theorem mw_is (a b:Int):mwH ab m64 mLo a b=hi (ab a*ab b)∧mwL ab mLo a b=lo (ab a*ab b):=by
 have ha:=ab_bd a
 have hb:=ab_bd b
 have hm:=mul_fits a b
 have hab:=ab_mul a b
 unfold mwH mwL
 have hp0:0≤ab a*ab b:=Int.mul_nonneg ha.1 hb.1
 have hp1:ab a*ab b≤83076749736557242056487941267521536:=by
  rw [hab]
  split<;>omega
 have e1:IntKind.u64.wrap (ab a)=ab a:=wu64 (by omega) (by omega)
 have e2:IntKind.u64.wrap (ab b)=ab b:=wu64 (by omega) (by omega)
 rw [e1,e2,(m64_is ha.1 ha.2 hb.1 hb.2).1,(m64_is ha.1 ha.2 hb.1 hb.2).2,f62,orU,andU]
 clear hm hab
 generalize ab a*ab b=p at *
 have e4:(2:Int)^min (Int.toNat 2) 64=4:=rfl
 have e5:hi (p%18446744073709551616)=p%18446744073709551616/4611686018427387904:=rfl
 rw [e4,e5,iw,iw]
 constructor
 ·have:=boru64 (IntKind.u64.wrap (p/18446744073709551616*4)) (p%18446744073709551616/4611686018427387904) 2 (by decide) (by rw [wu64 (by omega) (by omega)];omega) (by omega) (by omega)
  rw [this,wu64 (by omega) (by omega),w64 (by omega) (by omega)]
  unfold hi
  omega
 ·rw [bandu62,w64 (by omega) (by omega)]
  unfold lo
  omega
theorem Mul_eq (a b:Int):fnx (mk (tab [(78,sI1 ab),(77,sU2 m64 mLo),(79,sWW ngH ngL)])) nol 60 [.sc kI,.sc kI] (.one (.ag kW)) (a,b,())=some (muH a b,muL a b,()):=by
 refine(run_Mul ab m64 mLo ngH ngL a b).trans ?_
 rw [(mw_is a b).1,(mw_is a b).2]
 have hm:=mul_fits a b
 have hab:=ab_mul a b
 have ha:=ab_bd a
 have hb:=ab_bd b
 have hp0:0≤ab a*ab b:=Int.mul_nonneg ha.1 hb.1
 unfold muH muL
 generalize ab a*ab b=p at *
 generalize cl a*cl b=z at *
 have hc:(!decide (a<0) == decide (b<0))=(decide (a<0) != decide (b<0)):=by cases decide (a<0)<;>cases decide (b<0)<;>rfl
 rw [hc]
 cases h:(decide (a<0) != decide (b<0)) with
 | true =>
  rw [h,if_pos rfl] at hab
  have hl:=lo_bd p
  have hh:=hi_lo p
  have hhb:-2305843009213693952≤hi p∧hi p<2305843009213693952:=hi_bd (by unfold Fits;omega)
  have:=neg_is hl.1 hl.2 (show -4611686018427387904≤hi p by omega) (by omega)
  rw [hh] at this
  simp only [cond_true]
  rw [this.1,this.2,hab,Int.neg_neg]
 | false =>
  rw [h,if_neg (by simp)] at hab
  simp only [cond_false]
  rw [hab]
theorem Mul_ok:SpecOk Try.prog 60 (sMul muH muL):=spec_tab [(78,sI1 ab),(77,sU2 m64 mLo),(79,sWW ngH ngL)] ⟨Abs_ok,Mul64_ok,neg_ok,trivial⟩ (fun ⟨a,b,_⟩=>Mul_eq a b) ⟨_,_,rfl,rfl⟩
theorem run_cmp (a b:Int):fnx (mk (tab [])) nol 76 [.sc kI,.sc kI] (.one (.sc kI)) (a,b,())=bif a != a then (bif b != b then some (0:Int) else some (-1:Int)) else bif b != b then some (1:Int) else bif decide (a<b) then some (-1:Int) else bif decide (a > b) then some (1:Int) else some (0:Int):=by kernel_rfl
theorem cmp_eq (a b:Int):fnx (mk (tab [])) nol 76 [.sc kI,.sc kI] (.one (.sc kI)) (a,b,())=some (cmpv a b):=by
 refine(run_cmp a b).trans ?_
 unfold cmpv
 simp only [bne_self_eq_false,cond_false]
 by_cases h1:a<b
 ·simp [h1];rfl
 ·by_cases h2:b<a
  ·simp [h1,h2];rfl
  ·simp [h1,h2];rfl
theorem cmp_ok:SpecOk Try.prog 76 (sI2 cmpv):=spec_tab [] trivial (fun ⟨a,b,_⟩=>cmp_eq a b) ⟨_,_,rfl,rfl⟩
theorem run_Or (a b:Int):fnx (mk (tab [])) nol 75 [.sc (.sl kI)] (.one (.sc kI)) ([a,b],())=bif a != 0 then some a else bif b != 0 then some b else some (0:Int):=by kernel_rfl
def orF (a b:Int):Int:=if a=0 then b else a
theorem Or_eq (l:List Int) (r:Int) (h:(match l with|[a,b]=>some (orF a b)|_=>none)=some r):fnx (mk (tab [])) nol 75 [.sc (.sl kI)] (.one (.sc kI)) (l,())=some r:=by
 match l,h with
 | [a,b],h =>
  refine(run_Or a b).trans ?_
  rw [←h]
  unfold orF
  by_cases h1:a=0
  ·subst h1
   by_cases h2:b=0
   ·subst h2;rfl
   ·have:(b != 0)=true:=by simpa using h2
    rw [this];rfl
  ·have:(a != 0)=true:=by simpa using h1
   rw [this]
   show some a=some (if a=0 then b else a)
   rw [if_neg h1]
theorem Or_ok:SpecOk Try.prog 75 (sOr orF):=spec_opt (x_ok (l:=[]) trivial) (fun ⟨l,_⟩ r h=>Or_eq l r h) ⟨_,_,rfl,rfl⟩
theorem run_Cmp (A B C O:Int→Int→Int) (a b c d:Int):fnx (mk (tab [(74,sWW A B),(76,sI2 C),(75,sOr O)])) nol 59 [.ag kW,.ag kW] (.one (.sc kI)) ((a,b,()),(c,d,()),())=some (O (C (A a b) (A c d)) (C (B a b) (B c d))):=by kernel_rfl
def cmF (a b c d:Int):Int:=cmpv (kn a b) (kn c d)
theorem Cmp_eq (a b c d:Int):fnx (mk (tab [(74,sWW knH knL),(76,sI2 cmpv),(75,sOr orF)])) nol 59 [.ag kW,.ag kW] (.one (.sc kI)) ((a,b,()),(c,d,()),())=some (cmF a b c d):=by
 refine(run_Cmp knH knL cmpv orF a b c d).trans ?_
 congr 1
 unfold cmF knH knL orF
 generalize kn a b=x
 generalize kn c d=y
 have:=lo_bd x
 have:=lo_bd y
 have:=hi_lo x
 have:=hi_lo y
 unfold cmpv
 (repeat' split)<;>omega
theorem Cmp_ok:SpecOk Try.prog 59 (sCmp cmF):=spec_tab [(74,sWW knH knL),(76,sI2 cmpv),(75,sOr orF)] ⟨WKnown_ok,cmp_ok,Or_ok,trivial⟩ (fun ⟨⟨a,b,_⟩,⟨c,d,_⟩,_⟩=>Cmp_eq a b c d) ⟨_,_,rfl,rfl⟩
end Go.Proofs.Ytgmkppeghnlcmaa.W
end
section
set_option linter.unusedVariables false
set_option linter.unusedSimpArgs false
namespace Go.Proofs.Ytgmkppeghnlcmaa.W
open Go Go.Proofs Go.RowKit X
set_option maxRecDepth 100000
set_option linter.unusedVariables false
set_option linter.unusedSimpArgs false
set_option maxHeartbeats 4000000
structure FR where
  S:Int→Int→Bool
  MH:Int→Int→Int
  ML:Int→Int→Int
  C:Int→Int→Int→Int→Int
  OH:Int→Int
  OL:Int→Int
  AH:Int→Int→Int→Int→Int
  AL:Int→Int→Int→Int→Int
  AB:Int→Int→Int→Int→Bool
abbrev tR (F:FR):List (FuncId × X.Spec):=[(58,sWB F.S),(60,sMul F.MH F.ML),(59,sCmp F.C),(62,sOf F.OH F.OL),(61,sAdd F.AH F.AL F.AB)]
abbrev FR0:FR:=⟨saneB,muH,muL,cmF,hi,lo,adH,adL,adB⟩
theorem tR_ok:TabOk Try.prog (tR FR0):=⟨WSane_ok,Mul_ok,Cmp_ok,Of_ok,Add_ok,trivial⟩
structure DR where
  bad:Bool
  p:Int
  q:Int
  a:Int
  b:Int
abbrev jk (n:Nat):List Sk:=List.replicate n .junk
abbrev skR:StSk:=⟨[.junk,.ptr 0 0,.junk,.junk,.bool,.int .i64,.int .i64,.junk,.junk,.junk,.junk,.junk,.junk,.junk,.junk,.junk,.junk,.junk,.junk,.junk,.junk,.junk,.junk,.junk,.junk,.junk,.junk,.junk,.junk,.junk,.junk,.junk,.junk,.junk,.junk,.junk,.junk,.junk,.junk,.junk,.junk,.junk,.junk,.junk,.junk,.junk,.junk,.junk,.junk,.junk,.junk,.junk,.junk],[some (.cells [.int .i64,.int .i64])]⟩
def unR (x:skR.T):DR:=match x with
  | ((_,_,_,_,bad,p,q,_),((a,b,_),_))=>⟨bad,p,q,a,b⟩
def jks (n:Nat):List SV:=List.replicate n .junk
def fmR (x:DR):St:=⟨[.junk,.ptr 0 0,.junk,.junk,.v (.bool x.bad),.v (.int .i64 x.p),.v (.int .i64 x.q)]++jks 46,[some (true,.cells [.v (.int .i64 x.a),.v (.int .i64 x.b)])]⟩
theorem unR_ok (x:skR.T):skR.fill x=fmR (unR x):=by
 obtain⟨⟨_,_,_,_,bad,p,q,_⟩,⟨⟨a,b,_⟩,_⟩⟩:=x
 rfl
def outR (n:Int) (b:Bool):St:=⟨[.junk,.junk,.v (.int .i64 n),.v (.bool b)]++jks 49,[]⟩
abbrev deadR:List Nat:=[0,2,3]++(List.range 46).map (·+7)
abbrev deadxR:List Nat:=[0,1]++(List.range 49).map (·+4)
def midR (p q:Int):Int:=IntKind.i64.wrap (q-IntKind.i64.wrap ((IntKind.i64.wrap (q-p)).tdiv 2))
noncomputable def rndR {R:Type} (F:FR) (x:DR) (N:DR→Option R) (E:Ex→St→Option R):Option R :=
  bif decide (x.p<x.q) then
    (bif decide (F.C (F.MH (midR x.p x.q) (midR x.p x.q)) (F.ML (midR x.p x.q) (midR x.p x.q)) x.a x.b≤0) then N ⟨x.bad,midR x.p x.q,x.q,x.a,x.b⟩ else N ⟨x.bad,x.p,IntKind.i64.wrap (midR x.p x.q-1),x.a,x.b⟩)
  else bif decide (x.p<288230376151711744) then E .ret (outR x.p x.bad)
  else E .ret (outR x.p (decide (F.C (F.AH (F.MH x.p x.p) (F.ML x.p x.p) (F.OH 576460752303423489) (F.OL 576460752303423489)) (F.AL (F.MH x.p x.p) (F.ML x.p x.p) (F.OH 576460752303423489) (F.OL 576460752303423489)) x.a x.b≤0)))
noncomputable def bodyR:Code:=match Try.f50.body with|some (.seq _ (.scope c))=>c|_=>.skip
noncomputable def restR:Code:=(findLabel bodyR 0).getD .skip
noncomputable def resR {R:Type} (x:DR) (K:Ex→St→Option R):Option R :=
  open Classical in
  if h:∃ v:Int,Fits v∧x.a=hi v∧x.b=lo v∧0≤x.p∧x.p≤x.q∧x.q≤288230376151711744∧x.p*x.p≤v∧(x.q=288230376151711744∨v<(x.q+1)*(x.q+1)) then
    K .ret (outR (rt (Classical.choose h)) (rbad (Classical.choose h) x.bad))
  else none
noncomputable abbrev LR:{R:Type}→Lps R:=fun f k=>if f=50∧k=1000 then some (lpd deadR skR unR resR) else none
theorem roundR {R:Type} (F:FR) (lps:Lps R) (x:DR) (N:Option St→Option R) (E:Ex→Option St→Option R) :
  roundx (gbody (codex (mk (tab (tR F))) lps (callN (mk (tab (tR F))) 20) 50 restR) 0) (headx deadR) (headx deadxR) (fmR x) N E=rndR F x (fun x'=>N (some (fmR x'))) (fun e s=>E e (some s)):=by kernel_rfl
theorem resR_iff {R:Type} {x:DR} {K:Ex→St→Option R} {r:R} (h:resR x K=some r):∃ v:Int,Fits v∧x.a=hi v∧x.b=lo v∧0≤x.p∧x.p≤x.q∧x.q≤288230376151711744∧x.p*x.p≤v∧(x.q=288230376151711744∨v<(x.q+1)*(x.q+1))∧K .ret (outR (rt v) (rbad v x.bad))=some r:=by
 unfold resR at h
 split at h
 ·rename_i hx
  obtain⟨h1,h2,h3,h4,h5,h6,h7,h8⟩:=Classical.choose_spec hx
  exact⟨_,h1,h2,h3,h4,h5,h6,h7,h8,h⟩
 ·cases h
theorem resR_of {R:Type} {x:DR} {K:Ex→St→Option R} {r:R} {v:Int} (h1:Fits v) (h2:x.a=hi v) (h3:x.b=lo v) (h4:0≤x.p) (h5:x.p≤x.q) (h6:x.q≤288230376151711744) (h7:x.p*x.p≤v) (h8:x.q=288230376151711744∨v<(x.q+1)*(x.q+1)) (h:K .ret (outR (rt v) (rbad v x.bad))=some r):resR x K=some r:=by
 have hx:∃ v:Int,Fits v∧x.a=hi v∧x.b=lo v∧0≤x.p∧x.p≤x.q∧x.q≤288230376151711744∧x.p*x.p≤v∧(x.q=288230376151711744∨v<(x.q+1)*(x.q+1)):=⟨v,h1,h2,h3,h4,h5,h6,h7,h8⟩
 unfold resR
 rw [dif_pos hx]
 have:=Classical.choose_spec hx
 have e:Classical.choose hx=v:=pair_inj (this.2.1.symm.trans h2) (this.2.2.1.symm.trans h3)
 rw [e];exact h
theorem cm_sq {v m:Int} (hv:Fits v) (hm0:0≤m) (hm1:m≤288230376151711744):decide (cmF (muH m m) (muL m m) (hi v) (lo v)≤0)=decide (m*m≤v):=by
 have em:cl m=m:=by unfold cl;(repeat' split)<;>omega
 have fm:=fits_mul m m
 rw [em] at fm
 unfold cmF muH muL
 rw [em,kn_pair fm,kn_pair hv,decide_eq_decide]
 unfold cmpv
 (repeat' split)<;>omega
theorem mid_is {p q:Int} (h0:0≤p) (h1:p<q) (h2:q≤288230376151711744):midR p q=q-(q-p)/2:=by
 unfold midR
 rw [iw,iw,iw,w64 (n:=q-p) (by omega) (by omega),Int.tdiv_eq_ediv_of_nonneg (by omega),w64 (n:=(q-p)/2) (by omega) (by omega),w64 (by omega) (by omega)]
theorem last_is {v:Int} (hv:Fits v):decide (cmF (adH (muH 288230376151711744 288230376151711744) (muL 288230376151711744 288230376151711744) (hi 576460752303423489) (lo 576460752303423489)) (adL (muH 288230376151711744 288230376151711744) (muL 288230376151711744 288230376151711744) (hi 576460752303423489) (lo 576460752303423489)) (hi v) (lo v)≤0)=decide (83076749736557242632948693570945025≤v):=by
 have e1:cl 288230376151711744=288230376151711744:=by decide
 have f1:Fits (288230376151711744*288230376151711744):=by decide
 have f2:Fits 576460752303423489:=by decide
 have f3:Fits (288230376151711744*288230376151711744+576460752303423489):=by decide
 unfold cmF adH adL muH muL
 rw [e1,kn_pair f1,kn_pair f2,addv_ok f3,kn_pair f3,kn_pair hv,decide_eq_decide]
 unfold cmpv
 (repeat' split)<;>omega
theorem iterR {R:Type} {K:Ex→St→Option R} {r:R} (x:DR) (h:resR x K=some r):∃ n,iter (rndR FR0) n x K=some r:=by
 refine iter_by (fun x=>(x.q-x.p).toNat) (fun x=>resR x K) (fun x hx=>?_) x h
 obtain⟨bad,p,q,a,b⟩:=x
 obtain⟨v,hv,ha,hb,h0,h1,h2,h3,h4,hK⟩:=resR_iff hx
 simp only at ha hb h0 h1 h2 h3 h4 hK
 subst ha;subst hb
 by_cases c:p<q
 ·left
  have hm:=mid_is h0 c h2
  have hcm:=cm_sq hv (m:=midR p q) (by omega) (by omega)
  have e2:IntKind.i64.wrap (midR p q-1)=midR p q-1:=by rw [iw,w64 (by omega) (by omega)]
  have rn:∀ N:DR→Option R,rndR FR0 ⟨bad,p,q,hi v,lo v⟩ N K=bif decide (midR p q*midR p q≤v) then N ⟨bad,midR p q,q,hi v,lo v⟩ else N ⟨bad,p,midR p q-1,hi v,lo v⟩:=by
   intro N
   simp only [rndR,decide_eq_true c,cond_true]
   rw [hcm,e2]
  generalize midR p q=m at *
  by_cases g:m*m≤v
  ·refine⟨⟨bad,m,q,hi v,lo v⟩,?_,resR_of hv rfl rfl (by simp only;omega) (by simp only;omega) h2 g h4 hK,fun N hN=>?_⟩
   ·simp only;omega
   ·rw [rn,decide_eq_true g];exact hN
  ·refine⟨⟨bad,p,m-1,hi v,lo v⟩,?_,resR_of hv rfl rfl h0 (by simp only;omega) (by simp only;omega) h3 (Or.inr (by simp only;rw [show m-1+1=m by omega];omega)) hK,fun N hN=>?_⟩
   ·simp only;omega
   ·rw [rn,decide_eq_false g];exact hN
 ·right
  intro N
  obtain rfl:p=q:=by omega
  have hr:Rt v p:=⟨h0,h2,h3,h4⟩
  have er:=rt_eq hr
  rw [er] at hK
  simp only [rndR,decide_eq_false c,cond_false]
  by_cases c2:p<288230376151711744
  ·rw [decide_eq_true c2,cond_true]
   have:rbad v bad=bad:=by unfold rbad;rw [er,if_pos c2]
   rw [this] at hK
   exact hK
  ·rw [decide_eq_false c2,cond_false]
   obtain rfl:p=288230376151711744:=by omega
   have:rbad v bad=decide (83076749736557242632948693570945025≤v):=by unfold rbad;rw [er,if_neg c2]
   rw [this] at hK
   rw [last_is hv]
   exact hK
theorem restR_find:findLabel bodyR 0=some restR:=by kernel_rfl
noncomputable def KfR:Ex→St→Option (Int × Bool × Unit):=endx tis Try.f50 fun v m=>RD.parse m true (.many [.sc kI,.sc .bool]) v
theorem KfR_is (n:Int) (b:Bool):KfR .ret (outR n b)=some (n,b,()):=by kernel_rfl
noncomputable def goR (F:FR) (bad:Bool) (a b:Int):Option (Int × Bool × Unit):=bif decide (F.C (F.MH (midR 0 288230376151711744) (midR 0 288230376151711744)) (F.ML (midR 0 288230376151711744) (midR 0 288230376151711744)) a b≤0) then resR ⟨bad,midR 0 288230376151711744,288230376151711744,a,b⟩ KfR else resR ⟨bad,0,IntKind.i64.wrap (midR 0 288230376151711744-1),a,b⟩ KfR
theorem run_Wide (F:FR) (a b:Int):fnx (mk (tab (tR F))) LR 50 [.ag kW] (.many [.sc kI,.sc .bool]) ((a,b,()),())=bif !F.S a b then goR F (!F.S a b) 0 0 else bif decide (a<0) then some (0,true,()) else goR F (!F.S a b) a b:=by kernel_rfl
noncomputable def rtN (a b:Int):Int:=if kn a b<0 then 0 else rt (kn a b)
noncomputable def rtB (a b:Int):Bool:=if kn a b<0 then true else rbad (kn a b) (!saneB a b)
theorem goR_is {v:Int} (hv:Fits v) (h0:0≤v) (bad:Bool):goR FR0 bad (hi v) (lo v)=some (rt v,rbad v bad,()):=by
 have hm:=mid_is (p:=0) (q:=288230376151711744) (by omega) (by omega) (by omega)
 have hcm:=cm_sq hv (m:=midR 0 288230376151711744) (by omega) (by omega)
 unfold goR
 rw [hcm]
 have e2:IntKind.i64.wrap (midR 0 288230376151711744-1)=midR 0 288230376151711744-1:=by rw [iw,w64 (by omega) (by omega)]
 rw [e2]
 generalize midR 0 288230376151711744=m at *
 by_cases g:m*m≤v
 ·rw [decide_eq_true g]
  exact resR_of hv rfl rfl (by simp only;omega) (by simp only;omega) (by simp only;omega) g (Or.inl rfl) (KfR_is _ _)
 ·rw [decide_eq_false g]
  exact resR_of hv rfl rfl (by simp only;omega) (by simp only;omega) (by simp only;omega) (by simpa using h0) (Or.inr (by simp only;rw [show m-1+1=m by omega];omega)) (KfR_is _ _)
theorem Wide_eq (a b:Int):fnx (mk (tab (tR FR0))) LR 50 [.ag kW] (.many [.sc kI,.sc .bool]) ((a,b,()),())=some (rtN a b,rtB a b,()):=by
 refine(run_Wide FR0 a b).trans ?_
 have hv:=kn_fits a b
 have hb:=hi_lo (kn a b)
 have hl:=lo_bd (kn a b)
 show(bif !saneB a b then goR FR0 (!saneB a b) 0 0 else bif decide (a<0) then some (0,true,()) else goR FR0 (!saneB a b) a b)=_
 unfold rtN rtB
 by_cases s:Sane a b
 ·have hs:saneB a b=true:=decide_eq_true s
  rw [hs]
  simp only [Bool.not_true,cond_false]
  by_cases c:a<0
  ·rw [decide_eq_true c,cond_true,if_pos (by rw [kn_of s];unfold Sane at s;omega),if_pos (by rw [kn_of s];unfold Sane at s;omega)]
  ·have c0:0≤kn a b:=by rw [kn_of s];unfold Sane at s;omega
   rw [decide_eq_false c,cond_false,if_neg (by omega),if_neg (by omega)]
   have:=goR_is hv c0 false
   rw [(pair_of s).1,(pair_of s).2] at this
   exact this
 ·have hs:saneB a b=false:=decide_eq_false s
  rw [hs]
  simp only [Bool.not_false,cond_true]
  have e:=kn_bad s
  rw [e,if_neg (by omega),if_neg (by omega)]
  exact goR_is fits_zero (by omega) true
theorem Wide_ok:SpecOk Try.prog 50 ⟨[.ag kW],.many [.sc kI,.sc .bool],fun x=>some (rtN x.1.1 x.1.2.1,rtB x.1.1 x.1.2.1,())⟩:=by
 refine fng_ok (x_ok tR_ok) (lps:=LR) 0 (by kernel_rfl) (c:=bodyR) (by kernel_rfl) restR_find (by kernel_rfl) (by kernel_rfl) (fun k hk=>?_) (fun L' hL' s K r hs=>?_) (fun x r hr=>?_) ⟨_,_,rfl,rfl⟩
 ·show(if _∧1000+k=1000 then _ else none)=none
  rw [if_neg]
  rintro⟨_,h⟩
  omega
 ·obtain rfl:=Option.some.inj hL'
  exact lpd_ok unR_ok (fun x N E=>roundR FR0 LR x N E) (fun x K r h=>iterR x h) hs
 ·obtain⟨⟨a,b,⟨⟩⟩,⟨⟩⟩:=x
  rw [←hr]
  exact Wide_eq a b
end Go.Proofs.Ytgmkppeghnlcmaa.W
end
