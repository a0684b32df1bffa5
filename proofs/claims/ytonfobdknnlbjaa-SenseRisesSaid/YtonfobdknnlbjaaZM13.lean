/- Lemmas of the row, laid by a program. -/
import Derived.Laws.BitsLemmas
import Derived.OpenShut
import Derived.Test.YtonfobdknnlbjaaZM1
import Derived.Test.YtonfobdknnlbjaaZM4
import Derived.LoopN
section
namespace Go.Proofs.Ytonfobdknnlbjaa.Num
open Go Go.RowKit
theorem w64 {n:Int} (h0:-9223372036854775808≤n) (h1:n≤9223372036854775807):wrap64 n=n:=by
 unfold wrap64
 omega
theorem band64 (x:Int) (i:Nat) (hi:i≤62):Go.bits .and .i64 x (2^i-1)=x%2^i:=by
 have hp:(2:Nat)^i≤2^62:=Nat.pow_le_pow_right (by decide) hi
 have hpos:0<(2:Nat)^i:=Nat.two_pow_pos i
 have hc:((2:Int)^i-1)=((2^i-1:Nat):Int):=by
  rw [Int.natCast_sub hpos];simp
 have hm:(2^i-1:Nat)<2^64:=by omega
 have hxm:x%2^i=((x%18446744073709551616).toNat%2^i:Nat):=by
  have h0:0≤x%18446744073709551616:=Int.emod_nonneg _ (by decide)
  rw [Int.natCast_emod,Int.toNat_of_nonneg h0,Int.natCast_pow]
  have hd:((2:Int)^i)∣18446744073709551616:=⟨2^(64-i),by rw [←Int.pow_add];rw [show i+(64-i)=64 by omega];rfl⟩
  exact(Int.emod_emod_of_dvd x hd).symm
 have hb:(BitVec.ofInt 64 x &&& BitVec.ofInt 64 ((2^i-1:Nat):Int)).toNat=(x%18446744073709551616).toNat%2^i:=by
  rw [BitVec.toNat_and,BitVec.toNat_ofInt,BitVec.ofInt_natCast,BitVec.toNat_ofNat,Nat.mod_eq_of_lt hm,Nat.and_two_pow_sub_one_eq_mod]
  rfl
 have hlt:(x%18446744073709551616).toNat%2^i<2^i:=Nat.mod_lt _ hpos
 rw [hc]
 show IntKind.wrap .i64 ((BitVec.ofInt 64 x &&& BitVec.ofInt 64 ((2^i-1:Nat):Int)).toNat:Int)=_
 rw [hb,hxm,IntKind.wrap_i64]
 omega
theorem wu64 {n:Int} (h0:0≤n) (h1:n<18446744073709551616):IntKind.u64.wrap n=n:=by
 simp only [IntKind.wrap,IntKind.bits,IntKind.signed]
 simp
 omega
theorem u64_wrap (n:Int):IntKind.u64.wrap n=n%18446744073709551616:=by
 simp [IntKind.wrap,IntKind.bits,IntKind.signed]
theorem i64_wrap (n:Int):IntKind.i64.wrap n=wrap64 n:=by
 rw [IntKind.wrap_i64]
 unfold wrap64
 omega
theorem bandu64 (x:Int) (i:Nat) (hi:i≤63):Go.bits .and .u64 x (2^i-1)=x%2^i:=by
 have hp:(2:Nat)^i≤2^63:=Nat.pow_le_pow_right (by decide) hi
 have hpos:0<(2:Nat)^i:=Nat.two_pow_pos i
 have hc:((2:Int)^i-1)=((2^i-1:Nat):Int):=by
  rw [Int.natCast_sub hpos];simp
 have hm:(2^i-1:Nat)<2^64:=by omega
 have hxm:x%2^i=((x%18446744073709551616).toNat%2^i:Nat):=by
  have h0:0≤x%18446744073709551616:=Int.emod_nonneg _ (by decide)
  rw [Int.natCast_emod,Int.toNat_of_nonneg h0,Int.natCast_pow]
  have hd:((2:Int)^i)∣18446744073709551616:=⟨2^(64-i),by rw [←Int.pow_add];rw [show i+(64-i)=64 by omega];rfl⟩
  exact(Int.emod_emod_of_dvd x hd).symm
 have hb:(BitVec.ofInt 64 x &&& BitVec.ofInt 64 ((2^i-1:Nat):Int)).toNat=(x%18446744073709551616).toNat%2^i:=by
  rw [BitVec.toNat_and,BitVec.toNat_ofInt,BitVec.ofInt_natCast,BitVec.toNat_ofNat,Nat.mod_eq_of_lt hm,Nat.and_two_pow_sub_one_eq_mod]
  rfl
 have hlt:(x%18446744073709551616).toNat%2^i<2^i:=Nat.mod_lt _ hpos
 rw [hc]
 show IntKind.wrap .u64 ((BitVec.ofInt 64 x &&& BitVec.ofInt 64 ((2^i-1:Nat):Int)).toNat:Int)=_
 rw [hb,hxm,u64_wrap]
 omega
theorem or_nat (x y:Int) (j:Nat) (hj:j≤63) (hx:x%2^j=0) (hy0:0≤y) (hy1:y<2^j) :
  ∃ m:Int,((BitVec.ofInt 64 x ||| BitVec.ofInt 64 y).toNat:Int)=x+y+18446744073709551616*m:=by
 obtain⟨b,rfl⟩:=Int.eq_ofNat_of_zero_le hy0
 have hb:b<2^j:=by exact_mod_cast hy1
 have hp:(2:Nat)^j≤2^63:=Nat.pow_le_pow_right (by decide) hj
 have hpos:(0:Int)<2^j:=Int.pow_pos (by decide)
 have h0:0≤x%18446744073709551616:=Int.emod_nonneg _ (by decide)
 have hd:((2:Int)^j)∣18446744073709551616:=⟨2^(64-j),by rw [←Int.pow_add];rw [show j+(64-j)=64 by omega];rfl⟩
 have hz:(x%18446744073709551616)%2^j=0:=by rw [Int.emod_emod_of_dvd x hd];exact hx
 have hq:(x%18446744073709551616).toNat=2^j*((x%18446744073709551616).toNat/2^j):=by
  have h1:(x%18446744073709551616).toNat%2^j=0:=by
   have:(((x%18446744073709551616).toNat%2^j:Nat):Int)=0:=by
    rw [Int.natCast_emod,Int.toNat_of_nonneg h0,Int.natCast_pow];exact hz
   exact Int.natCast_eq_zero.mp this
  have:=Nat.div_add_mod (x%18446744073709551616).toNat (2^j)
  omega
 refine⟨- (x/18446744073709551616),?_⟩
 rw [BitVec.toNat_or,BitVec.toNat_ofInt,BitVec.ofInt_natCast,BitVec.toNat_ofNat,Nat.mod_eq_of_lt (show b<2^64 by omega)]
 have hs:(x%((2^64:Nat):Int)).toNat=(x%18446744073709551616).toNat:=rfl
 rw [hs,hq,←Nat.two_pow_add_eq_or_of_lt hb,←hq,Int.natCast_add,Int.toNat_of_nonneg h0]
 omega
theorem bor64 (x y:Int) (j:Nat) (hj:j≤63) (hx:x%2^j=0) (hy0:0≤y) (hy1:y<2^j):Go.bits .or .i64 x y=wrap64 (x+y):=by
 obtain⟨m,hm⟩:=or_nat x y j hj hx hy0 hy1
 show IntKind.wrap .i64 ((BitVec.ofInt 64 x ||| BitVec.ofInt 64 y).toNat:Int)=_
 rw [hm,i64_wrap]
 unfold wrap64
 omega
theorem boru64 (x y:Int) (j:Nat) (hj:j≤63) (hx:x%2^j=0) (hy0:0≤y) (hy1:y<2^j):Go.bits .or .u64 x y=(x+y)%18446744073709551616:=by
 obtain⟨m,hm⟩:=or_nat x y j hj hx hy0 hy1
 show IntKind.wrap .u64 ((BitVec.ofInt 64 x ||| BitVec.ofInt 64 y).toNat:Int)=_
 rw [hm,u64_wrap]
 omega
theorem bnot64 (x:Int) (h0:-9223372036854775808≤x) (h1:x≤9223372036854775807):Go.bits .xor .i64 (-1) x=-1-x:=by
 show IntKind.wrap .i64 ((BitVec.ofInt 64 (-1) ^^^ BitVec.ofInt 64 x).toNat:Int)=_
 have h2:BitVec.ofInt 64 (-1)=BitVec.allOnes 64:=by decide
 rw [h2,BitVec.allOnes_xor,BitVec.toNat_not,BitVec.toNat_ofInt,i64_wrap]
 have h3:0≤x%18446744073709551616:=Int.emod_nonneg _ (by decide)
 have h4:(x%((2^64:Nat):Int)).toNat=(x%18446744073709551616).toNat:=rfl
 rw [h4]
 unfold wrap64
 omega
theorem p62:(2:Int)^62=4611686018427387904:=by decide
theorem bandu62 (x:Int):Go.bits .and .u64 x 4611686018427387903=x%4611686018427387904:=by
 have h:=bandu64 x 62 (by decide)
 rw [p62] at h
 exact h
theorem band62 (x:Int):Go.bits .and .i64 x 4611686018427387903=x%4611686018427387904:=by
 have h:=band64 x 62 (by decide)
 rw [p62] at h
 exact h
theorem p32:(2:Int)^32=4294967296:=by decide
theorem bandu32 (x:Int):Go.bits .and .u64 x 4294967295=x%4294967296:=by
 have h:=bandu64 x 32 (by decide)
 rw [p32] at h
 exact h
end Go.Proofs.Ytonfobdknnlbjaa.Num
end
section
namespace Go.Proofs.Ytonfobdknnlbjaa.B
open Go.RowKit Go.Proofs.YtonfobdknnlbjaaW.PrintWords Go.Proofs.YtonfobdknnlbjaaW.PrintLast Go.Proofs.YtonfobdknnlbjaaW.PrintMore
attribute [local go_sem] max2_int min2_int max_two min_two max_three min_three max_four min_four
set_option linter.unusedVariables false
set_option linter.unusedSimpArgs false
attribute [local go_sem high] eqA22
end Go.Proofs.Ytonfobdknnlbjaa.B
end
section
namespace Go.Proofs.Ytonfobdknnlbjaa.B
open Go.RowKit Go.Proofs.YtonfobdknnlbjaaW.PrintWords Go.Proofs.YtonfobdknnlbjaaW.PrintLast Go.Proofs.YtonfobdknnlbjaaW.PrintMore
attribute [local go_sem] max2_int min2_int max_two min_two max_three min_three max_four min_four
set_option linter.unusedVariables false
set_option linter.unusedSimpArgs false
attribute [local go_sem high] eqA22
end Go.Proofs.Ytonfobdknnlbjaa.B
end
section
namespace Go.Proofs.Ytonfobdknnlbjaa.B
open Go.RowKit Go.Proofs.YtonfobdknnlbjaaW.PrintWords Go.Proofs.YtonfobdknnlbjaaW.PrintLast Go.Proofs.YtonfobdknnlbjaaW.PrintMore
attribute [local go_sem] max2_int min2_int max_two min_two max_three min_three max_four min_four
set_option linter.unusedVariables false
set_option linter.unusedSimpArgs false
end Go.Proofs.Ytonfobdknnlbjaa.B
end
section
namespace Go.Proofs.Ytonfobdknnlbjaa.B
open Go.RowKit Go.Proofs.YtonfobdknnlbjaaW.PrintWords Go.Proofs.YtonfobdknnlbjaaW.PrintLast Go.Proofs.YtonfobdknnlbjaaW.PrintMore
attribute [local go_sem] max2_int min2_int max_two min_two max_three min_three max_four min_four
set_option linter.unusedVariables false
set_option linter.unusedSimpArgs false
end Go.Proofs.Ytonfobdknnlbjaa.B
end
section
namespace Go.Proofs.Ytonfobdknnlbjaa.B
open Go.RowKit Go.Proofs.YtonfobdknnlbjaaW.PrintWords Go.Proofs.YtonfobdknnlbjaaW.PrintLast Go.Proofs.YtonfobdknnlbjaaW.PrintMore
attribute [local go_sem] max2_int min2_int max_two min_two max_three min_three max_four min_four
set_option linter.unusedVariables false
set_option linter.unusedSimpArgs false
end Go.Proofs.Ytonfobdknnlbjaa.B
end
section
namespace Go.Proofs.Ytonfobdknnlbjaa.B
open Go.RowKit Go.Proofs.YtonfobdknnlbjaaW.PrintWords Go.Proofs.YtonfobdknnlbjaaW.PrintLast Go.Proofs.YtonfobdknnlbjaaW.PrintMore
attribute [local go_sem] max2_int min2_int max_two min_two max_three min_three max_four min_four
set_option linter.unusedVariables false
set_option linter.unusedSimpArgs false
end Go.Proofs.Ytonfobdknnlbjaa.B
end
section
namespace Go.Proofs.Ytonfobdknnlbjaa.B
open Go.RowKit Go.Proofs.YtonfobdknnlbjaaW.PrintWords Go.Proofs.YtonfobdknnlbjaaW.PrintLast Go.Proofs.YtonfobdknnlbjaaW.PrintMore
attribute [local go_sem] max2_int min2_int max_two min_two max_three min_three max_four min_four
set_option linter.unusedVariables false
set_option linter.unusedSimpArgs false
end Go.Proofs.Ytonfobdknnlbjaa.B
end
section
namespace Go.Proofs.Ytonfobdknnlbjaa.B
open Go.RowKit Go.Proofs.YtonfobdknnlbjaaW.PrintWords Go.Proofs.YtonfobdknnlbjaaW.PrintLast Go.Proofs.YtonfobdknnlbjaaW.PrintMore
attribute [local go_sem] max2_int min2_int max_two min_two max_three min_three max_four min_four
set_option linter.unusedVariables false
set_option linter.unusedSimpArgs false
attribute [local go_sem high] eqA59
end Go.Proofs.Ytonfobdknnlbjaa.B
end
section
namespace Go.Proofs.Ytonfobdknnlbjaa.B
open Go.RowKit Go.Proofs.YtonfobdknnlbjaaW.PrintWords Go.Proofs.YtonfobdknnlbjaaW.PrintLast Go.Proofs.YtonfobdknnlbjaaW.PrintMore
attribute [local go_sem] max2_int min2_int max_two min_two max_three min_three max_four min_four
set_option linter.unusedVariables false
set_option linter.unusedSimpArgs false
end Go.Proofs.Ytonfobdknnlbjaa.B
end
section
namespace Go.Proofs.Ytonfobdknnlbjaa.B
open Go.RowKit Go.Proofs.YtonfobdknnlbjaaW.PrintWords Go.Proofs.YtonfobdknnlbjaaW.PrintLast Go.Proofs.YtonfobdknnlbjaaW.PrintMore
attribute [local go_sem] max2_int min2_int max_two min_two max_three min_three max_four min_four
set_option linter.unusedVariables false
set_option linter.unusedSimpArgs false
end Go.Proofs.Ytonfobdknnlbjaa.B
end
