/- Lemmas of the rows, laid by a program. -/
import Derived.Test.YtgmkppeghnlcmaaYM7
section
set_option linter.unusedVariables false
set_option linter.unusedSimpArgs false
namespace Go.Proofs.Ytgmkppeghnlcmaa.W
open Go Go.RowKit
set_option linter.unusedVariables false
set_option linter.unusedSimpArgs false
def InW (x:Int):Prop:=0≤x∧x<18446744073709551616
def InI (x:Int):Prop:=-9223372036854775808≤x∧x≤9223372036854775807
def uw (x:Int):Int:=IntKind.u64.wrap x
theorem uw_mod (x:Int):uw x=x%18446744073709551616:=u64_wrap x
theorem uw_in (x:Int):InW (uw x):=by rw [uw_mod];unfold InW;omega
theorem uw_inj {x y:Int} (hx:InI x) (hy:InI y) (h:uw x=uw y):x=y:=by
 rw [uw_mod,uw_mod] at h
 unfold InI at hx hy
 omega
theorem wrap_uw {x:Int} (hx:InI x):wrap64 (uw x)=x:=by
 rw [uw_mod]
 unfold InI at hx
 unfold wrap64
 omega
theorem uw_wrap {x:Int} (hx:InW x):uw (wrap64 x)=x:=by
 rw [uw_mod]
 unfold InW at hx
 unfold wrap64
 omega
theorem wrap_in (x:Int):InI (wrap64 x):=⟨w64_lo x,w64_hi x⟩
def xo (x y:Int):Int:=Go.bits .xor .u64 x y
theorem xo_bv (x y:Int):xo x y=((BitVec.ofInt 64 x ^^^ BitVec.ofInt 64 y).toNat:Int):=by
 have hb:∀ b:BitVec 64,IntKind.u64.wrap (b.toNat:Int)=(b.toNat:Int):=fun b=>by
  have:=b.isLt
  rw [u64_wrap]
  omega
 exact hb _
theorem xo_in (x y:Int):InW (xo x y):=by
 rw [xo_bv]
 have:=(BitVec.ofInt 64 x ^^^ BitVec.ofInt 64 y).isLt
 unfold InW
 omega
theorem bv_in {x:Int} (h:InW x):((BitVec.ofInt 64 x).toNat:Int)=x:=by
 unfold InW at h
 rw [BitVec.toNat_ofInt]
 omega
theorem ofInt_toNat (b:BitVec 64):BitVec.ofInt 64 (b.toNat:Int)=b:=by
 rw [BitVec.ofInt_natCast,BitVec.ofNat_toNat,BitVec.setWidth_eq]
theorem xo_back {x y:Int} (hx:InW x):xo (xo x y) y=x:=by
 rw [xo_bv,xo_bv,ofInt_toNat,BitVec.xor_assoc,BitVec.xor_self,BitVec.xor_zero]
 exact bv_in hx
theorem xo_comm (x y:Int):xo x y=xo y x:=by
 rw [xo_bv,xo_bv,BitVec.xor_comm]
theorem xo_inj {x y z:Int} (hx:InW x) (hy:InW y) (h:xo x z=xo y z):x=y:=by
 rw [←xo_back (x:=x) (y:=z) hx,h,xo_back hy]
theorem xo_inj2 {x y z:Int} (hx:InW x) (hy:InW y) (h:xo z x=xo z y):x=y:=by
 rw [xo_comm z x,xo_comm z y] at h
 exact xo_inj hx hy h
theorem xo_same {x y:Int} (hx:InW x) (hy:InW y) (h:xo x y=x):y=0:=by
 have h1:xo x y=xo x 0:=by
  rw [h,xo_bv]
  have:BitVec.ofInt 64 0=0#64:=rfl
  rw [this,BitVec.xor_zero]
  exact(bv_in hx).symm
 exact xo_inj2 hy ⟨by decide,by decide⟩ h1
def stp (h w:Int):Int:=IntKind.u64.wrap (xo h w*1099511628211)
theorem stp_in (h w:Int):InW (stp h w):=uw_in _
theorem mul_inj {x y:Int} (hx:InW x) (hy:InW y) (h:IntKind.u64.wrap (x*1099511628211)=IntKind.u64.wrap (y*1099511628211)):x=y:=by
 rw [u64_wrap,u64_wrap] at h
 unfold InW at hx hy
 have e1:(x*1099511628211*14886173955864302971)%18446744073709551616=(y*1099511628211*14886173955864302971)%18446744073709551616:=by
  rw [Int.mul_emod,h,←Int.mul_emod]
 have e2:∀ z:Int,z*1099511628211*14886173955864302971=z+18446744073709551616*(z*887285111055):=by
  intro z
  have e3:(1099511628211*14886173955864302971:Int)=1+18446744073709551616*887285111055:=by decide
  rw [Int.mul_assoc,e3,Int.mul_add,Int.mul_one,Int.mul_left_comm]
 rw [e2,e2] at e1
 generalize x*887285111055=u at e1
 generalize y*887285111055=v at e1
 clear h
 omega
theorem stp_inj {x y w:Int} (hx:InW x) (hy:InW y) (h:stp x w=stp y w):x=y :=
 xo_inj hx hy (mul_inj (xo_in _ _) (xo_in _ _) h)
theorem stp_inj2 {x y w:Int} (hx:InW x) (hy:InW y) (h:stp w x=stp w y):x=y :=
 xo_inj2 hx hy (mul_inj (xo_in _ _) (xo_in _ _) h)
def sumv (l:List Int):Int:=l.foldl stp 14695981039346656037
theorem fold_in (l:List Int):∀ h,InW h→InW (l.foldl stp h):=by
 induction l with
 | nil=>exact fun h hh=>hh
 | cons w l ih=>exact fun h _=>ih _ (stp_in h w)
theorem fold_inj (l:List Int):∀ x y,InW x→InW y→l.foldl stp x=l.foldl stp y→x=y:=by
 induction l with
 | nil=>exact fun x y _ _ h=>h
 | cons w l ih=>exact fun x y hx hy h=>stp_inj hx hy (ih _ _ (stp_in _ _) (stp_in _ _) h)
theorem first_in:InW 14695981039346656037:=⟨by decide,by decide⟩
theorem sum_one (l:List Int):∀ (h:Int) (j:Nat) (x:Int),InW h→j<l.length→InW x→InW (l.getD j 0)→x≠l.getD j 0→(l.set j x).foldl stp h≠l.foldl stp h:=by
 induction l with
 | nil=>intro h j x _ hj;simp at hj
 | cons w l ih =>
  intro h j x hh hj hx hw hne
  cases j with
  | zero =>
   intro e
   simp only [List.set_cons_zero,List.foldl_cons] at e
   have e2:=fold_inj l _ _ (stp_in _ _) (stp_in _ _) e
   exact hne (stp_inj2 hx hw e2)
  | succ j =>
   simp only [List.set_cons_succ,List.foldl_cons]
   exact ih _ j x (stp_in _ _) (by simpa using hj) hx (by simpa using hw) (by simpa using hne)
theorem sum_last (l:List Int) (x:Int):sumv (l++[x])=stp (sumv l) x:=by
 unfold sumv
 rw [List.foldl_append]
 rfl
theorem in_wfu {a:Int} (h:(Lit.int .u64 a).wf=true):InW a:=by
 have e0:IntKind.u64.min=0:=by decide
 have e1:IntKind.u64.max=18446744073709551615:=by decide
 simp [Lit.wf,e0,e1] at h
 unfold InW
 omega
end Go.Proofs.Ytgmkppeghnlcmaa.W
end
