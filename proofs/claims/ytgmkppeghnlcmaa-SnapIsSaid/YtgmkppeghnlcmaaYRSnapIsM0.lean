/- Lemmas of the rows, laid by a program. -/
import Derived.Test.YtgmkppeghnlcmaaYM7
import Derived.Test.YtgmkppeghnlcmaaYM18
section
set_option linter.unusedVariables false
set_option linter.unusedSimpArgs false
namespace Go.Proofs.Ytgmkppeghnlcmaa.W
open Go Go.Proofs Go.RowKit X
set_option maxRecDepth 100000
set_option linter.unusedVariables false
set_option linter.unusedSimpArgs false
theorem run_rClamp (n:Int):fnx (mk (tab [])) nol 46 [.sc kI] (.many [.sc kI,.sc .bool]) (n,())=bif decide (n > 288230376151711744) then some ((288230376151711744:Int),true,()) else bif decide (n < -288230376151711744) then some ((-288230376151711744:Int),true,()) else some (n,false,()):=by kernel_rfl
theorem rClamp_eq (n:Int):fnx (mk (tab [])) nol 46 [.sc kI] (.many [.sc kI,.sc .bool]) (n,())=some (cl n,cl n != n,()):=by
 refine(run_rClamp n).trans ?_
 show(_:Option (Int × Bool × Unit))=_
 unfold cl
 by_cases h1:n > 288230376151711744
 ·have e1:¬n < -288230376151711744:=by omega
  have e2:((288230376151711744:Int) != n)=true:=by simp;omega
  rw [decide_eq_true h1,cond_true,if_neg e1,if_pos h1,e2]
 ·by_cases h2:n < -288230376151711744
  ·have e2:((-288230376151711744:Int) != n)=true:=by simp;omega
   rw [decide_eq_false h1,cond_false,decide_eq_true h2,cond_true,if_pos h2,e2]
  ·rw [decide_eq_false h1,cond_false,decide_eq_false h2,cond_false,if_neg h2,if_neg h1]
   simp
theorem rClamp_ok:SpecOk Try.prog 46 (sIB cl fun n=>cl n != n):=spec_tab [] trivial (fun ⟨n,_⟩=>rClamp_eq n) ⟨_,_,rfl,rfl⟩
theorem run_rAs (C:Int→Int) (D:Int→Bool) (n:Int):fnx (mk (tab [(46,sIB C D)])) nol 86 [.sc kI] (.one (.sc kI)) (n,())=some (C n):=by kernel_rfl
theorem rAs_ok:SpecOk Try.prog 86 (sI1 cl):=spec_tab [(46,sIB cl fun n=>cl n != n)] ⟨rClamp_ok,trivial⟩ (fun ⟨n,_⟩=>run_rAs cl _ n) ⟨_,_,rfl,rfl⟩
theorem run_rAbs (C:Int→Int) (n:Int):fnx (mk (tab [(86,sI1 C)])) nol 82 [.sc kI] (.one (.sc kI)) (n,())=some (aR C n):=by kernel_rfl
theorem rAbs_eq (n:Int):fnx (mk (tab [(86,sI1 cl)])) nol 82 [.sc kI] (.one (.sc kI)) (n,())=some (ab n):=(run_rAbs cl n).trans (congrArg some (aR_is n))
theorem rAbs_ok:SpecOk Try.prog 82 (sI1 ab):=spec_tab [(86,sI1 cl)] ⟨rAs_ok,trivial⟩ (fun ⟨n,_⟩=>rAbs_eq n) ⟨_,_,rfl,rfl⟩
theorem run_rSane (a b:Int):fnx (mk (tab [])) nol 69 [.ag kW] (.one (.sc .bool)) ((a,b,()),())=bif decide (b ≥ 0) then (bif decide (b<4611686018427387904) then (bif decide (a ≥ -2305843009213693952) then some (decide (a<2305843009213693952)) else some false) else some false) else some false:=by kernel_rfl
theorem rsane4 (a b:Int):(bif decide (b ≥ 0) then (bif decide (b<4611686018427387904) then (bif decide (a ≥ -2305843009213693952) then some (decide (a<2305843009213693952)) else some false) else some false) else some false)=some (saneB a b):=by
 unfold saneB Sane
 by_cases h1:b ≥ 0<;>by_cases h2:b<4611686018427387904<;>by_cases h3:a ≥ -2305843009213693952<;>by_cases h4:a<2305843009213693952<;>simp [h1,h2,h3,h4]<;>omega
theorem rSane_ok:SpecOk Try.prog 69 (sWB saneB):=spec_tab [] trivial (fun ⟨⟨a,b,_⟩,_⟩=>(run_rSane a b).trans (rsane4 a b)) ⟨_,_,rfl,rfl⟩
theorem run_rAsW (S:Int→Int→Bool) (a b:Int):fnx (mk (tab [(69,sWB S)])) nol 67 [.ag kW] (.one (.ag kW)) ((a,b,()),())=bif !S a b then some ((0:Int),(0:Int),()) else some (a,b,()):=by kernel_rfl
theorem rAsW_eq (a b:Int):fnx (mk (tab [(69,sWB saneB)])) nol 67 [.ag kW] (.one (.ag kW)) ((a,b,()),())=some (knH a b,knL a b,()):=by
 refine(run_rAsW saneB a b).trans ?_
 show(_:Option (Int × Int × Unit))=_
 unfold saneB knH knL
 by_cases h:Sane a b
 ·simp only [decide_eq_true h,Bool.not_true,cond_false,(pair_of h).1,(pair_of h).2]
 ·simp only [decide_eq_false h,Bool.not_false,cond_true,kn_bad h,hi_zero,lo_zero]
theorem rAsW_ok:SpecOk Try.prog 67 (sWW knH knL):=spec_tab [(69,sWB saneB)] ⟨rSane_ok,trivial⟩ (fun ⟨⟨a,b,_⟩,_⟩=>rAsW_eq a b) ⟨_,_,rfl,rfl⟩
theorem run_rCmp (A B:Int→Int→Int) (a b c d:Int):fnx (mk (tab [(67,sWW A B)])) nol 73 [.ag kW,.ag kW] (.one (.sc kI)) ((a,b,()),(c,d,()),()) =
  bif !decide (A a b<A c d) then (bif A a b == A c d then (bif decide (B a b<B c d) then some (-1:Int) else bif A a b == A c d && (B a b == B c d && true) then some (0:Int) else some (1:Int)) else bif A a b == A c d && (B a b == B c d && true) then some (0:Int) else some (1:Int)) else some (-1:Int):=by kernel_rfl
theorem rCmp_eq (a b c d:Int):fnx (mk (tab [(67,sWW knH knL)])) nol 73 [.ag kW,.ag kW] (.one (.sc kI)) ((a,b,()),(c,d,()),())=some (cmF a b c d):=by
 refine(run_rCmp knH knL a b c d).trans ?_
 show(_:Option Int)=_
 unfold cmF knH knL
 generalize kn a b=x at *
 generalize kn c d=y at *
 have h1:=lo_bd x
 have h2:=lo_bd y
 have h3:=hi_lo x
 have h4:=hi_lo y
 unfold cmpv
 by_cases c1:hi x<hi y
 ·rw [decide_eq_true c1,if_pos (by omega)];rfl
 ·rw [decide_eq_false c1]
  by_cases c2:hi x=hi y
  ·have e2:(hi x == hi y)=true:=by simpa using c2
   rw [e2]
   by_cases c3:lo x<lo y
   ·rw [decide_eq_true c3,if_pos (by omega)];rfl
   ·rw [decide_eq_false c3]
    by_cases c4:lo x=lo y
    ·have e4:(lo x == lo y)=true:=by simpa using c4
     rw [e4,if_neg (by omega),if_neg (by omega)];rfl
    ·have e4:(lo x == lo y)=false:=by simpa using c4
     rw [e4,if_neg (by omega),if_pos (by omega)];rfl
  ·have e2:(hi x == hi y)=false:=by simpa using c2
   rw [e2,if_neg (by omega),if_pos (by omega)];rfl
theorem rCmp_ok:SpecOk Try.prog 73 (sCmp cmF):=spec_tab [(67,sWW knH knL)] ⟨rAsW_ok,trivial⟩ (fun ⟨⟨a,b,_⟩,⟨c,d,_⟩,_⟩=>rCmp_eq a b c d) ⟨_,_,rfl,rfl⟩
def raH (A:Int→Int→Int) (a b c d:Int):Int:=IntKind.i64.wrap (A a b+A c d)
def raF (S:Int→Int→Bool) (h l:Int):Option ((Int × Int × Unit) × Bool × Unit):=bif !S h l then some ((0,0,()),false,()) else some ((h,l,()),true,())
theorem run_rAdd (A B:Int→Int→Int) (S:Int→Int→Bool) (a b c d:Int):fnx (mk (tab [(67,sWW A B),(69,sWB S)])) nol 70 [.ag kW,.ag kW] (.many [.ag kW,.sc .bool]) ((a,b,()),(c,d,()),()) =
  bif !decide (raH B a b c d<0) then (bif decide (raH B a b c d ≥ 4611686018427387904) then raF S (IntKind.i64.wrap (raH A a b c d+1)) (IntKind.i64.wrap (raH B a b c d-4611686018427387904)) else raF S (raH A a b c d) (raH B a b c d)) else raF S (IntKind.i64.wrap (raH A a b c d+1)) (IntKind.i64.wrap (raH B a b c d-4611686018427387904)):=by kernel_rfl
theorem rAdd_eq (a b c d:Int):fnx (mk (tab [(67,sWW knH knL),(69,sWB saneB)])) nol 70 [.ag kW,.ag kW] (.many [.ag kW,.sc .bool]) ((a,b,()),(c,d,()),())=some ((adH a b c d,adL a b c d,()),adB a b c d,()):=by
 refine(run_rAdd knH knL saneB a b c d).trans ?_
 show(_:Option ((Int × Int × Unit) × Bool × Unit))=_
 have hx:=kn_fits a b
 have hy:=kn_fits c d
 unfold raH adH adL adB knH knL
 generalize kn a b=x at *
 generalize kn c d=y at *
 have hx1:=hi_bd hx
 have hy1:=hi_bd hy
 have hx2:=lo_bd x
 have hy2:=lo_bd y
 have hx3:=hi_lo x
 have hy3:=hi_lo y
 simp only [iw]
 rw [w64 (n:=lo x+lo y) (by omega) (by omega),w64 (n:=hi x+hi y) (by omega) (by omega),w64 (n:=hi x+hi y+1) (by omega) (by omega),w64 (n:=lo x+lo y-4611686018427387904) (by omega) (by omega)]
 have fin:∀ p q:Int,p=hi (x+y)→q=lo (x+y)→raF saneB p q=some ((hi (addv x y),lo (addv x y),()),decide (Fits (x+y)),()):=by
  rintro p q rfl rfl
  unfold raF saneB
  by_cases h:Fits (x+y)
  ·rw [decide_eq_true (sane_pair h),addv_ok h,decide_eq_true h];rfl
  ·have hs:¬Sane (hi (x+y)) (lo (x+y)):=by
    intro hs
    apply h
    unfold Sane at hs
    unfold Fits
    have:=hi_lo (x+y)
    omega
   have ea:addv x y=0:=by unfold addv;rw [if_neg h]
   rw [decide_eq_false hs,ea,decide_eq_false h,hi_zero,lo_zero];rfl
 rw [decide_eq_false (show ¬lo x+lo y<0 by omega)]
 by_cases c:lo x+lo y ≥ 4611686018427387904
 ·rw [decide_eq_true c]
  exact fin _ _ (by unfold hi lo at *;omega) (by unfold lo at *;omega)
 ·rw [decide_eq_false c]
  exact fin _ _ (by unfold hi lo at *;omega) (by unfold lo at *;omega)
theorem rAdd_ok:SpecOk Try.prog 70 (sAdd adH adL adB):=spec_tab [(67,sWW knH knL),(69,sWB saneB)] ⟨rAsW_ok,rSane_ok,trivial⟩ (fun ⟨⟨a,b,_⟩,⟨c,d,_⟩,_⟩=>rAdd_eq a b c d) ⟨_,_,rfl,rfl⟩
def tnH (a b:Int):Int:=bif b == 0 then IntKind.i64.wrap (0-a) else IntKind.i64.wrap (IntKind.i64.wrap (0-a)-1)
theorem run_turn (a b:Int):fnx (mk (tab [])) nol 83 [.ag kW] (.one (.ag kW)) ((a,b,()),())=bif b == 0 then some (IntKind.i64.wrap (0-a),(0:Int),()) else some (IntKind.i64.wrap (IntKind.i64.wrap (0-a)-1),IntKind.i64.wrap (4611686018427387904-b),()):=by kernel_rfl
theorem turn_eq (a b:Int):fnx (mk (tab [])) nol 83 [.ag kW] (.one (.ag kW)) ((a,b,()),())=some (tnH a b,ngL a b,()):=by
 refine(run_turn a b).trans ?_
 unfold tnH ngL
 cases b == 0<;>rfl
theorem turn_ok:SpecOk Try.prog 83 (sWW tnH ngL):=spec_tab [] trivial (fun ⟨⟨a,b,_⟩,_⟩=>turn_eq a b) ⟨_,_,rfl,rfl⟩
theorem turn_is {a b:Int} (h0:0≤b) (h1:b≤4611686018427387903) (h2:-4611686018427387904≤a) (h3:a≤4611686018427387904):tnH a b=hi (-(a*4611686018427387904+b))∧ngL a b=lo (-(a*4611686018427387904+b)):=by
 refine⟨?_,(neg_is h0 h1 h2 h3).2⟩
 unfold tnH
 by_cases h:b=0
 ·subst h
  simp only [beq_self_eq_true,cond_true]
  rw [iw,w64 (by omega) (by omega)]
  unfold hi
  omega
 ·have hb:(b == 0)=false:=by simpa using h
  rw [hb]
  simp only [cond_false]
  rw [iw,iw,w64 (n:=0-a) (by omega) (by omega),w64 (by omega) (by omega)]
  unfold hi
  omega
def miW (A:Int→Int) (a b:Int):Int:=IntKind.i64.wrap (IntKind.i64.wrap (IntKind.i64.wrap ((A a).tdiv 2147483648)*(A b).tmod 2147483648)+IntKind.i64.wrap ((A a).tmod 2147483648*IntKind.i64.wrap ((A b).tdiv 2147483648)))
def mlW (A:Int→Int) (a b:Int):Int:=IntKind.i64.wrap (IntKind.i64.wrap ((A a).tmod 2147483648*(A b).tmod 2147483648)+IntKind.i64.wrap ((miW A a b).tmod 2147483648*2147483648))
def mhW (A:Int→Int) (a b:Int):Int:=IntKind.i64.wrap (IntKind.i64.wrap (IntKind.i64.wrap ((A a).tdiv 2147483648)*IntKind.i64.wrap ((A b).tdiv 2147483648))+IntKind.i64.wrap ((miW A a b).tdiv 2147483648))
def msF (H N:Int→Int→Int) (a b h l:Int):Option (Int × Int × Unit):=bif !decide (a<0) == decide (b<0) then some (H h l,N h l,()) else some (h,l,())
theorem run_rMul (A:Int→Int) (H N:Int→Int→Int) (a b:Int):fnx (mk (tab [(82,sI1 A),(83,sWW H N)])) nol 71 [.sc kI,.sc kI] (.one (.ag kW)) (a,b,()) =
  bif decide (mlW A a b ≥ 4611686018427387904) then msF H N a b (IntKind.i64.wrap (mhW A a b+1)) (IntKind.i64.wrap (mlW A a b-4611686018427387904)) else msF H N a b (mhW A a b) (mlW A a b):=by kernel_rfl
theorem rMul_eq (a b:Int):fnx (mk (tab [(82,sI1 ab),(83,sWW tnH ngL)])) nol 71 [.sc kI,.sc kI] (.one (.ag kW)) (a,b,())=some (muH a b,muL a b,()):=by
 refine(run_rMul ab tnH ngL a b).trans ?_
 show(_:Option (Int × Int × Unit))=_
 have ha:=ab_bd a
 have hb:=ab_bd b
 have hab:=ab_mul a b
 unfold mhW mlW miW muH muL
 generalize ab a=x at *
 generalize ab b=y at *
 generalize cl a*cl b=z at *
 simp only [Int.tdiv_eq_ediv_of_nonneg ha.1,Int.tmod_eq_emod_of_nonneg ha.1,Int.tdiv_eq_ediv_of_nonneg hb.1,Int.tmod_eq_emod_of_nonneg hb.1,iw]
 have ex:x=x/2147483648*2147483648+x%2147483648:=by omega
 have ey:y=y/2147483648*2147483648+y%2147483648:=by omega
 have bx1:0≤x/2147483648:=by omega
 have bx2:x/2147483648≤134217728:=by omega
 have bx3:0≤x%2147483648:=by omega
 have bx4:x%2147483648≤2147483647:=by omega
 have by1:0≤y/2147483648:=by omega
 have by2:y/2147483648≤134217728:=by omega
 have by3:0≤y%2147483648:=by omega
 have by4:y%2147483648≤2147483647:=by omega
 generalize x/2147483648=p at *
 generalize x%2147483648=q at *
 generalize y/2147483648=r at *
 generalize y%2147483648=s at *
 have b1:0≤p*r:=Int.mul_nonneg bx1 by1
 have b2:p*r≤134217728*134217728:=Int.mul_le_mul bx2 by2 by1 (by decide)
 have b3:0≤p*s:=Int.mul_nonneg bx1 by3
 have b4:p*s≤134217728*2147483647:=Int.mul_le_mul bx2 by4 by3 (by decide)
 have b5:0≤q*r:=Int.mul_nonneg bx3 by1
 have b6:q*r≤2147483647*134217728:=Int.mul_le_mul bx4 by2 by1 (by decide)
 have b7:0≤q*s:=Int.mul_nonneg bx3 by3
 have b8:q*s≤2147483647*2147483647:=Int.mul_le_mul bx4 by4 by3 (by decide)
 have hp:x*y=p*r*4611686018427387904+(p*s+q*r)*2147483648+q*s:=by
  rw [ex,ey]
  grind
 rw [hp] at hab
 clear hp ex ey
 rw [w64 (n:=p) (by omega) (by omega),w64 (n:=r) (by omega) (by omega)]
 generalize p*r=a1 at *
 generalize p*s=a2 at *
 generalize q*r=a3 at *
 generalize q*s=a4 at *
 rw [w64 (n:=a2) (by omega) (by omega),w64 (n:=a3) (by omega) (by omega),w64 (n:=a4) (by omega) (by omega),w64 (n:=a1) (by omega) (by omega),w64 (n:=a2+a3) (by omega) (by omega)]
 rw [Int.tdiv_eq_ediv_of_nonneg (show 0≤a2+a3 by omega),Int.tmod_eq_emod_of_nonneg (show 0≤a2+a3 by omega)]
 rw [w64 (n:=(a2+a3)/2147483648) (by omega) (by omega),w64 (n:=(a2+a3)%2147483648*2147483648) (by omega) (by omega)]
 rw [w64 (n:=a4+(a2+a3)%2147483648*2147483648) (by omega) (by omega),w64 (n:=a1+(a2+a3)/2147483648) (by omega) (by omega)]
 rw [w64 (n:=a1+(a2+a3)/2147483648+1) (by omega) (by omega)]
 have hc:(!decide (a<0) == decide (b<0))=(decide (a<0) != decide (b<0)):=by cases decide (a<0)<;>cases decide (b<0)<;>rfl
 have fin:∀ u v:Int,u*4611686018427387904+v=a1*4611686018427387904+(a2+a3)*2147483648+a4→0≤v→v≤4611686018427387903→-4611686018427387904≤u→u≤4611686018427387904 →
   msF tnH ngL a b u v=some (hi z,lo z,()):=by
  intro u v huv v0 v1 u0 u1
  unfold msF
  rw [hc]
  cases h:(decide (a<0) != decide (b<0)) with
  | true =>
   rw [h,if_pos rfl] at hab
   have ht:=turn_is v0 v1 u0 u1
   rw [cond_true,ht.1,ht.2,huv,hab]
   simp
  | false =>
   rw [h,if_neg (by simp)] at hab
   rw [cond_false,←hab,←huv]
   have e1:hi (u*4611686018427387904+v)=u:=by unfold hi;omega
   have e2:lo (u*4611686018427387904+v)=v:=by unfold lo;omega
   rw [e1,e2]
 by_cases c:a4+(a2+a3)%2147483648*2147483648 ≥ 4611686018427387904
 ·rw [decide_eq_true c,w64 (n:=a4+(a2+a3)%2147483648*2147483648-4611686018427387904) (by omega) (by omega)]
  exact fin _ _ (by omega) (by omega) (by omega) (by omega) (by omega)
 ·rw [decide_eq_false c]
  exact fin _ _ (by omega) (by omega) (by omega) (by omega) (by omega)
theorem rMul_ok:SpecOk Try.prog 71 (sMul muH muL):=spec_tab [(82,sI1 ab),(83,sWW tnH ngL)] ⟨rAbs_ok,turn_ok,trivial⟩ (fun ⟨a,b,_⟩=>rMul_eq a b) ⟨_,_,rfl,rfl⟩
end Go.Proofs.Ytgmkppeghnlcmaa.W
end
section
set_option linter.unusedVariables false
set_option linter.unusedSimpArgs false
namespace Go.Proofs.Ytgmkppeghnlcmaa.W
open Go Go.Proofs Go.RowKit X
set_option maxRecDepth 100000
set_option linter.unusedVariables false
set_option linter.unusedSimpArgs false
set_option maxHeartbeats 4000000
structure FV where
  S:Int→Int→Bool
  KH:Int→Int→Int
  KL:Int→Int→Int
  MH:Int→Int→Int
  ML:Int→Int→Int
  C:Int→Int→Int→Int→Int
  AH:Int→Int→Int→Int→Int
  AL:Int→Int→Int→Int→Int
  AB:Int→Int→Int→Int→Bool
abbrev tV (F:FV):List (FuncId × X.Spec):=[(69,sWB F.S),(67,sWW F.KH F.KL),(71,sMul F.MH F.ML),(73,sCmp F.C),(70,sAdd F.AH F.AL F.AB)]
abbrev FV0:FV:=⟨saneB,knH,knL,muH,muL,cmF,adH,adL,adB⟩
theorem tV_ok:TabOk Try.prog (tV FV0):=⟨rSane_ok,rAsW_ok,rMul_ok,rCmp_ok,rAdd_ok,trivial⟩
structure DV where
  n:Int
  i:Int
  a:Int
  b:Int
  c:Int
  d:Int
abbrev skV:StSk:=⟨[.junk,.ptr 0 0,.junk,.junk,.ptr 1 0,.int .i64,.int .i64,.junk,.junk,.junk,.junk,.junk,.junk,.junk,.junk,.junk,.junk,.junk,.junk,.junk,.junk,.junk,.junk,.junk,.junk,.junk,.junk,.junk,.junk,.junk,.junk,.junk,.junk,.junk,.junk,.junk,.junk,.junk,.junk,.junk,.junk,.junk,.junk,.junk,.junk,.junk,.junk,.junk,.junk],[some (.cells [.int .i64,.int .i64]),some (.cells [.int .i64,.int .i64])]⟩
def unV (x:skV.T):DV:=match x with
  | ((_,_,_,_,_,n,i,_),((a,b,_),(c,d,_),_))=>⟨n,i,a,b,c,d⟩
def fmV (x:DV):St:=⟨[.junk,.ptr 0 0,.junk,.junk,.ptr 1 0,.v (.int .i64 x.n),.v (.int .i64 x.i)]++jks 42,[some (true,.cells [.v (.int .i64 x.a),.v (.int .i64 x.b)]),some (true,.cells [.v (.int .i64 x.c),.v (.int .i64 x.d)])]⟩
theorem unV_ok (x:skV.T):skV.fill x=fmV (unV x):=by
 obtain⟨⟨_,_,_,_,_,n,i,_⟩,⟨⟨a,b,_⟩,⟨c,d,_⟩,_⟩⟩:=x
 rfl
def outV (x:DV):St:=⟨[.junk,.ptr 0 0,.junk,.junk,.ptr 1 0,.v (.int .i64 x.n),.junk]++jks 42,[some (true,.cells [.v (.int .i64 x.a),.v (.int .i64 x.b)]),some (true,.cells [.v (.int .i64 x.c),.v (.int .i64 x.d)])]⟩
abbrev deadV:List Nat:=[0,2,3]++(List.range 42).map (·+7)
abbrev deadxV:List Nat:=[0,2,3,6]++(List.range 42).map (·+7)
def haV (i:Int):Int:=IntKind.i64.wrap (i.tdiv 2)
noncomputable def rndV {R:Type} (F:FV) (x:DV) (N:DV→Option R) (E:Ex→St→Option R):Option R :=
  bif decide (x.i > 0) then
    (bif decide (IntKind.i64.wrap (x.n+x.i)≤288230376151711744) then
      (bif decide (F.C (F.MH (IntKind.i64.wrap (x.n+x.i)) (IntKind.i64.wrap (x.n+x.i))) (F.ML (IntKind.i64.wrap (x.n+x.i)) (IntKind.i64.wrap (x.n+x.i))) x.c x.d≤0) then N ⟨IntKind.i64.wrap (x.n+x.i),haV x.i,x.a,x.b,x.c,x.d⟩ else N ⟨x.n,haV x.i,x.a,x.b,x.c,x.d⟩)
    else N ⟨x.n,haV x.i,x.a,x.b,x.c,x.d⟩)
  else E (.exit 0) (outV x)
theorem roundV {R:Type} (F:FV) (lps:Lps R) (x:DV) (N:Option St→Option R) (E:Ex→Option St→Option R) :
  roundx (codex (mk (tab (tV F))) lps (callN (mk (tab (tV F))) 20) 56 (loopAt (mk (tab (tV F))) 56 0)) (headx deadV) (headx deadxV) (fmV x) N E=rndV F x (fun x'=>N (some (fmV x'))) (fun e s=>E e (some s)):=by kernel_rfl
def PreV (x:DV) (v:Int):Prop:=Fits v∧x.c=hi v∧x.d=lo v∧0≤x.n∧x.n≤288230376151711744∧x.n*x.n≤v ∧
  ((x.i=0∧(288230376151711744<x.n+1∨v<(x.n+1)*(x.n+1)))∨∃ j:Nat,j≤58∧x.i=2^j∧(288230376151711744<x.n+2^(j+1)∨v<(x.n+2^(j+1))*(x.n+2^(j+1))))
noncomputable def resV {R:Type} (x:DV) (K:Ex→St→Option R):Option R :=
  open Classical in
  if h:∃ v:Int,PreV x v then K (.exit 0) (outV ⟨rt (Classical.choose h),0,x.a,x.b,x.c,x.d⟩) else none
theorem resV_iff {R:Type} {x:DV} {K:Ex→St→Option R} {r:R} (h:resV x K=some r):∃ v:Int,PreV x v∧K (.exit 0) (outV ⟨rt v,0,x.a,x.b,x.c,x.d⟩)=some r:=by
 unfold resV at h
 split at h
 ·rename_i hx
  exact⟨_,Classical.choose_spec hx,h⟩
 ·cases h
theorem resV_of {R:Type} {x:DV} {K:Ex→St→Option R} {r:R} {v:Int} (hp:PreV x v) (h:K (.exit 0) (outV ⟨rt v,0,x.a,x.b,x.c,x.d⟩)=some r):resV x K=some r:=by
 have hx:∃ v:Int,PreV x v:=⟨v,hp⟩
 unfold resV
 rw [dif_pos hx]
 have:=Classical.choose_spec hx
 have e:Classical.choose hx=v:=pair_inj (this.2.1.symm.trans hp.2.1) (this.2.2.1.symm.trans hp.2.2.1)
 rw [e];exact h
theorem pow_pos' (j:Nat):(0:Int)<2^j:=Int.pow_pos (by decide)
theorem iterV {R:Type} {K:Ex→St→Option R} {r:R} (x:DV) (h:resV x K=some r):∃ n,iter (rndV FV0) n x K=some r:=by
 refine iter_by (fun x=>x.i.toNat) (fun x=>resV x K) (fun x hx=>?_) x h
 obtain⟨n,i,a,b,c,d⟩:=x
 obtain⟨v,⟨hv,hc,hd,h0,h1,h2,h3⟩,hK⟩:=resV_iff hx
 simp only at hc hd h0 h1 h2 h3 hK
 subst hc;subst hd
 rcases h3 with ⟨rfl,h3⟩|⟨j,hj,rfl,h3⟩
 ·right
  intro N
  have hr:Rt v n:=⟨h0,h1,h2,by rcases h3 with h3|h3;exact Or.inl (by omega);exact Or.inr h3⟩
  rw [rt_eq hr] at hK
  exact hK
 ·left
  have hp:=pow_pos' j
  have hpn:(2:Int)^j≤288230376151711744:=by
   have:(2:Nat)^j≤2^58:=Nat.pow_le_pow_right (by decide) (by omega)
   have h2:((2^j:Nat):Int)≤288230376151711744:=by omega
   rw [Int.natCast_pow] at h2
   exact h2
  have pw:∀ i:Nat,(2:Int)^(i+1)=2*2^i:=fun i=>by rw [Int.pow_succ,Int.mul_comm]
  obtain⟨g,hg,hg2,hg3⟩:∃ g:Int,haV (2^j)=g∧g<2^j∧∀ m:Int,(288230376151711744<m+2^j∨v<(m+2^j)*(m+2^j)) →
    ((g=0∧(288230376151711744<m+1∨v<(m+1)*(m+1)))∨∃ k:Nat,k≤58∧g=2^k∧(288230376151711744<m+2^(k+1)∨v<(m+2^(k+1))*(m+2^(k+1)))):=by
   cases j with
   | zero=>exact⟨0,by decide,by decide,fun m hm=>Or.inl ⟨rfl,hm⟩⟩
   | succ j =>
    have hq:=pw j
    have hp':=pow_pos' j
    refine⟨2^j,?_,by omega,fun m hm=>Or.inr ⟨j,by omega,rfl,hm⟩⟩
    unfold haV
    rw [hq,Int.tdiv_eq_ediv_of_nonneg (by omega),iw,w64 (by omega) (by omega)]
    omega
  have hq:=pw j
  have e1:IntKind.i64.wrap (n+2^j)=n+2^j:=by rw [iw,w64 (by omega) (by omega)]
  have rn:∀ N:DV→Option R,rndV FV0 ⟨n,2^j,a,b,hi v,lo v⟩ N K=bif decide (n+2^j≤288230376151711744) then (bif decide ((n+2^j)*(n+2^j)≤v) then N ⟨n+2^j,g,a,b,hi v,lo v⟩ else N ⟨n,g,a,b,hi v,lo v⟩) else N ⟨n,g,a,b,hi v,lo v⟩:=by
   intro N
   simp only [rndV,decide_eq_true (show(2:Int)^j > 0 from hp),cond_true,e1,hg]
   by_cases q:n+2^j≤288230376151711744
   ·rw [decide_eq_true q,cond_true,cond_true,cm_sq hv (by omega) q]
   ·rw [decide_eq_false q,cond_false,cond_false]
  have eg:n+2^(j+1)=n+2^j+2^j:=by omega
  by_cases q:n+2^j≤288230376151711744
  ·by_cases q2:(n+2^j)*(n+2^j)≤v
   ·refine⟨⟨n+2^j,g,a,b,hi v,lo v⟩,by simp only;omega,resV_of ⟨hv,rfl,rfl,by simp only;omega,q,q2,hg3 _ (by simp only;rw [←eg];exact h3)⟩ hK,fun N hN=>?_⟩
    rw [rn,decide_eq_true q,decide_eq_true q2];exact hN
   ·refine⟨⟨n,g,a,b,hi v,lo v⟩,by simp only;omega,resV_of ⟨hv,rfl,rfl,h0,h1,h2,hg3 _ (Or.inr (by simp only;omega))⟩ hK,fun N hN=>?_⟩
    rw [rn,decide_eq_true q,decide_eq_false q2];exact hN
  ·refine⟨⟨n,g,a,b,hi v,lo v⟩,by simp only;omega,resV_of ⟨hv,rfl,rfl,h0,h1,h2,hg3 _ (Or.inl (by simp only;omega))⟩ hK,fun N hN=>?_⟩
   rw [rn,decide_eq_false q];exact hN
noncomputable abbrev LV:{R:Type}→Lps R:=fun f k=>if f=56∧k=6 then some (lpd deadV skV unV resV) else none
noncomputable def KfV (F:FV):Ex→St→Option (Int × Bool × Unit):=fun e s=>match e,getT s.t 5,s.m with
  | .exit 0,.v (.int _ n),[some (_,.cells [.v (.int _ a),.v (.int _ b)]),some (_,.cells [.v (.int _ c),.v (.int _ d)])] =>
    bif decide (n<288230376151711744) then some (n,!F.S a b,()) else
      some (n,decide (F.C (F.AH (F.MH 288230376151711744 288230376151711744) (F.ML 288230376151711744 288230376151711744) 0 576460752303423489) (F.AL (F.MH 288230376151711744 288230376151711744) (F.ML 288230376151711744 288230376151711744) 0 576460752303423489) c d≤0),())
  | _,_,_=>none
theorem run_rWide (F:FV) (a b:Int):fnx (mk (tab (tV F))) LV 56 [.ag kW] (.many [.sc kI,.sc .bool]) ((a,b,()),())=bif decide (F.KH a b<0) then some ((0:Int),true,()) else resV ⟨0,288230376151711744,a,b,F.KH a b,F.KL a b⟩ (KfV F):=by kernel_rfl
theorem KfV_is {v:Int} (hv:Fits v) (n a b:Int) (hn:n<288230376151711744∨n=288230376151711744):KfV FV0 (.exit 0) (outV ⟨n,0,a,b,hi v,lo v⟩)=some (n,bif decide (n<288230376151711744) then !saneB a b else decide (83076749736557242632948693570945025≤v),()):=by
 have hl:=last_is hv
 have h1:hi 576460752303423489=0:=by decide
 have h2:lo 576460752303423489=576460752303423489:=by decide
 rw [h1,h2] at hl
 show(bif decide (n<288230376151711744) then some (n,!saneB a b,()) else some (n,decide (cmF (adH (muH 288230376151711744 288230376151711744) (muL 288230376151711744 288230376151711744) 0 576460752303423489) (adL (muH 288230376151711744 288230376151711744) (muL 288230376151711744 288230376151711744) 0 576460752303423489) (hi v) (lo v)≤0),()))=_
 rw [hl]
 cases decide (n<288230376151711744)<;>rfl
theorem rWide_eq (a b:Int):fnx (mk (tab (tV FV0))) LV 56 [.ag kW] (.many [.sc kI,.sc .bool]) ((a,b,()),())=some (rtN a b,rtB a b,()):=by
 refine(run_rWide FV0 a b).trans ?_
 have hv:=kn_fits a b
 have hb:=hi_lo (kn a b)
 have hl:=lo_bd (kn a b)
 show(bif decide (hi (kn a b)<0) then some ((0:Int),true,()) else resV ⟨0,288230376151711744,a,b,hi (kn a b),lo (kn a b)⟩ (KfV FV0))=_
 unfold rtN rtB
 by_cases c:kn a b<0
 ·rw [decide_eq_true (show hi (kn a b)<0 by omega),if_pos c,if_pos c]
  rfl
 ·rw [decide_eq_false (show ¬hi (kn a b)<0 by omega),cond_false,if_neg c,if_neg c]
  have e:(2:Int)^58=288230376151711744:=by decide
  have hr:=rt_rt (v:=kn a b) (by omega)
  refine resV_of (v:=kn a b) ⟨hv,rfl,rfl,by simp only;omega,by simp only;omega,by simp only;omega,Or.inr ⟨58,by omega,e.symm,Or.inl (show(288230376151711744:Int)<0+2^(58+1) by decide)⟩⟩ ?_
  rw [KfV_is hv _ _ _ (by have:=hr.2.1;omega)]
  congr 2
  unfold rbad
  by_cases g:rt (kn a b)<288230376151711744
  ·rw [decide_eq_true g,cond_true,if_pos g]
  ·rw [decide_eq_false g,cond_false,if_neg g]
theorem rWide_ok:SpecOk Try.prog 56 ⟨[.ag kW],.many [.sc kI,.sc .bool],fun x=>some (rtN x.1.1 x.1.2.1,rtB x.1.1 x.1.2.1,())⟩:=by
 refine fnl_ok (x_ok tV_ok) (lps:=LV) 1 (by kernel_rfl) (fun k hk=>?_) (fun x r hr=>?_) ⟨_,_,rfl,rfl⟩
 ·obtain rfl:k=0:=by omega
  intro L' hL' s K r hs
  have hL:LV (R:=Int × Bool × Unit) 56 6=some L':=hL'
  obtain rfl:=Option.some.inj hL
  exact lpd_ok unV_ok (fun x N E=>roundV FV0 LV x N E) (fun x K r h=>iterV x h) hs
 ·obtain⟨⟨a,b,⟨⟩⟩,⟨⟩⟩:=x
  rw [←hr]
  exact rWide_eq a b
end Go.Proofs.Ytgmkppeghnlcmaa.W
end
section
set_option linter.unusedVariables false
set_option linter.unusedSimpArgs false
namespace Go.Proofs.Ytgmkppeghnlcmaa.W
open Go Go.Proofs Go.RowKit X
set_option maxRecDepth 100000
set_option linter.unusedVariables false
set_option linter.unusedSimpArgs false
abbrev tNr (F:FN):List (FuncId × X.Spec):=[(46,sIB F.C F.D),(71,sMul F.MH F.ML),(70,sAdd F.AH F.AL F.AB),(56,⟨[.ag kW],.many [.sc kI,.sc .bool],fun x=>some (F.RN x.1.1 x.1.2.1,F.RB x.1.1 x.1.2.1,())⟩)]
theorem tNr_ok:TabOk Try.prog (tNr FN0):=⟨rClamp_ok,rMul_ok,rAdd_ok,rWide_ok,trivial⟩
theorem run_rNorm (F:FN) (a b c d:Int):fnx (mk (tab (tNr F))) nol 40 [.ag k4] (.many [.sc kI,.sc .bool]) ((a,b,c,d,()),()) =
  bif !F.D a then (bif !F.D b then (bif !F.D c then (bif !F.D d then some (F.RN (smF F [F.C a,F.C b,F.C c,F.C d]).1 (smF F [F.C a,F.C b,F.C c,F.C d]).2,F.RB (smF F [F.C a,F.C b,F.C c,F.C d]).1 (smF F [F.C a,F.C b,F.C c,F.C d]).2,())
   else some (F.RN (smF F [F.C a,F.C b,F.C c,F.C d]).1 (smF F [F.C a,F.C b,F.C c,F.C d]).2,true,())) else some (F.RN (smF F [F.C a,F.C b,F.C c,F.C d]).1 (smF F [F.C a,F.C b,F.C c,F.C d]).2,true,())) else some (F.RN (smF F [F.C a,F.C b,F.C c,F.C d]).1 (smF F [F.C a,F.C b,F.C c,F.C d]).2,true,())) else some (F.RN (smF F [F.C a,F.C b,F.C c,F.C d]).1 (smF F [F.C a,F.C b,F.C c,F.C d]).2,true,()):=by kernel_rfl
theorem cl_cl (n:Int):cl (cl n)=cl n:=by
 have h0:=cl_lo n
 have h1:=cl_hi n
 generalize cl n=m at *
 unfold cl
 (repeat' split)<;>omega
theorem sm_cl (a b c d:Int):smF FN0 [cl a,cl b,cl c,cl d]=smF FN0 [a,b,c,d]:=by
 simp only [smF,List.foldl_cons,List.foldl_nil,muH,muL,cl_cl]
theorem two_rNorm (r:Bool) (n:Int) (p q u v:Bool):(bif !p then (bif !q then (bif !u then (bif !v then some (n,r,()) else some (n,true,())) else some (n,true,())) else some (n,true,())) else some (n,true,()))=some (n,r || (p || (q || (u || v))),()):=by
 cases r<;>cases p<;>cases q<;>cases u<;>cases v<;>rfl
theorem rNorm_eq (a b c d:Int):fnx (mk (tab (tNr FN0))) nol 40 [.ag k4] (.many [.sc kI,.sc .bool]) ((a,b,c,d,()),())=some (qnN a b c d,qnB a b c d,()):=by
 refine(run_rNorm FN0 a b c d).trans ((two_rNorm _ _ _ _ _ _).trans ?_)
 show some (rtN (smF FN0 [cl a,cl b,cl c,cl d]).1 (smF FN0 [cl a,cl b,cl c,cl d]).2,(rtB (smF FN0 [cl a,cl b,cl c,cl d]).1 (smF FN0 [cl a,cl b,cl c,cl d]).2 || ((cl a != a) || ((cl b != b) || ((cl c != c) || (cl d != d))))),())=_
 rw [sm_cl]
 rfl
theorem rNorm_ok:SpecOk Try.prog 40 (sNorm qnN qnB):=spec_run (x_ok tNr_ok) (fun ⟨⟨a,b,c,d,_⟩,_⟩=>rNorm_eq a b c d) ⟨_,_,rfl,rfl⟩
abbrev tTr (N:Int→Int→Int→Int→Int) (B:Int→Int→Int→Int→Bool) (C:Int→Int) (D:Int→Bool):List (FuncId × X.Spec):=[(46,sIB C D),(40,sNorm N B)]
theorem run_rPose (N:Int→Int→Int→Int→Int) (B:Int→Int→Int→Int→Bool) (C:Int→Int) (D:Int→Bool) (a b c d x y z:Int) (p:Bool):fnx (mk (tab (tTr N B C D))) nol 31 [.ag (.cons k4 (.cons k3 (.cons .bool .nil)))] (.one (.sc .bool)) (((a,b,c,d,()),(x,y,z,()),p,()),()) =
  bif !D x then (bif !D y then (bif !D z then (bif !B a b c d then (bif decide (N a b c d ≥ 4294967040) then some (decide (N a b c d≤4294967552)) else some false) else some false) else some false) else some false) else some false:=by kernel_rfl
theorem two_rPose (p q r u v w:Bool):(bif !u then (bif !v then (bif !w then (bif !p then (bif q then some r else some false) else some false) else some false) else some false) else some false)=some (!p && (q && (r && (!u && (!v && !w))))):=by
 cases p<;>cases q<;>cases r<;>cases u<;>cases v<;>cases w<;>rfl
theorem tTr_ok:TabOk Try.prog (tTr qnN qnB cl fun n=>cl n != n):=⟨rClamp_ok,rNorm_ok,trivial⟩
theorem rPose_eq (a b c d x y z:Int) (p:Bool):fnx (mk (tab (tTr qnN qnB cl fun n=>cl n != n))) nol 31 [.ag (.cons k4 (.cons k3 (.cons .bool .nil)))] (.one (.sc .bool)) (((a,b,c,d,()),(x,y,z,()),p,()),())=some (poS ((a,b,c,d,()),(x,y,z,()),p,())):=by
 refine(run_rPose qnN qnB cl (fun n=>cl n != n) a b c d x y z p).trans ((two_rPose _ _ _ _ _ _).trans ?_)
 have e:∀ n:Int,(!(cl n != n))=(cl n == n):=fun n=>by cases h:(cl n == n)<;>simp_all
 show some _=some _
 simp only [poS,e]
theorem rPose_ok:SpecOk Try.prog 31 ⟨[.ag X.kPo],.one (.sc .bool),fun x=>some (poS x.1)⟩:=spec_run (x_ok tTr_ok) (fun ⟨⟨⟨a,b,c,d,_⟩,⟨x,y,z,_⟩,p,_⟩,_⟩=>rPose_eq a b c d x y z p) ⟨_,_,rfl,rfl⟩
theorem run_rAx (C:Int→Int) (D:Int→Bool) (a b c d x:Int) (p:Bool):fnx (mk (tab [(46,sIB C D)])) nol 30 [.ag X.kAx] (.one (.sc .bool)) ((a,b,c,d,x,p,()),()) =
  bif !D a then (bif !D b then (bif !D d then (bif decide (c ≥ 4096) then (bif decide (c≤4503599627370496) then (bif decide (x ≥ 4096) then some (decide (x≤4503599627370496)) else some false) else some false) else some false) else some false) else some false) else some false:=by kernel_rfl
theorem two_rAx (a b d c1 c2 x1 x2:Bool):(bif !a then (bif !b then (bif !d then (bif c1 then (bif c2 then (bif x1 then some x2 else some false) else some false) else some false) else some false) else some false) else some false)=some (!a && (!b && (!d && ((bif c1 then c2 else false) && (bif x1 then x2 else false))))):=by
 cases a<;>cases b<;>cases d<;>cases c1<;>cases c2<;>cases x1<;>cases x2<;>rfl
theorem rAx_eq (a b c d x:Int) (p:Bool):fnx (mk (tab [(46,sIB cl fun n=>cl n != n)])) nol 30 [.ag X.kAx] (.one (.sc .bool)) ((a,b,c,d,x,p,()),())=some (axF (a,b,c,d,x,p,())):=by
 refine(run_rAx cl _ a b c d x p).trans ((two_rAx _ _ _ _ _ _ _).trans ?_)
 show some _=some _
 simp only [axF,valF,clF_is,witF]
theorem rAx_ok:SpecOk Try.prog 30 ⟨[.ag X.kAx],.one (.sc .bool),fun x=>some (axF x.1)⟩:=spec_tab [(46,sIB cl fun n=>cl n != n)] ⟨rClamp_ok,trivial⟩ (fun ⟨⟨a,b,c,d,x,p,_⟩,_⟩=>rAx_eq a b c d x p) ⟨_,_,rfl,rfl⟩
abbrev tSr (A:Ax→Bool) (T:X.Po→Bool):List (FuncId × X.Spec):=[(30,⟨[.ag X.kAx],.one (.sc .bool),fun x=>some (A x.1)⟩),(31,⟨[.ag X.kPo],.one (.sc .bool),fun x=>some (T x.1)⟩)]
theorem run_rState (A:Ax→Bool) (T:X.Po→Bool) (x:STT):fnx (mk (tab (tSr A T))) nol 20 [.ag X.kSt] (.one (.sc .bool)) (x,()) =
  bif !A x.2.2.2.2.1.1 then some false else bif !A x.2.2.2.2.1.2.1 then some false else bif !A x.2.2.2.2.1.2.2.1 then some false else bif decide (x.1 ≥ 0) then (bif decide (x.1≤1099511627776) then (bif decide (x.2.1 ≥ 0) then (bif decide (x.2.1≤1099511627776) then (bif decide (x.2.2.1 ≥ 0) then (bif decide (x.2.2.1≤1099511627776) then some (T x.2.2.2.1) else some false) else some false) else some false) else some false) else some false) else some false:=by kernel_rfl
theorem two_rState (a b c t1 t2 n1 n2 o1 o2 T:Bool):(bif !a then some false else bif !b then some false else bif !c then some false else bif t1 then (bif t2 then (bif n1 then (bif n2 then (bif o1 then (bif o2 then some T else some false) else some false) else some false) else some false) else some false) else some false)=some ((t1 && t2) && (n1 && n2) && (o1 && o2) && T && (a && b && c)):=by
 cases a<;>cases b<;>cases c<;>cases t1<;>cases t2<;>cases n1<;>cases n2<;>cases o1<;>cases o2<;>cases T<;>rfl
theorem rState_eq (x:STT):fnx (mk (tab (tSr axF poS))) nol 20 [.ag X.kSt] (.one (.sc .bool)) (x,())=some (sanS x):=(run_rState axF poS x).trans (two_rState _ _ _ _ _ _ _ _ _ _)
theorem rState_ok:SpecOk Try.prog 20 (sSane sanS):=spec_run (x_ok (l:=tSr axF poS) ⟨rAx_ok,rPose_ok,trivial⟩) (fun ⟨x,_⟩=>rState_eq x) ⟨_,_,rfl,rfl⟩
structure DX where
  l:List Int
  h:Int
  i:Int
abbrev skX:StSk:=⟨[.seq kU,.junk,.junk,.int .u64,.int .i64,.junk,.junk,.junk,.junk,.junk,.junk,.junk,.junk,.junk,.junk,.junk,.junk,.junk,.junk,.junk],[]⟩
def unX (x:skX.T):DX:=match x with
  | ((l,_,_,h,i,_),_)=>⟨l,h,i⟩
def fmX (x:DX):St:=⟨[.seq kU x.l,.junk,.junk,.v (.int .u64 x.h),.v (.int .i64 x.i),.junk,.junk,.junk,.junk,.junk,.junk,.junk,.junk,.junk,.junk,.junk,.junk,.junk,.junk,.junk],[]⟩
theorem unX_ok (x:skX.T):skX.fill x=fmX (unX x):=by
 obtain⟨⟨l,_,_,h,i,_⟩,_⟩:=x
 rfl
def outX (h:Int):St:=⟨[.junk,.junk,.junk,.v (.int .u64 h),.junk,.junk,.junk,.junk,.junk,.junk,.junk,.junk,.junk,.junk,.junk,.junk,.junk,.junk,.junk,.junk],[]⟩
abbrev deadX:List Nat:=[1,2]++(List.range 15).map (·+5)
abbrev deadxX:List Nat:=[0,1,2]++(List.range 16).map (·+4)
noncomputable def rndX {R:Type} (x:DX) (N:DX→Option R) (E:Ex→St→Option R):Option R :=
  bif decide (x.i<(List.length (α:=Int) x.l:Int)) then (bif inB x.i (List.length (α:=Int) x.l) then N ⟨x.l,sumS x.h (rdU x.l x.i.toNat),IntKind.i64.wrap (x.i+1)⟩ else none) else E (.exit 0) (outX x.h)
theorem roundX {R:Type} (lps:Lps R) (x:DX) (N:Option St→Option R) (E:Ex→Option St→Option R) :
  roundx (codex (mk (tab [])) lps (callN (mk (tab [])) 20) 19 (loopAt (mk (tab [])) 19 0)) (headx deadX) (headx deadxX) (fmX x) N E=rndX x (fun x'=>N (some (fmX x'))) (fun e s=>E e (some s)):=by kernel_rfl
noncomputable def resX {R:Type} (x:DX) (K:Ex→St→Option R):Option R :=
  bif sh0 x.l && (decide (0≤x.i) && decide (x.i≤x.l.length)) then K (.exit 0) (outX (sumL (x.l.drop x.i.toNat) x.h)) else none
theorem iterX {R:Type} {K:Ex→St→Option R} {r:R} (x:DX) (h:resX x K=some r):∃ n,iter rndX n x K=some r:=by
 refine iter_by (fun x=>(x.l.length-x.i).toNat) (fun x=>resX x K) (fun x hx=>?_) x h
 obtain⟨l,h,i⟩:=x
 simp only [resX] at hx
 obtain⟨hc,hx⟩:=of_cond' hx
 simp only [Bool.and_eq_true,decide_eq_true_eq,sh0] at hc
 obtain⟨h2,h3,h4⟩:=hc
 by_cases c:i<(l.length:Int)
 ·left
  have i1:inB i l.length=true:=by simp [inB];omega
  have e3:IntKind.i64.wrap (i+1)=i+1:=by rw [iw,w64 (by omega) (by omega)]
  have et:(i+1).toNat=i.toNat+1:=by omega
  refine⟨⟨l,sumS h (rdU l i.toNat),i+1⟩,by simp only;omega,?_,fun N hN=>?_⟩
  ·simp only [resX]
   have e5:(sh0 l && (decide (0≤i+1) && decide (i+1≤(l.length:Int))))=true:=by simp [sh0];omega
   rw [e5,cond_true,et]
   rw [dropc (l:=l) (i:=i.toNat) (by omega)] at hx
   exact hx
  ·show(bif decide (i<(List.length (α:=Int) l:Int)) then (bif inB i l.length then N ⟨l,sumS h (rdU l i.toNat),IntKind.i64.wrap (i+1)⟩ else none) else _)=_
   rw [decide_eq_true c,i1,e3]
   exact hN
 ·right
  intro N
  show(bif decide (i<(List.length (α:=Int) l:Int)) then _ else _)=_
  rw [decide_eq_false c,cond_false]
  have e1:l.drop i.toNat=[]:=by rw [List.drop_eq_nil_iff];omega
  rw [e1] at hx
  exact hx
noncomputable abbrev LX:{R:Type}→Lps R:=fun f k=>if f=19∧k=3 then some (lpd deadX skX unX resX) else none
noncomputable def KfX:Ex→St→Option Int:=fun e s=>match e with
  | .exit 0=>match getT s.t 3 with|.v (.int _ b)=>some b|_=>none
  | _=>none
theorem run_rSum (l:List Int):fnx (mk (tab [])) LX 19 [.sc (.sl kU)] (.one (.sc kU)) (l,())=resX ⟨l,14695981039346656037,0⟩ KfX:=by kernel_rfl
abbrev sSum (S:List Int→Int):X.Spec:=⟨[.sc (.sl kU)],.one (.sc kU),fun x=>bif sh0 x.1 then some (S x.1) else none⟩
theorem rSum_eq (l:List Int) (r:Int) (h:(bif sh0 l then some (sumW l) else none)=some r):fnx (mk (tab [])) LX 19 [.sc (.sl kU)] (.one (.sc kU)) (l,())=some r:=by
 refine(run_rSum l).trans ?_
 obtain⟨h1,h2⟩:=of_cond' h
 show(bif sh0 l && (decide ((0:Int)≤0) && decide ((0:Int)≤(l.length:Int))) then KfX (.exit 0) (outX (sumL (l.drop (Int.toNat 0)) 14695981039346656037)) else none)=some r
 have e5:(sh0 l && (decide ((0:Int)≤0) && decide ((0:Int)≤(l.length:Int))))=true:=by rw [h1];simp
 rw [e5,←h2]
 rfl
theorem rSum_ok:SpecOk Try.prog 19 (sSum sumW):=by
 refine fnl_ok (x_ok (l:=[]) trivial) (lps:=LX) 1 (by kernel_rfl) (fun k hk=>?_) (fun x r h=>?_) ⟨_,_,rfl,rfl⟩
 ·obtain rfl:k=0:=by omega
  intro L' hL' s K r hs
  have hL:LX (R:=Int) 19 3=some L':=hL'
  obtain rfl:=Option.some.inj hL
  exact lpd_ok unX_ok (fun x N E=>roundX LX x N E) (fun x K r h=>iterX x h) hs
 ·obtain⟨l,⟨⟩⟩:=x
  exact rSum_eq l r h
theorem run_flags (t n o q0 q1 q2 q3 w0 w1 w2:Int) (pb:Bool) (a b c d e:Int) (ab:Bool) (a1 b1 c1 d1 e1:Int) (ab1:Bool) (a2 b2 c2 d2 e2:Int) (ab2:Bool):fnx (mk (tab [])) nol 21 [.ag X.kSt] (.one (.sc kI)) ((t,n,o,((q0,q1,q2,q3,()),(w0,w1,w2,()),pb,()),((a,b,c,d,e,ab,()),(a1,b1,c1,d1,e1,ab1,()),(a2,b2,c2,d2,e2,ab2,()),()),()),()) =
  bif pb then (bif ab then (bif ab1 then (bif ab2 then some (15:Int) else some (7:Int)) else bif ab2 then some (11:Int) else some (3:Int)) else bif ab1 then (bif ab2 then some (13:Int) else some (5:Int)) else bif ab2 then some (9:Int) else some (1:Int)) else bif ab then (bif ab1 then (bif ab2 then some (14:Int) else some (6:Int)) else bif ab2 then some (10:Int) else some (2:Int)) else bif ab1 then (bif ab2 then some (12:Int) else some (4:Int)) else bif ab2 then some (8:Int) else some (0:Int):=by kernel_rfl
def flgS (x:STT):Int:=lowF x.2.2.2.1.2.2.1 x.2.2.2.2.1.1.2.2.2.2.2.1 x.2.2.2.2.1.2.1.2.2.2.2.2.1 x.2.2.2.2.1.2.2.1.2.2.2.2.2.1
theorem flags_eq (x:STT):fnx (mk (tab [])) nol 21 [.ag X.kSt] (.one (.sc kI)) (x,())=some (flgS x):=by
 obtain⟨t,n,o,⟨⟨q0,q1,q2,q3,⟨⟩⟩,⟨w0,w1,w2,⟨⟩⟩,pb,⟨⟩⟩,⟨⟨a,b,c,d,e,ab,⟨⟩⟩,⟨a1,b1,c1,d1,e1,ab1,⟨⟩⟩,⟨a2,b2,c2,d2,e2,ab2,⟨⟩⟩,⟨⟩⟩,⟨⟩⟩:=x
 refine(run_flags t n o q0 q1 q2 q3 w0 w1 w2 pb a b c d e ab a1 b1 c1 d1 e1 ab1 a2 b2 c2 d2 e2 ab2).trans ?_
 show _=some (lowF pb ab ab1 ab2)
 cases pb<;>cases ab<;>cases ab1<;>cases ab2<;>rfl
abbrev sFlags (G:STT→Int):X.Spec:=⟨[.ag X.kSt],.one (.sc kI),fun x=>some (G x.1)⟩
theorem flags_ok:SpecOk Try.prog 21 (sFlags flgS):=spec_tab [] trivial (fun ⟨x,_⟩=>flags_eq x) ⟨_,_,rfl,rfl⟩
abbrev tWr (S:STT→Bool) (G:STT→Int) (Sm:List Int→Int):List (FuncId × X.Spec):=[(20,sSane S),(21,sFlags G),(19,sSum Sm)]
def thirdR (G:STT→Int) (x:STT):Int:=uW (IntKind.i64.wrap (IntKind.i64.wrap (16*x.2.2.1)+G x))
def wordR (G:STT→Int) (x:STT):List Int:=match x with
  | (t,n,o,((q0,q1,q2,q3,_),(w0,w1,w2,_),pb,_),((a,b,c,d,e,ab,_),(a1,b1,c1,d1,e1,ab1,_),(a2,b2,c2,d2,e2,ab2,_),_),_)=>bodyW (thirdR G x) t n q0 q1 q2 q3 w0 w1 w2 a b c d e a1 b1 c1 d1 e1 a2 b2 c2 d2 e2
end Go.Proofs.Ytgmkppeghnlcmaa.W
end
section
set_option linter.unusedVariables false
set_option linter.unusedSimpArgs false
namespace Go.Proofs.Ytgmkppeghnlcmaa.W
open Go Go.Proofs Go.RowKit X
set_option maxRecDepth 100000
set_option linter.unusedVariables false
set_option linter.unusedSimpArgs false
theorem run_rWords (S:STT→Bool) (G:STT→Int) (Sm:List Int→Int) (t n o q0 q1 q2 q3 w0 w1 w2:Int) (pb:Bool) (a b c d e:Int) (ab:Bool) (a1 b1 c1 d1 e1:Int) (ab1:Bool) (a2 b2 c2 d2 e2:Int) (ab2:Bool):fnx (mk (tab (tWr S G Sm))) nol 13 [.ag X.kSt] (.row 40 kU) ((t,n,o,((q0,q1,q2,q3,()),(w0,w1,w2,()),pb,()),((a,b,c,d,e,ab,()),(a1,b1,c1,d1,e1,ab1,()),(a2,b2,c2,d2,e2,ab2,()),()),()),()) =
  bif !S (t,n,o,((q0,q1,q2,q3,()),(w0,w1,w2,()),pb,()),((a,b,c,d,e,ab,()),(a1,b1,c1,d1,e1,ab1,()),(a2,b2,c2,d2,e2,ab2,()),()),()) then some ([]:List Int) else
   some (wordR G (t,n,o,((q0,q1,q2,q3,()),(w0,w1,w2,()),pb,()),((a,b,c,d,e,ab,()),(a1,b1,c1,d1,e1,ab1,()),(a2,b2,c2,d2,e2,ab2,()),()),())++[Sm (wordR G (t,n,o,((q0,q1,q2,q3,()),(w0,w1,w2,()),pb,()),((a,b,c,d,e,ab,()),(a1,b1,c1,d1,e1,ab1,()),(a2,b2,c2,d2,e2,ab2,()),()),()))]):=by kernel_rfl
def flR (x:Int) (k:Int):Bool:=IntKind.u64.wrap ((BitVec.ofInt 64 (x.tmod 16) &&& BitVec.ofInt 64 k).toNat:Int) != 0
def ouR (x:Int):Int:=iW (IntKind.u64.wrap (x.tdiv 16))
def readR (l0 l1 l2 l3 l4 l5 l6 l7 l8 l9 l10 l11 l12 l13 l14 l15 l16 l17 l18 l19 l20 l21 l22 l23 l24 l25:Int):STT:=(iW l0,iW l1,ouR l2,((iW l3,iW l4,iW l5,iW l6,()),(iW l7,iW l8,iW l9,()),flR l2 1,()),((iW l10,iW l11,iW l12,iW l13,iW l14,flR l2 2,()),(iW l15,iW l16,iW l17,iW l18,iW l19,flR l2 4,()),(iW l20,iW l21,iW l22,iW l23,iW l24,flR l2 8,()),()),())
theorem run_rRead (S:STT→Bool) (G:STT→Int) (Sm:List Int→Int) (l0 l1 l2 l3 l4 l5 l6 l7 l8 l9 l10 l11 l12 l13 l14 l15 l16 l17 l18 l19 l20 l21 l22 l23 l24 l25:Int):fnx (mk (tab (tWr S G Sm))) nol 10 [.sc (.sl kU)] R9 ([l0,l1,l2,l3,l4,l5,l6,l7,l8,l9,l10,l11,l12,l13,l14,l15,l16,l17,l18,l19,l20,l21,l22,l23,l24,l25],()) =
  bif l25 != Sm [l0,l1,l2,l3,l4,l5,l6,l7,l8,l9,l10,l11,l12,l13,l14,l15,l16,l17,l18,l19,l20,l21,l22,l23,l24] then some (zeroS,(2:Int),()) else bif !S (readR l0 l1 l2 l3 l4 l5 l6 l7 l8 l9 l10 l11 l12 l13 l14 l15 l16 l17 l18 l19 l20 l21 l22 l23 l24 l25) then some (zeroS,(1:Int),()) else some (readR l0 l1 l2 l3 l4 l5 l6 l7 l8 l9 l10 l11 l12 l13 l14 l15 l16 l17 l18 l19 l20 l21 l22 l23 l24 l25,(0:Int),()):=by kernel_rfl
noncomputable def body10:Code:=(Try.f10.body).getD .skip
noncomputable def lfC:Code→Code
  | .seq a _=>a
  | _=>.skip
noncomputable def rtC:Code→Code
  | .seq _ a=>a
  | _=>.skip
noncomputable def head10 (rest:Code):Code:=.seq (lfC body10) (.seq (lfC (rtC body10)) rest)
noncomputable def rest10:Code:=rtC (rtC body10)
noncomputable abbrev x10:Ctx:=mk (tab (tWr sanS flgS sumW))
noncomputable def K10:Ex→St→Option R9.T:=endx tis Try.f10 fun v m=>RD.parse m true R9 v
theorem body10_is (l:List Int):fnx x10 nol 10 [.sc (.sl kU)] R9 (l,())=codex x10 (R:=R9.T) nol (callN x10 20) 10 (head10 rest10) (startx Try.f10 [.seq kU l] []) K10:=by kernel_rfl
theorem len10 (l:List Int) (rest:Code):codex x10 (R:=R9.T) nol (callN x10 20) 10 (head10 rest) (startx Try.f10 [.seq kU l] []) K10 =
  bif ((List.length (α:=Int) l:Int) != 26) then some (zeroS,(5:Int),()) else codex x10 (R:=R9.T) nol (callN x10 20) 10 rest ⟨[.seq kU l,.junk,.ptr 0 0,.v (.int .i64 0),.junk,.junk,.junk,.junk,.junk,.seq kU l,.v (.int .i64 (List.length (α:=Int) l:Int)),.v (.bool ((List.length (α:=Int) l:Int) != 26))]++List.replicate 119 .junk,[some (true,.cells (Kd.cells X.kSt zeroS))]⟩ K10:=by kernel_rfl
def readRL (l:List Int):STT:=readR (l.getD 0 0) (l.getD 1 0) (l.getD 2 0) (l.getD 3 0) (l.getD 4 0) (l.getD 5 0) (l.getD 6 0) (l.getD 7 0) (l.getD 8 0) (l.getD 9 0) (l.getD 10 0) (l.getD 11 0) (l.getD 12 0) (l.getD 13 0) (l.getD 14 0) (l.getD 15 0) (l.getD 16 0) (l.getD 17 0) (l.getD 18 0) (l.getD 19 0) (l.getD 20 0) (l.getD 21 0) (l.getD 22 0) (l.getD 23 0) (l.getD 24 0) (l.getD 25 0)
noncomputable def rq1 (l:List Int):STT:=bif (l.length:Int) != 26 then zeroS else bif l.getD 25 0 != sumW (l.take 25) then zeroS else bif !sanS (readRL l) then zeroS else readRL l
noncomputable def rq2 (l:List Int):Int:=bif (l.length:Int) != 26 then 5 else bif l.getD 25 0 != sumW (l.take 25) then 2 else bif !sanS (readRL l) then 1 else 0
theorem rq_of (b:Bool) (p q:Bool) (x:STT) (h:b=false):(bif p then some (zeroS,(2:Int),()) else bif q then some (zeroS,(1:Int),()) else some (x,(0:Int),()))=some ((bif b then zeroS else bif p then zeroS else bif q then zeroS else x),(bif b then 5 else bif p then 2 else bif q then 1 else 0),()):=by
 subst h
 cases p<;>cases q<;>rfl
theorem rRead_eq (l:List Int):fnx x10 nol 10 [.sc (.sl kU)] R9 (l,())=some (rq1 l,rq2 l,()):=by
 by_cases h:List.length (α:=Int) l=26
 ·obtain⟨l0,l1,l2,l3,l4,l5,l6,l7,l8,l9,l10,l11,l12,l13,l14,l15,l16,l17,l18,l19,l20,l21,l22,l23,l24,l25,rfl⟩:=len26 l h
  exact(run_rRead sanS flgS sumW l0 l1 l2 l3 l4 l5 l6 l7 l8 l9 l10 l11 l12 l13 l14 l15 l16 l17 l18 l19 l20 l21 l22 l23 l24 l25).trans (rq_of _ _ _ _ rfl)
 ·refine(body10_is l).trans ((len10 l rest10).trans ?_)
  have h2:((List.length (α:=Int) l:Int) != 26)=true:=by
   rw [bne_iff_ne];intro h3;exact h (by exact_mod_cast h3)
  unfold rq1 rq2
  rw [h2]
  rfl
theorem tWr_ok:TabOk Try.prog (tWr sanS flgS sumW):=⟨rState_ok,flags_ok,rSum_ok,trivial⟩
theorem rRead_ok:SpecOk Try.prog 10 (sRead rq1 rq2):=spec_run (x_ok tWr_ok) (fun ⟨l,_⟩=>rRead_eq l) ⟨_,_,rfl,rfl⟩
theorem word_is {x:STT} (h:sanS x=true):wordR flgS x=wordsB x:=by
 obtain⟨t,n,o,⟨⟨q0,q1,q2,q3,⟨⟩⟩,⟨w0,w1,w2,⟨⟩⟩,pb,⟨⟩⟩,⟨⟨a,b,c,d,e,ab,⟨⟩⟩,⟨a1,b1,c1,d1,e1,ab1,⟨⟩⟩,⟨a2,b2,c2,d2,e2,ab2,⟨⟩⟩,⟨⟩⟩,⟨⟩⟩:=x
 have h0:saneF poS _=true:=h
 simp only [saneF,Bool.and_eq_true] at h0
 have k3:=cnt_in h0.1.1.2
 have e3:=third_is (o:=o) k3.1 (by omega) pb ab ab1 ab2
 have hl:=low_bd pb ab ab1 ab2
 have e:uW (IntKind.i64.wrap (IntKind.i64.wrap (16*o)+lowF pb ab ab1 ab2))=thirdS o pb ab ab1 ab2:=by
  rw [e3,iw,iw,w64 (n:=16*o) (by omega) (by omega),w64 (by omega) (by omega)]
  exact wu64 (by omega) (by omega)
 show bodyW (uW (IntKind.i64.wrap (IntKind.i64.wrap (16*o)+lowF pb ab ab1 ab2))) _ _ _ _ _ _ _ _ _ _ _ _ _ _ _ _ _ _ _ _ _ _ _ _=bodyW (thirdS o pb ab ab1 ab2) _ _ _ _ _ _ _ _ _ _ _ _ _ _ _ _ _ _ _ _ _ _ _ _
 rw [e]
theorem rWords_eq (x:STT):fnx x10 nol 13 [.ag X.kSt] (.row 40 kU) (x,())=some (wrdS x):=by
 have h:fnx x10 nol 13 [.ag X.kSt] (.row 40 kU) (x,())=bif !sanS x then some ([]:List Int) else some (wordR flgS x++[sumW (wordR flgS x)]):=by
  obtain⟨t,n,o,⟨⟨q0,q1,q2,q3,⟨⟩⟩,⟨w0,w1,w2,⟨⟩⟩,pb,⟨⟩⟩,⟨⟨a,b,c,d,e,ab,⟨⟩⟩,⟨a1,b1,c1,d1,e1,ab1,⟨⟩⟩,⟨a2,b2,c2,d2,e2,ab2,⟨⟩⟩,⟨⟩⟩,⟨⟩⟩:=x
  exact run_rWords sanS flgS sumW t n o q0 q1 q2 q3 w0 w1 w2 pb a b c d e ab a1 b1 c1 d1 e1 ab1 a2 b2 c2 d2 e2 ab2
 refine h.trans ?_
 unfold wrdS
 cases hx:sanS x with
 | false=>rfl
 | true=>rw [word_is hx];rfl
theorem rWords_ok:SpecOk Try.prog 13 (sWords wrdS):=spec_run (x_ok tWr_ok) (fun ⟨x,_⟩=>rWords_eq x) ⟨_,_,rfl,rfl⟩
theorem readR_is {l:List Int} (hl:l.length=26) (hw:∀ w ∈ l,InW w):readRL l=readL l:=by
 obtain⟨l0,l1,l2,l3,l4,l5,l6,l7,l8,l9,l10,l11,l12,l13,l14,l15,l16,l17,l18,l19,l20,l21,l22,l23,l24,l25,rfl⟩:=len26 l hl
 have h2:InW l2:=hw l2 (by simp)
 obtain⟨g0,g1⟩:=h2
 have eo:ouR l2=iW (shU l2):=by
  unfold ouR
  rw [shU_is,Int.tdiv_eq_ediv_of_nonneg g0,wu64 (by omega) (by omega)]
 obtain⟨p,a,b,c,hr⟩:=low_ex (l2%16) (by omega) (by omega)
 have e:l2=16*(l2/16)+lowF p a b c:=by omega
 obtain⟨f0,f1,f2,f3⟩:=fl_third (q:=l2/16) p a b c
 rw [←e] at f0 f1 f2 f3
 have hm:l2.tmod 16=lowF p a b c:=by rw [Int.tmod_eq_emod_of_nonneg g0,hr]
 have r1:flR l2 1=p:=by unfold flR;rw [hm];cases p<;>cases a<;>cases b<;>cases c<;>decide
 have r2:flR l2 2=a:=by unfold flR;rw [hm];cases p<;>cases a<;>cases b<;>cases c<;>decide
 have r4:flR l2 4=b:=by unfold flR;rw [hm];cases p<;>cases a<;>cases b<;>cases c<;>decide
 have r8:flR l2 8=c:=by unfold flR;rw [hm];cases p<;>cases a<;>cases b<;>cases c<;>decide
 rw [i26]
 show readR l0 l1 l2 l3 l4 l5 l6 l7 l8 l9 l10 l11 l12 l13 l14 l15 l16 l17 l18 l19 l20 l21 l22 l23 l24 l25=_
 unfold readR readS
 rw [eo,r1,r2,r4,r8,f0,f1,f2,f3]
theorem rq_is {l:List Int} (hw:∀ w ∈ l,InW w):rq1 l=rd1 l∧rq2 l=rd2 l:=by
 unfold rq1 rq2 rd1 rd2
 by_cases h:l.length=26
 ·rw [readR_is h hw]
  have:(l.getD 25 0 != sumW (l.take 25))=(sumW (l.take 25) != l.getD 25 0):=by
   rw [Bool.eq_iff_iff,bne_iff_ne,bne_iff_ne]
   exact ne_comm
  rw [this]
  exact⟨rfl,rfl⟩
 ·have h2:((l.length:Int) != 26)=true:=by
   rw [bne_iff_ne];intro h3;exact h (by exact_mod_cast h3)
  rw [h2]
  exact⟨rfl,rfl⟩
end Go.Proofs.Ytgmkppeghnlcmaa.W
end
section
set_option linter.unusedVariables false
set_option linter.unusedSimpArgs false
namespace Go.Proofs.Ytgmkppeghnlcmaa.W
open Go Go.Proofs Go.RowKit X
set_option maxRecDepth 100000
set_option linter.unusedVariables false
set_option linter.unusedSimpArgs false
structure FI where
  W:STT→List Int
  V:STT→List Int
  R1:List Int→STT
  R2:List Int→Int
  Q1:List Int→STT
  Q2:List Int→Int
abbrev tI (F:FI):List (FuncId × X.Spec):=[(8,sTrue),(12,sWords F.W),(9,sRead F.R1 F.R2),(13,sWords F.V),(10,sRead F.Q1 F.Q2)]
noncomputable abbrev xI (F:FI):Ctx:=mka (tab (tI F)) (fun f=>if f=11 then some aSame else none)
def isB (F:FI) (x:STT) (l:List Int):Option Bool:=bif decide ((l.length:Int) > 100) then some true else bif eqS (F.R1 l) (F.Q1 l) then (bif F.R2 l == F.Q2 l then (bif sh0 (F.W x) && sh0 (F.V x) then some (F.W x == F.V x) else none) else some false) else some false
theorem run_Is (F:FI) (x:STT) (l:List Int):fnx (xI F) nol 3 [.ag X.kSt,.sc (.sl kU)] (.one (.sc .bool)) (x,l,())=isB F x l:=by kernel_rfl
noncomputable abbrev FI0:FI:=⟨wrdS,wrdS,rd1,rd2,rq1,rq2⟩
theorem xI_ok:XOk Try.prog (xI FI0):=mka_ok (x_ok (l:=tI FI0) ⟨awake_ok,Words_ok,Read_ok,rWords_ok,rRead_ok,trivial⟩) (fun f a ha=>by
 split at ha
 ·rename_i e;subst e;obtain rfl:=Option.some.inj ha;exact Same_ok
 ·cases ha)
theorem isB_is (x:STT) (l:List Int) (hl:∀ w ∈ l,InW w):isB FI0 x l=some true:=by
 show(bif decide ((l.length:Int) > 100) then some true else bif eqS (rd1 l) (rq1 l) then (bif rd2 l == rq2 l then (bif sh0 (wrdS x) && sh0 (wrdS x) then some (wrdS x == wrdS x) else none) else some false) else some false)=some true
 have s:sh0 (wrdS x)=true:=by
  cases hx:sanS x with
  | true=>rw [wr_t hx];unfold sh0;rw [wS_len];rfl
  | false=>rw [wr_f hx];rfl
 rw [(rq_is hl).1,(rq_is hl).2,eqS_refl,s]
 cases decide ((l.length:Int) > 100)<;>simp
theorem law_Is:SpecOk Try.prog 3 ⟨[.ag X.kSt,.sc (.sl kU)],.one (.sc .bool),fun x=>isB FI0 x.1 x.2.1⟩ :=
 spec_opt xI_ok (fun ⟨x,l,_⟩ r h=>(run_Is FI0 x l).trans h) ⟨_,_,rfl,rfl⟩
theorem lem_Is (x:DsT [.ag X.kSt,.sc (.sl kU)]) (h:wfDs [.ag X.kSt,.sc (.sl kU)] x):(fun x:DsT [.ag X.kSt,.sc (.sl kU)]=>isB FI0 x.1 x.2.1) x=some true :=
 isB_is x.1 x.2.1 (wordsWf h.2.1)
end Go.Proofs.Ytgmkppeghnlcmaa.W
end
