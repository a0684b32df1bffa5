/- Lemmas of the rows, laid by a program. -/
import Derived.Test.YtgmkppeghnlcmaaZM6
import Derived.Test.YtgmkppeghnlcmaaZM7
import Derived.Test.YtgmkppeghnlcmaaZM8
section
set_option linter.unusedVariables false
set_option linter.unusedSimpArgs false
namespace Go.Proofs.Ytgmkppeghnlcmaa.X
open Go Go.Proofs Go.RowKit
set_option maxRecDepth 100000
set_option maxHeartbeats 4000000
set_option linter.unusedVariables false
set_option linter.unusedSimpArgs false
abbrev KI:Kd:=.int .i64
abbrev KU:Kd:=.int .u64
abbrev L0:{R:Type}→Lps R:=fun _ _=>none
theorem l0_ok {X:Ctx} {R:Type} {f:FuncId} {k:Nat}:LoopOk X R (L0 f (firstRid (loopAt X f k))) f k L0:=fun _ h=>nomatch h
def sumS (h w:Int):Int:=IntKind.u64.wrap (IntKind.u64.wrap (BitVec.ofInt 64 h ^^^ BitVec.ofInt 64 w).toNat*1099511628211)
def sumL (l:List Int) (h:Int):Int:=l.foldl sumS h
abbrev sk16:StSk:=⟨[.seq KU,.junk,.junk,.int .u64,.junk,.junk,.seq KU,.int .i64,.int .i64,.junk,.junk,.junk,.junk,.junk,.junk,.junk,.junk,.junk],[]⟩
abbrev dead16:List Nat:=[1,2,4,5,9,10,11,12,13,14,15,16,17]
abbrev mk16 (l0:List Int) (h:Int) (l:List Int) (n i:Int):sk16.T:=((l0,(),(),h,(),(),l,n,i,(),(),(),(),(),(),(),(),(),()),())
noncomputable def res16a {R:Type} (l0:List Int) (h:Int) (l:List Int) (n i:Int) (K:Ex→St→Option R):Option R :=
  bif decide (n=l.length) && (decide (0≤i) && (decide (i≤n) && decide (n<4611686018427387904))) then K (.exit 0) (sk16.fill (mk16 l0 (sumL (l.drop i.toNat) h) l n n)) else none
noncomputable def res16 {R:Type} (x:sk16.T) (K:Ex→St→Option R):Option R:=match x with
  | ((l0,_,_,h,_,_,l,n,i,_),_)=>res16a l0 h l n i K
noncomputable def rnd16a {R:Type} (l0:List Int) (h:Int) (l:List Int) (n i:Int) (N:sk16.T→Option R) (E:Ex→St→Option R):Option R :=
  bif decide (i<n) then (bif inB i l.length then N (mk16 l0 (sumS h (rd KU l i.toNat)) l n (IntKind.i64.wrap (i+1))) else none) else E (.exit 0) (sk16.fill (mk16 l0 h l n i))
noncomputable def rnd16 {R:Type} (x:sk16.T) (N:sk16.T→Option R) (E:Ex→St→Option R):Option R:=match x with
  | ((l0,_,_,h,_,_,l,n,i,_),_)=>rnd16a l0 h l n i N E
noncomputable abbrev L16:{R:Type}→Lps R:=fun f rid=>match f,rid with|16,3=>some (lpx dead16 sk16 res16)|_,_=>none
theorem key16 {R:Type} {K:Ex→St→Option R} {r:R} (l0 l:List Int):∀ (k:Nat) (h0 n i:Int),(n-i).toNat=k→n=l.length→0≤i→i≤n→n<4611686018427387904 →
  K (.exit 0) (sk16.fill (mk16 l0 (sumL (l.drop i.toNat) h0) l n n))=some r→iter rnd16 (k+1) (mk16 l0 h0 l n i) K=some r:=by
 intro k
 induction k with
 | zero =>
  intro h0 n i hk hn hi hin hb hK
  have e:i=n:=by omega
  subst e
  show rnd16a l0 h0 l i i (fun x'=>iter rnd16 0 x' K) K=some r
  simp only [rnd16a]
  have:decide (i<i)=false:=by simp
  rw [this]
  have e2:l.drop i.toNat=[]:=by rw [List.drop_eq_nil_iff];omega
  rw [e2] at hK
  exact hK
 | succ k ih =>
  intro h0 n i hk hn hi hin hb hK
  have hlt:i<n:=by omega
  show rnd16a l0 h0 l n i (fun x'=>iter rnd16 (k+1) x' K) K=some r
  simp only [rnd16a]
  have e1:decide (i<n)=true:=by simpa using hlt
  have e2:inB i l.length=true:=by simp [inB];omega
  rw [e1,e2]
  simp only [cond_true]
  have e3:IntKind.i64.wrap (i+1)=i+1:=wrap_i64 (by omega) (by omega)
  rw [e3]
  refine ih _ _ _ (by omega) hn (by omega) (by omega) hb ?_
  have hl:i.toNat<l.length:=by omega
  have e4:l.drop i.toNat=rd KU l i.toNat :: l.drop (i+1).toNat:=by
   have:(i+1).toNat=i.toNat+1:=by omega
   rw [this,List.drop_eq_getElem_cons hl]
   have:rd KU l i.toNat=l[i.toNat]:=by
    show(l[i.toNat]?).getD KU.dflt=_
    rw [List.getElem?_eq_getElem hl];rfl
   rw [this]
   rfl
  rw [e4] at hK
  exact hK
theorem res16a_ok {R:Type} {l0:List Int} {h0:Int} {l:List Int} {n i:Int} {K:Ex→St→Option R} {r:R} (h:res16a l0 h0 l n i K=some r):∃ k,iter rnd16 k (mk16 l0 h0 l n i) K=some r:=by
 unfold res16a at h
 cases hc:(decide (n=l.length) && (decide (0≤i) && (decide (i≤n) && decide (n<4611686018427387904)))) with
 | false=>rw [hc] at h;cases h
 | true =>
  rw [hc] at h
  simp only [Bool.and_eq_true,decide_eq_true_eq] at hc
  exact⟨_,key16 l0 l _ h0 n i rfl hc.1 hc.2.1 hc.2.2.1 hc.2.2.2 h⟩
theorem res16_ok {R:Type} (x:sk16.T) (K:Ex→St→Option R) (r:R) (h:res16 x K=some r):∃ n,iter rnd16 n x K=some r:=by
 obtain⟨⟨l0,⟨⟩,⟨⟩,h0,⟨⟩,⟨⟩,l,n,i,⟨⟩,⟨⟩,⟨⟩,⟨⟩,⟨⟩,⟨⟩,⟨⟩,⟨⟩,⟨⟩,⟨⟩⟩,⟨⟩⟩:=x
 exact res16a_ok h
theorem loop16 {sp:FuncId→Option Spec} {R:Type}:LoopOk (mk sp) R (L16 16 (firstRid (loopAt (mk sp) 16 0))) 16 0 L16:=by
 intro L hL s K r hs
 have e:(L16 16 (firstRid (loopAt (mk sp) 16 0)):Option (St→(Ex→St→Option R)→Option R))=some (lpx dead16 sk16 res16):=by kernel_rfl
 rw [e] at hL
 obtain rfl:=Option.some.inj hL
 refine lpx_ok (deadx:=dead16) (rnd:=rnd16) ?_ res16_ok hs
 intro x N E
 obtain⟨⟨l0,⟨⟩,⟨⟩,h0,⟨⟩,⟨⟩,l,n,i,⟨⟩,⟨⟩,⟨⟩,⟨⟩,⟨⟩,⟨⟩,⟨⟩,⟨⟩,⟨⟩,⟨⟩⟩,⟨⟩⟩:=x
 kernel_rfl
abbrev g16 (x:DsT [.sc (.sl KU)]):Option Int:=bif decide ((List.length (α:=Int) x.1:Int)<4611686018427387904) then some (sumL x.1 14695981039346656037) else none
theorem s16 {sp:FuncId→Option Spec} (hX:XOk Try.prog (mk sp)):SpecOk Try.prog 16 ⟨[.sc (.sl KU)],.one (.sc KU),g16⟩:=by
 refine fnl_ok hX (lps:=L16) 1 (by kernel_rfl) (fun k hk=>?_) (fun x r h=>?_) ⟨_,_,rfl,rfl⟩
 ·obtain rfl:k=0:=by omega
  exact loop16
 ·obtain⟨l,⟨⟩⟩:=x
  rw [←h]
  have e:∀ l:List Int,(bif decide ((l.length:Int)=l.length) && (decide ((0:Int)≤0) && (decide ((0:Int)≤l.length) && decide ((l.length:Int)<4611686018427387904))) then some (sumL (l.drop (Int.toNat 0)) 14695981039346656037) else none)=g16 (l,()):=by
   intro l
   simp [g16]
  refine Eq.trans ?_ (e l)
  exact(show fnx (mk sp) L16 16 [.sc (.sl KU)] (.one (.sc KU)) (l,())=(bif decide ((List.length (α:=Int) l:Int)=List.length (α:=Int) l) && (decide ((0:Int)≤0) && (decide ((0:Int)≤List.length (α:=Int) l) && decide ((List.length (α:=Int) l:Int)<4611686018427387904))) then some (sumL (List.drop (Int.toNat 0) l) 14695981039346656037) else none) from by kernel_rfl)
def sh (l:List Int):Bool:=decide (l.length<1000)
theorem spec_less {P:Program} {f:FuncId} {A:List DS} {Rt:RD} {g g':DsT A→Option Rt.T} (h:SpecOk P f ⟨A,Rt,g⟩) (hg:∀ x r,g' x=some r→g x=some r):SpecOk P f ⟨A,Rt,g'⟩ :=
 ⟨h.enters,fun Z w x vals r hZ hs hr=>h.calls Z w x vals r hZ hs (hg x r hr)⟩
theorem s16s {sp:FuncId→Option Spec} (hX:XOk Try.prog (mk sp)):SpecOk Try.prog 16 ⟨[.sc (.sl KU)],.one (.sc KU),fun x=>bif sh x.1 then some (sumL x.1 14695981039346656037) else none⟩ :=
 spec_less (s16 hX) fun x r h=>by
  unfold g16
  cases e:sh x.1 with
  | false=>rw [e] at h;cases h
  | true =>
   rw [e] at h
   unfold sh at e
   rw [decide_eq_true_eq] at e
   have e2:(List.length (α:=Int) x.1:Int)<4611686018427387904:=by
    have:List.length (α:=Int) x.1<1000:=e
    omega
   rw [decide_eq_true e2]
   exact h
end Go.Proofs.Ytgmkppeghnlcmaa.X
end
section
set_option linter.unusedVariables false
set_option linter.unusedSimpArgs false
namespace Go.Proofs.Ytgmkppeghnlcmaa.X
open Go Go.Proofs Go.RowKit
set_option maxRecDepth 100000
abbrev kI:Kd:=.int .i64
abbrev kU:Kd:=.int .u64
abbrev kAx:Kd:=.cons kI (.cons kI (.cons kI (.cons kI (.cons kI (.cons .bool .nil)))))
abbrev kPo:Kd:=.cons (.cons kI (.cons kI (.cons kI (.cons kI .nil)))) (.cons (.cons kI (.cons kI (.cons kI .nil))) (.cons .bool .nil))
abbrev kSt:Kd:=.cons kI (.cons kI (.cons kI (.cons kPo (.cons (.cons kAx (.cons kAx (.cons kAx .nil))) .nil))))
theorem kSt_is:kindC tis 12 30=some kSt:=by kernel_rfl
abbrev Ax:=Int × Int × Int × Int × Int × Bool × Unit
abbrev Po:=(Int × Int × Int × Int × Unit) × (Int × Int × Int × Unit) × Bool × Unit
abbrev STT:=Int × Int × Int × Po × (Ax × Ax × Ax × Unit) × Unit
structure Fn2 where
  sane:STT→Bool
  sum:List Int→Int
def spW (F:Fn2):FuncId→Option Spec:=fun f =>
  if f=14 then some ⟨[.ag kSt],.one (.sc .bool),fun x=>some (F.sane x.1)⟩
  else if f=16 then some ⟨[.sc (.sl kU)],.one (.sc kU),fun x=>bif sh x.1 then some (F.sum x.1) else none⟩
  else none
noncomputable def xW (F:Fn2):Ctx:=mki (spW F) (fun _=>none) (fun g=>if g=29 then some it29 else none)
abbrev uW (x:Int):Int:=IntKind.u64.wrap x
def orU (x y:Int):Int:=IntKind.u64.wrap (BitVec.ofInt IntKind.u64.bits x ||| BitVec.ofInt IntKind.u64.bits y).toNat
def outU (o:Int):Int:=IntKind.u64.wrap (IntKind.u64.wrap o*2^min (Int.toNat 4) IntKind.u64.bits)
def bitU (i:Int):Int:=IntKind.u64.wrap (1*2^min (Int.toNat i) IntKind.u64.bits)
abbrev bodyW (th t n q0 q1 q2 q3 w0 w1 w2 a b c d e a1 b1 c1 d1 e1 a2 b2 c2 d2 e2:Int):List Int :=
  [uW t,uW n,th,uW q0,uW q1,uW q2,uW q3,uW w0,uW w1,uW w2,uW a,uW b,uW c,uW d,uW e,uW a1,uW b1,uW c1,uW d1,uW e1,uW a2,uW b2,uW c2,uW d2,uW e2]
end Go.Proofs.Ytgmkppeghnlcmaa.X
end
section
set_option linter.unusedVariables false
set_option linter.unusedSimpArgs false
namespace Go.Proofs.Ytgmkppeghnlcmaa.X
open Go Go.Proofs Go.RowKit
set_option maxRecDepth 100000
def minB (n:Int):Int:=if 288230376151711744<n then 288230376151711744 else n
def clampF (n:Int):Int:=if -288230376151711744<minB n then minB n else -288230376151711744
def valF (n:Int):Bool:=!(clampF n != n)
def witF (n:Int):Bool:=bif decide (n ≥ 4096) then decide (n≤4503599627370496) else false
theorem x0_ok:XOk Try.prog (mk fun _=>none):=mk_ok fun _ _ h=>nomatch h
theorem s38:SpecOk Try.prog 38 ⟨[.sc kI],.many [.sc kI,.sc .bool],fun x=>some (clampF x.1,clampF x.1 != x.1,())⟩:=by
 refine fnx_ok x0_ok (lps:=nol) (fun _ _ _ _ _ _ _ h=>nomatch h) (fun x r h=>?_) ⟨_,_,rfl,rfl⟩
 obtain⟨n,⟨⟩⟩:=x
 rw [←h]
 kernel_rfl
theorem s32:SpecOk Try.prog 32 ⟨[.sc kI],.one (.sc .bool),fun x=>some (valF x.1)⟩:=by
 refine fnx_ok x0_ok (lps:=nol) (fun _ _ _ _ _ _ _ h=>nomatch h) (fun x r h=>?_) ⟨_,_,rfl,rfl⟩
 obtain⟨n,⟨⟩⟩:=x
 rw [←h]
 kernel_rfl
theorem run33 (n:Int):fnx (mk fun _=>none) nol 33 [.sc kI] (.one (.sc .bool)) (n,())=bif decide (n ≥ 4096) then some (decide (n≤4503599627370496)) else some false:=by kernel_rfl
theorem two33 (n:Int):(bif decide (n ≥ 4096) then some (decide (n≤4503599627370496)) else some false)=some (witF n):=by
 unfold witF
 cases decide (n ≥ 4096)<;>rfl
theorem s33:SpecOk Try.prog 33 ⟨[.sc kI],.one (.sc .bool),fun x=>some (witF x.1)⟩:=by
 refine fnx_ok x0_ok (lps:=nol) (fun _ _ _ _ _ _ _ h=>nomatch h) (fun x r h=>?_) ⟨_,_,rfl,rfl⟩
 obtain⟨n,⟨⟩⟩:=x
 refine(run33 n).trans ?_
 rw [←h]
 exact two33 n
structure Fn3 where
  V:Int→Bool
  W:Int→Bool
def spA (F:Fn3):FuncId→Option Spec:=fun f=>if f=32 then some ⟨[.sc kI],.one (.sc .bool),fun x=>some (F.V x.1)⟩ else if f=33 then some ⟨[.sc kI],.one (.sc .bool),fun x=>some (F.W x.1)⟩ else none
theorem spA_ok:XOk Try.prog (mk (spA ⟨valF,witF⟩)):=mk_ok fun f s h=>by
 unfold spA at h
 split at h
 ·rename_i e;subst e;obtain rfl:=Option.some.inj h;exact s32
 ·split at h
  ·rename_i e;subst e;obtain rfl:=Option.some.inj h;exact s33
  ·cases h
theorem run23 (F:Fn3) (p v pp pv vv:Int) (b:Bool):fnx (mk (spA F)) nol 23 [.ag kAx] (.one (.sc .bool)) ((p,v,pp,pv,vv,b,()),()) =
  bif F.V p then bif F.V v then bif F.V pv then bif F.W pp then some (F.W vv) else some false else some false else some false else some false:=by kernel_rfl
def axF (x:Ax):Bool:=match x with|(p,v,pp,pv,vv,_,_)=>valF p && (valF v && (valF pv && (witF pp && witF vv)))
theorem two23 (a b c d e:Bool):(bif a then bif b then bif c then bif d then some e else some false else some false else some false else some false)=some (a && (b && (c && (d && e)))):=by
 cases a<;>cases b<;>cases c<;>cases d<;>rfl
theorem s23:SpecOk Try.prog 23 ⟨[.ag kAx],.one (.sc .bool),fun x=>some (axF x.1)⟩:=by
 refine fnx_ok spA_ok (lps:=nol) (fun _ _ _ _ _ _ _ h=>nomatch h) (fun x r h=>?_) ⟨_,_,rfl,rfl⟩
 obtain⟨⟨p,v,pp,pv,vv,b,⟨⟩⟩,⟨⟩⟩:=x
 refine(run23 _ p v pp pv vv b).trans ?_
 rw [←h]
 exact two23 _ _ _ _ _
end Go.Proofs.Ytgmkppeghnlcmaa.X
end
section
set_option linter.unusedVariables false
set_option linter.unusedSimpArgs false
namespace Go.Proofs.Ytgmkppeghnlcmaa.X
open Go Go.Proofs Go.RowKit
set_option maxRecDepth 100000
structure Fn4 where
  A:Ax→Bool
  T:Po→Bool
def spB (F:Fn4):FuncId→Option Spec:=fun f=>if f=23 then some ⟨[.ag kAx],.one (.sc .bool),fun x=>some (F.A x.1)⟩ else if f=25 then some ⟨[.ag kPo],.one (.sc .bool),fun x=>some (F.T x.1)⟩ else none
theorem run14 (F:Fn4) (t n o q0 q1 q2 q3 w0 w1 w2:Int) (pb:Bool) (a b c d e:Int) (ab:Bool) (a1 b1 c1 d1 e1:Int) (ab1:Bool) (a2 b2 c2 d2 e2:Int) (ab2:Bool):fnx (mk (spB F)) nol 14 [.ag kSt] (.one (.sc .bool)) ((t,n,o,((q0,q1,q2,q3,()),(w0,w1,w2,()),pb,()),((a,b,c,d,e,ab,()),(a1,b1,c1,d1,e1,ab1,()),(a2,b2,c2,d2,e2,ab2,()),()),()),()) =
  bif decide (t ≥ 0) then (bif decide (t≤1099511627776) then (bif decide (n ≥ 0) then (bif decide (n≤1099511627776) then (bif decide (o ≥ 0) then (bif decide (o≤1099511627776) then (bif F.T ((q0,q1,q2,q3,()),(w0,w1,w2,()),pb,()) then (bif !F.A (a,b,c,d,e,ab,()) then some false else bif !F.A (a1,b1,c1,d1,e1,ab1,()) then some false else bif !F.A (a2,b2,c2,d2,e2,ab2,()) then some false else some true) else some false) else some false) else some false) else some false) else some false) else some false) else some false:=by kernel_rfl
theorem two14 (b1 b2 b3 b4 b5 b6 b7 b8 b9 b10:Bool):(bif b1 then (bif b2 then (bif b3 then (bif b4 then (bif b5 then (bif b6 then (bif b7 then (bif !b8 then some false else bif !b9 then some false else bif !b10 then some false else some true) else some false) else some false) else some false) else some false) else some false) else some false) else some false)=some (b1 && b2 && (b3 && b4) && (b5 && b6) && b7 && (b8 && b9 && b10)):=by
 cases b1<;>cases b2<;>cases b3<;>cases b4<;>cases b5<;>cases b6<;>cases b7<;>cases b8<;>cases b9<;>cases b10<;>rfl
def cntF (n:Int):Bool:=decide (n ≥ 0) && decide (n≤1099511627776)
def saneF (T:Po→Bool) (x:STT):Bool:=match x with
  | (t,n,o,p,(a,b,c,_),_)=>cntF t && cntF n && cntF o && T p && (axF a && axF b && axF c)
theorem spB_ok {T:Po→Bool} (hT:SpecOk Try.prog 25 ⟨[.ag kPo],.one (.sc .bool),fun x=>some (T x.1)⟩):XOk Try.prog (mk (spB ⟨axF,T⟩)):=mk_ok fun f s h=>by
 unfold spB at h
 split at h
 ·rename_i e;subst e;obtain rfl:=Option.some.inj h;exact s23
 ·split at h
  ·rename_i e;subst e;obtain rfl:=Option.some.inj h;exact hT
  ·cases h
theorem s14 {T:Po→Bool} (hT:SpecOk Try.prog 25 ⟨[.ag kPo],.one (.sc .bool),fun x=>some (T x.1)⟩):SpecOk Try.prog 14 ⟨[.ag kSt],.one (.sc .bool),fun x=>some (saneF T x.1)⟩:=by
 refine fnx_ok (spB_ok hT) (lps:=nol) (fun _ _ _ _ _ _ _ h=>nomatch h) (fun x r h=>?_) ⟨_,_,rfl,rfl⟩
 obtain⟨⟨t,n,o,⟨⟨q0,q1,q2,q3,⟨⟩⟩,⟨w0,w1,w2,⟨⟩⟩,pb,⟨⟩⟩,⟨⟨a,b,c,d,e,ab,⟨⟩⟩,⟨a1,b1,c1,d1,e1,ab1,⟨⟩⟩,⟨a2,b2,c2,d2,e2,ab2,⟨⟩⟩,⟨⟩⟩,⟨⟩⟩,⟨⟩⟩:=x
 refine(run14 _ t n o q0 q1 q2 q3 w0 w1 w2 pb a b c d e ab a1 b1 c1 d1 e1 ab1 a2 b2 c2 d2 e2 ab2).trans ?_
 rw [←h]
 exact two14 _ _ _ _ _ _ _ _ _ _
end Go.Proofs.Ytgmkppeghnlcmaa.X
end
section
set_option linter.unusedVariables false
set_option linter.unusedSimpArgs false
namespace Go.Proofs.Ytgmkppeghnlcmaa.W
open Go Go.Proofs Go.RowKit X
set_option maxRecDepth 100000
set_option linter.unusedVariables false
set_option linter.unusedSimpArgs false
abbrev k4:Kd:=.cons kI (.cons kI (.cons kI (.cons kI .nil)))
structure FN where
  C:Int→Int
  D:Int→Bool
  MH:Int→Int→Int
  ML:Int→Int→Int
  AH:Int→Int→Int→Int→Int
  AL:Int→Int→Int→Int→Int
  AB:Int→Int→Int→Int→Bool
  RN:Int→Int→Int
  RB:Int→Int→Bool
abbrev tN (F:FN):List (FuncId × X.Spec):=[(38,sIB F.C F.D),(60,sMul F.MH F.ML),(61,sAdd F.AH F.AL F.AB),(50,⟨[.ag kW],.many [.sc kI,.sc .bool],fun x=>some (F.RN x.1.1 x.1.2.1,F.RB x.1.1 x.1.2.1,())⟩)]
noncomputable abbrev FN0:FN:=⟨cl,fun n=>cl n != n,muH,muL,adH,adL,adB,rtN,rtB⟩
theorem tN_ok:TabOk Try.prog (tN FN0):=⟨Clamp_ok,Mul_ok,Add_ok,Wide_ok,trivial⟩
noncomputable abbrev xN (F:FN):Ctx:=mki (tab (tN F)) (fun _=>none) (fun g=>if g=80 then some (itEach (mk (tab (tN F)))) else if g=81 then some (itEach (mk (tab (tN F)))) else none)
theorem xN_ok:XOk Try.prog (xN FN0):=mki_ok (x_ok tN_ok) (fun _ _ h=>nomatch h) (fun g i h=>by
 split at h
 ·rename_i e;subst e;obtain rfl:=Option.some.inj h;exact it80_ok (x_ok tN_ok) rfl
 ·split at h
  ·rename_i e;subst e;obtain rfl:=Option.some.inj h;exact it81_ok (x_ok tN_ok) rfl
  ·cases h)
def smF (F:FN) (l:List Int):Int × Int:=l.foldl (fun p x=>(F.AH p.1 p.2 (F.MH x x) (F.ML x x),F.AL p.1 p.2 (F.MH x x) (F.ML x x))) (0,0)
theorem run_Norm (F:FN) (a b c d:Int):fnx (xN F) nol 34 [.ag k4] (.many [.sc kI,.sc .bool]) ((a,b,c,d,()),()) =
  bif !F.RB (smF F [a,b,c,d]).1 (smF F [a,b,c,d]).2 then (bif F.D a then some (F.RN (smF F [a,b,c,d]).1 (smF F [a,b,c,d]).2,true,()) else bif F.D b then some (F.RN (smF F [a,b,c,d]).1 (smF F [a,b,c,d]).2,true,()) else bif F.D c then some (F.RN (smF F [a,b,c,d]).1 (smF F [a,b,c,d]).2,true,()) else bif F.D d then some (F.RN (smF F [a,b,c,d]).1 (smF F [a,b,c,d]).2,true,()) else some (F.RN (smF F [a,b,c,d]).1 (smF F [a,b,c,d]).2,false,())) else some (F.RN (smF F [a,b,c,d]).1 (smF F [a,b,c,d]).2,true,()):=by kernel_rfl
noncomputable def qnN (a b c d:Int):Int:=rtN (smF FN0 [a,b,c,d]).1 (smF FN0 [a,b,c,d]).2
noncomputable def qnB (a b c d:Int):Bool:=rtB (smF FN0 [a,b,c,d]).1 (smF FN0 [a,b,c,d]).2 || ((cl a != a) || ((cl b != b) || ((cl c != c) || (cl d != d))))
theorem two_Norm (r:Bool) (n:Int) (p q u v:Bool):(bif !r then (bif p then some (n,true,()) else bif q then some (n,true,()) else bif u then some (n,true,()) else bif v then some (n,true,()) else some (n,false,())) else some (n,true,()))=some (n,r || (p || (q || (u || v))),()):=by
 cases r<;>cases p<;>cases q<;>cases u<;>cases v<;>rfl
theorem Norm_eq (a b c d:Int):fnx (xN FN0) nol 34 [.ag k4] (.many [.sc kI,.sc .bool]) ((a,b,c,d,()),())=some (qnN a b c d,qnB a b c d,()):=(run_Norm FN0 a b c d).trans (two_Norm _ _ _ _ _ _)
abbrev sNorm (N:Int→Int→Int→Int→Int) (B:Int→Int→Int→Int→Bool):X.Spec:=⟨[.ag k4],.many [.sc kI,.sc .bool],fun x=>some (N x.1.1 x.1.2.1 x.1.2.2.1 x.1.2.2.2.1,B x.1.1 x.1.2.1 x.1.2.2.1 x.1.2.2.2.1,())⟩
theorem Norm_ok:SpecOk Try.prog 34 (sNorm qnN qnB):=spec_run xN_ok (fun ⟨⟨a,b,c,d,_⟩,_⟩=>Norm_eq a b c d) ⟨_,_,rfl,rfl⟩
abbrev k3:Kd:=.cons kI (.cons kI (.cons kI .nil))
abbrev tT (N:Int→Int→Int→Int→Int) (B:Int→Int→Int→Int→Bool) (C:Int→Int) (D:Int→Bool):List (FuncId × X.Spec):=[(38,sIB C D),(34,sNorm N B)]
theorem run_Pose (N:Int→Int→Int→Int→Int) (B:Int→Int→Int→Int→Bool) (C:Int→Int) (D:Int→Bool) (a b c d x y z:Int) (p:Bool):fnx (mk (tab (tT N B C D))) nol 25 [.ag (.cons k4 (.cons k3 (.cons .bool .nil)))] (.one (.sc .bool)) (((a,b,c,d,()),(x,y,z,()),p,()),()) =
  bif !B a b c d then (bif decide (N a b c d ≥ 4294967040) then (bif decide (N a b c d≤4294967552) then (bif D x then some false else bif D y then some false else bif D z then some false else some true) else some false) else some false) else some false:=by kernel_rfl
noncomputable def poS (x:X.Po):Bool:=match x with|((a,b,c,d,_),(u,v,w,_),_,_)=>!qnB a b c d && (decide (qnN a b c d ≥ 4294967040) && (decide (qnN a b c d≤4294967552) && ((cl u == u) && ((cl v == v) && (cl w == w)))))
theorem two_Pose (p q r u v w:Bool):(bif !p then (bif q then (bif r then (bif u then some false else bif v then some false else bif w then some false else some true) else some false) else some false) else some false)=some (!p && (q && (r && (!u && (!v && !w))))):=by
 cases p<;>cases q<;>cases r<;>cases u<;>cases v<;>cases w<;>rfl
theorem tT_ok:TabOk Try.prog (tT qnN qnB cl fun n=>cl n != n):=⟨Clamp_ok,Norm_ok,trivial⟩
theorem Pose_eq (a b c d x y z:Int) (p:Bool):fnx (mk (tab (tT qnN qnB cl fun n=>cl n != n))) nol 25 [.ag (.cons k4 (.cons k3 (.cons .bool .nil)))] (.one (.sc .bool)) (((a,b,c,d,()),(x,y,z,()),p,()),())=some (poS ((a,b,c,d,()),(x,y,z,()),p,())):=by
 refine(run_Pose qnN qnB cl (fun n=>cl n != n) a b c d x y z p).trans ((two_Pose _ _ _ _ _ _).trans ?_)
 have e:∀ n:Int,(!(cl n != n))=(cl n == n):=fun n=>by cases h:(cl n == n)<;>simp_all
 show some _=some _
 simp only [poS,e]
theorem Pose_ok:SpecOk Try.prog 25 ⟨[.ag X.kPo],.one (.sc .bool),fun x=>some (poS x.1)⟩:=spec_run (x_ok tT_ok) (fun ⟨⟨⟨a,b,c,d,_⟩,⟨x,y,z,_⟩,p,_⟩,_⟩=>Pose_eq a b c d x y z p) ⟨_,_,rfl,rfl⟩
theorem Sane_ok:SpecOk Try.prog 14 ⟨[.ag kSt],.one (.sc .bool),fun x=>some (saneF poS x.1)⟩:=s14 Pose_ok
end Go.Proofs.Ytgmkppeghnlcmaa.W
end
