/- Lemmas of the rows, laid by a program. -/
import Derived.Test.YtgmkppeghnlcmaaYM8
import Derived.Test.YtgmkppeghnlcmaaYM9
import Derived.Test.YtgmkppeghnlcmaaYM14
section
set_option linter.unusedVariables false
set_option linter.unusedSimpArgs false
namespace Go.Proofs.Ytgmkppeghnlcmaa.W
open Go Go.Proofs Go.RowKit X
set_option maxRecDepth 100000
set_option linter.unusedVariables false
set_option linter.unusedSimpArgs false
structure FL where
  S:STT→Bool
  W:STT→List Int
  R1:List Int→STT
  R2:List Int→Int
abbrev sSane (S:STT→Bool):X.Spec:=⟨[.ag X.kSt],.one (.sc .bool),fun x=>some (S x.1)⟩
abbrev sWords (W:STT→List Int):X.Spec:=⟨[.ag X.kSt],.row 40 kU,fun x=>some (W x.1)⟩
abbrev sRead (R1:List Int→STT) (R2:List Int→Int):X.Spec:=⟨[.sc (.sl kU)],.many [.ag X.kSt,.sc kI],fun x=>some (R1 x.1,R2 x.1,())⟩
abbrev sTrue:X.Spec:=⟨[],.one (.sc .bool),fun _=>some true⟩
abbrev tW0 (F:FL):List (FuncId × X.Spec):=[(14,sSane F.S),(12,sWords F.W),(9,sRead F.R1 F.R2)]
abbrev tL (F:FL):List (FuncId × X.Spec):=(8,sTrue) :: tW0 F
noncomputable abbrev xL (F:FL):Ctx:=mka (tab (tL F)) (fun f=>if f=11 then some aSame else none)
def eqA (x y:Ax):Bool:=x.1 == y.1 && (x.2.1 == y.2.1 && (x.2.2.1 == y.2.2.1 && (x.2.2.2.1 == y.2.2.2.1 && (x.2.2.2.2.1 == y.2.2.2.2.1 && (x.2.2.2.2.2.1 == y.2.2.2.2.2.1 && true)))))
def eqP (x y:Po):Bool:=(x.1.1 == y.1.1 && (x.1.2.1 == y.1.2.1 && (x.1.2.2.1 == y.1.2.2.1 && (x.1.2.2.2.1 == y.1.2.2.2.1 && true)))) && ((x.2.1.1 == y.2.1.1 && (x.2.1.2.1 == y.2.1.2.1 && (x.2.1.2.2.1 == y.2.1.2.2.1 && true))) && (x.2.2.1 == y.2.2.1 && true))
def eqS (x y:STT):Bool:=x.1 == y.1 && (x.2.1 == y.2.1 && (x.2.2.1 == y.2.2.1 && (eqP x.2.2.2.1 y.2.2.2.1 && ((eqA x.2.2.2.2.1.1 y.2.2.2.2.1.1 && (eqA x.2.2.2.2.1.2.1 y.2.2.2.2.1.2.1 && (eqA x.2.2.2.2.1.2.2.1 y.2.2.2.2.1.2.2.1 && true))) && true))))
def restB (F:FL) (x:STT):Option Bool:=bif !F.S x then (bif ((F.W x).length:Int) == 0 then some (F.R2 (F.W x) == 5) else some false) else (bif ((F.W x).length:Int) == 26 then (bif F.R2 (F.W x) == 0 then some (eqS (F.R1 (F.W x)) x) else some false) else some false)
def zerB (F:FL) (x:STT) (l:List Int):Option Bool:=bif F.R2 l != 0 then (bif !eqS (F.R1 l) zeroS then some false else restB F x) else restB F x
theorem run_Back (F:FL) (x:STT) (l:List Int):fnx (xL F) nol 4 [.ag X.kSt,.sc (.sl kU)] (.one (.sc .bool)) (x,l,()) =
  bif decide ((l.length:Int) > 100) then some true else
  bif F.R2 l == 0 then (bif !!F.S (F.R1 l) then (bif sh0 (F.W (F.R1 l)) && sh0 l then (bif !!(F.W (F.R1 l) == l) then zerB F x l else some false) else none) else some false) else zerB F x l:=by kernel_rfl
theorem run_Apart (F:FL) (x y:STT):fnx (xL F) nol 6 [.ag X.kSt,.ag X.kSt] (.one (.sc .bool)) (x,y,()) =
  bif !!F.S x then (bif !F.S y then some true else bif sh0 (F.W x) && sh0 (F.W y) then some ((F.W x == F.W y) == eqS x y) else none) else some true:=by kernel_rfl
def by0 (F:FL) (x:STT) (b:Int):Option Bool:=bif !(b == 0) then some (!F.S x) else some true
def kOf (i:Int):Int:=(IntKind.i64.wrap ((BitVec.ofInt 64 i &&& BitVec.ofInt 64 65535).toNat:Int)).tmod 26
def xorU (a b:Int):Int:=IntKind.u64.wrap ((BitVec.ofInt 64 a ^^^ BitVec.ofInt 64 b).toNat:Int)
theorem run_Seen (F:FL) (x:STT) (i b:Int):fnx (xL F) nol 5 [.ag X.kSt,.sc kI,.sc kU] (.one (.sc .bool)) (x,i,b,()) =
  bif room tis 40 (0+(F.W x).length) then
   (bif !(b == 0) then (bif (((F.W x).length:Int) != 26) then by0 F x b else
    bif inB (kOf i) (F.W x).length then (bif inB (kOf i) (F.W x).length then some (F.R2 ((F.W x).set (kOf i).toNat (xorU (rdU (F.W x) (kOf i).toNat) b)) == 2) else none) else none) else by0 F x b)
  else none:=by kernel_rfl
end Go.Proofs.Ytgmkppeghnlcmaa.W
end
