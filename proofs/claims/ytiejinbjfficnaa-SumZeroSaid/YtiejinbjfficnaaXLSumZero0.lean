/- Lemmas that the row leans on; laid by a program of this project out of longer texts: what the row does not name is left out. -/
import Derived.Test.YtiejinbjfficnaaXB0
import Derived.Test.YtiejinbjfficnaaXB3
import Derived.Test.YtiejinbjfficnaaXB6
import Derived.Test.YtiejinbjfficnaaXB7
namespace Go.Proofs.Ytiejinbjfficnaa.B
open Go.RowKit Go.Proofs.YtiejinbjfficnaaW.PrintWords Go.Proofs.YtiejinbjfficnaaW.PrintLast Go.Proofs.YtiejinbjfficnaaW.PrintMore
attribute [local go_sem] max2_int min2_int max_two min_two max_three min_three max_four min_four
set_option linter.unusedVariables false
set_option linter.unusedSimpArgs false
def outriggerlaw06_SumZero.f (k:Nat) (l0:List Int) (l1:List Int) (a2:Int):Option (Bool):=(outriggerlaw06_awake.f k).bind fun t269=>(if 0≤(mn (l0.length:Int) 63) then (if (mn (l0.length:Int) 63)≤(l0.length:Int) then ((some (([]:List Int):List Int)).bind fun y271=>(if y271.length+(l0.take ((mn (l0.length:Int) 63):Int).toNat).length<17592186044416 then ((some (y271++(l0.take ((mn (l0.length:Int) 63):Int).toNat):List Int)).bind fun y274=>(if y274.length<17592186044416 then ((some (y274++[0]:List Int)).bind fun y277=>((sum_Total.f k (l0.take ((mn (l0.length:Int) 63):Int).toNat)).bind fun bt280=>((sum_Total.f k y277).bind fun bt282=>((sum_Norm.f k (l0.take ((mn (l0.length:Int) 63):Int).toNat)).bind fun bt284=>((sum_Norm.f k y277).bind fun bt286=>(if (wrap64 ((mn ((l0.take ((mn (l0.length:Int) 63):Int).toNat).length:Int) (l1.length:Int))+1))=0 then (none) else (if 0≤(mn ((l0.take ((mn (l0.length:Int) 63):Int).toNat).length:Int) (l1.length:Int)) then (if (mn ((l0.take ((mn (l0.length:Int) 63):Int).toNat).length:Int) (l1.length:Int))≤(l1.length:Int) then ((sum_Dot.f k (l0.take ((mn (l0.length:Int) 63):Int).toNat) (l1.take ((mn ((l0.take ((mn (l0.length:Int) 63):Int).toNat).length:Int) (l1.length:Int)):Int).toNat)).bind fun bt289=>(if 0≤(Int.tmod (Go.bits .and .i64 a2 65535) (wrap64 ((mn ((l0.take ((mn (l0.length:Int) 63):Int).toNat).length:Int) (l1.length:Int))+1))) then (if (Int.tmod (Go.bits .and .i64 a2 65535) (wrap64 ((mn ((l0.take ((mn (l0.length:Int) 63):Int).toNat).length:Int) (l1.length:Int))+1)))≤((l0.take ((mn (l0.length:Int) 63):Int).toNat).length:Int) then (if (Int.tmod (Go.bits .and .i64 a2 65535) (wrap64 ((mn ((l0.take ((mn (l0.length:Int) 63):Int).toNat).length:Int) (l1.length:Int))+1)))≤(l1.length:Int) then ((sum_Dot.f k ((l0.take ((mn (l0.length:Int) 63):Int).toNat).take ((Int.tmod (Go.bits .and .i64 a2 65535) (wrap64 ((mn ((l0.take ((mn (l0.length:Int) 63):Int).toNat).length:Int) (l1.length:Int))+1))):Int).toNat) (l1.take ((Int.tmod (Go.bits .and .i64 a2 65535) (wrap64 ((mn ((l0.take ((mn (l0.length:Int) 63):Int).toNat).length:Int) (l1.length:Int))+1))):Int).toNat)).bind fun bt293=>(if (Int.tmod (Go.bits .and .i64 a2 65535) (wrap64 ((mn ((l0.take ((mn (l0.length:Int) 63):Int).toNat).length:Int) (l1.length:Int))+1)))≤(mn ((l0.take ((mn (l0.length:Int) 63):Int).toNat).length:Int) (l1.length:Int)) then (if (mn ((l0.take ((mn (l0.length:Int) 63):Int).toNat).length:Int) (l1.length:Int))≤((l0.take ((mn (l0.length:Int) 63):Int).toNat).length:Int) then ((sum_Dot.f k (((l0.take ((mn (l0.length:Int) 63):Int).toNat).take ((mn ((l0.take ((mn (l0.length:Int) 63):Int).toNat).length:Int) (l1.length:Int)):Int).toNat).drop ((Int.tmod (Go.bits .and .i64 a2 65535) (wrap64 ((mn ((l0.take ((mn (l0.length:Int) 63):Int).toNat).length:Int) (l1.length:Int))+1))):Int).toNat) ((l1.take ((mn ((l0.take ((mn (l0.length:Int) 63):Int).toNat).length:Int) (l1.length:Int)):Int).toNat).drop ((Int.tmod (Go.bits .and .i64 a2 65535) (wrap64 ((mn ((l0.take ((mn (l0.length:Int) 63):Int).toNat).length:Int) (l1.length:Int))+1))):Int).toNat)).bind fun bt297=>((fix_Add.f bt293.1 bt297.1).bind fun bt299=>(if t269=true then (if bt280.1=bt282.1 then (if (bt280.2 == bt282.2)=true then (if bt284.1=bt286.1 then (if (bt284.2 == bt286.2)=true then (if bt289.2=true then (some true) else (if bt293.2=true then (some true) else (if bt297.2=true then (some true) else (if bt299.2=true then (some true) else (if (wrap64 (bt289.1-bt299.1))≤1 then (some (decide ((wrap64 (bt299.1-bt289.1))≤1))) else (some false)))))) else (some false)) else (some false)) else (some false)) else (some false)) else (some false)))) else (none)) else (none))) else (none)) else (none)) else (none))) else (none)) else (none)))))))) else (none))) else (none))) else (none)) else (none))
theorem outriggerlaw06_SumZero.mono:∀ a0 a1 a2 k,LeO (outriggerlaw06_SumZero.f k a0 a1 a2) (outriggerlaw06_SumZero.f (k+1) a0 a1 a2):=by
 intro a0 a1 a2 k
 unfold outriggerlaw06_SumZero.f
 repeat' first
   | (with_reducible exact outriggerlaw06_awake.mono _)
   | (with_reducible exact sum_Dot.mono _ _ _)
   | (with_reducible exact sum_Norm.mono _ _)
   | (with_reducible exact sum_Total.mono _ _)
   | (with_reducible exact LeO.refl _)
   | (with_reducible exact LeO.none _)
   | (with_reducible refine LeO.ite ?_ ?_)
   | (with_reducible refine LeO.bind ?_ (fun _=>?_))
   | exact outriggerlaw06_awake.mono _
   | exact sum_Dot.mono _ _ _
   | exact sum_Norm.mono _ _
   | exact sum_Total.mono _ _
   | exact LeO.none _
   | refine LeO.ite ?_ ?_
   | refine LeO.bind ?_ (fun _=>?_)
def outriggerlaw06_SumZero.T12:Bool × List (List Nat × List Nat):=(true,[([],[]),([],[]),([0,1],[0,1]),([],[]),([],[]),([3,4],[3,4]),([2,5],[2,5]),([6],[6]),([7],[7]),([7],[7]),([8,6,0,1,2,3,4,5,6,7,8],[8]),([9,10,0,1,2,3,4,5,6,7,8,9,10],[9])])
def outriggerlaw06_SumZero.B12:List Nat:=[0,0,3,0,0,24,63,127,255,255,511,2047]
theorem outriggerlaw06_SumZero.tab12:rtab .any (opsOf Try.f6 12)=outriggerlaw06_SumZero.T12:=by kernel_rfl
theorem outriggerlaw06_SumZero.bits12:waitsOk outriggerlaw06_SumZero.T12.2 outriggerlaw06_SumZero.B12=true:=by kernel_rfl
def outriggerlaw06_SumZero.T13:Bool × List (List Nat × List Nat):=(true,[([],[]),([],[]),([],[]),([0,1,2],[0,1,2]),([],[]),([],[]),([],[]),([4,5,6],[4,5,6]),([3,7],[3,7]),([8],[8]),([9],[9]),([9],[9]),([10,8,0,1,2,3,4,5,6,7,8,9,10],[10]),([11,12,0,1,2,3,4,5,6,7,8,9,10,11,12],[11])])
def outriggerlaw06_SumZero.B13:List Nat:=[0,0,0,7,0,0,0,112,255,511,1023,1023,2047,8191]
theorem outriggerlaw06_SumZero.tab13:rtab .any (opsOf Try.f6 13)=outriggerlaw06_SumZero.T13:=by kernel_rfl
theorem outriggerlaw06_SumZero.bits13:waitsOk outriggerlaw06_SumZero.T13.2 outriggerlaw06_SumZero.B13=true:=by kernel_rfl
end Go.Proofs.Ytiejinbjfficnaa.B
