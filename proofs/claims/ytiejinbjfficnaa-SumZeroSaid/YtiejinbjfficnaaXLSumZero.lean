/- Lemmas that the row leans on; laid by a program of this project out of longer texts: what the row does not name is left out. -/
import Derived.Test.YtiejinbjfficnaaXLSumZero0
import Derived.Test.YtiejinbjfficnaaXB3
import Derived.Test.YtiejinbjfficnaaXB6
import Derived.Test.YtiejinbjfficnaaXB7
namespace Go.Proofs.Ytiejinbjfficnaa.B
open Go.RowKit Go.Proofs.YtiejinbjfficnaaW.PrintWords Go.Proofs.YtiejinbjfficnaaW.PrintLast Go.Proofs.YtiejinbjfficnaaW.PrintMore
attribute [local go_sem] max2_int min2_int max_two min_two max_three min_three max_four min_four
set_option linter.unusedVariables false
set_option linter.unusedSimpArgs false
set_option maxHeartbeats 8000000 in
set_option maxRecDepth 100000 in
theorem outriggerlaw06_SumZero.calls (k:Nat) (A0:Option Addr) (c0:Nat) (l0:List Int) (A1:Option Addr) (c1:Nat) (l1:List Int) (a2:Int) (r:Bool) (w:World) (hr0:Kd.C (Kd.int .i64) w A0 l0.length l0) (hc0:l0.length≤c0) (hr1:Kd.C (Kd.int .i64) w A1 l1.length l1) (hc1:l1.length≤c1) (h:outriggerlaw06_SumZero.f k l0 l1 a2=some r) (hr:Aside0 (r=true)) :
  Calls Try.prog 6 #[.slice A0 l0.length c0,.slice A1 l1.length c1,.int .i64 a2] w fun e w'=>e=.returned (.bool r)∧Below w.heap.size w w':=by
 have HR0:=Aside0.mk hr0
 have HC0:=Aside0.mk hc0
 clear hr0 hc0
 have HR1:=Aside0.mk hr1
 have HC1:=Aside0.mk hc1
 clear hr1 hc1
 have HB:=Aside0.mk (Below.refl w.heap.size w)
 have H:((outriggerlaw06_awake.f k).bind fun t269=>(if 0≤(mn (l0.length:Int) 63) then (if (mn (l0.length:Int) 63)≤(l0.length:Int) then ((some (([]:List Int):List Int)).bind fun y271=>(if y271.length+(l0.take ((mn (l0.length:Int) 63):Int).toNat).length<17592186044416 then ((some (y271++(l0.take ((mn (l0.length:Int) 63):Int).toNat):List Int)).bind fun y274=>(if y274.length<17592186044416 then ((some (y274++[0]:List Int)).bind fun y277=>((sum_Total.f k (l0.take ((mn (l0.length:Int) 63):Int).toNat)).bind fun bt280=>((sum_Total.f k y277).bind fun bt282=>((sum_Norm.f k (l0.take ((mn (l0.length:Int) 63):Int).toNat)).bind fun bt284=>((sum_Norm.f k y277).bind fun bt286=>(if (wrap64 ((mn ((l0.take ((mn (l0.length:Int) 63):Int).toNat).length:Int) (l1.length:Int))+1))=0 then (none) else (if 0≤(mn ((l0.take ((mn (l0.length:Int) 63):Int).toNat).length:Int) (l1.length:Int)) then (if (mn ((l0.take ((mn (l0.length:Int) 63):Int).toNat).length:Int) (l1.length:Int))≤(l1.length:Int) then ((sum_Dot.f k (l0.take ((mn (l0.length:Int) 63):Int).toNat) (l1.take ((mn ((l0.take ((mn (l0.length:Int) 63):Int).toNat).length:Int) (l1.length:Int)):Int).toNat)).bind fun bt289=>(if 0≤(Int.tmod (Go.bits .and .i64 a2 65535) (wrap64 ((mn ((l0.take ((mn (l0.length:Int) 63):Int).toNat).length:Int) (l1.length:Int))+1))) then (if (Int.tmod (Go.bits .and .i64 a2 65535) (wrap64 ((mn ((l0.take ((mn (l0.length:Int) 63):Int).toNat).length:Int) (l1.length:Int))+1)))≤((l0.take ((mn (l0.length:Int) 63):Int).toNat).length:Int) then (if (Int.tmod (Go.bits .and .i64 a2 65535) (wrap64 ((mn ((l0.take ((mn (l0.length:Int) 63):Int).toNat).length:Int) (l1.length:Int))+1)))≤(l1.length:Int) then ((sum_Dot.f k ((l0.take ((mn (l0.length:Int) 63):Int).toNat).take ((Int.tmod (Go.bits .and .i64 a2 65535) (wrap64 ((mn ((l0.take ((mn (l0.length:Int) 63):Int).toNat).length:Int) (l1.length:Int))+1))):Int).toNat) (l1.take ((Int.tmod (Go.bits .and .i64 a2 65535) (wrap64 ((mn ((l0.take ((mn (l0.length:Int) 63):Int).toNat).length:Int) (l1.length:Int))+1))):Int).toNat)).bind fun bt293=>(if (Int.tmod (Go.bits .and .i64 a2 65535) (wrap64 ((mn ((l0.take ((mn (l0.length:Int) 63):Int).toNat).length:Int) (l1.length:Int))+1)))≤(mn ((l0.take ((mn (l0.length:Int) 63):Int).toNat).length:Int) (l1.length:Int)) then (if (mn ((l0.take ((mn (l0.length:Int) 63):Int).toNat).length:Int) (l1.length:Int))≤((l0.take ((mn (l0.length:Int) 63):Int).toNat).length:Int) then ((sum_Dot.f k (((l0.take ((mn (l0.length:Int) 63):Int).toNat).take ((mn ((l0.take ((mn (l0.length:Int) 63):Int).toNat).length:Int) (l1.length:Int)):Int).toNat).drop ((Int.tmod (Go.bits .and .i64 a2 65535) (wrap64 ((mn ((l0.take ((mn (l0.length:Int) 63):Int).toNat).length:Int) (l1.length:Int))+1))):Int).toNat) ((l1.take ((mn ((l0.take ((mn (l0.length:Int) 63):Int).toNat).length:Int) (l1.length:Int)):Int).toNat).drop ((Int.tmod (Go.bits .and .i64 a2 65535) (wrap64 ((mn ((l0.take ((mn (l0.length:Int) 63):Int).toNat).length:Int) (l1.length:Int))+1))):Int).toNat)).bind fun bt297=>((fix_Add.f bt293.1 bt297.1).bind fun bt299=>(if t269=true then (if bt280.1=bt282.1 then (if (bt280.2 == bt282.2)=true then (if bt284.1=bt286.1 then (if (bt284.2 == bt286.2)=true then (if bt289.2=true then (some true) else (if bt293.2=true then (some true) else (if bt297.2=true then (some true) else (if bt299.2=true then (some true) else (if (wrap64 (bt289.1-bt299.1))≤1 then (some (decide ((wrap64 (bt299.1-bt289.1))≤1))) else (some false)))))) else (some false)) else (some false)) else (some false)) else (some false)) else (some false)))) else (none)) else (none))) else (none)) else (none)) else (none))) else (none)) else (none)))))))) else (none))) else (none))) else (none)) else (none)))=some r:=h
 clear h
 replace H:=Option.bind_eq_some_iff.mp H
 obtain⟨t269,A40,H⟩:=H
 replace H:(if 0≤(mn (l0.length:Int) 63) then (if (mn (l0.length:Int) 63)≤(l0.length:Int) then ((some (([]:List Int):List Int)).bind fun y271=>(if y271.length+(l0.take ((mn (l0.length:Int) 63):Int).toNat).length<17592186044416 then ((some (y271++(l0.take ((mn (l0.length:Int) 63):Int).toNat):List Int)).bind fun y274=>(if y274.length<17592186044416 then ((some (y274++[0]:List Int)).bind fun y277=>((sum_Total.f k (l0.take ((mn (l0.length:Int) 63):Int).toNat)).bind fun bt280=>((sum_Total.f k y277).bind fun bt282=>((sum_Norm.f k (l0.take ((mn (l0.length:Int) 63):Int).toNat)).bind fun bt284=>((sum_Norm.f k y277).bind fun bt286=>(if (wrap64 ((mn ((l0.take ((mn (l0.length:Int) 63):Int).toNat).length:Int) (l1.length:Int))+1))=0 then (none) else (if 0≤(mn ((l0.take ((mn (l0.length:Int) 63):Int).toNat).length:Int) (l1.length:Int)) then (if (mn ((l0.take ((mn (l0.length:Int) 63):Int).toNat).length:Int) (l1.length:Int))≤(l1.length:Int) then ((sum_Dot.f k (l0.take ((mn (l0.length:Int) 63):Int).toNat) (l1.take ((mn ((l0.take ((mn (l0.length:Int) 63):Int).toNat).length:Int) (l1.length:Int)):Int).toNat)).bind fun bt289=>(if 0≤(Int.tmod (Go.bits .and .i64 a2 65535) (wrap64 ((mn ((l0.take ((mn (l0.length:Int) 63):Int).toNat).length:Int) (l1.length:Int))+1))) then (if (Int.tmod (Go.bits .and .i64 a2 65535) (wrap64 ((mn ((l0.take ((mn (l0.length:Int) 63):Int).toNat).length:Int) (l1.length:Int))+1)))≤((l0.take ((mn (l0.length:Int) 63):Int).toNat).length:Int) then (if (Int.tmod (Go.bits .and .i64 a2 65535) (wrap64 ((mn ((l0.take ((mn (l0.length:Int) 63):Int).toNat).length:Int) (l1.length:Int))+1)))≤(l1.length:Int) then ((sum_Dot.f k ((l0.take ((mn (l0.length:Int) 63):Int).toNat).take ((Int.tmod (Go.bits .and .i64 a2 65535) (wrap64 ((mn ((l0.take ((mn (l0.length:Int) 63):Int).toNat).length:Int) (l1.length:Int))+1))):Int).toNat) (l1.take ((Int.tmod (Go.bits .and .i64 a2 65535) (wrap64 ((mn ((l0.take ((mn (l0.length:Int) 63):Int).toNat).length:Int) (l1.length:Int))+1))):Int).toNat)).bind fun bt293=>(if (Int.tmod (Go.bits .and .i64 a2 65535) (wrap64 ((mn ((l0.take ((mn (l0.length:Int) 63):Int).toNat).length:Int) (l1.length:Int))+1)))≤(mn ((l0.take ((mn (l0.length:Int) 63):Int).toNat).length:Int) (l1.length:Int)) then (if (mn ((l0.take ((mn (l0.length:Int) 63):Int).toNat).length:Int) (l1.length:Int))≤((l0.take ((mn (l0.length:Int) 63):Int).toNat).length:Int) then ((sum_Dot.f k (((l0.take ((mn (l0.length:Int) 63):Int).toNat).take ((mn ((l0.take ((mn (l0.length:Int) 63):Int).toNat).length:Int) (l1.length:Int)):Int).toNat).drop ((Int.tmod (Go.bits .and .i64 a2 65535) (wrap64 ((mn ((l0.take ((mn (l0.length:Int) 63):Int).toNat).length:Int) (l1.length:Int))+1))):Int).toNat) ((l1.take ((mn ((l0.take ((mn (l0.length:Int) 63):Int).toNat).length:Int) (l1.length:Int)):Int).toNat).drop ((Int.tmod (Go.bits .and .i64 a2 65535) (wrap64 ((mn ((l0.take ((mn (l0.length:Int) 63):Int).toNat).length:Int) (l1.length:Int))+1))):Int).toNat)).bind fun bt297=>((fix_Add.f bt293.1 bt297.1).bind fun bt299=>(if t269=true then (if bt280.1=bt282.1 then (if (bt280.2 == bt282.2)=true then (if bt284.1=bt286.1 then (if (bt284.2 == bt286.2)=true then (if bt289.2=true then (some true) else (if bt293.2=true then (some true) else (if bt297.2=true then (some true) else (if bt299.2=true then (some true) else (if (wrap64 (bt289.1-bt299.1))≤1 then (some (decide ((wrap64 (bt299.1-bt289.1))≤1))) else (some false)))))) else (some false)) else (some false)) else (some false)) else (some false)) else (some false)))) else (none)) else (none))) else (none)) else (none)) else (none))) else (none)) else (none)))))))) else (none))) else (none))) else (none)) else (none))=some r:=H
 have A4:=Aside0.mk A40
 clear A40
 obtain⟨ji5,hji5⟩:∃ j_:Int,(mn (l0.length:Int) 63)=j_:=⟨_,rfl⟩
 replace H:(if 0≤(ji5) then (if (ji5)≤(l0.length:Int) then ((some (([]:List Int):List Int)).bind fun y271=>(if y271.length+(l0.take ((ji5):Int).toNat).length<17592186044416 then ((some (y271++(l0.take ((ji5):Int).toNat):List Int)).bind fun y274=>(if y274.length<17592186044416 then ((some (y274++[0]:List Int)).bind fun y277=>((sum_Total.f k (l0.take ((ji5):Int).toNat)).bind fun bt280=>((sum_Total.f k y277).bind fun bt282=>((sum_Norm.f k (l0.take ((ji5):Int).toNat)).bind fun bt284=>((sum_Norm.f k y277).bind fun bt286=>(if (wrap64 ((mn ((l0.take ((ji5):Int).toNat).length:Int) (l1.length:Int))+1))=0 then (none) else (if 0≤(mn ((l0.take ((ji5):Int).toNat).length:Int) (l1.length:Int)) then (if (mn ((l0.take ((ji5):Int).toNat).length:Int) (l1.length:Int))≤(l1.length:Int) then ((sum_Dot.f k (l0.take ((ji5):Int).toNat) (l1.take ((mn ((l0.take ((ji5):Int).toNat).length:Int) (l1.length:Int)):Int).toNat)).bind fun bt289=>(if 0≤(Int.tmod (Go.bits .and .i64 a2 65535) (wrap64 ((mn ((l0.take ((ji5):Int).toNat).length:Int) (l1.length:Int))+1))) then (if (Int.tmod (Go.bits .and .i64 a2 65535) (wrap64 ((mn ((l0.take ((ji5):Int).toNat).length:Int) (l1.length:Int))+1)))≤((l0.take ((ji5):Int).toNat).length:Int) then (if (Int.tmod (Go.bits .and .i64 a2 65535) (wrap64 ((mn ((l0.take ((ji5):Int).toNat).length:Int) (l1.length:Int))+1)))≤(l1.length:Int) then ((sum_Dot.f k ((l0.take ((ji5):Int).toNat).take ((Int.tmod (Go.bits .and .i64 a2 65535) (wrap64 ((mn ((l0.take ((ji5):Int).toNat).length:Int) (l1.length:Int))+1))):Int).toNat) (l1.take ((Int.tmod (Go.bits .and .i64 a2 65535) (wrap64 ((mn ((l0.take ((ji5):Int).toNat).length:Int) (l1.length:Int))+1))):Int).toNat)).bind fun bt293=>(if (Int.tmod (Go.bits .and .i64 a2 65535) (wrap64 ((mn ((l0.take ((ji5):Int).toNat).length:Int) (l1.length:Int))+1)))≤(mn ((l0.take ((ji5):Int).toNat).length:Int) (l1.length:Int)) then (if (mn ((l0.take ((ji5):Int).toNat).length:Int) (l1.length:Int))≤((l0.take ((ji5):Int).toNat).length:Int) then ((sum_Dot.f k (((l0.take ((ji5):Int).toNat).take ((mn ((l0.take ((ji5):Int).toNat).length:Int) (l1.length:Int)):Int).toNat).drop ((Int.tmod (Go.bits .and .i64 a2 65535) (wrap64 ((mn ((l0.take ((ji5):Int).toNat).length:Int) (l1.length:Int))+1))):Int).toNat) ((l1.take ((mn ((l0.take ((ji5):Int).toNat).length:Int) (l1.length:Int)):Int).toNat).drop ((Int.tmod (Go.bits .and .i64 a2 65535) (wrap64 ((mn ((l0.take ((ji5):Int).toNat).length:Int) (l1.length:Int))+1))):Int).toNat)).bind fun bt297=>((fix_Add.f bt293.1 bt297.1).bind fun bt299=>(if t269=true then (if bt280.1=bt282.1 then (if (bt280.2 == bt282.2)=true then (if bt284.1=bt286.1 then (if (bt284.2 == bt286.2)=true then (if bt289.2=true then (some true) else (if bt293.2=true then (some true) else (if bt297.2=true then (some true) else (if bt299.2=true then (some true) else (if (wrap64 (bt289.1-bt299.1))≤1 then (some (decide ((wrap64 (bt299.1-bt289.1))≤1))) else (some false)))))) else (some false)) else (some false)) else (some false)) else (some false)) else (some false)))) else (none)) else (none))) else (none)) else (none)) else (none))) else (none)) else (none)))))))) else (none))) else (none))) else (none)) else (none))=some r:=by first|(rw [hji5] at H;exact H)|(simp only [hji5] at H ⊢;exact H)
 (try rw [hji5] at A4)
 (try (have hji5h:ji5≤63:=by (rw [←hji5];unfold mn;(repeat' split)<;>omega)))
 (try (have hji5g:ji5≤64:=by omega))
 (try (have hji5l:0≤ji5:=by (rw [←hji5];unfold mn;(repeat' split)<;>omega)))
 (try (have hji5m:0≤ji5:=by omega))
 have hji5_:(if 63<(l0.length:Int) then 63 else (l0.length:Int))=ji5:=hji5
 obtain⟨m0_5,hm0_5⟩:∃ m_:List Int,(l0.take ((ji5):Int).toNat)=m_:=⟨_,rfl⟩
 rw [hm0_5] at H
 by_cases c6:0≤(ji5)
 ·rw [if_pos c6] at H
  have c6b0:=eq_true c6
  have c6b1:decide (0≤(ji5))=true:=decide_eq_true c6
  clear c6
  by_cases c7:(ji5)≤(l0.length:Int)
  ·rw [if_pos c7] at H
   have c7b0:=eq_true c7
   have c7b1:decide ((ji5)≤(l0.length:Int))=true:=decide_eq_true c7
   clear c7
   obtain⟨y271,hy271⟩:∃ y_:List Int,y_=(([]:List Int)):=⟨_,rfl⟩
   replace H:(if y271.length+m0_5.length<17592186044416 then ((some (y271++m0_5:List Int)).bind fun y274=>(if y274.length<17592186044416 then ((some (y274++[0]:List Int)).bind fun y277=>((sum_Total.f k m0_5).bind fun bt280=>((sum_Total.f k y277).bind fun bt282=>((sum_Norm.f k m0_5).bind fun bt284=>((sum_Norm.f k y277).bind fun bt286=>(if (wrap64 ((mn (m0_5.length:Int) (l1.length:Int))+1))=0 then (none) else (if 0≤(mn (m0_5.length:Int) (l1.length:Int)) then (if (mn (m0_5.length:Int) (l1.length:Int))≤(l1.length:Int) then ((sum_Dot.f k m0_5 (l1.take ((mn (m0_5.length:Int) (l1.length:Int)):Int).toNat)).bind fun bt289=>(if 0≤(Int.tmod (Go.bits .and .i64 a2 65535) (wrap64 ((mn (m0_5.length:Int) (l1.length:Int))+1))) then (if (Int.tmod (Go.bits .and .i64 a2 65535) (wrap64 ((mn (m0_5.length:Int) (l1.length:Int))+1)))≤(m0_5.length:Int) then (if (Int.tmod (Go.bits .and .i64 a2 65535) (wrap64 ((mn (m0_5.length:Int) (l1.length:Int))+1)))≤(l1.length:Int) then ((sum_Dot.f k (m0_5.take ((Int.tmod (Go.bits .and .i64 a2 65535) (wrap64 ((mn (m0_5.length:Int) (l1.length:Int))+1))):Int).toNat) (l1.take ((Int.tmod (Go.bits .and .i64 a2 65535) (wrap64 ((mn (m0_5.length:Int) (l1.length:Int))+1))):Int).toNat)).bind fun bt293=>(if (Int.tmod (Go.bits .and .i64 a2 65535) (wrap64 ((mn (m0_5.length:Int) (l1.length:Int))+1)))≤(mn (m0_5.length:Int) (l1.length:Int)) then (if (mn (m0_5.length:Int) (l1.length:Int))≤(m0_5.length:Int) then ((sum_Dot.f k ((m0_5.take ((mn (m0_5.length:Int) (l1.length:Int)):Int).toNat).drop ((Int.tmod (Go.bits .and .i64 a2 65535) (wrap64 ((mn (m0_5.length:Int) (l1.length:Int))+1))):Int).toNat) ((l1.take ((mn (m0_5.length:Int) (l1.length:Int)):Int).toNat).drop ((Int.tmod (Go.bits .and .i64 a2 65535) (wrap64 ((mn (m0_5.length:Int) (l1.length:Int))+1))):Int).toNat)).bind fun bt297=>((fix_Add.f bt293.1 bt297.1).bind fun bt299=>(if t269=true then (if bt280.1=bt282.1 then (if (bt280.2 == bt282.2)=true then (if bt284.1=bt286.1 then (if (bt284.2 == bt286.2)=true then (if bt289.2=true then (some true) else (if bt293.2=true then (some true) else (if bt297.2=true then (some true) else (if bt299.2=true then (some true) else (if (wrap64 (bt289.1-bt299.1))≤1 then (some (decide ((wrap64 (bt299.1-bt289.1))≤1))) else (some false)))))) else (some false)) else (some false)) else (some false)) else (some false)) else (some false)))) else (none)) else (none))) else (none)) else (none)) else (none))) else (none)) else (none)))))))) else (none))) else (none))=some r:=by first|(rw [hy271];with_reducible exact H)|(have H2_:=(Option.bind_some _ _).symm.trans H;rw [hy271];with_reducible exact H2_)|(have H2_:=(Option.bind_some _ _).symm.trans H;with_reducible exact H2_)|with_reducible exact H|(rw [hy271];exact H)|exact H
   have Ny271:=Aside0.mk hy271
   clear hy271
   by_cases c8:y271.length+m0_5.length<17592186044416
   ·rw [if_pos c8] at H
    have LMc8:=Aside0.mk c8
    clear c8
    obtain⟨y274,hy274⟩:∃ y_:List Int,y_=(y271++m0_5):=⟨_,rfl⟩
    replace H:(if y274.length<17592186044416 then ((some (y274++[0]:List Int)).bind fun y277=>((sum_Total.f k m0_5).bind fun bt280=>((sum_Total.f k y277).bind fun bt282=>((sum_Norm.f k m0_5).bind fun bt284=>((sum_Norm.f k y277).bind fun bt286=>(if (wrap64 ((mn (m0_5.length:Int) (l1.length:Int))+1))=0 then (none) else (if 0≤(mn (m0_5.length:Int) (l1.length:Int)) then (if (mn (m0_5.length:Int) (l1.length:Int))≤(l1.length:Int) then ((sum_Dot.f k m0_5 (l1.take ((mn (m0_5.length:Int) (l1.length:Int)):Int).toNat)).bind fun bt289=>(if 0≤(Int.tmod (Go.bits .and .i64 a2 65535) (wrap64 ((mn (m0_5.length:Int) (l1.length:Int))+1))) then (if (Int.tmod (Go.bits .and .i64 a2 65535) (wrap64 ((mn (m0_5.length:Int) (l1.length:Int))+1)))≤(m0_5.length:Int) then (if (Int.tmod (Go.bits .and .i64 a2 65535) (wrap64 ((mn (m0_5.length:Int) (l1.length:Int))+1)))≤(l1.length:Int) then ((sum_Dot.f k (m0_5.take ((Int.tmod (Go.bits .and .i64 a2 65535) (wrap64 ((mn (m0_5.length:Int) (l1.length:Int))+1))):Int).toNat) (l1.take ((Int.tmod (Go.bits .and .i64 a2 65535) (wrap64 ((mn (m0_5.length:Int) (l1.length:Int))+1))):Int).toNat)).bind fun bt293=>(if (Int.tmod (Go.bits .and .i64 a2 65535) (wrap64 ((mn (m0_5.length:Int) (l1.length:Int))+1)))≤(mn (m0_5.length:Int) (l1.length:Int)) then (if (mn (m0_5.length:Int) (l1.length:Int))≤(m0_5.length:Int) then ((sum_Dot.f k ((m0_5.take ((mn (m0_5.length:Int) (l1.length:Int)):Int).toNat).drop ((Int.tmod (Go.bits .and .i64 a2 65535) (wrap64 ((mn (m0_5.length:Int) (l1.length:Int))+1))):Int).toNat) ((l1.take ((mn (m0_5.length:Int) (l1.length:Int)):Int).toNat).drop ((Int.tmod (Go.bits .and .i64 a2 65535) (wrap64 ((mn (m0_5.length:Int) (l1.length:Int))+1))):Int).toNat)).bind fun bt297=>((fix_Add.f bt293.1 bt297.1).bind fun bt299=>(if t269=true then (if bt280.1=bt282.1 then (if (bt280.2 == bt282.2)=true then (if bt284.1=bt286.1 then (if (bt284.2 == bt286.2)=true then (if bt289.2=true then (some true) else (if bt293.2=true then (some true) else (if bt297.2=true then (some true) else (if bt299.2=true then (some true) else (if (wrap64 (bt289.1-bt299.1))≤1 then (some (decide ((wrap64 (bt299.1-bt289.1))≤1))) else (some false)))))) else (some false)) else (some false)) else (some false)) else (some false)) else (some false)))) else (none)) else (none))) else (none)) else (none)) else (none))) else (none)) else (none)))))))) else (none))=some r:=by first|(rw [hy274];with_reducible exact H)|(have H2_:=(Option.bind_some _ _).symm.trans H;rw [hy274];with_reducible exact H2_)|(have H2_:=(Option.bind_some _ _).symm.trans H;with_reducible exact H2_)|with_reducible exact H|(rw [hy274];exact H)|exact H
    have Ny274:=Aside0.mk hy274
    clear hy274
    by_cases c9:y274.length<17592186044416
    ·rw [if_pos c9] at H
     have LMc9:=Aside0.mk c9
     clear c9
     obtain⟨y277,hy277⟩:∃ y_:List Int,y_=(y274++[0]):=⟨_,rfl⟩
     replace H:((sum_Total.f k m0_5).bind fun bt280=>((sum_Total.f k y277).bind fun bt282=>((sum_Norm.f k m0_5).bind fun bt284=>((sum_Norm.f k y277).bind fun bt286=>(if (wrap64 ((mn (m0_5.length:Int) (l1.length:Int))+1))=0 then (none) else (if 0≤(mn (m0_5.length:Int) (l1.length:Int)) then (if (mn (m0_5.length:Int) (l1.length:Int))≤(l1.length:Int) then ((sum_Dot.f k m0_5 (l1.take ((mn (m0_5.length:Int) (l1.length:Int)):Int).toNat)).bind fun bt289=>(if 0≤(Int.tmod (Go.bits .and .i64 a2 65535) (wrap64 ((mn (m0_5.length:Int) (l1.length:Int))+1))) then (if (Int.tmod (Go.bits .and .i64 a2 65535) (wrap64 ((mn (m0_5.length:Int) (l1.length:Int))+1)))≤(m0_5.length:Int) then (if (Int.tmod (Go.bits .and .i64 a2 65535) (wrap64 ((mn (m0_5.length:Int) (l1.length:Int))+1)))≤(l1.length:Int) then ((sum_Dot.f k (m0_5.take ((Int.tmod (Go.bits .and .i64 a2 65535) (wrap64 ((mn (m0_5.length:Int) (l1.length:Int))+1))):Int).toNat) (l1.take ((Int.tmod (Go.bits .and .i64 a2 65535) (wrap64 ((mn (m0_5.length:Int) (l1.length:Int))+1))):Int).toNat)).bind fun bt293=>(if (Int.tmod (Go.bits .and .i64 a2 65535) (wrap64 ((mn (m0_5.length:Int) (l1.length:Int))+1)))≤(mn (m0_5.length:Int) (l1.length:Int)) then (if (mn (m0_5.length:Int) (l1.length:Int))≤(m0_5.length:Int) then ((sum_Dot.f k ((m0_5.take ((mn (m0_5.length:Int) (l1.length:Int)):Int).toNat).drop ((Int.tmod (Go.bits .and .i64 a2 65535) (wrap64 ((mn (m0_5.length:Int) (l1.length:Int))+1))):Int).toNat) ((l1.take ((mn (m0_5.length:Int) (l1.length:Int)):Int).toNat).drop ((Int.tmod (Go.bits .and .i64 a2 65535) (wrap64 ((mn (m0_5.length:Int) (l1.length:Int))+1))):Int).toNat)).bind fun bt297=>((fix_Add.f bt293.1 bt297.1).bind fun bt299=>(if t269=true then (if bt280.1=bt282.1 then (if (bt280.2 == bt282.2)=true then (if bt284.1=bt286.1 then (if (bt284.2 == bt286.2)=true then (if bt289.2=true then (some true) else (if bt293.2=true then (some true) else (if bt297.2=true then (some true) else (if bt299.2=true then (some true) else (if (wrap64 (bt289.1-bt299.1))≤1 then (some (decide ((wrap64 (bt299.1-bt289.1))≤1))) else (some false)))))) else (some false)) else (some false)) else (some false)) else (some false)) else (some false)))) else (none)) else (none))) else (none)) else (none)) else (none))) else (none)) else (none)))))))=some r:=by first|(rw [hy277];with_reducible exact H)|(have H2_:=(Option.bind_some _ _).symm.trans H;rw [hy277];with_reducible exact H2_)|(have H2_:=(Option.bind_some _ _).symm.trans H;with_reducible exact H2_)|with_reducible exact H|(rw [hy277];exact H)|exact H
     have Ny277:=Aside0.mk hy277
     clear hy277
     replace H:=Option.bind_eq_some_iff.mp H
     obtain⟨⟨t280,t281⟩,A100,H⟩:=H
     replace H:((sum_Total.f k y277).bind fun bt282=>((sum_Norm.f k m0_5).bind fun bt284=>((sum_Norm.f k y277).bind fun bt286=>(if (wrap64 ((mn (m0_5.length:Int) (l1.length:Int))+1))=0 then (none) else (if 0≤(mn (m0_5.length:Int) (l1.length:Int)) then (if (mn (m0_5.length:Int) (l1.length:Int))≤(l1.length:Int) then ((sum_Dot.f k m0_5 (l1.take ((mn (m0_5.length:Int) (l1.length:Int)):Int).toNat)).bind fun bt289=>(if 0≤(Int.tmod (Go.bits .and .i64 a2 65535) (wrap64 ((mn (m0_5.length:Int) (l1.length:Int))+1))) then (if (Int.tmod (Go.bits .and .i64 a2 65535) (wrap64 ((mn (m0_5.length:Int) (l1.length:Int))+1)))≤(m0_5.length:Int) then (if (Int.tmod (Go.bits .and .i64 a2 65535) (wrap64 ((mn (m0_5.length:Int) (l1.length:Int))+1)))≤(l1.length:Int) then ((sum_Dot.f k (m0_5.take ((Int.tmod (Go.bits .and .i64 a2 65535) (wrap64 ((mn (m0_5.length:Int) (l1.length:Int))+1))):Int).toNat) (l1.take ((Int.tmod (Go.bits .and .i64 a2 65535) (wrap64 ((mn (m0_5.length:Int) (l1.length:Int))+1))):Int).toNat)).bind fun bt293=>(if (Int.tmod (Go.bits .and .i64 a2 65535) (wrap64 ((mn (m0_5.length:Int) (l1.length:Int))+1)))≤(mn (m0_5.length:Int) (l1.length:Int)) then (if (mn (m0_5.length:Int) (l1.length:Int))≤(m0_5.length:Int) then ((sum_Dot.f k ((m0_5.take ((mn (m0_5.length:Int) (l1.length:Int)):Int).toNat).drop ((Int.tmod (Go.bits .and .i64 a2 65535) (wrap64 ((mn (m0_5.length:Int) (l1.length:Int))+1))):Int).toNat) ((l1.take ((mn (m0_5.length:Int) (l1.length:Int)):Int).toNat).drop ((Int.tmod (Go.bits .and .i64 a2 65535) (wrap64 ((mn (m0_5.length:Int) (l1.length:Int))+1))):Int).toNat)).bind fun bt297=>((fix_Add.f bt293.1 bt297.1).bind fun bt299=>(if t269=true then (if t280=bt282.1 then (if (t281 == bt282.2)=true then (if bt284.1=bt286.1 then (if (bt284.2 == bt286.2)=true then (if bt289.2=true then (some true) else (if bt293.2=true then (some true) else (if bt297.2=true then (some true) else (if bt299.2=true then (some true) else (if (wrap64 (bt289.1-bt299.1))≤1 then (some (decide ((wrap64 (bt299.1-bt289.1))≤1))) else (some false)))))) else (some false)) else (some false)) else (some false)) else (some false)) else (some false)))) else (none)) else (none))) else (none)) else (none)) else (none))) else (none)) else (none))))))=some r:=H
     have A10:=Aside0.mk A100
     clear A100
     replace H:=Option.bind_eq_some_iff.mp H
     obtain⟨⟨t282,t283⟩,A110,H⟩:=H
     replace H:((sum_Norm.f k m0_5).bind fun bt284=>((sum_Norm.f k y277).bind fun bt286=>(if (wrap64 ((mn (m0_5.length:Int) (l1.length:Int))+1))=0 then (none) else (if 0≤(mn (m0_5.length:Int) (l1.length:Int)) then (if (mn (m0_5.length:Int) (l1.length:Int))≤(l1.length:Int) then ((sum_Dot.f k m0_5 (l1.take ((mn (m0_5.length:Int) (l1.length:Int)):Int).toNat)).bind fun bt289=>(if 0≤(Int.tmod (Go.bits .and .i64 a2 65535) (wrap64 ((mn (m0_5.length:Int) (l1.length:Int))+1))) then (if (Int.tmod (Go.bits .and .i64 a2 65535) (wrap64 ((mn (m0_5.length:Int) (l1.length:Int))+1)))≤(m0_5.length:Int) then (if (Int.tmod (Go.bits .and .i64 a2 65535) (wrap64 ((mn (m0_5.length:Int) (l1.length:Int))+1)))≤(l1.length:Int) then ((sum_Dot.f k (m0_5.take ((Int.tmod (Go.bits .and .i64 a2 65535) (wrap64 ((mn (m0_5.length:Int) (l1.length:Int))+1))):Int).toNat) (l1.take ((Int.tmod (Go.bits .and .i64 a2 65535) (wrap64 ((mn (m0_5.length:Int) (l1.length:Int))+1))):Int).toNat)).bind fun bt293=>(if (Int.tmod (Go.bits .and .i64 a2 65535) (wrap64 ((mn (m0_5.length:Int) (l1.length:Int))+1)))≤(mn (m0_5.length:Int) (l1.length:Int)) then (if (mn (m0_5.length:Int) (l1.length:Int))≤(m0_5.length:Int) then ((sum_Dot.f k ((m0_5.take ((mn (m0_5.length:Int) (l1.length:Int)):Int).toNat).drop ((Int.tmod (Go.bits .and .i64 a2 65535) (wrap64 ((mn (m0_5.length:Int) (l1.length:Int))+1))):Int).toNat) ((l1.take ((mn (m0_5.length:Int) (l1.length:Int)):Int).toNat).drop ((Int.tmod (Go.bits .and .i64 a2 65535) (wrap64 ((mn (m0_5.length:Int) (l1.length:Int))+1))):Int).toNat)).bind fun bt297=>((fix_Add.f bt293.1 bt297.1).bind fun bt299=>(if t269=true then (if t280=t282 then (if (t281 == t283)=true then (if bt284.1=bt286.1 then (if (bt284.2 == bt286.2)=true then (if bt289.2=true then (some true) else (if bt293.2=true then (some true) else (if bt297.2=true then (some true) else (if bt299.2=true then (some true) else (if (wrap64 (bt289.1-bt299.1))≤1 then (some (decide ((wrap64 (bt299.1-bt289.1))≤1))) else (some false)))))) else (some false)) else (some false)) else (some false)) else (some false)) else (some false)))) else (none)) else (none))) else (none)) else (none)) else (none))) else (none)) else (none)))))=some r:=H
     have A11:=Aside0.mk A110
     clear A110
     replace H:=Option.bind_eq_some_iff.mp H
     obtain⟨⟨t284,t285⟩,A120,H⟩:=H
     replace H:((sum_Norm.f k y277).bind fun bt286=>(if (wrap64 ((mn (m0_5.length:Int) (l1.length:Int))+1))=0 then (none) else (if 0≤(mn (m0_5.length:Int) (l1.length:Int)) then (if (mn (m0_5.length:Int) (l1.length:Int))≤(l1.length:Int) then ((sum_Dot.f k m0_5 (l1.take ((mn (m0_5.length:Int) (l1.length:Int)):Int).toNat)).bind fun bt289=>(if 0≤(Int.tmod (Go.bits .and .i64 a2 65535) (wrap64 ((mn (m0_5.length:Int) (l1.length:Int))+1))) then (if (Int.tmod (Go.bits .and .i64 a2 65535) (wrap64 ((mn (m0_5.length:Int) (l1.length:Int))+1)))≤(m0_5.length:Int) then (if (Int.tmod (Go.bits .and .i64 a2 65535) (wrap64 ((mn (m0_5.length:Int) (l1.length:Int))+1)))≤(l1.length:Int) then ((sum_Dot.f k (m0_5.take ((Int.tmod (Go.bits .and .i64 a2 65535) (wrap64 ((mn (m0_5.length:Int) (l1.length:Int))+1))):Int).toNat) (l1.take ((Int.tmod (Go.bits .and .i64 a2 65535) (wrap64 ((mn (m0_5.length:Int) (l1.length:Int))+1))):Int).toNat)).bind fun bt293=>(if (Int.tmod (Go.bits .and .i64 a2 65535) (wrap64 ((mn (m0_5.length:Int) (l1.length:Int))+1)))≤(mn (m0_5.length:Int) (l1.length:Int)) then (if (mn (m0_5.length:Int) (l1.length:Int))≤(m0_5.length:Int) then ((sum_Dot.f k ((m0_5.take ((mn (m0_5.length:Int) (l1.length:Int)):Int).toNat).drop ((Int.tmod (Go.bits .and .i64 a2 65535) (wrap64 ((mn (m0_5.length:Int) (l1.length:Int))+1))):Int).toNat) ((l1.take ((mn (m0_5.length:Int) (l1.length:Int)):Int).toNat).drop ((Int.tmod (Go.bits .and .i64 a2 65535) (wrap64 ((mn (m0_5.length:Int) (l1.length:Int))+1))):Int).toNat)).bind fun bt297=>((fix_Add.f bt293.1 bt297.1).bind fun bt299=>(if t269=true then (if t280=t282 then (if (t281 == t283)=true then (if t284=bt286.1 then (if (t285 == bt286.2)=true then (if bt289.2=true then (some true) else (if bt293.2=true then (some true) else (if bt297.2=true then (some true) else (if bt299.2=true then (some true) else (if (wrap64 (bt289.1-bt299.1))≤1 then (some (decide ((wrap64 (bt299.1-bt289.1))≤1))) else (some false)))))) else (some false)) else (some false)) else (some false)) else (some false)) else (some false)))) else (none)) else (none))) else (none)) else (none)) else (none))) else (none)) else (none))))=some r:=H
     have A12:=Aside0.mk A120
     clear A120
     replace H:=Option.bind_eq_some_iff.mp H
     obtain⟨⟨t286,t287⟩,A130,H⟩:=H
     replace H:(if (wrap64 ((mn (m0_5.length:Int) (l1.length:Int))+1))=0 then (none) else (if 0≤(mn (m0_5.length:Int) (l1.length:Int)) then (if (mn (m0_5.length:Int) (l1.length:Int))≤(l1.length:Int) then ((sum_Dot.f k m0_5 (l1.take ((mn (m0_5.length:Int) (l1.length:Int)):Int).toNat)).bind fun bt289=>(if 0≤(Int.tmod (Go.bits .and .i64 a2 65535) (wrap64 ((mn (m0_5.length:Int) (l1.length:Int))+1))) then (if (Int.tmod (Go.bits .and .i64 a2 65535) (wrap64 ((mn (m0_5.length:Int) (l1.length:Int))+1)))≤(m0_5.length:Int) then (if (Int.tmod (Go.bits .and .i64 a2 65535) (wrap64 ((mn (m0_5.length:Int) (l1.length:Int))+1)))≤(l1.length:Int) then ((sum_Dot.f k (m0_5.take ((Int.tmod (Go.bits .and .i64 a2 65535) (wrap64 ((mn (m0_5.length:Int) (l1.length:Int))+1))):Int).toNat) (l1.take ((Int.tmod (Go.bits .and .i64 a2 65535) (wrap64 ((mn (m0_5.length:Int) (l1.length:Int))+1))):Int).toNat)).bind fun bt293=>(if (Int.tmod (Go.bits .and .i64 a2 65535) (wrap64 ((mn (m0_5.length:Int) (l1.length:Int))+1)))≤(mn (m0_5.length:Int) (l1.length:Int)) then (if (mn (m0_5.length:Int) (l1.length:Int))≤(m0_5.length:Int) then ((sum_Dot.f k ((m0_5.take ((mn (m0_5.length:Int) (l1.length:Int)):Int).toNat).drop ((Int.tmod (Go.bits .and .i64 a2 65535) (wrap64 ((mn (m0_5.length:Int) (l1.length:Int))+1))):Int).toNat) ((l1.take ((mn (m0_5.length:Int) (l1.length:Int)):Int).toNat).drop ((Int.tmod (Go.bits .and .i64 a2 65535) (wrap64 ((mn (m0_5.length:Int) (l1.length:Int))+1))):Int).toNat)).bind fun bt297=>((fix_Add.f bt293.1 bt297.1).bind fun bt299=>(if t269=true then (if t280=t282 then (if (t281 == t283)=true then (if t284=t286 then (if (t285 == t287)=true then (if bt289.2=true then (some true) else (if bt293.2=true then (some true) else (if bt297.2=true then (some true) else (if bt299.2=true then (some true) else (if (wrap64 (bt289.1-bt299.1))≤1 then (some (decide ((wrap64 (bt299.1-bt289.1))≤1))) else (some false)))))) else (some false)) else (some false)) else (some false)) else (some false)) else (some false)))) else (none)) else (none))) else (none)) else (none)) else (none))) else (none)) else (none)))=some r:=H
     have A13:=Aside0.mk A130
     clear A130
     obtain⟨ji14,hji14⟩:∃ j_:Int,(mn (m0_5.length:Int) (l1.length:Int))=j_:=⟨_,rfl⟩
     replace H:(if (wrap64 ((ji14)+1))=0 then (none) else (if 0≤(ji14) then (if (ji14)≤(l1.length:Int) then ((sum_Dot.f k m0_5 (l1.take ((ji14):Int).toNat)).bind fun bt289=>(if 0≤(Int.tmod (Go.bits .and .i64 a2 65535) (wrap64 ((ji14)+1))) then (if (Int.tmod (Go.bits .and .i64 a2 65535) (wrap64 ((ji14)+1)))≤(m0_5.length:Int) then (if (Int.tmod (Go.bits .and .i64 a2 65535) (wrap64 ((ji14)+1)))≤(l1.length:Int) then ((sum_Dot.f k (m0_5.take ((Int.tmod (Go.bits .and .i64 a2 65535) (wrap64 ((ji14)+1))):Int).toNat) (l1.take ((Int.tmod (Go.bits .and .i64 a2 65535) (wrap64 ((ji14)+1))):Int).toNat)).bind fun bt293=>(if (Int.tmod (Go.bits .and .i64 a2 65535) (wrap64 ((ji14)+1)))≤(ji14) then (if (ji14)≤(m0_5.length:Int) then ((sum_Dot.f k ((m0_5.take ((ji14):Int).toNat).drop ((Int.tmod (Go.bits .and .i64 a2 65535) (wrap64 ((ji14)+1))):Int).toNat) ((l1.take ((ji14):Int).toNat).drop ((Int.tmod (Go.bits .and .i64 a2 65535) (wrap64 ((ji14)+1))):Int).toNat)).bind fun bt297=>((fix_Add.f bt293.1 bt297.1).bind fun bt299=>(if t269=true then (if t280=t282 then (if (t281 == t283)=true then (if t284=t286 then (if (t285 == t287)=true then (if bt289.2=true then (some true) else (if bt293.2=true then (some true) else (if bt297.2=true then (some true) else (if bt299.2=true then (some true) else (if (wrap64 (bt289.1-bt299.1))≤1 then (some (decide ((wrap64 (bt299.1-bt289.1))≤1))) else (some false)))))) else (some false)) else (some false)) else (some false)) else (some false)) else (some false)))) else (none)) else (none))) else (none)) else (none)) else (none))) else (none)) else (none)))=some r:=by first|(rw [hji14] at H;exact H)|(simp only [hji14] at H ⊢;exact H)
     (try rw [hji14] at A4)
     (try rw [hji14] at A10)
     (try rw [hji14] at A11)
     (try rw [hji14] at A12)
     (try rw [hji14] at A13)
     have hji14_:(if (l1.length:Int)<(m0_5.length:Int) then (l1.length:Int) else (m0_5.length:Int))=ji14:=hji14
     have hji14n:(if l1.length<m0_5.length then (l1.length:Int) else (m0_5.length:Int))=ji14:=by rw [←hji14_];simp only [Int.ofNat_lt]
     obtain⟨m0_5_14,hm0_5_14⟩:∃ m_:List Int,(m0_5.take ((ji14):Int).toNat)=m_:=⟨_,rfl⟩
     rw [hm0_5_14] at H
     obtain⟨m1_14,hm1_14⟩:∃ m_:List Int,(l1.take ((ji14):Int).toNat)=m_:=⟨_,rfl⟩
     rw [hm1_14] at H
     by_cases c15:(wrap64 ((ji14)+1))=0
     ·rw [if_pos c15] at H
      exact absurd H (by simp)
     ·rw [if_neg c15] at H
      have c15b0:((wrap64 ((ji14)+1)) == 0)=false:=beq_eq_false_iff_ne.mpr c15
      have c15b1:((wrap64 ((ji14)+1)) != 0)=true:=bne_iff_ne.mpr c15
      by_cases c16:0≤(ji14)
      ·rw [if_pos c16] at H
       have c16b0:=eq_true c16
       have c16b1:decide (0≤(ji14))=true:=decide_eq_true c16
       clear c16
       by_cases c17:(ji14)≤(l1.length:Int)
       ·rw [if_pos c17] at H
        have c17b0:=eq_true c17
        have c17b1:decide ((ji14)≤(l1.length:Int))=true:=decide_eq_true c17
        clear c17
        replace H:=Option.bind_eq_some_iff.mp H
        obtain⟨⟨t289,t290⟩,A180,H⟩:=H
        replace H:(if 0≤(Int.tmod (Go.bits .and .i64 a2 65535) (wrap64 ((ji14)+1))) then (if (Int.tmod (Go.bits .and .i64 a2 65535) (wrap64 ((ji14)+1)))≤(m0_5.length:Int) then (if (Int.tmod (Go.bits .and .i64 a2 65535) (wrap64 ((ji14)+1)))≤(l1.length:Int) then ((sum_Dot.f k (m0_5.take ((Int.tmod (Go.bits .and .i64 a2 65535) (wrap64 ((ji14)+1))):Int).toNat) (l1.take ((Int.tmod (Go.bits .and .i64 a2 65535) (wrap64 ((ji14)+1))):Int).toNat)).bind fun bt293=>(if (Int.tmod (Go.bits .and .i64 a2 65535) (wrap64 ((ji14)+1)))≤(ji14) then (if (ji14)≤(m0_5.length:Int) then ((sum_Dot.f k (m0_5_14.drop ((Int.tmod (Go.bits .and .i64 a2 65535) (wrap64 ((ji14)+1))):Int).toNat) (m1_14.drop ((Int.tmod (Go.bits .and .i64 a2 65535) (wrap64 ((ji14)+1))):Int).toNat)).bind fun bt297=>((fix_Add.f bt293.1 bt297.1).bind fun bt299=>(if t269=true then (if t280=t282 then (if (t281 == t283)=true then (if t284=t286 then (if (t285 == t287)=true then (if t290=true then (some true) else (if bt293.2=true then (some true) else (if bt297.2=true then (some true) else (if bt299.2=true then (some true) else (if (wrap64 (t289-bt299.1))≤1 then (some (decide ((wrap64 (bt299.1-t289))≤1))) else (some false)))))) else (some false)) else (some false)) else (some false)) else (some false)) else (some false)))) else (none)) else (none))) else (none)) else (none)) else (none))=some r:=H
        have A18:=Aside0.mk A180
        clear A180
        obtain⟨ji19,hji19⟩:∃ j_:Int,(Int.tmod (Go.bits .and .i64 a2 65535) (wrap64 ((ji14)+1)))=j_:=⟨_,rfl⟩
        replace H:(if 0≤(ji19) then (if (ji19)≤(m0_5.length:Int) then (if (ji19)≤(l1.length:Int) then ((sum_Dot.f k (m0_5.take ((ji19):Int).toNat) (l1.take ((ji19):Int).toNat)).bind fun bt293=>(if (ji19)≤(ji14) then (if (ji14)≤(m0_5.length:Int) then ((sum_Dot.f k (m0_5_14.drop ((ji19):Int).toNat) (m1_14.drop ((ji19):Int).toNat)).bind fun bt297=>((fix_Add.f bt293.1 bt297.1).bind fun bt299=>(if t269=true then (if t280=t282 then (if (t281 == t283)=true then (if t284=t286 then (if (t285 == t287)=true then (if t290=true then (some true) else (if bt293.2=true then (some true) else (if bt297.2=true then (some true) else (if bt299.2=true then (some true) else (if (wrap64 (t289-bt299.1))≤1 then (some (decide ((wrap64 (bt299.1-t289))≤1))) else (some false)))))) else (some false)) else (some false)) else (some false)) else (some false)) else (some false)))) else (none)) else (none))) else (none)) else (none)) else (none))=some r:=by first|(rw [hji19] at H;exact H)|(simp only [hji19] at H ⊢;exact H)
        obtain⟨m1_19,hm1_19⟩:∃ m_:List Int,(l1.take ((ji19):Int).toNat)=m_:=⟨_,rfl⟩
        rw [hm1_19] at H
        obtain⟨m0_5_19,hm0_5_19⟩:∃ m_:List Int,(m0_5.take ((ji19):Int).toNat)=m_:=⟨_,rfl⟩
        rw [hm0_5_19] at H
        (try rw [hji19] at A4)
        (try rw [hji19] at A10)
        (try rw [hji19] at A11)
        (try rw [hji19] at A12)
        (try rw [hji19] at A13)
        (try rw [hji19] at A18)
        by_cases c20:0≤(ji19)
        ·rw [if_pos c20] at H
         have c20b0:=eq_true c20
         have c20b1:decide (0≤(ji19))=true:=decide_eq_true c20
         clear c20
         by_cases c21:(ji19)≤(m0_5.length:Int)
         ·rw [if_pos c21] at H
          have c21b0:=eq_true c21
          have c21b1:decide ((ji19)≤(m0_5.length:Int))=true:=decide_eq_true c21
          clear c21
          have c22b0:=eq_true (of_decide_eq_true (by first|(with_reducible assumption)|assumption):0≤(ji19))
          by_cases c23:(ji19)≤(l1.length:Int)
          ·rw [if_pos c23] at H
           have c23b0:=eq_true c23
           have c23b1:decide ((ji19)≤(l1.length:Int))=true:=decide_eq_true c23
           clear c23
           replace H:=Option.bind_eq_some_iff.mp H
           obtain⟨⟨t293,t294⟩,A240,H⟩:=H
           replace H:(if (ji19)≤(ji14) then (if (ji14)≤(m0_5.length:Int) then ((sum_Dot.f k (m0_5_14.drop ((ji19):Int).toNat) (m1_14.drop ((ji19):Int).toNat)).bind fun bt297=>((fix_Add.f t293 bt297.1).bind fun bt299=>(if t269=true then (if t280=t282 then (if (t281 == t283)=true then (if t284=t286 then (if (t285 == t287)=true then (if t290=true then (some true) else (if t294=true then (some true) else (if bt297.2=true then (some true) else (if bt299.2=true then (some true) else (if (wrap64 (t289-bt299.1))≤1 then (some (decide ((wrap64 (bt299.1-t289))≤1))) else (some false)))))) else (some false)) else (some false)) else (some false)) else (some false)) else (some false)))) else (none)) else (none))=some r:=H
           have A24:=Aside0.mk A240
           clear A240
           have c25b0:=eq_true (of_decide_eq_true (by first|(with_reducible assumption)|assumption):0≤(ji19))
           by_cases c26:(ji19)≤(ji14)
           ·rw [if_pos c26] at H
            have c26b0:=eq_true c26
            have c26b1:decide ((ji19)≤(ji14))=true:=decide_eq_true c26
            clear c26
            by_cases c27:(ji14)≤(m0_5.length:Int)
            ·rw [if_pos c27] at H
             have c27b0:=eq_true c27
             have c27b1:decide ((ji14)≤(m0_5.length:Int))=true:=decide_eq_true c27
             clear c27
             have c28b0:=eq_true (of_decide_eq_true (by first|(with_reducible assumption)|assumption):0≤(ji19))
             have c29b0:=eq_true (of_decide_eq_true (by first|(with_reducible assumption)|assumption):(ji19)≤(ji14))
             have c30b0:=eq_true (of_decide_eq_true (by first|(with_reducible assumption)|assumption):(ji14)≤(l1.length:Int))
             replace H:=Option.bind_eq_some_iff.mp H
             obtain⟨⟨t297,t298⟩,A310,H⟩:=H
             replace H:((fix_Add.f t293 t297).bind fun bt299=>(if t269=true then (if t280=t282 then (if (t281 == t283)=true then (if t284=t286 then (if (t285 == t287)=true then (if t290=true then (some true) else (if t294=true then (some true) else (if t298=true then (some true) else (if bt299.2=true then (some true) else (if (wrap64 (t289-bt299.1))≤1 then (some (decide ((wrap64 (bt299.1-t289))≤1))) else (some false)))))) else (some false)) else (some false)) else (some false)) else (some false)) else (some false)))=some r:=H
             have A31:=Aside0.mk A310
             clear A310
             replace H:=Option.bind_eq_some_iff.mp H
             obtain⟨⟨t299,t300⟩,A320,H⟩:=H
             replace H:(if t269=true then (if t280=t282 then (if (t281 == t283)=true then (if t284=t286 then (if (t285 == t287)=true then (if t290=true then (some true) else (if t294=true then (some true) else (if t298=true then (some true) else (if t300=true then (some true) else (if (wrap64 (t289-t299))≤1 then (some (decide ((wrap64 (t299-t289))≤1))) else (some false)))))) else (some false)) else (some false)) else (some false)) else (some false)) else (some false))=some r:=H
             have A32:=Aside0.mk A320
             clear A320
             by_cases c33:t269=true
             ·subst c33
              have H1:(if t280=t282 then (if (t281 == t283)=true then (if t284=t286 then (if (t285 == t287)=true then (if t290=true then (some true) else (if t294=true then (some true) else (if t298=true then (some true) else (if t300=true then (some true) else (if (wrap64 (t289-t299))≤1 then (some (decide ((wrap64 (t299-t289))≤1))) else (some false)))))) else (some false)) else (some false)) else (some false)) else (some false))=some r:=by rw [if_pos rfl] at H;exact H
              clear H
              have H:=H1
              clear H1
              by_cases c34:t280=t282
              ·rw [if_pos c34] at H
               have c34b0:(t280 == t282)=true:=beq_iff_eq.mpr c34
               have c34b1:(t280 != t282)=false:=bne_eq_false_iff_eq.mpr c34
               clear c34
               by_cases c35:(t281 == t283)=true
               ·rw [if_pos c35] at H
                have c35b0:(t281 == t283)=true:=c35
                (try (have c35b1:decide (t281=t283)=true:=by simpa using c35))
                (try (have c35b2:(t281 == t283)=true:=by simpa using c35))
                clear c35
                by_cases c36:t284=t286
                ·rw [if_pos c36] at H
                 have c36b0:(t284 == t286)=true:=beq_iff_eq.mpr c36
                 have c36b1:(t284 != t286)=false:=bne_eq_false_iff_eq.mpr c36
                 clear c36
                 by_cases c37:(t285 == t287)=true
                 ·rw [if_pos c37] at H
                  have c37b0:(t285 == t287)=true:=c37
                  (try (have c37b1:decide (t285=t287)=true:=by simpa using c37))
                  (try (have c37b2:(t285 == t287)=true:=by simpa using c37))
                  clear c37
                  by_cases c38:t290=true
                  ·subst c38
                   have H1:(some true)=some r:=by rw [if_pos rfl] at H;exact H
                   clear H
                   have H:=H1
                   clear H1
                   clear hr
                   obtain rfl:=Option.some.inj H
                   go_enter Try.func6,Try.ntmps6
                   try go_wp2_with (first|((with_reducible refine gate_callee (f:=8) rfl ?_);refine goesL_ (some 28) rfl rfl Try.func8 (by kernel_rfl) rfl #[] rfl (by (try simp only [List.map_toArray,List.map_cons,List.map_nil]);first|done|rfl|(simp only [List.length_drop,List.length_take];rfl)) ?_;(with_reducible refine(outriggerlaw06_awake.calls k  true _ A4.out).mono ?_);rintro e w39 ⟨rfl,hb⟩;refine⟨_,rfl,?_⟩;have n0_:=Aside0.mk (below_step (by repeat (first|(with_reducible first|exact HB.out|apply below_alloc|apply pw_below_drewN|apply below_drew1)|exact HB.out)) hb);clear HB;have HB:=n0_;clear n0_;(try clear hb);(try clear hb2);(try clear hk);(try clear hi);obtain⟨i040,hi040,_,hsz40,_⟩:=info_parts info3;obtain⟨hcut40,hA40,hC40⟩:=print_take_of (P:=Try.prog) (Value.int .i64) 0 22 3 .i64 Try.underlying22 hi040 hsz40 A0 c0 l0 (ji5) (of_decide_eq_true (by first|(with_reducible assumption)|assumption)) (of_decide_eq_true (by first|(with_reducible assumption)|assumption)) HC0.out;rw [hm0_5] at hA40 hC40;simp only [hm0_5] at hcut40;have HR270:=Aside0.mk (Kd.C_of_reads (h1:=fun _=>rfl) (hA40 _ (Kd.reads_of_C HR0.out)));have HC270:=Aside0.mk hC40;clear hA40 hC40 hi040 hsz40)|((with_reducible refine gate_dst (N:=34) rfl ?_);refine Kd.R_lit (Kd.int .i64) _ 3 ?hg (N:=34) ?hd (xs:=([]:List Int)) (inner:=[]) (ok:=fun _=>True) (okp:=fun _=>True) ?hr ?hp (fun _ hk=>hk) trivial (Below.refl _ _) (Nat.le_refl _) (by simp) ?_;(case hd=>rfl);(case hg=>rfl);(case hr=>first|(go_simp;done)|(go_simp;rfl));(case hp=>exact(Reps.none _ _));intro v272 w41 ho42 hb hg_ hnew_;clear hg_ hnew_;(first|rw [←Ny271.out] at ho42|(simp only [Int.reduceToNat] at ho42;rw [←Ny271.out] at ho42));have n0_:=Aside0.mk (Kd.R_lower ho42 (below_size (by repeat (first|(with_reducible first|exact HB.out|apply below_alloc|apply pw_below_drewN|apply below_drew1)|exact HB.out))));have n1_:=Aside0.mk (below_step (by repeat (first|(with_reducible first|exact HB.out|apply below_alloc|apply pw_below_drewN|apply below_drew1)|exact HB.out)) hb);clear HB;have HO273:=n0_;have HB:=n1_;clear n0_ n1_;clear hb ho42)|((with_reducible refine gate_builtin (b:=.append) (xs:=#[.tmp 34,.tmp 35]) rfl ?_);at_builtin;refine Kd.R_append_rows (Kd.int .i64) (w0:=w) w.heap.size rfl (.tmp 34) (.tmp 35) 22 3 (.int .i64 0) 8 rfl Try.underlying22 info3 rfl (by decide) (by omega) v272 y271 m0_5 _ _ _ (fun _=>True) (fun _=>False) rfl rfl ?aO ?aR (fun _ _ h=>h) (fun _ h=>h.elim) ?aF ?aB ?aS ?aL ?_;(case aR=>first|(rw [←show m0_5.length=(ji5).toNat from (by rw [←hm0_5,List.length_take];have h_:((ji5):Int)≤(l0.length:Int):=of_decide_eq_true (by first|(with_reducible assumption)|assumption);omega)];repeat (first|exact(Kd.C_below HR270.out HB.out)|(with_reducible refine Kd.C_alloc ?_ _)|(with_reducible refine Kd.C_drewN ?_ _)|(with_reducible refine Kd.C_drew ?_)))|(repeat (first|exact(Kd.C_below HR270.out HB.out)|(with_reducible refine Kd.C_alloc ?_ _)|(with_reducible refine Kd.C_drewN ?_ _)|(with_reducible refine Kd.C_drew ?_))));(case aB=>exact(by repeat (first|(with_reducible first|exact HB.out|apply below_alloc|apply pw_below_drewN|apply below_drew1)|exact HB.out)));(case aF=>exact(fun _ _=>trivial));(case aO=>exact(by (with_reducible repeat (first|apply Kd.R_alloc|apply Kd.R_drewN|apply Kd.R_drew));exact HO273.out));(case aS=>exact(below_size (by repeat (first|(with_reducible first|exact HB.out|apply below_alloc|apply pw_below_drewN|apply below_drew1)|exact HB.out))));(case aL=>have:=LMc8.out;have hlx_:=(show m0_5.length=(ji5).toNat from (by rw [←hm0_5,List.length_take];have h_:((ji5):Int)≤(l0.length:Int):=of_decide_eq_true (by first|(with_reducible assumption)|assumption);omega));omega);intro v275 w43 ho hb hg hat;rw [←Ny274.out] at ho;have n0_:=Aside0.mk (hb);have n1_:=Aside0.mk (ho);clear HB;clear HO273;have HB:=n0_;have HO276:=n1_;clear n0_ n1_;clear ho hb hg hat)|((with_reducible refine gate_builtin (b:=.append) (xs:=#[.tmp 37,.tmp 38]) rfl ?_);at_builtin;refine Kd.R_append (Kd.int .i64) (w0:=w) w.heap.size rfl (.tmp 37) (.tmp 38) 22 3 (.int .i64 0) 8 rfl Try.underlying22 info3 rfl (by decide) (by omega) v275 y274 0 [.int .i64 0] (fun _=>True) (fun _=>False) rfl rfl ?aP (fun _ hk=>hk.elim) ?aF ?aO ?aB ?aS ?aL ?_;(case aP=>exact rfl);(case aB=>exact(by repeat (first|(with_reducible first|exact HB.out|apply below_alloc|apply pw_below_drewN|apply below_drew1)|exact HB.out)));(case aF=>exact(fun _ _=>trivial));(case aO=>exact(by (with_reducible repeat (first|apply Kd.R_alloc|apply Kd.R_drewN|apply Kd.R_drew));exact HO276.out));(case aS=>exact(below_size (by repeat (first|(with_reducible first|exact HB.out|apply below_alloc|apply pw_below_drewN|apply below_drew1)|exact HB.out))));(case aL=>have:=LMc9.out;omega);intro v278 w44 ho hb hg hat;rw [←Ny277.out] at ho;have n0_:=Aside0.mk (hb);have n1_:=Aside0.mk (ho);clear HB;clear HO276;have HB:=n0_;have HO279:=n1_;clear n0_ n1_;clear ho hb hg hat)|((with_reducible refine gate_callee (f:=9) rfl ?_);refine goesL_ (some 42) rfl rfl Try.func9 (by kernel_rfl) rfl #[.slice A0 m0_5.length c0] rfl (by (try simp only [List.map_toArray,List.map_cons,List.map_nil]);first|done|(rw [show m0_5.length=(ji5).toNat from (by rw [←hm0_5,List.length_take];have h_:((ji5):Int)≤(l0.length:Int):=of_decide_eq_true (by first|(with_reducible assumption)|assumption);omega)]<;>rfl)|(simp only [hji5];rfl)|rfl|(simp only [List.length_drop,List.length_take];rfl)) ?_;(with_reducible refine(sum_Total.calls k _ _ m0_5 t280 t281 _ ?side1 ?side2 A10.out).mono ?_);(case side1=>repeat (first|exact(Kd.C_below HR270.out HB.out)|(with_reducible refine Kd.C_alloc ?_ _)|(with_reducible refine Kd.C_drewN ?_ _)|(with_reducible refine Kd.C_drew ?_)));(case side2=>exact HC270.out);rintro e w45 ⟨rfl,hb⟩;refine⟨_,rfl,?_⟩;have n0_:=Aside0.mk (Kd.R_below (by (with_reducible repeat (first|apply Kd.R_alloc|apply Kd.R_drewN|apply Kd.R_drew));exact HO279.out) hb);have n1_:=Aside0.mk (below_step (by repeat (first|(with_reducible first|exact HB.out|apply below_alloc|apply pw_below_drewN|apply below_drew1)|exact HB.out)) hb);clear HO279;clear HB;have HO279:=n0_;have HB:=n1_;clear n0_ n1_;(try clear hb);(try clear hb2);(try clear hk);(try clear hi);obtain⟨Ao46,co46,eo46⟩:=Kd.R_slice HO279.out;subst eo46)|((with_reducible refine gate_callee (f:=9) rfl ?_);refine goesL_ (some 47) rfl rfl Try.func9 (by kernel_rfl) rfl #[.slice Ao46 y277.length co46] rfl (by (try simp only [List.map_toArray,List.map_cons,List.map_nil]);first|done|rfl|(simp only [List.length_drop,List.length_take];rfl)) ?_;(with_reducible refine(sum_Total.calls k _ _ y277 t282 t283 _ ?side1 ?side2 A11.out).mono ?_);(case side1=>repeat (first|exact(Kd.R_reads' HO279.out).2.2|(with_reducible refine Kd.C_alloc ?_ _)|(with_reducible refine Kd.C_drewN ?_ _)|(with_reducible refine Kd.C_drew ?_)));(case side2=>exact(Kd.R_reads' HO279.out).2.1);rintro e w47 ⟨rfl,hb⟩;refine⟨_,rfl,?_⟩;have n0_:=Aside0.mk (Kd.R_below (by (with_reducible repeat (first|apply Kd.R_alloc|apply Kd.R_drewN|apply Kd.R_drew));exact HO279.out) hb);have n1_:=Aside0.mk (below_step (by repeat (first|(with_reducible first|exact HB.out|apply below_alloc|apply pw_below_drewN|apply below_drew1)|exact HB.out)) hb);clear HO279;clear HB;have HO279:=n0_;have HB:=n1_;clear n0_ n1_;(try clear hb);(try clear hb2);(try clear hk);(try clear hi))|((with_reducible refine gate_callee (f:=15) rfl ?_);refine goesL_ (some 52) rfl rfl Try.func15 (by kernel_rfl) rfl #[.slice A0 m0_5.length c0] rfl (by (try simp only [List.map_toArray,List.map_cons,List.map_nil]);first|done|(rw [show m0_5.length=(ji5).toNat from (by rw [←hm0_5,List.length_take];have h_:((ji5):Int)≤(l0.length:Int):=of_decide_eq_true (by first|(with_reducible assumption)|assumption);omega)]<;>rfl)|(simp only [hji5];rfl)|rfl|(simp only [List.length_drop,List.length_take];rfl)) ?_;(with_reducible refine(sum_Norm.calls k _ _ m0_5 t284 t285 _ ?side1 ?side2 A12.out).mono ?_);(case side1=>repeat (first|exact(Kd.C_below HR270.out HB.out)|(with_reducible refine Kd.C_alloc ?_ _)|(with_reducible refine Kd.C_drewN ?_ _)|(with_reducible refine Kd.C_drew ?_)));(case side2=>exact HC270.out);rintro e w48 ⟨rfl,hb⟩;refine⟨_,rfl,?_⟩;have n0_:=Aside0.mk (Kd.R_below (by (with_reducible repeat (first|apply Kd.R_alloc|apply Kd.R_drewN|apply Kd.R_drew));exact HO279.out) hb);have n1_:=Aside0.mk (below_step (by repeat (first|(with_reducible first|exact HB.out|apply below_alloc|apply pw_below_drewN|apply below_drew1)|exact HB.out)) hb);clear HO279;clear HB;have HO279:=n0_;have HB:=n1_;clear n0_ n1_;(try clear hb);(try clear hb2);(try clear hk);(try clear hi))|((with_reducible refine gate_callee (f:=15) rfl ?_);refine goesL_ (some 57) rfl rfl Try.func15 (by kernel_rfl) rfl #[.slice Ao46 y277.length co46] rfl (by (try simp only [List.map_toArray,List.map_cons,List.map_nil]);first|done|rfl|(simp only [List.length_drop,List.length_take];rfl)) ?_;(with_reducible refine(sum_Norm.calls k _ _ y277 t286 t287 _ ?side1 ?side2 A13.out).mono ?_);(case side1=>repeat (first|exact(Kd.R_reads' HO279.out).2.2|(with_reducible refine Kd.C_alloc ?_ _)|(with_reducible refine Kd.C_drewN ?_ _)|(with_reducible refine Kd.C_drew ?_)));(case side2=>exact(Kd.R_reads' HO279.out).2.1);rintro e w49 ⟨rfl,hb⟩;refine⟨_,rfl,?_⟩;have n0_:=Aside0.mk (Kd.R_below (by (with_reducible repeat (first|apply Kd.R_alloc|apply Kd.R_drewN|apply Kd.R_drew));exact HO279.out) hb);have n1_:=Aside0.mk (below_step (by repeat (first|(with_reducible first|exact HB.out|apply below_alloc|apply pw_below_drewN|apply below_drew1)|exact HB.out)) hb);clear HO279;clear HB;have HO279:=n0_;have HB:=n1_;clear n0_ n1_;(try clear hb);(try clear hb2);(try clear hk);(try clear hi);obtain⟨i050,hi050,_,hsz50,_⟩:=info_parts info3;obtain⟨hcut50,hA50,hC50⟩:=print_take_of (P:=Try.prog) (Value.int .i64) 0 22 3 .i64 Try.underlying22 hi050 hsz50 A1 c1 l1 (ji14) (of_decide_eq_true (by first|(with_reducible assumption)|assumption)) (of_decide_eq_true (by first|(with_reducible assumption)|assumption)) HC1.out;rw [hm1_14] at hA50 hC50;simp only [hm1_14] at hcut50;have HR288:=Aside0.mk (Kd.C_of_reads (h1:=fun _=>rfl) (hA50 _ (Kd.reads_of_C HR1.out)));have HC288:=Aside0.mk hC50;clear hA50 hC50 hi050 hsz50)|((with_reducible refine gate_callee (f:=13) rfl ?_);refine goesL_ (some 75) rfl rfl Try.func13 (by kernel_rfl) rfl #[.slice A0 m0_5.length c0,.slice A1 m1_14.length c1] rfl (by (try simp only [List.map_toArray,List.map_cons,List.map_nil]);first|done|(rw [show m0_5.length=(ji5).toNat from (by rw [←hm0_5,List.length_take];have h_:((ji5):Int)≤(l0.length:Int):=of_decide_eq_true (by first|(with_reducible assumption)|assumption);omega)]<;>rfl)|(rw [show m1_14.length=(ji14).toNat from (by rw [←hm1_14,List.length_take];have h_:((ji14):Int)≤(l1.length:Int):=of_decide_eq_true (by first|(with_reducible assumption)|assumption);omega)]<;>rfl)|(simp only [hji14,hji5];rfl)|rfl|(simp only [List.length_drop,List.length_take];rfl)) ?_;(with_reducible refine(sum_Dot.calls k _ _ m0_5 _ _ m1_14 t289 true _ ?side1 ?side2 ?side3 ?side4 A18.out).mono ?_);(case side1=>repeat (first|exact(Kd.C_below HR270.out HB.out)|(with_reducible refine Kd.C_alloc ?_ _)|(with_reducible refine Kd.C_drewN ?_ _)|(with_reducible refine Kd.C_drew ?_)));(case side2=>exact HC270.out);(case side3=>repeat (first|exact(Kd.C_below HR288.out HB.out)|(with_reducible refine Kd.C_alloc ?_ _)|(with_reducible refine Kd.C_drewN ?_ _)|(with_reducible refine Kd.C_drew ?_)));(case side4=>exact HC288.out);rintro e w51 ⟨rfl,hb⟩;refine⟨_,rfl,?_⟩;have n0_:=Aside0.mk (Kd.R_below (by (with_reducible repeat (first|apply Kd.R_alloc|apply Kd.R_drewN|apply Kd.R_drew));exact HO279.out) hb);have n1_:=Aside0.mk (below_step (by repeat (first|(with_reducible first|exact HB.out|apply below_alloc|apply pw_below_drewN|apply below_drew1)|exact HB.out)) hb);clear HO279;clear HB;have HO279:=n0_;have HB:=n1_;clear n0_ n1_;(try clear hb);(try clear hb2);(try clear hk);(try clear hi)))
                   have n0_:=Aside0.mk (Kd.R_drew HO279.out)
                   have n1_:=Aside0.mk (below_drew1 HB.out)
                   clear HO279
                   clear HB
                   have HO279:=n0_
                   have HB:=n1_
                   clear n0_ n1_
                   obtain⟨i053,hi053,_,hsz53,_⟩:=info_parts info3
                   obtain⟨hcut53,hA53,hC53⟩:=print_take_of (P:=Try.prog) (Value.int .i64) 0 22 3 .i64 Try.underlying22 hi053 hsz53 A0 c0 m0_5 (ji19) (of_decide_eq_true (by first|(with_reducible assumption)|assumption)) (of_decide_eq_true (by first|(with_reducible assumption)|assumption)) HC270.out;rw [hm0_5_19] at hA53 hC53;simp only [hm0_5_19] at hcut53
                   have HR291:=Aside0.mk (Kd.C_of_reads (h1:=fun _=>rfl) (hA53 _ (Kd.reads_of_C HR270.out)))
                   have HC291:=Aside0.mk hC53
                   clear hA53 hC53 hi053 hsz53
                   obtain⟨i054,hi054,_,hsz54,_⟩:=info_parts info3
                   obtain⟨hcut54,hA54,hC54⟩:=print_take_of (P:=Try.prog) (Value.int .i64) 0 22 3 .i64 Try.underlying22 hi054 hsz54 A1 c1 l1 (ji19) (of_decide_eq_true (by first|(with_reducible assumption)|assumption)) (of_decide_eq_true (by first|(with_reducible assumption)|assumption)) HC1.out;rw [hm1_19] at hA54 hC54;simp only [hm1_19] at hcut54
                   have HR292:=Aside0.mk (Kd.C_of_reads (h1:=fun _=>rfl) (hA54 _ (Kd.reads_of_C HR1.out)))
                   have HC292:=Aside0.mk hC54
                   clear hA54 hC54 hi054 hsz54
                   refine start_ (n:=12) (S:=fun w'=>True) (ds:=[]) #[false,false,false,false,false,false,false,false,false,false,false,false] (by kernel_rfl) rfl rfl trivial (fun hHeld=>?_);refine with_tabW outriggerlaw06_SumZero.tab12 outriggerlaw06_SumZero.bits12 (fun HT_ HW_=>?_)
                   generalize w51.drew=w52 at HO279 HB HR291 HR292 hHeld ⊢
                   refine pure_ (i:=0) (N:=some 79) (v:=?_) (a':=?_) #[true,false,false,false,false,false,false,false,false,false,false,false] rfl rfl (any_of HT_.out (by kernel_rfl)) (fun _ _ _ h=>h) (Or.inl ⟨by rfl,?_⟩) ?_ ?_
                   rotate_left
                   ·intro w'
                    go_simp
                    with_reducible rfl
                   rotate_left
                   ·simp only [Act.put,List.setIfInBounds_toArray,List.set_cons_zero,List.set_cons_succ,i64_w,i32_w]
                    rfl
                   refine pure_ (i:=1) (N:=some 80) (v:=?_) (a':=?_) #[true,true,false,false,false,false,false,false,false,false,false,false] rfl rfl (any_of HT_.out (by kernel_rfl)) (fun _ _ _ h=>h) (Or.inl ⟨by rfl,?_⟩) ?_ ?_
                   rotate_left
                   ·intro w'
                    go_simp
                    with_reducible rfl
                   rotate_left
                   ·simp only [Act.put,List.setIfInBounds_toArray,List.set_cons_zero,List.set_cons_succ,i64_w,i32_w]
                    rfl
                   refine pure_ (i:=2) (N:=some 81) (v:=?_) (a':=?_) #[true,true,true,false,false,false,false,false,false,false,false,false] rfl rfl (any_of HT_.out (by kernel_rfl)) (fun _ _ _ h=>h) (Or.inl ⟨by rfl,?_⟩) ?_ ?_
                   rotate_left
                   ·intro w'
                    go_simp
                    with_reducible rfl
                   rotate_left
                   ·simp only [Act.put,List.setIfInBounds_toArray,List.set_cons_zero,List.set_cons_succ,i64_w,i32_w]
                    rfl
                   refine pure_ (i:=3) (N:=some 82) (v:=?_) (a':=?_) #[true,true,true,true,false,false,false,false,false,false,false,false] rfl rfl (any_of HT_.out (by kernel_rfl)) (fun _ _ _ h=>h) (Or.inl ⟨by rfl,?_⟩) ?_ ?_
                   rotate_left
                   ·intro w'
                    go_simp
                    with_reducible rfl
                   rotate_left
                   ·simp only [Act.put,List.setIfInBounds_toArray,List.set_cons_zero,List.set_cons_succ,i64_w,i32_w]
                    rfl
                   refine pure_ (i:=4) (N:=some 83) (v:=?_) (a':=?_) #[true,true,true,true,true,false,false,false,false,false,false,false] rfl rfl (any_of HT_.out (by kernel_rfl)) (fun _ _ _ h=>h) (Or.inl ⟨by rfl,?_⟩) ?_ ?_
                   rotate_left
                   ·intro w'
                    go_simp
                    with_reducible rfl
                   rotate_left
                   ·simp only [Act.put,List.setIfInBounds_toArray,List.set_cons_zero,List.set_cons_succ,i64_w,i32_w]
                    rfl
                   refine pure_ (i:=5) (N:=some 84) (v:=?_) (a':=?_) #[true,true,true,true,true,true,false,false,false,false,false,false] rfl rfl (any_of HT_.out (by kernel_rfl)) (fun _ _ _ h=>h) (Or.inl ⟨by rfl,?_⟩) ?_ ?_
                   rotate_left
                   ·intro w'
                    go_simp
                    with_reducible rfl
                   rotate_left
                   ·simp only [Act.put,List.setIfInBounds_toArray,List.set_cons_zero,List.set_cons_succ,i64_w,i32_w]
                    rfl
                   refine one_ (i:=6) (N:=some 85) #[true,true,true,true,true,true,true,false,false,false,false,false] rfl rfl (one_of HT_.out (by kernel_rfl)) (by decide) (fun K hK=>?_)
                   refine goes_ Try.func13 (by kernel_rfl) rfl #[.slice A0 m0_5_19.length c0,.slice A1 m1_19.length c1] (by rfl) rfl rfl (by (try simp only [List.map_toArray,List.map_cons,List.map_nil]);first|done|(rw [show m0_5_19.length=(ji19).toNat from (by rw [←hm0_5_19,List.length_take];have h_:((ji19):Int)≤(m0_5.length:Int):=of_decide_eq_true (by first|(with_reducible assumption)|assumption);omega)]<;>rfl)|(rw [show m1_19.length=(ji19).toNat from (by rw [←hm1_19,List.length_take];have h_:((ji19):Int)≤(l1.length:Int):=of_decide_eq_true (by first|(with_reducible assumption)|assumption);omega)]<;>rfl)|(simp only [hji19,hji5];rfl)|rfl|(simp only [List.length_drop,List.length_take];rfl)) ?_
                   with_reducible refine(sum_Dot.calls k _ _ m0_5_19 _ _ m1_19 t293 t294 _ ?side1 ?side2 ?side3 ?side4 A24.out).mono ?_
                   (case side1=>repeat (first|exact(Kd.C_below HR291.out HB.out)|(with_reducible refine Kd.C_alloc ?_ _)|(with_reducible refine Kd.C_drewN ?_ _)|(with_reducible refine Kd.C_drew ?_)))
                   (case side2=>exact HC291.out)
                   (case side3=>repeat (first|exact(Kd.C_below HR292.out HB.out)|(with_reducible refine Kd.C_alloc ?_ _)|(with_reducible refine Kd.C_drewN ?_ _)|(with_reducible refine Kd.C_drew ?_)))
                   (case side4=>exact HC292.out)
                   rintro e w55 ⟨rfl,hb⟩
                   refine⟨_,rfl,?_⟩
                   have n0_:=Aside0.mk (Kd.R_below (by (with_reducible repeat (first|apply Kd.R_alloc|apply Kd.R_drewN|apply Kd.R_drew));exact HO279.out) hb)
                   have n1_:=Aside0.mk (below_step (by repeat (first|(with_reducible first|exact HB.out|apply below_alloc|apply pw_below_drewN|apply below_drew1)|exact HB.out)) hb)
                   clear HO279
                   clear HB
                   have HO279:=n0_
                   have HB:=n1_
                   clear n0_ n1_
                   (try clear hb)
                   (try clear hb2)
                   (try clear hk)
                   (try clear hi)
                   refine hK.out _ _ trivial (fun hHeld=>?_)
                   clear hK K
                   refine norm_ (a':=?_) ?_ ?_
                   rotate_left
                   ·show Act.put _ (some 85) _=_
                    simp only [Act.put,List.setIfInBounds_toArray,List.set_cons_zero,List.set_cons_succ,i64_w,i32_w]
                    rfl
                   refine pure_ (i:=7) (N:=some 78) (v:=?_) (a':=?_) #[true,true,true,true,true,true,true,true,false,false,false,false] rfl rfl (any_of HT_.out (by kernel_rfl)) (fun _ _ _ h=>h) (Or.inl ⟨by rfl,?_⟩) ?_ ?_
                   rotate_left
                   ·intro w'
                    go_simp
                    with_reducible rfl
                   rotate_left
                   ·simp only [Act.put,List.setIfInBounds_toArray,List.set_cons_zero,List.set_cons_succ,i64_w,i32_w]
                    rfl
                   refine pure_ (i:=8) (N:=some 86) (v:=?_) (a':=?_) #[true,true,true,true,true,true,true,true,true,false,false,false] rfl rfl (any_of HT_.out (by kernel_rfl)) (fun _ _ _ h=>h) (Or.inl ⟨by rfl,?_⟩) ?_ ?_
                   rotate_left
                   ·intro w'
                    go_simp
                    with_reducible rfl
                   rotate_left
                   ·simp only [Act.put,List.setIfInBounds_toArray,List.set_cons_zero,List.set_cons_succ,i64_w,i32_w]
                    rfl
                   refine pure_ (i:=9) (N:=some 87) (v:=?_) (a':=?_) #[true,true,true,true,true,true,true,true,true,true,false,false] rfl rfl (any_of HT_.out (by kernel_rfl)) (fun _ _ _ h=>h) (Or.inl ⟨by rfl,?_⟩) ?_ ?_
                   rotate_left
                   ·intro w'
                    go_simp
                    with_reducible rfl
                   rotate_left
                   ·simp only [Act.put,List.setIfInBounds_toArray,List.set_cons_zero,List.set_cons_succ,i64_w,i32_w]
                    rfl
                   refine pure_ (i:=10) (N:=some 22) (v:=?_) (a':=?_) #[true,true,true,true,true,true,true,true,true,true,true,false] rfl rfl (any_of HT_.out (by kernel_rfl)) (fun _ _ _ h=>h) (Or.inl ⟨by rfl,?_⟩) ?_ ?_
                   rotate_left
                   ·intro w'
                    go_simp
                    with_reducible rfl
                   rotate_left
                   ·simp only [Act.put,List.setIfInBounds_toArray,List.set_cons_zero,List.set_cons_succ,i64_w,i32_w]
                    rfl
                   refine pure_ (i:=11) (N:=some 23) (v:=?_) (a':=?_) #[true,true,true,true,true,true,true,true,true,true,true,true] rfl rfl (any_of HT_.out (by kernel_rfl)) (fun _ _ _ h=>h) (Or.inl ⟨by rfl,?_⟩) ?_ ?_
                   rotate_left
                   ·intro w'
                    go_simp
                    with_reducible rfl
                   rotate_left
                   ·simp only [Act.put,List.setIfInBounds_toArray,List.set_cons_zero,List.set_cons_succ,i64_w,i32_w]
                    rfl
                   refine done_ (done_of HT_.out (by kernel_rfl)) ?_
                   try go_wp2
                   have n0_:=Aside0.mk (Kd.R_drew HO279.out)
                   have n1_:=Aside0.mk (below_drew1 HB.out)
                   clear HO279
                   clear HB
                   have HO279:=n0_
                   have HB:=n1_
                   clear n0_ n1_
                   obtain⟨i057,hi057,_,hsz57,_⟩:=info_parts info3
                   obtain⟨A57,hcut57,hA57,hC57⟩:=print_mid_of (P:=Try.prog) (Value.int .i64) 0 22 3 .i64 .i64 Try.underlying22 hi057 hsz57 A0 c0 m0_5 (ji19) (ji14) (of_decide_eq_true (by first|(with_reducible assumption)|assumption)) (by first|omega|exact of_decide_eq_true (by first|(with_reducible assumption)|assumption)) (of_decide_eq_true (by first|(with_reducible assumption)|assumption)) HC270.out
                   rw [hm0_5_14] at hA57 hC57
                   try simp only [hm0_5_14] at hcut57
                   have HR295:=Aside0.mk (Kd.C_of_reads (h1:=fun _=>rfl) (hA57 _ (Kd.reads_of_C HR270.out)))
                   have HC295:=Aside0.mk hC57
                   clear hA57 hC57 hi057 hsz57
                   obtain⟨i058,hi058,_,hsz58,_⟩:=info_parts info3
                   obtain⟨A58,hcut58,hA58,hC58⟩:=print_mid_of (P:=Try.prog) (Value.int .i64) 0 22 3 .i64 .i64 Try.underlying22 hi058 hsz58 A1 c1 l1 (ji19) (ji14) (of_decide_eq_true (by first|(with_reducible assumption)|assumption)) (by first|omega|exact of_decide_eq_true (by first|(with_reducible assumption)|assumption)) (of_decide_eq_true (by first|(with_reducible assumption)|assumption)) HC1.out
                   rw [hm1_14] at hA58 hC58
                   try simp only [hm1_14] at hcut58
                   have HR296:=Aside0.mk (Kd.C_of_reads (h1:=fun _=>rfl) (hA58 _ (Kd.reads_of_C HR1.out)))
                   have HC296:=Aside0.mk hC58
                   clear hA58 hC58 hi058 hsz58
                   refine start_ (n:=14) (S:=fun w'=>True) (ds:=[]) #[false,false,false,false,false,false,false,false,false,false,false,false,false,false] (by kernel_rfl) rfl rfl trivial (fun hHeld=>?_);refine with_tabW outriggerlaw06_SumZero.tab13 outriggerlaw06_SumZero.bits13 (fun HT_ HW_=>?_)
                   generalize w55.drew=w56 at HO279 HB HR295 HR296 hHeld ⊢
                   refine pure_ (i:=0) (N:=some 89) (v:=?_) (a':=?_) #[true,false,false,false,false,false,false,false,false,false,false,false,false,false] rfl rfl (any_of HT_.out (by kernel_rfl)) (fun _ _ _ h=>h) (Or.inl ⟨by rfl,?_⟩) ?_ ?_
                   rotate_left
                   ·intro w'
                    go_simp
                    with_reducible rfl
                   rotate_left
                   ·simp only [Act.put,List.setIfInBounds_toArray,List.set_cons_zero,List.set_cons_succ,i64_w,i32_w]
                    rfl
                   refine pure_ (i:=1) (N:=some 90) (v:=?_) (a':=?_) #[true,true,false,false,false,false,false,false,false,false,false,false,false,false] rfl rfl (any_of HT_.out (by kernel_rfl)) (fun _ _ _ h=>h) (Or.inl ⟨by rfl,?_⟩) ?_ ?_
                   rotate_left
                   ·intro w'
                    go_simp
                    with_reducible rfl
                   rotate_left
                   ·simp only [Act.put,List.setIfInBounds_toArray,List.set_cons_zero,List.set_cons_succ,i64_w,i32_w]
                    rfl
                   refine pure_ (i:=2) (N:=some 91) (v:=?_) (a':=?_) #[true,true,true,false,false,false,false,false,false,false,false,false,false,false] rfl rfl (any_of HT_.out (by kernel_rfl)) (fun _ _ _ h=>h) (Or.inl ⟨by rfl,?_⟩) ?_ ?_
                   rotate_left
                   ·intro w'
                    go_simp
                    with_reducible rfl
                   rotate_left
                   ·simp only [Act.put,List.setIfInBounds_toArray,List.set_cons_zero,List.set_cons_succ,i64_w,i32_w]
                    rfl
                   refine pure_ (i:=3) (N:=some 92) (v:=?_) (a':=?_) #[true,true,true,true,false,false,false,false,false,false,false,false,false,false] rfl rfl (any_of HT_.out (by kernel_rfl)) (fun _ _ _ h=>h) (Or.inl ⟨by rfl,?_⟩) ?_ ?_
                   rotate_left
                   ·intro w'
                    go_simp
                    with_reducible rfl
                   rotate_left
                   ·simp only [Act.put,List.setIfInBounds_toArray,List.set_cons_zero,List.set_cons_succ,i64_w,i32_w]
                    rfl
                   refine pure_ (i:=4) (N:=some 93) (v:=?_) (a':=?_) #[true,true,true,true,true,false,false,false,false,false,false,false,false,false] rfl rfl (any_of HT_.out (by kernel_rfl)) (fun _ _ _ h=>h) (Or.inl ⟨by rfl,?_⟩) ?_ ?_
                   rotate_left
                   ·intro w'
                    go_simp
                    with_reducible rfl
                   rotate_left
                   ·simp only [Act.put,List.setIfInBounds_toArray,List.set_cons_zero,List.set_cons_succ,i64_w,i32_w]
                    rfl
                   refine pure_ (i:=5) (N:=some 94) (v:=?_) (a':=?_) #[true,true,true,true,true,true,false,false,false,false,false,false,false,false] rfl rfl (any_of HT_.out (by kernel_rfl)) (fun _ _ _ h=>h) (Or.inl ⟨by rfl,?_⟩) ?_ ?_
                   rotate_left
                   ·intro w'
                    go_simp
                    with_reducible rfl
                   rotate_left
                   ·simp only [Act.put,List.setIfInBounds_toArray,List.set_cons_zero,List.set_cons_succ,i64_w,i32_w]
                    rfl
                   refine pure_ (i:=6) (N:=some 95) (v:=?_) (a':=?_) #[true,true,true,true,true,true,true,false,false,false,false,false,false,false] rfl rfl (any_of HT_.out (by kernel_rfl)) (fun _ _ _ h=>h) (Or.inl ⟨by rfl,?_⟩) ?_ ?_
                   rotate_left
                   ·intro w'
                    go_simp
                    with_reducible rfl
                   rotate_left
                   ·simp only [Act.put,List.setIfInBounds_toArray,List.set_cons_zero,List.set_cons_succ,i64_w,i32_w]
                    rfl
                   refine pure_ (i:=7) (N:=some 96) (v:=?_) (a':=?_) #[true,true,true,true,true,true,true,true,false,false,false,false,false,false] rfl rfl (any_of HT_.out (by kernel_rfl)) (fun _ _ _ h=>h) (Or.inl ⟨by rfl,?_⟩) ?_ ?_
                   rotate_left
                   ·intro w'
                    go_simp
                    with_reducible rfl
                   rotate_left
                   ·simp only [Act.put,List.setIfInBounds_toArray,List.set_cons_zero,List.set_cons_succ,i64_w,i32_w]
                    rfl
                   refine one_ (i:=8) (N:=some 97) #[true,true,true,true,true,true,true,true,true,false,false,false,false,false] rfl rfl (one_of HT_.out (by kernel_rfl)) (by decide) (fun K hK=>?_)
                   refine goes_ Try.func13 (by kernel_rfl) rfl #[.slice A57 (m0_5_14.drop ((ji19):Int).toNat).length (c0-(ji19).toNat),.slice A58 (m1_14.drop ((ji19):Int).toNat).length (c1-(ji19).toNat)] (by rfl) rfl rfl (by (try simp only [List.map_toArray,List.map_cons,List.map_nil]);first|done|(rw [show(m0_5_14.drop ((ji19):Int).toNat).length=((ji14).toNat-(ji19).toNat) from (by rw [←hm0_5_14,List.length_drop,List.length_take];have h_:((ji14):Int)≤(m0_5.length:Int):=of_decide_eq_true (by first|(with_reducible assumption)|assumption);omega)]<;>rfl)|(rw [show(m1_14.drop ((ji19):Int).toNat).length=((ji14).toNat-(ji19).toNat) from (by rw [←hm1_14,List.length_drop,List.length_take];have h_:((ji14):Int)≤(l1.length:Int):=of_decide_eq_true (by first|(with_reducible assumption)|assumption);omega)]<;>rfl)|(simp only [hji14,hji19,hji5];rfl)|rfl|(simp only [List.length_drop,List.length_take];rfl)) ?_
                   with_reducible refine(sum_Dot.calls k _ _ (m0_5_14.drop ((ji19):Int).toNat) _ _ (m1_14.drop ((ji19):Int).toNat) t297 t298 _ ?side1 ?side2 ?side3 ?side4 A31.out).mono ?_
                   (case side1=>repeat (first|exact(Kd.C_below HR295.out HB.out)|(with_reducible refine Kd.C_alloc ?_ _)|(with_reducible refine Kd.C_drewN ?_ _)|(with_reducible refine Kd.C_drew ?_)))
                   (case side2=>exact HC295.out)
                   (case side3=>repeat (first|exact(Kd.C_below HR296.out HB.out)|(with_reducible refine Kd.C_alloc ?_ _)|(with_reducible refine Kd.C_drewN ?_ _)|(with_reducible refine Kd.C_drew ?_)))
                   (case side4=>exact HC296.out)
                   rintro e w59 ⟨rfl,hb⟩
                   refine⟨_,rfl,?_⟩
                   have n0_:=Aside0.mk (Kd.R_below (by (with_reducible repeat (first|apply Kd.R_alloc|apply Kd.R_drewN|apply Kd.R_drew));exact HO279.out) hb)
                   have n1_:=Aside0.mk (below_step (by repeat (first|(with_reducible first|exact HB.out|apply below_alloc|apply pw_below_drewN|apply below_drew1)|exact HB.out)) hb)
                   clear HO279
                   clear HB
                   have HO279:=n0_
                   have HB:=n1_
                   clear n0_ n1_
                   (try clear hb)
                   (try clear hb2)
                   (try clear hk)
                   (try clear hi)
                   refine hK.out _ _ trivial (fun hHeld=>?_)
                   clear hK K
                   refine norm_ (a':=?_) ?_ ?_
                   rotate_left
                   ·show Act.put _ (some 97) _=_
                    simp only [Act.put,List.setIfInBounds_toArray,List.set_cons_zero,List.set_cons_succ,i64_w,i32_w]
                    rfl
                   refine pure_ (i:=9) (N:=some 88) (v:=?_) (a':=?_) #[true,true,true,true,true,true,true,true,true,true,false,false,false,false] rfl rfl (any_of HT_.out (by kernel_rfl)) (fun _ _ _ h=>h) (Or.inl ⟨by rfl,?_⟩) ?_ ?_
                   rotate_left
                   ·intro w'
                    go_simp
                    with_reducible rfl
                   rotate_left
                   ·simp only [Act.put,List.setIfInBounds_toArray,List.set_cons_zero,List.set_cons_succ,i64_w,i32_w]
                    rfl
                   refine pure_ (i:=10) (N:=some 98) (v:=?_) (a':=?_) #[true,true,true,true,true,true,true,true,true,true,true,false,false,false] rfl rfl (any_of HT_.out (by kernel_rfl)) (fun _ _ _ h=>h) (Or.inl ⟨by rfl,?_⟩) ?_ ?_
                   rotate_left
                   ·intro w'
                    go_simp
                    with_reducible rfl
                   rotate_left
                   ·simp only [Act.put,List.setIfInBounds_toArray,List.set_cons_zero,List.set_cons_succ,i64_w,i32_w]
                    rfl
                   refine pure_ (i:=11) (N:=some 99) (v:=?_) (a':=?_) #[true,true,true,true,true,true,true,true,true,true,true,true,false,false] rfl rfl (any_of HT_.out (by kernel_rfl)) (fun _ _ _ h=>h) (Or.inl ⟨by rfl,?_⟩) ?_ ?_
                   rotate_left
                   ·intro w'
                    go_simp
                    with_reducible rfl
                   rotate_left
                   ·simp only [Act.put,List.setIfInBounds_toArray,List.set_cons_zero,List.set_cons_succ,i64_w,i32_w]
                    rfl
                   refine pure_ (i:=12) (N:=some 24) (v:=?_) (a':=?_) #[true,true,true,true,true,true,true,true,true,true,true,true,true,false] rfl rfl (any_of HT_.out (by kernel_rfl)) (fun _ _ _ h=>h) (Or.inl ⟨by rfl,?_⟩) ?_ ?_
                   rotate_left
                   ·intro w'
                    go_simp
                    with_reducible rfl
                   rotate_left
                   ·simp only [Act.put,List.setIfInBounds_toArray,List.set_cons_zero,List.set_cons_succ,i64_w,i32_w]
                    rfl
                   refine pure_ (i:=13) (N:=some 25) (v:=?_) (a':=?_) #[true,true,true,true,true,true,true,true,true,true,true,true,true,true] rfl rfl (any_of HT_.out (by kernel_rfl)) (fun _ _ _ h=>h) (Or.inl ⟨by rfl,?_⟩) ?_ ?_
                   rotate_left
                   ·intro w'
                    go_simp
                    with_reducible rfl
                   rotate_left
                   ·simp only [Act.put,List.setIfInBounds_toArray,List.set_cons_zero,List.set_cons_succ,i64_w,i32_w]
                    rfl
                   refine done_ (done_of HT_.out (by kernel_rfl)) ?_
                   try go_wp2_with (first|((with_reducible refine gate_callee (f:=17) rfl ?_);refine goesL_ (some 103) rfl rfl Try.func17 (by kernel_rfl) rfl #[.int .i64 t293,.int .i64 t297] rfl (by (try simp only [List.map_toArray,List.map_cons,List.map_nil]);first|done|rfl|(simp only [List.length_drop,List.length_take];rfl)) ?_;(with_reducible refine(fix_Add.calls t293 t297 t299 t300 _ A32.out).mono ?_);rintro e w60 ⟨rfl,hb⟩;refine⟨_,rfl,?_⟩;have n0_:=Aside0.mk (Kd.R_below (by (with_reducible repeat (first|apply Kd.R_alloc|apply Kd.R_drewN|apply Kd.R_drew));exact HO279.out) hb);have n1_:=Aside0.mk (below_step (by repeat (first|(with_reducible first|exact HB.out|apply below_alloc|apply pw_below_drewN|apply below_drew1)|exact HB.out)) hb);clear HO279;clear HB;have HO279:=n0_;have HB:=n1_;clear n0_ n1_;(try clear hb);(try clear hb2);(try clear hk);(try clear hi)))
                   go_ret
                   exact⟨by first|rfl|(simp [errW_none,errW_some]<;>rfl)|(simp only [←hji5,←hji14,←hji19];first|rfl|(simp [errW_none,errW_some]<;>rfl))|(simp [*,errW_none,errW_some]<;>rfl),by repeat (first|(with_reducible first|exact HB.out|apply below_alloc|apply pw_below_drewN|apply below_drew1)|exact HB.out)⟩
                  ·replace c38:=Bool.eq_false_iff.mpr c38
                   subst c38
                   have H1:(if t294=true then (some true) else (if t298=true then (some true) else (if t300=true then (some true) else (if (wrap64 (t289-t299))≤1 then (some (decide ((wrap64 (t299-t289))≤1))) else (some false)))))=some r:=by rw [if_neg (show ¬(false=true) by decide)] at H;exact H
                   clear H
                   have H:=H1
                   clear H1
                   by_cases c61:t294=true
                   ·subst c61
                    have H1:(some true)=some r:=by rw [if_pos rfl] at H;exact H
                    clear H
                    have H:=H1
                    clear H1
                    clear hr
                    obtain rfl:=Option.some.inj H
                    go_enter Try.func6,Try.ntmps6
                    try go_wp2_with (first|((with_reducible refine gate_callee (f:=8) rfl ?_);refine goesL_ (some 28) rfl rfl Try.func8 (by kernel_rfl) rfl #[] rfl (by (try simp only [List.map_toArray,List.map_cons,List.map_nil]);first|done|rfl|(simp only [List.length_drop,List.length_take];rfl)) ?_;(with_reducible refine(outriggerlaw06_awake.calls k  true _ A4.out).mono ?_);rintro e w62 ⟨rfl,hb⟩;refine⟨_,rfl,?_⟩;have n0_:=Aside0.mk (below_step (by repeat (first|(with_reducible first|exact HB.out|apply below_alloc|apply pw_below_drewN|apply below_drew1)|exact HB.out)) hb);clear HB;have HB:=n0_;clear n0_;(try clear hb);(try clear hb2);(try clear hk);(try clear hi);obtain⟨i063,hi063,_,hsz63,_⟩:=info_parts info3;obtain⟨hcut63,hA63,hC63⟩:=print_take_of (P:=Try.prog) (Value.int .i64) 0 22 3 .i64 Try.underlying22 hi063 hsz63 A0 c0 l0 (ji5) (of_decide_eq_true (by first|(with_reducible assumption)|assumption)) (of_decide_eq_true (by first|(with_reducible assumption)|assumption)) HC0.out;rw [hm0_5] at hA63 hC63;simp only [hm0_5] at hcut63;have HR270:=Aside0.mk (Kd.C_of_reads (h1:=fun _=>rfl) (hA63 _ (Kd.reads_of_C HR0.out)));have HC270:=Aside0.mk hC63;clear hA63 hC63 hi063 hsz63)|((with_reducible refine gate_dst (N:=34) rfl ?_);refine Kd.R_lit (Kd.int .i64) _ 3 ?hg (N:=34) ?hd (xs:=([]:List Int)) (inner:=[]) (ok:=fun _=>True) (okp:=fun _=>True) ?hr ?hp (fun _ hk=>hk) trivial (Below.refl _ _) (Nat.le_refl _) (by simp) ?_;(case hd=>rfl);(case hg=>rfl);(case hr=>first|(go_simp;done)|(go_simp;rfl));(case hp=>exact(Reps.none _ _));intro v272 w64 ho65 hb hg_ hnew_;clear hg_ hnew_;(first|rw [←Ny271.out] at ho65|(simp only [Int.reduceToNat] at ho65;rw [←Ny271.out] at ho65));have n0_:=Aside0.mk (Kd.R_lower ho65 (below_size (by repeat (first|(with_reducible first|exact HB.out|apply below_alloc|apply pw_below_drewN|apply below_drew1)|exact HB.out))));have n1_:=Aside0.mk (below_step (by repeat (first|(with_reducible first|exact HB.out|apply below_alloc|apply pw_below_drewN|apply below_drew1)|exact HB.out)) hb);clear HB;have HO273:=n0_;have HB:=n1_;clear n0_ n1_;clear hb ho65)|((with_reducible refine gate_builtin (b:=.append) (xs:=#[.tmp 34,.tmp 35]) rfl ?_);at_builtin;refine Kd.R_append_rows (Kd.int .i64) (w0:=w) w.heap.size rfl (.tmp 34) (.tmp 35) 22 3 (.int .i64 0) 8 rfl Try.underlying22 info3 rfl (by decide) (by omega) v272 y271 m0_5 _ _ _ (fun _=>True) (fun _=>False) rfl rfl ?aO ?aR (fun _ _ h=>h) (fun _ h=>h.elim) ?aF ?aB ?aS ?aL ?_;(case aR=>first|(rw [←show m0_5.length=(ji5).toNat from (by rw [←hm0_5,List.length_take];have h_:((ji5):Int)≤(l0.length:Int):=of_decide_eq_true (by first|(with_reducible assumption)|assumption);omega)];repeat (first|exact(Kd.C_below HR270.out HB.out)|(with_reducible refine Kd.C_alloc ?_ _)|(with_reducible refine Kd.C_drewN ?_ _)|(with_reducible refine Kd.C_drew ?_)))|(repeat (first|exact(Kd.C_below HR270.out HB.out)|(with_reducible refine Kd.C_alloc ?_ _)|(with_reducible refine Kd.C_drewN ?_ _)|(with_reducible refine Kd.C_drew ?_))));(case aB=>exact(by repeat (first|(with_reducible first|exact HB.out|apply below_alloc|apply pw_below_drewN|apply below_drew1)|exact HB.out)));(case aF=>exact(fun _ _=>trivial));(case aO=>exact(by (with_reducible repeat (first|apply Kd.R_alloc|apply Kd.R_drewN|apply Kd.R_drew));exact HO273.out));(case aS=>exact(below_size (by repeat (first|(with_reducible first|exact HB.out|apply below_alloc|apply pw_below_drewN|apply below_drew1)|exact HB.out))));(case aL=>have:=LMc8.out;have hlx_:=(show m0_5.length=(ji5).toNat from (by rw [←hm0_5,List.length_take];have h_:((ji5):Int)≤(l0.length:Int):=of_decide_eq_true (by first|(with_reducible assumption)|assumption);omega));omega);intro v275 w66 ho hb hg hat;rw [←Ny274.out] at ho;have n0_:=Aside0.mk (hb);have n1_:=Aside0.mk (ho);clear HB;clear HO273;have HB:=n0_;have HO276:=n1_;clear n0_ n1_;clear ho hb hg hat)|((with_reducible refine gate_builtin (b:=.append) (xs:=#[.tmp 37,.tmp 38]) rfl ?_);at_builtin;refine Kd.R_append (Kd.int .i64) (w0:=w) w.heap.size rfl (.tmp 37) (.tmp 38) 22 3 (.int .i64 0) 8 rfl Try.underlying22 info3 rfl (by decide) (by omega) v275 y274 0 [.int .i64 0] (fun _=>True) (fun _=>False) rfl rfl ?aP (fun _ hk=>hk.elim) ?aF ?aO ?aB ?aS ?aL ?_;(case aP=>exact rfl);(case aB=>exact(by repeat (first|(with_reducible first|exact HB.out|apply below_alloc|apply pw_below_drewN|apply below_drew1)|exact HB.out)));(case aF=>exact(fun _ _=>trivial));(case aO=>exact(by (with_reducible repeat (first|apply Kd.R_alloc|apply Kd.R_drewN|apply Kd.R_drew));exact HO276.out));(case aS=>exact(below_size (by repeat (first|(with_reducible first|exact HB.out|apply below_alloc|apply pw_below_drewN|apply below_drew1)|exact HB.out))));(case aL=>have:=LMc9.out;omega);intro v278 w67 ho hb hg hat;rw [←Ny277.out] at ho;have n0_:=Aside0.mk (hb);have n1_:=Aside0.mk (ho);clear HB;clear HO276;have HB:=n0_;have HO279:=n1_;clear n0_ n1_;clear ho hb hg hat)|((with_reducible refine gate_callee (f:=9) rfl ?_);refine goesL_ (some 42) rfl rfl Try.func9 (by kernel_rfl) rfl #[.slice A0 m0_5.length c0] rfl (by (try simp only [List.map_toArray,List.map_cons,List.map_nil]);first|done|(rw [show m0_5.length=(ji5).toNat from (by rw [←hm0_5,List.length_take];have h_:((ji5):Int)≤(l0.length:Int):=of_decide_eq_true (by first|(with_reducible assumption)|assumption);omega)]<;>rfl)|(simp only [hji5];rfl)|rfl|(simp only [List.length_drop,List.length_take];rfl)) ?_;(with_reducible refine(sum_Total.calls k _ _ m0_5 t280 t281 _ ?side1 ?side2 A10.out).mono ?_);(case side1=>repeat (first|exact(Kd.C_below HR270.out HB.out)|(with_reducible refine Kd.C_alloc ?_ _)|(with_reducible refine Kd.C_drewN ?_ _)|(with_reducible refine Kd.C_drew ?_)));(case side2=>exact HC270.out);rintro e w68 ⟨rfl,hb⟩;refine⟨_,rfl,?_⟩;have n0_:=Aside0.mk (Kd.R_below (by (with_reducible repeat (first|apply Kd.R_alloc|apply Kd.R_drewN|apply Kd.R_drew));exact HO279.out) hb);have n1_:=Aside0.mk (below_step (by repeat (first|(with_reducible first|exact HB.out|apply below_alloc|apply pw_below_drewN|apply below_drew1)|exact HB.out)) hb);clear HO279;clear HB;have HO279:=n0_;have HB:=n1_;clear n0_ n1_;(try clear hb);(try clear hb2);(try clear hk);(try clear hi);obtain⟨Ao69,co69,eo69⟩:=Kd.R_slice HO279.out;subst eo69)|((with_reducible refine gate_callee (f:=9) rfl ?_);refine goesL_ (some 47) rfl rfl Try.func9 (by kernel_rfl) rfl #[.slice Ao69 y277.length co69] rfl (by (try simp only [List.map_toArray,List.map_cons,List.map_nil]);first|done|rfl|(simp only [List.length_drop,List.length_take];rfl)) ?_;(with_reducible refine(sum_Total.calls k _ _ y277 t282 t283 _ ?side1 ?side2 A11.out).mono ?_);(case side1=>repeat (first|exact(Kd.R_reads' HO279.out).2.2|(with_reducible refine Kd.C_alloc ?_ _)|(with_reducible refine Kd.C_drewN ?_ _)|(with_reducible refine Kd.C_drew ?_)));(case side2=>exact(Kd.R_reads' HO279.out).2.1);rintro e w70 ⟨rfl,hb⟩;refine⟨_,rfl,?_⟩;have n0_:=Aside0.mk (Kd.R_below (by (with_reducible repeat (first|apply Kd.R_alloc|apply Kd.R_drewN|apply Kd.R_drew));exact HO279.out) hb);have n1_:=Aside0.mk (below_step (by repeat (first|(with_reducible first|exact HB.out|apply below_alloc|apply pw_below_drewN|apply below_drew1)|exact HB.out)) hb);clear HO279;clear HB;have HO279:=n0_;have HB:=n1_;clear n0_ n1_;(try clear hb);(try clear hb2);(try clear hk);(try clear hi))|((with_reducible refine gate_callee (f:=15) rfl ?_);refine goesL_ (some 52) rfl rfl Try.func15 (by kernel_rfl) rfl #[.slice A0 m0_5.length c0] rfl (by (try simp only [List.map_toArray,List.map_cons,List.map_nil]);first|done|(rw [show m0_5.length=(ji5).toNat from (by rw [←hm0_5,List.length_take];have h_:((ji5):Int)≤(l0.length:Int):=of_decide_eq_true (by first|(with_reducible assumption)|assumption);omega)]<;>rfl)|(simp only [hji5];rfl)|rfl|(simp only [List.length_drop,List.length_take];rfl)) ?_;(with_reducible refine(sum_Norm.calls k _ _ m0_5 t284 t285 _ ?side1 ?side2 A12.out).mono ?_);(case side1=>repeat (first|exact(Kd.C_below HR270.out HB.out)|(with_reducible refine Kd.C_alloc ?_ _)|(with_reducible refine Kd.C_drewN ?_ _)|(with_reducible refine Kd.C_drew ?_)));(case side2=>exact HC270.out);rintro e w71 ⟨rfl,hb⟩;refine⟨_,rfl,?_⟩;have n0_:=Aside0.mk (Kd.R_below (by (with_reducible repeat (first|apply Kd.R_alloc|apply Kd.R_drewN|apply Kd.R_drew));exact HO279.out) hb);have n1_:=Aside0.mk (below_step (by repeat (first|(with_reducible first|exact HB.out|apply below_alloc|apply pw_below_drewN|apply below_drew1)|exact HB.out)) hb);clear HO279;clear HB;have HO279:=n0_;have HB:=n1_;clear n0_ n1_;(try clear hb);(try clear hb2);(try clear hk);(try clear hi))|((with_reducible refine gate_callee (f:=15) rfl ?_);refine goesL_ (some 57) rfl rfl Try.func15 (by kernel_rfl) rfl #[.slice Ao69 y277.length co69] rfl (by (try simp only [List.map_toArray,List.map_cons,List.map_nil]);first|done|rfl|(simp only [List.length_drop,List.length_take];rfl)) ?_;(with_reducible refine(sum_Norm.calls k _ _ y277 t286 t287 _ ?side1 ?side2 A13.out).mono ?_);(case side1=>repeat (first|exact(Kd.R_reads' HO279.out).2.2|(with_reducible refine Kd.C_alloc ?_ _)|(with_reducible refine Kd.C_drewN ?_ _)|(with_reducible refine Kd.C_drew ?_)));(case side2=>exact(Kd.R_reads' HO279.out).2.1);rintro e w72 ⟨rfl,hb⟩;refine⟨_,rfl,?_⟩;have n0_:=Aside0.mk (Kd.R_below (by (with_reducible repeat (first|apply Kd.R_alloc|apply Kd.R_drewN|apply Kd.R_drew));exact HO279.out) hb);have n1_:=Aside0.mk (below_step (by repeat (first|(with_reducible first|exact HB.out|apply below_alloc|apply pw_below_drewN|apply below_drew1)|exact HB.out)) hb);clear HO279;clear HB;have HO279:=n0_;have HB:=n1_;clear n0_ n1_;(try clear hb);(try clear hb2);(try clear hk);(try clear hi);obtain⟨i073,hi073,_,hsz73,_⟩:=info_parts info3;obtain⟨hcut73,hA73,hC73⟩:=print_take_of (P:=Try.prog) (Value.int .i64) 0 22 3 .i64 Try.underlying22 hi073 hsz73 A1 c1 l1 (ji14) (of_decide_eq_true (by first|(with_reducible assumption)|assumption)) (of_decide_eq_true (by first|(with_reducible assumption)|assumption)) HC1.out;rw [hm1_14] at hA73 hC73;simp only [hm1_14] at hcut73;have HR288:=Aside0.mk (Kd.C_of_reads (h1:=fun _=>rfl) (hA73 _ (Kd.reads_of_C HR1.out)));have HC288:=Aside0.mk hC73;clear hA73 hC73 hi073 hsz73)|((with_reducible refine gate_callee (f:=13) rfl ?_);refine goesL_ (some 75) rfl rfl Try.func13 (by kernel_rfl) rfl #[.slice A0 m0_5.length c0,.slice A1 m1_14.length c1] rfl (by (try simp only [List.map_toArray,List.map_cons,List.map_nil]);first|done|(rw [show m0_5.length=(ji5).toNat from (by rw [←hm0_5,List.length_take];have h_:((ji5):Int)≤(l0.length:Int):=of_decide_eq_true (by first|(with_reducible assumption)|assumption);omega)]<;>rfl)|(rw [show m1_14.length=(ji14).toNat from (by rw [←hm1_14,List.length_take];have h_:((ji14):Int)≤(l1.length:Int):=of_decide_eq_true (by first|(with_reducible assumption)|assumption);omega)]<;>rfl)|(simp only [hji14,hji5];rfl)|rfl|(simp only [List.length_drop,List.length_take];rfl)) ?_;(with_reducible refine(sum_Dot.calls k _ _ m0_5 _ _ m1_14 t289 false _ ?side1 ?side2 ?side3 ?side4 A18.out).mono ?_);(case side1=>repeat (first|exact(Kd.C_below HR270.out HB.out)|(with_reducible refine Kd.C_alloc ?_ _)|(with_reducible refine Kd.C_drewN ?_ _)|(with_reducible refine Kd.C_drew ?_)));(case side2=>exact HC270.out);(case side3=>repeat (first|exact(Kd.C_below HR288.out HB.out)|(with_reducible refine Kd.C_alloc ?_ _)|(with_reducible refine Kd.C_drewN ?_ _)|(with_reducible refine Kd.C_drew ?_)));(case side4=>exact HC288.out);rintro e w74 ⟨rfl,hb⟩;refine⟨_,rfl,?_⟩;have n0_:=Aside0.mk (Kd.R_below (by (with_reducible repeat (first|apply Kd.R_alloc|apply Kd.R_drewN|apply Kd.R_drew));exact HO279.out) hb);have n1_:=Aside0.mk (below_step (by repeat (first|(with_reducible first|exact HB.out|apply below_alloc|apply pw_below_drewN|apply below_drew1)|exact HB.out)) hb);clear HO279;clear HB;have HO279:=n0_;have HB:=n1_;clear n0_ n1_;(try clear hb);(try clear hb2);(try clear hk);(try clear hi)))
                    have n0_:=Aside0.mk (Kd.R_drew HO279.out)
                    have n1_:=Aside0.mk (below_drew1 HB.out)
                    clear HO279
                    clear HB
                    have HO279:=n0_
                    have HB:=n1_
                    clear n0_ n1_
                    obtain⟨i076,hi076,_,hsz76,_⟩:=info_parts info3
                    obtain⟨hcut76,hA76,hC76⟩:=print_take_of (P:=Try.prog) (Value.int .i64) 0 22 3 .i64 Try.underlying22 hi076 hsz76 A0 c0 m0_5 (ji19) (of_decide_eq_true (by first|(with_reducible assumption)|assumption)) (of_decide_eq_true (by first|(with_reducible assumption)|assumption)) HC270.out;rw [hm0_5_19] at hA76 hC76;simp only [hm0_5_19] at hcut76
                    have HR291:=Aside0.mk (Kd.C_of_reads (h1:=fun _=>rfl) (hA76 _ (Kd.reads_of_C HR270.out)))
                    have HC291:=Aside0.mk hC76
                    clear hA76 hC76 hi076 hsz76
                    obtain⟨i077,hi077,_,hsz77,_⟩:=info_parts info3
                    obtain⟨hcut77,hA77,hC77⟩:=print_take_of (P:=Try.prog) (Value.int .i64) 0 22 3 .i64 Try.underlying22 hi077 hsz77 A1 c1 l1 (ji19) (of_decide_eq_true (by first|(with_reducible assumption)|assumption)) (of_decide_eq_true (by first|(with_reducible assumption)|assumption)) HC1.out;rw [hm1_19] at hA77 hC77;simp only [hm1_19] at hcut77
                    have HR292:=Aside0.mk (Kd.C_of_reads (h1:=fun _=>rfl) (hA77 _ (Kd.reads_of_C HR1.out)))
                    have HC292:=Aside0.mk hC77
                    clear hA77 hC77 hi077 hsz77
                    refine start_ (n:=12) (S:=fun w'=>True) (ds:=[]) #[false,false,false,false,false,false,false,false,false,false,false,false] (by kernel_rfl) rfl rfl trivial (fun hHeld=>?_);refine with_tabW outriggerlaw06_SumZero.tab12 outriggerlaw06_SumZero.bits12 (fun HT_ HW_=>?_)
                    generalize w74.drew=w75 at HO279 HB HR291 HR292 hHeld ⊢
                    refine pure_ (i:=0) (N:=some 79) (v:=?_) (a':=?_) #[true,false,false,false,false,false,false,false,false,false,false,false] rfl rfl (any_of HT_.out (by kernel_rfl)) (fun _ _ _ h=>h) (Or.inl ⟨by rfl,?_⟩) ?_ ?_
                    rotate_left
                    ·intro w'
                     go_simp
                     with_reducible rfl
                    rotate_left
                    ·simp only [Act.put,List.setIfInBounds_toArray,List.set_cons_zero,List.set_cons_succ,i64_w,i32_w]
                     rfl
                    refine pure_ (i:=1) (N:=some 80) (v:=?_) (a':=?_) #[true,true,false,false,false,false,false,false,false,false,false,false] rfl rfl (any_of HT_.out (by kernel_rfl)) (fun _ _ _ h=>h) (Or.inl ⟨by rfl,?_⟩) ?_ ?_
                    rotate_left
                    ·intro w'
                     go_simp
                     with_reducible rfl
                    rotate_left
                    ·simp only [Act.put,List.setIfInBounds_toArray,List.set_cons_zero,List.set_cons_succ,i64_w,i32_w]
                     rfl
                    refine pure_ (i:=2) (N:=some 81) (v:=?_) (a':=?_) #[true,true,true,false,false,false,false,false,false,false,false,false] rfl rfl (any_of HT_.out (by kernel_rfl)) (fun _ _ _ h=>h) (Or.inl ⟨by rfl,?_⟩) ?_ ?_
                    rotate_left
                    ·intro w'
                     go_simp
                     with_reducible rfl
                    rotate_left
                    ·simp only [Act.put,List.setIfInBounds_toArray,List.set_cons_zero,List.set_cons_succ,i64_w,i32_w]
                     rfl
                    refine pure_ (i:=3) (N:=some 82) (v:=?_) (a':=?_) #[true,true,true,true,false,false,false,false,false,false,false,false] rfl rfl (any_of HT_.out (by kernel_rfl)) (fun _ _ _ h=>h) (Or.inl ⟨by rfl,?_⟩) ?_ ?_
                    rotate_left
                    ·intro w'
                     go_simp
                     with_reducible rfl
                    rotate_left
                    ·simp only [Act.put,List.setIfInBounds_toArray,List.set_cons_zero,List.set_cons_succ,i64_w,i32_w]
                     rfl
                    refine pure_ (i:=4) (N:=some 83) (v:=?_) (a':=?_) #[true,true,true,true,true,false,false,false,false,false,false,false] rfl rfl (any_of HT_.out (by kernel_rfl)) (fun _ _ _ h=>h) (Or.inl ⟨by rfl,?_⟩) ?_ ?_
                    rotate_left
                    ·intro w'
                     go_simp
                     with_reducible rfl
                    rotate_left
                    ·simp only [Act.put,List.setIfInBounds_toArray,List.set_cons_zero,List.set_cons_succ,i64_w,i32_w]
                     rfl
                    refine pure_ (i:=5) (N:=some 84) (v:=?_) (a':=?_) #[true,true,true,true,true,true,false,false,false,false,false,false] rfl rfl (any_of HT_.out (by kernel_rfl)) (fun _ _ _ h=>h) (Or.inl ⟨by rfl,?_⟩) ?_ ?_
                    rotate_left
                    ·intro w'
                     go_simp
                     with_reducible rfl
                    rotate_left
                    ·simp only [Act.put,List.setIfInBounds_toArray,List.set_cons_zero,List.set_cons_succ,i64_w,i32_w]
                     rfl
                    refine one_ (i:=6) (N:=some 85) #[true,true,true,true,true,true,true,false,false,false,false,false] rfl rfl (one_of HT_.out (by kernel_rfl)) (by decide) (fun K hK=>?_)
                    refine goes_ Try.func13 (by kernel_rfl) rfl #[.slice A0 m0_5_19.length c0,.slice A1 m1_19.length c1] (by rfl) rfl rfl (by (try simp only [List.map_toArray,List.map_cons,List.map_nil]);first|done|(rw [show m0_5_19.length=(ji19).toNat from (by rw [←hm0_5_19,List.length_take];have h_:((ji19):Int)≤(m0_5.length:Int):=of_decide_eq_true (by first|(with_reducible assumption)|assumption);omega)]<;>rfl)|(rw [show m1_19.length=(ji19).toNat from (by rw [←hm1_19,List.length_take];have h_:((ji19):Int)≤(l1.length:Int):=of_decide_eq_true (by first|(with_reducible assumption)|assumption);omega)]<;>rfl)|(simp only [hji19,hji5];rfl)|rfl|(simp only [List.length_drop,List.length_take];rfl)) ?_
                    with_reducible refine(sum_Dot.calls k _ _ m0_5_19 _ _ m1_19 t293 true _ ?side1 ?side2 ?side3 ?side4 A24.out).mono ?_
                    (case side1=>repeat (first|exact(Kd.C_below HR291.out HB.out)|(with_reducible refine Kd.C_alloc ?_ _)|(with_reducible refine Kd.C_drewN ?_ _)|(with_reducible refine Kd.C_drew ?_)))
                    (case side2=>exact HC291.out)
                    (case side3=>repeat (first|exact(Kd.C_below HR292.out HB.out)|(with_reducible refine Kd.C_alloc ?_ _)|(with_reducible refine Kd.C_drewN ?_ _)|(with_reducible refine Kd.C_drew ?_)))
                    (case side4=>exact HC292.out)
                    rintro e w78 ⟨rfl,hb⟩
                    refine⟨_,rfl,?_⟩
                    have n0_:=Aside0.mk (Kd.R_below (by (with_reducible repeat (first|apply Kd.R_alloc|apply Kd.R_drewN|apply Kd.R_drew));exact HO279.out) hb)
                    have n1_:=Aside0.mk (below_step (by repeat (first|(with_reducible first|exact HB.out|apply below_alloc|apply pw_below_drewN|apply below_drew1)|exact HB.out)) hb)
                    clear HO279
                    clear HB
                    have HO279:=n0_
                    have HB:=n1_
                    clear n0_ n1_
                    (try clear hb)
                    (try clear hb2)
                    (try clear hk)
                    (try clear hi)
                    refine hK.out _ _ trivial (fun hHeld=>?_)
                    clear hK K
                    refine norm_ (a':=?_) ?_ ?_
                    rotate_left
                    ·show Act.put _ (some 85) _=_
                     simp only [Act.put,List.setIfInBounds_toArray,List.set_cons_zero,List.set_cons_succ,i64_w,i32_w]
                     rfl
                    refine pure_ (i:=7) (N:=some 78) (v:=?_) (a':=?_) #[true,true,true,true,true,true,true,true,false,false,false,false] rfl rfl (any_of HT_.out (by kernel_rfl)) (fun _ _ _ h=>h) (Or.inl ⟨by rfl,?_⟩) ?_ ?_
                    rotate_left
                    ·intro w'
                     go_simp
                     with_reducible rfl
                    rotate_left
                    ·simp only [Act.put,List.setIfInBounds_toArray,List.set_cons_zero,List.set_cons_succ,i64_w,i32_w]
                     rfl
                    refine pure_ (i:=8) (N:=some 86) (v:=?_) (a':=?_) #[true,true,true,true,true,true,true,true,true,false,false,false] rfl rfl (any_of HT_.out (by kernel_rfl)) (fun _ _ _ h=>h) (Or.inl ⟨by rfl,?_⟩) ?_ ?_
                    rotate_left
                    ·intro w'
                     go_simp
                     with_reducible rfl
                    rotate_left
                    ·simp only [Act.put,List.setIfInBounds_toArray,List.set_cons_zero,List.set_cons_succ,i64_w,i32_w]
                     rfl
                    refine pure_ (i:=9) (N:=some 87) (v:=?_) (a':=?_) #[true,true,true,true,true,true,true,true,true,true,false,false] rfl rfl (any_of HT_.out (by kernel_rfl)) (fun _ _ _ h=>h) (Or.inl ⟨by rfl,?_⟩) ?_ ?_
                    rotate_left
                    ·intro w'
                     go_simp
                     with_reducible rfl
                    rotate_left
                    ·simp only [Act.put,List.setIfInBounds_toArray,List.set_cons_zero,List.set_cons_succ,i64_w,i32_w]
                     rfl
                    refine pure_ (i:=10) (N:=some 22) (v:=?_) (a':=?_) #[true,true,true,true,true,true,true,true,true,true,true,false] rfl rfl (any_of HT_.out (by kernel_rfl)) (fun _ _ _ h=>h) (Or.inl ⟨by rfl,?_⟩) ?_ ?_
                    rotate_left
                    ·intro w'
                     go_simp
                     with_reducible rfl
                    rotate_left
                    ·simp only [Act.put,List.setIfInBounds_toArray,List.set_cons_zero,List.set_cons_succ,i64_w,i32_w]
                     rfl
                    refine pure_ (i:=11) (N:=some 23) (v:=?_) (a':=?_) #[true,true,true,true,true,true,true,true,true,true,true,true] rfl rfl (any_of HT_.out (by kernel_rfl)) (fun _ _ _ h=>h) (Or.inl ⟨by rfl,?_⟩) ?_ ?_
                    rotate_left
                    ·intro w'
                     go_simp
                     with_reducible rfl
                    rotate_left
                    ·simp only [Act.put,List.setIfInBounds_toArray,List.set_cons_zero,List.set_cons_succ,i64_w,i32_w]
                     rfl
                    refine done_ (done_of HT_.out (by kernel_rfl)) ?_
                    try go_wp2
                    have n0_:=Aside0.mk (Kd.R_drew HO279.out)
                    have n1_:=Aside0.mk (below_drew1 HB.out)
                    clear HO279
                    clear HB
                    have HO279:=n0_
                    have HB:=n1_
                    clear n0_ n1_
                    obtain⟨i080,hi080,_,hsz80,_⟩:=info_parts info3
                    obtain⟨A80,hcut80,hA80,hC80⟩:=print_mid_of (P:=Try.prog) (Value.int .i64) 0 22 3 .i64 .i64 Try.underlying22 hi080 hsz80 A0 c0 m0_5 (ji19) (ji14) (of_decide_eq_true (by first|(with_reducible assumption)|assumption)) (by first|omega|exact of_decide_eq_true (by first|(with_reducible assumption)|assumption)) (of_decide_eq_true (by first|(with_reducible assumption)|assumption)) HC270.out
                    rw [hm0_5_14] at hA80 hC80
                    try simp only [hm0_5_14] at hcut80
                    have HR295:=Aside0.mk (Kd.C_of_reads (h1:=fun _=>rfl) (hA80 _ (Kd.reads_of_C HR270.out)))
                    have HC295:=Aside0.mk hC80
                    clear hA80 hC80 hi080 hsz80
                    obtain⟨i081,hi081,_,hsz81,_⟩:=info_parts info3
                    obtain⟨A81,hcut81,hA81,hC81⟩:=print_mid_of (P:=Try.prog) (Value.int .i64) 0 22 3 .i64 .i64 Try.underlying22 hi081 hsz81 A1 c1 l1 (ji19) (ji14) (of_decide_eq_true (by first|(with_reducible assumption)|assumption)) (by first|omega|exact of_decide_eq_true (by first|(with_reducible assumption)|assumption)) (of_decide_eq_true (by first|(with_reducible assumption)|assumption)) HC1.out
                    rw [hm1_14] at hA81 hC81
                    try simp only [hm1_14] at hcut81
                    have HR296:=Aside0.mk (Kd.C_of_reads (h1:=fun _=>rfl) (hA81 _ (Kd.reads_of_C HR1.out)))
                    have HC296:=Aside0.mk hC81
                    clear hA81 hC81 hi081 hsz81
                    refine start_ (n:=14) (S:=fun w'=>True) (ds:=[]) #[false,false,false,false,false,false,false,false,false,false,false,false,false,false] (by kernel_rfl) rfl rfl trivial (fun hHeld=>?_);refine with_tabW outriggerlaw06_SumZero.tab13 outriggerlaw06_SumZero.bits13 (fun HT_ HW_=>?_)
                    generalize w78.drew=w79 at HO279 HB HR295 HR296 hHeld ⊢
                    refine pure_ (i:=0) (N:=some 89) (v:=?_) (a':=?_) #[true,false,false,false,false,false,false,false,false,false,false,false,false,false] rfl rfl (any_of HT_.out (by kernel_rfl)) (fun _ _ _ h=>h) (Or.inl ⟨by rfl,?_⟩) ?_ ?_
                    rotate_left
                    ·intro w'
                     go_simp
                     with_reducible rfl
                    rotate_left
                    ·simp only [Act.put,List.setIfInBounds_toArray,List.set_cons_zero,List.set_cons_succ,i64_w,i32_w]
                     rfl
                    refine pure_ (i:=1) (N:=some 90) (v:=?_) (a':=?_) #[true,true,false,false,false,false,false,false,false,false,false,false,false,false] rfl rfl (any_of HT_.out (by kernel_rfl)) (fun _ _ _ h=>h) (Or.inl ⟨by rfl,?_⟩) ?_ ?_
                    rotate_left
                    ·intro w'
                     go_simp
                     with_reducible rfl
                    rotate_left
                    ·simp only [Act.put,List.setIfInBounds_toArray,List.set_cons_zero,List.set_cons_succ,i64_w,i32_w]
                     rfl
                    refine pure_ (i:=2) (N:=some 91) (v:=?_) (a':=?_) #[true,true,true,false,false,false,false,false,false,false,false,false,false,false] rfl rfl (any_of HT_.out (by kernel_rfl)) (fun _ _ _ h=>h) (Or.inl ⟨by rfl,?_⟩) ?_ ?_
                    rotate_left
                    ·intro w'
                     go_simp
                     with_reducible rfl
                    rotate_left
                    ·simp only [Act.put,List.setIfInBounds_toArray,List.set_cons_zero,List.set_cons_succ,i64_w,i32_w]
                     rfl
                    refine pure_ (i:=3) (N:=some 92) (v:=?_) (a':=?_) #[true,true,true,true,false,false,false,false,false,false,false,false,false,false] rfl rfl (any_of HT_.out (by kernel_rfl)) (fun _ _ _ h=>h) (Or.inl ⟨by rfl,?_⟩) ?_ ?_
                    rotate_left
                    ·intro w'
                     go_simp
                     with_reducible rfl
                    rotate_left
                    ·simp only [Act.put,List.setIfInBounds_toArray,List.set_cons_zero,List.set_cons_succ,i64_w,i32_w]
                     rfl
                    refine pure_ (i:=4) (N:=some 93) (v:=?_) (a':=?_) #[true,true,true,true,true,false,false,false,false,false,false,false,false,false] rfl rfl (any_of HT_.out (by kernel_rfl)) (fun _ _ _ h=>h) (Or.inl ⟨by rfl,?_⟩) ?_ ?_
                    rotate_left
                    ·intro w'
                     go_simp
                     with_reducible rfl
                    rotate_left
                    ·simp only [Act.put,List.setIfInBounds_toArray,List.set_cons_zero,List.set_cons_succ,i64_w,i32_w]
                     rfl
                    refine pure_ (i:=5) (N:=some 94) (v:=?_) (a':=?_) #[true,true,true,true,true,true,false,false,false,false,false,false,false,false] rfl rfl (any_of HT_.out (by kernel_rfl)) (fun _ _ _ h=>h) (Or.inl ⟨by rfl,?_⟩) ?_ ?_
                    rotate_left
                    ·intro w'
                     go_simp
                     with_reducible rfl
                    rotate_left
                    ·simp only [Act.put,List.setIfInBounds_toArray,List.set_cons_zero,List.set_cons_succ,i64_w,i32_w]
                     rfl
                    refine pure_ (i:=6) (N:=some 95) (v:=?_) (a':=?_) #[true,true,true,true,true,true,true,false,false,false,false,false,false,false] rfl rfl (any_of HT_.out (by kernel_rfl)) (fun _ _ _ h=>h) (Or.inl ⟨by rfl,?_⟩) ?_ ?_
                    rotate_left
                    ·intro w'
                     go_simp
                     with_reducible rfl
                    rotate_left
                    ·simp only [Act.put,List.setIfInBounds_toArray,List.set_cons_zero,List.set_cons_succ,i64_w,i32_w]
                     rfl
                    refine pure_ (i:=7) (N:=some 96) (v:=?_) (a':=?_) #[true,true,true,true,true,true,true,true,false,false,false,false,false,false] rfl rfl (any_of HT_.out (by kernel_rfl)) (fun _ _ _ h=>h) (Or.inl ⟨by rfl,?_⟩) ?_ ?_
                    rotate_left
                    ·intro w'
                     go_simp
                     with_reducible rfl
                    rotate_left
                    ·simp only [Act.put,List.setIfInBounds_toArray,List.set_cons_zero,List.set_cons_succ,i64_w,i32_w]
                     rfl
                    refine one_ (i:=8) (N:=some 97) #[true,true,true,true,true,true,true,true,true,false,false,false,false,false] rfl rfl (one_of HT_.out (by kernel_rfl)) (by decide) (fun K hK=>?_)
                    refine goes_ Try.func13 (by kernel_rfl) rfl #[.slice A80 (m0_5_14.drop ((ji19):Int).toNat).length (c0-(ji19).toNat),.slice A81 (m1_14.drop ((ji19):Int).toNat).length (c1-(ji19).toNat)] (by rfl) rfl rfl (by (try simp only [List.map_toArray,List.map_cons,List.map_nil]);first|done|(rw [show(m0_5_14.drop ((ji19):Int).toNat).length=((ji14).toNat-(ji19).toNat) from (by rw [←hm0_5_14,List.length_drop,List.length_take];have h_:((ji14):Int)≤(m0_5.length:Int):=of_decide_eq_true (by first|(with_reducible assumption)|assumption);omega)]<;>rfl)|(rw [show(m1_14.drop ((ji19):Int).toNat).length=((ji14).toNat-(ji19).toNat) from (by rw [←hm1_14,List.length_drop,List.length_take];have h_:((ji14):Int)≤(l1.length:Int):=of_decide_eq_true (by first|(with_reducible assumption)|assumption);omega)]<;>rfl)|(simp only [hji14,hji19,hji5];rfl)|rfl|(simp only [List.length_drop,List.length_take];rfl)) ?_
                    with_reducible refine(sum_Dot.calls k _ _ (m0_5_14.drop ((ji19):Int).toNat) _ _ (m1_14.drop ((ji19):Int).toNat) t297 t298 _ ?side1 ?side2 ?side3 ?side4 A31.out).mono ?_
                    (case side1=>repeat (first|exact(Kd.C_below HR295.out HB.out)|(with_reducible refine Kd.C_alloc ?_ _)|(with_reducible refine Kd.C_drewN ?_ _)|(with_reducible refine Kd.C_drew ?_)))
                    (case side2=>exact HC295.out)
                    (case side3=>repeat (first|exact(Kd.C_below HR296.out HB.out)|(with_reducible refine Kd.C_alloc ?_ _)|(with_reducible refine Kd.C_drewN ?_ _)|(with_reducible refine Kd.C_drew ?_)))
                    (case side4=>exact HC296.out)
                    rintro e w82 ⟨rfl,hb⟩
                    refine⟨_,rfl,?_⟩
                    have n0_:=Aside0.mk (Kd.R_below (by (with_reducible repeat (first|apply Kd.R_alloc|apply Kd.R_drewN|apply Kd.R_drew));exact HO279.out) hb)
                    have n1_:=Aside0.mk (below_step (by repeat (first|(with_reducible first|exact HB.out|apply below_alloc|apply pw_below_drewN|apply below_drew1)|exact HB.out)) hb)
                    clear HO279
                    clear HB
                    have HO279:=n0_
                    have HB:=n1_
                    clear n0_ n1_
                    (try clear hb)
                    (try clear hb2)
                    (try clear hk)
                    (try clear hi)
                    refine hK.out _ _ trivial (fun hHeld=>?_)
                    clear hK K
                    refine norm_ (a':=?_) ?_ ?_
                    rotate_left
                    ·show Act.put _ (some 97) _=_
                     simp only [Act.put,List.setIfInBounds_toArray,List.set_cons_zero,List.set_cons_succ,i64_w,i32_w]
                     rfl
                    refine pure_ (i:=9) (N:=some 88) (v:=?_) (a':=?_) #[true,true,true,true,true,true,true,true,true,true,false,false,false,false] rfl rfl (any_of HT_.out (by kernel_rfl)) (fun _ _ _ h=>h) (Or.inl ⟨by rfl,?_⟩) ?_ ?_
                    rotate_left
                    ·intro w'
                     go_simp
                     with_reducible rfl
                    rotate_left
                    ·simp only [Act.put,List.setIfInBounds_toArray,List.set_cons_zero,List.set_cons_succ,i64_w,i32_w]
                     rfl
                    refine pure_ (i:=10) (N:=some 98) (v:=?_) (a':=?_) #[true,true,true,true,true,true,true,true,true,true,true,false,false,false] rfl rfl (any_of HT_.out (by kernel_rfl)) (fun _ _ _ h=>h) (Or.inl ⟨by rfl,?_⟩) ?_ ?_
                    rotate_left
                    ·intro w'
                     go_simp
                     with_reducible rfl
                    rotate_left
                    ·simp only [Act.put,List.setIfInBounds_toArray,List.set_cons_zero,List.set_cons_succ,i64_w,i32_w]
                     rfl
                    refine pure_ (i:=11) (N:=some 99) (v:=?_) (a':=?_) #[true,true,true,true,true,true,true,true,true,true,true,true,false,false] rfl rfl (any_of HT_.out (by kernel_rfl)) (fun _ _ _ h=>h) (Or.inl ⟨by rfl,?_⟩) ?_ ?_
                    rotate_left
                    ·intro w'
                     go_simp
                     with_reducible rfl
                    rotate_left
                    ·simp only [Act.put,List.setIfInBounds_toArray,List.set_cons_zero,List.set_cons_succ,i64_w,i32_w]
                     rfl
                    refine pure_ (i:=12) (N:=some 24) (v:=?_) (a':=?_) #[true,true,true,true,true,true,true,true,true,true,true,true,true,false] rfl rfl (any_of HT_.out (by kernel_rfl)) (fun _ _ _ h=>h) (Or.inl ⟨by rfl,?_⟩) ?_ ?_
                    rotate_left
                    ·intro w'
                     go_simp
                     with_reducible rfl
                    rotate_left
                    ·simp only [Act.put,List.setIfInBounds_toArray,List.set_cons_zero,List.set_cons_succ,i64_w,i32_w]
                     rfl
                    refine pure_ (i:=13) (N:=some 25) (v:=?_) (a':=?_) #[true,true,true,true,true,true,true,true,true,true,true,true,true,true] rfl rfl (any_of HT_.out (by kernel_rfl)) (fun _ _ _ h=>h) (Or.inl ⟨by rfl,?_⟩) ?_ ?_
                    rotate_left
                    ·intro w'
                     go_simp
                     with_reducible rfl
                    rotate_left
                    ·simp only [Act.put,List.setIfInBounds_toArray,List.set_cons_zero,List.set_cons_succ,i64_w,i32_w]
                     rfl
                    refine done_ (done_of HT_.out (by kernel_rfl)) ?_
                    try go_wp2_with (first|((with_reducible refine gate_callee (f:=17) rfl ?_);refine goesL_ (some 103) rfl rfl Try.func17 (by kernel_rfl) rfl #[.int .i64 t293,.int .i64 t297] rfl (by (try simp only [List.map_toArray,List.map_cons,List.map_nil]);first|done|rfl|(simp only [List.length_drop,List.length_take];rfl)) ?_;(with_reducible refine(fix_Add.calls t293 t297 t299 t300 _ A32.out).mono ?_);rintro e w83 ⟨rfl,hb⟩;refine⟨_,rfl,?_⟩;have n0_:=Aside0.mk (Kd.R_below (by (with_reducible repeat (first|apply Kd.R_alloc|apply Kd.R_drewN|apply Kd.R_drew));exact HO279.out) hb);have n1_:=Aside0.mk (below_step (by repeat (first|(with_reducible first|exact HB.out|apply below_alloc|apply pw_below_drewN|apply below_drew1)|exact HB.out)) hb);clear HO279;clear HB;have HO279:=n0_;have HB:=n1_;clear n0_ n1_;(try clear hb);(try clear hb2);(try clear hk);(try clear hi)))
                    go_ret
                    exact⟨by first|rfl|(simp [errW_none,errW_some]<;>rfl)|(simp only [←hji5,←hji14,←hji19];first|rfl|(simp [errW_none,errW_some]<;>rfl))|(simp [*,errW_none,errW_some]<;>rfl),by repeat (first|(with_reducible first|exact HB.out|apply below_alloc|apply pw_below_drewN|apply below_drew1)|exact HB.out)⟩
                   ·replace c61:=Bool.eq_false_iff.mpr c61
                    subst c61
                    have H1:(if t298=true then (some true) else (if t300=true then (some true) else (if (wrap64 (t289-t299))≤1 then (some (decide ((wrap64 (t299-t289))≤1))) else (some false))))=some r:=by rw [if_neg (show ¬(false=true) by decide)] at H;exact H
                    clear H
                    have H:=H1
                    clear H1
                    by_cases c84:t298=true
                    ·subst c84
                     have H1:(some true)=some r:=by rw [if_pos rfl] at H;exact H
                     clear H
                     have H:=H1
                     clear H1
                     clear hr
                     obtain rfl:=Option.some.inj H
                     go_enter Try.func6,Try.ntmps6
                     try go_wp2_with (first|((with_reducible refine gate_callee (f:=8) rfl ?_);refine goesL_ (some 28) rfl rfl Try.func8 (by kernel_rfl) rfl #[] rfl (by (try simp only [List.map_toArray,List.map_cons,List.map_nil]);first|done|rfl|(simp only [List.length_drop,List.length_take];rfl)) ?_;(with_reducible refine(outriggerlaw06_awake.calls k  true _ A4.out).mono ?_);rintro e w85 ⟨rfl,hb⟩;refine⟨_,rfl,?_⟩;have n0_:=Aside0.mk (below_step (by repeat (first|(with_reducible first|exact HB.out|apply below_alloc|apply pw_below_drewN|apply below_drew1)|exact HB.out)) hb);clear HB;have HB:=n0_;clear n0_;(try clear hb);(try clear hb2);(try clear hk);(try clear hi);obtain⟨i086,hi086,_,hsz86,_⟩:=info_parts info3;obtain⟨hcut86,hA86,hC86⟩:=print_take_of (P:=Try.prog) (Value.int .i64) 0 22 3 .i64 Try.underlying22 hi086 hsz86 A0 c0 l0 (ji5) (of_decide_eq_true (by first|(with_reducible assumption)|assumption)) (of_decide_eq_true (by first|(with_reducible assumption)|assumption)) HC0.out;rw [hm0_5] at hA86 hC86;simp only [hm0_5] at hcut86;have HR270:=Aside0.mk (Kd.C_of_reads (h1:=fun _=>rfl) (hA86 _ (Kd.reads_of_C HR0.out)));have HC270:=Aside0.mk hC86;clear hA86 hC86 hi086 hsz86)|((with_reducible refine gate_dst (N:=34) rfl ?_);refine Kd.R_lit (Kd.int .i64) _ 3 ?hg (N:=34) ?hd (xs:=([]:List Int)) (inner:=[]) (ok:=fun _=>True) (okp:=fun _=>True) ?hr ?hp (fun _ hk=>hk) trivial (Below.refl _ _) (Nat.le_refl _) (by simp) ?_;(case hd=>rfl);(case hg=>rfl);(case hr=>first|(go_simp;done)|(go_simp;rfl));(case hp=>exact(Reps.none _ _));intro v272 w87 ho88 hb hg_ hnew_;clear hg_ hnew_;(first|rw [←Ny271.out] at ho88|(simp only [Int.reduceToNat] at ho88;rw [←Ny271.out] at ho88));have n0_:=Aside0.mk (Kd.R_lower ho88 (below_size (by repeat (first|(with_reducible first|exact HB.out|apply below_alloc|apply pw_below_drewN|apply below_drew1)|exact HB.out))));have n1_:=Aside0.mk (below_step (by repeat (first|(with_reducible first|exact HB.out|apply below_alloc|apply pw_below_drewN|apply below_drew1)|exact HB.out)) hb);clear HB;have HO273:=n0_;have HB:=n1_;clear n0_ n1_;clear hb ho88)|((with_reducible refine gate_builtin (b:=.append) (xs:=#[.tmp 34,.tmp 35]) rfl ?_);at_builtin;refine Kd.R_append_rows (Kd.int .i64) (w0:=w) w.heap.size rfl (.tmp 34) (.tmp 35) 22 3 (.int .i64 0) 8 rfl Try.underlying22 info3 rfl (by decide) (by omega) v272 y271 m0_5 _ _ _ (fun _=>True) (fun _=>False) rfl rfl ?aO ?aR (fun _ _ h=>h) (fun _ h=>h.elim) ?aF ?aB ?aS ?aL ?_;(case aR=>first|(rw [←show m0_5.length=(ji5).toNat from (by rw [←hm0_5,List.length_take];have h_:((ji5):Int)≤(l0.length:Int):=of_decide_eq_true (by first|(with_reducible assumption)|assumption);omega)];repeat (first|exact(Kd.C_below HR270.out HB.out)|(with_reducible refine Kd.C_alloc ?_ _)|(with_reducible refine Kd.C_drewN ?_ _)|(with_reducible refine Kd.C_drew ?_)))|(repeat (first|exact(Kd.C_below HR270.out HB.out)|(with_reducible refine Kd.C_alloc ?_ _)|(with_reducible refine Kd.C_drewN ?_ _)|(with_reducible refine Kd.C_drew ?_))));(case aB=>exact(by repeat (first|(with_reducible first|exact HB.out|apply below_alloc|apply pw_below_drewN|apply below_drew1)|exact HB.out)));(case aF=>exact(fun _ _=>trivial));(case aO=>exact(by (with_reducible repeat (first|apply Kd.R_alloc|apply Kd.R_drewN|apply Kd.R_drew));exact HO273.out));(case aS=>exact(below_size (by repeat (first|(with_reducible first|exact HB.out|apply below_alloc|apply pw_below_drewN|apply below_drew1)|exact HB.out))));(case aL=>have:=LMc8.out;have hlx_:=(show m0_5.length=(ji5).toNat from (by rw [←hm0_5,List.length_take];have h_:((ji5):Int)≤(l0.length:Int):=of_decide_eq_true (by first|(with_reducible assumption)|assumption);omega));omega);intro v275 w89 ho hb hg hat;rw [←Ny274.out] at ho;have n0_:=Aside0.mk (hb);have n1_:=Aside0.mk (ho);clear HB;clear HO273;have HB:=n0_;have HO276:=n1_;clear n0_ n1_;clear ho hb hg hat)|((with_reducible refine gate_builtin (b:=.append) (xs:=#[.tmp 37,.tmp 38]) rfl ?_);at_builtin;refine Kd.R_append (Kd.int .i64) (w0:=w) w.heap.size rfl (.tmp 37) (.tmp 38) 22 3 (.int .i64 0) 8 rfl Try.underlying22 info3 rfl (by decide) (by omega) v275 y274 0 [.int .i64 0] (fun _=>True) (fun _=>False) rfl rfl ?aP (fun _ hk=>hk.elim) ?aF ?aO ?aB ?aS ?aL ?_;(case aP=>exact rfl);(case aB=>exact(by repeat (first|(with_reducible first|exact HB.out|apply below_alloc|apply pw_below_drewN|apply below_drew1)|exact HB.out)));(case aF=>exact(fun _ _=>trivial));(case aO=>exact(by (with_reducible repeat (first|apply Kd.R_alloc|apply Kd.R_drewN|apply Kd.R_drew));exact HO276.out));(case aS=>exact(below_size (by repeat (first|(with_reducible first|exact HB.out|apply below_alloc|apply pw_below_drewN|apply below_drew1)|exact HB.out))));(case aL=>have:=LMc9.out;omega);intro v278 w90 ho hb hg hat;rw [←Ny277.out] at ho;have n0_:=Aside0.mk (hb);have n1_:=Aside0.mk (ho);clear HB;clear HO276;have HB:=n0_;have HO279:=n1_;clear n0_ n1_;clear ho hb hg hat)|((with_reducible refine gate_callee (f:=9) rfl ?_);refine goesL_ (some 42) rfl rfl Try.func9 (by kernel_rfl) rfl #[.slice A0 m0_5.length c0] rfl (by (try simp only [List.map_toArray,List.map_cons,List.map_nil]);first|done|(rw [show m0_5.length=(ji5).toNat from (by rw [←hm0_5,List.length_take];have h_:((ji5):Int)≤(l0.length:Int):=of_decide_eq_true (by first|(with_reducible assumption)|assumption);omega)]<;>rfl)|(simp only [hji5];rfl)|rfl|(simp only [List.length_drop,List.length_take];rfl)) ?_;(with_reducible refine(sum_Total.calls k _ _ m0_5 t280 t281 _ ?side1 ?side2 A10.out).mono ?_);(case side1=>repeat (first|exact(Kd.C_below HR270.out HB.out)|(with_reducible refine Kd.C_alloc ?_ _)|(with_reducible refine Kd.C_drewN ?_ _)|(with_reducible refine Kd.C_drew ?_)));(case side2=>exact HC270.out);rintro e w91 ⟨rfl,hb⟩;refine⟨_,rfl,?_⟩;have n0_:=Aside0.mk (Kd.R_below (by (with_reducible repeat (first|apply Kd.R_alloc|apply Kd.R_drewN|apply Kd.R_drew));exact HO279.out) hb);have n1_:=Aside0.mk (below_step (by repeat (first|(with_reducible first|exact HB.out|apply below_alloc|apply pw_below_drewN|apply below_drew1)|exact HB.out)) hb);clear HO279;clear HB;have HO279:=n0_;have HB:=n1_;clear n0_ n1_;(try clear hb);(try clear hb2);(try clear hk);(try clear hi);obtain⟨Ao92,co92,eo92⟩:=Kd.R_slice HO279.out;subst eo92)|((with_reducible refine gate_callee (f:=9) rfl ?_);refine goesL_ (some 47) rfl rfl Try.func9 (by kernel_rfl) rfl #[.slice Ao92 y277.length co92] rfl (by (try simp only [List.map_toArray,List.map_cons,List.map_nil]);first|done|rfl|(simp only [List.length_drop,List.length_take];rfl)) ?_;(with_reducible refine(sum_Total.calls k _ _ y277 t282 t283 _ ?side1 ?side2 A11.out).mono ?_);(case side1=>repeat (first|exact(Kd.R_reads' HO279.out).2.2|(with_reducible refine Kd.C_alloc ?_ _)|(with_reducible refine Kd.C_drewN ?_ _)|(with_reducible refine Kd.C_drew ?_)));(case side2=>exact(Kd.R_reads' HO279.out).2.1);rintro e w93 ⟨rfl,hb⟩;refine⟨_,rfl,?_⟩;have n0_:=Aside0.mk (Kd.R_below (by (with_reducible repeat (first|apply Kd.R_alloc|apply Kd.R_drewN|apply Kd.R_drew));exact HO279.out) hb);have n1_:=Aside0.mk (below_step (by repeat (first|(with_reducible first|exact HB.out|apply below_alloc|apply pw_below_drewN|apply below_drew1)|exact HB.out)) hb);clear HO279;clear HB;have HO279:=n0_;have HB:=n1_;clear n0_ n1_;(try clear hb);(try clear hb2);(try clear hk);(try clear hi))|((with_reducible refine gate_callee (f:=15) rfl ?_);refine goesL_ (some 52) rfl rfl Try.func15 (by kernel_rfl) rfl #[.slice A0 m0_5.length c0] rfl (by (try simp only [List.map_toArray,List.map_cons,List.map_nil]);first|done|(rw [show m0_5.length=(ji5).toNat from (by rw [←hm0_5,List.length_take];have h_:((ji5):Int)≤(l0.length:Int):=of_decide_eq_true (by first|(with_reducible assumption)|assumption);omega)]<;>rfl)|(simp only [hji5];rfl)|rfl|(simp only [List.length_drop,List.length_take];rfl)) ?_;(with_reducible refine(sum_Norm.calls k _ _ m0_5 t284 t285 _ ?side1 ?side2 A12.out).mono ?_);(case side1=>repeat (first|exact(Kd.C_below HR270.out HB.out)|(with_reducible refine Kd.C_alloc ?_ _)|(with_reducible refine Kd.C_drewN ?_ _)|(with_reducible refine Kd.C_drew ?_)));(case side2=>exact HC270.out);rintro e w94 ⟨rfl,hb⟩;refine⟨_,rfl,?_⟩;have n0_:=Aside0.mk (Kd.R_below (by (with_reducible repeat (first|apply Kd.R_alloc|apply Kd.R_drewN|apply Kd.R_drew));exact HO279.out) hb);have n1_:=Aside0.mk (below_step (by repeat (first|(with_reducible first|exact HB.out|apply below_alloc|apply pw_below_drewN|apply below_drew1)|exact HB.out)) hb);clear HO279;clear HB;have HO279:=n0_;have HB:=n1_;clear n0_ n1_;(try clear hb);(try clear hb2);(try clear hk);(try clear hi))|((with_reducible refine gate_callee (f:=15) rfl ?_);refine goesL_ (some 57) rfl rfl Try.func15 (by kernel_rfl) rfl #[.slice Ao92 y277.length co92] rfl (by (try simp only [List.map_toArray,List.map_cons,List.map_nil]);first|done|rfl|(simp only [List.length_drop,List.length_take];rfl)) ?_;(with_reducible refine(sum_Norm.calls k _ _ y277 t286 t287 _ ?side1 ?side2 A13.out).mono ?_);(case side1=>repeat (first|exact(Kd.R_reads' HO279.out).2.2|(with_reducible refine Kd.C_alloc ?_ _)|(with_reducible refine Kd.C_drewN ?_ _)|(with_reducible refine Kd.C_drew ?_)));(case side2=>exact(Kd.R_reads' HO279.out).2.1);rintro e w95 ⟨rfl,hb⟩;refine⟨_,rfl,?_⟩;have n0_:=Aside0.mk (Kd.R_below (by (with_reducible repeat (first|apply Kd.R_alloc|apply Kd.R_drewN|apply Kd.R_drew));exact HO279.out) hb);have n1_:=Aside0.mk (below_step (by repeat (first|(with_reducible first|exact HB.out|apply below_alloc|apply pw_below_drewN|apply below_drew1)|exact HB.out)) hb);clear HO279;clear HB;have HO279:=n0_;have HB:=n1_;clear n0_ n1_;(try clear hb);(try clear hb2);(try clear hk);(try clear hi);obtain⟨i096,hi096,_,hsz96,_⟩:=info_parts info3;obtain⟨hcut96,hA96,hC96⟩:=print_take_of (P:=Try.prog) (Value.int .i64) 0 22 3 .i64 Try.underlying22 hi096 hsz96 A1 c1 l1 (ji14) (of_decide_eq_true (by first|(with_reducible assumption)|assumption)) (of_decide_eq_true (by first|(with_reducible assumption)|assumption)) HC1.out;rw [hm1_14] at hA96 hC96;simp only [hm1_14] at hcut96;have HR288:=Aside0.mk (Kd.C_of_reads (h1:=fun _=>rfl) (hA96 _ (Kd.reads_of_C HR1.out)));have HC288:=Aside0.mk hC96;clear hA96 hC96 hi096 hsz96)|((with_reducible refine gate_callee (f:=13) rfl ?_);refine goesL_ (some 75) rfl rfl Try.func13 (by kernel_rfl) rfl #[.slice A0 m0_5.length c0,.slice A1 m1_14.length c1] rfl (by (try simp only [List.map_toArray,List.map_cons,List.map_nil]);first|done|(rw [show m0_5.length=(ji5).toNat from (by rw [←hm0_5,List.length_take];have h_:((ji5):Int)≤(l0.length:Int):=of_decide_eq_true (by first|(with_reducible assumption)|assumption);omega)]<;>rfl)|(rw [show m1_14.length=(ji14).toNat from (by rw [←hm1_14,List.length_take];have h_:((ji14):Int)≤(l1.length:Int):=of_decide_eq_true (by first|(with_reducible assumption)|assumption);omega)]<;>rfl)|(simp only [hji14,hji5];rfl)|rfl|(simp only [List.length_drop,List.length_take];rfl)) ?_;(with_reducible refine(sum_Dot.calls k _ _ m0_5 _ _ m1_14 t289 false _ ?side1 ?side2 ?side3 ?side4 A18.out).mono ?_);(case side1=>repeat (first|exact(Kd.C_below HR270.out HB.out)|(with_reducible refine Kd.C_alloc ?_ _)|(with_reducible refine Kd.C_drewN ?_ _)|(with_reducible refine Kd.C_drew ?_)));(case side2=>exact HC270.out);(case side3=>repeat (first|exact(Kd.C_below HR288.out HB.out)|(with_reducible refine Kd.C_alloc ?_ _)|(with_reducible refine Kd.C_drewN ?_ _)|(with_reducible refine Kd.C_drew ?_)));(case side4=>exact HC288.out);rintro e w97 ⟨rfl,hb⟩;refine⟨_,rfl,?_⟩;have n0_:=Aside0.mk (Kd.R_below (by (with_reducible repeat (first|apply Kd.R_alloc|apply Kd.R_drewN|apply Kd.R_drew));exact HO279.out) hb);have n1_:=Aside0.mk (below_step (by repeat (first|(with_reducible first|exact HB.out|apply below_alloc|apply pw_below_drewN|apply below_drew1)|exact HB.out)) hb);clear HO279;clear HB;have HO279:=n0_;have HB:=n1_;clear n0_ n1_;(try clear hb);(try clear hb2);(try clear hk);(try clear hi)))
                     have n0_:=Aside0.mk (Kd.R_drew HO279.out)
                     have n1_:=Aside0.mk (below_drew1 HB.out)
                     clear HO279
                     clear HB
                     have HO279:=n0_
                     have HB:=n1_
                     clear n0_ n1_
                     obtain⟨i099,hi099,_,hsz99,_⟩:=info_parts info3
                     obtain⟨hcut99,hA99,hC99⟩:=print_take_of (P:=Try.prog) (Value.int .i64) 0 22 3 .i64 Try.underlying22 hi099 hsz99 A0 c0 m0_5 (ji19) (of_decide_eq_true (by first|(with_reducible assumption)|assumption)) (of_decide_eq_true (by first|(with_reducible assumption)|assumption)) HC270.out;rw [hm0_5_19] at hA99 hC99;simp only [hm0_5_19] at hcut99
                     have HR291:=Aside0.mk (Kd.C_of_reads (h1:=fun _=>rfl) (hA99 _ (Kd.reads_of_C HR270.out)))
                     have HC291:=Aside0.mk hC99
                     clear hA99 hC99 hi099 hsz99
                     obtain⟨i0100,hi0100,_,hsz100,_⟩:=info_parts info3
                     obtain⟨hcut100,hA100,hC100⟩:=print_take_of (P:=Try.prog) (Value.int .i64) 0 22 3 .i64 Try.underlying22 hi0100 hsz100 A1 c1 l1 (ji19) (of_decide_eq_true (by first|(with_reducible assumption)|assumption)) (of_decide_eq_true (by first|(with_reducible assumption)|assumption)) HC1.out;rw [hm1_19] at hA100 hC100;simp only [hm1_19] at hcut100
                     have HR292:=Aside0.mk (Kd.C_of_reads (h1:=fun _=>rfl) (hA100 _ (Kd.reads_of_C HR1.out)))
                     have HC292:=Aside0.mk hC100
                     clear hA100 hC100 hi0100 hsz100
                     refine start_ (n:=12) (S:=fun w'=>True) (ds:=[]) #[false,false,false,false,false,false,false,false,false,false,false,false] (by kernel_rfl) rfl rfl trivial (fun hHeld=>?_);refine with_tabW outriggerlaw06_SumZero.tab12 outriggerlaw06_SumZero.bits12 (fun HT_ HW_=>?_)
                     generalize w97.drew=w98 at HO279 HB HR291 HR292 hHeld ⊢
                     refine pure_ (i:=0) (N:=some 79) (v:=?_) (a':=?_) #[true,false,false,false,false,false,false,false,false,false,false,false] rfl rfl (any_of HT_.out (by kernel_rfl)) (fun _ _ _ h=>h) (Or.inl ⟨by rfl,?_⟩) ?_ ?_
                     rotate_left
                     ·intro w'
                      go_simp
                      with_reducible rfl
                     rotate_left
                     ·simp only [Act.put,List.setIfInBounds_toArray,List.set_cons_zero,List.set_cons_succ,i64_w,i32_w]
                      rfl
                     refine pure_ (i:=1) (N:=some 80) (v:=?_) (a':=?_) #[true,true,false,false,false,false,false,false,false,false,false,false] rfl rfl (any_of HT_.out (by kernel_rfl)) (fun _ _ _ h=>h) (Or.inl ⟨by rfl,?_⟩) ?_ ?_
                     rotate_left
                     ·intro w'
                      go_simp
                      with_reducible rfl
                     rotate_left
                     ·simp only [Act.put,List.setIfInBounds_toArray,List.set_cons_zero,List.set_cons_succ,i64_w,i32_w]
                      rfl
                     refine pure_ (i:=2) (N:=some 81) (v:=?_) (a':=?_) #[true,true,true,false,false,false,false,false,false,false,false,false] rfl rfl (any_of HT_.out (by kernel_rfl)) (fun _ _ _ h=>h) (Or.inl ⟨by rfl,?_⟩) ?_ ?_
                     rotate_left
                     ·intro w'
                      go_simp
                      with_reducible rfl
                     rotate_left
                     ·simp only [Act.put,List.setIfInBounds_toArray,List.set_cons_zero,List.set_cons_succ,i64_w,i32_w]
                      rfl
                     refine pure_ (i:=3) (N:=some 82) (v:=?_) (a':=?_) #[true,true,true,true,false,false,false,false,false,false,false,false] rfl rfl (any_of HT_.out (by kernel_rfl)) (fun _ _ _ h=>h) (Or.inl ⟨by rfl,?_⟩) ?_ ?_
                     rotate_left
                     ·intro w'
                      go_simp
                      with_reducible rfl
                     rotate_left
                     ·simp only [Act.put,List.setIfInBounds_toArray,List.set_cons_zero,List.set_cons_succ,i64_w,i32_w]
                      rfl
                     refine pure_ (i:=4) (N:=some 83) (v:=?_) (a':=?_) #[true,true,true,true,true,false,false,false,false,false,false,false] rfl rfl (any_of HT_.out (by kernel_rfl)) (fun _ _ _ h=>h) (Or.inl ⟨by rfl,?_⟩) ?_ ?_
                     rotate_left
                     ·intro w'
                      go_simp
                      with_reducible rfl
                     rotate_left
                     ·simp only [Act.put,List.setIfInBounds_toArray,List.set_cons_zero,List.set_cons_succ,i64_w,i32_w]
                      rfl
                     refine pure_ (i:=5) (N:=some 84) (v:=?_) (a':=?_) #[true,true,true,true,true,true,false,false,false,false,false,false] rfl rfl (any_of HT_.out (by kernel_rfl)) (fun _ _ _ h=>h) (Or.inl ⟨by rfl,?_⟩) ?_ ?_
                     rotate_left
                     ·intro w'
                      go_simp
                      with_reducible rfl
                     rotate_left
                     ·simp only [Act.put,List.setIfInBounds_toArray,List.set_cons_zero,List.set_cons_succ,i64_w,i32_w]
                      rfl
                     refine one_ (i:=6) (N:=some 85) #[true,true,true,true,true,true,true,false,false,false,false,false] rfl rfl (one_of HT_.out (by kernel_rfl)) (by decide) (fun K hK=>?_)
                     refine goes_ Try.func13 (by kernel_rfl) rfl #[.slice A0 m0_5_19.length c0,.slice A1 m1_19.length c1] (by rfl) rfl rfl (by (try simp only [List.map_toArray,List.map_cons,List.map_nil]);first|done|(rw [show m0_5_19.length=(ji19).toNat from (by rw [←hm0_5_19,List.length_take];have h_:((ji19):Int)≤(m0_5.length:Int):=of_decide_eq_true (by first|(with_reducible assumption)|assumption);omega)]<;>rfl)|(rw [show m1_19.length=(ji19).toNat from (by rw [←hm1_19,List.length_take];have h_:((ji19):Int)≤(l1.length:Int):=of_decide_eq_true (by first|(with_reducible assumption)|assumption);omega)]<;>rfl)|(simp only [hji19,hji5];rfl)|rfl|(simp only [List.length_drop,List.length_take];rfl)) ?_
                     with_reducible refine(sum_Dot.calls k _ _ m0_5_19 _ _ m1_19 t293 false _ ?side1 ?side2 ?side3 ?side4 A24.out).mono ?_
                     (case side1=>repeat (first|exact(Kd.C_below HR291.out HB.out)|(with_reducible refine Kd.C_alloc ?_ _)|(with_reducible refine Kd.C_drewN ?_ _)|(with_reducible refine Kd.C_drew ?_)))
                     (case side2=>exact HC291.out)
                     (case side3=>repeat (first|exact(Kd.C_below HR292.out HB.out)|(with_reducible refine Kd.C_alloc ?_ _)|(with_reducible refine Kd.C_drewN ?_ _)|(with_reducible refine Kd.C_drew ?_)))
                     (case side4=>exact HC292.out)
                     rintro e w101 ⟨rfl,hb⟩
                     refine⟨_,rfl,?_⟩
                     have n0_:=Aside0.mk (Kd.R_below (by (with_reducible repeat (first|apply Kd.R_alloc|apply Kd.R_drewN|apply Kd.R_drew));exact HO279.out) hb)
                     have n1_:=Aside0.mk (below_step (by repeat (first|(with_reducible first|exact HB.out|apply below_alloc|apply pw_below_drewN|apply below_drew1)|exact HB.out)) hb)
                     clear HO279
                     clear HB
                     have HO279:=n0_
                     have HB:=n1_
                     clear n0_ n1_
                     (try clear hb)
                     (try clear hb2)
                     (try clear hk)
                     (try clear hi)
                     refine hK.out _ _ trivial (fun hHeld=>?_)
                     clear hK K
                     refine norm_ (a':=?_) ?_ ?_
                     rotate_left
                     ·show Act.put _ (some 85) _=_
                      simp only [Act.put,List.setIfInBounds_toArray,List.set_cons_zero,List.set_cons_succ,i64_w,i32_w]
                      rfl
                     refine pure_ (i:=7) (N:=some 78) (v:=?_) (a':=?_) #[true,true,true,true,true,true,true,true,false,false,false,false] rfl rfl (any_of HT_.out (by kernel_rfl)) (fun _ _ _ h=>h) (Or.inl ⟨by rfl,?_⟩) ?_ ?_
                     rotate_left
                     ·intro w'
                      go_simp
                      with_reducible rfl
                     rotate_left
                     ·simp only [Act.put,List.setIfInBounds_toArray,List.set_cons_zero,List.set_cons_succ,i64_w,i32_w]
                      rfl
                     refine pure_ (i:=8) (N:=some 86) (v:=?_) (a':=?_) #[true,true,true,true,true,true,true,true,true,false,false,false] rfl rfl (any_of HT_.out (by kernel_rfl)) (fun _ _ _ h=>h) (Or.inl ⟨by rfl,?_⟩) ?_ ?_
                     rotate_left
                     ·intro w'
                      go_simp
                      with_reducible rfl
                     rotate_left
                     ·simp only [Act.put,List.setIfInBounds_toArray,List.set_cons_zero,List.set_cons_succ,i64_w,i32_w]
                      rfl
                     refine pure_ (i:=9) (N:=some 87) (v:=?_) (a':=?_) #[true,true,true,true,true,true,true,true,true,true,false,false] rfl rfl (any_of HT_.out (by kernel_rfl)) (fun _ _ _ h=>h) (Or.inl ⟨by rfl,?_⟩) ?_ ?_
                     rotate_left
                     ·intro w'
                      go_simp
                      with_reducible rfl
                     rotate_left
                     ·simp only [Act.put,List.setIfInBounds_toArray,List.set_cons_zero,List.set_cons_succ,i64_w,i32_w]
                      rfl
                     refine pure_ (i:=10) (N:=some 22) (v:=?_) (a':=?_) #[true,true,true,true,true,true,true,true,true,true,true,false] rfl rfl (any_of HT_.out (by kernel_rfl)) (fun _ _ _ h=>h) (Or.inl ⟨by rfl,?_⟩) ?_ ?_
                     rotate_left
                     ·intro w'
                      go_simp
                      with_reducible rfl
                     rotate_left
                     ·simp only [Act.put,List.setIfInBounds_toArray,List.set_cons_zero,List.set_cons_succ,i64_w,i32_w]
                      rfl
                     refine pure_ (i:=11) (N:=some 23) (v:=?_) (a':=?_) #[true,true,true,true,true,true,true,true,true,true,true,true] rfl rfl (any_of HT_.out (by kernel_rfl)) (fun _ _ _ h=>h) (Or.inl ⟨by rfl,?_⟩) ?_ ?_
                     rotate_left
                     ·intro w'
                      go_simp
                      with_reducible rfl
                     rotate_left
                     ·simp only [Act.put,List.setIfInBounds_toArray,List.set_cons_zero,List.set_cons_succ,i64_w,i32_w]
                      rfl
                     refine done_ (done_of HT_.out (by kernel_rfl)) ?_
                     try go_wp2
                     have n0_:=Aside0.mk (Kd.R_drew HO279.out)
                     have n1_:=Aside0.mk (below_drew1 HB.out)
                     clear HO279
                     clear HB
                     have HO279:=n0_
                     have HB:=n1_
                     clear n0_ n1_
                     obtain⟨i0103,hi0103,_,hsz103,_⟩:=info_parts info3
                     obtain⟨A103,hcut103,hA103,hC103⟩:=print_mid_of (P:=Try.prog) (Value.int .i64) 0 22 3 .i64 .i64 Try.underlying22 hi0103 hsz103 A0 c0 m0_5 (ji19) (ji14) (of_decide_eq_true (by first|(with_reducible assumption)|assumption)) (by first|omega|exact of_decide_eq_true (by first|(with_reducible assumption)|assumption)) (of_decide_eq_true (by first|(with_reducible assumption)|assumption)) HC270.out
                     rw [hm0_5_14] at hA103 hC103
                     try simp only [hm0_5_14] at hcut103
                     have HR295:=Aside0.mk (Kd.C_of_reads (h1:=fun _=>rfl) (hA103 _ (Kd.reads_of_C HR270.out)))
                     have HC295:=Aside0.mk hC103
                     clear hA103 hC103 hi0103 hsz103
                     obtain⟨i0104,hi0104,_,hsz104,_⟩:=info_parts info3
                     obtain⟨A104,hcut104,hA104,hC104⟩:=print_mid_of (P:=Try.prog) (Value.int .i64) 0 22 3 .i64 .i64 Try.underlying22 hi0104 hsz104 A1 c1 l1 (ji19) (ji14) (of_decide_eq_true (by first|(with_reducible assumption)|assumption)) (by first|omega|exact of_decide_eq_true (by first|(with_reducible assumption)|assumption)) (of_decide_eq_true (by first|(with_reducible assumption)|assumption)) HC1.out
                     rw [hm1_14] at hA104 hC104
                     try simp only [hm1_14] at hcut104
                     have HR296:=Aside0.mk (Kd.C_of_reads (h1:=fun _=>rfl) (hA104 _ (Kd.reads_of_C HR1.out)))
                     have HC296:=Aside0.mk hC104
                     clear hA104 hC104 hi0104 hsz104
                     refine start_ (n:=14) (S:=fun w'=>True) (ds:=[]) #[false,false,false,false,false,false,false,false,false,false,false,false,false,false] (by kernel_rfl) rfl rfl trivial (fun hHeld=>?_);refine with_tabW outriggerlaw06_SumZero.tab13 outriggerlaw06_SumZero.bits13 (fun HT_ HW_=>?_)
                     generalize w101.drew=w102 at HO279 HB HR295 HR296 hHeld ⊢
                     refine pure_ (i:=0) (N:=some 89) (v:=?_) (a':=?_) #[true,false,false,false,false,false,false,false,false,false,false,false,false,false] rfl rfl (any_of HT_.out (by kernel_rfl)) (fun _ _ _ h=>h) (Or.inl ⟨by rfl,?_⟩) ?_ ?_
                     rotate_left
                     ·intro w'
                      go_simp
                      with_reducible rfl
                     rotate_left
                     ·simp only [Act.put,List.setIfInBounds_toArray,List.set_cons_zero,List.set_cons_succ,i64_w,i32_w]
                      rfl
                     refine pure_ (i:=1) (N:=some 90) (v:=?_) (a':=?_) #[true,true,false,false,false,false,false,false,false,false,false,false,false,false] rfl rfl (any_of HT_.out (by kernel_rfl)) (fun _ _ _ h=>h) (Or.inl ⟨by rfl,?_⟩) ?_ ?_
                     rotate_left
                     ·intro w'
                      go_simp
                      with_reducible rfl
                     rotate_left
                     ·simp only [Act.put,List.setIfInBounds_toArray,List.set_cons_zero,List.set_cons_succ,i64_w,i32_w]
                      rfl
                     refine pure_ (i:=2) (N:=some 91) (v:=?_) (a':=?_) #[true,true,true,false,false,false,false,false,false,false,false,false,false,false] rfl rfl (any_of HT_.out (by kernel_rfl)) (fun _ _ _ h=>h) (Or.inl ⟨by rfl,?_⟩) ?_ ?_
                     rotate_left
                     ·intro w'
                      go_simp
                      with_reducible rfl
                     rotate_left
                     ·simp only [Act.put,List.setIfInBounds_toArray,List.set_cons_zero,List.set_cons_succ,i64_w,i32_w]
                      rfl
                     refine pure_ (i:=3) (N:=some 92) (v:=?_) (a':=?_) #[true,true,true,true,false,false,false,false,false,false,false,false,false,false] rfl rfl (any_of HT_.out (by kernel_rfl)) (fun _ _ _ h=>h) (Or.inl ⟨by rfl,?_⟩) ?_ ?_
                     rotate_left
                     ·intro w'
                      go_simp
                      with_reducible rfl
                     rotate_left
                     ·simp only [Act.put,List.setIfInBounds_toArray,List.set_cons_zero,List.set_cons_succ,i64_w,i32_w]
                      rfl
                     refine pure_ (i:=4) (N:=some 93) (v:=?_) (a':=?_) #[true,true,true,true,true,false,false,false,false,false,false,false,false,false] rfl rfl (any_of HT_.out (by kernel_rfl)) (fun _ _ _ h=>h) (Or.inl ⟨by rfl,?_⟩) ?_ ?_
                     rotate_left
                     ·intro w'
                      go_simp
                      with_reducible rfl
                     rotate_left
                     ·simp only [Act.put,List.setIfInBounds_toArray,List.set_cons_zero,List.set_cons_succ,i64_w,i32_w]
                      rfl
                     refine pure_ (i:=5) (N:=some 94) (v:=?_) (a':=?_) #[true,true,true,true,true,true,false,false,false,false,false,false,false,false] rfl rfl (any_of HT_.out (by kernel_rfl)) (fun _ _ _ h=>h) (Or.inl ⟨by rfl,?_⟩) ?_ ?_
                     rotate_left
                     ·intro w'
                      go_simp
                      with_reducible rfl
                     rotate_left
                     ·simp only [Act.put,List.setIfInBounds_toArray,List.set_cons_zero,List.set_cons_succ,i64_w,i32_w]
                      rfl
                     refine pure_ (i:=6) (N:=some 95) (v:=?_) (a':=?_) #[true,true,true,true,true,true,true,false,false,false,false,false,false,false] rfl rfl (any_of HT_.out (by kernel_rfl)) (fun _ _ _ h=>h) (Or.inl ⟨by rfl,?_⟩) ?_ ?_
                     rotate_left
                     ·intro w'
                      go_simp
                      with_reducible rfl
                     rotate_left
                     ·simp only [Act.put,List.setIfInBounds_toArray,List.set_cons_zero,List.set_cons_succ,i64_w,i32_w]
                      rfl
                     refine pure_ (i:=7) (N:=some 96) (v:=?_) (a':=?_) #[true,true,true,true,true,true,true,true,false,false,false,false,false,false] rfl rfl (any_of HT_.out (by kernel_rfl)) (fun _ _ _ h=>h) (Or.inl ⟨by rfl,?_⟩) ?_ ?_
                     rotate_left
                     ·intro w'
                      go_simp
                      with_reducible rfl
                     rotate_left
                     ·simp only [Act.put,List.setIfInBounds_toArray,List.set_cons_zero,List.set_cons_succ,i64_w,i32_w]
                      rfl
                     refine one_ (i:=8) (N:=some 97) #[true,true,true,true,true,true,true,true,true,false,false,false,false,false] rfl rfl (one_of HT_.out (by kernel_rfl)) (by decide) (fun K hK=>?_)
                     refine goes_ Try.func13 (by kernel_rfl) rfl #[.slice A103 (m0_5_14.drop ((ji19):Int).toNat).length (c0-(ji19).toNat),.slice A104 (m1_14.drop ((ji19):Int).toNat).length (c1-(ji19).toNat)] (by rfl) rfl rfl (by (try simp only [List.map_toArray,List.map_cons,List.map_nil]);first|done|(rw [show(m0_5_14.drop ((ji19):Int).toNat).length=((ji14).toNat-(ji19).toNat) from (by rw [←hm0_5_14,List.length_drop,List.length_take];have h_:((ji14):Int)≤(m0_5.length:Int):=of_decide_eq_true (by first|(with_reducible assumption)|assumption);omega)]<;>rfl)|(rw [show(m1_14.drop ((ji19):Int).toNat).length=((ji14).toNat-(ji19).toNat) from (by rw [←hm1_14,List.length_drop,List.length_take];have h_:((ji14):Int)≤(l1.length:Int):=of_decide_eq_true (by first|(with_reducible assumption)|assumption);omega)]<;>rfl)|(simp only [hji14,hji19,hji5];rfl)|rfl|(simp only [List.length_drop,List.length_take];rfl)) ?_
                     with_reducible refine(sum_Dot.calls k _ _ (m0_5_14.drop ((ji19):Int).toNat) _ _ (m1_14.drop ((ji19):Int).toNat) t297 true _ ?side1 ?side2 ?side3 ?side4 A31.out).mono ?_
                     (case side1=>repeat (first|exact(Kd.C_below HR295.out HB.out)|(with_reducible refine Kd.C_alloc ?_ _)|(with_reducible refine Kd.C_drewN ?_ _)|(with_reducible refine Kd.C_drew ?_)))
                     (case side2=>exact HC295.out)
                     (case side3=>repeat (first|exact(Kd.C_below HR296.out HB.out)|(with_reducible refine Kd.C_alloc ?_ _)|(with_reducible refine Kd.C_drewN ?_ _)|(with_reducible refine Kd.C_drew ?_)))
                     (case side4=>exact HC296.out)
                     rintro e w105 ⟨rfl,hb⟩
                     refine⟨_,rfl,?_⟩
                     have n0_:=Aside0.mk (Kd.R_below (by (with_reducible repeat (first|apply Kd.R_alloc|apply Kd.R_drewN|apply Kd.R_drew));exact HO279.out) hb)
                     have n1_:=Aside0.mk (below_step (by repeat (first|(with_reducible first|exact HB.out|apply below_alloc|apply pw_below_drewN|apply below_drew1)|exact HB.out)) hb)
                     clear HO279
                     clear HB
                     have HO279:=n0_
                     have HB:=n1_
                     clear n0_ n1_
                     (try clear hb)
                     (try clear hb2)
                     (try clear hk)
                     (try clear hi)
                     refine hK.out _ _ trivial (fun hHeld=>?_)
                     clear hK K
                     refine norm_ (a':=?_) ?_ ?_
                     rotate_left
                     ·show Act.put _ (some 97) _=_
                      simp only [Act.put,List.setIfInBounds_toArray,List.set_cons_zero,List.set_cons_succ,i64_w,i32_w]
                      rfl
                     refine pure_ (i:=9) (N:=some 88) (v:=?_) (a':=?_) #[true,true,true,true,true,true,true,true,true,true,false,false,false,false] rfl rfl (any_of HT_.out (by kernel_rfl)) (fun _ _ _ h=>h) (Or.inl ⟨by rfl,?_⟩) ?_ ?_
                     rotate_left
                     ·intro w'
                      go_simp
                      with_reducible rfl
                     rotate_left
                     ·simp only [Act.put,List.setIfInBounds_toArray,List.set_cons_zero,List.set_cons_succ,i64_w,i32_w]
                      rfl
                     refine pure_ (i:=10) (N:=some 98) (v:=?_) (a':=?_) #[true,true,true,true,true,true,true,true,true,true,true,false,false,false] rfl rfl (any_of HT_.out (by kernel_rfl)) (fun _ _ _ h=>h) (Or.inl ⟨by rfl,?_⟩) ?_ ?_
                     rotate_left
                     ·intro w'
                      go_simp
                      with_reducible rfl
                     rotate_left
                     ·simp only [Act.put,List.setIfInBounds_toArray,List.set_cons_zero,List.set_cons_succ,i64_w,i32_w]
                      rfl
                     refine pure_ (i:=11) (N:=some 99) (v:=?_) (a':=?_) #[true,true,true,true,true,true,true,true,true,true,true,true,false,false] rfl rfl (any_of HT_.out (by kernel_rfl)) (fun _ _ _ h=>h) (Or.inl ⟨by rfl,?_⟩) ?_ ?_
                     rotate_left
                     ·intro w'
                      go_simp
                      with_reducible rfl
                     rotate_left
                     ·simp only [Act.put,List.setIfInBounds_toArray,List.set_cons_zero,List.set_cons_succ,i64_w,i32_w]
                      rfl
                     refine pure_ (i:=12) (N:=some 24) (v:=?_) (a':=?_) #[true,true,true,true,true,true,true,true,true,true,true,true,true,false] rfl rfl (any_of HT_.out (by kernel_rfl)) (fun _ _ _ h=>h) (Or.inl ⟨by rfl,?_⟩) ?_ ?_
                     rotate_left
                     ·intro w'
                      go_simp
                      with_reducible rfl
                     rotate_left
                     ·simp only [Act.put,List.setIfInBounds_toArray,List.set_cons_zero,List.set_cons_succ,i64_w,i32_w]
                      rfl
                     refine pure_ (i:=13) (N:=some 25) (v:=?_) (a':=?_) #[true,true,true,true,true,true,true,true,true,true,true,true,true,true] rfl rfl (any_of HT_.out (by kernel_rfl)) (fun _ _ _ h=>h) (Or.inl ⟨by rfl,?_⟩) ?_ ?_
                     rotate_left
                     ·intro w'
                      go_simp
                      with_reducible rfl
                     rotate_left
                     ·simp only [Act.put,List.setIfInBounds_toArray,List.set_cons_zero,List.set_cons_succ,i64_w,i32_w]
                      rfl
                     refine done_ (done_of HT_.out (by kernel_rfl)) ?_
                     try go_wp2_with (first|((with_reducible refine gate_callee (f:=17) rfl ?_);refine goesL_ (some 103) rfl rfl Try.func17 (by kernel_rfl) rfl #[.int .i64 t293,.int .i64 t297] rfl (by (try simp only [List.map_toArray,List.map_cons,List.map_nil]);first|done|rfl|(simp only [List.length_drop,List.length_take];rfl)) ?_;(with_reducible refine(fix_Add.calls t293 t297 t299 t300 _ A32.out).mono ?_);rintro e w106 ⟨rfl,hb⟩;refine⟨_,rfl,?_⟩;have n0_:=Aside0.mk (Kd.R_below (by (with_reducible repeat (first|apply Kd.R_alloc|apply Kd.R_drewN|apply Kd.R_drew));exact HO279.out) hb);have n1_:=Aside0.mk (below_step (by repeat (first|(with_reducible first|exact HB.out|apply below_alloc|apply pw_below_drewN|apply below_drew1)|exact HB.out)) hb);clear HO279;clear HB;have HO279:=n0_;have HB:=n1_;clear n0_ n1_;(try clear hb);(try clear hb2);(try clear hk);(try clear hi)))
                     go_ret
                     exact⟨by first|rfl|(simp [errW_none,errW_some]<;>rfl)|(simp only [←hji5,←hji14,←hji19];first|rfl|(simp [errW_none,errW_some]<;>rfl))|(simp [*,errW_none,errW_some]<;>rfl),by repeat (first|(with_reducible first|exact HB.out|apply below_alloc|apply pw_below_drewN|apply below_drew1)|exact HB.out)⟩
                    ·replace c84:=Bool.eq_false_iff.mpr c84
                     subst c84
                     have H1:(if t300=true then (some true) else (if (wrap64 (t289-t299))≤1 then (some (decide ((wrap64 (t299-t289))≤1))) else (some false)))=some r:=by rw [if_neg (show ¬(false=true) by decide)] at H;exact H
                     clear H
                     have H:=H1
                     clear H1
                     by_cases c107:t300=true
                     ·subst c107
                      have H1:(some true)=some r:=by rw [if_pos rfl] at H;exact H
                      clear H
                      have H:=H1
                      clear H1
                      clear hr
                      obtain rfl:=Option.some.inj H
                      go_enter Try.func6,Try.ntmps6
                      try go_wp2_with (first|((with_reducible refine gate_callee (f:=8) rfl ?_);refine goesL_ (some 28) rfl rfl Try.func8 (by kernel_rfl) rfl #[] rfl (by (try simp only [List.map_toArray,List.map_cons,List.map_nil]);first|done|rfl|(simp only [List.length_drop,List.length_take];rfl)) ?_;(with_reducible refine(outriggerlaw06_awake.calls k  true _ A4.out).mono ?_);rintro e w108 ⟨rfl,hb⟩;refine⟨_,rfl,?_⟩;have n0_:=Aside0.mk (below_step (by repeat (first|(with_reducible first|exact HB.out|apply below_alloc|apply pw_below_drewN|apply below_drew1)|exact HB.out)) hb);clear HB;have HB:=n0_;clear n0_;(try clear hb);(try clear hb2);(try clear hk);(try clear hi);obtain⟨i0109,hi0109,_,hsz109,_⟩:=info_parts info3;obtain⟨hcut109,hA109,hC109⟩:=print_take_of (P:=Try.prog) (Value.int .i64) 0 22 3 .i64 Try.underlying22 hi0109 hsz109 A0 c0 l0 (ji5) (of_decide_eq_true (by first|(with_reducible assumption)|assumption)) (of_decide_eq_true (by first|(with_reducible assumption)|assumption)) HC0.out;rw [hm0_5] at hA109 hC109;simp only [hm0_5] at hcut109;have HR270:=Aside0.mk (Kd.C_of_reads (h1:=fun _=>rfl) (hA109 _ (Kd.reads_of_C HR0.out)));have HC270:=Aside0.mk hC109;clear hA109 hC109 hi0109 hsz109)|((with_reducible refine gate_dst (N:=34) rfl ?_);refine Kd.R_lit (Kd.int .i64) _ 3 ?hg (N:=34) ?hd (xs:=([]:List Int)) (inner:=[]) (ok:=fun _=>True) (okp:=fun _=>True) ?hr ?hp (fun _ hk=>hk) trivial (Below.refl _ _) (Nat.le_refl _) (by simp) ?_;(case hd=>rfl);(case hg=>rfl);(case hr=>first|(go_simp;done)|(go_simp;rfl));(case hp=>exact(Reps.none _ _));intro v272 w110 ho111 hb hg_ hnew_;clear hg_ hnew_;(first|rw [←Ny271.out] at ho111|(simp only [Int.reduceToNat] at ho111;rw [←Ny271.out] at ho111));have n0_:=Aside0.mk (Kd.R_lower ho111 (below_size (by repeat (first|(with_reducible first|exact HB.out|apply below_alloc|apply pw_below_drewN|apply below_drew1)|exact HB.out))));have n1_:=Aside0.mk (below_step (by repeat (first|(with_reducible first|exact HB.out|apply below_alloc|apply pw_below_drewN|apply below_drew1)|exact HB.out)) hb);clear HB;have HO273:=n0_;have HB:=n1_;clear n0_ n1_;clear hb ho111)|((with_reducible refine gate_builtin (b:=.append) (xs:=#[.tmp 34,.tmp 35]) rfl ?_);at_builtin;refine Kd.R_append_rows (Kd.int .i64) (w0:=w) w.heap.size rfl (.tmp 34) (.tmp 35) 22 3 (.int .i64 0) 8 rfl Try.underlying22 info3 rfl (by decide) (by omega) v272 y271 m0_5 _ _ _ (fun _=>True) (fun _=>False) rfl rfl ?aO ?aR (fun _ _ h=>h) (fun _ h=>h.elim) ?aF ?aB ?aS ?aL ?_;(case aR=>first|(rw [←show m0_5.length=(ji5).toNat from (by rw [←hm0_5,List.length_take];have h_:((ji5):Int)≤(l0.length:Int):=of_decide_eq_true (by first|(with_reducible assumption)|assumption);omega)];repeat (first|exact(Kd.C_below HR270.out HB.out)|(with_reducible refine Kd.C_alloc ?_ _)|(with_reducible refine Kd.C_drewN ?_ _)|(with_reducible refine Kd.C_drew ?_)))|(repeat (first|exact(Kd.C_below HR270.out HB.out)|(with_reducible refine Kd.C_alloc ?_ _)|(with_reducible refine Kd.C_drewN ?_ _)|(with_reducible refine Kd.C_drew ?_))));(case aB=>exact(by repeat (first|(with_reducible first|exact HB.out|apply below_alloc|apply pw_below_drewN|apply below_drew1)|exact HB.out)));(case aF=>exact(fun _ _=>trivial));(case aO=>exact(by (with_reducible repeat (first|apply Kd.R_alloc|apply Kd.R_drewN|apply Kd.R_drew));exact HO273.out));(case aS=>exact(below_size (by repeat (first|(with_reducible first|exact HB.out|apply below_alloc|apply pw_below_drewN|apply below_drew1)|exact HB.out))));(case aL=>have:=LMc8.out;have hlx_:=(show m0_5.length=(ji5).toNat from (by rw [←hm0_5,List.length_take];have h_:((ji5):Int)≤(l0.length:Int):=of_decide_eq_true (by first|(with_reducible assumption)|assumption);omega));omega);intro v275 w112 ho hb hg hat;rw [←Ny274.out] at ho;have n0_:=Aside0.mk (hb);have n1_:=Aside0.mk (ho);clear HB;clear HO273;have HB:=n0_;have HO276:=n1_;clear n0_ n1_;clear ho hb hg hat)|((with_reducible refine gate_builtin (b:=.append) (xs:=#[.tmp 37,.tmp 38]) rfl ?_);at_builtin;refine Kd.R_append (Kd.int .i64) (w0:=w) w.heap.size rfl (.tmp 37) (.tmp 38) 22 3 (.int .i64 0) 8 rfl Try.underlying22 info3 rfl (by decide) (by omega) v275 y274 0 [.int .i64 0] (fun _=>True) (fun _=>False) rfl rfl ?aP (fun _ hk=>hk.elim) ?aF ?aO ?aB ?aS ?aL ?_;(case aP=>exact rfl);(case aB=>exact(by repeat (first|(with_reducible first|exact HB.out|apply below_alloc|apply pw_below_drewN|apply below_drew1)|exact HB.out)));(case aF=>exact(fun _ _=>trivial));(case aO=>exact(by (with_reducible repeat (first|apply Kd.R_alloc|apply Kd.R_drewN|apply Kd.R_drew));exact HO276.out));(case aS=>exact(below_size (by repeat (first|(with_reducible first|exact HB.out|apply below_alloc|apply pw_below_drewN|apply below_drew1)|exact HB.out))));(case aL=>have:=LMc9.out;omega);intro v278 w113 ho hb hg hat;rw [←Ny277.out] at ho;have n0_:=Aside0.mk (hb);have n1_:=Aside0.mk (ho);clear HB;clear HO276;have HB:=n0_;have HO279:=n1_;clear n0_ n1_;clear ho hb hg hat)|((with_reducible refine gate_callee (f:=9) rfl ?_);refine goesL_ (some 42) rfl rfl Try.func9 (by kernel_rfl) rfl #[.slice A0 m0_5.length c0] rfl (by (try simp only [List.map_toArray,List.map_cons,List.map_nil]);first|done|(rw [show m0_5.length=(ji5).toNat from (by rw [←hm0_5,List.length_take];have h_:((ji5):Int)≤(l0.length:Int):=of_decide_eq_true (by first|(with_reducible assumption)|assumption);omega)]<;>rfl)|(simp only [hji5];rfl)|rfl|(simp only [List.length_drop,List.length_take];rfl)) ?_;(with_reducible refine(sum_Total.calls k _ _ m0_5 t280 t281 _ ?side1 ?side2 A10.out).mono ?_);(case side1=>repeat (first|exact(Kd.C_below HR270.out HB.out)|(with_reducible refine Kd.C_alloc ?_ _)|(with_reducible refine Kd.C_drewN ?_ _)|(with_reducible refine Kd.C_drew ?_)));(case side2=>exact HC270.out);rintro e w114 ⟨rfl,hb⟩;refine⟨_,rfl,?_⟩;have n0_:=Aside0.mk (Kd.R_below (by (with_reducible repeat (first|apply Kd.R_alloc|apply Kd.R_drewN|apply Kd.R_drew));exact HO279.out) hb);have n1_:=Aside0.mk (below_step (by repeat (first|(with_reducible first|exact HB.out|apply below_alloc|apply pw_below_drewN|apply below_drew1)|exact HB.out)) hb);clear HO279;clear HB;have HO279:=n0_;have HB:=n1_;clear n0_ n1_;(try clear hb);(try clear hb2);(try clear hk);(try clear hi);obtain⟨Ao115,co115,eo115⟩:=Kd.R_slice HO279.out;subst eo115)|((with_reducible refine gate_callee (f:=9) rfl ?_);refine goesL_ (some 47) rfl rfl Try.func9 (by kernel_rfl) rfl #[.slice Ao115 y277.length co115] rfl (by (try simp only [List.map_toArray,List.map_cons,List.map_nil]);first|done|rfl|(simp only [List.length_drop,List.length_take];rfl)) ?_;(with_reducible refine(sum_Total.calls k _ _ y277 t282 t283 _ ?side1 ?side2 A11.out).mono ?_);(case side1=>repeat (first|exact(Kd.R_reads' HO279.out).2.2|(with_reducible refine Kd.C_alloc ?_ _)|(with_reducible refine Kd.C_drewN ?_ _)|(with_reducible refine Kd.C_drew ?_)));(case side2=>exact(Kd.R_reads' HO279.out).2.1);rintro e w116 ⟨rfl,hb⟩;refine⟨_,rfl,?_⟩;have n0_:=Aside0.mk (Kd.R_below (by (with_reducible repeat (first|apply Kd.R_alloc|apply Kd.R_drewN|apply Kd.R_drew));exact HO279.out) hb);have n1_:=Aside0.mk (below_step (by repeat (first|(with_reducible first|exact HB.out|apply below_alloc|apply pw_below_drewN|apply below_drew1)|exact HB.out)) hb);clear HO279;clear HB;have HO279:=n0_;have HB:=n1_;clear n0_ n1_;(try clear hb);(try clear hb2);(try clear hk);(try clear hi))|((with_reducible refine gate_callee (f:=15) rfl ?_);refine goesL_ (some 52) rfl rfl Try.func15 (by kernel_rfl) rfl #[.slice A0 m0_5.length c0] rfl (by (try simp only [List.map_toArray,List.map_cons,List.map_nil]);first|done|(rw [show m0_5.length=(ji5).toNat from (by rw [←hm0_5,List.length_take];have h_:((ji5):Int)≤(l0.length:Int):=of_decide_eq_true (by first|(with_reducible assumption)|assumption);omega)]<;>rfl)|(simp only [hji5];rfl)|rfl|(simp only [List.length_drop,List.length_take];rfl)) ?_;(with_reducible refine(sum_Norm.calls k _ _ m0_5 t284 t285 _ ?side1 ?side2 A12.out).mono ?_);(case side1=>repeat (first|exact(Kd.C_below HR270.out HB.out)|(with_reducible refine Kd.C_alloc ?_ _)|(with_reducible refine Kd.C_drewN ?_ _)|(with_reducible refine Kd.C_drew ?_)));(case side2=>exact HC270.out);rintro e w117 ⟨rfl,hb⟩;refine⟨_,rfl,?_⟩;have n0_:=Aside0.mk (Kd.R_below (by (with_reducible repeat (first|apply Kd.R_alloc|apply Kd.R_drewN|apply Kd.R_drew));exact HO279.out) hb);have n1_:=Aside0.mk (below_step (by repeat (first|(with_reducible first|exact HB.out|apply below_alloc|apply pw_below_drewN|apply below_drew1)|exact HB.out)) hb);clear HO279;clear HB;have HO279:=n0_;have HB:=n1_;clear n0_ n1_;(try clear hb);(try clear hb2);(try clear hk);(try clear hi))|((with_reducible refine gate_callee (f:=15) rfl ?_);refine goesL_ (some 57) rfl rfl Try.func15 (by kernel_rfl) rfl #[.slice Ao115 y277.length co115] rfl (by (try simp only [List.map_toArray,List.map_cons,List.map_nil]);first|done|rfl|(simp only [List.length_drop,List.length_take];rfl)) ?_;(with_reducible refine(sum_Norm.calls k _ _ y277 t286 t287 _ ?side1 ?side2 A13.out).mono ?_);(case side1=>repeat (first|exact(Kd.R_reads' HO279.out).2.2|(with_reducible refine Kd.C_alloc ?_ _)|(with_reducible refine Kd.C_drewN ?_ _)|(with_reducible refine Kd.C_drew ?_)));(case side2=>exact(Kd.R_reads' HO279.out).2.1);rintro e w118 ⟨rfl,hb⟩;refine⟨_,rfl,?_⟩;have n0_:=Aside0.mk (Kd.R_below (by (with_reducible repeat (first|apply Kd.R_alloc|apply Kd.R_drewN|apply Kd.R_drew));exact HO279.out) hb);have n1_:=Aside0.mk (below_step (by repeat (first|(with_reducible first|exact HB.out|apply below_alloc|apply pw_below_drewN|apply below_drew1)|exact HB.out)) hb);clear HO279;clear HB;have HO279:=n0_;have HB:=n1_;clear n0_ n1_;(try clear hb);(try clear hb2);(try clear hk);(try clear hi);obtain⟨i0119,hi0119,_,hsz119,_⟩:=info_parts info3;obtain⟨hcut119,hA119,hC119⟩:=print_take_of (P:=Try.prog) (Value.int .i64) 0 22 3 .i64 Try.underlying22 hi0119 hsz119 A1 c1 l1 (ji14) (of_decide_eq_true (by first|(with_reducible assumption)|assumption)) (of_decide_eq_true (by first|(with_reducible assumption)|assumption)) HC1.out;rw [hm1_14] at hA119 hC119;simp only [hm1_14] at hcut119;have HR288:=Aside0.mk (Kd.C_of_reads (h1:=fun _=>rfl) (hA119 _ (Kd.reads_of_C HR1.out)));have HC288:=Aside0.mk hC119;clear hA119 hC119 hi0119 hsz119)|((with_reducible refine gate_callee (f:=13) rfl ?_);refine goesL_ (some 75) rfl rfl Try.func13 (by kernel_rfl) rfl #[.slice A0 m0_5.length c0,.slice A1 m1_14.length c1] rfl (by (try simp only [List.map_toArray,List.map_cons,List.map_nil]);first|done|(rw [show m0_5.length=(ji5).toNat from (by rw [←hm0_5,List.length_take];have h_:((ji5):Int)≤(l0.length:Int):=of_decide_eq_true (by first|(with_reducible assumption)|assumption);omega)]<;>rfl)|(rw [show m1_14.length=(ji14).toNat from (by rw [←hm1_14,List.length_take];have h_:((ji14):Int)≤(l1.length:Int):=of_decide_eq_true (by first|(with_reducible assumption)|assumption);omega)]<;>rfl)|(simp only [hji14,hji5];rfl)|rfl|(simp only [List.length_drop,List.length_take];rfl)) ?_;(with_reducible refine(sum_Dot.calls k _ _ m0_5 _ _ m1_14 t289 false _ ?side1 ?side2 ?side3 ?side4 A18.out).mono ?_);(case side1=>repeat (first|exact(Kd.C_below HR270.out HB.out)|(with_reducible refine Kd.C_alloc ?_ _)|(with_reducible refine Kd.C_drewN ?_ _)|(with_reducible refine Kd.C_drew ?_)));(case side2=>exact HC270.out);(case side3=>repeat (first|exact(Kd.C_below HR288.out HB.out)|(with_reducible refine Kd.C_alloc ?_ _)|(with_reducible refine Kd.C_drewN ?_ _)|(with_reducible refine Kd.C_drew ?_)));(case side4=>exact HC288.out);rintro e w120 ⟨rfl,hb⟩;refine⟨_,rfl,?_⟩;have n0_:=Aside0.mk (Kd.R_below (by (with_reducible repeat (first|apply Kd.R_alloc|apply Kd.R_drewN|apply Kd.R_drew));exact HO279.out) hb);have n1_:=Aside0.mk (below_step (by repeat (first|(with_reducible first|exact HB.out|apply below_alloc|apply pw_below_drewN|apply below_drew1)|exact HB.out)) hb);clear HO279;clear HB;have HO279:=n0_;have HB:=n1_;clear n0_ n1_;(try clear hb);(try clear hb2);(try clear hk);(try clear hi)))
                      have n0_:=Aside0.mk (Kd.R_drew HO279.out)
                      have n1_:=Aside0.mk (below_drew1 HB.out)
                      clear HO279
                      clear HB
                      have HO279:=n0_
                      have HB:=n1_
                      clear n0_ n1_
                      obtain⟨i0122,hi0122,_,hsz122,_⟩:=info_parts info3
                      obtain⟨hcut122,hA122,hC122⟩:=print_take_of (P:=Try.prog) (Value.int .i64) 0 22 3 .i64 Try.underlying22 hi0122 hsz122 A0 c0 m0_5 (ji19) (of_decide_eq_true (by first|(with_reducible assumption)|assumption)) (of_decide_eq_true (by first|(with_reducible assumption)|assumption)) HC270.out;rw [hm0_5_19] at hA122 hC122;simp only [hm0_5_19] at hcut122
                      have HR291:=Aside0.mk (Kd.C_of_reads (h1:=fun _=>rfl) (hA122 _ (Kd.reads_of_C HR270.out)))
                      have HC291:=Aside0.mk hC122
                      clear hA122 hC122 hi0122 hsz122
                      obtain⟨i0123,hi0123,_,hsz123,_⟩:=info_parts info3
                      obtain⟨hcut123,hA123,hC123⟩:=print_take_of (P:=Try.prog) (Value.int .i64) 0 22 3 .i64 Try.underlying22 hi0123 hsz123 A1 c1 l1 (ji19) (of_decide_eq_true (by first|(with_reducible assumption)|assumption)) (of_decide_eq_true (by first|(with_reducible assumption)|assumption)) HC1.out;rw [hm1_19] at hA123 hC123;simp only [hm1_19] at hcut123
                      have HR292:=Aside0.mk (Kd.C_of_reads (h1:=fun _=>rfl) (hA123 _ (Kd.reads_of_C HR1.out)))
                      have HC292:=Aside0.mk hC123
                      clear hA123 hC123 hi0123 hsz123
                      refine start_ (n:=12) (S:=fun w'=>True) (ds:=[]) #[false,false,false,false,false,false,false,false,false,false,false,false] (by kernel_rfl) rfl rfl trivial (fun hHeld=>?_);refine with_tabW outriggerlaw06_SumZero.tab12 outriggerlaw06_SumZero.bits12 (fun HT_ HW_=>?_)
                      generalize w120.drew=w121 at HO279 HB HR291 HR292 hHeld ⊢
                      refine pure_ (i:=0) (N:=some 79) (v:=?_) (a':=?_) #[true,false,false,false,false,false,false,false,false,false,false,false] rfl rfl (any_of HT_.out (by kernel_rfl)) (fun _ _ _ h=>h) (Or.inl ⟨by rfl,?_⟩) ?_ ?_
                      rotate_left
                      ·intro w'
                       go_simp
                       with_reducible rfl
                      rotate_left
                      ·simp only [Act.put,List.setIfInBounds_toArray,List.set_cons_zero,List.set_cons_succ,i64_w,i32_w]
                       rfl
                      refine pure_ (i:=1) (N:=some 80) (v:=?_) (a':=?_) #[true,true,false,false,false,false,false,false,false,false,false,false] rfl rfl (any_of HT_.out (by kernel_rfl)) (fun _ _ _ h=>h) (Or.inl ⟨by rfl,?_⟩) ?_ ?_
                      rotate_left
                      ·intro w'
                       go_simp
                       with_reducible rfl
                      rotate_left
                      ·simp only [Act.put,List.setIfInBounds_toArray,List.set_cons_zero,List.set_cons_succ,i64_w,i32_w]
                       rfl
                      refine pure_ (i:=2) (N:=some 81) (v:=?_) (a':=?_) #[true,true,true,false,false,false,false,false,false,false,false,false] rfl rfl (any_of HT_.out (by kernel_rfl)) (fun _ _ _ h=>h) (Or.inl ⟨by rfl,?_⟩) ?_ ?_
                      rotate_left
                      ·intro w'
                       go_simp
                       with_reducible rfl
                      rotate_left
                      ·simp only [Act.put,List.setIfInBounds_toArray,List.set_cons_zero,List.set_cons_succ,i64_w,i32_w]
                       rfl
                      refine pure_ (i:=3) (N:=some 82) (v:=?_) (a':=?_) #[true,true,true,true,false,false,false,false,false,false,false,false] rfl rfl (any_of HT_.out (by kernel_rfl)) (fun _ _ _ h=>h) (Or.inl ⟨by rfl,?_⟩) ?_ ?_
                      rotate_left
                      ·intro w'
                       go_simp
                       with_reducible rfl
                      rotate_left
                      ·simp only [Act.put,List.setIfInBounds_toArray,List.set_cons_zero,List.set_cons_succ,i64_w,i32_w]
                       rfl
                      refine pure_ (i:=4) (N:=some 83) (v:=?_) (a':=?_) #[true,true,true,true,true,false,false,false,false,false,false,false] rfl rfl (any_of HT_.out (by kernel_rfl)) (fun _ _ _ h=>h) (Or.inl ⟨by rfl,?_⟩) ?_ ?_
                      rotate_left
                      ·intro w'
                       go_simp
                       with_reducible rfl
                      rotate_left
                      ·simp only [Act.put,List.setIfInBounds_toArray,List.set_cons_zero,List.set_cons_succ,i64_w,i32_w]
                       rfl
                      refine pure_ (i:=5) (N:=some 84) (v:=?_) (a':=?_) #[true,true,true,true,true,true,false,false,false,false,false,false] rfl rfl (any_of HT_.out (by kernel_rfl)) (fun _ _ _ h=>h) (Or.inl ⟨by rfl,?_⟩) ?_ ?_
                      rotate_left
                      ·intro w'
                       go_simp
                       with_reducible rfl
                      rotate_left
                      ·simp only [Act.put,List.setIfInBounds_toArray,List.set_cons_zero,List.set_cons_succ,i64_w,i32_w]
                       rfl
                      refine one_ (i:=6) (N:=some 85) #[true,true,true,true,true,true,true,false,false,false,false,false] rfl rfl (one_of HT_.out (by kernel_rfl)) (by decide) (fun K hK=>?_)
                      refine goes_ Try.func13 (by kernel_rfl) rfl #[.slice A0 m0_5_19.length c0,.slice A1 m1_19.length c1] (by rfl) rfl rfl (by (try simp only [List.map_toArray,List.map_cons,List.map_nil]);first|done|(rw [show m0_5_19.length=(ji19).toNat from (by rw [←hm0_5_19,List.length_take];have h_:((ji19):Int)≤(m0_5.length:Int):=of_decide_eq_true (by first|(with_reducible assumption)|assumption);omega)]<;>rfl)|(rw [show m1_19.length=(ji19).toNat from (by rw [←hm1_19,List.length_take];have h_:((ji19):Int)≤(l1.length:Int):=of_decide_eq_true (by first|(with_reducible assumption)|assumption);omega)]<;>rfl)|(simp only [hji19,hji5];rfl)|rfl|(simp only [List.length_drop,List.length_take];rfl)) ?_
                      with_reducible refine(sum_Dot.calls k _ _ m0_5_19 _ _ m1_19 t293 false _ ?side1 ?side2 ?side3 ?side4 A24.out).mono ?_
                      (case side1=>repeat (first|exact(Kd.C_below HR291.out HB.out)|(with_reducible refine Kd.C_alloc ?_ _)|(with_reducible refine Kd.C_drewN ?_ _)|(with_reducible refine Kd.C_drew ?_)))
                      (case side2=>exact HC291.out)
                      (case side3=>repeat (first|exact(Kd.C_below HR292.out HB.out)|(with_reducible refine Kd.C_alloc ?_ _)|(with_reducible refine Kd.C_drewN ?_ _)|(with_reducible refine Kd.C_drew ?_)))
                      (case side4=>exact HC292.out)
                      rintro e w124 ⟨rfl,hb⟩
                      refine⟨_,rfl,?_⟩
                      have n0_:=Aside0.mk (Kd.R_below (by (with_reducible repeat (first|apply Kd.R_alloc|apply Kd.R_drewN|apply Kd.R_drew));exact HO279.out) hb)
                      have n1_:=Aside0.mk (below_step (by repeat (first|(with_reducible first|exact HB.out|apply below_alloc|apply pw_below_drewN|apply below_drew1)|exact HB.out)) hb)
                      clear HO279
                      clear HB
                      have HO279:=n0_
                      have HB:=n1_
                      clear n0_ n1_
                      (try clear hb)
                      (try clear hb2)
                      (try clear hk)
                      (try clear hi)
                      refine hK.out _ _ trivial (fun hHeld=>?_)
                      clear hK K
                      refine norm_ (a':=?_) ?_ ?_
                      rotate_left
                      ·show Act.put _ (some 85) _=_
                       simp only [Act.put,List.setIfInBounds_toArray,List.set_cons_zero,List.set_cons_succ,i64_w,i32_w]
                       rfl
                      refine pure_ (i:=7) (N:=some 78) (v:=?_) (a':=?_) #[true,true,true,true,true,true,true,true,false,false,false,false] rfl rfl (any_of HT_.out (by kernel_rfl)) (fun _ _ _ h=>h) (Or.inl ⟨by rfl,?_⟩) ?_ ?_
                      rotate_left
                      ·intro w'
                       go_simp
                       with_reducible rfl
                      rotate_left
                      ·simp only [Act.put,List.setIfInBounds_toArray,List.set_cons_zero,List.set_cons_succ,i64_w,i32_w]
                       rfl
                      refine pure_ (i:=8) (N:=some 86) (v:=?_) (a':=?_) #[true,true,true,true,true,true,true,true,true,false,false,false] rfl rfl (any_of HT_.out (by kernel_rfl)) (fun _ _ _ h=>h) (Or.inl ⟨by rfl,?_⟩) ?_ ?_
                      rotate_left
                      ·intro w'
                       go_simp
                       with_reducible rfl
                      rotate_left
                      ·simp only [Act.put,List.setIfInBounds_toArray,List.set_cons_zero,List.set_cons_succ,i64_w,i32_w]
                       rfl
                      refine pure_ (i:=9) (N:=some 87) (v:=?_) (a':=?_) #[true,true,true,true,true,true,true,true,true,true,false,false] rfl rfl (any_of HT_.out (by kernel_rfl)) (fun _ _ _ h=>h) (Or.inl ⟨by rfl,?_⟩) ?_ ?_
                      rotate_left
                      ·intro w'
                       go_simp
                       with_reducible rfl
                      rotate_left
                      ·simp only [Act.put,List.setIfInBounds_toArray,List.set_cons_zero,List.set_cons_succ,i64_w,i32_w]
                       rfl
                      refine pure_ (i:=10) (N:=some 22) (v:=?_) (a':=?_) #[true,true,true,true,true,true,true,true,true,true,true,false] rfl rfl (any_of HT_.out (by kernel_rfl)) (fun _ _ _ h=>h) (Or.inl ⟨by rfl,?_⟩) ?_ ?_
                      rotate_left
                      ·intro w'
                       go_simp
                       with_reducible rfl
                      rotate_left
                      ·simp only [Act.put,List.setIfInBounds_toArray,List.set_cons_zero,List.set_cons_succ,i64_w,i32_w]
                       rfl
                      refine pure_ (i:=11) (N:=some 23) (v:=?_) (a':=?_) #[true,true,true,true,true,true,true,true,true,true,true,true] rfl rfl (any_of HT_.out (by kernel_rfl)) (fun _ _ _ h=>h) (Or.inl ⟨by rfl,?_⟩) ?_ ?_
                      rotate_left
                      ·intro w'
                       go_simp
                       with_reducible rfl
                      rotate_left
                      ·simp only [Act.put,List.setIfInBounds_toArray,List.set_cons_zero,List.set_cons_succ,i64_w,i32_w]
                       rfl
                      refine done_ (done_of HT_.out (by kernel_rfl)) ?_
                      try go_wp2
                      have n0_:=Aside0.mk (Kd.R_drew HO279.out)
                      have n1_:=Aside0.mk (below_drew1 HB.out)
                      clear HO279
                      clear HB
                      have HO279:=n0_
                      have HB:=n1_
                      clear n0_ n1_
                      obtain⟨i0126,hi0126,_,hsz126,_⟩:=info_parts info3
                      obtain⟨A126,hcut126,hA126,hC126⟩:=print_mid_of (P:=Try.prog) (Value.int .i64) 0 22 3 .i64 .i64 Try.underlying22 hi0126 hsz126 A0 c0 m0_5 (ji19) (ji14) (of_decide_eq_true (by first|(with_reducible assumption)|assumption)) (by first|omega|exact of_decide_eq_true (by first|(with_reducible assumption)|assumption)) (of_decide_eq_true (by first|(with_reducible assumption)|assumption)) HC270.out
                      rw [hm0_5_14] at hA126 hC126
                      try simp only [hm0_5_14] at hcut126
                      have HR295:=Aside0.mk (Kd.C_of_reads (h1:=fun _=>rfl) (hA126 _ (Kd.reads_of_C HR270.out)))
                      have HC295:=Aside0.mk hC126
                      clear hA126 hC126 hi0126 hsz126
                      obtain⟨i0127,hi0127,_,hsz127,_⟩:=info_parts info3
                      obtain⟨A127,hcut127,hA127,hC127⟩:=print_mid_of (P:=Try.prog) (Value.int .i64) 0 22 3 .i64 .i64 Try.underlying22 hi0127 hsz127 A1 c1 l1 (ji19) (ji14) (of_decide_eq_true (by first|(with_reducible assumption)|assumption)) (by first|omega|exact of_decide_eq_true (by first|(with_reducible assumption)|assumption)) (of_decide_eq_true (by first|(with_reducible assumption)|assumption)) HC1.out
                      rw [hm1_14] at hA127 hC127
                      try simp only [hm1_14] at hcut127
                      have HR296:=Aside0.mk (Kd.C_of_reads (h1:=fun _=>rfl) (hA127 _ (Kd.reads_of_C HR1.out)))
                      have HC296:=Aside0.mk hC127
                      clear hA127 hC127 hi0127 hsz127
                      refine start_ (n:=14) (S:=fun w'=>True) (ds:=[]) #[false,false,false,false,false,false,false,false,false,false,false,false,false,false] (by kernel_rfl) rfl rfl trivial (fun hHeld=>?_);refine with_tabW outriggerlaw06_SumZero.tab13 outriggerlaw06_SumZero.bits13 (fun HT_ HW_=>?_)
                      generalize w124.drew=w125 at HO279 HB HR295 HR296 hHeld ⊢
                      refine pure_ (i:=0) (N:=some 89) (v:=?_) (a':=?_) #[true,false,false,false,false,false,false,false,false,false,false,false,false,false] rfl rfl (any_of HT_.out (by kernel_rfl)) (fun _ _ _ h=>h) (Or.inl ⟨by rfl,?_⟩) ?_ ?_
                      rotate_left
                      ·intro w'
                       go_simp
                       with_reducible rfl
                      rotate_left
                      ·simp only [Act.put,List.setIfInBounds_toArray,List.set_cons_zero,List.set_cons_succ,i64_w,i32_w]
                       rfl
                      refine pure_ (i:=1) (N:=some 90) (v:=?_) (a':=?_) #[true,true,false,false,false,false,false,false,false,false,false,false,false,false] rfl rfl (any_of HT_.out (by kernel_rfl)) (fun _ _ _ h=>h) (Or.inl ⟨by rfl,?_⟩) ?_ ?_
                      rotate_left
                      ·intro w'
                       go_simp
                       with_reducible rfl
                      rotate_left
                      ·simp only [Act.put,List.setIfInBounds_toArray,List.set_cons_zero,List.set_cons_succ,i64_w,i32_w]
                       rfl
                      refine pure_ (i:=2) (N:=some 91) (v:=?_) (a':=?_) #[true,true,true,false,false,false,false,false,false,false,false,false,false,false] rfl rfl (any_of HT_.out (by kernel_rfl)) (fun _ _ _ h=>h) (Or.inl ⟨by rfl,?_⟩) ?_ ?_
                      rotate_left
                      ·intro w'
                       go_simp
                       with_reducible rfl
                      rotate_left
                      ·simp only [Act.put,List.setIfInBounds_toArray,List.set_cons_zero,List.set_cons_succ,i64_w,i32_w]
                       rfl
                      refine pure_ (i:=3) (N:=some 92) (v:=?_) (a':=?_) #[true,true,true,true,false,false,false,false,false,false,false,false,false,false] rfl rfl (any_of HT_.out (by kernel_rfl)) (fun _ _ _ h=>h) (Or.inl ⟨by rfl,?_⟩) ?_ ?_
                      rotate_left
                      ·intro w'
                       go_simp
                       with_reducible rfl
                      rotate_left
                      ·simp only [Act.put,List.setIfInBounds_toArray,List.set_cons_zero,List.set_cons_succ,i64_w,i32_w]
                       rfl
                      refine pure_ (i:=4) (N:=some 93) (v:=?_) (a':=?_) #[true,true,true,true,true,false,false,false,false,false,false,false,false,false] rfl rfl (any_of HT_.out (by kernel_rfl)) (fun _ _ _ h=>h) (Or.inl ⟨by rfl,?_⟩) ?_ ?_
                      rotate_left
                      ·intro w'
                       go_simp
                       with_reducible rfl
                      rotate_left
                      ·simp only [Act.put,List.setIfInBounds_toArray,List.set_cons_zero,List.set_cons_succ,i64_w,i32_w]
                       rfl
                      refine pure_ (i:=5) (N:=some 94) (v:=?_) (a':=?_) #[true,true,true,true,true,true,false,false,false,false,false,false,false,false] rfl rfl (any_of HT_.out (by kernel_rfl)) (fun _ _ _ h=>h) (Or.inl ⟨by rfl,?_⟩) ?_ ?_
                      rotate_left
                      ·intro w'
                       go_simp
                       with_reducible rfl
                      rotate_left
                      ·simp only [Act.put,List.setIfInBounds_toArray,List.set_cons_zero,List.set_cons_succ,i64_w,i32_w]
                       rfl
                      refine pure_ (i:=6) (N:=some 95) (v:=?_) (a':=?_) #[true,true,true,true,true,true,true,false,false,false,false,false,false,false] rfl rfl (any_of HT_.out (by kernel_rfl)) (fun _ _ _ h=>h) (Or.inl ⟨by rfl,?_⟩) ?_ ?_
                      rotate_left
                      ·intro w'
                       go_simp
                       with_reducible rfl
                      rotate_left
                      ·simp only [Act.put,List.setIfInBounds_toArray,List.set_cons_zero,List.set_cons_succ,i64_w,i32_w]
                       rfl
                      refine pure_ (i:=7) (N:=some 96) (v:=?_) (a':=?_) #[true,true,true,true,true,true,true,true,false,false,false,false,false,false] rfl rfl (any_of HT_.out (by kernel_rfl)) (fun _ _ _ h=>h) (Or.inl ⟨by rfl,?_⟩) ?_ ?_
                      rotate_left
                      ·intro w'
                       go_simp
                       with_reducible rfl
                      rotate_left
                      ·simp only [Act.put,List.setIfInBounds_toArray,List.set_cons_zero,List.set_cons_succ,i64_w,i32_w]
                       rfl
                      refine one_ (i:=8) (N:=some 97) #[true,true,true,true,true,true,true,true,true,false,false,false,false,false] rfl rfl (one_of HT_.out (by kernel_rfl)) (by decide) (fun K hK=>?_)
                      refine goes_ Try.func13 (by kernel_rfl) rfl #[.slice A126 (m0_5_14.drop ((ji19):Int).toNat).length (c0-(ji19).toNat),.slice A127 (m1_14.drop ((ji19):Int).toNat).length (c1-(ji19).toNat)] (by rfl) rfl rfl (by (try simp only [List.map_toArray,List.map_cons,List.map_nil]);first|done|(rw [show(m0_5_14.drop ((ji19):Int).toNat).length=((ji14).toNat-(ji19).toNat) from (by rw [←hm0_5_14,List.length_drop,List.length_take];have h_:((ji14):Int)≤(m0_5.length:Int):=of_decide_eq_true (by first|(with_reducible assumption)|assumption);omega)]<;>rfl)|(rw [show(m1_14.drop ((ji19):Int).toNat).length=((ji14).toNat-(ji19).toNat) from (by rw [←hm1_14,List.length_drop,List.length_take];have h_:((ji14):Int)≤(l1.length:Int):=of_decide_eq_true (by first|(with_reducible assumption)|assumption);omega)]<;>rfl)|(simp only [hji14,hji19,hji5];rfl)|rfl|(simp only [List.length_drop,List.length_take];rfl)) ?_
                      with_reducible refine(sum_Dot.calls k _ _ (m0_5_14.drop ((ji19):Int).toNat) _ _ (m1_14.drop ((ji19):Int).toNat) t297 false _ ?side1 ?side2 ?side3 ?side4 A31.out).mono ?_
                      (case side1=>repeat (first|exact(Kd.C_below HR295.out HB.out)|(with_reducible refine Kd.C_alloc ?_ _)|(with_reducible refine Kd.C_drewN ?_ _)|(with_reducible refine Kd.C_drew ?_)))
                      (case side2=>exact HC295.out)
                      (case side3=>repeat (first|exact(Kd.C_below HR296.out HB.out)|(with_reducible refine Kd.C_alloc ?_ _)|(with_reducible refine Kd.C_drewN ?_ _)|(with_reducible refine Kd.C_drew ?_)))
                      (case side4=>exact HC296.out)
                      rintro e w128 ⟨rfl,hb⟩
                      refine⟨_,rfl,?_⟩
                      have n0_:=Aside0.mk (Kd.R_below (by (with_reducible repeat (first|apply Kd.R_alloc|apply Kd.R_drewN|apply Kd.R_drew));exact HO279.out) hb)
                      have n1_:=Aside0.mk (below_step (by repeat (first|(with_reducible first|exact HB.out|apply below_alloc|apply pw_below_drewN|apply below_drew1)|exact HB.out)) hb)
                      clear HO279
                      clear HB
                      have HO279:=n0_
                      have HB:=n1_
                      clear n0_ n1_
                      (try clear hb)
                      (try clear hb2)
                      (try clear hk)
                      (try clear hi)
                      refine hK.out _ _ trivial (fun hHeld=>?_)
                      clear hK K
                      refine norm_ (a':=?_) ?_ ?_
                      rotate_left
                      ·show Act.put _ (some 97) _=_
                       simp only [Act.put,List.setIfInBounds_toArray,List.set_cons_zero,List.set_cons_succ,i64_w,i32_w]
                       rfl
                      refine pure_ (i:=9) (N:=some 88) (v:=?_) (a':=?_) #[true,true,true,true,true,true,true,true,true,true,false,false,false,false] rfl rfl (any_of HT_.out (by kernel_rfl)) (fun _ _ _ h=>h) (Or.inl ⟨by rfl,?_⟩) ?_ ?_
                      rotate_left
                      ·intro w'
                       go_simp
                       with_reducible rfl
                      rotate_left
                      ·simp only [Act.put,List.setIfInBounds_toArray,List.set_cons_zero,List.set_cons_succ,i64_w,i32_w]
                       rfl
                      refine pure_ (i:=10) (N:=some 98) (v:=?_) (a':=?_) #[true,true,true,true,true,true,true,true,true,true,true,false,false,false] rfl rfl (any_of HT_.out (by kernel_rfl)) (fun _ _ _ h=>h) (Or.inl ⟨by rfl,?_⟩) ?_ ?_
                      rotate_left
                      ·intro w'
                       go_simp
                       with_reducible rfl
                      rotate_left
                      ·simp only [Act.put,List.setIfInBounds_toArray,List.set_cons_zero,List.set_cons_succ,i64_w,i32_w]
                       rfl
                      refine pure_ (i:=11) (N:=some 99) (v:=?_) (a':=?_) #[true,true,true,true,true,true,true,true,true,true,true,true,false,false] rfl rfl (any_of HT_.out (by kernel_rfl)) (fun _ _ _ h=>h) (Or.inl ⟨by rfl,?_⟩) ?_ ?_
                      rotate_left
                      ·intro w'
                       go_simp
                       with_reducible rfl
                      rotate_left
                      ·simp only [Act.put,List.setIfInBounds_toArray,List.set_cons_zero,List.set_cons_succ,i64_w,i32_w]
                       rfl
                      refine pure_ (i:=12) (N:=some 24) (v:=?_) (a':=?_) #[true,true,true,true,true,true,true,true,true,true,true,true,true,false] rfl rfl (any_of HT_.out (by kernel_rfl)) (fun _ _ _ h=>h) (Or.inl ⟨by rfl,?_⟩) ?_ ?_
                      rotate_left
                      ·intro w'
                       go_simp
                       with_reducible rfl
                      rotate_left
                      ·simp only [Act.put,List.setIfInBounds_toArray,List.set_cons_zero,List.set_cons_succ,i64_w,i32_w]
                       rfl
                      refine pure_ (i:=13) (N:=some 25) (v:=?_) (a':=?_) #[true,true,true,true,true,true,true,true,true,true,true,true,true,true] rfl rfl (any_of HT_.out (by kernel_rfl)) (fun _ _ _ h=>h) (Or.inl ⟨by rfl,?_⟩) ?_ ?_
                      rotate_left
                      ·intro w'
                       go_simp
                       with_reducible rfl
                      rotate_left
                      ·simp only [Act.put,List.setIfInBounds_toArray,List.set_cons_zero,List.set_cons_succ,i64_w,i32_w]
                       rfl
                      refine done_ (done_of HT_.out (by kernel_rfl)) ?_
                      try go_wp2_with (first|((with_reducible refine gate_callee (f:=17) rfl ?_);refine goesL_ (some 103) rfl rfl Try.func17 (by kernel_rfl) rfl #[.int .i64 t293,.int .i64 t297] rfl (by (try simp only [List.map_toArray,List.map_cons,List.map_nil]);first|done|rfl|(simp only [List.length_drop,List.length_take];rfl)) ?_;(with_reducible refine(fix_Add.calls t293 t297 t299 true _ A32.out).mono ?_);rintro e w129 ⟨rfl,hb⟩;refine⟨_,rfl,?_⟩;have n0_:=Aside0.mk (Kd.R_below (by (with_reducible repeat (first|apply Kd.R_alloc|apply Kd.R_drewN|apply Kd.R_drew));exact HO279.out) hb);have n1_:=Aside0.mk (below_step (by repeat (first|(with_reducible first|exact HB.out|apply below_alloc|apply pw_below_drewN|apply below_drew1)|exact HB.out)) hb);clear HO279;clear HB;have HO279:=n0_;have HB:=n1_;clear n0_ n1_;(try clear hb);(try clear hb2);(try clear hk);(try clear hi)))
                      go_ret
                      exact⟨by first|rfl|(simp [errW_none,errW_some]<;>rfl)|(simp only [←hji5,←hji14,←hji19];first|rfl|(simp [errW_none,errW_some]<;>rfl))|(simp [*,errW_none,errW_some]<;>rfl),by repeat (first|(with_reducible first|exact HB.out|apply below_alloc|apply pw_below_drewN|apply below_drew1)|exact HB.out)⟩
                     ·replace c107:=Bool.eq_false_iff.mpr c107
                      subst c107
                      have H1:(if (wrap64 (t289-t299))≤1 then (some (decide ((wrap64 (t299-t289))≤1))) else (some false))=some r:=by rw [if_neg (show ¬(false=true) by decide)] at H;exact H
                      clear H
                      have H:=H1
                      clear H1
                      by_cases c130:(wrap64 (t289-t299))≤1
                      ·rw [if_pos c130] at H
                       have c130b0:decide ((wrap64 (t289-t299))≤1)=true:=decide_eq_true c130
                       clear c130
                       clear hr
                       obtain rfl:=Option.some.inj H
                       go_enter Try.func6,Try.ntmps6
                       try go_wp2_with (first|((with_reducible refine gate_callee (f:=8) rfl ?_);refine goesL_ (some 28) rfl rfl Try.func8 (by kernel_rfl) rfl #[] rfl (by (try simp only [List.map_toArray,List.map_cons,List.map_nil]);first|done|rfl|(simp only [List.length_drop,List.length_take];rfl)) ?_;(with_reducible refine(outriggerlaw06_awake.calls k  true _ A4.out).mono ?_);rintro e w131 ⟨rfl,hb⟩;refine⟨_,rfl,?_⟩;have n0_:=Aside0.mk (below_step (by repeat (first|(with_reducible first|exact HB.out|apply below_alloc|apply pw_below_drewN|apply below_drew1)|exact HB.out)) hb);clear HB;have HB:=n0_;clear n0_;(try clear hb);(try clear hb2);(try clear hk);(try clear hi);obtain⟨i0132,hi0132,_,hsz132,_⟩:=info_parts info3;obtain⟨hcut132,hA132,hC132⟩:=print_take_of (P:=Try.prog) (Value.int .i64) 0 22 3 .i64 Try.underlying22 hi0132 hsz132 A0 c0 l0 (ji5) (of_decide_eq_true (by first|(with_reducible assumption)|assumption)) (of_decide_eq_true (by first|(with_reducible assumption)|assumption)) HC0.out;rw [hm0_5] at hA132 hC132;simp only [hm0_5] at hcut132;have HR270:=Aside0.mk (Kd.C_of_reads (h1:=fun _=>rfl) (hA132 _ (Kd.reads_of_C HR0.out)));have HC270:=Aside0.mk hC132;clear hA132 hC132 hi0132 hsz132)|((with_reducible refine gate_dst (N:=34) rfl ?_);refine Kd.R_lit (Kd.int .i64) _ 3 ?hg (N:=34) ?hd (xs:=([]:List Int)) (inner:=[]) (ok:=fun _=>True) (okp:=fun _=>True) ?hr ?hp (fun _ hk=>hk) trivial (Below.refl _ _) (Nat.le_refl _) (by simp) ?_;(case hd=>rfl);(case hg=>rfl);(case hr=>first|(go_simp;done)|(go_simp;rfl));(case hp=>exact(Reps.none _ _));intro v272 w133 ho134 hb hg_ hnew_;clear hg_ hnew_;(first|rw [←Ny271.out] at ho134|(simp only [Int.reduceToNat] at ho134;rw [←Ny271.out] at ho134));have n0_:=Aside0.mk (Kd.R_lower ho134 (below_size (by repeat (first|(with_reducible first|exact HB.out|apply below_alloc|apply pw_below_drewN|apply below_drew1)|exact HB.out))));have n1_:=Aside0.mk (below_step (by repeat (first|(with_reducible first|exact HB.out|apply below_alloc|apply pw_below_drewN|apply below_drew1)|exact HB.out)) hb);clear HB;have HO273:=n0_;have HB:=n1_;clear n0_ n1_;clear hb ho134)|((with_reducible refine gate_builtin (b:=.append) (xs:=#[.tmp 34,.tmp 35]) rfl ?_);at_builtin;refine Kd.R_append_rows (Kd.int .i64) (w0:=w) w.heap.size rfl (.tmp 34) (.tmp 35) 22 3 (.int .i64 0) 8 rfl Try.underlying22 info3 rfl (by decide) (by omega) v272 y271 m0_5 _ _ _ (fun _=>True) (fun _=>False) rfl rfl ?aO ?aR (fun _ _ h=>h) (fun _ h=>h.elim) ?aF ?aB ?aS ?aL ?_;(case aR=>first|(rw [←show m0_5.length=(ji5).toNat from (by rw [←hm0_5,List.length_take];have h_:((ji5):Int)≤(l0.length:Int):=of_decide_eq_true (by first|(with_reducible assumption)|assumption);omega)];repeat (first|exact(Kd.C_below HR270.out HB.out)|(with_reducible refine Kd.C_alloc ?_ _)|(with_reducible refine Kd.C_drewN ?_ _)|(with_reducible refine Kd.C_drew ?_)))|(repeat (first|exact(Kd.C_below HR270.out HB.out)|(with_reducible refine Kd.C_alloc ?_ _)|(with_reducible refine Kd.C_drewN ?_ _)|(with_reducible refine Kd.C_drew ?_))));(case aB=>exact(by repeat (first|(with_reducible first|exact HB.out|apply below_alloc|apply pw_below_drewN|apply below_drew1)|exact HB.out)));(case aF=>exact(fun _ _=>trivial));(case aO=>exact(by (with_reducible repeat (first|apply Kd.R_alloc|apply Kd.R_drewN|apply Kd.R_drew));exact HO273.out));(case aS=>exact(below_size (by repeat (first|(with_reducible first|exact HB.out|apply below_alloc|apply pw_below_drewN|apply below_drew1)|exact HB.out))));(case aL=>have:=LMc8.out;have hlx_:=(show m0_5.length=(ji5).toNat from (by rw [←hm0_5,List.length_take];have h_:((ji5):Int)≤(l0.length:Int):=of_decide_eq_true (by first|(with_reducible assumption)|assumption);omega));omega);intro v275 w135 ho hb hg hat;rw [←Ny274.out] at ho;have n0_:=Aside0.mk (hb);have n1_:=Aside0.mk (ho);clear HB;clear HO273;have HB:=n0_;have HO276:=n1_;clear n0_ n1_;clear ho hb hg hat)|((with_reducible refine gate_builtin (b:=.append) (xs:=#[.tmp 37,.tmp 38]) rfl ?_);at_builtin;refine Kd.R_append (Kd.int .i64) (w0:=w) w.heap.size rfl (.tmp 37) (.tmp 38) 22 3 (.int .i64 0) 8 rfl Try.underlying22 info3 rfl (by decide) (by omega) v275 y274 0 [.int .i64 0] (fun _=>True) (fun _=>False) rfl rfl ?aP (fun _ hk=>hk.elim) ?aF ?aO ?aB ?aS ?aL ?_;(case aP=>exact rfl);(case aB=>exact(by repeat (first|(with_reducible first|exact HB.out|apply below_alloc|apply pw_below_drewN|apply below_drew1)|exact HB.out)));(case aF=>exact(fun _ _=>trivial));(case aO=>exact(by (with_reducible repeat (first|apply Kd.R_alloc|apply Kd.R_drewN|apply Kd.R_drew));exact HO276.out));(case aS=>exact(below_size (by repeat (first|(with_reducible first|exact HB.out|apply below_alloc|apply pw_below_drewN|apply below_drew1)|exact HB.out))));(case aL=>have:=LMc9.out;omega);intro v278 w136 ho hb hg hat;rw [←Ny277.out] at ho;have n0_:=Aside0.mk (hb);have n1_:=Aside0.mk (ho);clear HB;clear HO276;have HB:=n0_;have HO279:=n1_;clear n0_ n1_;clear ho hb hg hat)|((with_reducible refine gate_callee (f:=9) rfl ?_);refine goesL_ (some 42) rfl rfl Try.func9 (by kernel_rfl) rfl #[.slice A0 m0_5.length c0] rfl (by (try simp only [List.map_toArray,List.map_cons,List.map_nil]);first|done|(rw [show m0_5.length=(ji5).toNat from (by rw [←hm0_5,List.length_take];have h_:((ji5):Int)≤(l0.length:Int):=of_decide_eq_true (by first|(with_reducible assumption)|assumption);omega)]<;>rfl)|(simp only [hji5];rfl)|rfl|(simp only [List.length_drop,List.length_take];rfl)) ?_;(with_reducible refine(sum_Total.calls k _ _ m0_5 t280 t281 _ ?side1 ?side2 A10.out).mono ?_);(case side1=>repeat (first|exact(Kd.C_below HR270.out HB.out)|(with_reducible refine Kd.C_alloc ?_ _)|(with_reducible refine Kd.C_drewN ?_ _)|(with_reducible refine Kd.C_drew ?_)));(case side2=>exact HC270.out);rintro e w137 ⟨rfl,hb⟩;refine⟨_,rfl,?_⟩;have n0_:=Aside0.mk (Kd.R_below (by (with_reducible repeat (first|apply Kd.R_alloc|apply Kd.R_drewN|apply Kd.R_drew));exact HO279.out) hb);have n1_:=Aside0.mk (below_step (by repeat (first|(with_reducible first|exact HB.out|apply below_alloc|apply pw_below_drewN|apply below_drew1)|exact HB.out)) hb);clear HO279;clear HB;have HO279:=n0_;have HB:=n1_;clear n0_ n1_;(try clear hb);(try clear hb2);(try clear hk);(try clear hi);obtain⟨Ao138,co138,eo138⟩:=Kd.R_slice HO279.out;subst eo138)|((with_reducible refine gate_callee (f:=9) rfl ?_);refine goesL_ (some 47) rfl rfl Try.func9 (by kernel_rfl) rfl #[.slice Ao138 y277.length co138] rfl (by (try simp only [List.map_toArray,List.map_cons,List.map_nil]);first|done|rfl|(simp only [List.length_drop,List.length_take];rfl)) ?_;(with_reducible refine(sum_Total.calls k _ _ y277 t282 t283 _ ?side1 ?side2 A11.out).mono ?_);(case side1=>repeat (first|exact(Kd.R_reads' HO279.out).2.2|(with_reducible refine Kd.C_alloc ?_ _)|(with_reducible refine Kd.C_drewN ?_ _)|(with_reducible refine Kd.C_drew ?_)));(case side2=>exact(Kd.R_reads' HO279.out).2.1);rintro e w139 ⟨rfl,hb⟩;refine⟨_,rfl,?_⟩;have n0_:=Aside0.mk (Kd.R_below (by (with_reducible repeat (first|apply Kd.R_alloc|apply Kd.R_drewN|apply Kd.R_drew));exact HO279.out) hb);have n1_:=Aside0.mk (below_step (by repeat (first|(with_reducible first|exact HB.out|apply below_alloc|apply pw_below_drewN|apply below_drew1)|exact HB.out)) hb);clear HO279;clear HB;have HO279:=n0_;have HB:=n1_;clear n0_ n1_;(try clear hb);(try clear hb2);(try clear hk);(try clear hi))|((with_reducible refine gate_callee (f:=15) rfl ?_);refine goesL_ (some 52) rfl rfl Try.func15 (by kernel_rfl) rfl #[.slice A0 m0_5.length c0] rfl (by (try simp only [List.map_toArray,List.map_cons,List.map_nil]);first|done|(rw [show m0_5.length=(ji5).toNat from (by rw [←hm0_5,List.length_take];have h_:((ji5):Int)≤(l0.length:Int):=of_decide_eq_true (by first|(with_reducible assumption)|assumption);omega)]<;>rfl)|(simp only [hji5];rfl)|rfl|(simp only [List.length_drop,List.length_take];rfl)) ?_;(with_reducible refine(sum_Norm.calls k _ _ m0_5 t284 t285 _ ?side1 ?side2 A12.out).mono ?_);(case side1=>repeat (first|exact(Kd.C_below HR270.out HB.out)|(with_reducible refine Kd.C_alloc ?_ _)|(with_reducible refine Kd.C_drewN ?_ _)|(with_reducible refine Kd.C_drew ?_)));(case side2=>exact HC270.out);rintro e w140 ⟨rfl,hb⟩;refine⟨_,rfl,?_⟩;have n0_:=Aside0.mk (Kd.R_below (by (with_reducible repeat (first|apply Kd.R_alloc|apply Kd.R_drewN|apply Kd.R_drew));exact HO279.out) hb);have n1_:=Aside0.mk (below_step (by repeat (first|(with_reducible first|exact HB.out|apply below_alloc|apply pw_below_drewN|apply below_drew1)|exact HB.out)) hb);clear HO279;clear HB;have HO279:=n0_;have HB:=n1_;clear n0_ n1_;(try clear hb);(try clear hb2);(try clear hk);(try clear hi))|((with_reducible refine gate_callee (f:=15) rfl ?_);refine goesL_ (some 57) rfl rfl Try.func15 (by kernel_rfl) rfl #[.slice Ao138 y277.length co138] rfl (by (try simp only [List.map_toArray,List.map_cons,List.map_nil]);first|done|rfl|(simp only [List.length_drop,List.length_take];rfl)) ?_;(with_reducible refine(sum_Norm.calls k _ _ y277 t286 t287 _ ?side1 ?side2 A13.out).mono ?_);(case side1=>repeat (first|exact(Kd.R_reads' HO279.out).2.2|(with_reducible refine Kd.C_alloc ?_ _)|(with_reducible refine Kd.C_drewN ?_ _)|(with_reducible refine Kd.C_drew ?_)));(case side2=>exact(Kd.R_reads' HO279.out).2.1);rintro e w141 ⟨rfl,hb⟩;refine⟨_,rfl,?_⟩;have n0_:=Aside0.mk (Kd.R_below (by (with_reducible repeat (first|apply Kd.R_alloc|apply Kd.R_drewN|apply Kd.R_drew));exact HO279.out) hb);have n1_:=Aside0.mk (below_step (by repeat (first|(with_reducible first|exact HB.out|apply below_alloc|apply pw_below_drewN|apply below_drew1)|exact HB.out)) hb);clear HO279;clear HB;have HO279:=n0_;have HB:=n1_;clear n0_ n1_;(try clear hb);(try clear hb2);(try clear hk);(try clear hi);obtain⟨i0142,hi0142,_,hsz142,_⟩:=info_parts info3;obtain⟨hcut142,hA142,hC142⟩:=print_take_of (P:=Try.prog) (Value.int .i64) 0 22 3 .i64 Try.underlying22 hi0142 hsz142 A1 c1 l1 (ji14) (of_decide_eq_true (by first|(with_reducible assumption)|assumption)) (of_decide_eq_true (by first|(with_reducible assumption)|assumption)) HC1.out;rw [hm1_14] at hA142 hC142;simp only [hm1_14] at hcut142;have HR288:=Aside0.mk (Kd.C_of_reads (h1:=fun _=>rfl) (hA142 _ (Kd.reads_of_C HR1.out)));have HC288:=Aside0.mk hC142;clear hA142 hC142 hi0142 hsz142)|((with_reducible refine gate_callee (f:=13) rfl ?_);refine goesL_ (some 75) rfl rfl Try.func13 (by kernel_rfl) rfl #[.slice A0 m0_5.length c0,.slice A1 m1_14.length c1] rfl (by (try simp only [List.map_toArray,List.map_cons,List.map_nil]);first|done|(rw [show m0_5.length=(ji5).toNat from (by rw [←hm0_5,List.length_take];have h_:((ji5):Int)≤(l0.length:Int):=of_decide_eq_true (by first|(with_reducible assumption)|assumption);omega)]<;>rfl)|(rw [show m1_14.length=(ji14).toNat from (by rw [←hm1_14,List.length_take];have h_:((ji14):Int)≤(l1.length:Int):=of_decide_eq_true (by first|(with_reducible assumption)|assumption);omega)]<;>rfl)|(simp only [hji14,hji5];rfl)|rfl|(simp only [List.length_drop,List.length_take];rfl)) ?_;(with_reducible refine(sum_Dot.calls k _ _ m0_5 _ _ m1_14 t289 false _ ?side1 ?side2 ?side3 ?side4 A18.out).mono ?_);(case side1=>repeat (first|exact(Kd.C_below HR270.out HB.out)|(with_reducible refine Kd.C_alloc ?_ _)|(with_reducible refine Kd.C_drewN ?_ _)|(with_reducible refine Kd.C_drew ?_)));(case side2=>exact HC270.out);(case side3=>repeat (first|exact(Kd.C_below HR288.out HB.out)|(with_reducible refine Kd.C_alloc ?_ _)|(with_reducible refine Kd.C_drewN ?_ _)|(with_reducible refine Kd.C_drew ?_)));(case side4=>exact HC288.out);rintro e w143 ⟨rfl,hb⟩;refine⟨_,rfl,?_⟩;have n0_:=Aside0.mk (Kd.R_below (by (with_reducible repeat (first|apply Kd.R_alloc|apply Kd.R_drewN|apply Kd.R_drew));exact HO279.out) hb);have n1_:=Aside0.mk (below_step (by repeat (first|(with_reducible first|exact HB.out|apply below_alloc|apply pw_below_drewN|apply below_drew1)|exact HB.out)) hb);clear HO279;clear HB;have HO279:=n0_;have HB:=n1_;clear n0_ n1_;(try clear hb);(try clear hb2);(try clear hk);(try clear hi)))
                       have n0_:=Aside0.mk (Kd.R_drew HO279.out)
                       have n1_:=Aside0.mk (below_drew1 HB.out)
                       clear HO279
                       clear HB
                       have HO279:=n0_
                       have HB:=n1_
                       clear n0_ n1_
                       obtain⟨i0145,hi0145,_,hsz145,_⟩:=info_parts info3
                       obtain⟨hcut145,hA145,hC145⟩:=print_take_of (P:=Try.prog) (Value.int .i64) 0 22 3 .i64 Try.underlying22 hi0145 hsz145 A0 c0 m0_5 (ji19) (of_decide_eq_true (by first|(with_reducible assumption)|assumption)) (of_decide_eq_true (by first|(with_reducible assumption)|assumption)) HC270.out;rw [hm0_5_19] at hA145 hC145;simp only [hm0_5_19] at hcut145
                       have HR291:=Aside0.mk (Kd.C_of_reads (h1:=fun _=>rfl) (hA145 _ (Kd.reads_of_C HR270.out)))
                       have HC291:=Aside0.mk hC145
                       clear hA145 hC145 hi0145 hsz145
                       obtain⟨i0146,hi0146,_,hsz146,_⟩:=info_parts info3
                       obtain⟨hcut146,hA146,hC146⟩:=print_take_of (P:=Try.prog) (Value.int .i64) 0 22 3 .i64 Try.underlying22 hi0146 hsz146 A1 c1 l1 (ji19) (of_decide_eq_true (by first|(with_reducible assumption)|assumption)) (of_decide_eq_true (by first|(with_reducible assumption)|assumption)) HC1.out;rw [hm1_19] at hA146 hC146;simp only [hm1_19] at hcut146
                       have HR292:=Aside0.mk (Kd.C_of_reads (h1:=fun _=>rfl) (hA146 _ (Kd.reads_of_C HR1.out)))
                       have HC292:=Aside0.mk hC146
                       clear hA146 hC146 hi0146 hsz146
                       refine start_ (n:=12) (S:=fun w'=>True) (ds:=[]) #[false,false,false,false,false,false,false,false,false,false,false,false] (by kernel_rfl) rfl rfl trivial (fun hHeld=>?_);refine with_tabW outriggerlaw06_SumZero.tab12 outriggerlaw06_SumZero.bits12 (fun HT_ HW_=>?_)
                       generalize w143.drew=w144 at HO279 HB HR291 HR292 hHeld ⊢
                       refine pure_ (i:=0) (N:=some 79) (v:=?_) (a':=?_) #[true,false,false,false,false,false,false,false,false,false,false,false] rfl rfl (any_of HT_.out (by kernel_rfl)) (fun _ _ _ h=>h) (Or.inl ⟨by rfl,?_⟩) ?_ ?_
                       rotate_left
                       ·intro w'
                        go_simp
                        with_reducible rfl
                       rotate_left
                       ·simp only [Act.put,List.setIfInBounds_toArray,List.set_cons_zero,List.set_cons_succ,i64_w,i32_w]
                        rfl
                       refine pure_ (i:=1) (N:=some 80) (v:=?_) (a':=?_) #[true,true,false,false,false,false,false,false,false,false,false,false] rfl rfl (any_of HT_.out (by kernel_rfl)) (fun _ _ _ h=>h) (Or.inl ⟨by rfl,?_⟩) ?_ ?_
                       rotate_left
                       ·intro w'
                        go_simp
                        with_reducible rfl
                       rotate_left
                       ·simp only [Act.put,List.setIfInBounds_toArray,List.set_cons_zero,List.set_cons_succ,i64_w,i32_w]
                        rfl
                       refine pure_ (i:=2) (N:=some 81) (v:=?_) (a':=?_) #[true,true,true,false,false,false,false,false,false,false,false,false] rfl rfl (any_of HT_.out (by kernel_rfl)) (fun _ _ _ h=>h) (Or.inl ⟨by rfl,?_⟩) ?_ ?_
                       rotate_left
                       ·intro w'
                        go_simp
                        with_reducible rfl
                       rotate_left
                       ·simp only [Act.put,List.setIfInBounds_toArray,List.set_cons_zero,List.set_cons_succ,i64_w,i32_w]
                        rfl
                       refine pure_ (i:=3) (N:=some 82) (v:=?_) (a':=?_) #[true,true,true,true,false,false,false,false,false,false,false,false] rfl rfl (any_of HT_.out (by kernel_rfl)) (fun _ _ _ h=>h) (Or.inl ⟨by rfl,?_⟩) ?_ ?_
                       rotate_left
                       ·intro w'
                        go_simp
                        with_reducible rfl
                       rotate_left
                       ·simp only [Act.put,List.setIfInBounds_toArray,List.set_cons_zero,List.set_cons_succ,i64_w,i32_w]
                        rfl
                       refine pure_ (i:=4) (N:=some 83) (v:=?_) (a':=?_) #[true,true,true,true,true,false,false,false,false,false,false,false] rfl rfl (any_of HT_.out (by kernel_rfl)) (fun _ _ _ h=>h) (Or.inl ⟨by rfl,?_⟩) ?_ ?_
                       rotate_left
                       ·intro w'
                        go_simp
                        with_reducible rfl
                       rotate_left
                       ·simp only [Act.put,List.setIfInBounds_toArray,List.set_cons_zero,List.set_cons_succ,i64_w,i32_w]
                        rfl
                       refine pure_ (i:=5) (N:=some 84) (v:=?_) (a':=?_) #[true,true,true,true,true,true,false,false,false,false,false,false] rfl rfl (any_of HT_.out (by kernel_rfl)) (fun _ _ _ h=>h) (Or.inl ⟨by rfl,?_⟩) ?_ ?_
                       rotate_left
                       ·intro w'
                        go_simp
                        with_reducible rfl
                       rotate_left
                       ·simp only [Act.put,List.setIfInBounds_toArray,List.set_cons_zero,List.set_cons_succ,i64_w,i32_w]
                        rfl
                       refine one_ (i:=6) (N:=some 85) #[true,true,true,true,true,true,true,false,false,false,false,false] rfl rfl (one_of HT_.out (by kernel_rfl)) (by decide) (fun K hK=>?_)
                       refine goes_ Try.func13 (by kernel_rfl) rfl #[.slice A0 m0_5_19.length c0,.slice A1 m1_19.length c1] (by rfl) rfl rfl (by (try simp only [List.map_toArray,List.map_cons,List.map_nil]);first|done|(rw [show m0_5_19.length=(ji19).toNat from (by rw [←hm0_5_19,List.length_take];have h_:((ji19):Int)≤(m0_5.length:Int):=of_decide_eq_true (by first|(with_reducible assumption)|assumption);omega)]<;>rfl)|(rw [show m1_19.length=(ji19).toNat from (by rw [←hm1_19,List.length_take];have h_:((ji19):Int)≤(l1.length:Int):=of_decide_eq_true (by first|(with_reducible assumption)|assumption);omega)]<;>rfl)|(simp only [hji19,hji5];rfl)|rfl|(simp only [List.length_drop,List.length_take];rfl)) ?_
                       with_reducible refine(sum_Dot.calls k _ _ m0_5_19 _ _ m1_19 t293 false _ ?side1 ?side2 ?side3 ?side4 A24.out).mono ?_
                       (case side1=>repeat (first|exact(Kd.C_below HR291.out HB.out)|(with_reducible refine Kd.C_alloc ?_ _)|(with_reducible refine Kd.C_drewN ?_ _)|(with_reducible refine Kd.C_drew ?_)))
                       (case side2=>exact HC291.out)
                       (case side3=>repeat (first|exact(Kd.C_below HR292.out HB.out)|(with_reducible refine Kd.C_alloc ?_ _)|(with_reducible refine Kd.C_drewN ?_ _)|(with_reducible refine Kd.C_drew ?_)))
                       (case side4=>exact HC292.out)
                       rintro e w147 ⟨rfl,hb⟩
                       refine⟨_,rfl,?_⟩
                       have n0_:=Aside0.mk (Kd.R_below (by (with_reducible repeat (first|apply Kd.R_alloc|apply Kd.R_drewN|apply Kd.R_drew));exact HO279.out) hb)
                       have n1_:=Aside0.mk (below_step (by repeat (first|(with_reducible first|exact HB.out|apply below_alloc|apply pw_below_drewN|apply below_drew1)|exact HB.out)) hb)
                       clear HO279
                       clear HB
                       have HO279:=n0_
                       have HB:=n1_
                       clear n0_ n1_
                       (try clear hb)
                       (try clear hb2)
                       (try clear hk)
                       (try clear hi)
                       refine hK.out _ _ trivial (fun hHeld=>?_)
                       clear hK K
                       refine norm_ (a':=?_) ?_ ?_
                       rotate_left
                       ·show Act.put _ (some 85) _=_
                        simp only [Act.put,List.setIfInBounds_toArray,List.set_cons_zero,List.set_cons_succ,i64_w,i32_w]
                        rfl
                       refine pure_ (i:=7) (N:=some 78) (v:=?_) (a':=?_) #[true,true,true,true,true,true,true,true,false,false,false,false] rfl rfl (any_of HT_.out (by kernel_rfl)) (fun _ _ _ h=>h) (Or.inl ⟨by rfl,?_⟩) ?_ ?_
                       rotate_left
                       ·intro w'
                        go_simp
                        with_reducible rfl
                       rotate_left
                       ·simp only [Act.put,List.setIfInBounds_toArray,List.set_cons_zero,List.set_cons_succ,i64_w,i32_w]
                        rfl
                       refine pure_ (i:=8) (N:=some 86) (v:=?_) (a':=?_) #[true,true,true,true,true,true,true,true,true,false,false,false] rfl rfl (any_of HT_.out (by kernel_rfl)) (fun _ _ _ h=>h) (Or.inl ⟨by rfl,?_⟩) ?_ ?_
                       rotate_left
                       ·intro w'
                        go_simp
                        with_reducible rfl
                       rotate_left
                       ·simp only [Act.put,List.setIfInBounds_toArray,List.set_cons_zero,List.set_cons_succ,i64_w,i32_w]
                        rfl
                       refine pure_ (i:=9) (N:=some 87) (v:=?_) (a':=?_) #[true,true,true,true,true,true,true,true,true,true,false,false] rfl rfl (any_of HT_.out (by kernel_rfl)) (fun _ _ _ h=>h) (Or.inl ⟨by rfl,?_⟩) ?_ ?_
                       rotate_left
                       ·intro w'
                        go_simp
                        with_reducible rfl
                       rotate_left
                       ·simp only [Act.put,List.setIfInBounds_toArray,List.set_cons_zero,List.set_cons_succ,i64_w,i32_w]
                        rfl
                       refine pure_ (i:=10) (N:=some 22) (v:=?_) (a':=?_) #[true,true,true,true,true,true,true,true,true,true,true,false] rfl rfl (any_of HT_.out (by kernel_rfl)) (fun _ _ _ h=>h) (Or.inl ⟨by rfl,?_⟩) ?_ ?_
                       rotate_left
                       ·intro w'
                        go_simp
                        with_reducible rfl
                       rotate_left
                       ·simp only [Act.put,List.setIfInBounds_toArray,List.set_cons_zero,List.set_cons_succ,i64_w,i32_w]
                        rfl
                       refine pure_ (i:=11) (N:=some 23) (v:=?_) (a':=?_) #[true,true,true,true,true,true,true,true,true,true,true,true] rfl rfl (any_of HT_.out (by kernel_rfl)) (fun _ _ _ h=>h) (Or.inl ⟨by rfl,?_⟩) ?_ ?_
                       rotate_left
                       ·intro w'
                        go_simp
                        with_reducible rfl
                       rotate_left
                       ·simp only [Act.put,List.setIfInBounds_toArray,List.set_cons_zero,List.set_cons_succ,i64_w,i32_w]
                        rfl
                       refine done_ (done_of HT_.out (by kernel_rfl)) ?_
                       try go_wp2
                       have n0_:=Aside0.mk (Kd.R_drew HO279.out)
                       have n1_:=Aside0.mk (below_drew1 HB.out)
                       clear HO279
                       clear HB
                       have HO279:=n0_
                       have HB:=n1_
                       clear n0_ n1_
                       obtain⟨i0149,hi0149,_,hsz149,_⟩:=info_parts info3
                       obtain⟨A149,hcut149,hA149,hC149⟩:=print_mid_of (P:=Try.prog) (Value.int .i64) 0 22 3 .i64 .i64 Try.underlying22 hi0149 hsz149 A0 c0 m0_5 (ji19) (ji14) (of_decide_eq_true (by first|(with_reducible assumption)|assumption)) (by first|omega|exact of_decide_eq_true (by first|(with_reducible assumption)|assumption)) (of_decide_eq_true (by first|(with_reducible assumption)|assumption)) HC270.out
                       rw [hm0_5_14] at hA149 hC149
                       try simp only [hm0_5_14] at hcut149
                       have HR295:=Aside0.mk (Kd.C_of_reads (h1:=fun _=>rfl) (hA149 _ (Kd.reads_of_C HR270.out)))
                       have HC295:=Aside0.mk hC149
                       clear hA149 hC149 hi0149 hsz149
                       obtain⟨i0150,hi0150,_,hsz150,_⟩:=info_parts info3
                       obtain⟨A150,hcut150,hA150,hC150⟩:=print_mid_of (P:=Try.prog) (Value.int .i64) 0 22 3 .i64 .i64 Try.underlying22 hi0150 hsz150 A1 c1 l1 (ji19) (ji14) (of_decide_eq_true (by first|(with_reducible assumption)|assumption)) (by first|omega|exact of_decide_eq_true (by first|(with_reducible assumption)|assumption)) (of_decide_eq_true (by first|(with_reducible assumption)|assumption)) HC1.out
                       rw [hm1_14] at hA150 hC150
                       try simp only [hm1_14] at hcut150
                       have HR296:=Aside0.mk (Kd.C_of_reads (h1:=fun _=>rfl) (hA150 _ (Kd.reads_of_C HR1.out)))
                       have HC296:=Aside0.mk hC150
                       clear hA150 hC150 hi0150 hsz150
                       refine start_ (n:=14) (S:=fun w'=>True) (ds:=[]) #[false,false,false,false,false,false,false,false,false,false,false,false,false,false] (by kernel_rfl) rfl rfl trivial (fun hHeld=>?_);refine with_tabW outriggerlaw06_SumZero.tab13 outriggerlaw06_SumZero.bits13 (fun HT_ HW_=>?_)
                       generalize w147.drew=w148 at HO279 HB HR295 HR296 hHeld ⊢
                       refine pure_ (i:=0) (N:=some 89) (v:=?_) (a':=?_) #[true,false,false,false,false,false,false,false,false,false,false,false,false,false] rfl rfl (any_of HT_.out (by kernel_rfl)) (fun _ _ _ h=>h) (Or.inl ⟨by rfl,?_⟩) ?_ ?_
                       rotate_left
                       ·intro w'
                        go_simp
                        with_reducible rfl
                       rotate_left
                       ·simp only [Act.put,List.setIfInBounds_toArray,List.set_cons_zero,List.set_cons_succ,i64_w,i32_w]
                        rfl
                       refine pure_ (i:=1) (N:=some 90) (v:=?_) (a':=?_) #[true,true,false,false,false,false,false,false,false,false,false,false,false,false] rfl rfl (any_of HT_.out (by kernel_rfl)) (fun _ _ _ h=>h) (Or.inl ⟨by rfl,?_⟩) ?_ ?_
                       rotate_left
                       ·intro w'
                        go_simp
                        with_reducible rfl
                       rotate_left
                       ·simp only [Act.put,List.setIfInBounds_toArray,List.set_cons_zero,List.set_cons_succ,i64_w,i32_w]
                        rfl
                       refine pure_ (i:=2) (N:=some 91) (v:=?_) (a':=?_) #[true,true,true,false,false,false,false,false,false,false,false,false,false,false] rfl rfl (any_of HT_.out (by kernel_rfl)) (fun _ _ _ h=>h) (Or.inl ⟨by rfl,?_⟩) ?_ ?_
                       rotate_left
                       ·intro w'
                        go_simp
                        with_reducible rfl
                       rotate_left
                       ·simp only [Act.put,List.setIfInBounds_toArray,List.set_cons_zero,List.set_cons_succ,i64_w,i32_w]
                        rfl
                       refine pure_ (i:=3) (N:=some 92) (v:=?_) (a':=?_) #[true,true,true,true,false,false,false,false,false,false,false,false,false,false] rfl rfl (any_of HT_.out (by kernel_rfl)) (fun _ _ _ h=>h) (Or.inl ⟨by rfl,?_⟩) ?_ ?_
                       rotate_left
                       ·intro w'
                        go_simp
                        with_reducible rfl
                       rotate_left
                       ·simp only [Act.put,List.setIfInBounds_toArray,List.set_cons_zero,List.set_cons_succ,i64_w,i32_w]
                        rfl
                       refine pure_ (i:=4) (N:=some 93) (v:=?_) (a':=?_) #[true,true,true,true,true,false,false,false,false,false,false,false,false,false] rfl rfl (any_of HT_.out (by kernel_rfl)) (fun _ _ _ h=>h) (Or.inl ⟨by rfl,?_⟩) ?_ ?_
                       rotate_left
                       ·intro w'
                        go_simp
                        with_reducible rfl
                       rotate_left
                       ·simp only [Act.put,List.setIfInBounds_toArray,List.set_cons_zero,List.set_cons_succ,i64_w,i32_w]
                        rfl
                       refine pure_ (i:=5) (N:=some 94) (v:=?_) (a':=?_) #[true,true,true,true,true,true,false,false,false,false,false,false,false,false] rfl rfl (any_of HT_.out (by kernel_rfl)) (fun _ _ _ h=>h) (Or.inl ⟨by rfl,?_⟩) ?_ ?_
                       rotate_left
                       ·intro w'
                        go_simp
                        with_reducible rfl
                       rotate_left
                       ·simp only [Act.put,List.setIfInBounds_toArray,List.set_cons_zero,List.set_cons_succ,i64_w,i32_w]
                        rfl
                       refine pure_ (i:=6) (N:=some 95) (v:=?_) (a':=?_) #[true,true,true,true,true,true,true,false,false,false,false,false,false,false] rfl rfl (any_of HT_.out (by kernel_rfl)) (fun _ _ _ h=>h) (Or.inl ⟨by rfl,?_⟩) ?_ ?_
                       rotate_left
                       ·intro w'
                        go_simp
                        with_reducible rfl
                       rotate_left
                       ·simp only [Act.put,List.setIfInBounds_toArray,List.set_cons_zero,List.set_cons_succ,i64_w,i32_w]
                        rfl
                       refine pure_ (i:=7) (N:=some 96) (v:=?_) (a':=?_) #[true,true,true,true,true,true,true,true,false,false,false,false,false,false] rfl rfl (any_of HT_.out (by kernel_rfl)) (fun _ _ _ h=>h) (Or.inl ⟨by rfl,?_⟩) ?_ ?_
                       rotate_left
                       ·intro w'
                        go_simp
                        with_reducible rfl
                       rotate_left
                       ·simp only [Act.put,List.setIfInBounds_toArray,List.set_cons_zero,List.set_cons_succ,i64_w,i32_w]
                        rfl
                       refine one_ (i:=8) (N:=some 97) #[true,true,true,true,true,true,true,true,true,false,false,false,false,false] rfl rfl (one_of HT_.out (by kernel_rfl)) (by decide) (fun K hK=>?_)
                       refine goes_ Try.func13 (by kernel_rfl) rfl #[.slice A149 (m0_5_14.drop ((ji19):Int).toNat).length (c0-(ji19).toNat),.slice A150 (m1_14.drop ((ji19):Int).toNat).length (c1-(ji19).toNat)] (by rfl) rfl rfl (by (try simp only [List.map_toArray,List.map_cons,List.map_nil]);first|done|(rw [show(m0_5_14.drop ((ji19):Int).toNat).length=((ji14).toNat-(ji19).toNat) from (by rw [←hm0_5_14,List.length_drop,List.length_take];have h_:((ji14):Int)≤(m0_5.length:Int):=of_decide_eq_true (by first|(with_reducible assumption)|assumption);omega)]<;>rfl)|(rw [show(m1_14.drop ((ji19):Int).toNat).length=((ji14).toNat-(ji19).toNat) from (by rw [←hm1_14,List.length_drop,List.length_take];have h_:((ji14):Int)≤(l1.length:Int):=of_decide_eq_true (by first|(with_reducible assumption)|assumption);omega)]<;>rfl)|(simp only [hji14,hji19,hji5];rfl)|rfl|(simp only [List.length_drop,List.length_take];rfl)) ?_
                       with_reducible refine(sum_Dot.calls k _ _ (m0_5_14.drop ((ji19):Int).toNat) _ _ (m1_14.drop ((ji19):Int).toNat) t297 false _ ?side1 ?side2 ?side3 ?side4 A31.out).mono ?_
                       (case side1=>repeat (first|exact(Kd.C_below HR295.out HB.out)|(with_reducible refine Kd.C_alloc ?_ _)|(with_reducible refine Kd.C_drewN ?_ _)|(with_reducible refine Kd.C_drew ?_)))
                       (case side2=>exact HC295.out)
                       (case side3=>repeat (first|exact(Kd.C_below HR296.out HB.out)|(with_reducible refine Kd.C_alloc ?_ _)|(with_reducible refine Kd.C_drewN ?_ _)|(with_reducible refine Kd.C_drew ?_)))
                       (case side4=>exact HC296.out)
                       rintro e w151 ⟨rfl,hb⟩
                       refine⟨_,rfl,?_⟩
                       have n0_:=Aside0.mk (Kd.R_below (by (with_reducible repeat (first|apply Kd.R_alloc|apply Kd.R_drewN|apply Kd.R_drew));exact HO279.out) hb)
                       have n1_:=Aside0.mk (below_step (by repeat (first|(with_reducible first|exact HB.out|apply below_alloc|apply pw_below_drewN|apply below_drew1)|exact HB.out)) hb)
                       clear HO279
                       clear HB
                       have HO279:=n0_
                       have HB:=n1_
                       clear n0_ n1_
                       (try clear hb)
                       (try clear hb2)
                       (try clear hk)
                       (try clear hi)
                       refine hK.out _ _ trivial (fun hHeld=>?_)
                       clear hK K
                       refine norm_ (a':=?_) ?_ ?_
                       rotate_left
                       ·show Act.put _ (some 97) _=_
                        simp only [Act.put,List.setIfInBounds_toArray,List.set_cons_zero,List.set_cons_succ,i64_w,i32_w]
                        rfl
                       refine pure_ (i:=9) (N:=some 88) (v:=?_) (a':=?_) #[true,true,true,true,true,true,true,true,true,true,false,false,false,false] rfl rfl (any_of HT_.out (by kernel_rfl)) (fun _ _ _ h=>h) (Or.inl ⟨by rfl,?_⟩) ?_ ?_
                       rotate_left
                       ·intro w'
                        go_simp
                        with_reducible rfl
                       rotate_left
                       ·simp only [Act.put,List.setIfInBounds_toArray,List.set_cons_zero,List.set_cons_succ,i64_w,i32_w]
                        rfl
                       refine pure_ (i:=10) (N:=some 98) (v:=?_) (a':=?_) #[true,true,true,true,true,true,true,true,true,true,true,false,false,false] rfl rfl (any_of HT_.out (by kernel_rfl)) (fun _ _ _ h=>h) (Or.inl ⟨by rfl,?_⟩) ?_ ?_
                       rotate_left
                       ·intro w'
                        go_simp
                        with_reducible rfl
                       rotate_left
                       ·simp only [Act.put,List.setIfInBounds_toArray,List.set_cons_zero,List.set_cons_succ,i64_w,i32_w]
                        rfl
                       refine pure_ (i:=11) (N:=some 99) (v:=?_) (a':=?_) #[true,true,true,true,true,true,true,true,true,true,true,true,false,false] rfl rfl (any_of HT_.out (by kernel_rfl)) (fun _ _ _ h=>h) (Or.inl ⟨by rfl,?_⟩) ?_ ?_
                       rotate_left
                       ·intro w'
                        go_simp
                        with_reducible rfl
                       rotate_left
                       ·simp only [Act.put,List.setIfInBounds_toArray,List.set_cons_zero,List.set_cons_succ,i64_w,i32_w]
                        rfl
                       refine pure_ (i:=12) (N:=some 24) (v:=?_) (a':=?_) #[true,true,true,true,true,true,true,true,true,true,true,true,true,false] rfl rfl (any_of HT_.out (by kernel_rfl)) (fun _ _ _ h=>h) (Or.inl ⟨by rfl,?_⟩) ?_ ?_
                       rotate_left
                       ·intro w'
                        go_simp
                        with_reducible rfl
                       rotate_left
                       ·simp only [Act.put,List.setIfInBounds_toArray,List.set_cons_zero,List.set_cons_succ,i64_w,i32_w]
                        rfl
                       refine pure_ (i:=13) (N:=some 25) (v:=?_) (a':=?_) #[true,true,true,true,true,true,true,true,true,true,true,true,true,true] rfl rfl (any_of HT_.out (by kernel_rfl)) (fun _ _ _ h=>h) (Or.inl ⟨by rfl,?_⟩) ?_ ?_
                       rotate_left
                       ·intro w'
                        go_simp
                        with_reducible rfl
                       rotate_left
                       ·simp only [Act.put,List.setIfInBounds_toArray,List.set_cons_zero,List.set_cons_succ,i64_w,i32_w]
                        rfl
                       refine done_ (done_of HT_.out (by kernel_rfl)) ?_
                       try go_wp2_with (first|((with_reducible refine gate_callee (f:=17) rfl ?_);refine goesL_ (some 103) rfl rfl Try.func17 (by kernel_rfl) rfl #[.int .i64 t293,.int .i64 t297] rfl (by (try simp only [List.map_toArray,List.map_cons,List.map_nil]);first|done|rfl|(simp only [List.length_drop,List.length_take];rfl)) ?_;(with_reducible refine(fix_Add.calls t293 t297 t299 false _ A32.out).mono ?_);rintro e w152 ⟨rfl,hb⟩;refine⟨_,rfl,?_⟩;have n0_:=Aside0.mk (Kd.R_below (by (with_reducible repeat (first|apply Kd.R_alloc|apply Kd.R_drewN|apply Kd.R_drew));exact HO279.out) hb);have n1_:=Aside0.mk (below_step (by repeat (first|(with_reducible first|exact HB.out|apply below_alloc|apply pw_below_drewN|apply below_drew1)|exact HB.out)) hb);clear HO279;clear HB;have HO279:=n0_;have HB:=n1_;clear n0_ n1_;(try clear hb);(try clear hb2);(try clear hk);(try clear hi)))
                       go_ret
                       exact⟨by first|rfl|(simp [errW_none,errW_some]<;>rfl)|(simp only [←hji5,←hji14,←hji19];first|rfl|(simp [errW_none,errW_some]<;>rfl))|(simp [*,errW_none,errW_some]<;>rfl),by repeat (first|(with_reducible first|exact HB.out|apply below_alloc|apply pw_below_drewN|apply below_drew1)|exact HB.out)⟩
                      ·rw [if_neg c130] at H
                       have c130b0:decide ((wrap64 (t289-t299))≤1)=false:=decide_eq_false c130
                       clear c130
                       exact absurd ((Option.some.inj H).trans hr.out) (by decide)
                 ·rw [if_neg c37] at H
                  have c37b0:(t285 == t287)=false:=by simpa using c37
                  (try (have c37b1:decide (t285=t287)=false:=by simpa using c37))
                  (try (have c37b2:(t285 == t287)=false:=by simpa using c37))
                  (try (have c37b3:¬(t285=t287):=by simpa using c37))
                  clear c37
                  exact absurd ((Option.some.inj H).trans hr.out) (by decide)
                ·rw [if_neg c36] at H
                 have c36b0:(t284 == t286)=false:=beq_eq_false_iff_ne.mpr c36
                 have c36b1:(t284 != t286)=true:=bne_iff_ne.mpr c36
                 exact absurd ((Option.some.inj H).trans hr.out) (by decide)
               ·rw [if_neg c35] at H
                have c35b0:(t281 == t283)=false:=by simpa using c35
                (try (have c35b1:decide (t281=t283)=false:=by simpa using c35))
                (try (have c35b2:(t281 == t283)=false:=by simpa using c35))
                (try (have c35b3:¬(t281=t283):=by simpa using c35))
                clear c35
                exact absurd ((Option.some.inj H).trans hr.out) (by decide)
              ·rw [if_neg c34] at H
               have c34b0:(t280 == t282)=false:=beq_eq_false_iff_ne.mpr c34
               have c34b1:(t280 != t282)=true:=bne_iff_ne.mpr c34
               exact absurd ((Option.some.inj H).trans hr.out) (by decide)
             ·replace c33:=Bool.eq_false_iff.mpr c33
              subst c33
              have H1:(some false)=some r:=by rw [if_neg (show ¬(false=true) by decide)] at H;exact H
              clear H
              have H:=H1
              clear H1
              exact absurd ((Option.some.inj H).trans hr.out) (by decide)
            ·rw [if_neg c27] at H
             exact absurd H (by simp)
           ·rw [if_neg c26] at H
            exact absurd H (by simp)
          ·rw [if_neg c23] at H
           exact absurd H (by simp)
         ·rw [if_neg c21] at H
          exact absurd H (by simp)
        ·rw [if_neg c20] at H
         exact absurd H (by simp)
       ·rw [if_neg c17] at H
        exact absurd H (by simp)
      ·rw [if_neg c16] at H
       exact absurd H (by simp)
    ·rw [if_neg c9] at H
     exact absurd H (by simp)
   ·rw [if_neg c8] at H
    exact absurd H (by simp)
  ·rw [if_neg c7] at H
   exact absurd H (by simp)
 ·rw [if_neg c6] at H
  exact absurd H (by simp)
end Go.Proofs.Ytiejinbjfficnaa.B
