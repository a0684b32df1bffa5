/- Lemmas of the rows, laid by a program. -/
import Derived.Test.YtonfobdknnlbjaaYM1
import Derived.Test.YtonfobdknnlbjaaYM3
import Derived.Test.YtonfobdknnlbjaaYM4
import Derived.Shelf.Abstract
import Derived.WalkKit
import Derived.Laws.CopyRow
section
set_option linter.unusedVariables false
set_option linter.unusedSimpArgs false
namespace Go.Proofs.Ytonfobdknnlbjaa.B
open Go.RowKit Go.Proofs.YtonfobdknnlbjaaW.PrintWords Go.Proofs.YtonfobdknnlbjaaW.PrintLast Go.Proofs.YtonfobdknnlbjaaW.PrintMore
attribute [local go_sem] max2_int min2_int max_two min_two max_three min_three max_four min_four
set_option linter.unusedVariables false
set_option linter.unusedSimpArgs false
def bits_Len64.j0:Nat→Int→Int→Option (Int)
  | 0,_,_=>none
  | k+1,x0,x2=>if x0 ≥ 65536 then (if (x0/65536) ≥ 256 then (if 0≤(((x0/65536)/256)%256) then (if (((x0/65536)/256)%256)<256 then (some (wrap64 ((wrap64 ((wrap64 (x2+16))+8))+(wrap64 (bt (⟨#[0,1,2,2,3,3,3,3,4,4,4,4,4,4,4,4,5,5,5,5,5,5,5,5,5,5,5,5,5,5,5,5,6,6,6,6,6,6,6,6,6,6,6,6,6,6,6,6,6,6,6,6,6,6,6,6,6,6,6,6,6,6,6,6,7,7,7,7,7,7,7,7,7,7,7,7,7,7,7,7,7,7,7,7,7,7,7,7,7,7,7,7,7,7,7,7,7,7,7,7,7,7,7,7,7,7,7,7,7,7,7,7,7,7,7,7,7,7,7,7,7,7,7,7,7,7,7,7,8,8,8,8,8,8,8,8,8,8,8,8,8,8,8,8,8,8,8,8,8,8,8,8,8,8,8,8,8,8,8,8,8,8,8,8,8,8,8,8,8,8,8,8,8,8,8,8,8,8,8,8,8,8,8,8,8,8,8,8,8,8,8,8,8,8,8,8,8,8,8,8,8,8,8,8,8,8,8,8,8,8,8,8,8,8,8,8,8,8,8,8,8,8,8,8,8,8,8,8,8,8,8,8,8,8,8,8,8,8,8,8,8,8,8,8,8,8,8,8,8,8,8,8,8,8,8,8]⟩:ByteArray) (((x0/65536)/256)%256)))))) else (none)) else (none)) else (if 0≤((x0/65536)%256) then (if ((x0/65536)%256)<256 then (some (wrap64 ((wrap64 (x2+16))+(wrap64 (bt (⟨#[0,1,2,2,3,3,3,3,4,4,4,4,4,4,4,4,5,5,5,5,5,5,5,5,5,5,5,5,5,5,5,5,6,6,6,6,6,6,6,6,6,6,6,6,6,6,6,6,6,6,6,6,6,6,6,6,6,6,6,6,6,6,6,6,7,7,7,7,7,7,7,7,7,7,7,7,7,7,7,7,7,7,7,7,7,7,7,7,7,7,7,7,7,7,7,7,7,7,7,7,7,7,7,7,7,7,7,7,7,7,7,7,7,7,7,7,7,7,7,7,7,7,7,7,7,7,7,7,8,8,8,8,8,8,8,8,8,8,8,8,8,8,8,8,8,8,8,8,8,8,8,8,8,8,8,8,8,8,8,8,8,8,8,8,8,8,8,8,8,8,8,8,8,8,8,8,8,8,8,8,8,8,8,8,8,8,8,8,8,8,8,8,8,8,8,8,8,8,8,8,8,8,8,8,8,8,8,8,8,8,8,8,8,8,8,8,8,8,8,8,8,8,8,8,8,8,8,8,8,8,8,8,8,8,8,8,8,8,8,8,8,8,8,8,8,8,8,8,8,8,8,8,8,8,8,8]⟩:ByteArray) ((x0/65536)%256)))))) else (none)) else (none))) else (if x0 ≥ 256 then (if 0≤((x0/256)%256) then (if ((x0/256)%256)<256 then (some (wrap64 ((wrap64 (x2+8))+(wrap64 (bt (⟨#[0,1,2,2,3,3,3,3,4,4,4,4,4,4,4,4,5,5,5,5,5,5,5,5,5,5,5,5,5,5,5,5,6,6,6,6,6,6,6,6,6,6,6,6,6,6,6,6,6,6,6,6,6,6,6,6,6,6,6,6,6,6,6,6,7,7,7,7,7,7,7,7,7,7,7,7,7,7,7,7,7,7,7,7,7,7,7,7,7,7,7,7,7,7,7,7,7,7,7,7,7,7,7,7,7,7,7,7,7,7,7,7,7,7,7,7,7,7,7,7,7,7,7,7,7,7,7,7,8,8,8,8,8,8,8,8,8,8,8,8,8,8,8,8,8,8,8,8,8,8,8,8,8,8,8,8,8,8,8,8,8,8,8,8,8,8,8,8,8,8,8,8,8,8,8,8,8,8,8,8,8,8,8,8,8,8,8,8,8,8,8,8,8,8,8,8,8,8,8,8,8,8,8,8,8,8,8,8,8,8,8,8,8,8,8,8,8,8,8,8,8,8,8,8,8,8,8,8,8,8,8,8,8,8,8,8,8,8,8,8,8,8,8,8,8,8,8,8,8,8,8,8,8,8,8,8]⟩:ByteArray) ((x0/256)%256)))))) else (none)) else (none)) else (if 0≤((x0)%256) then (if ((x0)%256)<256 then (some (wrap64 (x2+(wrap64 (bt (⟨#[0,1,2,2,3,3,3,3,4,4,4,4,4,4,4,4,5,5,5,5,5,5,5,5,5,5,5,5,5,5,5,5,6,6,6,6,6,6,6,6,6,6,6,6,6,6,6,6,6,6,6,6,6,6,6,6,6,6,6,6,6,6,6,6,7,7,7,7,7,7,7,7,7,7,7,7,7,7,7,7,7,7,7,7,7,7,7,7,7,7,7,7,7,7,7,7,7,7,7,7,7,7,7,7,7,7,7,7,7,7,7,7,7,7,7,7,7,7,7,7,7,7,7,7,7,7,7,7,8,8,8,8,8,8,8,8,8,8,8,8,8,8,8,8,8,8,8,8,8,8,8,8,8,8,8,8,8,8,8,8,8,8,8,8,8,8,8,8,8,8,8,8,8,8,8,8,8,8,8,8,8,8,8,8,8,8,8,8,8,8,8,8,8,8,8,8,8,8,8,8,8,8,8,8,8,8,8,8,8,8,8,8,8,8,8,8,8,8,8,8,8,8,8,8,8,8,8,8,8,8,8,8,8,8,8,8,8,8,8,8,8,8,8,8,8,8,8,8,8,8,8,8,8,8,8,8]⟩:ByteArray) ((x0)%256)))))) else (none)) else (none)))
def bits_Len64.f (k:Nat) (a0:Int):Option (Int):=if a0 ≥ 4294967296 then (bits_Len64.j0 k (a0/4294967296) 32) else (bits_Len64.j0 k a0 0)
theorem bits_Len64.mono_l:∀ k,(∀ y0 y1,LeO (bits_Len64.j0 k y0 y1) (bits_Len64.j0 (k+1) y0 y1))
 | 0=>fun _ _ r h=>by simp [bits_Len64.j0] at h
 | k+1=>by
  have ih0:=bits_Len64.mono_l k
  ·intro y0 y1
   unfold bits_Len64.j0
   repeat' first
   | (with_reducible exact ih0 _ _)
   | (with_reducible exact LeO.refl _)
   | (with_reducible exact LeO.none _)
   | (with_reducible refine LeO.ite ?_ ?_)
   | (with_reducible refine LeO.bind ?_ (fun _=>?_))
   | exact ih0 _ _
   | exact LeO.none _
   | refine LeO.ite ?_ ?_
   | refine LeO.bind ?_ (fun _=>?_)
theorem bits_Len64.mono:∀ a0 k,LeO (bits_Len64.f k a0) (bits_Len64.f (k+1) a0):=by
 intro a0 k
 have ih0:=bits_Len64.mono_l k
 unfold bits_Len64.f
 repeat' first
   | (with_reducible exact ih0 _ _)
   | (with_reducible exact LeO.refl _)
   | (with_reducible exact LeO.none _)
   | (with_reducible refine LeO.ite ?_ ?_)
   | (with_reducible refine LeO.bind ?_ (fun _=>?_))
   | exact ih0 _ _
   | exact LeO.none _
   | refine LeO.ite ?_ ?_
   | refine LeO.bind ?_ (fun _=>?_)
set_option maxHeartbeats 8000000 in
set_option maxRecDepth 100000 in
theorem bits_Len64.calls (k:Nat) (a0:Int) (r:Int) (w:World) (h:bits_Len64.f k a0=some r) :
  Calls Try.prog 88 #[.int .u64 a0] w fun e w'=>e=.returned (.int .i64 r)∧Drawn0 w w':=by
 have H:(if a0 ≥ 4294967296 then (bits_Len64.j0 k (a0/4294967296) 32) else (bits_Len64.j0 k a0 0))=some r:=h
 clear h
 have HC2:=Aside0.mk H
 clear H
 go_enter Try.func88,Try.ntmps88
 go_upto_if 4 with (fail)
 go_cut [0,2] (fun v0 v2 wc=>∃ (kq:Nat) (x0_1:Int) (x2_1:Int),v0=.int .u64 x0_1∧v2=.int .i64 x2_1∧Aside0 (bits_Len64.j0 kq x0_1 x2_1=some r)∧Aside0 (kq≤k)∧Drawn0 w wc)
 case first =>
  have H:=HC2.out
  clear HC2
  by_cases c3:a0 ≥ 4294967296
  ·rw [if_pos c3] at H
   have c3b0:decide (4294967296≤a0)=true:=decide_eq_true c3
   clear c3
   (first|rw [c3b0]|(simp only [i64_w,i32_w];rw [c3b0])|skip)
   have H':=Aside0.mk H
   clear H
   go_wp2
   go_meet
   case rel=>exact⟨_,(a0/4294967296),(32),(by first|rfl|(simp;done)|(simp [*];done)),(by first|rfl|(simp;done)|(simp [*];done)),H',⟨by first|omega|exact Nat.le_refl _⟩,by repeat (first|exact Drawn0.refl _|apply Drawn0.step)⟩
  ·rw [if_neg c3] at H
   have c3b0:decide (4294967296≤a0)=false:=decide_eq_false c3
   clear c3
   (first|rw [c3b0]|(simp only [i64_w,i32_w];rw [c3b0])|skip)
   have H':=Aside0.mk H
   clear H
   go_wp2
   go_meet
   case rel=>exact⟨_,(a0),(0),(by first|rfl|(simp;done)|(simp [*];done)),(by first|rfl|(simp;done)|(simp [*];done)),H',⟨by first|omega|exact Nat.le_refl _⟩,by repeat (first|exact Drawn0.refl _|apply Drawn0.step)⟩
 case rest =>
  clear HC2
  try clear p2
  try clear c3
  try clear c3b0
  obtain⟨kq,x0_1,x2_1,rfl,rfl,HA,HJ1,⟨mc1,rfl⟩⟩:=hcut
  cases kq with
  | zero=>exact absurd HA.out (by simp [bits_Len64.j0])
  | succ kj1 =>
   have H:=HA.out
   clear HA
   simp only [bits_Len64.j0] at H
   by_cases c4:x0_1 ≥ 65536
   ·rw [if_pos c4] at H
    have c4b0:decide (65536≤x0_1)=true:=decide_eq_true c4
    clear c4
    by_cases c5:(x0_1/65536) ≥ 256
    ·rw [if_pos c5] at H
     have c5b0:decide (256≤(x0_1/65536))=true:=decide_eq_true c5
     clear c5
     obtain⟨ji6,hji6⟩:∃ j_:Int,(((x0_1/65536)/256)%256)=j_:=⟨_,rfl⟩
     replace H:(if 0≤(ji6) then (if (ji6)<256 then (some (wrap64 ((wrap64 ((wrap64 (x2_1+16))+8))+(wrap64 (bt (⟨#[0,1,2,2,3,3,3,3,4,4,4,4,4,4,4,4,5,5,5,5,5,5,5,5,5,5,5,5,5,5,5,5,6,6,6,6,6,6,6,6,6,6,6,6,6,6,6,6,6,6,6,6,6,6,6,6,6,6,6,6,6,6,6,6,7,7,7,7,7,7,7,7,7,7,7,7,7,7,7,7,7,7,7,7,7,7,7,7,7,7,7,7,7,7,7,7,7,7,7,7,7,7,7,7,7,7,7,7,7,7,7,7,7,7,7,7,7,7,7,7,7,7,7,7,7,7,7,7,8,8,8,8,8,8,8,8,8,8,8,8,8,8,8,8,8,8,8,8,8,8,8,8,8,8,8,8,8,8,8,8,8,8,8,8,8,8,8,8,8,8,8,8,8,8,8,8,8,8,8,8,8,8,8,8,8,8,8,8,8,8,8,8,8,8,8,8,8,8,8,8,8,8,8,8,8,8,8,8,8,8,8,8,8,8,8,8,8,8,8,8,8,8,8,8,8,8,8,8,8,8,8,8,8,8,8,8,8,8,8,8,8,8,8,8,8,8,8,8,8,8,8,8,8,8,8,8]⟩:ByteArray) (ji6)))))) else (none)) else (none))=some r:=by first|(rw [hji6] at H;exact H)|(simp only [hji6] at H ⊢;exact H)
     by_cases c7:0≤(ji6)
     ·rw [if_pos c7] at H
      have c7b0:decide (0≤(ji6))=true:=decide_eq_true c7
      clear c7
      by_cases c8:(ji6)<256
      ·rw [if_pos c8] at H
       have c8b0:decide ((ji6)<256)=true:=decide_eq_true c8
       clear c8
       obtain rfl:=Option.some.inj H
       have p9:0≤((ji6):Int):=of_decide_eq_true (by first|(with_reducible assumption)|assumption)
       have q9:(ji6)<(256:Int):=of_decide_eq_true (by first|(with_reducible assumption)|assumption)
       have hx9:=bt_at (⟨#[0,1,2,2,3,3,3,3,4,4,4,4,4,4,4,4,5,5,5,5,5,5,5,5,5,5,5,5,5,5,5,5,6,6,6,6,6,6,6,6,6,6,6,6,6,6,6,6,6,6,6,6,6,6,6,6,6,6,6,6,6,6,6,6,7,7,7,7,7,7,7,7,7,7,7,7,7,7,7,7,7,7,7,7,7,7,7,7,7,7,7,7,7,7,7,7,7,7,7,7,7,7,7,7,7,7,7,7,7,7,7,7,7,7,7,7,7,7,7,7,7,7,7,7,7,7,7,7,8,8,8,8,8,8,8,8,8,8,8,8,8,8,8,8,8,8,8,8,8,8,8,8,8,8,8,8,8,8,8,8,8,8,8,8,8,8,8,8,8,8,8,8,8,8,8,8,8,8,8,8,8,8,8,8,8,8,8,8,8,8,8,8,8,8,8,8,8,8,8,8,8,8,8,8,8,8,8,8,8,8,8,8,8,8,8,8,8,8,8,8,8,8,8,8,8,8,8,8,8,8,8,8,8,8,8,8,8,8,8,8,8,8,8,8,8,8,8,8,8,8,8,8,8,8,8,8]⟩:ByteArray) (ji6)
       replace p9:=eq_true p9
       replace q9:=eq_true q9
       go_wp2
       go_ret
       exact⟨by first|rfl|(simp;done)|(simp only [←hji6]<;>(first|rfl|simp))|(simp [*];done),by repeat (first|exact Drawn0.refl _|apply Drawn0.step)⟩
      ·rw [if_neg c8] at H
       exact absurd H (by simp)
     ·rw [if_neg c7] at H
      exact absurd H (by simp)
    ·rw [if_neg c5] at H
     have c5b0:decide (256≤(x0_1/65536))=false:=decide_eq_false c5
     clear c5
     obtain⟨ji10,hji10⟩:∃ j_:Int,((x0_1/65536)%256)=j_:=⟨_,rfl⟩
     replace H:(if 0≤(ji10) then (if (ji10)<256 then (some (wrap64 ((wrap64 (x2_1+16))+(wrap64 (bt (⟨#[0,1,2,2,3,3,3,3,4,4,4,4,4,4,4,4,5,5,5,5,5,5,5,5,5,5,5,5,5,5,5,5,6,6,6,6,6,6,6,6,6,6,6,6,6,6,6,6,6,6,6,6,6,6,6,6,6,6,6,6,6,6,6,6,7,7,7,7,7,7,7,7,7,7,7,7,7,7,7,7,7,7,7,7,7,7,7,7,7,7,7,7,7,7,7,7,7,7,7,7,7,7,7,7,7,7,7,7,7,7,7,7,7,7,7,7,7,7,7,7,7,7,7,7,7,7,7,7,8,8,8,8,8,8,8,8,8,8,8,8,8,8,8,8,8,8,8,8,8,8,8,8,8,8,8,8,8,8,8,8,8,8,8,8,8,8,8,8,8,8,8,8,8,8,8,8,8,8,8,8,8,8,8,8,8,8,8,8,8,8,8,8,8,8,8,8,8,8,8,8,8,8,8,8,8,8,8,8,8,8,8,8,8,8,8,8,8,8,8,8,8,8,8,8,8,8,8,8,8,8,8,8,8,8,8,8,8,8,8,8,8,8,8,8,8,8,8,8,8,8,8,8,8,8,8,8]⟩:ByteArray) (ji10)))))) else (none)) else (none))=some r:=by first|(rw [hji10] at H;exact H)|(simp only [hji10] at H ⊢;exact H)
     by_cases c11:0≤(ji10)
     ·rw [if_pos c11] at H
      have c11b0:decide (0≤(ji10))=true:=decide_eq_true c11
      clear c11
      by_cases c12:(ji10)<256
      ·rw [if_pos c12] at H
       have c12b0:decide ((ji10)<256)=true:=decide_eq_true c12
       clear c12
       obtain rfl:=Option.some.inj H
       have p13:0≤((ji10):Int):=of_decide_eq_true (by first|(with_reducible assumption)|assumption)
       have q13:(ji10)<(256:Int):=of_decide_eq_true (by first|(with_reducible assumption)|assumption)
       have hx13:=bt_at (⟨#[0,1,2,2,3,3,3,3,4,4,4,4,4,4,4,4,5,5,5,5,5,5,5,5,5,5,5,5,5,5,5,5,6,6,6,6,6,6,6,6,6,6,6,6,6,6,6,6,6,6,6,6,6,6,6,6,6,6,6,6,6,6,6,6,7,7,7,7,7,7,7,7,7,7,7,7,7,7,7,7,7,7,7,7,7,7,7,7,7,7,7,7,7,7,7,7,7,7,7,7,7,7,7,7,7,7,7,7,7,7,7,7,7,7,7,7,7,7,7,7,7,7,7,7,7,7,7,7,8,8,8,8,8,8,8,8,8,8,8,8,8,8,8,8,8,8,8,8,8,8,8,8,8,8,8,8,8,8,8,8,8,8,8,8,8,8,8,8,8,8,8,8,8,8,8,8,8,8,8,8,8,8,8,8,8,8,8,8,8,8,8,8,8,8,8,8,8,8,8,8,8,8,8,8,8,8,8,8,8,8,8,8,8,8,8,8,8,8,8,8,8,8,8,8,8,8,8,8,8,8,8,8,8,8,8,8,8,8,8,8,8,8,8,8,8,8,8,8,8,8,8,8,8,8,8,8]⟩:ByteArray) (ji10)
       replace p13:=eq_true p13
       replace q13:=eq_true q13
       go_wp2
       go_ret
       exact⟨by first|rfl|(simp;done)|(simp only [←hji10]<;>(first|rfl|simp))|(simp [*];done),by repeat (first|exact Drawn0.refl _|apply Drawn0.step)⟩
      ·rw [if_neg c12] at H
       exact absurd H (by simp)
     ·rw [if_neg c11] at H
      exact absurd H (by simp)
   ·rw [if_neg c4] at H
    have c4b0:decide (65536≤x0_1)=false:=decide_eq_false c4
    clear c4
    by_cases c14:x0_1 ≥ 256
    ·rw [if_pos c14] at H
     have c14b0:decide (256≤x0_1)=true:=decide_eq_true c14
     clear c14
     obtain⟨ji15,hji15⟩:∃ j_:Int,((x0_1/256)%256)=j_:=⟨_,rfl⟩
     replace H:(if 0≤(ji15) then (if (ji15)<256 then (some (wrap64 ((wrap64 (x2_1+8))+(wrap64 (bt (⟨#[0,1,2,2,3,3,3,3,4,4,4,4,4,4,4,4,5,5,5,5,5,5,5,5,5,5,5,5,5,5,5,5,6,6,6,6,6,6,6,6,6,6,6,6,6,6,6,6,6,6,6,6,6,6,6,6,6,6,6,6,6,6,6,6,7,7,7,7,7,7,7,7,7,7,7,7,7,7,7,7,7,7,7,7,7,7,7,7,7,7,7,7,7,7,7,7,7,7,7,7,7,7,7,7,7,7,7,7,7,7,7,7,7,7,7,7,7,7,7,7,7,7,7,7,7,7,7,7,8,8,8,8,8,8,8,8,8,8,8,8,8,8,8,8,8,8,8,8,8,8,8,8,8,8,8,8,8,8,8,8,8,8,8,8,8,8,8,8,8,8,8,8,8,8,8,8,8,8,8,8,8,8,8,8,8,8,8,8,8,8,8,8,8,8,8,8,8,8,8,8,8,8,8,8,8,8,8,8,8,8,8,8,8,8,8,8,8,8,8,8,8,8,8,8,8,8,8,8,8,8,8,8,8,8,8,8,8,8,8,8,8,8,8,8,8,8,8,8,8,8,8,8,8,8,8,8]⟩:ByteArray) (ji15)))))) else (none)) else (none))=some r:=by first|(rw [hji15] at H;exact H)|(simp only [hji15] at H ⊢;exact H)
     by_cases c16:0≤(ji15)
     ·rw [if_pos c16] at H
      have c16b0:decide (0≤(ji15))=true:=decide_eq_true c16
      clear c16
      by_cases c17:(ji15)<256
      ·rw [if_pos c17] at H
       have c17b0:decide ((ji15)<256)=true:=decide_eq_true c17
       clear c17
       obtain rfl:=Option.some.inj H
       have p18:0≤((ji15):Int):=of_decide_eq_true (by first|(with_reducible assumption)|assumption)
       have q18:(ji15)<(256:Int):=of_decide_eq_true (by first|(with_reducible assumption)|assumption)
       have hx18:=bt_at (⟨#[0,1,2,2,3,3,3,3,4,4,4,4,4,4,4,4,5,5,5,5,5,5,5,5,5,5,5,5,5,5,5,5,6,6,6,6,6,6,6,6,6,6,6,6,6,6,6,6,6,6,6,6,6,6,6,6,6,6,6,6,6,6,6,6,7,7,7,7,7,7,7,7,7,7,7,7,7,7,7,7,7,7,7,7,7,7,7,7,7,7,7,7,7,7,7,7,7,7,7,7,7,7,7,7,7,7,7,7,7,7,7,7,7,7,7,7,7,7,7,7,7,7,7,7,7,7,7,7,8,8,8,8,8,8,8,8,8,8,8,8,8,8,8,8,8,8,8,8,8,8,8,8,8,8,8,8,8,8,8,8,8,8,8,8,8,8,8,8,8,8,8,8,8,8,8,8,8,8,8,8,8,8,8,8,8,8,8,8,8,8,8,8,8,8,8,8,8,8,8,8,8,8,8,8,8,8,8,8,8,8,8,8,8,8,8,8,8,8,8,8,8,8,8,8,8,8,8,8,8,8,8,8,8,8,8,8,8,8,8,8,8,8,8,8,8,8,8,8,8,8,8,8,8,8,8,8]⟩:ByteArray) (ji15)
       replace p18:=eq_true p18
       replace q18:=eq_true q18
       go_wp2
       go_ret
       exact⟨by first|rfl|(simp;done)|(simp only [←hji15]<;>(first|rfl|simp))|(simp [*];done),by repeat (first|exact Drawn0.refl _|apply Drawn0.step)⟩
      ·rw [if_neg c17] at H
       exact absurd H (by simp)
     ·rw [if_neg c16] at H
      exact absurd H (by simp)
    ·rw [if_neg c14] at H
     have c14b0:decide (256≤x0_1)=false:=decide_eq_false c14
     clear c14
     obtain⟨ji19,hji19⟩:∃ j_:Int,((x0_1)%256)=j_:=⟨_,rfl⟩
     replace H:(if 0≤(ji19) then (if (ji19)<256 then (some (wrap64 (x2_1+(wrap64 (bt (⟨#[0,1,2,2,3,3,3,3,4,4,4,4,4,4,4,4,5,5,5,5,5,5,5,5,5,5,5,5,5,5,5,5,6,6,6,6,6,6,6,6,6,6,6,6,6,6,6,6,6,6,6,6,6,6,6,6,6,6,6,6,6,6,6,6,7,7,7,7,7,7,7,7,7,7,7,7,7,7,7,7,7,7,7,7,7,7,7,7,7,7,7,7,7,7,7,7,7,7,7,7,7,7,7,7,7,7,7,7,7,7,7,7,7,7,7,7,7,7,7,7,7,7,7,7,7,7,7,7,8,8,8,8,8,8,8,8,8,8,8,8,8,8,8,8,8,8,8,8,8,8,8,8,8,8,8,8,8,8,8,8,8,8,8,8,8,8,8,8,8,8,8,8,8,8,8,8,8,8,8,8,8,8,8,8,8,8,8,8,8,8,8,8,8,8,8,8,8,8,8,8,8,8,8,8,8,8,8,8,8,8,8,8,8,8,8,8,8,8,8,8,8,8,8,8,8,8,8,8,8,8,8,8,8,8,8,8,8,8,8,8,8,8,8,8,8,8,8,8,8,8,8,8,8,8,8,8]⟩:ByteArray) (ji19)))))) else (none)) else (none))=some r:=by first|(rw [hji19] at H;exact H)|(simp only [hji19] at H ⊢;exact H)
     by_cases c20:0≤(ji19)
     ·rw [if_pos c20] at H
      have c20b0:decide (0≤(ji19))=true:=decide_eq_true c20
      clear c20
      by_cases c21:(ji19)<256
      ·rw [if_pos c21] at H
       have c21b0:decide ((ji19)<256)=true:=decide_eq_true c21
       clear c21
       obtain rfl:=Option.some.inj H
       have p22:0≤((ji19):Int):=of_decide_eq_true (by first|(with_reducible assumption)|assumption)
       have q22:(ji19)<(256:Int):=of_decide_eq_true (by first|(with_reducible assumption)|assumption)
       have hx22:=bt_at (⟨#[0,1,2,2,3,3,3,3,4,4,4,4,4,4,4,4,5,5,5,5,5,5,5,5,5,5,5,5,5,5,5,5,6,6,6,6,6,6,6,6,6,6,6,6,6,6,6,6,6,6,6,6,6,6,6,6,6,6,6,6,6,6,6,6,7,7,7,7,7,7,7,7,7,7,7,7,7,7,7,7,7,7,7,7,7,7,7,7,7,7,7,7,7,7,7,7,7,7,7,7,7,7,7,7,7,7,7,7,7,7,7,7,7,7,7,7,7,7,7,7,7,7,7,7,7,7,7,7,8,8,8,8,8,8,8,8,8,8,8,8,8,8,8,8,8,8,8,8,8,8,8,8,8,8,8,8,8,8,8,8,8,8,8,8,8,8,8,8,8,8,8,8,8,8,8,8,8,8,8,8,8,8,8,8,8,8,8,8,8,8,8,8,8,8,8,8,8,8,8,8,8,8,8,8,8,8,8,8,8,8,8,8,8,8,8,8,8,8,8,8,8,8,8,8,8,8,8,8,8,8,8,8,8,8,8,8,8,8,8,8,8,8,8,8,8,8,8,8,8,8,8,8,8,8,8,8]⟩:ByteArray) (ji19)
       replace p22:=eq_true p22
       replace q22:=eq_true q22
       go_wp2
       go_ret
       exact⟨by first|rfl|(simp;done)|(simp only [←hji19]<;>(first|rfl|simp))|(simp [*];done),by repeat (first|exact Drawn0.refl _|apply Drawn0.step)⟩
      ·rw [if_neg c21] at H
       exact absurd H (by simp)
     ·rw [if_neg c20] at H
      exact absurd H (by simp)
def bits_LeadingZeros64.f (k:Nat) (a0:Int):Option (Int):=(bits_Len64.f k a0).bind fun t250=>(some (wrap64 (64-t250)))
theorem bits_LeadingZeros64.mono:∀ a0 k,LeO (bits_LeadingZeros64.f k a0) (bits_LeadingZeros64.f (k+1) a0):=by
 intro a0 k
 unfold bits_LeadingZeros64.f
 repeat' first
   | (with_reducible exact bits_Len64.mono _ _)
   | (with_reducible exact LeO.refl _)
   | (with_reducible exact LeO.none _)
   | (with_reducible refine LeO.ite ?_ ?_)
   | (with_reducible refine LeO.bind ?_ (fun _=>?_))
   | exact bits_Len64.mono _ _
   | exact LeO.none _
   | refine LeO.ite ?_ ?_
   | refine LeO.bind ?_ (fun _=>?_)
set_option maxHeartbeats 8000000 in
set_option maxRecDepth 100000 in
theorem bits_LeadingZeros64.calls (k:Nat) (a0:Int) (r:Int) (w:World) (h:bits_LeadingZeros64.f k a0=some r) :
  Calls Try.prog 87 #[.int .u64 a0] w fun e w'=>e=.returned (.int .i64 r)∧Drawn0 w w':=by
 have H:((bits_Len64.f k a0).bind fun t250=>(some (wrap64 (64-t250))))=some r:=h
 clear h
 replace H:=Option.bind_eq_some_iff.mp H
 obtain⟨t250,A20,H⟩:=H
 replace H:(some (wrap64 (64-t250)))=some r:=H
 have A2:=Aside0.mk A20
 clear A20
 obtain rfl:=Option.some.inj H
 go_enter Try.func87,Try.ntmps87
 go_wp2_with (first|((with_reducible refine gate_callee (f:=88) rfl ?_);refine goesL_ (some 4) rfl rfl Try.func88 (by kernel_rfl) rfl #[.int .u64 a0] rfl (by exact mA _ _) ?_;(with_reducible refine(bits_Len64.calls k a0 t250 _ A2.out).mono ?_);rintro e w' ⟨rfl,⟨nd,rfl⟩⟩;refine⟨_,rfl,?_⟩))
 go_ret
 exact⟨by first|rfl|(simp;done)|(simp [*];done),by repeat (first|exact Drawn0.refl _|apply Drawn0.step)⟩
mutual
def bits_Div64.j2:Nat→Int→Int→Int→Int→Int→Int→Int→Int→Option (Int × Int)
  | 0,_,_,_,_,_,_,_,_=>none
  | k+1,x2,x8,x9,x10,x11,x13,x14,x15=>if x9=0 then (none) else (bits_Div64.l1 k x2 x8 x9 x10 x14 x15 (IntKind.u64.wrap ((IntKind.u64.wrap ((IntKind.u64.wrap ((IntKind.u64.wrap (x11*4294967296))+x13))-(IntKind.u64.wrap (x15*x2))))-(IntKind.u64.wrap ((IntKind.u64.wrap (Int.tdiv (IntKind.u64.wrap ((IntKind.u64.wrap ((IntKind.u64.wrap (x11*4294967296))+x13))-(IntKind.u64.wrap (x15*x2)))) x9))*x9)))) (IntKind.u64.wrap ((IntKind.u64.wrap ((IntKind.u64.wrap (x11*4294967296))+x13))-(IntKind.u64.wrap (x15*x2)))) (IntKind.u64.wrap (Int.tdiv (IntKind.u64.wrap ((IntKind.u64.wrap ((IntKind.u64.wrap (x11*4294967296))+x13))-(IntKind.u64.wrap (x15*x2)))) x9)))
def bits_Div64.l1:Nat→Int→Int→Int→Int→Int→Int→Int→Int→Int→Option (Int × Int)
  | 0,_,_,_,_,_,_,_,_,_=>none
  | k+1,x2,x8,x9,x10,x14,x15,x16,x17,x18=>if x18 ≥ 4294967296 then (bits_Div64.j4 k x2 x8 x9 x10 x14 x15 x16 x17 x18 true) else (bits_Div64.j4 k x2 x8 x9 x10 x14 x15 x16 x17 x18 (decide ((IntKind.u64.wrap (x18*x10)) > (IntKind.u64.wrap ((IntKind.u64.wrap (4294967296*x16))+x14)))))
def bits_Div64.j4:Nat→Int→Int→Int→Int→Int→Int→Int→Int→Int→Bool→Option (Int × Int)
  | 0,_,_,_,_,_,_,_,_,_,_=>none
  | k+1,x2,x8,x9,x10,x14,x15,x16,x17,x18,x113=>if x113=true then (if (IntKind.u64.wrap (x16+x9)) ≥ 4294967296 then (if 0≤x8 then (some (IntKind.u64.wrap ((IntKind.u64.wrap (x15*4294967296))+(IntKind.u64.wrap (x18-1))),shr .u64 (IntKind.u64.wrap ((IntKind.u64.wrap ((IntKind.u64.wrap (x17*4294967296))+x14))-(IntKind.u64.wrap ((IntKind.u64.wrap (x18-1))*x2)))) x8)) else (none)) else (bits_Div64.l1 k x2 x8 x9 x10 x14 x15 (IntKind.u64.wrap (x16+x9)) x17 (IntKind.u64.wrap (x18-1)))) else (if 0≤x8 then (some (IntKind.u64.wrap ((IntKind.u64.wrap (x15*4294967296))+x18),shr .u64 (IntKind.u64.wrap ((IntKind.u64.wrap ((IntKind.u64.wrap (x17*4294967296))+x14))-(IntKind.u64.wrap (x18*x2)))) x8)) else (none))
def bits_Div64.l0:Nat→Int→Int→Int→Int→Int→Int→Int→Int→Int→Option (Int × Int)
  | 0,_,_,_,_,_,_,_,_,_=>none
  | k+1,x2,x8,x9,x10,x11,x13,x14,x15,x16=>if x15 ≥ 4294967296 then (bits_Div64.j1 k x2 x8 x9 x10 x11 x13 x14 x15 x16 true) else (bits_Div64.j1 k x2 x8 x9 x10 x11 x13 x14 x15 x16 (decide ((IntKind.u64.wrap (x15*x10)) > (IntKind.u64.wrap ((IntKind.u64.wrap (4294967296*x16))+x13)))))
def bits_Div64.j1:Nat→Int→Int→Int→Int→Int→Int→Int→Int→Int→Bool→Option (Int × Int)
  | 0,_,_,_,_,_,_,_,_,_,_=>none
  | k+1,x2,x8,x9,x10,x11,x13,x14,x15,x16,x78=>if x78=true then (if (IntKind.u64.wrap (x16+x9)) ≥ 4294967296 then (bits_Div64.j2 k x2 x8 x9 x10 x11 x13 x14 (IntKind.u64.wrap (x15-1))) else (bits_Div64.l0 k x2 x8 x9 x10 x11 x13 x14 (IntKind.u64.wrap (x15-1)) (IntKind.u64.wrap (x16+x9)))) else (bits_Div64.j2 k x2 x8 x9 x10 x11 x13 x14 x15)
end
def bits_Div64.f (k:Nat) (a0:Int) (a1:Int) (a2:Int):Option (Int × Int):=if a2=0 then (if 0=0 then (none) else (some (0,0))) else (if a2≤a0 then (if 0=0 then (none) else (some (0,0))) else (if a0=0 then (some (IntKind.u64.wrap (Int.tdiv a1 a2),Int.tmod a1 a2)) else ((bits_LeadingZeros64.f k a2).bind fun t251=>(if 0≤(IntKind.u64.wrap (t251)) then (if 0≤(IntKind.u64.wrap (64-(IntKind.u64.wrap (t251)))) then (if ((shl .u64 a2 (IntKind.u64.wrap (t251)))/4294967296)=0 then (none) else (bits_Div64.l0 k (shl .u64 a2 (IntKind.u64.wrap (t251))) (IntKind.u64.wrap (t251)) ((shl .u64 a2 (IntKind.u64.wrap (t251)))/4294967296) (Go.bits .and .u64 (shl .u64 a2 (IntKind.u64.wrap (t251))) 4294967295) (Go.bits .or .u64 (shl .u64 a0 (IntKind.u64.wrap (t251))) (shr .u64 a1 (IntKind.u64.wrap (64-(IntKind.u64.wrap (t251)))))) ((shl .u64 a1 (IntKind.u64.wrap (t251)))/4294967296) (Go.bits .and .u64 (shl .u64 a1 (IntKind.u64.wrap (t251))) 4294967295) (IntKind.u64.wrap (Int.tdiv (Go.bits .or .u64 (shl .u64 a0 (IntKind.u64.wrap (t251))) (shr .u64 a1 (IntKind.u64.wrap (64-(IntKind.u64.wrap (t251)))))) ((shl .u64 a2 (IntKind.u64.wrap (t251)))/4294967296))) (IntKind.u64.wrap ((Go.bits .or .u64 (shl .u64 a0 (IntKind.u64.wrap (t251))) (shr .u64 a1 (IntKind.u64.wrap (64-(IntKind.u64.wrap (t251))))))-(IntKind.u64.wrap ((IntKind.u64.wrap (Int.tdiv (Go.bits .or .u64 (shl .u64 a0 (IntKind.u64.wrap (t251))) (shr .u64 a1 (IntKind.u64.wrap (64-(IntKind.u64.wrap (t251)))))) ((shl .u64 a2 (IntKind.u64.wrap (t251)))/4294967296)))*((shl .u64 a2 (IntKind.u64.wrap (t251)))/4294967296))))))) else (none)) else (none)))))
theorem bits_Div64.mono_l:∀ k,(∀ y0 y1 y2 y3 y4 y5 y6 y7,LeO (bits_Div64.j2 k y0 y1 y2 y3 y4 y5 y6 y7) (bits_Div64.j2 (k+1) y0 y1 y2 y3 y4 y5 y6 y7))∧(∀ y0 y1 y2 y3 y4 y5 y6 y7 y8,LeO (bits_Div64.l1 k y0 y1 y2 y3 y4 y5 y6 y7 y8) (bits_Div64.l1 (k+1) y0 y1 y2 y3 y4 y5 y6 y7 y8))∧(∀ y0 y1 y2 y3 y4 y5 y6 y7 y8 y9,LeO (bits_Div64.j4 k y0 y1 y2 y3 y4 y5 y6 y7 y8 y9) (bits_Div64.j4 (k+1) y0 y1 y2 y3 y4 y5 y6 y7 y8 y9))∧(∀ y0 y1 y2 y3 y4 y5 y6 y7 y8,LeO (bits_Div64.l0 k y0 y1 y2 y3 y4 y5 y6 y7 y8) (bits_Div64.l0 (k+1) y0 y1 y2 y3 y4 y5 y6 y7 y8))∧(∀ y0 y1 y2 y3 y4 y5 y6 y7 y8 y9,LeO (bits_Div64.j1 k y0 y1 y2 y3 y4 y5 y6 y7 y8 y9) (bits_Div64.j1 (k+1) y0 y1 y2 y3 y4 y5 y6 y7 y8 y9))
 | 0=>⟨fun _ _ _ _ _ _ _ _ r h=>by simp [bits_Div64.j2] at h,fun _ _ _ _ _ _ _ _ _ r h=>by simp [bits_Div64.l1] at h,fun _ _ _ _ _ _ _ _ _ _ r h=>by simp [bits_Div64.j4] at h,fun _ _ _ _ _ _ _ _ _ r h=>by simp [bits_Div64.l0] at h,fun _ _ _ _ _ _ _ _ _ _ r h=>by simp [bits_Div64.j1] at h⟩
 | k+1=>by
  obtain⟨ih0,ih1,ih2,ih3,ih4⟩:=bits_Div64.mono_l k
  refine⟨?_,?_,?_,?_,?_⟩
  ·intro y0 y1 y2 y3 y4 y5 y6 y7
   unfold bits_Div64.j2
   repeat' first
   | (with_reducible exact ih0 _ _ _ _ _ _ _ _)
   | (with_reducible exact ih1 _ _ _ _ _ _ _ _ _)
   | (with_reducible exact ih2 _ _ _ _ _ _ _ _ _ _)
   | (with_reducible exact ih3 _ _ _ _ _ _ _ _ _)
   | (with_reducible exact ih4 _ _ _ _ _ _ _ _ _ _)
   | (with_reducible exact bits_LeadingZeros64.mono _ _)
   | (with_reducible exact LeO.refl _)
   | (with_reducible exact LeO.none _)
   | (with_reducible refine LeO.ite ?_ ?_)
   | (with_reducible refine LeO.bind ?_ (fun _=>?_))
   | exact ih0 _ _ _ _ _ _ _ _
   | exact ih1 _ _ _ _ _ _ _ _ _
   | exact ih2 _ _ _ _ _ _ _ _ _ _
   | exact ih3 _ _ _ _ _ _ _ _ _
   | exact ih4 _ _ _ _ _ _ _ _ _ _
   | exact bits_LeadingZeros64.mono _ _
   | exact LeO.none _
   | refine LeO.ite ?_ ?_
   | refine LeO.bind ?_ (fun _=>?_)
  ·intro y0 y1 y2 y3 y4 y5 y6 y7 y8
   unfold bits_Div64.l1
   repeat' first
   | (with_reducible exact ih0 _ _ _ _ _ _ _ _)
   | (with_reducible exact ih1 _ _ _ _ _ _ _ _ _)
   | (with_reducible exact ih2 _ _ _ _ _ _ _ _ _ _)
   | (with_reducible exact ih3 _ _ _ _ _ _ _ _ _)
   | (with_reducible exact ih4 _ _ _ _ _ _ _ _ _ _)
   | (with_reducible exact bits_LeadingZeros64.mono _ _)
   | (with_reducible exact LeO.refl _)
   | (with_reducible exact LeO.none _)
   | (with_reducible refine LeO.ite ?_ ?_)
   | (with_reducible refine LeO.bind ?_ (fun _=>?_))
   | exact ih0 _ _ _ _ _ _ _ _
   | exact ih1 _ _ _ _ _ _ _ _ _
   | exact ih2 _ _ _ _ _ _ _ _ _ _
   | exact ih3 _ _ _ _ _ _ _ _ _
   | exact ih4 _ _ _ _ _ _ _ _ _ _
   | exact bits_LeadingZeros64.mono _ _
   | exact LeO.none _
   | refine LeO.ite ?_ ?_
   | refine LeO.bind ?_ (fun _=>?_)
  ·intro y0 y1 y2 y3 y4 y5 y6 y7 y8 y9
   unfold bits_Div64.j4
   repeat' first
   | (with_reducible exact ih0 _ _ _ _ _ _ _ _)
   | (with_reducible exact ih1 _ _ _ _ _ _ _ _ _)
   | (with_reducible exact ih2 _ _ _ _ _ _ _ _ _ _)
   | (with_reducible exact ih3 _ _ _ _ _ _ _ _ _)
   | (with_reducible exact ih4 _ _ _ _ _ _ _ _ _ _)
   | (with_reducible exact bits_LeadingZeros64.mono _ _)
   | (with_reducible exact LeO.refl _)
   | (with_reducible exact LeO.none _)
   | (with_reducible refine LeO.ite ?_ ?_)
   | (with_reducible refine LeO.bind ?_ (fun _=>?_))
   | exact ih0 _ _ _ _ _ _ _ _
   | exact ih1 _ _ _ _ _ _ _ _ _
   | exact ih2 _ _ _ _ _ _ _ _ _ _
   | exact ih3 _ _ _ _ _ _ _ _ _
   | exact ih4 _ _ _ _ _ _ _ _ _ _
   | exact bits_LeadingZeros64.mono _ _
   | exact LeO.none _
   | refine LeO.ite ?_ ?_
   | refine LeO.bind ?_ (fun _=>?_)
  ·intro y0 y1 y2 y3 y4 y5 y6 y7 y8
   unfold bits_Div64.l0
   repeat' first
   | (with_reducible exact ih0 _ _ _ _ _ _ _ _)
   | (with_reducible exact ih1 _ _ _ _ _ _ _ _ _)
   | (with_reducible exact ih2 _ _ _ _ _ _ _ _ _ _)
   | (with_reducible exact ih3 _ _ _ _ _ _ _ _ _)
   | (with_reducible exact ih4 _ _ _ _ _ _ _ _ _ _)
   | (with_reducible exact bits_LeadingZeros64.mono _ _)
   | (with_reducible exact LeO.refl _)
   | (with_reducible exact LeO.none _)
   | (with_reducible refine LeO.ite ?_ ?_)
   | (with_reducible refine LeO.bind ?_ (fun _=>?_))
   | exact ih0 _ _ _ _ _ _ _ _
   | exact ih1 _ _ _ _ _ _ _ _ _
   | exact ih2 _ _ _ _ _ _ _ _ _ _
   | exact ih3 _ _ _ _ _ _ _ _ _
   | exact ih4 _ _ _ _ _ _ _ _ _ _
   | exact bits_LeadingZeros64.mono _ _
   | exact LeO.none _
   | refine LeO.ite ?_ ?_
   | refine LeO.bind ?_ (fun _=>?_)
  ·intro y0 y1 y2 y3 y4 y5 y6 y7 y8 y9
   unfold bits_Div64.j1
   repeat' first
   | (with_reducible exact ih0 _ _ _ _ _ _ _ _)
   | (with_reducible exact ih1 _ _ _ _ _ _ _ _ _)
   | (with_reducible exact ih2 _ _ _ _ _ _ _ _ _ _)
   | (with_reducible exact ih3 _ _ _ _ _ _ _ _ _)
   | (with_reducible exact ih4 _ _ _ _ _ _ _ _ _ _)
   | (with_reducible exact bits_LeadingZeros64.mono _ _)
   | (with_reducible exact LeO.refl _)
   | (with_reducible exact LeO.none _)
   | (with_reducible refine LeO.ite ?_ ?_)
   | (with_reducible refine LeO.bind ?_ (fun _=>?_))
   | exact ih0 _ _ _ _ _ _ _ _
   | exact ih1 _ _ _ _ _ _ _ _ _
   | exact ih2 _ _ _ _ _ _ _ _ _ _
   | exact ih3 _ _ _ _ _ _ _ _ _
   | exact ih4 _ _ _ _ _ _ _ _ _ _
   | exact bits_LeadingZeros64.mono _ _
   | exact LeO.none _
   | refine LeO.ite ?_ ?_
   | refine LeO.bind ?_ (fun _=>?_)
theorem bits_Div64.mono:∀ a0 a1 a2 k,LeO (bits_Div64.f k a0 a1 a2) (bits_Div64.f (k+1) a0 a1 a2):=by
 intro a0 a1 a2 k
 obtain⟨ih0,ih1,ih2,ih3,ih4⟩:=bits_Div64.mono_l k
 unfold bits_Div64.f
 repeat' first
   | (with_reducible exact ih0 _ _ _ _ _ _ _ _)
   | (with_reducible exact ih1 _ _ _ _ _ _ _ _ _)
   | (with_reducible exact ih2 _ _ _ _ _ _ _ _ _ _)
   | (with_reducible exact ih3 _ _ _ _ _ _ _ _ _)
   | (with_reducible exact ih4 _ _ _ _ _ _ _ _ _ _)
   | (with_reducible exact bits_LeadingZeros64.mono _ _)
   | (with_reducible exact LeO.refl _)
   | (with_reducible exact LeO.none _)
   | (with_reducible refine LeO.ite ?_ ?_)
   | (with_reducible refine LeO.bind ?_ (fun _=>?_))
   | exact ih0 _ _ _ _ _ _ _ _
   | exact ih1 _ _ _ _ _ _ _ _ _
   | exact ih2 _ _ _ _ _ _ _ _ _ _
   | exact ih3 _ _ _ _ _ _ _ _ _
   | exact ih4 _ _ _ _ _ _ _ _ _ _
   | exact bits_LeadingZeros64.mono _ _
   | exact LeO.none _
   | refine LeO.ite ?_ ?_
   | refine LeO.bind ?_ (fun _=>?_)
set_option maxHeartbeats 8000000 in
set_option maxRecDepth 100000 in
theorem bits_Div64.calls (k:Nat) (a0:Int) (a1:Int) (a2:Int) (r1:Int) (r2:Int) (w:World) (h:bits_Div64.f k a0 a1 a2=some (r1,r2)) :
  Calls Try.prog 84 #[.int .u64 a0,.int .u64 a1,.int .u64 a2] w fun e w'=>e=.returned (.tuple #[.int .u64 r1,.int .u64 r2])∧Drawn0 w w':=by
 have H:(if a2=0 then (if 0=0 then (none) else (some (0,0))) else (if a2≤a0 then (if 0=0 then (none) else (some (0,0))) else (if a0=0 then (some (IntKind.u64.wrap (Int.tdiv a1 a2),Int.tmod a1 a2)) else ((bits_LeadingZeros64.f k a2).bind fun t251=>(if 0≤(IntKind.u64.wrap (t251)) then (if 0≤(IntKind.u64.wrap (64-(IntKind.u64.wrap (t251)))) then (if ((shl .u64 a2 (IntKind.u64.wrap (t251)))/4294967296)=0 then (none) else (bits_Div64.l0 k (shl .u64 a2 (IntKind.u64.wrap (t251))) (IntKind.u64.wrap (t251)) ((shl .u64 a2 (IntKind.u64.wrap (t251)))/4294967296) (Go.bits .and .u64 (shl .u64 a2 (IntKind.u64.wrap (t251))) 4294967295) (Go.bits .or .u64 (shl .u64 a0 (IntKind.u64.wrap (t251))) (shr .u64 a1 (IntKind.u64.wrap (64-(IntKind.u64.wrap (t251)))))) ((shl .u64 a1 (IntKind.u64.wrap (t251)))/4294967296) (Go.bits .and .u64 (shl .u64 a1 (IntKind.u64.wrap (t251))) 4294967295) (IntKind.u64.wrap (Int.tdiv (Go.bits .or .u64 (shl .u64 a0 (IntKind.u64.wrap (t251))) (shr .u64 a1 (IntKind.u64.wrap (64-(IntKind.u64.wrap (t251)))))) ((shl .u64 a2 (IntKind.u64.wrap (t251)))/4294967296))) (IntKind.u64.wrap ((Go.bits .or .u64 (shl .u64 a0 (IntKind.u64.wrap (t251))) (shr .u64 a1 (IntKind.u64.wrap (64-(IntKind.u64.wrap (t251))))))-(IntKind.u64.wrap ((IntKind.u64.wrap (Int.tdiv (Go.bits .or .u64 (shl .u64 a0 (IntKind.u64.wrap (t251))) (shr .u64 a1 (IntKind.u64.wrap (64-(IntKind.u64.wrap (t251)))))) ((shl .u64 a2 (IntKind.u64.wrap (t251)))/4294967296)))*((shl .u64 a2 (IntKind.u64.wrap (t251)))/4294967296))))))) else (none)) else (none))))))=some (r1,r2):=h
 clear h
 by_cases c4:a2=0
 ·rw [if_pos c4] at H
  have c4b0:(a2 == 0)=true:=beq_iff_eq.mpr c4
  have c4b1:(a2 != 0)=false:=bne_eq_false_iff_eq.mpr c4
  clear c4
  by_cases c5:0=0
  ·rw [if_pos c5] at H
   exact absurd H (by simp)
  ·exact absurd rfl c5
 ·rw [if_neg c4] at H
  have c4b0:(a2 == 0)=false:=beq_eq_false_iff_ne.mpr c4
  have c4b1:(a2 != 0)=true:=bne_iff_ne.mpr c4
  by_cases c6:a2≤a0
  ·rw [if_pos c6] at H
   have c6b0:decide (a2≤a0)=true:=decide_eq_true c6
   clear c6
   by_cases c7:0=0
   ·rw [if_pos c7] at H
    exact absurd H (by simp)
   ·exact absurd rfl c7
  ·rw [if_neg c6] at H
   have c6b0:decide (a2≤a0)=false:=decide_eq_false c6
   clear c6
   by_cases c8:a0=0
   ·rw [if_pos c8] at H
    have c8b0:(a0 == 0)=true:=beq_iff_eq.mpr c8
    have c8b1:(a0 != 0)=false:=bne_eq_false_iff_eq.mpr c8
    clear c8
    simp only [Option.some.injEq,Prod.mk.injEq] at H
    obtain⟨rfl,rfl⟩:=H
    go_enter Try.func84,Try.ntmps84
    go_wp2
    repeat (go_quiet (fail);try go_wp2)
    go_ret2
    exact⟨by first|rfl|(simp;done)|(simp [*];done),by repeat (first|exact Drawn0.refl _|apply Drawn0.step)⟩
   ·rw [if_neg c8] at H
    have c8b0:(a0 == 0)=false:=beq_eq_false_iff_ne.mpr c8
    have c8b1:(a0 != 0)=true:=bne_iff_ne.mpr c8
    replace H:=Option.bind_eq_some_iff.mp H
    obtain⟨t251,A90,H⟩:=H
    replace H:(if 0≤(IntKind.u64.wrap (t251)) then (if 0≤(IntKind.u64.wrap (64-(IntKind.u64.wrap (t251)))) then (if ((shl .u64 a2 (IntKind.u64.wrap (t251)))/4294967296)=0 then (none) else (bits_Div64.l0 k (shl .u64 a2 (IntKind.u64.wrap (t251))) (IntKind.u64.wrap (t251)) ((shl .u64 a2 (IntKind.u64.wrap (t251)))/4294967296) (Go.bits .and .u64 (shl .u64 a2 (IntKind.u64.wrap (t251))) 4294967295) (Go.bits .or .u64 (shl .u64 a0 (IntKind.u64.wrap (t251))) (shr .u64 a1 (IntKind.u64.wrap (64-(IntKind.u64.wrap (t251)))))) ((shl .u64 a1 (IntKind.u64.wrap (t251)))/4294967296) (Go.bits .and .u64 (shl .u64 a1 (IntKind.u64.wrap (t251))) 4294967295) (IntKind.u64.wrap (Int.tdiv (Go.bits .or .u64 (shl .u64 a0 (IntKind.u64.wrap (t251))) (shr .u64 a1 (IntKind.u64.wrap (64-(IntKind.u64.wrap (t251)))))) ((shl .u64 a2 (IntKind.u64.wrap (t251)))/4294967296))) (IntKind.u64.wrap ((Go.bits .or .u64 (shl .u64 a0 (IntKind.u64.wrap (t251))) (shr .u64 a1 (IntKind.u64.wrap (64-(IntKind.u64.wrap (t251))))))-(IntKind.u64.wrap ((IntKind.u64.wrap (Int.tdiv (Go.bits .or .u64 (shl .u64 a0 (IntKind.u64.wrap (t251))) (shr .u64 a1 (IntKind.u64.wrap (64-(IntKind.u64.wrap (t251)))))) ((shl .u64 a2 (IntKind.u64.wrap (t251)))/4294967296)))*((shl .u64 a2 (IntKind.u64.wrap (t251)))/4294967296))))))) else (none)) else (none))=some (r1,r2):=H
    have A9:=Aside0.mk A90
    clear A90
    obtain⟨ji10,hji10⟩:∃ j_:Int,(IntKind.u64.wrap (t251))=j_:=⟨_,rfl⟩
    replace H:(if 0≤(ji10) then (if 0≤(IntKind.u64.wrap (64-(ji10))) then (if ((shl .u64 a2 (ji10))/4294967296)=0 then (none) else (bits_Div64.l0 k (shl .u64 a2 (ji10)) ji10 ((shl .u64 a2 (ji10))/4294967296) (Go.bits .and .u64 (shl .u64 a2 (ji10)) 4294967295) (Go.bits .or .u64 (shl .u64 a0 (ji10)) (shr .u64 a1 (IntKind.u64.wrap (64-(ji10))))) ((shl .u64 a1 (ji10))/4294967296) (Go.bits .and .u64 (shl .u64 a1 (ji10)) 4294967295) (IntKind.u64.wrap (Int.tdiv (Go.bits .or .u64 (shl .u64 a0 (ji10)) (shr .u64 a1 (IntKind.u64.wrap (64-(ji10))))) ((shl .u64 a2 (ji10))/4294967296))) (IntKind.u64.wrap ((Go.bits .or .u64 (shl .u64 a0 (ji10)) (shr .u64 a1 (IntKind.u64.wrap (64-(ji10)))))-(IntKind.u64.wrap ((IntKind.u64.wrap (Int.tdiv (Go.bits .or .u64 (shl .u64 a0 (ji10)) (shr .u64 a1 (IntKind.u64.wrap (64-(ji10))))) ((shl .u64 a2 (ji10))/4294967296)))*((shl .u64 a2 (ji10))/4294967296))))))) else (none)) else (none))=some (r1,r2):=by first|(rw [hji10] at H;exact H)|(simp only [hji10] at H ⊢;exact H)
    (try rw [hji10] at A9)
    by_cases c11:0≤(ji10)
    ·rw [if_pos c11] at H
     have c11b0:=eq_true c11
     have c11b1:decide (0≤(ji10))=true:=decide_eq_true c11
     clear c11
     obtain⟨ji12,hji12⟩:∃ j_:Int,(shl .u64 a2 (ji10))=j_:=⟨_,rfl⟩
     replace H:(if 0≤(IntKind.u64.wrap (64-(ji10))) then (if ((ji12)/4294967296)=0 then (none) else (bits_Div64.l0 k ji12 ji10 ((ji12)/4294967296) (Go.bits .and .u64 (ji12) 4294967295) (Go.bits .or .u64 (shl .u64 a0 (ji10)) (shr .u64 a1 (IntKind.u64.wrap (64-(ji10))))) ((shl .u64 a1 (ji10))/4294967296) (Go.bits .and .u64 (shl .u64 a1 (ji10)) 4294967295) (IntKind.u64.wrap (Int.tdiv (Go.bits .or .u64 (shl .u64 a0 (ji10)) (shr .u64 a1 (IntKind.u64.wrap (64-(ji10))))) ((ji12)/4294967296))) (IntKind.u64.wrap ((Go.bits .or .u64 (shl .u64 a0 (ji10)) (shr .u64 a1 (IntKind.u64.wrap (64-(ji10)))))-(IntKind.u64.wrap ((IntKind.u64.wrap (Int.tdiv (Go.bits .or .u64 (shl .u64 a0 (ji10)) (shr .u64 a1 (IntKind.u64.wrap (64-(ji10))))) ((ji12)/4294967296)))*((ji12)/4294967296))))))) else (none))=some (r1,r2):=by first|(rw [hji12] at H;exact H)|(simp only [hji12] at H ⊢;exact H)
     (try rw [hji12] at A9)
     have hji12_:(IntKind.u64.wrap (a2*2^min (ji10).toNat 64))=ji12:=hji12
     have hji12z:(ji10)≤64→(IntKind.u64.wrap (a2*2^(ji10).toNat))=ji12:=shl_small hji12
     have c13b0:=eq_true (of_decide_eq_true (by first|(with_reducible assumption)|assumption):0≤(ji10))
     obtain⟨ji14,hji14⟩:∃ j_:Int,(shl .u64 a0 (ji10))=j_:=⟨_,rfl⟩
     replace H:(if 0≤(IntKind.u64.wrap (64-(ji10))) then (if ((ji12)/4294967296)=0 then (none) else (bits_Div64.l0 k ji12 ji10 ((ji12)/4294967296) (Go.bits .and .u64 (ji12) 4294967295) (Go.bits .or .u64 (ji14) (shr .u64 a1 (IntKind.u64.wrap (64-(ji10))))) ((shl .u64 a1 (ji10))/4294967296) (Go.bits .and .u64 (shl .u64 a1 (ji10)) 4294967295) (IntKind.u64.wrap (Int.tdiv (Go.bits .or .u64 (ji14) (shr .u64 a1 (IntKind.u64.wrap (64-(ji10))))) ((ji12)/4294967296))) (IntKind.u64.wrap ((Go.bits .or .u64 (ji14) (shr .u64 a1 (IntKind.u64.wrap (64-(ji10)))))-(IntKind.u64.wrap ((IntKind.u64.wrap (Int.tdiv (Go.bits .or .u64 (ji14) (shr .u64 a1 (IntKind.u64.wrap (64-(ji10))))) ((ji12)/4294967296)))*((ji12)/4294967296))))))) else (none))=some (r1,r2):=by first|(rw [hji14] at H;exact H)|(simp only [hji14] at H ⊢;exact H)
     (try rw [hji14] at A9)
     have hji14_:(IntKind.u64.wrap (a0*2^min (ji10).toNat 64))=ji14:=hji14
     have hji14z:(ji10)≤64→(IntKind.u64.wrap (a0*2^(ji10).toNat))=ji14:=shl_small hji14
     obtain⟨ji15,hji15⟩:∃ j_:Int,(IntKind.u64.wrap (64-(ji10)))=j_:=⟨_,rfl⟩
     replace H:(if 0≤(ji15) then (if ((ji12)/4294967296)=0 then (none) else (bits_Div64.l0 k ji12 ji10 ((ji12)/4294967296) (Go.bits .and .u64 (ji12) 4294967295) (Go.bits .or .u64 (ji14) (shr .u64 a1 (ji15))) ((shl .u64 a1 (ji10))/4294967296) (Go.bits .and .u64 (shl .u64 a1 (ji10)) 4294967295) (IntKind.u64.wrap (Int.tdiv (Go.bits .or .u64 (ji14) (shr .u64 a1 (ji15))) ((ji12)/4294967296))) (IntKind.u64.wrap ((Go.bits .or .u64 (ji14) (shr .u64 a1 (ji15)))-(IntKind.u64.wrap ((IntKind.u64.wrap (Int.tdiv (Go.bits .or .u64 (ji14) (shr .u64 a1 (ji15))) ((ji12)/4294967296)))*((ji12)/4294967296))))))) else (none))=some (r1,r2):=by first|(rw [hji15] at H;exact H)|(simp only [hji15] at H ⊢;exact H)
     (try rw [hji15] at A9)
     by_cases c16:0≤(ji15)
     ·rw [if_pos c16] at H
      have c16b0:=eq_true c16
      have c16b1:decide (0≤(ji15))=true:=decide_eq_true c16
      clear c16
      obtain⟨ji17,hji17⟩:∃ j_:Int,(shr .u64 a1 (ji15))=j_:=⟨_,rfl⟩
      replace H:(if ((ji12)/4294967296)=0 then (none) else (bits_Div64.l0 k ji12 ji10 ((ji12)/4294967296) (Go.bits .and .u64 (ji12) 4294967295) (Go.bits .or .u64 (ji14) (ji17)) ((shl .u64 a1 (ji10))/4294967296) (Go.bits .and .u64 (shl .u64 a1 (ji10)) 4294967295) (IntKind.u64.wrap (Int.tdiv (Go.bits .or .u64 (ji14) (ji17)) ((ji12)/4294967296))) (IntKind.u64.wrap ((Go.bits .or .u64 (ji14) (ji17))-(IntKind.u64.wrap ((IntKind.u64.wrap (Int.tdiv (Go.bits .or .u64 (ji14) (ji17)) ((ji12)/4294967296)))*((ji12)/4294967296)))))))=some (r1,r2):=by first|(rw [hji17] at H;exact H)|(simp only [hji17] at H ⊢;exact H)
      (try rw [hji17] at A9)
      have hji17_:(a1/2^min (ji15).toNat 64)=ji17:=hji17
      have hji17z:(ji15)≤64→(a1/2^(ji15).toNat)=ji17:=shr_small hji17
      have c18b0:=eq_true (of_decide_eq_true (by first|(with_reducible assumption)|assumption):0≤(ji10))
      obtain⟨ji19,hji19⟩:∃ j_:Int,(shl .u64 a1 (ji10))=j_:=⟨_,rfl⟩
      replace H:(if ((ji12)/4294967296)=0 then (none) else (bits_Div64.l0 k ji12 ji10 ((ji12)/4294967296) (Go.bits .and .u64 (ji12) 4294967295) (Go.bits .or .u64 (ji14) (ji17)) ((ji19)/4294967296) (Go.bits .and .u64 (ji19) 4294967295) (IntKind.u64.wrap (Int.tdiv (Go.bits .or .u64 (ji14) (ji17)) ((ji12)/4294967296))) (IntKind.u64.wrap ((Go.bits .or .u64 (ji14) (ji17))-(IntKind.u64.wrap ((IntKind.u64.wrap (Int.tdiv (Go.bits .or .u64 (ji14) (ji17)) ((ji12)/4294967296)))*((ji12)/4294967296)))))))=some (r1,r2):=by first|(rw [hji19] at H;exact H)|(simp only [hji19] at H ⊢;exact H)
      (try rw [hji19] at A9)
      have hji19_:(IntKind.u64.wrap (a1*2^min (ji10).toNat 64))=ji19:=hji19
      have hji19z:(ji10)≤64→(IntKind.u64.wrap (a1*2^(ji10).toNat))=ji19:=shl_small hji19
      by_cases c20:((ji12)/4294967296)=0
      ·rw [if_pos c20] at H
       exact absurd H (by simp)
      ·rw [if_neg c20] at H
       have c20b0:(((ji12)/4294967296) == 0)=false:=beq_eq_false_iff_ne.mpr c20
       have c20b1:(((ji12)/4294967296) != 0)=true:=bne_iff_ne.mpr c20
       have HC21:=Aside0.mk H
       clear H
       go_enter Try.func84,Try.ntmps84
       go_upto_block 0 with (first|(go_at_call 87;(with_reducible refine(bits_LeadingZeros64.calls k a2 t251 _ A9.out).mono ?_);rintro e w' ⟨rfl,⟨nd,rfl⟩⟩;(try first|exact⟨rfl,_,World.drewN_drewN _ _ _⟩|exact⟨rfl,_,Eq.trans (World.drewN_drewN _ _ _) (congrArg (World.drewN _) (Nat.add_assoc _ _ _))⟩)))
       repeat (go_quiet (first|(go_at_call 87;(with_reducible refine(bits_LeadingZeros64.calls k a2 t251 _ A9.out).mono ?_);rintro e w' ⟨rfl,⟨nd,rfl⟩⟩;(try first|exact⟨rfl,_,World.drewN_drewN _ _ _⟩|exact⟨rfl,_,Eq.trans (World.drewN_drewN _ _ _) (congrArg (World.drewN _) (Nat.add_assoc _ _ _))⟩)));go_upto_block 0 with (first|(go_at_call 87;(with_reducible refine(bits_LeadingZeros64.calls k a2 t251 _ A9.out).mono ?_);rintro e w' ⟨rfl,⟨nd,rfl⟩⟩;(try first|exact⟨rfl,_,World.drewN_drewN _ _ _⟩|exact⟨rfl,_,Eq.trans (World.drewN_drewN _ _ _) (congrArg (World.drewN _) (Nat.add_assoc _ _ _))⟩))))
       (try simp only [Act.put,List.setIfInBounds_toArray,List.set_cons_zero,List.set_cons_succ])
       go_cut [15] (fun v15 wc=>∃ (kq:Nat) (x15_20:Int),v15=.int .u64 x15_20∧Aside0 (bits_Div64.j2 kq ji12 ji10 ((ji12)/4294967296) (Go.bits .and .u64 (ji12) 4294967295) (Go.bits .or .u64 (ji14) (ji17)) ((ji19)/4294967296) (Go.bits .and .u64 (ji19) 4294967295) x15_20=some (r1,r2))∧Aside0 (kq≤k)∧Drawn0 w wc)
       case first =>
        have H:=HC21.out
        clear HC21
        have H':=Aside0.mk H
        clear H
        go_wp2
        repeat (go_quiet (fail);try go_wp2)
        go_loopg [15,16] k (fun kq v15 v16 w'=>∃ (x15_1:Int) (x16_1:Int),v15=.int .u64 x15_1∧v16=.int .u64 x16_1∧Aside0 (bits_Div64.l0 kq ji12 ji10 ((ji12)/4294967296) (Go.bits .and .u64 (ji12) 4294967295) (Go.bits .or .u64 (ji14) (ji17)) ((ji19)/4294967296) (Go.bits .and .u64 (ji19) 4294967295) x15_1 x16_1=some (r1,r2))∧Aside0 (kq≤k)∧Drawn0 w w')
        case atStart=>exact⟨(IntKind.u64.wrap (Int.tdiv (Go.bits .or .u64 (ji14) (ji17)) ((ji12)/4294967296))),(IntKind.u64.wrap ((Go.bits .or .u64 (ji14) (ji17))-(IntKind.u64.wrap ((IntKind.u64.wrap (Int.tdiv (Go.bits .or .u64 (ji14) (ji17)) ((ji12)/4294967296)))*((ji12)/4294967296))))),(by first|rfl|(simp;done)|(simp only [←hji12,←hji14,←hji17]<;>(first|rfl|simp))|(simp [*];done)),(by first|rfl|(simp;done)|(simp only [←hji12,←hji14,←hji17]<;>(first|rfl|simp))|(simp [*];done)),H',⟨Nat.le_refl _⟩,by repeat (first|exact Drawn0.refl _|apply Drawn0.step)⟩
        case round =>
         clear H'
         try clear c1
         try clear c2
         try clear p2
         try clear c4
         try clear c4b0
         try clear c4b1
         try clear c5
         try clear c5b0
         try clear c5b1
         try clear c6
         try clear c6b0
         try clear c7
         try clear c7b0
         try clear c7b1
         try clear c8
         try clear c8b0
         try clear c8b1
         try clear c11
         try clear c11b0
         try clear c11b1
         try clear c13
         try clear c13b0
         try clear c16
         try clear c16b0
         try clear c16b1
         try clear c18
         try clear c18b0
         try clear c20
         try clear c20b0
         try clear c20b1
         obtain⟨x15_1,x16_1,rfl,rfl,HA,HK1,⟨m1,rfl⟩⟩:=hrel
         cases gk with
         | zero=>exact absurd HA.out (by simp [bits_Div64.l0])
         | succ k1 =>
          have H:=HA.out
          clear HA
          simp only [bits_Div64.l0] at H
          have HC22:=Aside0.mk H
          clear H
          go_upto_region 17 with (fail)
          repeat (go_quiet (fail);go_upto_region 17 with (fail))
          go_cut [78] (fun v78 wc=>∃ (kq:Nat) (x78_21:Bool),v78=.bool x78_21∧Aside0 (bits_Div64.j1 kq ji12 ji10 ((ji12)/4294967296) (Go.bits .and .u64 (ji12) 4294967295) (Go.bits .or .u64 (ji14) (ji17)) ((ji19)/4294967296) (Go.bits .and .u64 (ji19) 4294967295) x15_1 x16_1 x78_21=some (r1,r2))∧Aside0 (kq≤k1)∧Drawn0 w wc)
          case first =>
           have H:=HC22.out
           clear HC22
           by_cases c23:x15_1 ≥ 4294967296
           ·rw [if_pos c23] at H
            have c23b0:decide (4294967296≤x15_1)=true:=decide_eq_true c23
            clear c23
            (first|rw [c23b0]|(simp only [i64_w,i32_w];rw [c23b0])|skip)
            have H':=Aside0.mk H
            clear H
            go_wp2
            repeat (go_quiet (fail);try go_wp2)
            go_meet
            case rel=>exact⟨_,(true),(by first|rfl|(simp;done)|(simp [*];done)),H',⟨by have:=HK1.out;first|omega|exact Nat.le_refl _⟩,by repeat (first|exact Drawn0.refl _|apply Drawn0.step)⟩
           ·rw [if_neg c23] at H
            have c23b0:decide (4294967296≤x15_1)=false:=decide_eq_false c23
            clear c23
            (first|rw [c23b0]|(simp only [i64_w,i32_w];rw [c23b0])|skip)
            have H':=Aside0.mk H
            clear H
            go_wp2
            repeat (go_quiet (fail);try go_wp2)
            go_meet
            case rel=>exact⟨_,(decide ((IntKind.u64.wrap (x15_1*(Go.bits .and .u64 (ji12) 4294967295))) > (IntKind.u64.wrap ((IntKind.u64.wrap (4294967296*x16_1))+((ji19)/4294967296))))),(by first|rfl|(simp;done)|(simp only [←hji12,←hji19]<;>(first|rfl|simp))|(simp [*];done)),H',⟨by have:=HK1.out;first|omega|exact Nat.le_refl _⟩,by repeat (first|exact Drawn0.refl _|apply Drawn0.step)⟩
          case rest =>
           clear HC22
           try clear c1
           try clear c2
           try clear p2
           try clear c4
           try clear c4b0
           try clear c4b1
           try clear c5
           try clear c5b0
           try clear c5b1
           try clear c6
           try clear c6b0
           try clear c7
           try clear c7b0
           try clear c7b1
           try clear c8
           try clear c8b0
           try clear c8b1
           try clear c11
           try clear c11b0
           try clear c11b1
           try clear c13
           try clear c13b0
           try clear c16
           try clear c16b0
           try clear c16b1
           try clear c18
           try clear c18b0
           try clear c20
           try clear c20b0
           try clear c20b1
           try clear c23
           try clear c23b0
           try clear p2
           obtain⟨kq,x78_21,rfl,HA,HJ21,⟨mc21,rfl⟩⟩:=hcut
           cases kq with
           | zero=>exact absurd HA.out (by simp [bits_Div64.j1])
           | succ kj21 =>
            have H:=HA.out
            clear HA
            simp only [bits_Div64.j1] at H
            by_cases c24:x78_21=true
            ·subst c24
             have H1:(if (IntKind.u64.wrap (x16_1+((ji12)/4294967296))) ≥ 4294967296 then (bits_Div64.j2 kj21 ji12 ji10 ((ji12)/4294967296) (Go.bits .and .u64 (ji12) 4294967295) (Go.bits .or .u64 (ji14) (ji17)) ((ji19)/4294967296) (Go.bits .and .u64 (ji19) 4294967295) (IntKind.u64.wrap (x15_1-1))) else (bits_Div64.l0 kj21 ji12 ji10 ((ji12)/4294967296) (Go.bits .and .u64 (ji12) 4294967295) (Go.bits .or .u64 (ji14) (ji17)) ((ji19)/4294967296) (Go.bits .and .u64 (ji19) 4294967295) (IntKind.u64.wrap (x15_1-1)) (IntKind.u64.wrap (x16_1+((ji12)/4294967296)))))=some (r1,r2):=by rw [if_pos rfl] at H;exact H
             clear H
             have H:=H1
             clear H1
             by_cases c25:(IntKind.u64.wrap (x16_1+((ji12)/4294967296))) ≥ 4294967296
             ·rw [if_pos c25] at H
              have c25b0:decide (4294967296≤(IntKind.u64.wrap (x16_1+((ji12)/4294967296))))=true:=decide_eq_true c25
              clear c25
              have H':=Aside0.mk H
              clear H
              go_wp2
              repeat (go_quiet (fail);try go_wp2)
              go_meet
              case rel=>exact⟨_,(IntKind.u64.wrap (x15_1-1)),(by first|rfl|(simp;done)|(simp [*];done)),H',⟨by have:=HK1.out;have:=HJ21.out;first|omega|exact Nat.le_refl _⟩,by repeat (first|exact Drawn0.refl _|apply Drawn0.step)⟩
             ·rw [if_neg c25] at H
              have c25b0:decide (4294967296≤(IntKind.u64.wrap (x16_1+((ji12)/4294967296))))=false:=decide_eq_false c25
              clear c25
              have H':=Aside0.mk H
              clear H
              go_wp2
              repeat (go_quiet (fail);try go_wp2)
              go_roundg kj21
              case measure=>have:=HK1.out;have:=HJ21.out;omega
              case rel=>exact⟨(IntKind.u64.wrap (x15_1-1)),(IntKind.u64.wrap (x16_1+((ji12)/4294967296))),(by first|rfl|(simp;done)|(simp [*];done)),(by first|rfl|(simp;done)|(simp only [←hji12]<;>(first|rfl|simp))|(simp [*];done)),H',⟨by have:=HK1.out;have:=HJ21.out;omega⟩,by repeat (first|exact Drawn0.refl _|apply Drawn0.step)⟩
            ·replace c24:=Bool.eq_false_iff.mpr c24
             subst c24
             have H1:(bits_Div64.j2 kj21 ji12 ji10 ((ji12)/4294967296) (Go.bits .and .u64 (ji12) 4294967295) (Go.bits .or .u64 (ji14) (ji17)) ((ji19)/4294967296) (Go.bits .and .u64 (ji19) 4294967295) x15_1)=some (r1,r2):=by rw [if_neg (show ¬(false=true) by decide)] at H;exact H
             clear H
             have H:=H1
             clear H1
             have H':=Aside0.mk H
             clear H
             go_wp2
             repeat (go_quiet (fail);try go_wp2)
             go_meet
             case rel=>exact⟨_,(x15_1),(by first|rfl|(simp;done)|(simp [*];done)),H',⟨by have:=HK1.out;have:=HJ21.out;first|omega|exact Nat.le_refl _⟩,by repeat (first|exact Drawn0.refl _|apply Drawn0.step)⟩
       case rest =>
        clear HC21
        try clear c1
        try clear c2
        try clear p2
        try clear c4
        try clear c4b0
        try clear c4b1
        try clear c5
        try clear c5b0
        try clear c5b1
        try clear c6
        try clear c6b0
        try clear c7
        try clear c7b0
        try clear c7b1
        try clear c8
        try clear c8b0
        try clear c8b1
        try clear c11
        try clear c11b0
        try clear c11b1
        try clear c13
        try clear c13b0
        try clear c16
        try clear c16b0
        try clear c16b1
        try clear c18
        try clear c18b0
        try clear c20
        try clear c20b0
        try clear c20b1
        try clear c21
        try clear c23
        try clear c23b0
        try clear c24
        try clear c25
        try clear c25b0
        try clear p2
        obtain⟨kq,x15_20,rfl,HA,HJ20,⟨mc20,rfl⟩⟩:=hcut
        cases kq with
        | zero=>exact absurd HA.out (by simp [bits_Div64.j2])
        | succ kj20 =>
         have H:=HA.out
         clear HA
         simp only [bits_Div64.j2] at H
         by_cases c26:((ji12)/4294967296)=0
         ·rw [if_pos c26] at H
          exact absurd H (by simp)
         ·rw [if_neg c26] at H
          have c26b0:(((ji12)/4294967296) == 0)=false:=beq_eq_false_iff_ne.mpr c26
          have c26b1:(((ji12)/4294967296) != 0)=true:=bne_iff_ne.mpr c26
          have H':=Aside0.mk H
          clear H
          go_wp2
          repeat (go_quiet (fail);try go_wp2)
          go_loopg [16,18] kj20 (fun kq v16 v18 w'=>∃ (x16_2:Int) (x18_2:Int),v16=.int .u64 x16_2∧v18=.int .u64 x18_2∧Aside0 (bits_Div64.l1 kq ji12 ji10 ((ji12)/4294967296) (Go.bits .and .u64 (ji12) 4294967295) (Go.bits .and .u64 (ji19) 4294967295) x15_20 x16_2 (IntKind.u64.wrap ((IntKind.u64.wrap ((IntKind.u64.wrap ((Go.bits .or .u64 (ji14) (ji17))*4294967296))+((ji19)/4294967296)))-(IntKind.u64.wrap (x15_20*ji12)))) x18_2=some (r1,r2))∧Aside0 (kq≤kj20)∧Drawn0 w w')
          case atStart=>exact⟨(IntKind.u64.wrap ((IntKind.u64.wrap ((IntKind.u64.wrap ((IntKind.u64.wrap ((Go.bits .or .u64 (ji14) (ji17))*4294967296))+((ji19)/4294967296)))-(IntKind.u64.wrap (x15_20*ji12))))-(IntKind.u64.wrap ((IntKind.u64.wrap (Int.tdiv (IntKind.u64.wrap ((IntKind.u64.wrap ((IntKind.u64.wrap ((Go.bits .or .u64 (ji14) (ji17))*4294967296))+((ji19)/4294967296)))-(IntKind.u64.wrap (x15_20*ji12)))) ((ji12)/4294967296)))*((ji12)/4294967296))))),(IntKind.u64.wrap (Int.tdiv (IntKind.u64.wrap ((IntKind.u64.wrap ((IntKind.u64.wrap ((Go.bits .or .u64 (ji14) (ji17))*4294967296))+((ji19)/4294967296)))-(IntKind.u64.wrap (x15_20*ji12)))) ((ji12)/4294967296))),(by first|rfl|(simp;done)|(simp only [←hji12,←hji14,←hji17,←hji19]<;>(first|rfl|simp))|(simp [*];done)),(by first|rfl|(simp;done)|(simp only [←hji12,←hji14,←hji17,←hji19]<;>(first|rfl|simp))|(simp [*];done)),H',⟨Nat.le_refl _⟩,by repeat (first|exact Drawn0.refl _|apply Drawn0.step)⟩
          case round =>
           clear H'
           try clear c1
           try clear c2
           try clear p2
           try clear c4
           try clear c4b0
           try clear c4b1
           try clear c5
           try clear c5b0
           try clear c5b1
           try clear c6
           try clear c6b0
           try clear c7
           try clear c7b0
           try clear c7b1
           try clear c8
           try clear c8b0
           try clear c8b1
           try clear c11
           try clear c11b0
           try clear c11b1
           try clear c13
           try clear c13b0
           try clear c16
           try clear c16b0
           try clear c16b1
           try clear c18
           try clear c18b0
           try clear c20
           try clear c20b0
           try clear c20b1
           try clear c21
           try clear c23
           try clear c23b0
           try clear c24
           try clear c25
           try clear c25b0
           try clear c26
           try clear c26b0
           try clear c26b1
           try clear p2
           obtain⟨x16_2,x18_2,rfl,rfl,HA,HK2,⟨m2,rfl⟩⟩:=hrel
           cases gk with
           | zero=>exact absurd HA.out (by simp [bits_Div64.l1])
           | succ k2 =>
            have H:=HA.out
            clear HA
            simp only [bits_Div64.l1] at H
            have HC27:=Aside0.mk H
            clear H
            go_upto_region 24 with (fail)
            repeat (go_quiet (fail);go_upto_region 24 with (fail))
            go_cut [113] (fun v113 wc=>∃ (kq:Nat) (x113_26:Bool),v113=.bool x113_26∧Aside0 (bits_Div64.j4 kq ji12 ji10 ((ji12)/4294967296) (Go.bits .and .u64 (ji12) 4294967295) (Go.bits .and .u64 (ji19) 4294967295) x15_20 x16_2 (IntKind.u64.wrap ((IntKind.u64.wrap ((IntKind.u64.wrap ((Go.bits .or .u64 (ji14) (ji17))*4294967296))+((ji19)/4294967296)))-(IntKind.u64.wrap (x15_20*ji12)))) x18_2 x113_26=some (r1,r2))∧Aside0 (kq≤k2)∧Drawn0 w wc)
            case first =>
             have H:=HC27.out
             clear HC27
             by_cases c28:x18_2 ≥ 4294967296
             ·rw [if_pos c28] at H
              have c28b0:decide (4294967296≤x18_2)=true:=decide_eq_true c28
              clear c28
              (first|rw [c28b0]|(simp only [i64_w,i32_w];rw [c28b0])|skip)
              have H':=Aside0.mk H
              clear H
              go_wp2
              repeat (go_quiet (fail);try go_wp2)
              go_meet
              case rel=>exact⟨_,(true),(by first|rfl|(simp;done)|(simp [*];done)),H',⟨by have:=HJ20.out;have:=HK2.out;first|omega|exact Nat.le_refl _⟩,by repeat (first|exact Drawn0.refl _|apply Drawn0.step)⟩
             ·rw [if_neg c28] at H
              have c28b0:decide (4294967296≤x18_2)=false:=decide_eq_false c28
              clear c28
              (first|rw [c28b0]|(simp only [i64_w,i32_w];rw [c28b0])|skip)
              have H':=Aside0.mk H
              clear H
              go_wp2
              repeat (go_quiet (fail);try go_wp2)
              go_meet
              case rel=>exact⟨_,(decide ((IntKind.u64.wrap (x18_2*(Go.bits .and .u64 (ji12) 4294967295))) > (IntKind.u64.wrap ((IntKind.u64.wrap (4294967296*x16_2))+(Go.bits .and .u64 (ji19) 4294967295))))),(by first|rfl|(simp;done)|(simp only [←hji12,←hji19]<;>(first|rfl|simp))|(simp [*];done)),H',⟨by have:=HJ20.out;have:=HK2.out;first|omega|exact Nat.le_refl _⟩,by repeat (first|exact Drawn0.refl _|apply Drawn0.step)⟩
            case rest =>
             clear HC27
             try clear c1
             try clear c2
             try clear p2
             try clear c4
             try clear c4b0
             try clear c4b1
             try clear c5
             try clear c5b0
             try clear c5b1
             try clear c6
             try clear c6b0
             try clear c7
             try clear c7b0
             try clear c7b1
             try clear c8
             try clear c8b0
             try clear c8b1
             try clear c11
             try clear c11b0
             try clear c11b1
             try clear c13
             try clear c13b0
             try clear c16
             try clear c16b0
             try clear c16b1
             try clear c18
             try clear c18b0
             try clear c20
             try clear c20b0
             try clear c20b1
             try clear c21
             try clear c23
             try clear c23b0
             try clear c24
             try clear c25
             try clear c25b0
             try clear c26
             try clear c26b0
             try clear c26b1
             try clear c28
             try clear c28b0
             try clear p2
             obtain⟨kq,x113_26,rfl,HA,HJ26,⟨mc26,rfl⟩⟩:=hcut
             cases kq with
             | zero=>exact absurd HA.out (by simp [bits_Div64.j4])
             | succ kj26 =>
              have H:=HA.out
              clear HA
              simp only [bits_Div64.j4] at H
              by_cases c29:x113_26=true
              ·subst c29
               have H1:(if (IntKind.u64.wrap (x16_2+((ji12)/4294967296))) ≥ 4294967296 then (if 0≤ji10 then (some (IntKind.u64.wrap ((IntKind.u64.wrap (x15_20*4294967296))+(IntKind.u64.wrap (x18_2-1))),shr .u64 (IntKind.u64.wrap ((IntKind.u64.wrap ((IntKind.u64.wrap ((IntKind.u64.wrap ((IntKind.u64.wrap ((IntKind.u64.wrap ((Go.bits .or .u64 (ji14) (ji17))*4294967296))+((ji19)/4294967296)))-(IntKind.u64.wrap (x15_20*ji12))))*4294967296))+(Go.bits .and .u64 (ji19) 4294967295)))-(IntKind.u64.wrap ((IntKind.u64.wrap (x18_2-1))*ji12)))) ji10)) else (none)) else (bits_Div64.l1 kj26 ji12 ji10 ((ji12)/4294967296) (Go.bits .and .u64 (ji12) 4294967295) (Go.bits .and .u64 (ji19) 4294967295) x15_20 (IntKind.u64.wrap (x16_2+((ji12)/4294967296))) (IntKind.u64.wrap ((IntKind.u64.wrap ((IntKind.u64.wrap ((Go.bits .or .u64 (ji14) (ji17))*4294967296))+((ji19)/4294967296)))-(IntKind.u64.wrap (x15_20*ji12)))) (IntKind.u64.wrap (x18_2-1))))=some (r1,r2):=by rw [if_pos rfl] at H;exact H
               clear H
               have H:=H1
               clear H1
               by_cases c30:(IntKind.u64.wrap (x16_2+((ji12)/4294967296))) ≥ 4294967296
               ·rw [if_pos c30] at H
                have c30b0:decide (4294967296≤(IntKind.u64.wrap (x16_2+((ji12)/4294967296))))=true:=decide_eq_true c30
                clear c30
                by_cases c31:0≤ji10
                ·rw [if_pos c31] at H
                 have c31b0:=eq_true c31
                 have c31b1:decide (0≤ji10)=true:=decide_eq_true c31
                 clear c31
                 obtain⟨ji32,hji32⟩:∃ j_:Int,(shr .u64 (IntKind.u64.wrap ((IntKind.u64.wrap ((IntKind.u64.wrap ((IntKind.u64.wrap ((IntKind.u64.wrap ((IntKind.u64.wrap ((Go.bits .or .u64 (ji14) (ji17))*4294967296))+((ji19)/4294967296)))-(IntKind.u64.wrap (x15_20*ji12))))*4294967296))+(Go.bits .and .u64 (ji19) 4294967295)))-(IntKind.u64.wrap ((IntKind.u64.wrap (x18_2-1))*ji12)))) ji10)=j_:=⟨_,rfl⟩
                 replace H:(some (IntKind.u64.wrap ((IntKind.u64.wrap (x15_20*4294967296))+(IntKind.u64.wrap (x18_2-1))),ji32))=some (r1,r2):=by first|(rw [hji32] at H;exact H)|(simp only [hji32] at H ⊢;exact H)
                 have hji32_:((IntKind.u64.wrap ((IntKind.u64.wrap ((IntKind.u64.wrap ((IntKind.u64.wrap ((IntKind.u64.wrap ((IntKind.u64.wrap ((Go.bits .or .u64 (ji14) (ji17))*4294967296))+((ji19)/4294967296)))-(IntKind.u64.wrap (x15_20*ji12))))*4294967296))+(Go.bits .and .u64 (ji19) 4294967295)))-(IntKind.u64.wrap ((IntKind.u64.wrap (x18_2-1))*ji12))))/2^min ji10.toNat 64)=ji32:=hji32
                 have hji32z:ji10≤64→((IntKind.u64.wrap ((IntKind.u64.wrap ((IntKind.u64.wrap ((IntKind.u64.wrap ((IntKind.u64.wrap ((IntKind.u64.wrap ((Go.bits .or .u64 (ji14) (ji17))*4294967296))+((ji19)/4294967296)))-(IntKind.u64.wrap (x15_20*ji12))))*4294967296))+(Go.bits .and .u64 (ji19) 4294967295)))-(IntKind.u64.wrap ((IntKind.u64.wrap (x18_2-1))*ji12))))/2^ji10.toNat)=ji32:=shr_small hji32
                 simp only [Option.some.injEq,Prod.mk.injEq] at H
                 obtain⟨rfl,rfl⟩:=H
                 go_wp2
                 repeat (go_quiet (fail);try go_wp2)
                 go_ret2
                 exact⟨by first|rfl|(simp;done)|(simp only [←hji10,←hji12,←hji14,←hji15,←hji17,←hji19,←hji32]<;>(first|rfl|simp))|(simp [*];done),by repeat (first|exact Drawn0.refl _|apply Drawn0.step)⟩
                ·rw [if_neg c31] at H
                 exact absurd H (by simp)
               ·rw [if_neg c30] at H
                have c30b0:decide (4294967296≤(IntKind.u64.wrap (x16_2+((ji12)/4294967296))))=false:=decide_eq_false c30
                clear c30
                have H':=Aside0.mk H
                clear H
                go_wp2
                repeat (go_quiet (fail);try go_wp2)
                go_roundg kj26
                case measure=>have:=HJ20.out;have:=HK2.out;have:=HJ26.out;omega
                case rel=>exact⟨(IntKind.u64.wrap (x16_2+((ji12)/4294967296))),(IntKind.u64.wrap (x18_2-1)),(by first|rfl|(simp;done)|(simp only [←hji12]<;>(first|rfl|simp))|(simp [*];done)),(by first|rfl|(simp;done)|(simp [*];done)),H',⟨by have:=HJ20.out;have:=HK2.out;have:=HJ26.out;omega⟩,by repeat (first|exact Drawn0.refl _|apply Drawn0.step)⟩
              ·replace c29:=Bool.eq_false_iff.mpr c29
               subst c29
               have H1:(if 0≤ji10 then (some (IntKind.u64.wrap ((IntKind.u64.wrap (x15_20*4294967296))+x18_2),shr .u64 (IntKind.u64.wrap ((IntKind.u64.wrap ((IntKind.u64.wrap ((IntKind.u64.wrap ((IntKind.u64.wrap ((IntKind.u64.wrap ((Go.bits .or .u64 (ji14) (ji17))*4294967296))+((ji19)/4294967296)))-(IntKind.u64.wrap (x15_20*ji12))))*4294967296))+(Go.bits .and .u64 (ji19) 4294967295)))-(IntKind.u64.wrap (x18_2*ji12)))) ji10)) else (none))=some (r1,r2):=by rw [if_neg (show ¬(false=true) by decide)] at H;exact H
               clear H
               have H:=H1
               clear H1
               by_cases c33:0≤ji10
               ·rw [if_pos c33] at H
                have c33b0:=eq_true c33
                have c33b1:decide (0≤ji10)=true:=decide_eq_true c33
                clear c33
                obtain⟨ji34,hji34⟩:∃ j_:Int,(shr .u64 (IntKind.u64.wrap ((IntKind.u64.wrap ((IntKind.u64.wrap ((IntKind.u64.wrap ((IntKind.u64.wrap ((IntKind.u64.wrap ((Go.bits .or .u64 (ji14) (ji17))*4294967296))+((ji19)/4294967296)))-(IntKind.u64.wrap (x15_20*ji12))))*4294967296))+(Go.bits .and .u64 (ji19) 4294967295)))-(IntKind.u64.wrap (x18_2*ji12)))) ji10)=j_:=⟨_,rfl⟩
                replace H:(some (IntKind.u64.wrap ((IntKind.u64.wrap (x15_20*4294967296))+x18_2),ji34))=some (r1,r2):=by first|(rw [hji34] at H;exact H)|(simp only [hji34] at H ⊢;exact H)
                have hji34_:((IntKind.u64.wrap ((IntKind.u64.wrap ((IntKind.u64.wrap ((IntKind.u64.wrap ((IntKind.u64.wrap ((IntKind.u64.wrap ((Go.bits .or .u64 (ji14) (ji17))*4294967296))+((ji19)/4294967296)))-(IntKind.u64.wrap (x15_20*ji12))))*4294967296))+(Go.bits .and .u64 (ji19) 4294967295)))-(IntKind.u64.wrap (x18_2*ji12))))/2^min ji10.toNat 64)=ji34:=hji34
                have hji34z:ji10≤64→((IntKind.u64.wrap ((IntKind.u64.wrap ((IntKind.u64.wrap ((IntKind.u64.wrap ((IntKind.u64.wrap ((IntKind.u64.wrap ((Go.bits .or .u64 (ji14) (ji17))*4294967296))+((ji19)/4294967296)))-(IntKind.u64.wrap (x15_20*ji12))))*4294967296))+(Go.bits .and .u64 (ji19) 4294967295)))-(IntKind.u64.wrap (x18_2*ji12))))/2^ji10.toNat)=ji34:=shr_small hji34
                simp only [Option.some.injEq,Prod.mk.injEq] at H
                obtain⟨rfl,rfl⟩:=H
                go_wp2
                repeat (go_quiet (fail);try go_wp2)
                go_ret2
                exact⟨by first|rfl|(simp;done)|(simp only [←hji10,←hji12,←hji14,←hji15,←hji17,←hji19,←hji34]<;>(first|rfl|simp))|(simp [*];done),by repeat (first|exact Drawn0.refl _|apply Drawn0.step)⟩
               ·rw [if_neg c33] at H
                exact absurd H (by simp)
     ·rw [if_neg c16] at H
      exact absurd H (by simp)
    ·rw [if_neg c11] at H
     exact absurd H (by simp)
def scale_quotient.f (k:Nat) (a0:Int) (a1:Int):Option (Int × Int × Bool):=if (a0/4294967296) ≥ a1 then (some (0,0,true)) else ((bits_Div64.f k (a0/4294967296) (IntKind.u64.wrap (a0*4294967296)) a1).bind fun bt252=>(some (bt252.1,bt252.2,decide (bt252.1 > 576460752303423488))))
theorem scale_quotient.mono:∀ a0 a1 k,LeO (scale_quotient.f k a0 a1) (scale_quotient.f (k+1) a0 a1):=by
 intro a0 a1 k
 unfold scale_quotient.f
 repeat' first
   | (with_reducible exact bits_Div64.mono _ _ _ _)
   | (with_reducible exact LeO.refl _)
   | (with_reducible exact LeO.none _)
   | (with_reducible refine LeO.ite ?_ ?_)
   | (with_reducible refine LeO.bind ?_ (fun _=>?_))
   | exact bits_Div64.mono _ _ _ _
   | exact LeO.none _
   | refine LeO.ite ?_ ?_
   | refine LeO.bind ?_ (fun _=>?_)
set_option maxHeartbeats 8000000 in
set_option maxRecDepth 100000 in
theorem scale_quotient.calls (k:Nat) (a0:Int) (a1:Int) (r1:Int) (r2:Int) (r3:Bool) (w:World) (h:scale_quotient.f k a0 a1=some (r1,r2,r3)) :
  Calls Try.prog 69 #[.int .u64 a0,.int .u64 a1] w fun e w'=>e=.returned (.tuple #[.int .u64 r1,.int .u64 r2,.bool r3])∧Drawn0 w w':=by
 have H:(if (a0/4294967296) ≥ a1 then (some (0,0,true)) else ((bits_Div64.f k (a0/4294967296) (IntKind.u64.wrap (a0*4294967296)) a1).bind fun bt252=>(some (bt252.1,bt252.2,decide (bt252.1 > 576460752303423488)))))=some (r1,r2,r3):=h
 clear h
 by_cases c3:(a0/4294967296) ≥ a1
 ·rw [if_pos c3] at H
  have c3b0:decide (a1≤(a0/4294967296))=true:=decide_eq_true c3
  clear c3
  simp only [Option.some.injEq,Prod.mk.injEq] at H
  obtain⟨rfl,rfl,rfl⟩:=H
  go_enter Try.func69,Try.ntmps69
  go_wp2
  go_ret3
  exact⟨by first|rfl|(simp;done)|(simp [*];done),by repeat (first|exact Drawn0.refl _|apply Drawn0.step)⟩
 ·rw [if_neg c3] at H
  have c3b0:decide (a1≤(a0/4294967296))=false:=decide_eq_false c3
  clear c3
  replace H:=Option.bind_eq_some_iff.mp H
  obtain⟨⟨t252,t253⟩,A40,H⟩:=H
  replace H:(some (t252,t253,decide (t252 > 576460752303423488)))=some (r1,r2,r3):=H
  have A4:=Aside0.mk A40
  clear A40
  simp only [Option.some.injEq,Prod.mk.injEq] at H
  obtain⟨rfl,rfl,rfl⟩:=H
  go_enter Try.func69,Try.ntmps69
  go_wp2_with (first|((with_reducible refine gate_callee (f:=84) rfl ?_);refine goesL_ (some 22) rfl rfl Try.func84 (by kernel_rfl) rfl #[.int .u64 (a0/4294967296),.int .u64 (IntKind.u64.wrap (a0*4294967296)),.int .u64 a1] rfl (by exact mA _ _) ?_;(with_reducible refine(bits_Div64.calls k (a0/4294967296) (IntKind.u64.wrap (a0*4294967296)) a1 t252 t253 _ A4.out).mono ?_);rintro e w' ⟨rfl,⟨nd,rfl⟩⟩;refine⟨_,rfl,?_⟩))
  go_ret3
  exact⟨by first|rfl|(simp;done)|(simp [*];done),by repeat (first|exact Drawn0.refl _|apply Drawn0.step)⟩
mutual
def scale_Over.j0:Nat→Int→Bool→Bool→Int→Int→Int→Option (Int × Bool)
  | 0,_,_,_,_,_,_=>none
  | k+1,x0,x6,x7,x8,x9,x10=>if x8=0 then (if x6=true then (some (0,true)) else (some (0,(x9 == 0)))) else (if x9=0 then (scale_Over.j1 k x6 x7 x8 x9 x10 (decide (x0<0))) else (scale_Over.j1 k x6 x7 x8 x9 x10 false))
def scale_Over.j1:Nat→Bool→Bool→Int→Int→Int→Bool→Option (Int × Bool)
  | 0,_,_,_,_,_,_=>none
  | k+1,x6,x7,x8,x9,x10,x40=>if x40=true then (some ((-288230376151711744),true)) else (if x9=0 then (some (288230376151711744,true)) else ((scale_quotient.f k x8 x9).bind fun bt260=>(if bt260.2.2=true then (some (x10,true)) else (if (IntKind.u64.wrap (2*bt260.2.1)) > x9 then (scale_Over.j2 k x6 x7 bt260.1 true) else (if (IntKind.u64.wrap (2*bt260.2.1))=x9 then (scale_Over.j2 k x6 x7 bt260.1 (!x7)) else (scale_Over.j2 k x6 x7 bt260.1 false))))))
def scale_Over.j2:Nat→Bool→Bool→Int→Bool→Option (Int × Bool)
  | 0,_,_,_,_=>none
  | k+1,x6,x7,x11,x72=>if x72=true then (if x7=true then ((fix_Clamp.f (wrap64 (-(wrap64 (IntKind.u64.wrap (x11+1)))))).bind fun bt263=>(if x6=true then (some (bt263.1,true)) else (some (bt263.1,bt263.2)))) else ((fix_Clamp.f (wrap64 (IntKind.u64.wrap (x11+1)))).bind fun bt265=>(if x6=true then (some (bt265.1,true)) else (some (bt265.1,bt265.2))))) else (if x7=true then ((fix_Clamp.f (wrap64 (-(wrap64 (x11))))).bind fun bt267=>(if x6=true then (some (bt267.1,true)) else (some (bt267.1,bt267.2)))) else ((fix_Clamp.f (wrap64 (x11))).bind fun bt269=>(if x6=true then (some (bt269.1,true)) else (some (bt269.1,bt269.2)))))
end
def scale_Over.f (k:Nat) (a0:Int) (a1:Int):Option (Int × Bool):=(scale_changed.f k (([a0,a1]:List Int))).bind fun t257=>((fix_Abs.f a0).bind fun t258=>((fix_Abs.f a1).bind fun t259=>(if ((decide (a0<0)) != (decide (a1<0)))=true then (scale_Over.j0 k a0 t257 ((decide (a0<0)) != (decide (a1<0))) (IntKind.u64.wrap (t258)) (IntKind.u64.wrap (t259)) (-288230376151711744)) else (scale_Over.j0 k a0 t257 ((decide (a0<0)) != (decide (a1<0))) (IntKind.u64.wrap (t258)) (IntKind.u64.wrap (t259)) 288230376151711744))))
theorem scale_Over.mono_l:∀ k,(∀ y0 y1 y2 y3 y4 y5,LeO (scale_Over.j0 k y0 y1 y2 y3 y4 y5) (scale_Over.j0 (k+1) y0 y1 y2 y3 y4 y5))∧(∀ y0 y1 y2 y3 y4 y5,LeO (scale_Over.j1 k y0 y1 y2 y3 y4 y5) (scale_Over.j1 (k+1) y0 y1 y2 y3 y4 y5))∧(∀ y0 y1 y2 y3,LeO (scale_Over.j2 k y0 y1 y2 y3) (scale_Over.j2 (k+1) y0 y1 y2 y3))
 | 0=>⟨fun _ _ _ _ _ _ r h=>by simp [scale_Over.j0] at h,fun _ _ _ _ _ _ r h=>by simp [scale_Over.j1] at h,fun _ _ _ _ r h=>by simp [scale_Over.j2] at h⟩
 | k+1=>by
  obtain⟨ih0,ih1,ih2⟩:=scale_Over.mono_l k
  refine⟨?_,?_,?_⟩
  ·intro y0 y1 y2 y3 y4 y5
   unfold scale_Over.j0
   repeat' first
   | (with_reducible exact ih0 _ _ _ _ _ _)
   | (with_reducible exact ih1 _ _ _ _ _ _)
   | (with_reducible exact ih2 _ _ _ _)
   | (with_reducible exact scale_changed.mono _ _)
   | (with_reducible exact scale_quotient.mono _ _ _)
   | (with_reducible exact LeO.refl _)
   | (with_reducible exact LeO.none _)
   | (with_reducible refine LeO.ite ?_ ?_)
   | (with_reducible refine LeO.bind ?_ (fun _=>?_))
   | exact ih0 _ _ _ _ _ _
   | exact ih1 _ _ _ _ _ _
   | exact ih2 _ _ _ _
   | exact scale_changed.mono _ _
   | exact scale_quotient.mono _ _ _
   | exact LeO.none _
   | refine LeO.ite ?_ ?_
   | refine LeO.bind ?_ (fun _=>?_)
  ·intro y0 y1 y2 y3 y4 y5
   unfold scale_Over.j1
   repeat' first
   | (with_reducible exact ih0 _ _ _ _ _ _)
   | (with_reducible exact ih1 _ _ _ _ _ _)
   | (with_reducible exact ih2 _ _ _ _)
   | (with_reducible exact scale_changed.mono _ _)
   | (with_reducible exact scale_quotient.mono _ _ _)
   | (with_reducible exact LeO.refl _)
   | (with_reducible exact LeO.none _)
   | (with_reducible refine LeO.ite ?_ ?_)
   | (with_reducible refine LeO.bind ?_ (fun _=>?_))
   | exact ih0 _ _ _ _ _ _
   | exact ih1 _ _ _ _ _ _
   | exact ih2 _ _ _ _
   | exact scale_changed.mono _ _
   | exact scale_quotient.mono _ _ _
   | exact LeO.none _
   | refine LeO.ite ?_ ?_
   | refine LeO.bind ?_ (fun _=>?_)
  ·intro y0 y1 y2 y3
   unfold scale_Over.j2
   repeat' first
   | (with_reducible exact ih0 _ _ _ _ _ _)
   | (with_reducible exact ih1 _ _ _ _ _ _)
   | (with_reducible exact ih2 _ _ _ _)
   | (with_reducible exact scale_changed.mono _ _)
   | (with_reducible exact scale_quotient.mono _ _ _)
   | (with_reducible exact LeO.refl _)
   | (with_reducible exact LeO.none _)
   | (with_reducible refine LeO.ite ?_ ?_)
   | (with_reducible refine LeO.bind ?_ (fun _=>?_))
   | exact ih0 _ _ _ _ _ _
   | exact ih1 _ _ _ _ _ _
   | exact ih2 _ _ _ _
   | exact scale_changed.mono _ _
   | exact scale_quotient.mono _ _ _
   | exact LeO.none _
   | refine LeO.ite ?_ ?_
   | refine LeO.bind ?_ (fun _=>?_)
theorem scale_Over.mono:∀ a0 a1 k,LeO (scale_Over.f k a0 a1) (scale_Over.f (k+1) a0 a1):=by
 intro a0 a1 k
 obtain⟨ih0,ih1,ih2⟩:=scale_Over.mono_l k
 unfold scale_Over.f
 repeat' first
   | (with_reducible exact ih0 _ _ _ _ _ _)
   | (with_reducible exact ih1 _ _ _ _ _ _)
   | (with_reducible exact ih2 _ _ _ _)
   | (with_reducible exact scale_changed.mono _ _)
   | (with_reducible exact scale_quotient.mono _ _ _)
   | (with_reducible exact LeO.refl _)
   | (with_reducible exact LeO.none _)
   | (with_reducible refine LeO.ite ?_ ?_)
   | (with_reducible refine LeO.bind ?_ (fun _=>?_))
   | exact ih0 _ _ _ _ _ _
   | exact ih1 _ _ _ _ _ _
   | exact ih2 _ _ _ _
   | exact scale_changed.mono _ _
   | exact scale_quotient.mono _ _ _
   | exact LeO.none _
   | refine LeO.ite ?_ ?_
   | refine LeO.bind ?_ (fun _=>?_)
set_option maxHeartbeats 8000000 in
set_option maxRecDepth 100000 in
theorem scale_Over.calls (k:Nat) (a0:Int) (a1:Int) (r1:Int) (r2:Bool) (w:World) (h:scale_Over.f k a0 a1=some (r1,r2)) :
  Calls Try.prog 47 #[.int .i64 a0,.int .i64 a1] w fun e w'=>e=.returned (.tuple #[.int .i64 r1,.bool r2])∧Below w.heap.size w w':=by
 have HB:=Aside0.mk (Below.refl w.heap.size w)
 have H:((scale_changed.f k (([a0,a1]:List Int))).bind fun t257=>((fix_Abs.f a0).bind fun t258=>((fix_Abs.f a1).bind fun t259=>(if ((decide (a0<0)) != (decide (a1<0)))=true then (scale_Over.j0 k a0 t257 ((decide (a0<0)) != (decide (a1<0))) (IntKind.u64.wrap (t258)) (IntKind.u64.wrap (t259)) (-288230376151711744)) else (scale_Over.j0 k a0 t257 ((decide (a0<0)) != (decide (a1<0))) (IntKind.u64.wrap (t258)) (IntKind.u64.wrap (t259)) 288230376151711744)))))=some (r1,r2):=h
 clear h
 obtain⟨ng,hng⟩:∃ n_:Bool,((decide (a0<0)) != (decide (a1<0)))=n_:=⟨_,rfl⟩
 rw [hng] at H
 have hng8:(!((decide (a0<0)) == (decide (a1<0))))=ng:=hng
 obtain⟨y254,hy254⟩:∃ y_:List Int,y_=(([a0,a1]:List Int)):=⟨_,rfl⟩
 replace H:((scale_changed.f k y254).bind fun t257=>((fix_Abs.f a0).bind fun t258=>((fix_Abs.f a1).bind fun t259=>(if ng=true then (scale_Over.j0 k a0 t257 ng (IntKind.u64.wrap (t258)) (IntKind.u64.wrap (t259)) (-288230376151711744)) else (scale_Over.j0 k a0 t257 ng (IntKind.u64.wrap (t258)) (IntKind.u64.wrap (t259)) 288230376151711744)))))=some (r1,r2):=by first|(rw [hy254];with_reducible exact H)|(have H2_:=(Option.bind_some _ _).symm.trans H;rw [hy254];with_reducible exact H2_)|(have H2_:=(Option.bind_some _ _).symm.trans H;with_reducible exact H2_)|with_reducible exact H|(rw [hy254];exact H)|exact H
 have Ny254:=Aside0.mk hy254
 clear hy254
 replace H:=Option.bind_eq_some_iff.mp H
 obtain⟨t257,A30,H⟩:=H
 replace H:((fix_Abs.f a0).bind fun t258=>((fix_Abs.f a1).bind fun t259=>(if ng=true then (scale_Over.j0 k a0 t257 ng (IntKind.u64.wrap (t258)) (IntKind.u64.wrap (t259)) (-288230376151711744)) else (scale_Over.j0 k a0 t257 ng (IntKind.u64.wrap (t258)) (IntKind.u64.wrap (t259)) 288230376151711744))))=some (r1,r2):=H
 have A3:=Aside0.mk A30
 clear A30
 replace H:=Option.bind_eq_some_iff.mp H
 obtain⟨t258,A40,H⟩:=H
 replace H:((fix_Abs.f a1).bind fun t259=>(if ng=true then (scale_Over.j0 k a0 t257 ng (IntKind.u64.wrap (t258)) (IntKind.u64.wrap (t259)) (-288230376151711744)) else (scale_Over.j0 k a0 t257 ng (IntKind.u64.wrap (t258)) (IntKind.u64.wrap (t259)) 288230376151711744)))=some (r1,r2):=H
 have A4:=Aside0.mk A40
 clear A40
 replace H:=Option.bind_eq_some_iff.mp H
 obtain⟨t259,A50,H⟩:=H
 replace H:(if ng=true then (scale_Over.j0 k a0 t257 ng (IntKind.u64.wrap (t258)) (IntKind.u64.wrap (t259)) (-288230376151711744)) else (scale_Over.j0 k a0 t257 ng (IntKind.u64.wrap (t258)) (IntKind.u64.wrap (t259)) 288230376151711744))=some (r1,r2):=H
 have A5:=Aside0.mk A50
 clear A50
 have HC6:=Aside0.mk H
 clear H
 go_enter Try.func47,Try.ntmps47
 go_upto_if 31 with (first|((with_reducible refine gate_dst (N:=18) rfl ?_);refine Kd.R_lit (Kd.int .i64) _ 3 ?hg (N:=18) ?hd (xs:=([a0,a1]:List Int)) (inner:=[.int .i64 a0,.int .i64 a1]) (ok:=fun _=>True) (okp:=fun _=>True) ?hr ?hp (fun _ hk=>hk) trivial (Below.refl _ _) (Nat.le_refl _) (by simp) ?_;(case hd=>rfl);(case hg=>rfl);(case hr=>first|(go_simp;done)|(go_simp;rfl));(case hp=>exact(Reps.one (show Kd.M (Kd.int .i64) _ _ _ a0 [.int .i64 a0] from rfl) (Reps.one (show Kd.M (Kd.int .i64) _ _ _ a1 [.int .i64 a1] from rfl) (Reps.none _ _))));intro v255 w7 ho8 hb hg_ hnew_;clear hg_ hnew_;(first|rw [←Ny254.out] at ho8|(simp only [Int.reduceToNat] at ho8;rw [←Ny254.out] at ho8));have n0_:=Aside0.mk (Kd.R_lower ho8 (below_size (by first|with_reducible exact HB.out|exact bl HB)));have n1_:=Aside0.mk (below_step (by first|with_reducible exact HB.out|exact bl HB) hb);clear HB;have HO256:=n0_;have HB:=n1_;clear n0_ n1_;clear hb ho8;obtain⟨Ao9,co9,eo9⟩:=Kd.R_slice HO256.out;subst eo9)|((with_reducible refine gate_callee (f:=67) rfl ?_);refine goesL_ (some 19) rfl rfl Try.func67 (by kernel_rfl) rfl #[.slice Ao9 y254.length co9] rfl (by exact mA _ _) ?_;(with_reducible refine(scale_changed.calls k _ _ y254 t257 _ ?side1 ?side2 A3.out).mono ?_);(case side1=>first|exact(Kd.R_reads' HO256.out).2.2|exact kC (Kd.R_reads' HO256.out).2.2);(case side2=>exact(Kd.R_reads' HO256.out).2.1);rintro e w10 ⟨rfl,hb⟩;refine⟨_,rfl,?_⟩;have n0_:=Aside0.mk (Kd.R_below (by first|exact HO256.out|exact kR HO256.out) hb);have n1_:=Aside0.mk (below_step (by first|with_reducible exact HB.out|exact bl HB) hb);clear HO256;clear HB;have HO256:=n0_;have HB:=n1_;clear n0_ n1_;(try clear hb);(try clear hb2);(try clear hk);(try clear hi))|((with_reducible refine gate_callee (f:=17) rfl ?_);refine goesL_ (some 26) rfl rfl Try.func17 (by kernel_rfl) rfl #[.int .i64 a0] rfl (by exact mA _ _) ?_;(with_reducible refine(fix_Abs.calls a0 t258 _ A4.out).mono ?_);rintro e w11 ⟨rfl,hb⟩;refine⟨_,rfl,?_⟩;have n0_:=Aside0.mk (Kd.R_below (by first|exact HO256.out|exact kR HO256.out) hb);have n1_:=Aside0.mk (below_step (by first|with_reducible exact HB.out|exact bl HB) hb);clear HO256;clear HB;have HO256:=n0_;have HB:=n1_;clear n0_ n1_;(try clear hb);(try clear hb2);(try clear hk);(try clear hi))|((with_reducible refine gate_callee (f:=17) rfl ?_);refine goesL_ (some 29) rfl rfl Try.func17 (by kernel_rfl) rfl #[.int .i64 a1] rfl (by exact mA _ _) ?_;(with_reducible refine(fix_Abs.calls a1 t259 _ A5.out).mono ?_);rintro e w12 ⟨rfl,hb⟩;refine⟨_,rfl,?_⟩;have n0_:=Aside0.mk (Kd.R_below (by first|exact HO256.out|exact kR HO256.out) hb);have n1_:=Aside0.mk (below_step (by first|with_reducible exact HB.out|exact bl HB) hb);clear HO256;clear HB;have HO256:=n0_;have HB:=n1_;clear n0_ n1_;(try clear hb);(try clear hb2);(try clear hk);(try clear hi)))
 (try simp only [Act.put,List.setIfInBounds_toArray,List.set_cons_zero,List.set_cons_succ])
 go_cut [10] (fun v10 wc=>∃ (kq:Nat) (x10_5:Int),v10=.int .i64 x10_5∧Aside0 (scale_Over.j0 kq a0 t257 ng (IntKind.u64.wrap (t258)) (IntKind.u64.wrap (t259)) x10_5=some (r1,r2))∧Aside0 (kq≤k)∧Aside0 (Below w.heap.size w wc))
 case first =>
  have H:=HC6.out
  clear HC6
  by_cases c13:ng=true
  ·rw [if_pos c13] at H
   have c13b0:ng=true:=c13
   (try (have c13b1:decide ((decide (a0<0))=(decide (a1<0)))=false:=by simpa using c13))
   (try (have c13b2:((decide (a0<0)) == (decide (a1<0)))=false:=by simpa using c13))
   (try (have c13b3:¬((decide (a0<0))=(decide (a1<0))):=by simpa using c13))
   subst c13
   (first|rw [c13b0]|(simp only [i64_w,i32_w];rw [c13b0])|skip)
   have H':=Aside0.mk H
   clear H
   go_wp2
   go_meet
   case rel=>exact⟨_,((-288230376151711744)),(by first|rfl|(simp;done)|(simp [*];done)),H',⟨by first|omega|exact Nat.le_refl _⟩,⟨by first|with_reducible exact HB.out|exact bl HB⟩⟩
  ·rw [if_neg c13] at H
   have c13b0:ng=false:=by simpa using c13
   (try (have c13b1:decide ((decide (a0<0))=(decide (a1<0)))=true:=by simpa using c13))
   (try (have c13b2:((decide (a0<0)) == (decide (a1<0)))=true:=by simpa using c13))
   replace c13:=Bool.eq_false_iff.mpr c13
   subst c13
   (first|rw [c13b0]|(simp only [i64_w,i32_w];rw [c13b0])|skip)
   have H':=Aside0.mk H
   clear H
   go_wp2
   go_meet
   case rel=>exact⟨_,(288230376151711744),(by first|rfl|(simp;done)|(simp [*];done)),H',⟨by first|omega|exact Nat.le_refl _⟩,⟨by first|with_reducible exact HB.out|exact bl HB⟩⟩
 case rest =>
  clear HC6
  try clear c1
  try clear p2
  try clear c4
  try clear c6
  try clear c13
  try clear c13b0
  try clear c13b1
  try clear c13b2
  obtain⟨kq,x10_5,rfl,HA,HJ5,HB⟩:=hcut
  cases kq with
  | zero=>exact absurd HA.out (by simp [scale_Over.j0])
  | succ kj5 =>
   have H:=HA.out
   clear HA
   simp only [scale_Over.j0] at H
   by_cases c14:(IntKind.u64.wrap (t258))=0
   ·rw [if_pos c14] at H
    have c14b0:((IntKind.u64.wrap (t258)) == 0)=true:=beq_iff_eq.mpr c14
    have c14b1:((IntKind.u64.wrap (t258)) != 0)=false:=bne_eq_false_iff_eq.mpr c14
    clear c14
    by_cases c15:t257=true
    ·subst c15
     have H1:(some (0,true))=some (r1,r2):=by rw [if_pos rfl] at H;exact H
     clear H
     have H:=H1
     clear H1
     simp only [Option.some.injEq,Prod.mk.injEq] at H
     obtain⟨rfl,rfl⟩:=H
     go_wp2
     go_ret2
     exact⟨by first|rfl|(simp [errW_none,errW_some]<;>rfl)|(simp [*,errW_none,errW_some]<;>rfl),by first|with_reducible exact HB.out|exact bl HB⟩
    ·replace c15:=Bool.eq_false_iff.mpr c15
     subst c15
     have H1:(some (0,((IntKind.u64.wrap (t259)) == 0)))=some (r1,r2):=by rw [if_neg (show ¬(false=true) by decide)] at H;exact H
     clear H
     have H:=H1
     clear H1
     simp only [Option.some.injEq,Prod.mk.injEq] at H
     obtain⟨rfl,rfl⟩:=H
     go_wp2
     go_ret2
     exact⟨by first|rfl|(simp [errW_none,errW_some]<;>rfl)|(simp [*,errW_none,errW_some]<;>rfl),by first|with_reducible exact HB.out|exact bl HB⟩
   ·rw [if_neg c14] at H
    have c14b0:((IntKind.u64.wrap (t258)) == 0)=false:=beq_eq_false_iff_ne.mpr c14
    have c14b1:((IntKind.u64.wrap (t258)) != 0)=true:=bne_iff_ne.mpr c14
    have HC16:=Aside0.mk H
    clear H
    go_upto_region 9 with (fail)
    go_cut [40] (fun v40 wc=>∃ (kq:Nat) (x40_15:Bool),v40=.bool x40_15∧Aside0 (scale_Over.j1 kq t257 ng (IntKind.u64.wrap (t258)) (IntKind.u64.wrap (t259)) x10_5 x40_15=some (r1,r2))∧Aside0 (kq≤kj5)∧Aside0 (Below w.heap.size w wc))
    case first =>
     have H:=HC16.out
     clear HC16
     by_cases c17:(IntKind.u64.wrap (t259))=0
     ·rw [if_pos c17] at H
      have c17b0:((IntKind.u64.wrap (t259)) == 0)=true:=beq_iff_eq.mpr c17
      have c17b1:((IntKind.u64.wrap (t259)) != 0)=false:=bne_eq_false_iff_eq.mpr c17
      clear c17
      (first|rw [c17b0]|(simp only [i64_w,i32_w];rw [c17b0])|skip)
      have H':=Aside0.mk H
      clear H
      go_wp2
      go_meet
      case rel=>exact⟨_,(decide (a0<0)),(by first|rfl|(simp;done)|(simp [*];done)),H',⟨by have:=HJ5.out;first|omega|exact Nat.le_refl _⟩,⟨by first|with_reducible exact HB.out|exact bl HB⟩⟩
     ·rw [if_neg c17] at H
      have c17b0:((IntKind.u64.wrap (t259)) == 0)=false:=beq_eq_false_iff_ne.mpr c17
      have c17b1:((IntKind.u64.wrap (t259)) != 0)=true:=bne_iff_ne.mpr c17
      (first|rw [c17b0]|(simp only [i64_w,i32_w];rw [c17b0])|skip)
      have H':=Aside0.mk H
      clear H
      go_wp2
      go_meet
      case rel=>exact⟨_,(false),(by first|rfl|(simp;done)|(simp [*];done)),H',⟨by have:=HJ5.out;first|omega|exact Nat.le_refl _⟩,⟨by first|with_reducible exact HB.out|exact bl HB⟩⟩
    case rest =>
     clear HC16
     try clear c1
     try clear p2
     try clear c4
     try clear c6
     try clear c13
     try clear c13b0
     try clear c13b1
     try clear c13b2
     try clear c14
     try clear c14b0
     try clear c14b1
     try clear c15
     try clear c17
     try clear c17b0
     try clear c17b1
     try clear p2
     obtain⟨kq,x40_15,rfl,HA,HJ15,HB⟩:=hcut
     cases kq with
     | zero=>exact absurd HA.out (by simp [scale_Over.j1])
     | succ kj15 =>
      have H:=HA.out
      clear HA
      simp only [scale_Over.j1] at H
      by_cases c18:x40_15=true
      ·subst c18
       have H1:(some ((-288230376151711744),true))=some (r1,r2):=by rw [if_pos rfl] at H;exact H
       clear H
       have H:=H1
       clear H1
       simp only [Option.some.injEq,Prod.mk.injEq] at H
       obtain⟨rfl,rfl⟩:=H
       go_wp2
       go_ret2
       exact⟨by first|rfl|(simp [errW_none,errW_some]<;>rfl)|(simp [*,errW_none,errW_some]<;>rfl),by first|with_reducible exact HB.out|exact bl HB⟩
      ·replace c18:=Bool.eq_false_iff.mpr c18
       subst c18
       have H1:(if (IntKind.u64.wrap (t259))=0 then (some (288230376151711744,true)) else ((scale_quotient.f kj15 (IntKind.u64.wrap (t258)) (IntKind.u64.wrap (t259))).bind fun bt260=>(if bt260.2.2=true then (some (x10_5,true)) else (if (IntKind.u64.wrap (2*bt260.2.1)) > (IntKind.u64.wrap (t259)) then (scale_Over.j2 kj15 t257 ng bt260.1 true) else (if (IntKind.u64.wrap (2*bt260.2.1))=(IntKind.u64.wrap (t259)) then (scale_Over.j2 kj15 t257 ng bt260.1 (!ng)) else (scale_Over.j2 kj15 t257 ng bt260.1 false))))))=some (r1,r2):=by rw [if_neg (show ¬(false=true) by decide)] at H;exact H
       clear H
       have H:=H1
       clear H1
       by_cases c19:(IntKind.u64.wrap (t259))=0
       ·rw [if_pos c19] at H
        have c19b0:((IntKind.u64.wrap (t259)) == 0)=true:=beq_iff_eq.mpr c19
        have c19b1:((IntKind.u64.wrap (t259)) != 0)=false:=bne_eq_false_iff_eq.mpr c19
        clear c19
        simp only [Option.some.injEq,Prod.mk.injEq] at H
        obtain⟨rfl,rfl⟩:=H
        go_wp2
        go_ret2
        exact⟨by first|rfl|(simp [errW_none,errW_some]<;>rfl)|(simp [*,errW_none,errW_some]<;>rfl),by first|with_reducible exact HB.out|exact bl HB⟩
       ·rw [if_neg c19] at H
        have c19b0:((IntKind.u64.wrap (t259)) == 0)=false:=beq_eq_false_iff_ne.mpr c19
        have c19b1:((IntKind.u64.wrap (t259)) != 0)=true:=bne_iff_ne.mpr c19
        replace H:=Option.bind_eq_some_iff.mp H
        obtain⟨⟨t260,t261,t262⟩,A200,H⟩:=H
        replace H:(if t262=true then (some (x10_5,true)) else (if (IntKind.u64.wrap (2*t261)) > (IntKind.u64.wrap (t259)) then (scale_Over.j2 kj15 t257 ng t260 true) else (if (IntKind.u64.wrap (2*t261))=(IntKind.u64.wrap (t259)) then (scale_Over.j2 kj15 t257 ng t260 (!ng)) else (scale_Over.j2 kj15 t257 ng t260 false))))=some (r1,r2):=H
        have A20:=Aside0.mk A200
        clear A200
        by_cases c21:t262=true
        ·subst c21
         have H1:(some (x10_5,true))=some (r1,r2):=by rw [if_pos rfl] at H;exact H
         clear H
         have H:=H1
         clear H1
         simp only [Option.some.injEq,Prod.mk.injEq] at H
         obtain⟨rfl,rfl⟩:=H
         go_wp2_with (first|((with_reducible refine gate_callee (f:=69) rfl ?_);refine goesL_ (some 53) rfl rfl Try.func69 (by kernel_rfl) rfl #[.int .u64 (IntKind.u64.wrap (t258)),.int .u64 (IntKind.u64.wrap (t259))] rfl (by exact mA _ _) ?_;(with_reducible refine(scale_quotient.calls kj15 (IntKind.u64.wrap (t258)) (IntKind.u64.wrap (t259)) t260 t261 true _ A20.out).mono ?_);rintro e w' ⟨rfl,⟨nd,rfl⟩⟩;refine⟨_,rfl,?_⟩))
         go_ret2
         exact⟨by first|rfl|(simp [errW_none,errW_some]<;>rfl)|(simp [*,errW_none,errW_some]<;>rfl),by first|with_reducible exact HB.out|exact bl HB⟩
        ·replace c21:=Bool.eq_false_iff.mpr c21
         subst c21
         have H1:(if (IntKind.u64.wrap (2*t261)) > (IntKind.u64.wrap (t259)) then (scale_Over.j2 kj15 t257 ng t260 true) else (if (IntKind.u64.wrap (2*t261))=(IntKind.u64.wrap (t259)) then (scale_Over.j2 kj15 t257 ng t260 (!ng)) else (scale_Over.j2 kj15 t257 ng t260 false)))=some (r1,r2):=by rw [if_neg (show ¬(false=true) by decide)] at H;exact H
         clear H
         have H:=H1
         clear H1
         have HC22:=Aside0.mk H
         clear H
         go_upto_region 16 with (first|((with_reducible refine gate_callee (f:=69) rfl ?_);refine goesL_ (some 53) rfl rfl Try.func69 (by kernel_rfl) rfl #[.int .u64 (IntKind.u64.wrap (t258)),.int .u64 (IntKind.u64.wrap (t259))] rfl (by exact mA _ _) ?_;(with_reducible refine(scale_quotient.calls kj15 (IntKind.u64.wrap (t258)) (IntKind.u64.wrap (t259)) t260 t261 false _ A20.out).mono ?_);rintro e w' ⟨rfl,⟨nd,rfl⟩⟩;refine⟨_,rfl,?_⟩))
         (try simp only [Act.put,List.setIfInBounds_toArray,List.set_cons_zero,List.set_cons_succ])
         go_cut [72] (fun v72 wc=>∃ (kq:Nat) (x72_21:Bool),v72=.bool x72_21∧Aside0 (scale_Over.j2 kq t257 ng t260 x72_21=some (r1,r2))∧Aside0 (kq≤kj15)∧Aside0 (Below w.heap.size w wc))
         case first =>
          have H:=HC22.out
          clear HC22
          by_cases c23:(IntKind.u64.wrap (2*t261)) > (IntKind.u64.wrap (t259))
          ·rw [if_pos c23] at H
           have c23b0:decide ((IntKind.u64.wrap (t259))<(IntKind.u64.wrap (2*t261)))=true:=decide_eq_true c23
           clear c23
           (first|rw [c23b0]|(simp only [i64_w,i32_w];rw [c23b0])|skip)
           have H':=Aside0.mk H
           clear H
           go_wp2
           go_meet
           case rel=>exact⟨_,(true),(by first|rfl|(simp;done)|(simp [*];done)),H',⟨by have:=HJ5.out;have:=HJ15.out;first|omega|exact Nat.le_refl _⟩,⟨by first|with_reducible exact HB.out|exact bl HB⟩⟩
          ·rw [if_neg c23] at H
           have c23b0:decide ((IntKind.u64.wrap (t259))<(IntKind.u64.wrap (2*t261)))=false:=decide_eq_false c23
           clear c23
           (first|rw [c23b0]|(simp only [i64_w,i32_w];rw [c23b0])|skip)
           by_cases c24:(IntKind.u64.wrap (2*t261))=(IntKind.u64.wrap (t259))
           ·rw [if_pos c24] at H
            have c24b0:((IntKind.u64.wrap (2*t261)) == (IntKind.u64.wrap (t259)))=true:=beq_iff_eq.mpr c24
            have c24b1:((IntKind.u64.wrap (2*t261)) != (IntKind.u64.wrap (t259)))=false:=bne_eq_false_iff_eq.mpr c24
            clear c24
            have H':=Aside0.mk H
            clear H
            go_wp2
            go_meet
            case rel=>exact⟨_,(!ng),(by first|rfl|(simp;done)|(simp [*];done)),H',⟨by have:=HJ5.out;have:=HJ15.out;first|omega|exact Nat.le_refl _⟩,⟨by first|with_reducible exact HB.out|exact bl HB⟩⟩
           ·rw [if_neg c24] at H
            have c24b0:((IntKind.u64.wrap (2*t261)) == (IntKind.u64.wrap (t259)))=false:=beq_eq_false_iff_ne.mpr c24
            have c24b1:((IntKind.u64.wrap (2*t261)) != (IntKind.u64.wrap (t259)))=true:=bne_iff_ne.mpr c24
            have H':=Aside0.mk H
            clear H
            go_wp2
            go_meet
            case rel=>exact⟨_,(false),(by first|rfl|(simp;done)|(simp [*];done)),H',⟨by have:=HJ5.out;have:=HJ15.out;first|omega|exact Nat.le_refl _⟩,⟨by first|with_reducible exact HB.out|exact bl HB⟩⟩
         case rest =>
          clear HC22
          try clear c1
          try clear c2
          try clear p2
          try clear c4
          try clear c6
          try clear c13
          try clear c13b0
          try clear c13b1
          try clear c13b2
          try clear c14
          try clear c14b0
          try clear c14b1
          try clear c15
          try clear c17
          try clear c17b0
          try clear c17b1
          try clear c18
          try clear c19
          try clear c19b0
          try clear c19b1
          try clear c21
          try clear c23
          try clear c23b0
          try clear c24
          try clear c24b0
          try clear c24b1
          try clear p2
          obtain⟨kq,x72_21,rfl,HA,HJ21,HB⟩:=hcut
          cases kq with
          | zero=>exact absurd HA.out (by simp [scale_Over.j2])
          | succ kj21 =>
           have H:=HA.out
           clear HA
           simp only [scale_Over.j2] at H
           by_cases c25:x72_21=true
           ·subst c25
            have H1:(if ng=true then ((fix_Clamp.f (wrap64 (-(wrap64 (IntKind.u64.wrap (t260+1)))))).bind fun bt263=>(if t257=true then (some (bt263.1,true)) else (some (bt263.1,bt263.2)))) else ((fix_Clamp.f (wrap64 (IntKind.u64.wrap (t260+1)))).bind fun bt265=>(if t257=true then (some (bt265.1,true)) else (some (bt265.1,bt265.2)))))=some (r1,r2):=by rw [if_pos rfl] at H;exact H
            clear H
            have H:=H1
            clear H1
            by_cases c26:ng=true
            ·rw [if_pos c26] at H
             have c26b0:ng=true:=c26
             (try (have c26b1:decide ((decide (a0<0))=(decide (a1<0)))=false:=by simpa using c26))
             (try (have c26b2:((decide (a0<0)) == (decide (a1<0)))=false:=by simpa using c26))
             (try (have c26b3:¬((decide (a0<0))=(decide (a1<0))):=by simpa using c26))
             subst c26
             replace H:=Option.bind_eq_some_iff.mp H
             obtain⟨⟨t263,t264⟩,A270,H⟩:=H
             replace H:(if t257=true then (some (t263,true)) else (some (t263,t264)))=some (r1,r2):=H
             have A27:=Aside0.mk A270
             clear A270
             by_cases c28:t257=true
             ·subst c28
              have H1:(some (t263,true))=some (r1,r2):=by rw [if_pos rfl] at H;exact H
              clear H
              have H:=H1
              clear H1
              simp only [Option.some.injEq,Prod.mk.injEq] at H
              obtain⟨rfl,rfl⟩:=H
              go_wp2_with (first|((with_reducible refine gate_callee (f:=19) rfl ?_);refine goesL_ (some 82) rfl rfl Try.func19 (by kernel_rfl) rfl #[.int .i64 (wrap64 (-(wrap64 (IntKind.u64.wrap (t260+1)))))] rfl (by exact mA _ _) ?_;(with_reducible refine(fix_Clamp.calls (wrap64 (-(wrap64 (IntKind.u64.wrap (t260+1))))) t263 t264 _ A27.out).mono ?_);rintro e w29 ⟨rfl,hb⟩;refine⟨_,rfl,?_⟩;have n0_:=Aside0.mk (below_step (by first|with_reducible exact HB.out|exact bl HB) hb);clear HB;have HB:=n0_;clear n0_;(try clear hb);(try clear hb2);(try clear hk);(try clear hi)))
              go_ret2
              exact⟨by first|rfl|(simp [errW_none,errW_some]<;>rfl)|(simp [*,errW_none,errW_some]<;>rfl),by first|with_reducible exact HB.out|exact bl HB⟩
             ·replace c28:=Bool.eq_false_iff.mpr c28
              subst c28
              have H1:(some (t263,t264))=some (r1,r2):=by rw [if_neg (show ¬(false=true) by decide)] at H;exact H
              clear H
              have H:=H1
              clear H1
              simp only [Option.some.injEq,Prod.mk.injEq] at H
              obtain⟨rfl,rfl⟩:=H
              go_wp2_with (first|((with_reducible refine gate_callee (f:=19) rfl ?_);refine goesL_ (some 82) rfl rfl Try.func19 (by kernel_rfl) rfl #[.int .i64 (wrap64 (-(wrap64 (IntKind.u64.wrap (t260+1)))))] rfl (by exact mA _ _) ?_;(with_reducible refine(fix_Clamp.calls (wrap64 (-(wrap64 (IntKind.u64.wrap (t260+1))))) t263 t264 _ A27.out).mono ?_);rintro e w30 ⟨rfl,hb⟩;refine⟨_,rfl,?_⟩;have n0_:=Aside0.mk (below_step (by first|with_reducible exact HB.out|exact bl HB) hb);clear HB;have HB:=n0_;clear n0_;(try clear hb);(try clear hb2);(try clear hk);(try clear hi)))
              go_ret2
              exact⟨by first|rfl|(simp [errW_none,errW_some]<;>rfl)|(simp [*,errW_none,errW_some]<;>rfl),by first|with_reducible exact HB.out|exact bl HB⟩
            ·rw [if_neg c26] at H
             have c26b0:ng=false:=by simpa using c26
             (try (have c26b1:decide ((decide (a0<0))=(decide (a1<0)))=true:=by simpa using c26))
             (try (have c26b2:((decide (a0<0)) == (decide (a1<0)))=true:=by simpa using c26))
             replace c26:=Bool.eq_false_iff.mpr c26
             subst c26
             replace H:=Option.bind_eq_some_iff.mp H
             obtain⟨⟨t265,t266⟩,A310,H⟩:=H
             replace H:(if t257=true then (some (t265,true)) else (some (t265,t266)))=some (r1,r2):=H
             have A31:=Aside0.mk A310
             clear A310
             by_cases c32:t257=true
             ·subst c32
              have H1:(some (t265,true))=some (r1,r2):=by rw [if_pos rfl] at H;exact H
              clear H
              have H:=H1
              clear H1
              simp only [Option.some.injEq,Prod.mk.injEq] at H
              obtain⟨rfl,rfl⟩:=H
              go_wp2_with (first|((with_reducible refine gate_callee (f:=19) rfl ?_);refine goesL_ (some 82) rfl rfl Try.func19 (by kernel_rfl) rfl #[.int .i64 (wrap64 (IntKind.u64.wrap (t260+1)))] rfl (by exact mA _ _) ?_;(with_reducible refine(fix_Clamp.calls (wrap64 (IntKind.u64.wrap (t260+1))) t265 t266 _ A31.out).mono ?_);rintro e w33 ⟨rfl,hb⟩;refine⟨_,rfl,?_⟩;have n0_:=Aside0.mk (below_step (by first|with_reducible exact HB.out|exact bl HB) hb);clear HB;have HB:=n0_;clear n0_;(try clear hb);(try clear hb2);(try clear hk);(try clear hi)))
              go_ret2
              exact⟨by first|rfl|(simp [errW_none,errW_some]<;>rfl)|(simp [*,errW_none,errW_some]<;>rfl),by first|with_reducible exact HB.out|exact bl HB⟩
             ·replace c32:=Bool.eq_false_iff.mpr c32
              subst c32
              have H1:(some (t265,t266))=some (r1,r2):=by rw [if_neg (show ¬(false=true) by decide)] at H;exact H
              clear H
              have H:=H1
              clear H1
              simp only [Option.some.injEq,Prod.mk.injEq] at H
              obtain⟨rfl,rfl⟩:=H
              go_wp2_with (first|((with_reducible refine gate_callee (f:=19) rfl ?_);refine goesL_ (some 82) rfl rfl Try.func19 (by kernel_rfl) rfl #[.int .i64 (wrap64 (IntKind.u64.wrap (t260+1)))] rfl (by exact mA _ _) ?_;(with_reducible refine(fix_Clamp.calls (wrap64 (IntKind.u64.wrap (t260+1))) t265 t266 _ A31.out).mono ?_);rintro e w34 ⟨rfl,hb⟩;refine⟨_,rfl,?_⟩;have n0_:=Aside0.mk (below_step (by first|with_reducible exact HB.out|exact bl HB) hb);clear HB;have HB:=n0_;clear n0_;(try clear hb);(try clear hb2);(try clear hk);(try clear hi)))
              go_ret2
              exact⟨by first|rfl|(simp [errW_none,errW_some]<;>rfl)|(simp [*,errW_none,errW_some]<;>rfl),by first|with_reducible exact HB.out|exact bl HB⟩
           ·replace c25:=Bool.eq_false_iff.mpr c25
            subst c25
            have H1:(if ng=true then ((fix_Clamp.f (wrap64 (-(wrap64 (t260))))).bind fun bt267=>(if t257=true then (some (bt267.1,true)) else (some (bt267.1,bt267.2)))) else ((fix_Clamp.f (wrap64 (t260))).bind fun bt269=>(if t257=true then (some (bt269.1,true)) else (some (bt269.1,bt269.2)))))=some (r1,r2):=by rw [if_neg (show ¬(false=true) by decide)] at H;exact H
            clear H
            have H:=H1
            clear H1
            by_cases c35:ng=true
            ·rw [if_pos c35] at H
             have c35b0:ng=true:=c35
             (try (have c35b1:decide ((decide (a0<0))=(decide (a1<0)))=false:=by simpa using c35))
             (try (have c35b2:((decide (a0<0)) == (decide (a1<0)))=false:=by simpa using c35))
             (try (have c35b3:¬((decide (a0<0))=(decide (a1<0))):=by simpa using c35))
             subst c35
             replace H:=Option.bind_eq_some_iff.mp H
             obtain⟨⟨t267,t268⟩,A360,H⟩:=H
             replace H:(if t257=true then (some (t267,true)) else (some (t267,t268)))=some (r1,r2):=H
             have A36:=Aside0.mk A360
             clear A360
             by_cases c37:t257=true
             ·subst c37
              have H1:(some (t267,true))=some (r1,r2):=by rw [if_pos rfl] at H;exact H
              clear H
              have H:=H1
              clear H1
              simp only [Option.some.injEq,Prod.mk.injEq] at H
              obtain⟨rfl,rfl⟩:=H
              go_wp2_with (first|((with_reducible refine gate_callee (f:=19) rfl ?_);refine goesL_ (some 82) rfl rfl Try.func19 (by kernel_rfl) rfl #[.int .i64 (wrap64 (-(wrap64 (t260))))] rfl (by exact mA _ _) ?_;(with_reducible refine(fix_Clamp.calls (wrap64 (-(wrap64 (t260)))) t267 t268 _ A36.out).mono ?_);rintro e w38 ⟨rfl,hb⟩;refine⟨_,rfl,?_⟩;have n0_:=Aside0.mk (below_step (by first|with_reducible exact HB.out|exact bl HB) hb);clear HB;have HB:=n0_;clear n0_;(try clear hb);(try clear hb2);(try clear hk);(try clear hi)))
              go_ret2
              exact⟨by first|rfl|(simp [errW_none,errW_some]<;>rfl)|(simp [*,errW_none,errW_some]<;>rfl),by first|with_reducible exact HB.out|exact bl HB⟩
             ·replace c37:=Bool.eq_false_iff.mpr c37
              subst c37
              have H1:(some (t267,t268))=some (r1,r2):=by rw [if_neg (show ¬(false=true) by decide)] at H;exact H
              clear H
              have H:=H1
              clear H1
              simp only [Option.some.injEq,Prod.mk.injEq] at H
              obtain⟨rfl,rfl⟩:=H
              go_wp2_with (first|((with_reducible refine gate_callee (f:=19) rfl ?_);refine goesL_ (some 82) rfl rfl Try.func19 (by kernel_rfl) rfl #[.int .i64 (wrap64 (-(wrap64 (t260))))] rfl (by exact mA _ _) ?_;(with_reducible refine(fix_Clamp.calls (wrap64 (-(wrap64 (t260)))) t267 t268 _ A36.out).mono ?_);rintro e w39 ⟨rfl,hb⟩;refine⟨_,rfl,?_⟩;have n0_:=Aside0.mk (below_step (by first|with_reducible exact HB.out|exact bl HB) hb);clear HB;have HB:=n0_;clear n0_;(try clear hb);(try clear hb2);(try clear hk);(try clear hi)))
              go_ret2
              exact⟨by first|rfl|(simp [errW_none,errW_some]<;>rfl)|(simp [*,errW_none,errW_some]<;>rfl),by first|with_reducible exact HB.out|exact bl HB⟩
            ·rw [if_neg c35] at H
             have c35b0:ng=false:=by simpa using c35
             (try (have c35b1:decide ((decide (a0<0))=(decide (a1<0)))=true:=by simpa using c35))
             (try (have c35b2:((decide (a0<0)) == (decide (a1<0)))=true:=by simpa using c35))
             replace c35:=Bool.eq_false_iff.mpr c35
             subst c35
             replace H:=Option.bind_eq_some_iff.mp H
             obtain⟨⟨t269,t270⟩,A400,H⟩:=H
             replace H:(if t257=true then (some (t269,true)) else (some (t269,t270)))=some (r1,r2):=H
             have A40:=Aside0.mk A400
             clear A400
             by_cases c41:t257=true
             ·subst c41
              have H1:(some (t269,true))=some (r1,r2):=by rw [if_pos rfl] at H;exact H
              clear H
              have H:=H1
              clear H1
              simp only [Option.some.injEq,Prod.mk.injEq] at H
              obtain⟨rfl,rfl⟩:=H
              go_wp2_with (first|((with_reducible refine gate_callee (f:=19) rfl ?_);refine goesL_ (some 82) rfl rfl Try.func19 (by kernel_rfl) rfl #[.int .i64 (wrap64 (t260))] rfl (by exact mA _ _) ?_;(with_reducible refine(fix_Clamp.calls (wrap64 (t260)) t269 t270 _ A40.out).mono ?_);rintro e w42 ⟨rfl,hb⟩;refine⟨_,rfl,?_⟩;have n0_:=Aside0.mk (below_step (by first|with_reducible exact HB.out|exact bl HB) hb);clear HB;have HB:=n0_;clear n0_;(try clear hb);(try clear hb2);(try clear hk);(try clear hi)))
              go_ret2
              exact⟨by first|rfl|(simp [errW_none,errW_some]<;>rfl)|(simp [*,errW_none,errW_some]<;>rfl),by first|with_reducible exact HB.out|exact bl HB⟩
             ·replace c41:=Bool.eq_false_iff.mpr c41
              subst c41
              have H1:(some (t269,t270))=some (r1,r2):=by rw [if_neg (show ¬(false=true) by decide)] at H;exact H
              clear H
              have H:=H1
              clear H1
              simp only [Option.some.injEq,Prod.mk.injEq] at H
              obtain⟨rfl,rfl⟩:=H
              go_wp2_with (first|((with_reducible refine gate_callee (f:=19) rfl ?_);refine goesL_ (some 82) rfl rfl Try.func19 (by kernel_rfl) rfl #[.int .i64 (wrap64 (t260))] rfl (by exact mA _ _) ?_;(with_reducible refine(fix_Clamp.calls (wrap64 (t260)) t269 t270 _ A40.out).mono ?_);rintro e w43 ⟨rfl,hb⟩;refine⟨_,rfl,?_⟩;have n0_:=Aside0.mk (below_step (by first|with_reducible exact HB.out|exact bl HB) hb);clear HB;have HB:=n0_;clear n0_;(try clear hb);(try clear hb2);(try clear hk);(try clear hi)))
              go_ret2
              exact⟨by first|rfl|(simp [errW_none,errW_some]<;>rfl)|(simp [*,errW_none,errW_some]<;>rfl),by first|with_reducible exact HB.out|exact bl HB⟩
def sense_cal_show.f (k:Nat) (a0_0:Int) (a0_1:Int) (a0_2:Int) (a0_3:Int) (a0_4:Int) (a1:Int):Option (Int × Bool):=(scale_Over.f k a1 a0_3).bind fun bt272=>(some (bt272.1,bt272.2))
theorem sense_cal_show.mono:∀ a0 a1 a2 a3 a4 a5 k,LeO (sense_cal_show.f k a0 a1 a2 a3 a4 a5) (sense_cal_show.f (k+1) a0 a1 a2 a3 a4 a5):=by
 intro a0 a1 a2 a3 a4 a5 k
 unfold sense_cal_show.f
 repeat' first
   | (with_reducible exact scale_Over.mono _ _ _)
   | (with_reducible exact LeO.refl _)
   | (with_reducible exact LeO.none _)
   | (with_reducible refine LeO.ite ?_ ?_)
   | (with_reducible refine LeO.bind ?_ (fun _=>?_))
   | exact scale_Over.mono _ _ _
   | exact LeO.none _
   | refine LeO.ite ?_ ?_
   | refine LeO.bind ?_ (fun _=>?_)
set_option maxHeartbeats 8000000 in
set_option maxRecDepth 100000 in
theorem sense_cal_show.calls (k:Nat) (a0_0:Int) (a0_1:Int) (a0_2:Int) (a0_3:Int) (a0_4:Int) (a1:Int) (r1:Int) (r2:Bool) (w:World) (h:sense_cal_show.f k a0_0 a0_1 a0_2 a0_3 a0_4 a1=some (r1,r2)) :
  Calls Try.prog 26 #[.agg #[.int .i64 a0_0,.int .i64 a0_1,.int .i64 a0_2,.int .i64 a0_3,.int .i64 a0_4],.int .i64 a1] w fun e w'=>e=.returned (.tuple #[.int .i64 r1,.bool r2])∧Below w.heap.size w w':=by
 have hu44:=Try.underlying44
 have HB:=Aside0.mk (Below.refl w.heap.size w)
 have H:((scale_Over.f k a1 a0_3).bind fun bt272=>(some (bt272.1,bt272.2)))=some (r1,r2):=h
 clear h
 replace H:=Option.bind_eq_some_iff.mp H
 obtain⟨⟨t272,t273⟩,A30,H⟩:=H
 replace H:(some (t272,t273))=some (r1,r2):=H
 have A3:=Aside0.mk A30
 clear A30
 simp only [Option.some.injEq,Prod.mk.injEq] at H
 obtain⟨rfl,rfl⟩:=H
 go_enter Try.func26,Try.ntmps26
 go_wp2_with (first|((with_reducible refine gate_dst (N:=2) rfl ?_);refine box_event ?hg (N:=2) ?hd (cs:=#[.int .i64 a0_0,.int .i64 a0_1,.int .i64 a0_2,.int .i64 a0_3,.int .i64 a0_4]) (t:=44) ?hr ?_;(case hd=>rfl);(case hg=>rfl);(case hr=>first|(go_simp;done)|(go_simp;rfl));intro gb271 hg w4 hbox hb;have n0_:=Aside0.mk (below_step (by first|with_reducible exact HB.out|exact bl HB) hb);have n1_:=Aside0.mk (hbox);have n2_:=Aside0.mk ((by rw [hg];exact(below_size (by first|with_reducible exact HB.out|exact bl HB)):w.heap.size≤gb271));have n3_:=Aside0.mk ((by rw [hg];exact(below_size (by first|with_reducible exact HB.out|exact bl HB)):w.heap.size≤gb271));clear HB;have HB:=n0_;have BK271:=n1_;have GW271:=n2_;have GE271:=n3_;clear n0_ n1_ n2_ n3_;clear hb hbox hg;have hcz5_0:w4.cell? ⟨gb271,0,none⟩=some (.int .i64 a0_0):=(blk_cell BK271.out 0).trans rfl;have hcz5_1:w4.cell? ⟨gb271,1,none⟩=some (.int .i64 a0_1):=(blk_cell BK271.out 1).trans rfl;have hcz5_2:w4.cell? ⟨gb271,2,none⟩=some (.int .i64 a0_2):=(blk_cell BK271.out 2).trans rfl;have hcz5_3:w4.cell? ⟨gb271,3,none⟩=some (.int .i64 a0_3):=(blk_cell BK271.out 3).trans rfl;have hcz5_4:w4.cell? ⟨gb271,4,none⟩=some (.int .i64 a0_4):=(blk_cell BK271.out 4).trans rfl;have hfz5_0:=blk_frozen BK271.out 0;have hfz5_1:=blk_frozen BK271.out 1;have hfz5_2:=blk_frozen BK271.out 2;have hfz5_3:=blk_frozen BK271.out 3;have hfz5_4:=blk_frozen BK271.out 4)|((with_reducible refine gate_callee (f:=47) rfl ?_);refine goesL_ (some 9) rfl rfl Try.func47 (by kernel_rfl) rfl #[.int .i64 a1,.int .i64 a0_3] rfl (by exact mA _ _) ?_;(with_reducible refine(scale_Over.calls k a1 a0_3 t272 t273 _ A3.out).mono ?_);rintro e w6 ⟨rfl,hb⟩;refine⟨_,rfl,?_⟩;have n0_:=Aside0.mk (blk_below (bk BK271.out) hb);have n1_:=Aside0.mk (below_step (by repeat (first|with_reducible exact HB.out|exact bl HB|refine bs ?_ GE271)) hb);clear BK271;clear HB;have BK271:=n0_;have HB:=n1_;clear n0_ n1_;(try clear hb);(try clear hb2);(try clear hk);(try clear hi)))
 go_ret2
 exact⟨by first|rfl|(simp [errW_none,errW_some]<;>rfl)|(simp [*,errW_none,errW_some]<;>rfl),by repeat (first|with_reducible exact HB.out|exact bl HB|refine bs ?_ GE271)⟩
def fix_Add.f (a0:Int) (a1:Int):Option (Int × Bool):=(fix_known.f a0).bind fun t274=>((fix_known.f a1).bind fun t275=>((fix_Clamp.f (wrap64 (t274+t275))).bind fun bt276=>(if bt276.2=true then (some (bt276.1,true)) else ((fix_known.f a0).bind fun t278=>(if t278=a0 then ((fix_known.f a1).bind fun t279=>(some (bt276.1,(t279 != a1)))) else (some (bt276.1,true)))))))
set_option maxHeartbeats 8000000 in
set_option maxRecDepth 100000 in
theorem fix_Add.calls (a0:Int) (a1:Int) (r1:Int) (r2:Bool) (w:World) (h:fix_Add.f a0 a1=some (r1,r2)) :
  Calls Try.prog 49 #[.int .i64 a0,.int .i64 a1] w fun e w'=>e=.returned (.tuple #[.int .i64 r1,.bool r2])∧Below w.heap.size w w':=by
 have HB:=Aside0.mk (Below.refl w.heap.size w)
 have H:((fix_known.f a0).bind fun t274=>((fix_known.f a1).bind fun t275=>((fix_Clamp.f (wrap64 (t274+t275))).bind fun bt276=>(if bt276.2=true then (some (bt276.1,true)) else ((fix_known.f a0).bind fun t278=>(if t278=a0 then ((fix_known.f a1).bind fun t279=>(some (bt276.1,(t279 != a1)))) else (some (bt276.1,true))))))))=some (r1,r2):=h
 clear h
 replace H:=Option.bind_eq_some_iff.mp H
 obtain⟨t274,A30,H⟩:=H
 replace H:((fix_known.f a1).bind fun t275=>((fix_Clamp.f (wrap64 (t274+t275))).bind fun bt276=>(if bt276.2=true then (some (bt276.1,true)) else ((fix_known.f a0).bind fun t278=>(if t278=a0 then ((fix_known.f a1).bind fun t279=>(some (bt276.1,(t279 != a1)))) else (some (bt276.1,true)))))))=some (r1,r2):=H
 have A3:=Aside0.mk A30
 clear A30
 replace H:=Option.bind_eq_some_iff.mp H
 obtain⟨t275,A40,H⟩:=H
 replace H:((fix_Clamp.f (wrap64 (t274+t275))).bind fun bt276=>(if bt276.2=true then (some (bt276.1,true)) else ((fix_known.f a0).bind fun t278=>(if t278=a0 then ((fix_known.f a1).bind fun t279=>(some (bt276.1,(t279 != a1)))) else (some (bt276.1,true))))))=some (r1,r2):=H
 have A4:=Aside0.mk A40
 clear A40
 replace H:=Option.bind_eq_some_iff.mp H
 obtain⟨⟨t276,t277⟩,A50,H⟩:=H
 replace H:(if t277=true then (some (t276,true)) else ((fix_known.f a0).bind fun t278=>(if t278=a0 then ((fix_known.f a1).bind fun t279=>(some (t276,(t279 != a1)))) else (some (t276,true)))))=some (r1,r2):=H
 have A5:=Aside0.mk A50
 clear A50
 by_cases c6:t277=true
 ·subst c6
  have H1:(some (t276,true))=some (r1,r2):=by rw [if_pos rfl] at H;exact H
  clear H
  have H:=H1
  clear H1
  simp only [Option.some.injEq,Prod.mk.injEq] at H
  obtain⟨rfl,rfl⟩:=H
  go_enter Try.func49,Try.ntmps49
  go_wp2_with (first|((with_reducible refine gate_callee (f:=38) rfl ?_);refine goesL_ (some 10) rfl rfl Try.func38 (by kernel_rfl) rfl #[.int .i64 a0] rfl (by exact mA _ _) ?_;(with_reducible refine(fix_known.calls a0 t274 _ A3.out).mono ?_);rintro e w7 ⟨rfl,hb⟩;refine⟨_,rfl,?_⟩;have n0_:=Aside0.mk (below_step (by first|with_reducible exact HB.out|exact bl HB) hb);clear HB;have HB:=n0_;clear n0_;(try clear hb);(try clear hb2);(try clear hk);(try clear hi))|((with_reducible refine gate_callee (f:=38) rfl ?_);refine goesL_ (some 12) rfl rfl Try.func38 (by kernel_rfl) rfl #[.int .i64 a1] rfl (by exact mA _ _) ?_;(with_reducible refine(fix_known.calls a1 t275 _ A4.out).mono ?_);rintro e w8 ⟨rfl,hb⟩;refine⟨_,rfl,?_⟩;have n0_:=Aside0.mk (below_step (by first|with_reducible exact HB.out|exact bl HB) hb);clear HB;have HB:=n0_;clear n0_;(try clear hb);(try clear hb2);(try clear hk);(try clear hi))|((with_reducible refine gate_callee (f:=19) rfl ?_);refine goesL_ (some 14) rfl rfl Try.func19 (by kernel_rfl) rfl #[.int .i64 (wrap64 (t274+t275))] rfl (by exact mA _ _) ?_;(with_reducible refine(fix_Clamp.calls (wrap64 (t274+t275)) t276 true _ A5.out).mono ?_);rintro e w9 ⟨rfl,hb⟩;refine⟨_,rfl,?_⟩;have n0_:=Aside0.mk (below_step (by first|with_reducible exact HB.out|exact bl HB) hb);clear HB;have HB:=n0_;clear n0_;(try clear hb);(try clear hb2);(try clear hk);(try clear hi)))
  go_ret2
  exact⟨by first|rfl|(simp [errW_none,errW_some]<;>rfl)|(simp [*,errW_none,errW_some]<;>rfl),by first|with_reducible exact HB.out|exact bl HB⟩
 ·replace c6:=Bool.eq_false_iff.mpr c6
  subst c6
  have H1:((fix_known.f a0).bind fun t278=>(if t278=a0 then ((fix_known.f a1).bind fun t279=>(some (t276,(t279 != a1)))) else (some (t276,true))))=some (r1,r2):=by rw [if_neg (show ¬(false=true) by decide)] at H;exact H
  clear H
  have H:=H1
  clear H1
  replace H:=Option.bind_eq_some_iff.mp H
  obtain⟨t278,A100,H⟩:=H
  replace H:(if t278=a0 then ((fix_known.f a1).bind fun t279=>(some (t276,(t279 != a1)))) else (some (t276,true)))=some (r1,r2):=H
  have A10:=Aside0.mk A100
  clear A100
  by_cases c11:t278=a0
  ·rw [if_pos c11] at H
   have c11b0:(t278 == a0)=true:=beq_iff_eq.mpr c11
   have c11b1:(t278 != a0)=false:=bne_eq_false_iff_eq.mpr c11
   clear c11
   replace H:=Option.bind_eq_some_iff.mp H
   obtain⟨t279,A120,H⟩:=H
   replace H:(some (t276,(t279 != a1)))=some (r1,r2):=H
   have A12:=Aside0.mk A120
   clear A120
   simp only [Option.some.injEq,Prod.mk.injEq] at H
   obtain⟨rfl,rfl⟩:=H
   go_enter Try.func49,Try.ntmps49
   go_wp2_with (first|((with_reducible refine gate_callee (f:=38) rfl ?_);refine goesL_ (some 10) rfl rfl Try.func38 (by kernel_rfl) rfl #[.int .i64 a0] rfl (by exact mA _ _) ?_;(with_reducible refine(fix_known.calls a0 t274 _ A3.out).mono ?_);rintro e w13 ⟨rfl,hb⟩;refine⟨_,rfl,?_⟩;have n0_:=Aside0.mk (below_step (by first|with_reducible exact HB.out|exact bl HB) hb);clear HB;have HB:=n0_;clear n0_;(try clear hb);(try clear hb2);(try clear hk);(try clear hi))|((with_reducible refine gate_callee (f:=38) rfl ?_);refine goesL_ (some 12) rfl rfl Try.func38 (by kernel_rfl) rfl #[.int .i64 a1] rfl (by exact mA _ _) ?_;(with_reducible refine(fix_known.calls a1 t275 _ A4.out).mono ?_);rintro e w14 ⟨rfl,hb⟩;refine⟨_,rfl,?_⟩;have n0_:=Aside0.mk (below_step (by first|with_reducible exact HB.out|exact bl HB) hb);clear HB;have HB:=n0_;clear n0_;(try clear hb);(try clear hb2);(try clear hk);(try clear hi))|((with_reducible refine gate_callee (f:=19) rfl ?_);refine goesL_ (some 14) rfl rfl Try.func19 (by kernel_rfl) rfl #[.int .i64 (wrap64 (t274+t275))] rfl (by exact mA _ _) ?_;(with_reducible refine(fix_Clamp.calls (wrap64 (t274+t275)) t276 false _ A5.out).mono ?_);rintro e w15 ⟨rfl,hb⟩;refine⟨_,rfl,?_⟩;have n0_:=Aside0.mk (below_step (by first|with_reducible exact HB.out|exact bl HB) hb);clear HB;have HB:=n0_;clear n0_;(try clear hb);(try clear hb2);(try clear hk);(try clear hi))|(go_at_call 38;(with_reducible refine(fix_known.calls a0 t278 _ A10.out).mono ?_);rintro e w16 ⟨rfl,hb⟩;have n0_:=Aside0.mk (below_step (by first|with_reducible exact HB.out|exact bl HB) hb);clear HB;have HB:=n0_;clear n0_;(try clear hb);(try clear hb2);(try clear hk);(try clear hi))|(go_at_call 38;(with_reducible refine(fix_known.calls a1 t279 _ A12.out).mono ?_);rintro e w17 ⟨rfl,hb⟩;have n0_:=Aside0.mk (below_step (by first|with_reducible exact HB.out|exact bl HB) hb);clear HB;have HB:=n0_;clear n0_;(try clear hb);(try clear hb2);(try clear hk);(try clear hi)))
   go_ret2
   exact⟨by first|rfl|(simp [errW_none,errW_some]<;>rfl)|(simp [*,errW_none,errW_some]<;>rfl),by first|with_reducible exact HB.out|exact bl HB⟩
  ·rw [if_neg c11] at H
   have c11b0:(t278 == a0)=false:=beq_eq_false_iff_ne.mpr c11
   have c11b1:(t278 != a0)=true:=bne_iff_ne.mpr c11
   simp only [Option.some.injEq,Prod.mk.injEq] at H
   obtain⟨rfl,rfl⟩:=H
   go_enter Try.func49,Try.ntmps49
   go_wp2_with (first|((with_reducible refine gate_callee (f:=38) rfl ?_);refine goesL_ (some 10) rfl rfl Try.func38 (by kernel_rfl) rfl #[.int .i64 a0] rfl (by exact mA _ _) ?_;(with_reducible refine(fix_known.calls a0 t274 _ A3.out).mono ?_);rintro e w18 ⟨rfl,hb⟩;refine⟨_,rfl,?_⟩;have n0_:=Aside0.mk (below_step (by first|with_reducible exact HB.out|exact bl HB) hb);clear HB;have HB:=n0_;clear n0_;(try clear hb);(try clear hb2);(try clear hk);(try clear hi))|((with_reducible refine gate_callee (f:=38) rfl ?_);refine goesL_ (some 12) rfl rfl Try.func38 (by kernel_rfl) rfl #[.int .i64 a1] rfl (by exact mA _ _) ?_;(with_reducible refine(fix_known.calls a1 t275 _ A4.out).mono ?_);rintro e w19 ⟨rfl,hb⟩;refine⟨_,rfl,?_⟩;have n0_:=Aside0.mk (below_step (by first|with_reducible exact HB.out|exact bl HB) hb);clear HB;have HB:=n0_;clear n0_;(try clear hb);(try clear hb2);(try clear hk);(try clear hi))|((with_reducible refine gate_callee (f:=19) rfl ?_);refine goesL_ (some 14) rfl rfl Try.func19 (by kernel_rfl) rfl #[.int .i64 (wrap64 (t274+t275))] rfl (by exact mA _ _) ?_;(with_reducible refine(fix_Clamp.calls (wrap64 (t274+t275)) t276 false _ A5.out).mono ?_);rintro e w20 ⟨rfl,hb⟩;refine⟨_,rfl,?_⟩;have n0_:=Aside0.mk (below_step (by first|with_reducible exact HB.out|exact bl HB) hb);clear HB;have HB:=n0_;clear n0_;(try clear hb);(try clear hb2);(try clear hk);(try clear hi))|(go_at_call 38;(with_reducible refine(fix_known.calls a0 t278 _ A10.out).mono ?_);rintro e w21 ⟨rfl,hb⟩;have n0_:=Aside0.mk (below_step (by first|with_reducible exact HB.out|exact bl HB) hb);clear HB;have HB:=n0_;clear n0_;(try clear hb);(try clear hb2);(try clear hk);(try clear hi)))
   go_ret2
   exact⟨by first|rfl|(simp [errW_none,errW_some]<;>rfl)|(simp [*,errW_none,errW_some]<;>rfl),by first|with_reducible exact HB.out|exact bl HB⟩
end Go.Proofs.Ytonfobdknnlbjaa.B
end
section
set_option linter.unusedVariables false
set_option linter.unusedSimpArgs false
namespace Go.Proofs.Ytonfobdknnlbjaa.B
open Go.RowKit Go.Proofs.YtonfobdknnlbjaaW.PrintWords Go.Proofs.YtonfobdknnlbjaaW.PrintLast Go.Proofs.YtonfobdknnlbjaaW.PrintMore
attribute [local go_sem] max2_int min2_int max_two min_two max_three min_three max_four min_four
set_option linter.unusedVariables false
set_option linter.unusedSimpArgs false
def vec_Add_1.f (a0:Int) (a1_0:Int) (a1_1:Int) (a1_2:Int) (a2_0:Int) (a2_1:Int) (a2_2:Int):Option (Int × Bool):=if a0=0 then ((fix_Add.f a1_0 a2_0).bind fun bt280=>(some (bt280.1,bt280.2))) else (if a0=1 then ((fix_Add.f a1_1 a2_1).bind fun bt282=>(some (bt282.1,bt282.2))) else (if a0=2 then ((fix_Add.f a1_2 a2_2).bind fun bt284=>(some (bt284.1,bt284.2))) else (if 0=0 then (none) else (some (0,false)))))
def vec_Add_1.T1:Bool × List (List Nat × List Nat):=(true,[([],[]),([0],[0]),([1],[1]),([],[]),([3],[3]),([4],[4]),([2,5],[2,5]),([6],[6]),([6],[6]),([7,6,0,1,2,3,4,5,6,7,8],[7]),([8,9,0,1,2,3,4,5,6,7,8,9],[8])])
def vec_Add_1.B1:List Nat:=[0,1,3,0,8,24,63,127,127,511,1023]
theorem vec_Add_1.tab1:rtab .any (opsOf Try.f48 1)=vec_Add_1.T1:=by kernel_rfl
theorem vec_Add_1.bits1:waitsOk vec_Add_1.T1.2 vec_Add_1.B1=true:=by kernel_rfl
set_option maxHeartbeats 8000000 in
set_option maxRecDepth 100000 in
theorem vec_Add_1.calls (a0:Int) (a1_0:Int) (a1_1:Int) (a1_2:Int) (a2_0:Int) (a2_1:Int) (a2_2:Int) (r1:Int) (r2:Bool) (w:World) (g1_ g2_:Nat) (Hg1_:Aside0 (w.heap[g1_]? = some (.cells #[.int .i64 a1_0,.int .i64 a1_1,.int .i64 a1_2] 22 (0,0)))) (Hg2_:Aside0 (w.heap[g2_]? = some (.cells #[.int .i64 a2_0,.int .i64 a2_1,.int .i64 a2_2] 22 (0,0)))) (h:vec_Add_1.f a0 a1_0 a1_1 a1_2 a2_0 a2_1 a2_2=some (r1,r2)) :
  Calls Try.prog 48 #[.int .i64 a0,.pointer (some ⟨g1_,0,none⟩),.pointer (some ⟨g2_,0,none⟩)] w fun e w'=>e=.returned (.tuple #[.int .i64 r1,.bool r2])∧Below w.heap.size w w':=by
 have HB:=Aside0.mk (Below.refl w.heap.size w)
 have H:(if a0=0 then ((fix_Add.f a1_0 a2_0).bind fun bt280=>(some (bt280.1,bt280.2))) else (if a0=1 then ((fix_Add.f a1_1 a2_1).bind fun bt282=>(some (bt282.1,bt282.2))) else (if a0=2 then ((fix_Add.f a1_2 a2_2).bind fun bt284=>(some (bt284.1,bt284.2))) else (if 0=0 then (none) else (some (0,false))))))=some (r1,r2):=h
 clear h
 by_cases c4:a0=0
 ·rw [if_pos c4] at H
  subst c4
  replace H:=Option.bind_eq_some_iff.mp H
  obtain⟨⟨t280,t281⟩,A50,H⟩:=H
  replace H:(some (t280,t281))=some (r1,r2):=H
  have A5:=Aside0.mk A50
  clear A50
  simp only [Option.some.injEq,Prod.mk.injEq] at H
  obtain⟨rfl,rfl⟩:=H
  go_enter Try.func48,Try.ntmps48
  try go_wp2
  have n0_:=Aside0.mk (below_drew1 HB.out)
  clear HB
  have HB:=n0_
  clear n0_
  refine start_ (n:=11) (S:=fun w'=>w'.cell? ⟨g1_,0,none⟩=some (.int .i64 a1_0)∧w'.cell? ⟨g2_,0,none⟩=some (.int .i64 a2_0)) (ds:=[]) #[ff,ff,ff,ff,ff,ff,ff,ff,ff,ff,ff] (by kernel_rfl) rfl rfl ⟨((HB.out.cell (World.block_lt_of_cell? w _ ((blk_cell Hg1_.out 0).trans rfl))).trans ((blk_cell Hg1_.out 0).trans rfl)),((HB.out.cell (World.block_lt_of_cell? w _ ((blk_cell Hg2_.out 0).trans rfl))).trans ((blk_cell Hg2_.out 0).trans rfl))⟩ (fun hHeld=>?_);refine with_tabW vec_Add_1.tab1 vec_Add_1.bits1 (fun HT_ HW_=>?_)
  generalize w.drew=w6 at HB hHeld ⊢
  refine pure_ (i:=0) (N:=some 6) (v:=?_) (a':=?_) #[tt,ff,ff,ff,ff,ff,ff,ff,ff,ff,ff] rfl rfl (any_of HT_.out (by kernel_rfl)) (fun _ _ _ h=>h) (Or.inl ⟨by rfl,?_⟩) ?_ ?_
  rotate_left
  ·intro w'
   go_simp
   with_reducible rfl
  rotate_left
  ·simp only [Act.put,List.setIfInBounds_toArray,List.set_cons_zero,List.set_cons_succ,i64_w,i32_w]
   rfl
  refine pure_ (i:=1) (N:=some 7) (v:=?_) (a':=?_) #[tt,tt,ff,ff,ff,ff,ff,ff,ff,ff,ff] rfl rfl (any_of HT_.out (by kernel_rfl)) (fun _ _ _ h=>h) (Or.inl ⟨by rfl,?_⟩) ?_ ?_
  rotate_left
  ·intro w'
   go_simp
   with_reducible rfl
  rotate_left
  ·simp only [Act.put,List.setIfInBounds_toArray,List.set_cons_zero,List.set_cons_succ,i64_w,i32_w]
   rfl
  refine take_ (i:=2) (N:=some 8) (v:=?_) (a':=?_) #[tt,tt,tt,ff,ff,ff,ff,ff,ff,ff,ff] rfl rfl (take_ofW HT_.out HW_.out (by kernel_rfl)) (fun _ _ _ h=>h) (Or.inl ⟨by rfl,?_⟩) hHeld ?_ ?_
  rotate_left
  ·rintro w' ⟨s0,s1⟩
   go_simp
   with_reducible rfl
  rotate_left
  ·simp only [Act.put,List.setIfInBounds_toArray,List.set_cons_zero,List.set_cons_succ,i64_w,i32_w]
   rfl
  refine pure_ (i:=3) (N:=some 9) (v:=?_) (a':=?_) #[tt,tt,tt,tt,ff,ff,ff,ff,ff,ff,ff] rfl rfl (any_of HT_.out (by kernel_rfl)) (fun _ _ _ h=>h) (Or.inl ⟨by rfl,?_⟩) ?_ ?_
  rotate_left
  ·intro w'
   go_simp
   with_reducible rfl
  rotate_left
  ·simp only [Act.put,List.setIfInBounds_toArray,List.set_cons_zero,List.set_cons_succ,i64_w,i32_w]
   rfl
  refine pure_ (i:=4) (N:=some 10) (v:=?_) (a':=?_) #[tt,tt,tt,tt,tt,ff,ff,ff,ff,ff,ff] rfl rfl (any_of HT_.out (by kernel_rfl)) (fun _ _ _ h=>h) (Or.inl ⟨by rfl,?_⟩) ?_ ?_
  rotate_left
  ·intro w'
   go_simp
   with_reducible rfl
  rotate_left
  ·simp only [Act.put,List.setIfInBounds_toArray,List.set_cons_zero,List.set_cons_succ,i64_w,i32_w]
   rfl
  refine take_ (i:=5) (N:=some 11) (v:=?_) (a':=?_) #[tt,tt,tt,tt,tt,tt,ff,ff,ff,ff,ff] rfl rfl (take_ofW HT_.out HW_.out (by kernel_rfl)) (fun _ _ _ h=>h) (Or.inl ⟨by rfl,?_⟩) hHeld ?_ ?_
  rotate_left
  ·rintro w' ⟨s0,s1⟩
   go_simp
   with_reducible rfl
  rotate_left
  ·simp only [Act.put,List.setIfInBounds_toArray,List.set_cons_zero,List.set_cons_succ,i64_w,i32_w]
   rfl
  refine one_ (i:=6) (N:=some 12) #[tt,tt,tt,tt,tt,tt,tt,ff,ff,ff,ff] rfl rfl (one_of HT_.out (by kernel_rfl)) (by decide) (fun K hK=>?_)
  refine goes_ Try.func49 (by kernel_rfl) rfl #[.int .i64 a1_0,.int .i64 a2_0] (by rfl) rfl rfl (by exact mA _ _) ?_
  with_reducible refine(fix_Add.calls a1_0 a2_0 t280 t281 _ A5.out).mono ?_
  rintro e w7 ⟨rfl,hb⟩
  refine⟨_,rfl,?_⟩
  have n0_:=Aside0.mk (below_step (by first|with_reducible exact HB.out|exact bl HB) hb)
  clear HB
  have HB:=n0_
  clear n0_
  (try clear hb)
  (try clear hb2)
  (try clear hk)
  (try clear hi)
  refine hK.out _ _ ⟨((HB.out.cell (World.block_lt_of_cell? w _ ((blk_cell Hg1_.out 0).trans rfl))).trans ((blk_cell Hg1_.out 0).trans rfl)),((HB.out.cell (World.block_lt_of_cell? w _ ((blk_cell Hg2_.out 0).trans rfl))).trans ((blk_cell Hg2_.out 0).trans rfl))⟩ (fun hHeld=>?_)
  clear hK K
  refine norm_ (a':=?_) ?_ ?_
  rotate_left
  ·show Act.put _ (some 12) _=_
   simp only [Act.put,List.setIfInBounds_toArray,List.set_cons_zero,List.set_cons_succ,i64_w,i32_w]
   rfl
  refine pure_ (i:=7) (N:=some 13) (v:=?_) (a':=?_) #[tt,tt,tt,tt,tt,tt,tt,tt,ff,ff,ff] rfl rfl (any_of HT_.out (by kernel_rfl)) (fun _ _ _ h=>h) (Or.inl ⟨by rfl,?_⟩) ?_ ?_
  rotate_left
  ·intro w'
   go_simp
   with_reducible rfl
  rotate_left
  ·simp only [Act.put,List.setIfInBounds_toArray,List.set_cons_zero,List.set_cons_succ,i64_w,i32_w]
   rfl
  refine pure_ (i:=8) (N:=some 14) (v:=?_) (a':=?_) #[tt,tt,tt,tt,tt,tt,tt,tt,tt,ff,ff] rfl rfl (any_of HT_.out (by kernel_rfl)) (fun _ _ _ h=>h) (Or.inl ⟨by rfl,?_⟩) ?_ ?_
  rotate_left
  ·intro w'
   go_simp
   with_reducible rfl
  rotate_left
  ·simp only [Act.put,List.setIfInBounds_toArray,List.set_cons_zero,List.set_cons_succ,i64_w,i32_w]
   rfl
  refine pure_ (i:=9) (N:=some 4) (v:=?_) (a':=?_) #[tt,tt,tt,tt,tt,tt,tt,tt,tt,tt,ff] rfl rfl (any_of HT_.out (by kernel_rfl)) (fun _ _ _ h=>h) (Or.inl ⟨by rfl,?_⟩) ?_ ?_
  rotate_left
  ·intro w'
   go_simp
   with_reducible rfl
  rotate_left
  ·simp only [Act.put,List.setIfInBounds_toArray,List.set_cons_zero,List.set_cons_succ,i64_w,i32_w]
   rfl
  refine pure_ (i:=10) (N:=some 5) (v:=?_) (a':=?_) #[tt,tt,tt,tt,tt,tt,tt,tt,tt,tt,tt] rfl rfl (any_of HT_.out (by kernel_rfl)) (fun _ _ _ h=>h) (Or.inl ⟨by rfl,?_⟩) ?_ ?_
  rotate_left
  ·intro w'
   go_simp
   with_reducible rfl
  rotate_left
  ·simp only [Act.put,List.setIfInBounds_toArray,List.set_cons_zero,List.set_cons_succ,i64_w,i32_w]
   rfl
  refine done_ (done_of HT_.out (by kernel_rfl)) ?_
  try go_wp2
  go_ret2
  exact⟨by first|rfl|(simp [errW_none,errW_some]<;>rfl)|(simp [*,errW_none,errW_some]<;>rfl),by first|with_reducible exact HB.out|exact bl HB⟩
 ·rw [if_neg c4] at H
  have c4b0:(a0 == 0)=false:=beq_eq_false_iff_ne.mpr c4
  have c4b1:(a0 != 0)=true:=bne_iff_ne.mpr c4
  by_cases c8:a0=1
  ·rw [if_pos c8] at H
   subst c8
   replace H:=Option.bind_eq_some_iff.mp H
   obtain⟨⟨t282,t283⟩,A90,H⟩:=H
   replace H:(some (t282,t283))=some (r1,r2):=H
   have A9:=Aside0.mk A90
   clear A90
   simp only [Option.some.injEq,Prod.mk.injEq] at H
   obtain⟨rfl,rfl⟩:=H
   go_enter Try.func48,Try.ntmps48
   try go_wp2
   have n0_:=Aside0.mk (below_drew1 HB.out)
   clear HB
   have HB:=n0_
   clear n0_
   refine start_ (n:=11) (S:=fun w'=>w'.cell? ⟨g1_,1,none⟩=some (.int .i64 a1_1)∧w'.cell? ⟨g2_,1,none⟩=some (.int .i64 a2_1)) (ds:=[]) #[ff,ff,ff,ff,ff,ff,ff,ff,ff,ff,ff] (by kernel_rfl) rfl rfl ⟨((HB.out.cell (World.block_lt_of_cell? w _ ((blk_cell Hg1_.out 1).trans rfl))).trans ((blk_cell Hg1_.out 1).trans rfl)),((HB.out.cell (World.block_lt_of_cell? w _ ((blk_cell Hg2_.out 1).trans rfl))).trans ((blk_cell Hg2_.out 1).trans rfl))⟩ (fun hHeld=>?_);refine with_tabW vec_Add_1.tab1 vec_Add_1.bits1 (fun HT_ HW_=>?_)
   generalize w.drew=w10 at HB hHeld ⊢
   refine pure_ (i:=0) (N:=some 6) (v:=?_) (a':=?_) #[tt,ff,ff,ff,ff,ff,ff,ff,ff,ff,ff] rfl rfl (any_of HT_.out (by kernel_rfl)) (fun _ _ _ h=>h) (Or.inl ⟨by rfl,?_⟩) ?_ ?_
   rotate_left
   ·intro w'
    go_simp
    with_reducible rfl
   rotate_left
   ·simp only [Act.put,List.setIfInBounds_toArray,List.set_cons_zero,List.set_cons_succ,i64_w,i32_w]
    rfl
   refine pure_ (i:=1) (N:=some 7) (v:=?_) (a':=?_) #[tt,tt,ff,ff,ff,ff,ff,ff,ff,ff,ff] rfl rfl (any_of HT_.out (by kernel_rfl)) (fun _ _ _ h=>h) (Or.inl ⟨by rfl,?_⟩) ?_ ?_
   rotate_left
   ·intro w'
    go_simp
    with_reducible rfl
   rotate_left
   ·simp only [Act.put,List.setIfInBounds_toArray,List.set_cons_zero,List.set_cons_succ,i64_w,i32_w]
    rfl
   refine take_ (i:=2) (N:=some 8) (v:=?_) (a':=?_) #[tt,tt,tt,ff,ff,ff,ff,ff,ff,ff,ff] rfl rfl (take_ofW HT_.out HW_.out (by kernel_rfl)) (fun _ _ _ h=>h) (Or.inl ⟨by rfl,?_⟩) hHeld ?_ ?_
   rotate_left
   ·rintro w' ⟨s0,s1⟩
    go_simp
    with_reducible rfl
   rotate_left
   ·simp only [Act.put,List.setIfInBounds_toArray,List.set_cons_zero,List.set_cons_succ,i64_w,i32_w]
    rfl
   refine pure_ (i:=3) (N:=some 9) (v:=?_) (a':=?_) #[tt,tt,tt,tt,ff,ff,ff,ff,ff,ff,ff] rfl rfl (any_of HT_.out (by kernel_rfl)) (fun _ _ _ h=>h) (Or.inl ⟨by rfl,?_⟩) ?_ ?_
   rotate_left
   ·intro w'
    go_simp
    with_reducible rfl
   rotate_left
   ·simp only [Act.put,List.setIfInBounds_toArray,List.set_cons_zero,List.set_cons_succ,i64_w,i32_w]
    rfl
   refine pure_ (i:=4) (N:=some 10) (v:=?_) (a':=?_) #[tt,tt,tt,tt,tt,ff,ff,ff,ff,ff,ff] rfl rfl (any_of HT_.out (by kernel_rfl)) (fun _ _ _ h=>h) (Or.inl ⟨by rfl,?_⟩) ?_ ?_
   rotate_left
   ·intro w'
    go_simp
    with_reducible rfl
   rotate_left
   ·simp only [Act.put,List.setIfInBounds_toArray,List.set_cons_zero,List.set_cons_succ,i64_w,i32_w]
    rfl
   refine take_ (i:=5) (N:=some 11) (v:=?_) (a':=?_) #[tt,tt,tt,tt,tt,tt,ff,ff,ff,ff,ff] rfl rfl (take_ofW HT_.out HW_.out (by kernel_rfl)) (fun _ _ _ h=>h) (Or.inl ⟨by rfl,?_⟩) hHeld ?_ ?_
   rotate_left
   ·rintro w' ⟨s0,s1⟩
    go_simp
    with_reducible rfl
   rotate_left
   ·simp only [Act.put,List.setIfInBounds_toArray,List.set_cons_zero,List.set_cons_succ,i64_w,i32_w]
    rfl
   refine one_ (i:=6) (N:=some 12) #[tt,tt,tt,tt,tt,tt,tt,ff,ff,ff,ff] rfl rfl (one_of HT_.out (by kernel_rfl)) (by decide) (fun K hK=>?_)
   refine goes_ Try.func49 (by kernel_rfl) rfl #[.int .i64 a1_1,.int .i64 a2_1] (by rfl) rfl rfl (by exact mA _ _) ?_
   with_reducible refine(fix_Add.calls a1_1 a2_1 t282 t283 _ A9.out).mono ?_
   rintro e w11 ⟨rfl,hb⟩
   refine⟨_,rfl,?_⟩
   have n0_:=Aside0.mk (below_step (by first|with_reducible exact HB.out|exact bl HB) hb)
   clear HB
   have HB:=n0_
   clear n0_
   (try clear hb)
   (try clear hb2)
   (try clear hk)
   (try clear hi)
   refine hK.out _ _ ⟨((HB.out.cell (World.block_lt_of_cell? w _ ((blk_cell Hg1_.out 1).trans rfl))).trans ((blk_cell Hg1_.out 1).trans rfl)),((HB.out.cell (World.block_lt_of_cell? w _ ((blk_cell Hg2_.out 1).trans rfl))).trans ((blk_cell Hg2_.out 1).trans rfl))⟩ (fun hHeld=>?_)
   clear hK K
   refine norm_ (a':=?_) ?_ ?_
   rotate_left
   ·show Act.put _ (some 12) _=_
    simp only [Act.put,List.setIfInBounds_toArray,List.set_cons_zero,List.set_cons_succ,i64_w,i32_w]
    rfl
   refine pure_ (i:=7) (N:=some 13) (v:=?_) (a':=?_) #[tt,tt,tt,tt,tt,tt,tt,tt,ff,ff,ff] rfl rfl (any_of HT_.out (by kernel_rfl)) (fun _ _ _ h=>h) (Or.inl ⟨by rfl,?_⟩) ?_ ?_
   rotate_left
   ·intro w'
    go_simp
    with_reducible rfl
   rotate_left
   ·simp only [Act.put,List.setIfInBounds_toArray,List.set_cons_zero,List.set_cons_succ,i64_w,i32_w]
    rfl
   refine pure_ (i:=8) (N:=some 14) (v:=?_) (a':=?_) #[tt,tt,tt,tt,tt,tt,tt,tt,tt,ff,ff] rfl rfl (any_of HT_.out (by kernel_rfl)) (fun _ _ _ h=>h) (Or.inl ⟨by rfl,?_⟩) ?_ ?_
   rotate_left
   ·intro w'
    go_simp
    with_reducible rfl
   rotate_left
   ·simp only [Act.put,List.setIfInBounds_toArray,List.set_cons_zero,List.set_cons_succ,i64_w,i32_w]
    rfl
   refine pure_ (i:=9) (N:=some 4) (v:=?_) (a':=?_) #[tt,tt,tt,tt,tt,tt,tt,tt,tt,tt,ff] rfl rfl (any_of HT_.out (by kernel_rfl)) (fun _ _ _ h=>h) (Or.inl ⟨by rfl,?_⟩) ?_ ?_
   rotate_left
   ·intro w'
    go_simp
    with_reducible rfl
   rotate_left
   ·simp only [Act.put,List.setIfInBounds_toArray,List.set_cons_zero,List.set_cons_succ,i64_w,i32_w]
    rfl
   refine pure_ (i:=10) (N:=some 5) (v:=?_) (a':=?_) #[tt,tt,tt,tt,tt,tt,tt,tt,tt,tt,tt] rfl rfl (any_of HT_.out (by kernel_rfl)) (fun _ _ _ h=>h) (Or.inl ⟨by rfl,?_⟩) ?_ ?_
   rotate_left
   ·intro w'
    go_simp
    with_reducible rfl
   rotate_left
   ·simp only [Act.put,List.setIfInBounds_toArray,List.set_cons_zero,List.set_cons_succ,i64_w,i32_w]
    rfl
   refine done_ (done_of HT_.out (by kernel_rfl)) ?_
   try go_wp2
   go_ret2
   exact⟨by first|rfl|(simp [errW_none,errW_some]<;>rfl)|(simp [*,errW_none,errW_some]<;>rfl),by first|with_reducible exact HB.out|exact bl HB⟩
  ·rw [if_neg c8] at H
   have c8b0:(a0 == 1)=false:=beq_eq_false_iff_ne.mpr c8
   have c8b1:(a0 != 1)=true:=bne_iff_ne.mpr c8
   by_cases c12:a0=2
   ·rw [if_pos c12] at H
    subst c12
    replace H:=Option.bind_eq_some_iff.mp H
    obtain⟨⟨t284,t285⟩,A130,H⟩:=H
    replace H:(some (t284,t285))=some (r1,r2):=H
    have A13:=Aside0.mk A130
    clear A130
    simp only [Option.some.injEq,Prod.mk.injEq] at H
    obtain⟨rfl,rfl⟩:=H
    go_enter Try.func48,Try.ntmps48
    try go_wp2
    have n0_:=Aside0.mk (below_drew1 HB.out)
    clear HB
    have HB:=n0_
    clear n0_
    refine start_ (n:=11) (S:=fun w'=>w'.cell? ⟨g1_,2,none⟩=some (.int .i64 a1_2)∧w'.cell? ⟨g2_,2,none⟩=some (.int .i64 a2_2)) (ds:=[]) #[ff,ff,ff,ff,ff,ff,ff,ff,ff,ff,ff] (by kernel_rfl) rfl rfl ⟨((HB.out.cell (World.block_lt_of_cell? w _ ((blk_cell Hg1_.out 2).trans rfl))).trans ((blk_cell Hg1_.out 2).trans rfl)),((HB.out.cell (World.block_lt_of_cell? w _ ((blk_cell Hg2_.out 2).trans rfl))).trans ((blk_cell Hg2_.out 2).trans rfl))⟩ (fun hHeld=>?_);refine with_tabW vec_Add_1.tab1 vec_Add_1.bits1 (fun HT_ HW_=>?_)
    generalize w.drew=w14 at HB hHeld ⊢
    refine pure_ (i:=0) (N:=some 6) (v:=?_) (a':=?_) #[tt,ff,ff,ff,ff,ff,ff,ff,ff,ff,ff] rfl rfl (any_of HT_.out (by kernel_rfl)) (fun _ _ _ h=>h) (Or.inl ⟨by rfl,?_⟩) ?_ ?_
    rotate_left
    ·intro w'
     go_simp
     with_reducible rfl
    rotate_left
    ·simp only [Act.put,List.setIfInBounds_toArray,List.set_cons_zero,List.set_cons_succ,i64_w,i32_w]
     rfl
    refine pure_ (i:=1) (N:=some 7) (v:=?_) (a':=?_) #[tt,tt,ff,ff,ff,ff,ff,ff,ff,ff,ff] rfl rfl (any_of HT_.out (by kernel_rfl)) (fun _ _ _ h=>h) (Or.inl ⟨by rfl,?_⟩) ?_ ?_
    rotate_left
    ·intro w'
     go_simp
     with_reducible rfl
    rotate_left
    ·simp only [Act.put,List.setIfInBounds_toArray,List.set_cons_zero,List.set_cons_succ,i64_w,i32_w]
     rfl
    refine take_ (i:=2) (N:=some 8) (v:=?_) (a':=?_) #[tt,tt,tt,ff,ff,ff,ff,ff,ff,ff,ff] rfl rfl (take_ofW HT_.out HW_.out (by kernel_rfl)) (fun _ _ _ h=>h) (Or.inl ⟨by rfl,?_⟩) hHeld ?_ ?_
    rotate_left
    ·rintro w' ⟨s0,s1⟩
     go_simp
     with_reducible rfl
    rotate_left
    ·simp only [Act.put,List.setIfInBounds_toArray,List.set_cons_zero,List.set_cons_succ,i64_w,i32_w]
     rfl
    refine pure_ (i:=3) (N:=some 9) (v:=?_) (a':=?_) #[tt,tt,tt,tt,ff,ff,ff,ff,ff,ff,ff] rfl rfl (any_of HT_.out (by kernel_rfl)) (fun _ _ _ h=>h) (Or.inl ⟨by rfl,?_⟩) ?_ ?_
    rotate_left
    ·intro w'
     go_simp
     with_reducible rfl
    rotate_left
    ·simp only [Act.put,List.setIfInBounds_toArray,List.set_cons_zero,List.set_cons_succ,i64_w,i32_w]
     rfl
    refine pure_ (i:=4) (N:=some 10) (v:=?_) (a':=?_) #[tt,tt,tt,tt,tt,ff,ff,ff,ff,ff,ff] rfl rfl (any_of HT_.out (by kernel_rfl)) (fun _ _ _ h=>h) (Or.inl ⟨by rfl,?_⟩) ?_ ?_
    rotate_left
    ·intro w'
     go_simp
     with_reducible rfl
    rotate_left
    ·simp only [Act.put,List.setIfInBounds_toArray,List.set_cons_zero,List.set_cons_succ,i64_w,i32_w]
     rfl
    refine take_ (i:=5) (N:=some 11) (v:=?_) (a':=?_) #[tt,tt,tt,tt,tt,tt,ff,ff,ff,ff,ff] rfl rfl (take_ofW HT_.out HW_.out (by kernel_rfl)) (fun _ _ _ h=>h) (Or.inl ⟨by rfl,?_⟩) hHeld ?_ ?_
    rotate_left
    ·rintro w' ⟨s0,s1⟩
     go_simp
     with_reducible rfl
    rotate_left
    ·simp only [Act.put,List.setIfInBounds_toArray,List.set_cons_zero,List.set_cons_succ,i64_w,i32_w]
     rfl
    refine one_ (i:=6) (N:=some 12) #[tt,tt,tt,tt,tt,tt,tt,ff,ff,ff,ff] rfl rfl (one_of HT_.out (by kernel_rfl)) (by decide) (fun K hK=>?_)
    refine goes_ Try.func49 (by kernel_rfl) rfl #[.int .i64 a1_2,.int .i64 a2_2] (by rfl) rfl rfl (by exact mA _ _) ?_
    with_reducible refine(fix_Add.calls a1_2 a2_2 t284 t285 _ A13.out).mono ?_
    rintro e w15 ⟨rfl,hb⟩
    refine⟨_,rfl,?_⟩
    have n0_:=Aside0.mk (below_step (by first|with_reducible exact HB.out|exact bl HB) hb)
    clear HB
    have HB:=n0_
    clear n0_
    (try clear hb)
    (try clear hb2)
    (try clear hk)
    (try clear hi)
    refine hK.out _ _ ⟨((HB.out.cell (World.block_lt_of_cell? w _ ((blk_cell Hg1_.out 2).trans rfl))).trans ((blk_cell Hg1_.out 2).trans rfl)),((HB.out.cell (World.block_lt_of_cell? w _ ((blk_cell Hg2_.out 2).trans rfl))).trans ((blk_cell Hg2_.out 2).trans rfl))⟩ (fun hHeld=>?_)
    clear hK K
    refine norm_ (a':=?_) ?_ ?_
    rotate_left
    ·show Act.put _ (some 12) _=_
     simp only [Act.put,List.setIfInBounds_toArray,List.set_cons_zero,List.set_cons_succ,i64_w,i32_w]
     rfl
    refine pure_ (i:=7) (N:=some 13) (v:=?_) (a':=?_) #[tt,tt,tt,tt,tt,tt,tt,tt,ff,ff,ff] rfl rfl (any_of HT_.out (by kernel_rfl)) (fun _ _ _ h=>h) (Or.inl ⟨by rfl,?_⟩) ?_ ?_
    rotate_left
    ·intro w'
     go_simp
     with_reducible rfl
    rotate_left
    ·simp only [Act.put,List.setIfInBounds_toArray,List.set_cons_zero,List.set_cons_succ,i64_w,i32_w]
     rfl
    refine pure_ (i:=8) (N:=some 14) (v:=?_) (a':=?_) #[tt,tt,tt,tt,tt,tt,tt,tt,tt,ff,ff] rfl rfl (any_of HT_.out (by kernel_rfl)) (fun _ _ _ h=>h) (Or.inl ⟨by rfl,?_⟩) ?_ ?_
    rotate_left
    ·intro w'
     go_simp
     with_reducible rfl
    rotate_left
    ·simp only [Act.put,List.setIfInBounds_toArray,List.set_cons_zero,List.set_cons_succ,i64_w,i32_w]
     rfl
    refine pure_ (i:=9) (N:=some 4) (v:=?_) (a':=?_) #[tt,tt,tt,tt,tt,tt,tt,tt,tt,tt,ff] rfl rfl (any_of HT_.out (by kernel_rfl)) (fun _ _ _ h=>h) (Or.inl ⟨by rfl,?_⟩) ?_ ?_
    rotate_left
    ·intro w'
     go_simp
     with_reducible rfl
    rotate_left
    ·simp only [Act.put,List.setIfInBounds_toArray,List.set_cons_zero,List.set_cons_succ,i64_w,i32_w]
     rfl
    refine pure_ (i:=10) (N:=some 5) (v:=?_) (a':=?_) #[tt,tt,tt,tt,tt,tt,tt,tt,tt,tt,tt] rfl rfl (any_of HT_.out (by kernel_rfl)) (fun _ _ _ h=>h) (Or.inl ⟨by rfl,?_⟩) ?_ ?_
    rotate_left
    ·intro w'
     go_simp
     with_reducible rfl
    rotate_left
    ·simp only [Act.put,List.setIfInBounds_toArray,List.set_cons_zero,List.set_cons_succ,i64_w,i32_w]
     rfl
    refine done_ (done_of HT_.out (by kernel_rfl)) ?_
    try go_wp2
    go_ret2
    exact⟨by first|rfl|(simp [errW_none,errW_some]<;>rfl)|(simp [*,errW_none,errW_some]<;>rfl),by first|with_reducible exact HB.out|exact bl HB⟩
   ·rw [if_neg c12] at H
    have c12b0:(a0 == 2)=false:=beq_eq_false_iff_ne.mpr c12
    have c12b1:(a0 != 2)=true:=bne_iff_ne.mpr c12
    by_cases c16:0=0
    ·rw [if_pos c16] at H
     exact absurd H (by simp)
    ·exact absurd rfl c16
def vec_Add.f (a0_0:Int) (a0_1:Int) (a0_2:Int) (a1_0:Int) (a1_1:Int) (a1_2:Int):Option (Int × Int × Int × Bool):=(vec_each.f (fun i_=>vec_Add_1.f i_ a0_0 a0_1 a0_2 a1_0 a1_1 a1_2)).bind fun bt289=>(some (bt289.1,bt289.2.1,bt289.2.2.1,bt289.2.2.2))
set_option maxHeartbeats 8000000 in
set_option maxRecDepth 100000 in
theorem vec_Add.calls (a0_0:Int) (a0_1:Int) (a0_2:Int) (a1_0:Int) (a1_1:Int) (a1_2:Int) (r1:Int) (r2:Int) (r3:Int) (r4:Bool) (w:World) (h:vec_Add.f a0_0 a0_1 a0_2 a1_0 a1_1 a1_2=some (r1,r2,r3,r4)) :
  Calls Try.prog 27 #[.agg #[.int .i64 a0_0,.int .i64 a0_1,.int .i64 a0_2],.agg #[.int .i64 a1_0,.int .i64 a1_1,.int .i64 a1_2]] w fun e w'=>e=.returned (.tuple #[.agg #[.int .i64 r1,.int .i64 r2,.int .i64 r3],.bool r4])∧Below w.heap.size w w':=by
 have hu22:=Try.underlying22
 have HB:=Aside0.mk (Below.refl w.heap.size w)
 have H:((vec_each.f (fun i_=>vec_Add_1.f i_ a0_0 a0_1 a0_2 a1_0 a1_1 a1_2)).bind fun bt289=>(some (bt289.1,bt289.2.1,bt289.2.2.1,bt289.2.2.2)))=some (r1,r2,r3,r4):=h
 clear h
 replace H:=Option.bind_eq_some_iff.mp H
 obtain⟨⟨t289,t290,t291,t292⟩,A30,H⟩:=H
 replace H:(some (t289,t290,t291,t292))=some (r1,r2,r3,r4):=H
 have A3:=Aside0.mk A30
 clear A30
 simp only [Option.some.injEq,Prod.mk.injEq] at H
 obtain⟨rfl,rfl,rfl,rfl⟩:=H
 go_enter Try.func27,Try.ntmps27
 go_wp2_with (first|((with_reducible refine gate_dst (N:=2) rfl ?_);refine box_event ?hg (N:=2) ?hd (cs:=#[.int .i64 a0_0,.int .i64 a0_1,.int .i64 a0_2]) (t:=22) ?hr ?_;(case hd=>rfl);(case hg=>rfl);(case hr=>first|(go_simp;done)|(go_simp;rfl));intro gb286 hg w4 hbox hb;have n0_:=Aside0.mk (below_step (by first|with_reducible exact HB.out|exact bl HB) hb);have n1_:=Aside0.mk (hbox);have n2_:=Aside0.mk ((by rw [hg];exact(below_size (by first|with_reducible exact HB.out|exact bl HB)):w.heap.size≤gb286));have n3_:=Aside0.mk ((by rw [hg];exact(below_size (by first|with_reducible exact HB.out|exact bl HB)):w.heap.size≤gb286));clear HB;have HB:=n0_;have BK286:=n1_;have GW286:=n2_;have GE286:=n3_;clear n0_ n1_ n2_ n3_;clear hb hbox hg)|((with_reducible refine gate_dst (N:=3) rfl ?_);refine box_event ?hg (N:=3) ?hd (cs:=#[.int .i64 a1_0,.int .i64 a1_1,.int .i64 a1_2]) (t:=22) ?hr ?_;(case hd=>rfl);(case hg=>rfl);(case hr=>first|(go_simp;done)|(go_simp;rfl));intro gb287 hg w5 hbox hb;have n0_:=Aside0.mk (blk_below (bk BK286.out) hb);have n1_:=Aside0.mk (below_step (by repeat (first|with_reducible exact HB.out|exact bl HB|refine bs ?_ GE286)) hb);have n2_:=Aside0.mk (hbox);have n3_:=Aside0.mk ((by rw [hg];exact(below_size (by repeat (first|with_reducible exact HB.out|exact bl HB|refine bs ?_ GE286))):w.heap.size≤gb287));have n4_:=Aside0.mk ((by rw [hg];exact(below_size (by repeat (first|with_reducible exact HB.out|exact bl HB|refine bs ?_ GE286))):w.heap.size≤gb287));have n5_:=Aside0.mk ((by rw [hg];exact Nat.ne_of_lt (blk_lt (bk BK286.out)):gb286≠gb287));have n6_:=Aside0.mk ((by rw [hg];exact Nat.ne_of_gt (blk_lt (bk BK286.out)):gb287≠gb286));clear BK286;clear HB;have BK286:=n0_;have HB:=n1_;have BK287:=n2_;have GW287:=n3_;have GE287:=n4_;have NB286_287:=n5_;have NB287_286:=n6_;clear n0_ n1_ n2_ n3_ n4_ n5_ n6_;clear hb hbox hg)|((with_reducible refine gate_dst (N:=4) rfl ?_);refine box_event ?hg (N:=4) ?hd (cs:=#[.int .i64 0,.int .i64 0,.int .i64 0]) (t:=22) ?hr ?_;(case hd=>rfl);(case hg=>rfl);(case hr=>first|(go_simp;done)|(go_simp;rfl));intro gb288 hg w6 hbox hb;have n0_:=Aside0.mk (blk_below (bk BK286.out) hb);have n1_:=Aside0.mk (blk_below (bk BK287.out) hb);have n2_:=Aside0.mk (below_step (by repeat (first|with_reducible exact HB.out|exact bl HB|refine bs ?_ GE286|refine bs ?_ GE287)) hb);have n3_:=Aside0.mk (hbox);have n4_:=Aside0.mk ((by rw [hg];exact(below_size (by repeat (first|with_reducible exact HB.out|exact bl HB|refine bs ?_ GE286|refine bs ?_ GE287))):w.heap.size≤gb288));have n5_:=Aside0.mk ((by rw [hg];exact(below_size (by repeat (first|with_reducible exact HB.out|exact bl HB|refine bs ?_ GE286|refine bs ?_ GE287))):w.heap.size≤gb288));have n6_:=Aside0.mk ((by rw [hg];exact Nat.ne_of_lt (blk_lt (bk BK286.out)):gb286≠gb288));have n7_:=Aside0.mk ((by rw [hg];exact Nat.ne_of_gt (blk_lt (bk BK286.out)):gb288≠gb286));have n8_:=Aside0.mk ((by rw [hg];exact Nat.ne_of_lt (blk_lt (bk BK287.out)):gb287≠gb288));have n9_:=Aside0.mk ((by rw [hg];exact Nat.ne_of_gt (blk_lt (bk BK287.out)):gb288≠gb287));clear BK286;clear BK287;clear HB;have BK286:=n0_;have BK287:=n1_;have HB:=n2_;have BK288:=n3_;have GW288:=n4_;have GE288:=n5_;have NB286_288:=n6_;have NB288_286:=n7_;have NB287_288:=n8_;have NB288_287:=n9_;clear n0_ n1_ n2_ n3_ n4_ n5_ n6_ n7_ n8_ n9_;clear hb hbox hg)|((with_reducible refine gate_callee (f:=40) rfl ?_);refine goesL_ (some 7) rfl rfl Try.func40 (by kernel_rfl) rfl #[.func (.func 48) #[] #[.pointer (some ⟨gb286,0,none⟩),.pointer (some ⟨gb287,0,none⟩)]] rfl (by exact mA _ _) ?_;(refine(vec_each.calls (fun i_=>vec_Add_1.f i_ a0_0 a0_1 a0_2 a1_0 a1_1 a1_2) 48 #[] #[.pointer (some ⟨gb286,0,none⟩),.pointer (some ⟨gb287,0,none⟩)]  t289 t290 t291 t292 _ (enters_of Try.func48 (by kernel_rfl) rfl) ⟨fun i_ r1_ r2_ W_ hb_ hf_=>calls_of_args (by simp) (vec_Add_1.calls i_ a0_0 a0_1 a0_2 a1_0 a1_1 a1_2 r1_ r2_ W_ gb286 gb287 ⟨blk_below (bk BK286.out) hb_⟩ ⟨blk_below (bk BK287.out) hb_⟩ hf_)⟩ A3.out).mono ?_);rintro e w7 ⟨rfl,hb⟩;refine⟨_,rfl,?_⟩;have n0_:=Aside0.mk (blk_below (bk BK286.out) hb);have n1_:=Aside0.mk (blk_below (bk BK287.out) hb);have n2_:=Aside0.mk (blk_below (bk BK288.out) hb);have n3_:=Aside0.mk (below_step (by repeat (first|with_reducible exact HB.out|exact bl HB|refine bs ?_ GE286|refine bs ?_ GE287|refine bs ?_ GE288)) hb);clear BK286;clear BK287;clear BK288;clear HB;have BK286:=n0_;have BK287:=n1_;have BK288:=n2_;have HB:=n3_;clear n0_ n1_ n2_ n3_;(try clear hb);(try clear hb2);(try clear hk);(try clear hi);have hnb8:=NB288_286.out;have hnc8:=NB286_288.out;have hnb9:=NB288_287.out;have hnc9:=NB287_288.out;have hcz10_0:w7.cell? ⟨gb288,0,none⟩=some (.int .i64 0):=(blk_cell BK288.out 0).trans rfl;have hcz10_1:w7.cell? ⟨gb288,1,none⟩=some (.int .i64 0):=(blk_cell BK288.out 1).trans rfl;have hcz10_2:w7.cell? ⟨gb288,2,none⟩=some (.int .i64 0):=(blk_cell BK288.out 2).trans rfl;have hfz10_0:=blk_frozen BK288.out 0;have hfz10_1:=blk_frozen BK288.out 1;have hfz10_2:=blk_frozen BK288.out 2))
 refine bodyPost_ret (results_ct rfl _ _ gb288 22 #[.int .i64 t289,.int .i64 t290,.int .i64 t291] (0,0) _ rfl (by try refine bk ?_;refine blk_put (cs:=#[.int .i64 t289,.int .i64 t290,.int .i64 0]) ?_ 2 _ rfl;try refine bk ?_;refine blk_put (cs:=#[.int .i64 t289,.int .i64 0,.int .i64 0]) ?_ 1 _ rfl;try refine bk ?_;refine blk_put (cs:=#[.int .i64 0,.int .i64 0,.int .i64 0]) ?_ 0 _ rfl;try refine bk ?_;exact BK288.out) Try.underlying22 rfl (by kernel_rfl)) rfl ?_
 exact⟨by first|rfl|(simp [errW_none,errW_some]<;>rfl)|(simp [*,errW_none,errW_some]<;>rfl),by repeat (first|with_reducible exact HB.out|exact bl HB|refine bs ?_ GE286|refine bs ?_ GE287|refine bs ?_ GE288)⟩
end Go.Proofs.Ytonfobdknnlbjaa.B
end
section
set_option linter.unusedVariables false
set_option linter.unusedSimpArgs false
namespace Go.Proofs.Ytonfobdknnlbjaa.B
open Go Go.Proofs Go.RowKit Go.Proofs.YtonfobdknnlbjaaW.PrintWords Go.Proofs.YtonfobdknnlbjaaW.PrintLast Go.Proofs.YtonfobdknnlbjaaW.PrintMore
theorem goesF_ {P:Program} {ops:Array Oper} {rest:List Oper} {oi:Oper} {a:Act} {w:World} {Q:Exit→Act→World→Prop} (N:Option Tmp) (hd:oi.dst=N) (hg:oi.guard=none) {g:FuncId} {x:Operand} {pre lb:Array Value} {xs:Array Operand} {ts:Array TypeId}
  (eg:∀ args w,(callFunc g args).run P w=.ok (.enter g args) w) (args:Array Value)
  (hop:oi.op=.call { callee:=.value x,args:=xs,argTypes:=ts }) (hx:a.eval x=.func (.func g) pre lb) (hargs:xs.map a.eval=args)
  (h:Calls P g (pre++args++lb) w fun e w'=>∃ v,e=.returned v∧wpList P ops Q rest (a.put N v) w'):wpList P ops Q (oi :: rest) a w:=by
 refine wpList_plain hg fun K hK=>?_
 have he:=eg (pre++args++lb) w
 have hrun:(execOp a.eval oi).run P w=.ok (.enter g (pre++args++lb)) w:=by
  unfold execOp
  rw [Array.append_assoc] at he ⊢
  simp [hop,resolve,Deferred.ofValue,invoke,hx,hargs,he]
 unfold Oper.wp
 rw [hrun,Oper.upon_enter]
 refine h.mono fun e w'' hh=>?_
 obtain⟨v,rfl,hk⟩:=hh
 subst hd
 exact hK _ _ hk
end Go.Proofs.Ytonfobdknnlbjaa.B
end
