/- Lemmas of the rows, laid by a program. -/
import Derived.Test.YtonfobdknnlbjaaYM1
import Derived.Shelf.Abstract
section
set_option linter.unusedVariables false
set_option linter.unusedSimpArgs false
namespace Go.Proofs.Ytonfobdknnlbjaa.B
open Go.RowKit Go.Proofs.YtonfobdknnlbjaaW.PrintWords Go.Proofs.YtonfobdknnlbjaaW.PrintLast Go.Proofs.YtonfobdknnlbjaaW.PrintMore
attribute [local go_sem] max2_int min2_int max_two min_two max_three min_three max_four min_four
set_option linter.unusedVariables false
set_option linter.unusedSimpArgs false
attribute [local go_sem high] eqA59
def vec_Sub_1.f (a0:Int) (a1_0:Int) (a1_1:Int) (a1_2:Int) (a2_0:Int) (a2_1:Int) (a2_2:Int):Option (Int × Bool):=if a0=0 then ((fix_Sub.f a1_0 a2_0).bind fun bt134=>(some (bt134.1,bt134.2))) else (if a0=1 then ((fix_Sub.f a1_1 a2_1).bind fun bt136=>(some (bt136.1,bt136.2))) else (if a0=2 then ((fix_Sub.f a1_2 a2_2).bind fun bt138=>(some (bt138.1,bt138.2))) else (if 0=0 then (none) else (some (0,false)))))
def vec_Sub_1.T1:Bool × List (List Nat × List Nat):=(true,[([],[]),([0],[0]),([1],[1]),([],[]),([3],[3]),([4],[4]),([2,5],[2,5]),([6],[6]),([6],[6]),([7,6,0,1,2,3,4,5,6,7,8],[7]),([8,9,0,1,2,3,4,5,6,7,8,9],[8])])
def vec_Sub_1.B1:List Nat:=[0,1,3,0,8,24,63,127,127,511,1023]
theorem vec_Sub_1.tab1:rtab .any (opsOf Try.f41 1)=vec_Sub_1.T1:=by kernel_rfl
theorem vec_Sub_1.bits1:waitsOk vec_Sub_1.T1.2 vec_Sub_1.B1=true:=by kernel_rfl
set_option maxHeartbeats 8000000 in
set_option maxRecDepth 100000 in
theorem vec_Sub_1.calls (a0:Int) (a1_0:Int) (a1_1:Int) (a1_2:Int) (a2_0:Int) (a2_1:Int) (a2_2:Int) (r1:Int) (r2:Bool) (w:World) (g1_ g2_:Nat) (Hg1_:Aside0 (w.heap[g1_]? = some (.cells #[.int .i64 a1_0,.int .i64 a1_1,.int .i64 a1_2] 22 (0,0)))) (Hg2_:Aside0 (w.heap[g2_]? = some (.cells #[.int .i64 a2_0,.int .i64 a2_1,.int .i64 a2_2] 22 (0,0)))) (h:vec_Sub_1.f a0 a1_0 a1_1 a1_2 a2_0 a2_1 a2_2=some (r1,r2)) :
  Calls Try.prog 41 #[.int .i64 a0,.pointer (some ⟨g1_,0,none⟩),.pointer (some ⟨g2_,0,none⟩)] w fun e w'=>e=.returned (.tuple #[.int .i64 r1,.bool r2])∧Below w.heap.size w w':=by
 have HB:=Aside0.mk (Below.refl w.heap.size w)
 have H:(if a0=0 then ((fix_Sub.f a1_0 a2_0).bind fun bt134=>(some (bt134.1,bt134.2))) else (if a0=1 then ((fix_Sub.f a1_1 a2_1).bind fun bt136=>(some (bt136.1,bt136.2))) else (if a0=2 then ((fix_Sub.f a1_2 a2_2).bind fun bt138=>(some (bt138.1,bt138.2))) else (if 0=0 then (none) else (some (0,false))))))=some (r1,r2):=h
 clear h
 by_cases c4:a0=0
 ·rw [if_pos c4] at H
  subst c4
  replace H:=Option.bind_eq_some_iff.mp H
  obtain⟨⟨t134,t135⟩,A50,H⟩:=H
  replace H:(some (t134,t135))=some (r1,r2):=H
  have A5:=Aside0.mk A50
  clear A50
  simp only [Option.some.injEq,Prod.mk.injEq] at H
  obtain⟨rfl,rfl⟩:=H
  go_enter Try.func41,Try.ntmps41
  try go_wp2
  have n0_:=Aside0.mk (below_drew1 HB.out)
  clear HB
  have HB:=n0_
  clear n0_
  refine start_ (n:=11) (S:=fun w'=>w'.cell? ⟨g1_,0,none⟩=some (.int .i64 a1_0)∧w'.cell? ⟨g2_,0,none⟩=some (.int .i64 a2_0)) (ds:=[]) #[ff,ff,ff,ff,ff,ff,ff,ff,ff,ff,ff] (by kernel_rfl) rfl rfl ⟨((HB.out.cell (World.block_lt_of_cell? w _ ((blk_cell Hg1_.out 0).trans rfl))).trans ((blk_cell Hg1_.out 0).trans rfl)),((HB.out.cell (World.block_lt_of_cell? w _ ((blk_cell Hg2_.out 0).trans rfl))).trans ((blk_cell Hg2_.out 0).trans rfl))⟩ (fun hHeld=>?_);refine with_tabW vec_Sub_1.tab1 vec_Sub_1.bits1 (fun HT_ HW_=>?_)
  generalize w.drew=w6 at HB hHeld ⊢
  refine pure_ (i:=0) (N:=some 6) (v:=?_) (a':=?_) #[tt,ff,ff,ff,ff,ff,ff,ff,ff,ff,ff] rfl rfl (any_of HT_.out (by kernel_rfl)) (fun _ _ _ h=>h) (Or.inl ⟨by rfl,?_⟩) ?_ ?_
  rotate_left
  ·intro w'
   go_simp
   with_reducible rfl
  rotate_left
  ·simp only [Act.put,List.setIfInBounds_toArray,List.set_cons_zero,List.set_cons_succ,i64_w,i32_w]
   rfl
  refine pure_ (i:=1) (N:=some 7) (v:=?_) (a':=?_) #[tt,tt,ff,ff,ff,ff,ff,ff,ff,ff,ff] rfl rfl (any_of HT_.out (by kernel_rfl)) (fun _ _ _ h=>h) (Or.inl ⟨by rfl,?_⟩) ?_ ?_
  rotate_left
  ·intro w'
   go_simp
   with_reducible rfl
  rotate_left
  ·simp only [Act.put,List.setIfInBounds_toArray,List.set_cons_zero,List.set_cons_succ,i64_w,i32_w]
   rfl
  refine take_ (i:=2) (N:=some 8) (v:=?_) (a':=?_) #[tt,tt,tt,ff,ff,ff,ff,ff,ff,ff,ff] rfl rfl (take_ofW HT_.out HW_.out (by kernel_rfl)) (fun _ _ _ h=>h) (Or.inl ⟨by rfl,?_⟩) hHeld ?_ ?_
  rotate_left
  ·rintro w' ⟨s0,s1⟩
   go_simp
   with_reducible rfl
  rotate_left
  ·simp only [Act.put,List.setIfInBounds_toArray,List.set_cons_zero,List.set_cons_succ,i64_w,i32_w]
   rfl
  refine pure_ (i:=3) (N:=some 9) (v:=?_) (a':=?_) #[tt,tt,tt,tt,ff,ff,ff,ff,ff,ff,ff] rfl rfl (any_of HT_.out (by kernel_rfl)) (fun _ _ _ h=>h) (Or.inl ⟨by rfl,?_⟩) ?_ ?_
  rotate_left
  ·intro w'
   go_simp
   with_reducible rfl
  rotate_left
  ·simp only [Act.put,List.setIfInBounds_toArray,List.set_cons_zero,List.set_cons_succ,i64_w,i32_w]
   rfl
  refine pure_ (i:=4) (N:=some 10) (v:=?_) (a':=?_) #[tt,tt,tt,tt,tt,ff,ff,ff,ff,ff,ff] rfl rfl (any_of HT_.out (by kernel_rfl)) (fun _ _ _ h=>h) (Or.inl ⟨by rfl,?_⟩) ?_ ?_
  rotate_left
  ·intro w'
   go_simp
   with_reducible rfl
  rotate_left
  ·simp only [Act.put,List.setIfInBounds_toArray,List.set_cons_zero,List.set_cons_succ,i64_w,i32_w]
   rfl
  refine take_ (i:=5) (N:=some 11) (v:=?_) (a':=?_) #[tt,tt,tt,tt,tt,tt,ff,ff,ff,ff,ff] rfl rfl (take_ofW HT_.out HW_.out (by kernel_rfl)) (fun _ _ _ h=>h) (Or.inl ⟨by rfl,?_⟩) hHeld ?_ ?_
  rotate_left
  ·rintro w' ⟨s0,s1⟩
   go_simp
   with_reducible rfl
  rotate_left
  ·simp only [Act.put,List.setIfInBounds_toArray,List.set_cons_zero,List.set_cons_succ,i64_w,i32_w]
   rfl
  refine one_ (i:=6) (N:=some 12) #[tt,tt,tt,tt,tt,tt,tt,ff,ff,ff,ff] rfl rfl (one_of HT_.out (by kernel_rfl)) (by decide) (fun K hK=>?_)
  refine goes_ Try.func18 (by kernel_rfl) rfl #[.int .i64 a1_0,.int .i64 a2_0] (by rfl) rfl rfl (by exact mA _ _) ?_
  with_reducible refine(fix_Sub.calls a1_0 a2_0 t134 t135 _ A5.out).mono ?_
  rintro e w7 ⟨rfl,hb⟩
  refine⟨_,rfl,?_⟩
  have n0_:=Aside0.mk (below_step (by first|with_reducible exact HB.out|exact bl HB) hb)
  clear HB
  have HB:=n0_
  clear n0_
  (try clear hb)
  (try clear hb2)
  (try clear hk)
  (try clear hi)
  refine hK.out _ _ ⟨((HB.out.cell (World.block_lt_of_cell? w _ ((blk_cell Hg1_.out 0).trans rfl))).trans ((blk_cell Hg1_.out 0).trans rfl)),((HB.out.cell (World.block_lt_of_cell? w _ ((blk_cell Hg2_.out 0).trans rfl))).trans ((blk_cell Hg2_.out 0).trans rfl))⟩ (fun hHeld=>?_)
  clear hK K
  refine norm_ (a':=?_) ?_ ?_
  rotate_left
  ·show Act.put _ (some 12) _=_
   simp only [Act.put,List.setIfInBounds_toArray,List.set_cons_zero,List.set_cons_succ,i64_w,i32_w]
   rfl
  refine pure_ (i:=7) (N:=some 13) (v:=?_) (a':=?_) #[tt,tt,tt,tt,tt,tt,tt,tt,ff,ff,ff] rfl rfl (any_of HT_.out (by kernel_rfl)) (fun _ _ _ h=>h) (Or.inl ⟨by rfl,?_⟩) ?_ ?_
  rotate_left
  ·intro w'
   go_simp
   with_reducible rfl
  rotate_left
  ·simp only [Act.put,List.setIfInBounds_toArray,List.set_cons_zero,List.set_cons_succ,i64_w,i32_w]
   rfl
  refine pure_ (i:=8) (N:=some 14) (v:=?_) (a':=?_) #[tt,tt,tt,tt,tt,tt,tt,tt,tt,ff,ff] rfl rfl (any_of HT_.out (by kernel_rfl)) (fun _ _ _ h=>h) (Or.inl ⟨by rfl,?_⟩) ?_ ?_
  rotate_left
  ·intro w'
   go_simp
   with_reducible rfl
  rotate_left
  ·simp only [Act.put,List.setIfInBounds_toArray,List.set_cons_zero,List.set_cons_succ,i64_w,i32_w]
   rfl
  refine pure_ (i:=9) (N:=some 4) (v:=?_) (a':=?_) #[tt,tt,tt,tt,tt,tt,tt,tt,tt,tt,ff] rfl rfl (any_of HT_.out (by kernel_rfl)) (fun _ _ _ h=>h) (Or.inl ⟨by rfl,?_⟩) ?_ ?_
  rotate_left
  ·intro w'
   go_simp
   with_reducible rfl
  rotate_left
  ·simp only [Act.put,List.setIfInBounds_toArray,List.set_cons_zero,List.set_cons_succ,i64_w,i32_w]
   rfl
  refine pure_ (i:=10) (N:=some 5) (v:=?_) (a':=?_) #[tt,tt,tt,tt,tt,tt,tt,tt,tt,tt,tt] rfl rfl (any_of HT_.out (by kernel_rfl)) (fun _ _ _ h=>h) (Or.inl ⟨by rfl,?_⟩) ?_ ?_
  rotate_left
  ·intro w'
   go_simp
   with_reducible rfl
  rotate_left
  ·simp only [Act.put,List.setIfInBounds_toArray,List.set_cons_zero,List.set_cons_succ,i64_w,i32_w]
   rfl
  refine done_ (done_of HT_.out (by kernel_rfl)) ?_
  try go_wp2
  go_ret2
  exact⟨by first|rfl|(simp [errW_none,errW_some]<;>rfl)|(simp [*,errW_none,errW_some]<;>rfl),by first|with_reducible exact HB.out|exact bl HB⟩
 ·rw [if_neg c4] at H
  have c4b0:(a0 == 0)=false:=beq_eq_false_iff_ne.mpr c4
  have c4b1:(a0 != 0)=true:=bne_iff_ne.mpr c4
  by_cases c8:a0=1
  ·rw [if_pos c8] at H
   subst c8
   replace H:=Option.bind_eq_some_iff.mp H
   obtain⟨⟨t136,t137⟩,A90,H⟩:=H
   replace H:(some (t136,t137))=some (r1,r2):=H
   have A9:=Aside0.mk A90
   clear A90
   simp only [Option.some.injEq,Prod.mk.injEq] at H
   obtain⟨rfl,rfl⟩:=H
   go_enter Try.func41,Try.ntmps41
   try go_wp2
   have n0_:=Aside0.mk (below_drew1 HB.out)
   clear HB
   have HB:=n0_
   clear n0_
   refine start_ (n:=11) (S:=fun w'=>w'.cell? ⟨g1_,1,none⟩=some (.int .i64 a1_1)∧w'.cell? ⟨g2_,1,none⟩=some (.int .i64 a2_1)) (ds:=[]) #[ff,ff,ff,ff,ff,ff,ff,ff,ff,ff,ff] (by kernel_rfl) rfl rfl ⟨((HB.out.cell (World.block_lt_of_cell? w _ ((blk_cell Hg1_.out 1).trans rfl))).trans ((blk_cell Hg1_.out 1).trans rfl)),((HB.out.cell (World.block_lt_of_cell? w _ ((blk_cell Hg2_.out 1).trans rfl))).trans ((blk_cell Hg2_.out 1).trans rfl))⟩ (fun hHeld=>?_);refine with_tabW vec_Sub_1.tab1 vec_Sub_1.bits1 (fun HT_ HW_=>?_)
   generalize w.drew=w10 at HB hHeld ⊢
   refine pure_ (i:=0) (N:=some 6) (v:=?_) (a':=?_) #[tt,ff,ff,ff,ff,ff,ff,ff,ff,ff,ff] rfl rfl (any_of HT_.out (by kernel_rfl)) (fun _ _ _ h=>h) (Or.inl ⟨by rfl,?_⟩) ?_ ?_
   rotate_left
   ·intro w'
    go_simp
    with_reducible rfl
   rotate_left
   ·simp only [Act.put,List.setIfInBounds_toArray,List.set_cons_zero,List.set_cons_succ,i64_w,i32_w]
    rfl
   refine pure_ (i:=1) (N:=some 7) (v:=?_) (a':=?_) #[tt,tt,ff,ff,ff,ff,ff,ff,ff,ff,ff] rfl rfl (any_of HT_.out (by kernel_rfl)) (fun _ _ _ h=>h) (Or.inl ⟨by rfl,?_⟩) ?_ ?_
   rotate_left
   ·intro w'
    go_simp
    with_reducible rfl
   rotate_left
   ·simp only [Act.put,List.setIfInBounds_toArray,List.set_cons_zero,List.set_cons_succ,i64_w,i32_w]
    rfl
   refine take_ (i:=2) (N:=some 8) (v:=?_) (a':=?_) #[tt,tt,tt,ff,ff,ff,ff,ff,ff,ff,ff] rfl rfl (take_ofW HT_.out HW_.out (by kernel_rfl)) (fun _ _ _ h=>h) (Or.inl ⟨by rfl,?_⟩) hHeld ?_ ?_
   rotate_left
   ·rintro w' ⟨s0,s1⟩
    go_simp
    with_reducible rfl
   rotate_left
   ·simp only [Act.put,List.setIfInBounds_toArray,List.set_cons_zero,List.set_cons_succ,i64_w,i32_w]
    rfl
   refine pure_ (i:=3) (N:=some 9) (v:=?_) (a':=?_) #[tt,tt,tt,tt,ff,ff,ff,ff,ff,ff,ff] rfl rfl (any_of HT_.out (by kernel_rfl)) (fun _ _ _ h=>h) (Or.inl ⟨by rfl,?_⟩) ?_ ?_
   rotate_left
   ·intro w'
    go_simp
    with_reducible rfl
   rotate_left
   ·simp only [Act.put,List.setIfInBounds_toArray,List.set_cons_zero,List.set_cons_succ,i64_w,i32_w]
    rfl
   refine pure_ (i:=4) (N:=some 10) (v:=?_) (a':=?_) #[tt,tt,tt,tt,tt,ff,ff,ff,ff,ff,ff] rfl rfl (any_of HT_.out (by kernel_rfl)) (fun _ _ _ h=>h) (Or.inl ⟨by rfl,?_⟩) ?_ ?_
   rotate_left
   ·intro w'
    go_simp
    with_reducible rfl
   rotate_left
   ·simp only [Act.put,List.setIfInBounds_toArray,List.set_cons_zero,List.set_cons_succ,i64_w,i32_w]
    rfl
   refine take_ (i:=5) (N:=some 11) (v:=?_) (a':=?_) #[tt,tt,tt,tt,tt,tt,ff,ff,ff,ff,ff] rfl rfl (take_ofW HT_.out HW_.out (by kernel_rfl)) (fun _ _ _ h=>h) (Or.inl ⟨by rfl,?_⟩) hHeld ?_ ?_
   rotate_left
   ·rintro w' ⟨s0,s1⟩
    go_simp
    with_reducible rfl
   rotate_left
   ·simp only [Act.put,List.setIfInBounds_toArray,List.set_cons_zero,List.set_cons_succ,i64_w,i32_w]
    rfl
   refine one_ (i:=6) (N:=some 12) #[tt,tt,tt,tt,tt,tt,tt,ff,ff,ff,ff] rfl rfl (one_of HT_.out (by kernel_rfl)) (by decide) (fun K hK=>?_)
   refine goes_ Try.func18 (by kernel_rfl) rfl #[.int .i64 a1_1,.int .i64 a2_1] (by rfl) rfl rfl (by exact mA _ _) ?_
   with_reducible refine(fix_Sub.calls a1_1 a2_1 t136 t137 _ A9.out).mono ?_
   rintro e w11 ⟨rfl,hb⟩
   refine⟨_,rfl,?_⟩
   have n0_:=Aside0.mk (below_step (by first|with_reducible exact HB.out|exact bl HB) hb)
   clear HB
   have HB:=n0_
   clear n0_
   (try clear hb)
   (try clear hb2)
   (try clear hk)
   (try clear hi)
   refine hK.out _ _ ⟨((HB.out.cell (World.block_lt_of_cell? w _ ((blk_cell Hg1_.out 1).trans rfl))).trans ((blk_cell Hg1_.out 1).trans rfl)),((HB.out.cell (World.block_lt_of_cell? w _ ((blk_cell Hg2_.out 1).trans rfl))).trans ((blk_cell Hg2_.out 1).trans rfl))⟩ (fun hHeld=>?_)
   clear hK K
   refine norm_ (a':=?_) ?_ ?_
   rotate_left
   ·show Act.put _ (some 12) _=_
    simp only [Act.put,List.setIfInBounds_toArray,List.set_cons_zero,List.set_cons_succ,i64_w,i32_w]
    rfl
   refine pure_ (i:=7) (N:=some 13) (v:=?_) (a':=?_) #[tt,tt,tt,tt,tt,tt,tt,tt,ff,ff,ff] rfl rfl (any_of HT_.out (by kernel_rfl)) (fun _ _ _ h=>h) (Or.inl ⟨by rfl,?_⟩) ?_ ?_
   rotate_left
   ·intro w'
    go_simp
    with_reducible rfl
   rotate_left
   ·simp only [Act.put,List.setIfInBounds_toArray,List.set_cons_zero,List.set_cons_succ,i64_w,i32_w]
    rfl
   refine pure_ (i:=8) (N:=some 14) (v:=?_) (a':=?_) #[tt,tt,tt,tt,tt,tt,tt,tt,tt,ff,ff] rfl rfl (any_of HT_.out (by kernel_rfl)) (fun _ _ _ h=>h) (Or.inl ⟨by rfl,?_⟩) ?_ ?_
   rotate_left
   ·intro w'
    go_simp
    with_reducible rfl
   rotate_left
   ·simp only [Act.put,List.setIfInBounds_toArray,List.set_cons_zero,List.set_cons_succ,i64_w,i32_w]
    rfl
   refine pure_ (i:=9) (N:=some 4) (v:=?_) (a':=?_) #[tt,tt,tt,tt,tt,tt,tt,tt,tt,tt,ff] rfl rfl (any_of HT_.out (by kernel_rfl)) (fun _ _ _ h=>h) (Or.inl ⟨by rfl,?_⟩) ?_ ?_
   rotate_left
   ·intro w'
    go_simp
    with_reducible rfl
   rotate_left
   ·simp only [Act.put,List.setIfInBounds_toArray,List.set_cons_zero,List.set_cons_succ,i64_w,i32_w]
    rfl
   refine pure_ (i:=10) (N:=some 5) (v:=?_) (a':=?_) #[tt,tt,tt,tt,tt,tt,tt,tt,tt,tt,tt] rfl rfl (any_of HT_.out (by kernel_rfl)) (fun _ _ _ h=>h) (Or.inl ⟨by rfl,?_⟩) ?_ ?_
   rotate_left
   ·intro w'
    go_simp
    with_reducible rfl
   rotate_left
   ·simp only [Act.put,List.setIfInBounds_toArray,List.set_cons_zero,List.set_cons_succ,i64_w,i32_w]
    rfl
   refine done_ (done_of HT_.out (by kernel_rfl)) ?_
   try go_wp2
   go_ret2
   exact⟨by first|rfl|(simp [errW_none,errW_some]<;>rfl)|(simp [*,errW_none,errW_some]<;>rfl),by first|with_reducible exact HB.out|exact bl HB⟩
  ·rw [if_neg c8] at H
   have c8b0:(a0 == 1)=false:=beq_eq_false_iff_ne.mpr c8
   have c8b1:(a0 != 1)=true:=bne_iff_ne.mpr c8
   by_cases c12:a0=2
   ·rw [if_pos c12] at H
    subst c12
    replace H:=Option.bind_eq_some_iff.mp H
    obtain⟨⟨t138,t139⟩,A130,H⟩:=H
    replace H:(some (t138,t139))=some (r1,r2):=H
    have A13:=Aside0.mk A130
    clear A130
    simp only [Option.some.injEq,Prod.mk.injEq] at H
    obtain⟨rfl,rfl⟩:=H
    go_enter Try.func41,Try.ntmps41
    try go_wp2
    have n0_:=Aside0.mk (below_drew1 HB.out)
    clear HB
    have HB:=n0_
    clear n0_
    refine start_ (n:=11) (S:=fun w'=>w'.cell? ⟨g1_,2,none⟩=some (.int .i64 a1_2)∧w'.cell? ⟨g2_,2,none⟩=some (.int .i64 a2_2)) (ds:=[]) #[ff,ff,ff,ff,ff,ff,ff,ff,ff,ff,ff] (by kernel_rfl) rfl rfl ⟨((HB.out.cell (World.block_lt_of_cell? w _ ((blk_cell Hg1_.out 2).trans rfl))).trans ((blk_cell Hg1_.out 2).trans rfl)),((HB.out.cell (World.block_lt_of_cell? w _ ((blk_cell Hg2_.out 2).trans rfl))).trans ((blk_cell Hg2_.out 2).trans rfl))⟩ (fun hHeld=>?_);refine with_tabW vec_Sub_1.tab1 vec_Sub_1.bits1 (fun HT_ HW_=>?_)
    generalize w.drew=w14 at HB hHeld ⊢
    refine pure_ (i:=0) (N:=some 6) (v:=?_) (a':=?_) #[tt,ff,ff,ff,ff,ff,ff,ff,ff,ff,ff] rfl rfl (any_of HT_.out (by kernel_rfl)) (fun _ _ _ h=>h) (Or.inl ⟨by rfl,?_⟩) ?_ ?_
    rotate_left
    ·intro w'
     go_simp
     with_reducible rfl
    rotate_left
    ·simp only [Act.put,List.setIfInBounds_toArray,List.set_cons_zero,List.set_cons_succ,i64_w,i32_w]
     rfl
    refine pure_ (i:=1) (N:=some 7) (v:=?_) (a':=?_) #[tt,tt,ff,ff,ff,ff,ff,ff,ff,ff,ff] rfl rfl (any_of HT_.out (by kernel_rfl)) (fun _ _ _ h=>h) (Or.inl ⟨by rfl,?_⟩) ?_ ?_
    rotate_left
    ·intro w'
     go_simp
     with_reducible rfl
    rotate_left
    ·simp only [Act.put,List.setIfInBounds_toArray,List.set_cons_zero,List.set_cons_succ,i64_w,i32_w]
     rfl
    refine take_ (i:=2) (N:=some 8) (v:=?_) (a':=?_) #[tt,tt,tt,ff,ff,ff,ff,ff,ff,ff,ff] rfl rfl (take_ofW HT_.out HW_.out (by kernel_rfl)) (fun _ _ _ h=>h) (Or.inl ⟨by rfl,?_⟩) hHeld ?_ ?_
    rotate_left
    ·rintro w' ⟨s0,s1⟩
     go_simp
     with_reducible rfl
    rotate_left
    ·simp only [Act.put,List.setIfInBounds_toArray,List.set_cons_zero,List.set_cons_succ,i64_w,i32_w]
     rfl
    refine pure_ (i:=3) (N:=some 9) (v:=?_) (a':=?_) #[tt,tt,tt,tt,ff,ff,ff,ff,ff,ff,ff] rfl rfl (any_of HT_.out (by kernel_rfl)) (fun _ _ _ h=>h) (Or.inl ⟨by rfl,?_⟩) ?_ ?_
    rotate_left
    ·intro w'
     go_simp
     with_reducible rfl
    rotate_left
    ·simp only [Act.put,List.setIfInBounds_toArray,List.set_cons_zero,List.set_cons_succ,i64_w,i32_w]
     rfl
    refine pure_ (i:=4) (N:=some 10) (v:=?_) (a':=?_) #[tt,tt,tt,tt,tt,ff,ff,ff,ff,ff,ff] rfl rfl (any_of HT_.out (by kernel_rfl)) (fun _ _ _ h=>h) (Or.inl ⟨by rfl,?_⟩) ?_ ?_
    rotate_left
    ·intro w'
     go_simp
     with_reducible rfl
    rotate_left
    ·simp only [Act.put,List.setIfInBounds_toArray,List.set_cons_zero,List.set_cons_succ,i64_w,i32_w]
     rfl
    refine take_ (i:=5) (N:=some 11) (v:=?_) (a':=?_) #[tt,tt,tt,tt,tt,tt,ff,ff,ff,ff,ff] rfl rfl (take_ofW HT_.out HW_.out (by kernel_rfl)) (fun _ _ _ h=>h) (Or.inl ⟨by rfl,?_⟩) hHeld ?_ ?_
    rotate_left
    ·rintro w' ⟨s0,s1⟩
     go_simp
     with_reducible rfl
    rotate_left
    ·simp only [Act.put,List.setIfInBounds_toArray,List.set_cons_zero,List.set_cons_succ,i64_w,i32_w]
     rfl
    refine one_ (i:=6) (N:=some 12) #[tt,tt,tt,tt,tt,tt,tt,ff,ff,ff,ff] rfl rfl (one_of HT_.out (by kernel_rfl)) (by decide) (fun K hK=>?_)
    refine goes_ Try.func18 (by kernel_rfl) rfl #[.int .i64 a1_2,.int .i64 a2_2] (by rfl) rfl rfl (by exact mA _ _) ?_
    with_reducible refine(fix_Sub.calls a1_2 a2_2 t138 t139 _ A13.out).mono ?_
    rintro e w15 ⟨rfl,hb⟩
    refine⟨_,rfl,?_⟩
    have n0_:=Aside0.mk (below_step (by first|with_reducible exact HB.out|exact bl HB) hb)
    clear HB
    have HB:=n0_
    clear n0_
    (try clear hb)
    (try clear hb2)
    (try clear hk)
    (try clear hi)
    refine hK.out _ _ ⟨((HB.out.cell (World.block_lt_of_cell? w _ ((blk_cell Hg1_.out 2).trans rfl))).trans ((blk_cell Hg1_.out 2).trans rfl)),((HB.out.cell (World.block_lt_of_cell? w _ ((blk_cell Hg2_.out 2).trans rfl))).trans ((blk_cell Hg2_.out 2).trans rfl))⟩ (fun hHeld=>?_)
    clear hK K
    refine norm_ (a':=?_) ?_ ?_
    rotate_left
    ·show Act.put _ (some 12) _=_
     simp only [Act.put,List.setIfInBounds_toArray,List.set_cons_zero,List.set_cons_succ,i64_w,i32_w]
     rfl
    refine pure_ (i:=7) (N:=some 13) (v:=?_) (a':=?_) #[tt,tt,tt,tt,tt,tt,tt,tt,ff,ff,ff] rfl rfl (any_of HT_.out (by kernel_rfl)) (fun _ _ _ h=>h) (Or.inl ⟨by rfl,?_⟩) ?_ ?_
    rotate_left
    ·intro w'
     go_simp
     with_reducible rfl
    rotate_left
    ·simp only [Act.put,List.setIfInBounds_toArray,List.set_cons_zero,List.set_cons_succ,i64_w,i32_w]
     rfl
    refine pure_ (i:=8) (N:=some 14) (v:=?_) (a':=?_) #[tt,tt,tt,tt,tt,tt,tt,tt,tt,ff,ff] rfl rfl (any_of HT_.out (by kernel_rfl)) (fun _ _ _ h=>h) (Or.inl ⟨by rfl,?_⟩) ?_ ?_
    rotate_left
    ·intro w'
     go_simp
     with_reducible rfl
    rotate_left
    ·simp only [Act.put,List.setIfInBounds_toArray,List.set_cons_zero,List.set_cons_succ,i64_w,i32_w]
     rfl
    refine pure_ (i:=9) (N:=some 4) (v:=?_) (a':=?_) #[tt,tt,tt,tt,tt,tt,tt,tt,tt,tt,ff] rfl rfl (any_of HT_.out (by kernel_rfl)) (fun _ _ _ h=>h) (Or.inl ⟨by rfl,?_⟩) ?_ ?_
    rotate_left
    ·intro w'
     go_simp
     with_reducible rfl
    rotate_left
    ·simp only [Act.put,List.setIfInBounds_toArray,List.set_cons_zero,List.set_cons_succ,i64_w,i32_w]
     rfl
    refine pure_ (i:=10) (N:=some 5) (v:=?_) (a':=?_) #[tt,tt,tt,tt,tt,tt,tt,tt,tt,tt,tt] rfl rfl (any_of HT_.out (by kernel_rfl)) (fun _ _ _ h=>h) (Or.inl ⟨by rfl,?_⟩) ?_ ?_
    rotate_left
    ·intro w'
     go_simp
     with_reducible rfl
    rotate_left
    ·simp only [Act.put,List.setIfInBounds_toArray,List.set_cons_zero,List.set_cons_succ,i64_w,i32_w]
     rfl
    refine done_ (done_of HT_.out (by kernel_rfl)) ?_
    try go_wp2
    go_ret2
    exact⟨by first|rfl|(simp [errW_none,errW_some]<;>rfl)|(simp [*,errW_none,errW_some]<;>rfl),by first|with_reducible exact HB.out|exact bl HB⟩
   ·rw [if_neg c12] at H
    have c12b0:(a0 == 2)=false:=beq_eq_false_iff_ne.mpr c12
    have c12b1:(a0 != 2)=true:=bne_iff_ne.mpr c12
    by_cases c16:0=0
    ·rw [if_pos c16] at H
     exact absurd H (by simp)
    ·exact absurd rfl c16
def vec_Sub.f (a0_0:Int) (a0_1:Int) (a0_2:Int) (a1_0:Int) (a1_1:Int) (a1_2:Int):Option (Int × Int × Int × Bool):=(vec_each.f (fun i_=>vec_Sub_1.f i_ a0_0 a0_1 a0_2 a1_0 a1_1 a1_2)).bind fun bt143=>(some (bt143.1,bt143.2.1,bt143.2.2.1,bt143.2.2.2))
set_option maxHeartbeats 8000000 in
set_option maxRecDepth 100000 in
theorem vec_Sub.calls (a0_0:Int) (a0_1:Int) (a0_2:Int) (a1_0:Int) (a1_1:Int) (a1_2:Int) (r1:Int) (r2:Int) (r3:Int) (r4:Bool) (w:World) (h:vec_Sub.f a0_0 a0_1 a0_2 a1_0 a1_1 a1_2=some (r1,r2,r3,r4)) :
  Calls Try.prog 20 #[.agg #[.int .i64 a0_0,.int .i64 a0_1,.int .i64 a0_2],.agg #[.int .i64 a1_0,.int .i64 a1_1,.int .i64 a1_2]] w fun e w'=>e=.returned (.tuple #[.agg #[.int .i64 r1,.int .i64 r2,.int .i64 r3],.bool r4])∧Below w.heap.size w w':=by
 have hu22:=Try.underlying22
 have HB:=Aside0.mk (Below.refl w.heap.size w)
 have H:((vec_each.f (fun i_=>vec_Sub_1.f i_ a0_0 a0_1 a0_2 a1_0 a1_1 a1_2)).bind fun bt143=>(some (bt143.1,bt143.2.1,bt143.2.2.1,bt143.2.2.2)))=some (r1,r2,r3,r4):=h
 clear h
 replace H:=Option.bind_eq_some_iff.mp H
 obtain⟨⟨t143,t144,t145,t146⟩,A30,H⟩:=H
 replace H:(some (t143,t144,t145,t146))=some (r1,r2,r3,r4):=H
 have A3:=Aside0.mk A30
 clear A30
 simp only [Option.some.injEq,Prod.mk.injEq] at H
 obtain⟨rfl,rfl,rfl,rfl⟩:=H
 go_enter Try.func20,Try.ntmps20
 go_wp2_with (first|((with_reducible refine gate_dst (N:=2) rfl ?_);refine box_event ?hg (N:=2) ?hd (cs:=#[.int .i64 a0_0,.int .i64 a0_1,.int .i64 a0_2]) (t:=22) ?hr ?_;(case hd=>rfl);(case hg=>rfl);(case hr=>first|(go_simp;done)|(go_simp;rfl));intro gb140 hg w4 hbox hb;have n0_:=Aside0.mk (below_step (by first|with_reducible exact HB.out|exact bl HB) hb);have n1_:=Aside0.mk (hbox);have n2_:=Aside0.mk ((by rw [hg];exact(below_size (by first|with_reducible exact HB.out|exact bl HB)):w.heap.size≤gb140));have n3_:=Aside0.mk ((by rw [hg];exact(below_size (by first|with_reducible exact HB.out|exact bl HB)):w.heap.size≤gb140));clear HB;have HB:=n0_;have BK140:=n1_;have GW140:=n2_;have GE140:=n3_;clear n0_ n1_ n2_ n3_;clear hb hbox hg)|((with_reducible refine gate_dst (N:=3) rfl ?_);refine box_event ?hg (N:=3) ?hd (cs:=#[.int .i64 a1_0,.int .i64 a1_1,.int .i64 a1_2]) (t:=22) ?hr ?_;(case hd=>rfl);(case hg=>rfl);(case hr=>first|(go_simp;done)|(go_simp;rfl));intro gb141 hg w5 hbox hb;have n0_:=Aside0.mk (blk_below (bk BK140.out) hb);have n1_:=Aside0.mk (below_step (by repeat (first|with_reducible exact HB.out|exact bl HB|refine bs ?_ GE140)) hb);have n2_:=Aside0.mk (hbox);have n3_:=Aside0.mk ((by rw [hg];exact(below_size (by repeat (first|with_reducible exact HB.out|exact bl HB|refine bs ?_ GE140))):w.heap.size≤gb141));have n4_:=Aside0.mk ((by rw [hg];exact(below_size (by repeat (first|with_reducible exact HB.out|exact bl HB|refine bs ?_ GE140))):w.heap.size≤gb141));have n5_:=Aside0.mk ((by rw [hg];exact Nat.ne_of_lt (blk_lt (bk BK140.out)):gb140≠gb141));have n6_:=Aside0.mk ((by rw [hg];exact Nat.ne_of_gt (blk_lt (bk BK140.out)):gb141≠gb140));clear BK140;clear HB;have BK140:=n0_;have HB:=n1_;have BK141:=n2_;have GW141:=n3_;have GE141:=n4_;have NB140_141:=n5_;have NB141_140:=n6_;clear n0_ n1_ n2_ n3_ n4_ n5_ n6_;clear hb hbox hg)|((with_reducible refine gate_dst (N:=4) rfl ?_);refine box_event ?hg (N:=4) ?hd (cs:=#[.int .i64 0,.int .i64 0,.int .i64 0]) (t:=22) ?hr ?_;(case hd=>rfl);(case hg=>rfl);(case hr=>first|(go_simp;done)|(go_simp;rfl));intro gb142 hg w6 hbox hb;have n0_:=Aside0.mk (blk_below (bk BK140.out) hb);have n1_:=Aside0.mk (blk_below (bk BK141.out) hb);have n2_:=Aside0.mk (below_step (by repeat (first|with_reducible exact HB.out|exact bl HB|refine bs ?_ GE140|refine bs ?_ GE141)) hb);have n3_:=Aside0.mk (hbox);have n4_:=Aside0.mk ((by rw [hg];exact(below_size (by repeat (first|with_reducible exact HB.out|exact bl HB|refine bs ?_ GE140|refine bs ?_ GE141))):w.heap.size≤gb142));have n5_:=Aside0.mk ((by rw [hg];exact(below_size (by repeat (first|with_reducible exact HB.out|exact bl HB|refine bs ?_ GE140|refine bs ?_ GE141))):w.heap.size≤gb142));have n6_:=Aside0.mk ((by rw [hg];exact Nat.ne_of_lt (blk_lt (bk BK140.out)):gb140≠gb142));have n7_:=Aside0.mk ((by rw [hg];exact Nat.ne_of_gt (blk_lt (bk BK140.out)):gb142≠gb140));have n8_:=Aside0.mk ((by rw [hg];exact Nat.ne_of_lt (blk_lt (bk BK141.out)):gb141≠gb142));have n9_:=Aside0.mk ((by rw [hg];exact Nat.ne_of_gt (blk_lt (bk BK141.out)):gb142≠gb141));clear BK140;clear BK141;clear HB;have BK140:=n0_;have BK141:=n1_;have HB:=n2_;have BK142:=n3_;have GW142:=n4_;have GE142:=n5_;have NB140_142:=n6_;have NB142_140:=n7_;have NB141_142:=n8_;have NB142_141:=n9_;clear n0_ n1_ n2_ n3_ n4_ n5_ n6_ n7_ n8_ n9_;clear hb hbox hg)|((with_reducible refine gate_callee (f:=40) rfl ?_);refine goesL_ (some 7) rfl rfl Try.func40 (by kernel_rfl) rfl #[.func (.func 41) #[] #[.pointer (some ⟨gb140,0,none⟩),.pointer (some ⟨gb141,0,none⟩)]] rfl (by exact mA _ _) ?_;(refine(vec_each.calls (fun i_=>vec_Sub_1.f i_ a0_0 a0_1 a0_2 a1_0 a1_1 a1_2) 41 #[] #[.pointer (some ⟨gb140,0,none⟩),.pointer (some ⟨gb141,0,none⟩)]  t143 t144 t145 t146 _ (enters_of Try.func41 (by kernel_rfl) rfl) ⟨fun i_ r1_ r2_ W_ hb_ hf_=>calls_of_args (by simp) (vec_Sub_1.calls i_ a0_0 a0_1 a0_2 a1_0 a1_1 a1_2 r1_ r2_ W_ gb140 gb141 ⟨blk_below (bk BK140.out) hb_⟩ ⟨blk_below (bk BK141.out) hb_⟩ hf_)⟩ A3.out).mono ?_);rintro e w7 ⟨rfl,hb⟩;refine⟨_,rfl,?_⟩;have n0_:=Aside0.mk (blk_below (bk BK140.out) hb);have n1_:=Aside0.mk (blk_below (bk BK141.out) hb);have n2_:=Aside0.mk (blk_below (bk BK142.out) hb);have n3_:=Aside0.mk (below_step (by repeat (first|with_reducible exact HB.out|exact bl HB|refine bs ?_ GE140|refine bs ?_ GE141|refine bs ?_ GE142)) hb);clear BK140;clear BK141;clear BK142;clear HB;have BK140:=n0_;have BK141:=n1_;have BK142:=n2_;have HB:=n3_;clear n0_ n1_ n2_ n3_;(try clear hb);(try clear hb2);(try clear hk);(try clear hi);have hnb8:=NB142_140.out;have hnc8:=NB140_142.out;have hnb9:=NB142_141.out;have hnc9:=NB141_142.out;have hcz10_0:w7.cell? ⟨gb142,0,none⟩=some (.int .i64 0):=(blk_cell BK142.out 0).trans rfl;have hcz10_1:w7.cell? ⟨gb142,1,none⟩=some (.int .i64 0):=(blk_cell BK142.out 1).trans rfl;have hcz10_2:w7.cell? ⟨gb142,2,none⟩=some (.int .i64 0):=(blk_cell BK142.out 2).trans rfl;have hfz10_0:=blk_frozen BK142.out 0;have hfz10_1:=blk_frozen BK142.out 1;have hfz10_2:=blk_frozen BK142.out 2))
 refine bodyPost_ret (results_ct rfl _ _ gb142 22 #[.int .i64 t143,.int .i64 t144,.int .i64 t145] (0,0) _ rfl (by try refine bk ?_;refine blk_put (cs:=#[.int .i64 t143,.int .i64 t144,.int .i64 0]) ?_ 2 _ rfl;try refine bk ?_;refine blk_put (cs:=#[.int .i64 t143,.int .i64 0,.int .i64 0]) ?_ 1 _ rfl;try refine bk ?_;refine blk_put (cs:=#[.int .i64 0,.int .i64 0,.int .i64 0]) ?_ 0 _ rfl;try refine bk ?_;exact BK142.out) Try.underlying22 rfl (by kernel_rfl)) rfl ?_
 exact⟨by first|rfl|(simp [errW_none,errW_some]<;>rfl)|(simp [*,errW_none,errW_some]<;>rfl),by repeat (first|with_reducible exact HB.out|exact bl HB|refine bs ?_ GE140|refine bs ?_ GE141|refine bs ?_ GE142)⟩
def wide_Sane.f (a0_0:Int) (a0_1:Int):Option (Bool):=if a0_1 ≥ 0 then (if a0_1≤4611686018427387903 then (if a0_0 ≥ (-2305843009213693952) then (some (decide (a0_0<2305843009213693952))) else (some false)) else (some false)) else (some false)
set_option maxHeartbeats 8000000 in
set_option maxRecDepth 100000 in
theorem wide_Sane.calls (a0_0:Int) (a0_1:Int) (r:Bool) (w:World) (h:wide_Sane.f a0_0 a0_1=some r) :
  Calls Try.prog 79 #[.agg #[.int .i64 a0_0,.int .i64 a0_1]] w fun e w'=>e=.returned (.bool r)∧Below w.heap.size w w':=by
 have hu59:=Try.underlying59
 have HB:=Aside0.mk (Below.refl w.heap.size w)
 have H:(if a0_1 ≥ 0 then (if a0_1≤4611686018427387903 then (if a0_0 ≥ (-2305843009213693952) then (some (decide (a0_0<2305843009213693952))) else (some false)) else (some false)) else (some false))=some r:=h
 clear h
 by_cases c2:a0_1 ≥ 0
 ·rw [if_pos c2] at H
  have c2b0:decide (0≤a0_1)=true:=decide_eq_true c2
  clear c2
  by_cases c3:a0_1≤4611686018427387903
  ·rw [if_pos c3] at H
   have c3b0:decide (a0_1≤4611686018427387903)=true:=decide_eq_true c3
   clear c3
   by_cases c4:a0_0 ≥ (-2305843009213693952)
   ·rw [if_pos c4] at H
    have c4b0:decide ((-2305843009213693952)≤a0_0)=true:=decide_eq_true c4
    clear c4
    obtain rfl:=Option.some.inj H
    go_enter Try.func79,Try.ntmps79
    go_wp2_with (first|((with_reducible refine gate_dst (N:=1) rfl ?_);refine box_event ?hg (N:=1) ?hd (cs:=#[.int .i64 a0_0,.int .i64 a0_1]) (t:=59) ?hr ?_;(case hd=>rfl);(case hg=>rfl);(case hr=>first|(go_simp;done)|(go_simp;rfl));intro gb147 hg w5 hbox hb;have n0_:=Aside0.mk (below_step (by first|with_reducible exact HB.out|exact bl HB) hb);have n1_:=Aside0.mk (hbox);have n2_:=Aside0.mk ((by rw [hg];exact(below_size (by first|with_reducible exact HB.out|exact bl HB)):w.heap.size≤gb147));have n3_:=Aside0.mk ((by rw [hg];exact(below_size (by first|with_reducible exact HB.out|exact bl HB)):w.heap.size≤gb147));clear HB;have HB:=n0_;have BK147:=n1_;have GW147:=n2_;have GE147:=n3_;clear n0_ n1_ n2_ n3_;clear hb hbox hg;have hcz6_0:w5.cell? ⟨gb147,0,none⟩=some (.int .i64 a0_0):=(blk_cell BK147.out 0).trans rfl;have hcz6_1:w5.cell? ⟨gb147,1,none⟩=some (.int .i64 a0_1):=(blk_cell BK147.out 1).trans rfl;have hfz6_0:=blk_frozen BK147.out 0;have hfz6_1:=blk_frozen BK147.out 1))
    go_ret
    exact⟨by first|rfl|(simp [errW_none,errW_some]<;>rfl)|(simp [*,errW_none,errW_some]<;>rfl),by repeat (first|with_reducible exact HB.out|exact bl HB|refine bs ?_ GE147)⟩
   ·rw [if_neg c4] at H
    have c4b0:decide ((-2305843009213693952)≤a0_0)=false:=decide_eq_false c4
    clear c4
    obtain rfl:=Option.some.inj H
    go_enter Try.func79,Try.ntmps79
    go_wp2_with (first|((with_reducible refine gate_dst (N:=1) rfl ?_);refine box_event ?hg (N:=1) ?hd (cs:=#[.int .i64 a0_0,.int .i64 a0_1]) (t:=59) ?hr ?_;(case hd=>rfl);(case hg=>rfl);(case hr=>first|(go_simp;done)|(go_simp;rfl));intro gb147 hg w7 hbox hb;have n0_:=Aside0.mk (below_step (by first|with_reducible exact HB.out|exact bl HB) hb);have n1_:=Aside0.mk (hbox);have n2_:=Aside0.mk ((by rw [hg];exact(below_size (by first|with_reducible exact HB.out|exact bl HB)):w.heap.size≤gb147));have n3_:=Aside0.mk ((by rw [hg];exact(below_size (by first|with_reducible exact HB.out|exact bl HB)):w.heap.size≤gb147));clear HB;have HB:=n0_;have BK147:=n1_;have GW147:=n2_;have GE147:=n3_;clear n0_ n1_ n2_ n3_;clear hb hbox hg;have hcz8_0:w7.cell? ⟨gb147,0,none⟩=some (.int .i64 a0_0):=(blk_cell BK147.out 0).trans rfl;have hcz8_1:w7.cell? ⟨gb147,1,none⟩=some (.int .i64 a0_1):=(blk_cell BK147.out 1).trans rfl;have hfz8_0:=blk_frozen BK147.out 0;have hfz8_1:=blk_frozen BK147.out 1))
    go_ret
    exact⟨by first|rfl|(simp [errW_none,errW_some]<;>rfl)|(simp [*,errW_none,errW_some]<;>rfl),by repeat (first|with_reducible exact HB.out|exact bl HB|refine bs ?_ GE147)⟩
  ·rw [if_neg c3] at H
   have c3b0:decide (a0_1≤4611686018427387903)=false:=decide_eq_false c3
   clear c3
   obtain rfl:=Option.some.inj H
   go_enter Try.func79,Try.ntmps79
   go_wp2_with (first|((with_reducible refine gate_dst (N:=1) rfl ?_);refine box_event ?hg (N:=1) ?hd (cs:=#[.int .i64 a0_0,.int .i64 a0_1]) (t:=59) ?hr ?_;(case hd=>rfl);(case hg=>rfl);(case hr=>first|(go_simp;done)|(go_simp;rfl));intro gb147 hg w9 hbox hb;have n0_:=Aside0.mk (below_step (by first|with_reducible exact HB.out|exact bl HB) hb);have n1_:=Aside0.mk (hbox);have n2_:=Aside0.mk ((by rw [hg];exact(below_size (by first|with_reducible exact HB.out|exact bl HB)):w.heap.size≤gb147));have n3_:=Aside0.mk ((by rw [hg];exact(below_size (by first|with_reducible exact HB.out|exact bl HB)):w.heap.size≤gb147));clear HB;have HB:=n0_;have BK147:=n1_;have GW147:=n2_;have GE147:=n3_;clear n0_ n1_ n2_ n3_;clear hb hbox hg;have hcz10_0:w9.cell? ⟨gb147,0,none⟩=some (.int .i64 a0_0):=(blk_cell BK147.out 0).trans rfl;have hcz10_1:w9.cell? ⟨gb147,1,none⟩=some (.int .i64 a0_1):=(blk_cell BK147.out 1).trans rfl;have hfz10_0:=blk_frozen BK147.out 0;have hfz10_1:=blk_frozen BK147.out 1))
   go_ret
   exact⟨by first|rfl|(simp [errW_none,errW_some]<;>rfl)|(simp [*,errW_none,errW_some]<;>rfl),by repeat (first|with_reducible exact HB.out|exact bl HB|refine bs ?_ GE147)⟩
 ·rw [if_neg c2] at H
  have c2b0:decide (0≤a0_1)=false:=decide_eq_false c2
  clear c2
  obtain rfl:=Option.some.inj H
  go_enter Try.func79,Try.ntmps79
  go_wp2_with (first|((with_reducible refine gate_dst (N:=1) rfl ?_);refine box_event ?hg (N:=1) ?hd (cs:=#[.int .i64 a0_0,.int .i64 a0_1]) (t:=59) ?hr ?_;(case hd=>rfl);(case hg=>rfl);(case hr=>first|(go_simp;done)|(go_simp;rfl));intro gb147 hg w11 hbox hb;have n0_:=Aside0.mk (below_step (by first|with_reducible exact HB.out|exact bl HB) hb);have n1_:=Aside0.mk (hbox);have n2_:=Aside0.mk ((by rw [hg];exact(below_size (by first|with_reducible exact HB.out|exact bl HB)):w.heap.size≤gb147));have n3_:=Aside0.mk ((by rw [hg];exact(below_size (by first|with_reducible exact HB.out|exact bl HB)):w.heap.size≤gb147));clear HB;have HB:=n0_;have BK147:=n1_;have GW147:=n2_;have GE147:=n3_;clear n0_ n1_ n2_ n3_;clear hb hbox hg;have hcz12_0:w11.cell? ⟨gb147,0,none⟩=some (.int .i64 a0_0):=(blk_cell BK147.out 0).trans rfl;have hcz12_1:w11.cell? ⟨gb147,1,none⟩=some (.int .i64 a0_1):=(blk_cell BK147.out 1).trans rfl;have hfz12_0:=blk_frozen BK147.out 0;have hfz12_1:=blk_frozen BK147.out 1))
  go_ret
  exact⟨by first|rfl|(simp [errW_none,errW_some]<;>rfl)|(simp [*,errW_none,errW_some]<;>rfl),by repeat (first|with_reducible exact HB.out|exact bl HB|refine bs ?_ GE147)⟩
def wide_known.f (a0_0:Int) (a0_1:Int):Option (Int × Int):=(wide_Sane.f a0_0 a0_1).bind fun t150=>(if t150=true then (some (a0_0,a0_1)) else (some (0,0)))
set_option maxHeartbeats 8000000 in
set_option maxRecDepth 100000 in
theorem wide_known.calls (a0_0:Int) (a0_1:Int) (r1:Int) (r2:Int) (w:World) (h:wide_known.f a0_0 a0_1=some (r1,r2)) :
  Calls Try.prog 86 #[.agg #[.int .i64 a0_0,.int .i64 a0_1]] w fun e w'=>e=.returned (.agg #[.int .i64 r1,.int .i64 r2])∧Below w.heap.size w w':=by
 have hu59:=Try.underlying59
 have HB:=Aside0.mk (Below.refl w.heap.size w)
 have H:((wide_Sane.f a0_0 a0_1).bind fun t150=>(if t150=true then (some (a0_0,a0_1)) else (some (0,0))))=some (r1,r2):=h
 clear h
 replace H:=Option.bind_eq_some_iff.mp H
 obtain⟨t150,A20,H⟩:=H
 replace H:(if t150=true then (some (a0_0,a0_1)) else (some (0,0)))=some (r1,r2):=H
 have A2:=Aside0.mk A20
 clear A20
 by_cases c3:t150=true
 ·subst c3
  have H1:(some (a0_0,a0_1))=some (r1,r2):=by rw [if_pos rfl] at H;exact H
  clear H
  have H:=H1
  clear H1
  simp only [Option.some.injEq,Prod.mk.injEq] at H
  obtain⟨rfl,rfl⟩:=H
  go_enter Try.func86,Try.ntmps86
  go_wp2_with (first|((with_reducible refine gate_dst (N:=1) rfl ?_);refine box_event ?hg (N:=1) ?hd (cs:=#[.int .i64 a0_0,.int .i64 a0_1]) (t:=59) ?hr ?_;(case hd=>rfl);(case hg=>rfl);(case hr=>first|(go_simp;done)|(go_simp;rfl));intro gb148 hg w4 hbox hb;have n0_:=Aside0.mk (below_step (by first|with_reducible exact HB.out|exact bl HB) hb);have n1_:=Aside0.mk (hbox);have n2_:=Aside0.mk ((by rw [hg];exact(below_size (by first|with_reducible exact HB.out|exact bl HB)):w.heap.size≤gb148));have n3_:=Aside0.mk ((by rw [hg];exact(below_size (by first|with_reducible exact HB.out|exact bl HB)):w.heap.size≤gb148));clear HB;have HB:=n0_;have BK148:=n1_;have GW148:=n2_;have GE148:=n3_;clear n0_ n1_ n2_ n3_;clear hb hbox hg)|((with_reducible refine gate_dst (N:=2) rfl ?_);refine box_event ?hg (N:=2) ?hd (cs:=#[.int .i64 0,.int .i64 0]) (t:=59) ?hr ?_;(case hd=>rfl);(case hg=>rfl);(case hr=>first|(go_simp;done)|(go_simp;rfl));intro gb149 hg w5 hbox hb;have n0_:=Aside0.mk (blk_below (bk BK148.out) hb);have n1_:=Aside0.mk (below_step (by repeat (first|with_reducible exact HB.out|exact bl HB|refine bs ?_ GE148)) hb);have n2_:=Aside0.mk (hbox);have n3_:=Aside0.mk ((by rw [hg];exact(below_size (by repeat (first|with_reducible exact HB.out|exact bl HB|refine bs ?_ GE148))):w.heap.size≤gb149));have n4_:=Aside0.mk ((by rw [hg];exact(below_size (by repeat (first|with_reducible exact HB.out|exact bl HB|refine bs ?_ GE148))):w.heap.size≤gb149));have n5_:=Aside0.mk ((by rw [hg];exact Nat.ne_of_lt (blk_lt (bk BK148.out)):gb148≠gb149));have n6_:=Aside0.mk ((by rw [hg];exact Nat.ne_of_gt (blk_lt (bk BK148.out)):gb149≠gb148));clear BK148;clear HB;have BK148:=n0_;have HB:=n1_;have BK149:=n2_;have GW149:=n3_;have GE149:=n4_;have NB148_149:=n5_;have NB149_148:=n6_;clear n0_ n1_ n2_ n3_ n4_ n5_ n6_;clear hb hbox hg;have hnb6:=NB148_149.out;have hnc6:=NB149_148.out;have hcz7_0:w5.cell? ⟨gb148,0,none⟩=some (.int .i64 a0_0):=(blk_cell BK148.out 0).trans rfl;have hcz7_1:w5.cell? ⟨gb148,1,none⟩=some (.int .i64 a0_1):=(blk_cell BK148.out 1).trans rfl;have hfz7_0:=blk_frozen BK148.out 0;have hfz7_1:=blk_frozen BK148.out 1)|((with_reducible refine gate_callee (f:=79) rfl ?_);refine goesL_ (some 4) rfl rfl Try.func79 (by kernel_rfl) rfl #[.agg #[.int .i64 a0_0,.int .i64 a0_1]] rfl (by exact mA _ _) ?_;(with_reducible refine(wide_Sane.calls a0_0 a0_1 true _ A2.out).mono ?_);rintro e w8 ⟨rfl,hb⟩;refine⟨_,rfl,?_⟩;have n0_:=Aside0.mk (blk_below (bk BK148.out) hb);have n1_:=Aside0.mk (blk_below (bk BK149.out) hb);have n2_:=Aside0.mk (below_step (by repeat (first|with_reducible exact HB.out|exact bl HB|refine bs ?_ GE148|refine bs ?_ GE149)) hb);clear BK148;clear BK149;clear HB;have BK148:=n0_;have BK149:=n1_;have HB:=n2_;clear n0_ n1_ n2_;(try clear hb);(try clear hb2);(try clear hk);(try clear hi);have hcz9_0:w8.cell? ⟨gb148,0,none⟩=some (.int .i64 a0_0):=(blk_cell BK148.out 0).trans rfl;have hcz9_1:w8.cell? ⟨gb148,1,none⟩=some (.int .i64 a0_1):=(blk_cell BK148.out 1).trans rfl;have hfz9_0:=blk_frozen BK148.out 0;have hfz9_1:=blk_frozen BK148.out 1;have hcz10_0:w8.cell? ⟨gb149,0,none⟩=some (.int .i64 0):=(blk_cell BK149.out 0).trans rfl;have hcz10_1:w8.cell? ⟨gb149,1,none⟩=some (.int .i64 0):=(blk_cell BK149.out 1).trans rfl;have hfz10_0:=blk_frozen BK149.out 0;have hfz10_1:=blk_frozen BK149.out 1))
  refine bodyPost_ret (results_cell_row rfl _ _ gb149 59 #[.int .i64 a0_0,.int .i64 a0_1] (0,0) _ rfl (by try refine bk ?_;refine blk_put (cs:=#[.int .i64 a0_0,.int .i64 0]) ?_ 1 _ rfl;try refine bk ?_;refine blk_put (cs:=#[.int .i64 0,.int .i64 0]) ?_ 0 _ rfl;try refine bk ?_;exact BK149.out) Try.underlying59 rfl (by kernel_rfl)) rfl ?_
  exact⟨by first|rfl|(simp [errW_none,errW_some]<;>rfl)|(simp [*,errW_none,errW_some]<;>rfl),by repeat (first|with_reducible exact HB.out|exact bl HB|refine bs ?_ GE148|refine bs ?_ GE149)⟩
 ·replace c3:=Bool.eq_false_iff.mpr c3
  subst c3
  have H1:(some (0,0))=some (r1,r2):=by rw [if_neg (show ¬(false=true) by decide)] at H;exact H
  clear H
  have H:=H1
  clear H1
  simp only [Option.some.injEq,Prod.mk.injEq] at H
  obtain⟨rfl,rfl⟩:=H
  go_enter Try.func86,Try.ntmps86
  go_wp2_with (first|((with_reducible refine gate_dst (N:=1) rfl ?_);refine box_event ?hg (N:=1) ?hd (cs:=#[.int .i64 a0_0,.int .i64 a0_1]) (t:=59) ?hr ?_;(case hd=>rfl);(case hg=>rfl);(case hr=>first|(go_simp;done)|(go_simp;rfl));intro gb148 hg w11 hbox hb;have n0_:=Aside0.mk (below_step (by first|with_reducible exact HB.out|exact bl HB) hb);have n1_:=Aside0.mk (hbox);have n2_:=Aside0.mk ((by rw [hg];exact(below_size (by first|with_reducible exact HB.out|exact bl HB)):w.heap.size≤gb148));have n3_:=Aside0.mk ((by rw [hg];exact(below_size (by first|with_reducible exact HB.out|exact bl HB)):w.heap.size≤gb148));clear HB;have HB:=n0_;have BK148:=n1_;have GW148:=n2_;have GE148:=n3_;clear n0_ n1_ n2_ n3_;clear hb hbox hg)|((with_reducible refine gate_dst (N:=2) rfl ?_);refine box_event ?hg (N:=2) ?hd (cs:=#[.int .i64 0,.int .i64 0]) (t:=59) ?hr ?_;(case hd=>rfl);(case hg=>rfl);(case hr=>first|(go_simp;done)|(go_simp;rfl));intro gb149 hg w12 hbox hb;have n0_:=Aside0.mk (blk_below (bk BK148.out) hb);have n1_:=Aside0.mk (below_step (by repeat (first|with_reducible exact HB.out|exact bl HB|refine bs ?_ GE148)) hb);have n2_:=Aside0.mk (hbox);have n3_:=Aside0.mk ((by rw [hg];exact(below_size (by repeat (first|with_reducible exact HB.out|exact bl HB|refine bs ?_ GE148))):w.heap.size≤gb149));have n4_:=Aside0.mk ((by rw [hg];exact(below_size (by repeat (first|with_reducible exact HB.out|exact bl HB|refine bs ?_ GE148))):w.heap.size≤gb149));have n5_:=Aside0.mk ((by rw [hg];exact Nat.ne_of_lt (blk_lt (bk BK148.out)):gb148≠gb149));have n6_:=Aside0.mk ((by rw [hg];exact Nat.ne_of_gt (blk_lt (bk BK148.out)):gb149≠gb148));clear BK148;clear HB;have BK148:=n0_;have HB:=n1_;have BK149:=n2_;have GW149:=n3_;have GE149:=n4_;have NB148_149:=n5_;have NB149_148:=n6_;clear n0_ n1_ n2_ n3_ n4_ n5_ n6_;clear hb hbox hg;have hnb13:=NB148_149.out;have hnc13:=NB149_148.out;have hcz14_0:w12.cell? ⟨gb148,0,none⟩=some (.int .i64 a0_0):=(blk_cell BK148.out 0).trans rfl;have hcz14_1:w12.cell? ⟨gb148,1,none⟩=some (.int .i64 a0_1):=(blk_cell BK148.out 1).trans rfl;have hfz14_0:=blk_frozen BK148.out 0;have hfz14_1:=blk_frozen BK148.out 1)|((with_reducible refine gate_callee (f:=79) rfl ?_);refine goesL_ (some 4) rfl rfl Try.func79 (by kernel_rfl) rfl #[.agg #[.int .i64 a0_0,.int .i64 a0_1]] rfl (by exact mA _ _) ?_;(with_reducible refine(wide_Sane.calls a0_0 a0_1 false _ A2.out).mono ?_);rintro e w15 ⟨rfl,hb⟩;refine⟨_,rfl,?_⟩;have n0_:=Aside0.mk (blk_below (bk BK148.out) hb);have n1_:=Aside0.mk (blk_below (bk BK149.out) hb);have n2_:=Aside0.mk (below_step (by repeat (first|with_reducible exact HB.out|exact bl HB|refine bs ?_ GE148|refine bs ?_ GE149)) hb);clear BK148;clear BK149;clear HB;have BK148:=n0_;have BK149:=n1_;have HB:=n2_;clear n0_ n1_ n2_;(try clear hb);(try clear hb2);(try clear hk);(try clear hi);have hcz16_0:w15.cell? ⟨gb149,0,none⟩=some (.int .i64 0):=(blk_cell BK149.out 0).trans rfl;have hcz16_1:w15.cell? ⟨gb149,1,none⟩=some (.int .i64 0):=(blk_cell BK149.out 1).trans rfl;have hfz16_0:=blk_frozen BK149.out 0;have hfz16_1:=blk_frozen BK149.out 1))
  refine bodyPost_ret (results_cell_row rfl _ _ gb149 59 #[.int .i64 0,.int .i64 0] (0,0) _ rfl (by try refine bk ?_;refine blk_put (cs:=#[.int .i64 0,.int .i64 0]) ?_ 1 _ rfl;try refine bk ?_;refine blk_put (cs:=#[.int .i64 0,.int .i64 0]) ?_ 0 _ rfl;try refine bk ?_;exact BK149.out) Try.underlying59 rfl (by kernel_rfl)) rfl ?_
  exact⟨by first|rfl|(simp [errW_none,errW_some]<;>rfl)|(simp [*,errW_none,errW_some]<;>rfl),by repeat (first|with_reducible exact HB.out|exact bl HB|refine bs ?_ GE148|refine bs ?_ GE149)⟩
def wide_Add.f (a0_0:Int) (a0_1:Int) (a1_0:Int) (a1_1:Int):Option (Int × Int × Bool):=(wide_known.f a0_0 a0_1).bind fun bt154=>((wide_known.f a1_0 a1_1).bind fun bt156=>((wide_known.f (wrap64 ((wrap64 (bt154.1+bt156.1))+(wrap64 ((IntKind.u64.wrap ((IntKind.u64.wrap (bt154.2))+(IntKind.u64.wrap (bt156.2))))/4611686018427387904)))) (wrap64 (Go.bits .and .u64 (IntKind.u64.wrap ((IntKind.u64.wrap (bt154.2))+(IntKind.u64.wrap (bt156.2)))) 4611686018427387903))).bind fun bt159=>(if (!(bt159.1 == (wrap64 ((wrap64 (bt154.1+bt156.1))+(wrap64 ((IntKind.u64.wrap ((IntKind.u64.wrap (bt154.2))+(IntKind.u64.wrap (bt156.2))))/4611686018427387904))))) || (!(bt159.2 == (wrap64 (Go.bits .and .u64 (IntKind.u64.wrap ((IntKind.u64.wrap (bt154.2))+(IntKind.u64.wrap (bt156.2)))) 4611686018427387903)))))=true then (some (0,0,false)) else (some (wrap64 ((wrap64 (bt154.1+bt156.1))+(wrap64 ((IntKind.u64.wrap ((IntKind.u64.wrap (bt154.2))+(IntKind.u64.wrap (bt156.2))))/4611686018427387904))),wrap64 (Go.bits .and .u64 (IntKind.u64.wrap ((IntKind.u64.wrap (bt154.2))+(IntKind.u64.wrap (bt156.2)))) 4611686018427387903),true)))))
set_option maxHeartbeats 8000000 in
set_option maxRecDepth 100000 in
theorem wide_Add.calls (a0_0:Int) (a0_1:Int) (a1_0:Int) (a1_1:Int) (r1:Int) (r2:Int) (r3:Bool) (w:World) (h:wide_Add.f a0_0 a0_1 a1_0 a1_1=some (r1,r2,r3)) :
  Calls Try.prog 75 #[.agg #[.int .i64 a0_0,.int .i64 a0_1],.agg #[.int .i64 a1_0,.int .i64 a1_1]] w fun e w'=>e=.returned (.tuple #[.agg #[.int .i64 r1,.int .i64 r2],.bool r3])∧Below w.heap.size w w':=by
 have hu59:=Try.underlying59
 have HB:=Aside0.mk (Below.refl w.heap.size w)
 have H:((wide_known.f a0_0 a0_1).bind fun bt154=>((wide_known.f a1_0 a1_1).bind fun bt156=>((wide_known.f (wrap64 ((wrap64 (bt154.1+bt156.1))+(wrap64 ((IntKind.u64.wrap ((IntKind.u64.wrap (bt154.2))+(IntKind.u64.wrap (bt156.2))))/4611686018427387904)))) (wrap64 (Go.bits .and .u64 (IntKind.u64.wrap ((IntKind.u64.wrap (bt154.2))+(IntKind.u64.wrap (bt156.2)))) 4611686018427387903))).bind fun bt159=>(if (!(bt159.1 == (wrap64 ((wrap64 (bt154.1+bt156.1))+(wrap64 ((IntKind.u64.wrap ((IntKind.u64.wrap (bt154.2))+(IntKind.u64.wrap (bt156.2))))/4611686018427387904))))) || (!(bt159.2 == (wrap64 (Go.bits .and .u64 (IntKind.u64.wrap ((IntKind.u64.wrap (bt154.2))+(IntKind.u64.wrap (bt156.2)))) 4611686018427387903)))))=true then (some (0,0,false)) else (some (wrap64 ((wrap64 (bt154.1+bt156.1))+(wrap64 ((IntKind.u64.wrap ((IntKind.u64.wrap (bt154.2))+(IntKind.u64.wrap (bt156.2))))/4611686018427387904))),wrap64 (Go.bits .and .u64 (IntKind.u64.wrap ((IntKind.u64.wrap (bt154.2))+(IntKind.u64.wrap (bt156.2)))) 4611686018427387903),true))))))=some (r1,r2,r3):=h
 clear h
 replace H:=Option.bind_eq_some_iff.mp H
 obtain⟨⟨t154,t155⟩,A30,H⟩:=H
 replace H:((wide_known.f a1_0 a1_1).bind fun bt156=>((wide_known.f (wrap64 ((wrap64 (t154+bt156.1))+(wrap64 ((IntKind.u64.wrap ((IntKind.u64.wrap (t155))+(IntKind.u64.wrap (bt156.2))))/4611686018427387904)))) (wrap64 (Go.bits .and .u64 (IntKind.u64.wrap ((IntKind.u64.wrap (t155))+(IntKind.u64.wrap (bt156.2)))) 4611686018427387903))).bind fun bt159=>(if (!(bt159.1 == (wrap64 ((wrap64 (t154+bt156.1))+(wrap64 ((IntKind.u64.wrap ((IntKind.u64.wrap (t155))+(IntKind.u64.wrap (bt156.2))))/4611686018427387904))))) || (!(bt159.2 == (wrap64 (Go.bits .and .u64 (IntKind.u64.wrap ((IntKind.u64.wrap (t155))+(IntKind.u64.wrap (bt156.2)))) 4611686018427387903)))))=true then (some (0,0,false)) else (some (wrap64 ((wrap64 (t154+bt156.1))+(wrap64 ((IntKind.u64.wrap ((IntKind.u64.wrap (t155))+(IntKind.u64.wrap (bt156.2))))/4611686018427387904))),wrap64 (Go.bits .and .u64 (IntKind.u64.wrap ((IntKind.u64.wrap (t155))+(IntKind.u64.wrap (bt156.2)))) 4611686018427387903),true)))))=some (r1,r2,r3):=H
 have A3:=Aside0.mk A30
 clear A30
 replace H:=Option.bind_eq_some_iff.mp H
 obtain⟨⟨t156,t157⟩,A40,H⟩:=H
 replace H:((wide_known.f (wrap64 ((wrap64 (t154+t156))+(wrap64 ((IntKind.u64.wrap ((IntKind.u64.wrap (t155))+(IntKind.u64.wrap (t157))))/4611686018427387904)))) (wrap64 (Go.bits .and .u64 (IntKind.u64.wrap ((IntKind.u64.wrap (t155))+(IntKind.u64.wrap (t157)))) 4611686018427387903))).bind fun bt159=>(if (!(bt159.1 == (wrap64 ((wrap64 (t154+t156))+(wrap64 ((IntKind.u64.wrap ((IntKind.u64.wrap (t155))+(IntKind.u64.wrap (t157))))/4611686018427387904))))) || (!(bt159.2 == (wrap64 (Go.bits .and .u64 (IntKind.u64.wrap ((IntKind.u64.wrap (t155))+(IntKind.u64.wrap (t157)))) 4611686018427387903)))))=true then (some (0,0,false)) else (some (wrap64 ((wrap64 (t154+t156))+(wrap64 ((IntKind.u64.wrap ((IntKind.u64.wrap (t155))+(IntKind.u64.wrap (t157))))/4611686018427387904))),wrap64 (Go.bits .and .u64 (IntKind.u64.wrap ((IntKind.u64.wrap (t155))+(IntKind.u64.wrap (t157)))) 4611686018427387903),true))))=some (r1,r2,r3):=H
 have A4:=Aside0.mk A40
 clear A40
 replace H:=Option.bind_eq_some_iff.mp H
 obtain⟨⟨t159,t160⟩,A50,H⟩:=H
 replace H:(if (!(t159 == (wrap64 ((wrap64 (t154+t156))+(wrap64 ((IntKind.u64.wrap ((IntKind.u64.wrap (t155))+(IntKind.u64.wrap (t157))))/4611686018427387904))))) || (!(t160 == (wrap64 (Go.bits .and .u64 (IntKind.u64.wrap ((IntKind.u64.wrap (t155))+(IntKind.u64.wrap (t157)))) 4611686018427387903)))))=true then (some (0,0,false)) else (some (wrap64 ((wrap64 (t154+t156))+(wrap64 ((IntKind.u64.wrap ((IntKind.u64.wrap (t155))+(IntKind.u64.wrap (t157))))/4611686018427387904))),wrap64 (Go.bits .and .u64 (IntKind.u64.wrap ((IntKind.u64.wrap (t155))+(IntKind.u64.wrap (t157)))) 4611686018427387903),true)))=some (r1,r2,r3):=H
 have A5:=Aside0.mk A50
 clear A50
 by_cases c6:(!(t159 == (wrap64 ((wrap64 (t154+t156))+(wrap64 ((IntKind.u64.wrap ((IntKind.u64.wrap (t155))+(IntKind.u64.wrap (t157))))/4611686018427387904))))) || (!(t160 == (wrap64 (Go.bits .and .u64 (IntKind.u64.wrap ((IntKind.u64.wrap (t155))+(IntKind.u64.wrap (t157)))) 4611686018427387903)))))=true
 ·rw [if_pos c6] at H
  have c6b0:(!(t159 == (wrap64 ((wrap64 (t154+t156))+(wrap64 ((IntKind.u64.wrap ((IntKind.u64.wrap (t155))+(IntKind.u64.wrap (t157))))/4611686018427387904))))) || (!(t160 == (wrap64 (Go.bits .and .u64 (IntKind.u64.wrap ((IntKind.u64.wrap (t155))+(IntKind.u64.wrap (t157)))) 4611686018427387903)))))=true:=c6
  clear c6
  simp only [Option.some.injEq,Prod.mk.injEq] at H
  obtain⟨rfl,rfl,rfl⟩:=H
  go_enter Try.func75,Try.ntmps75
  try go_wp2_with (first|((with_reducible refine gate_dst (N:=2) rfl ?_);refine box_event ?hg (N:=2) ?hd (cs:=#[.int .i64 a0_0,.int .i64 a0_1]) (t:=59) ?hr ?_;(case hd=>rfl);(case hg=>rfl);(case hr=>first|(go_simp;done)|(go_simp;rfl));intro gb151 hg w7 hbox hb;have n0_:=Aside0.mk (below_step (by first|with_reducible exact HB.out|exact bl HB) hb);have n1_:=Aside0.mk (hbox);have n2_:=Aside0.mk ((by rw [hg];exact(below_size (by first|with_reducible exact HB.out|exact bl HB)):w.heap.size≤gb151));have n3_:=Aside0.mk ((by rw [hg];exact(below_size (by first|with_reducible exact HB.out|exact bl HB)):w.heap.size≤gb151));clear HB;have HB:=n0_;have BK151:=n1_;have GW151:=n2_;have GE151:=n3_;clear n0_ n1_ n2_ n3_;clear hb hbox hg)|((with_reducible refine gate_dst (N:=3) rfl ?_);refine box_event ?hg (N:=3) ?hd (cs:=#[.int .i64 a1_0,.int .i64 a1_1]) (t:=59) ?hr ?_;(case hd=>rfl);(case hg=>rfl);(case hr=>first|(go_simp;done)|(go_simp;rfl));intro gb152 hg w8 hbox hb;have n0_:=Aside0.mk (blk_below (bk BK151.out) hb);have n1_:=Aside0.mk (below_step (by repeat (first|with_reducible exact HB.out|exact bl HB|refine bs ?_ GE151)) hb);have n2_:=Aside0.mk (hbox);have n3_:=Aside0.mk ((by rw [hg];exact(below_size (by repeat (first|with_reducible exact HB.out|exact bl HB|refine bs ?_ GE151))):w.heap.size≤gb152));have n4_:=Aside0.mk ((by rw [hg];exact(below_size (by repeat (first|with_reducible exact HB.out|exact bl HB|refine bs ?_ GE151))):w.heap.size≤gb152));have n5_:=Aside0.mk ((by rw [hg];exact Nat.ne_of_lt (blk_lt (bk BK151.out)):gb151≠gb152));have n6_:=Aside0.mk ((by rw [hg];exact Nat.ne_of_gt (blk_lt (bk BK151.out)):gb152≠gb151));clear BK151;clear HB;have BK151:=n0_;have HB:=n1_;have BK152:=n2_;have GW152:=n3_;have GE152:=n4_;have NB151_152:=n5_;have NB152_151:=n6_;clear n0_ n1_ n2_ n3_ n4_ n5_ n6_;clear hb hbox hg)|((with_reducible refine gate_dst (N:=4) rfl ?_);refine box_event ?hg (N:=4) ?hd (cs:=#[.int .i64 0,.int .i64 0]) (t:=59) ?hr ?_;(case hd=>rfl);(case hg=>rfl);(case hr=>first|(go_simp;done)|(go_simp;rfl));intro gb153 hg w9 hbox hb;have n0_:=Aside0.mk (blk_below (bk BK151.out) hb);have n1_:=Aside0.mk (blk_below (bk BK152.out) hb);have n2_:=Aside0.mk (below_step (by repeat (first|with_reducible exact HB.out|exact bl HB|refine bs ?_ GE151|refine bs ?_ GE152)) hb);have n3_:=Aside0.mk (hbox);have n4_:=Aside0.mk ((by rw [hg];exact(below_size (by repeat (first|with_reducible exact HB.out|exact bl HB|refine bs ?_ GE151|refine bs ?_ GE152))):w.heap.size≤gb153));have n5_:=Aside0.mk ((by rw [hg];exact(below_size (by repeat (first|with_reducible exact HB.out|exact bl HB|refine bs ?_ GE151|refine bs ?_ GE152))):w.heap.size≤gb153));have n6_:=Aside0.mk ((by rw [hg];exact Nat.ne_of_lt (blk_lt (bk BK151.out)):gb151≠gb153));have n7_:=Aside0.mk ((by rw [hg];exact Nat.ne_of_gt (blk_lt (bk BK151.out)):gb153≠gb151));have n8_:=Aside0.mk ((by rw [hg];exact Nat.ne_of_lt (blk_lt (bk BK152.out)):gb152≠gb153));have n9_:=Aside0.mk ((by rw [hg];exact Nat.ne_of_gt (blk_lt (bk BK152.out)):gb153≠gb152));clear BK151;clear BK152;clear HB;have BK151:=n0_;have BK152:=n1_;have HB:=n2_;have BK153:=n3_;have GW153:=n4_;have GE153:=n5_;have NB151_153:=n6_;have NB153_151:=n7_;have NB152_153:=n8_;have NB153_152:=n9_;clear n0_ n1_ n2_ n3_ n4_ n5_ n6_ n7_ n8_ n9_;clear hb hbox hg))
  have n0_:=Aside0.mk (blk_drew BK151.out)
  have n1_:=Aside0.mk (blk_drew BK152.out)
  have n2_:=Aside0.mk (blk_drew BK153.out)
  have n3_:=Aside0.mk (below_drew1 HB.out)
  clear BK151
  clear BK152
  clear BK153
  clear HB
  have BK151:=n0_
  have BK152:=n1_
  have BK153:=n2_
  have HB:=n3_
  clear n0_ n1_ n2_ n3_
  refine start_ (n:=6) (S:=fun w'=>w'.cell? ⟨gb151,0,none⟩=some (.int .i64 a0_0)∧w'.cell? ⟨gb151,1,none⟩=some (.int .i64 a0_1)∧w'.cell? ⟨gb152,0,none⟩=some (.int .i64 a1_0)∧w'.cell? ⟨gb152,1,none⟩=some (.int .i64 a1_1)) (ds:=[4,5]) #[ff,ff,ff,ff,ff,ff] (by kernel_rfl) rfl rfl ⟨(blk_cell BK151.out 0).trans rfl,(blk_cell BK151.out 1).trans rfl,(blk_cell BK152.out 0).trans rfl,(blk_cell BK152.out 1).trans rfl⟩ (fun hHeld=>?_)
  generalize w9.drew=w10 at BK151 BK152 BK153 HB hHeld ⊢
  refine take_ (i:=0) (N:=some 8) (v:=?_) (a':=?_) #[tt,ff,ff,ff,ff,ff] rfl rfl (by kernel_rfl) (fun _ _ _ h=>h) (Or.inl ⟨by rfl,?_⟩) hHeld ?_ ?_
  rotate_left
  ·rintro w' ⟨s0,s1,s2,s3⟩
   go_simp
   with_reducible rfl
  rotate_left
  ·simp only [Act.put,List.setIfInBounds_toArray,List.set_cons_zero,List.set_cons_succ,i64_w,i32_w]
   rfl
  refine take_ (i:=2) (N:=some 10) (v:=?_) (a':=?_) #[tt,ff,tt,ff,ff,ff] rfl rfl (by kernel_rfl) (fun _ _ _ h=>h) (Or.inl ⟨by rfl,?_⟩) hHeld ?_ ?_
  rotate_left
  ·rintro w' ⟨s0,s1,s2,s3⟩
   go_simp
   with_reducible rfl
  rotate_left
  ·simp only [Act.put,List.setIfInBounds_toArray,List.set_cons_zero,List.set_cons_succ,i64_w,i32_w]
   rfl
  refine one_ (i:=1) (N:=some 9) #[tt,tt,tt,ff,ff,ff] rfl rfl (by kernel_rfl) (by decide) (fun K hK=>?_)
  refine goes_ Try.func86 (by kernel_rfl) rfl #[.agg #[.int .i64 a0_0,.int .i64 a0_1]] (by rfl) rfl rfl (by exact mA _ _) ?_
  with_reducible refine(wide_known.calls a0_0 a0_1 t154 t155 _ A3.out).mono ?_
  rintro e w11 ⟨rfl,hb⟩
  refine⟨_,rfl,?_⟩
  have n0_:=Aside0.mk (blk_below (bk BK151.out) hb)
  have n1_:=Aside0.mk (blk_below (bk BK152.out) hb)
  have n2_:=Aside0.mk (blk_below (bk BK153.out) hb)
  have n3_:=Aside0.mk (below_step (by repeat (first|with_reducible exact HB.out|exact bl HB|refine bs ?_ GE151|refine bs ?_ GE152|refine bs ?_ GE153)) hb)
  clear BK151
  clear BK152
  clear BK153
  clear HB
  have BK151:=n0_
  have BK152:=n1_
  have BK153:=n2_
  have HB:=n3_
  clear n0_ n1_ n2_ n3_
  (try clear hb)
  (try clear hb2)
  (try clear hk)
  (try clear hi)
  refine hK.out _ _ ⟨(blk_cell BK151.out 0).trans rfl,(blk_cell BK151.out 1).trans rfl,(blk_cell BK152.out 0).trans rfl,(blk_cell BK152.out 1).trans rfl⟩ (fun hHeld=>?_)
  clear hK K
  refine norm_ (a':=?_) ?_ ?_
  rotate_left
  ·show Act.put _ (some 9) _=_
   simp only [Act.put,List.setIfInBounds_toArray,List.set_cons_zero,List.set_cons_succ,i64_w,i32_w]
   rfl
  refine one_ (i:=3) (N:=some 11) #[tt,tt,tt,tt,ff,ff] rfl rfl (by kernel_rfl) (by decide) (fun K hK=>?_)
  refine goes_ Try.func86 (by kernel_rfl) rfl #[.agg #[.int .i64 a1_0,.int .i64 a1_1]] (by rfl) rfl rfl (by exact mA _ _) ?_
  with_reducible refine(wide_known.calls a1_0 a1_1 t156 t157 _ A4.out).mono ?_
  rintro e w12 ⟨rfl,hb⟩
  refine⟨_,rfl,?_⟩
  have n0_:=Aside0.mk (blk_below (bk BK151.out) hb)
  have n1_:=Aside0.mk (blk_below (bk BK152.out) hb)
  have n2_:=Aside0.mk (blk_below (bk BK153.out) hb)
  have n3_:=Aside0.mk (below_step (by repeat (first|with_reducible exact HB.out|exact bl HB|refine bs ?_ GE151|refine bs ?_ GE152|refine bs ?_ GE153)) hb)
  clear BK151
  clear BK152
  clear BK153
  clear HB
  have BK151:=n0_
  have BK152:=n1_
  have BK153:=n2_
  have HB:=n3_
  clear n0_ n1_ n2_ n3_
  (try clear hb)
  (try clear hb2)
  (try clear hk)
  (try clear hi)
  refine hK.out _ _ ⟨(blk_cell BK151.out 0).trans rfl,(blk_cell BK151.out 1).trans rfl,(blk_cell BK152.out 0).trans rfl,(blk_cell BK152.out 1).trans rfl⟩ (fun hHeld=>?_)
  clear hK K
  refine norm_ (a':=?_) ?_ ?_
  rotate_left
  ·show Act.put _ (some 11) _=_
   simp only [Act.put,List.setIfInBounds_toArray,List.set_cons_zero,List.set_cons_succ,i64_w,i32_w]
   rfl
  refine last_ (i:=4) (N:=none) #[tt,tt,tt,tt,tt,ff] rfl rfl (by kernel_rfl) (by decide) (fun K hK=>?_)
  have hs13:w12.cell? ⟨gb151,0,none⟩=some (.int .i64 a0_0):=(blk_cell BK151.out 0).trans rfl
  have hfs13:=blk_frozen BK151.out 0
  have hns13_1:=NB152_151.out
  have hns13_2:=NB153_151.out
  have hms13_1:=NB151_152.out
  have hms13_2:=NB151_153.out
  have hs14:w12.cell? ⟨gb151,1,none⟩=some (.int .i64 a0_1):=(blk_cell BK151.out 1).trans rfl
  have hfs14:=blk_frozen BK151.out 1
  have hns14_1:=NB152_151.out
  have hns14_2:=NB153_151.out
  have hms14_1:=NB151_152.out
  have hms14_2:=NB151_153.out
  refine skip_ (w1:=?_) (by rfl) rfl ?_ ?_
  rotate_left
  ·go_simp
   rfl
  refine hK.out _ _ ?_
  clear hK K
  refine last_ (i:=5) (N:=none) #[tt,tt,tt,tt,tt,tt] rfl rfl (by kernel_rfl) (by decide) (fun K hK=>?_)
  have hs15:w12.cell? ⟨gb152,0,none⟩=some (.int .i64 a1_0):=(blk_cell BK152.out 0).trans rfl
  have hfs15:=blk_frozen BK152.out 0
  have hns15_0:=NB151_152.out
  have hns15_2:=NB153_152.out
  have hms15_0:=NB152_151.out
  have hms15_2:=NB152_153.out
  have hs16:w12.cell? ⟨gb152,1,none⟩=some (.int .i64 a1_1):=(blk_cell BK152.out 1).trans rfl
  have hfs16:=blk_frozen BK152.out 1
  have hns16_0:=NB151_152.out
  have hns16_2:=NB153_152.out
  have hms16_0:=NB152_151.out
  have hms16_2:=NB152_153.out
  refine skip_ (w1:=?_) (by rfl) rfl ?_ ?_
  rotate_left
  ·go_simp
   rfl
  refine hK.out _ _ ?_
  clear hK K
  refine done_ (by kernel_rfl) ?_
  have hnb17:=NB151_152.out
  have hnc17:=NB152_151.out
  have hnb18:=NB151_153.out
  have hnc18:=NB153_151.out
  have hcz19_0:w12.cell? ⟨gb151,0,none⟩=some (.int .i64 a0_0):=(blk_cell BK151.out 0).trans rfl
  have hcz19_1:w12.cell? ⟨gb151,1,none⟩=some (.int .i64 a0_1):=(blk_cell BK151.out 1).trans rfl
  have hfz19_0:=blk_frozen BK151.out 0
  have hfz19_1:=blk_frozen BK151.out 1
  have hnb20:=NB152_153.out
  have hnc20:=NB153_152.out
  have hcz21_0:w12.cell? ⟨gb152,0,none⟩=some (.int .i64 a1_0):=(blk_cell BK152.out 0).trans rfl
  have hcz21_1:w12.cell? ⟨gb152,1,none⟩=some (.int .i64 a1_1):=(blk_cell BK152.out 1).trans rfl
  have hfz21_0:=blk_frozen BK152.out 0
  have hfz21_1:=blk_frozen BK152.out 1
  try go_wp2_with (first|((with_reducible refine gate_dst (N:=7) rfl ?_);refine box_event ?hg (N:=7) ?hd (cs:=#[.int .i64 0,.int .i64 0]) (t:=59) ?hr ?_;(case hd=>rfl);(case hg=>rfl);(case hr=>first|(go_simp;done)|(go_simp;rfl));intro gb158 hg w22 hbox hb;have n0_:=Aside0.mk (blk_below (g:=gb151) (o:=.cells #[.int .i64 t154,.int .i64 t155] 59 (0,0)) (by try refine bk ?_;refine blk_far ?_ NB151_152.out _;try refine bk ?_;refine blk_far ?_ NB151_152.out _;try refine bk ?_;refine blk_put (cs:=#[.int .i64 t154,.int .i64 a0_1]) ?_ 1 _ rfl;try refine bk ?_;refine blk_put (cs:=#[.int .i64 a0_0,.int .i64 a0_1]) ?_ 0 _ rfl;try refine bk ?_;exact BK151.out) hb);have n1_:=Aside0.mk (blk_below (g:=gb152) (o:=.cells #[.int .i64 t156,.int .i64 t157] 59 (0,0)) (by try refine bk ?_;refine blk_put (cs:=#[.int .i64 t156,.int .i64 a1_1]) ?_ 1 _ rfl;try refine bk ?_;refine blk_put (cs:=#[.int .i64 a1_0,.int .i64 a1_1]) ?_ 0 _ rfl;try refine bk ?_;refine blk_far ?_ NB152_151.out _;try refine bk ?_;refine blk_far ?_ NB152_151.out _;try refine bk ?_;exact BK152.out) hb);have n2_:=Aside0.mk (blk_below (g:=gb153) (o:=.cells #[.int .i64 0,.int .i64 0] 59 (0,0)) (by try refine bk ?_;refine blk_far ?_ NB153_152.out _;try refine bk ?_;refine blk_far ?_ NB153_152.out _;try refine bk ?_;refine blk_far ?_ NB153_151.out _;try refine bk ?_;refine blk_far ?_ NB153_151.out _;try refine bk ?_;exact BK153.out) hb);have n3_:=Aside0.mk (below_step (by repeat (first|with_reducible exact HB.out|exact bl HB|refine bs ?_ GE151|refine bs ?_ GE152|refine bs ?_ GE153)) hb);have n4_:=Aside0.mk (hbox);have n5_:=Aside0.mk ((by rw [hg];exact(below_size (by repeat (first|with_reducible exact HB.out|exact bl HB|refine bs ?_ GE151|refine bs ?_ GE152|refine bs ?_ GE153))):w.heap.size≤gb158));have n6_:=Aside0.mk ((by rw [hg];exact(below_size (by repeat (first|with_reducible exact HB.out|exact bl HB|refine bs ?_ GE151|refine bs ?_ GE152|refine bs ?_ GE153))):w.heap.size≤gb158));have n7_:=Aside0.mk ((by rw [hg];exact Nat.ne_of_lt (blk_lt (g:=gb151) (o:=.cells #[.int .i64 t154,.int .i64 t155] 59 (0,0)) (by try refine bk ?_;refine blk_far ?_ NB151_152.out _;try refine bk ?_;refine blk_far ?_ NB151_152.out _;try refine bk ?_;refine blk_put (cs:=#[.int .i64 t154,.int .i64 a0_1]) ?_ 1 _ rfl;try refine bk ?_;refine blk_put (cs:=#[.int .i64 a0_0,.int .i64 a0_1]) ?_ 0 _ rfl;try refine bk ?_;exact BK151.out)):gb151≠gb158));have n8_:=Aside0.mk ((by rw [hg];exact Nat.ne_of_gt (blk_lt (g:=gb151) (o:=.cells #[.int .i64 t154,.int .i64 t155] 59 (0,0)) (by try refine bk ?_;refine blk_far ?_ NB151_152.out _;try refine bk ?_;refine blk_far ?_ NB151_152.out _;try refine bk ?_;refine blk_put (cs:=#[.int .i64 t154,.int .i64 a0_1]) ?_ 1 _ rfl;try refine bk ?_;refine blk_put (cs:=#[.int .i64 a0_0,.int .i64 a0_1]) ?_ 0 _ rfl;try refine bk ?_;exact BK151.out)):gb158≠gb151));have n9_:=Aside0.mk ((by rw [hg];exact Nat.ne_of_lt (blk_lt (g:=gb152) (o:=.cells #[.int .i64 t156,.int .i64 t157] 59 (0,0)) (by try refine bk ?_;refine blk_put (cs:=#[.int .i64 t156,.int .i64 a1_1]) ?_ 1 _ rfl;try refine bk ?_;refine blk_put (cs:=#[.int .i64 a1_0,.int .i64 a1_1]) ?_ 0 _ rfl;try refine bk ?_;refine blk_far ?_ NB152_151.out _;try refine bk ?_;refine blk_far ?_ NB152_151.out _;try refine bk ?_;exact BK152.out)):gb152≠gb158));have n10_:=Aside0.mk ((by rw [hg];exact Nat.ne_of_gt (blk_lt (g:=gb152) (o:=.cells #[.int .i64 t156,.int .i64 t157] 59 (0,0)) (by try refine bk ?_;refine blk_put (cs:=#[.int .i64 t156,.int .i64 a1_1]) ?_ 1 _ rfl;try refine bk ?_;refine blk_put (cs:=#[.int .i64 a1_0,.int .i64 a1_1]) ?_ 0 _ rfl;try refine bk ?_;refine blk_far ?_ NB152_151.out _;try refine bk ?_;refine blk_far ?_ NB152_151.out _;try refine bk ?_;exact BK152.out)):gb158≠gb152));have n11_:=Aside0.mk ((by rw [hg];exact Nat.ne_of_lt (blk_lt (g:=gb153) (o:=.cells #[.int .i64 0,.int .i64 0] 59 (0,0)) (by try refine bk ?_;refine blk_far ?_ NB153_152.out _;try refine bk ?_;refine blk_far ?_ NB153_152.out _;try refine bk ?_;refine blk_far ?_ NB153_151.out _;try refine bk ?_;refine blk_far ?_ NB153_151.out _;try refine bk ?_;exact BK153.out)):gb153≠gb158));have n12_:=Aside0.mk ((by rw [hg];exact Nat.ne_of_gt (blk_lt (g:=gb153) (o:=.cells #[.int .i64 0,.int .i64 0] 59 (0,0)) (by try refine bk ?_;refine blk_far ?_ NB153_152.out _;try refine bk ?_;refine blk_far ?_ NB153_152.out _;try refine bk ?_;refine blk_far ?_ NB153_151.out _;try refine bk ?_;refine blk_far ?_ NB153_151.out _;try refine bk ?_;exact BK153.out)):gb158≠gb153));clear BK151;clear BK152;clear BK153;clear HB;have BK151:=n0_;have BK152:=n1_;have BK153:=n2_;have HB:=n3_;have BK158:=n4_;have GW158:=n5_;have GE158:=n6_;have NB151_158:=n7_;have NB158_151:=n8_;have NB152_158:=n9_;have NB158_152:=n10_;have NB153_158:=n11_;have NB158_153:=n12_;clear n0_ n1_ n2_ n3_ n4_ n5_ n6_ n7_ n8_ n9_ n10_ n11_ n12_;clear hb hbox hg;have hnb23:=NB158_151.out;have hnc23:=NB151_158.out;have hnb24:=NB158_152.out;have hnc24:=NB152_158.out;have hnb25:=NB158_153.out;have hnc25:=NB153_158.out;have hcz26_0:w22.cell? ⟨gb158,0,none⟩=some (.int .i64 0):=(blk_cell BK158.out 0).trans rfl;have hcz26_1:w22.cell? ⟨gb158,1,none⟩=some (.int .i64 0):=(blk_cell BK158.out 1).trans rfl;have hfz26_0:=blk_frozen BK158.out 0;have hfz26_1:=blk_frozen BK158.out 1))
  have n0_:Aside0 (((w22.setCell ⟨gb158,0,none⟩ (.int .i64 (wrap64 ((wrap64 (t154+t156))+(wrap64 ((IntKind.u64.wrap ((IntKind.u64.wrap (t155))+(IntKind.u64.wrap (t157))))/4611686018427387904)))))).setCell ⟨gb158,1,none⟩ (.int .i64 (wrap64 (Go.bits .and .u64 (IntKind.u64.wrap ((IntKind.u64.wrap (t155))+(IntKind.u64.wrap (t157)))) 4611686018427387903)))).heap[gb151]? = some (.cells #[.int .i64 t154,.int .i64 t155] 59 (0,0))):=⟨by try refine bk ?_;refine blk_far ?_ NB151_158.out _;try refine bk ?_;refine blk_far ?_ NB151_158.out _;try refine bk ?_;exact BK151.out⟩
  have n1_:Aside0 (((w22.setCell ⟨gb158,0,none⟩ (.int .i64 (wrap64 ((wrap64 (t154+t156))+(wrap64 ((IntKind.u64.wrap ((IntKind.u64.wrap (t155))+(IntKind.u64.wrap (t157))))/4611686018427387904)))))).setCell ⟨gb158,1,none⟩ (.int .i64 (wrap64 (Go.bits .and .u64 (IntKind.u64.wrap ((IntKind.u64.wrap (t155))+(IntKind.u64.wrap (t157)))) 4611686018427387903)))).heap[gb152]? = some (.cells #[.int .i64 t156,.int .i64 t157] 59 (0,0))):=⟨by try refine bk ?_;refine blk_far ?_ NB152_158.out _;try refine bk ?_;refine blk_far ?_ NB152_158.out _;try refine bk ?_;exact BK152.out⟩
  have n2_:Aside0 (((w22.setCell ⟨gb158,0,none⟩ (.int .i64 (wrap64 ((wrap64 (t154+t156))+(wrap64 ((IntKind.u64.wrap ((IntKind.u64.wrap (t155))+(IntKind.u64.wrap (t157))))/4611686018427387904)))))).setCell ⟨gb158,1,none⟩ (.int .i64 (wrap64 (Go.bits .and .u64 (IntKind.u64.wrap ((IntKind.u64.wrap (t155))+(IntKind.u64.wrap (t157)))) 4611686018427387903)))).heap[gb153]? = some (.cells #[.int .i64 0,.int .i64 0] 59 (0,0))):=⟨by try refine bk ?_;refine blk_far ?_ NB153_158.out _;try refine bk ?_;refine blk_far ?_ NB153_158.out _;try refine bk ?_;exact BK153.out⟩
  have n3_:Aside0 (((w22.setCell ⟨gb158,0,none⟩ (.int .i64 (wrap64 ((wrap64 (t154+t156))+(wrap64 ((IntKind.u64.wrap ((IntKind.u64.wrap (t155))+(IntKind.u64.wrap (t157))))/4611686018427387904)))))).setCell ⟨gb158,1,none⟩ (.int .i64 (wrap64 (Go.bits .and .u64 (IntKind.u64.wrap ((IntKind.u64.wrap (t155))+(IntKind.u64.wrap (t157)))) 4611686018427387903)))).heap[gb158]? = some (.cells #[.int .i64 (wrap64 ((wrap64 (t154+t156))+(wrap64 ((IntKind.u64.wrap ((IntKind.u64.wrap (t155))+(IntKind.u64.wrap (t157))))/4611686018427387904)))),.int .i64 (wrap64 (Go.bits .and .u64 (IntKind.u64.wrap ((IntKind.u64.wrap (t155))+(IntKind.u64.wrap (t157)))) 4611686018427387903))] 59 (0,0))):=⟨by try refine bk ?_;refine blk_put (cs:=#[.int .i64 (wrap64 ((wrap64 (t154+t156))+(wrap64 ((IntKind.u64.wrap ((IntKind.u64.wrap (t155))+(IntKind.u64.wrap (t157))))/4611686018427387904)))),.int .i64 0]) ?_ 1 _ rfl;try refine bk ?_;refine blk_put (cs:=#[.int .i64 0,.int .i64 0]) ?_ 0 _ rfl;try refine bk ?_;exact BK158.out⟩
  have n4_:Aside0 (Below w.heap.size w ((w22.setCell ⟨gb158,0,none⟩ (.int .i64 (wrap64 ((wrap64 (t154+t156))+(wrap64 ((IntKind.u64.wrap ((IntKind.u64.wrap (t155))+(IntKind.u64.wrap (t157))))/4611686018427387904)))))).setCell ⟨gb158,1,none⟩ (.int .i64 (wrap64 (Go.bits .and .u64 (IntKind.u64.wrap ((IntKind.u64.wrap (t155))+(IntKind.u64.wrap (t157)))) 4611686018427387903))))):=⟨by repeat (first|with_reducible exact HB.out|exact bl HB|refine bs ?_ GE151|refine bs ?_ GE152|refine bs ?_ GE153|refine bs ?_ GE158)⟩
  (try clear BK151)
  (try clear BK152)
  (try clear BK153)
  (try clear BK158)
  (try clear HB)
  generalize ((w22.setCell ⟨gb158,0,none⟩ (.int .i64 (wrap64 ((wrap64 (t154+t156))+(wrap64 ((IntKind.u64.wrap ((IntKind.u64.wrap (t155))+(IntKind.u64.wrap (t157))))/4611686018427387904)))))).setCell ⟨gb158,1,none⟩ (.int .i64 (wrap64 (Go.bits .and .u64 (IntKind.u64.wrap ((IntKind.u64.wrap (t155))+(IntKind.u64.wrap (t157)))) 4611686018427387903))))=w27 at n0_ n1_ n2_ n3_ n4_ ⊢
  have BK151:=n0_
  have BK152:=n1_
  have BK153:=n2_
  have BK158:=n3_
  have HB:=n4_
  clear n0_ n1_ n2_ n3_ n4_
  have n0_:=Aside0.mk (blk_drew BK151.out)
  have n1_:=Aside0.mk (blk_drew BK152.out)
  have n2_:=Aside0.mk (blk_drew BK153.out)
  have n3_:=Aside0.mk (blk_drew BK158.out)
  have n4_:=Aside0.mk (below_drew1 HB.out)
  clear BK151
  clear BK152
  clear BK153
  clear BK158
  clear HB
  have BK151:=n0_
  have BK152:=n1_
  have BK153:=n2_
  have BK158:=n3_
  have HB:=n4_
  clear n0_ n1_ n2_ n3_ n4_
  refine start_ (n:=4) (S:=fun w'=>w'.cell? ⟨gb158,0,none⟩=some (.int .i64 (wrap64 ((wrap64 (t154+t156))+(wrap64 ((IntKind.u64.wrap ((IntKind.u64.wrap (t155))+(IntKind.u64.wrap (t157))))/4611686018427387904)))))∧w'.cell? ⟨gb158,1,none⟩=some (.int .i64 (wrap64 (Go.bits .and .u64 (IntKind.u64.wrap ((IntKind.u64.wrap (t155))+(IntKind.u64.wrap (t157)))) 4611686018427387903)))) (ds:=[]) #[false,false,false,false] (by kernel_rfl) rfl rfl ⟨(blk_cell BK158.out 0).trans rfl,(blk_cell BK158.out 1).trans rfl⟩ (fun hHeld=>?_)
  generalize w27.drew=w28 at BK151 BK152 BK153 BK158 HB hHeld ⊢
  refine take_ (i:=0) (N:=some 32) (v:=?_) (a':=?_) #[true,false,false,false] rfl rfl (by kernel_rfl) (fun _ _ _ h=>h) (Or.inl ⟨by rfl,?_⟩) hHeld ?_ ?_
  rotate_left
  ·rintro w' ⟨s0,s1⟩
   go_simp
   with_reducible rfl
  rotate_left
  ·simp only [Act.put,List.setIfInBounds_toArray,List.set_cons_zero,List.set_cons_succ,i64_w,i32_w]
   rfl
  refine take_ (i:=2) (N:=some 34) (v:=?_) (a':=?_) #[true,false,true,false] rfl rfl (by kernel_rfl) (fun _ _ _ h=>h) (Or.inl ⟨by rfl,?_⟩) hHeld ?_ ?_
  rotate_left
  ·rintro w' ⟨s0,s1⟩
   go_simp
   with_reducible rfl
  rotate_left
  ·simp only [Act.put,List.setIfInBounds_toArray,List.set_cons_zero,List.set_cons_succ,i64_w,i32_w]
   rfl
  refine one_ (i:=1) (N:=some 33) #[true,true,true,false] rfl rfl (by kernel_rfl) (by decide) (fun K hK=>?_)
  refine goes_ Try.func86 (by kernel_rfl) rfl #[.agg #[.int .i64 (wrap64 ((wrap64 (t154+t156))+(wrap64 ((IntKind.u64.wrap ((IntKind.u64.wrap (t155))+(IntKind.u64.wrap (t157))))/4611686018427387904)))),.int .i64 (wrap64 (Go.bits .and .u64 (IntKind.u64.wrap ((IntKind.u64.wrap (t155))+(IntKind.u64.wrap (t157)))) 4611686018427387903))]] (by rfl) rfl rfl (by exact mA _ _) ?_
  with_reducible refine(wide_known.calls (wrap64 ((wrap64 (t154+t156))+(wrap64 ((IntKind.u64.wrap ((IntKind.u64.wrap (t155))+(IntKind.u64.wrap (t157))))/4611686018427387904)))) (wrap64 (Go.bits .and .u64 (IntKind.u64.wrap ((IntKind.u64.wrap (t155))+(IntKind.u64.wrap (t157)))) 4611686018427387903)) t159 t160 _ A5.out).mono ?_
  rintro e w29 ⟨rfl,hb⟩
  refine⟨_,rfl,?_⟩
  have n0_:=Aside0.mk (blk_below (bk BK151.out) hb)
  have n1_:=Aside0.mk (blk_below (bk BK152.out) hb)
  have n2_:=Aside0.mk (blk_below (bk BK153.out) hb)
  have n3_:=Aside0.mk (blk_below (g:=gb158) (o:=.cells #[.int .i64 (wrap64 ((wrap64 (t154+t156))+(wrap64 ((IntKind.u64.wrap ((IntKind.u64.wrap (t155))+(IntKind.u64.wrap (t157))))/4611686018427387904)))),.int .i64 (wrap64 (Go.bits .and .u64 (IntKind.u64.wrap ((IntKind.u64.wrap (t155))+(IntKind.u64.wrap (t157)))) 4611686018427387903))] 59 (0,0)) (bk BK158.out) hb)
  have n4_:=Aside0.mk (below_step (by repeat (first|with_reducible exact HB.out|exact bl HB|refine bs ?_ GE151|refine bs ?_ GE152|refine bs ?_ GE153|refine bs ?_ GE158)) hb)
  clear BK151
  clear BK152
  clear BK153
  clear BK158
  clear HB
  have BK151:=n0_
  have BK152:=n1_
  have BK153:=n2_
  have BK158:=n3_
  have HB:=n4_
  clear n0_ n1_ n2_ n3_ n4_
  (try clear hb)
  (try clear hb2)
  (try clear hk)
  (try clear hi)
  refine hK.out _ _ ⟨(blk_cell BK158.out 0).trans rfl,(blk_cell BK158.out 1).trans rfl⟩ (fun hHeld=>?_)
  clear hK K
  refine norm_ (a':=?_) ?_ ?_
  rotate_left
  ·show Act.put _ (some 33) _=_
   simp only [Act.put,List.setIfInBounds_toArray,List.set_cons_zero,List.set_cons_succ,i64_w,i32_w]
   rfl
  refine pure_ (i:=3) (N:=some 35) (v:=?_) (a':=?_) #[true,true,true,true] rfl rfl (by kernel_rfl) (fun _ _ _ h=>h) (Or.inl ⟨by rfl,?_⟩) ?_ ?_
  rotate_left
  ·intro w'
   go_simp
   with_reducible rfl
  rotate_left
  ·simp only [Act.put,List.setIfInBounds_toArray,List.set_cons_zero,List.set_cons_succ,i64_w,i32_w]
   rfl
  refine done_ (by kernel_rfl) ?_
  have hcz30_0:w29.cell? ⟨gb153,0,none⟩=some (.int .i64 0):=(blk_cell BK153.out 0).trans rfl
  have hcz30_1:w29.cell? ⟨gb153,1,none⟩=some (.int .i64 0):=(blk_cell BK153.out 1).trans rfl
  have hfz30_0:=blk_frozen BK153.out 0
  have hfz30_1:=blk_frozen BK153.out 1
  try go_wp2
  refine bodyPost_ret (results_ct rfl _ _ gb153 59 #[.int .i64 0,.int .i64 0] (0,0) _ rfl (by try refine bk ?_;refine blk_put (cs:=#[.int .i64 0,.int .i64 0]) ?_ 1 _ rfl;try refine bk ?_;refine blk_put (cs:=#[.int .i64 0,.int .i64 0]) ?_ 0 _ rfl;try refine bk ?_;exact BK153.out) Try.underlying59 rfl (by kernel_rfl)) rfl ?_
  exact⟨by first|rfl|(simp [errW_none,errW_some]<;>rfl)|(simp [*,errW_none,errW_some]<;>rfl),by repeat (first|with_reducible exact HB.out|exact bl HB|refine bs ?_ GE151|refine bs ?_ GE152|refine bs ?_ GE153|refine bs ?_ GE158)⟩
 ·rw [if_neg c6] at H
  have c6b0:(!(t159 == (wrap64 ((wrap64 (t154+t156))+(wrap64 ((IntKind.u64.wrap ((IntKind.u64.wrap (t155))+(IntKind.u64.wrap (t157))))/4611686018427387904))))) || (!(t160 == (wrap64 (Go.bits .and .u64 (IntKind.u64.wrap ((IntKind.u64.wrap (t155))+(IntKind.u64.wrap (t157)))) 4611686018427387903)))))=false:=by simpa using c6
  clear c6
  simp only [Option.some.injEq,Prod.mk.injEq] at H
  obtain⟨rfl,rfl,rfl⟩:=H
  go_enter Try.func75,Try.ntmps75
  try go_wp2_with (first|((with_reducible refine gate_dst (N:=2) rfl ?_);refine box_event ?hg (N:=2) ?hd (cs:=#[.int .i64 a0_0,.int .i64 a0_1]) (t:=59) ?hr ?_;(case hd=>rfl);(case hg=>rfl);(case hr=>first|(go_simp;done)|(go_simp;rfl));intro gb151 hg w31 hbox hb;have n0_:=Aside0.mk (below_step (by first|with_reducible exact HB.out|exact bl HB) hb);have n1_:=Aside0.mk (hbox);have n2_:=Aside0.mk ((by rw [hg];exact(below_size (by first|with_reducible exact HB.out|exact bl HB)):w.heap.size≤gb151));have n3_:=Aside0.mk ((by rw [hg];exact(below_size (by first|with_reducible exact HB.out|exact bl HB)):w.heap.size≤gb151));clear HB;have HB:=n0_;have BK151:=n1_;have GW151:=n2_;have GE151:=n3_;clear n0_ n1_ n2_ n3_;clear hb hbox hg)|((with_reducible refine gate_dst (N:=3) rfl ?_);refine box_event ?hg (N:=3) ?hd (cs:=#[.int .i64 a1_0,.int .i64 a1_1]) (t:=59) ?hr ?_;(case hd=>rfl);(case hg=>rfl);(case hr=>first|(go_simp;done)|(go_simp;rfl));intro gb152 hg w32 hbox hb;have n0_:=Aside0.mk (blk_below (bk BK151.out) hb);have n1_:=Aside0.mk (below_step (by repeat (first|with_reducible exact HB.out|exact bl HB|refine bs ?_ GE151)) hb);have n2_:=Aside0.mk (hbox);have n3_:=Aside0.mk ((by rw [hg];exact(below_size (by repeat (first|with_reducible exact HB.out|exact bl HB|refine bs ?_ GE151))):w.heap.size≤gb152));have n4_:=Aside0.mk ((by rw [hg];exact(below_size (by repeat (first|with_reducible exact HB.out|exact bl HB|refine bs ?_ GE151))):w.heap.size≤gb152));have n5_:=Aside0.mk ((by rw [hg];exact Nat.ne_of_lt (blk_lt (bk BK151.out)):gb151≠gb152));have n6_:=Aside0.mk ((by rw [hg];exact Nat.ne_of_gt (blk_lt (bk BK151.out)):gb152≠gb151));clear BK151;clear HB;have BK151:=n0_;have HB:=n1_;have BK152:=n2_;have GW152:=n3_;have GE152:=n4_;have NB151_152:=n5_;have NB152_151:=n6_;clear n0_ n1_ n2_ n3_ n4_ n5_ n6_;clear hb hbox hg)|((with_reducible refine gate_dst (N:=4) rfl ?_);refine box_event ?hg (N:=4) ?hd (cs:=#[.int .i64 0,.int .i64 0]) (t:=59) ?hr ?_;(case hd=>rfl);(case hg=>rfl);(case hr=>first|(go_simp;done)|(go_simp;rfl));intro gb153 hg w33 hbox hb;have n0_:=Aside0.mk (blk_below (bk BK151.out) hb);have n1_:=Aside0.mk (blk_below (bk BK152.out) hb);have n2_:=Aside0.mk (below_step (by repeat (first|with_reducible exact HB.out|exact bl HB|refine bs ?_ GE151|refine bs ?_ GE152)) hb);have n3_:=Aside0.mk (hbox);have n4_:=Aside0.mk ((by rw [hg];exact(below_size (by repeat (first|with_reducible exact HB.out|exact bl HB|refine bs ?_ GE151|refine bs ?_ GE152))):w.heap.size≤gb153));have n5_:=Aside0.mk ((by rw [hg];exact(below_size (by repeat (first|with_reducible exact HB.out|exact bl HB|refine bs ?_ GE151|refine bs ?_ GE152))):w.heap.size≤gb153));have n6_:=Aside0.mk ((by rw [hg];exact Nat.ne_of_lt (blk_lt (bk BK151.out)):gb151≠gb153));have n7_:=Aside0.mk ((by rw [hg];exact Nat.ne_of_gt (blk_lt (bk BK151.out)):gb153≠gb151));have n8_:=Aside0.mk ((by rw [hg];exact Nat.ne_of_lt (blk_lt (bk BK152.out)):gb152≠gb153));have n9_:=Aside0.mk ((by rw [hg];exact Nat.ne_of_gt (blk_lt (bk BK152.out)):gb153≠gb152));clear BK151;clear BK152;clear HB;have BK151:=n0_;have BK152:=n1_;have HB:=n2_;have BK153:=n3_;have GW153:=n4_;have GE153:=n5_;have NB151_153:=n6_;have NB153_151:=n7_;have NB152_153:=n8_;have NB153_152:=n9_;clear n0_ n1_ n2_ n3_ n4_ n5_ n6_ n7_ n8_ n9_;clear hb hbox hg))
  have n0_:=Aside0.mk (blk_drew BK151.out)
  have n1_:=Aside0.mk (blk_drew BK152.out)
  have n2_:=Aside0.mk (blk_drew BK153.out)
  have n3_:=Aside0.mk (below_drew1 HB.out)
  clear BK151
  clear BK152
  clear BK153
  clear HB
  have BK151:=n0_
  have BK152:=n1_
  have BK153:=n2_
  have HB:=n3_
  clear n0_ n1_ n2_ n3_
  refine start_ (n:=6) (S:=fun w'=>w'.cell? ⟨gb151,0,none⟩=some (.int .i64 a0_0)∧w'.cell? ⟨gb151,1,none⟩=some (.int .i64 a0_1)∧w'.cell? ⟨gb152,0,none⟩=some (.int .i64 a1_0)∧w'.cell? ⟨gb152,1,none⟩=some (.int .i64 a1_1)) (ds:=[4,5]) #[ff,ff,ff,ff,ff,ff] (by kernel_rfl) rfl rfl ⟨(blk_cell BK151.out 0).trans rfl,(blk_cell BK151.out 1).trans rfl,(blk_cell BK152.out 0).trans rfl,(blk_cell BK152.out 1).trans rfl⟩ (fun hHeld=>?_)
  generalize w33.drew=w34 at BK151 BK152 BK153 HB hHeld ⊢
  refine take_ (i:=0) (N:=some 8) (v:=?_) (a':=?_) #[tt,ff,ff,ff,ff,ff] rfl rfl (by kernel_rfl) (fun _ _ _ h=>h) (Or.inl ⟨by rfl,?_⟩) hHeld ?_ ?_
  rotate_left
  ·rintro w' ⟨s0,s1,s2,s3⟩
   go_simp
   with_reducible rfl
  rotate_left
  ·simp only [Act.put,List.setIfInBounds_toArray,List.set_cons_zero,List.set_cons_succ,i64_w,i32_w]
   rfl
  refine take_ (i:=2) (N:=some 10) (v:=?_) (a':=?_) #[tt,ff,tt,ff,ff,ff] rfl rfl (by kernel_rfl) (fun _ _ _ h=>h) (Or.inl ⟨by rfl,?_⟩) hHeld ?_ ?_
  rotate_left
  ·rintro w' ⟨s0,s1,s2,s3⟩
   go_simp
   with_reducible rfl
  rotate_left
  ·simp only [Act.put,List.setIfInBounds_toArray,List.set_cons_zero,List.set_cons_succ,i64_w,i32_w]
   rfl
  refine one_ (i:=1) (N:=some 9) #[tt,tt,tt,ff,ff,ff] rfl rfl (by kernel_rfl) (by decide) (fun K hK=>?_)
  refine goes_ Try.func86 (by kernel_rfl) rfl #[.agg #[.int .i64 a0_0,.int .i64 a0_1]] (by rfl) rfl rfl (by exact mA _ _) ?_
  with_reducible refine(wide_known.calls a0_0 a0_1 t154 t155 _ A3.out).mono ?_
  rintro e w35 ⟨rfl,hb⟩
  refine⟨_,rfl,?_⟩
  have n0_:=Aside0.mk (blk_below (bk BK151.out) hb)
  have n1_:=Aside0.mk (blk_below (bk BK152.out) hb)
  have n2_:=Aside0.mk (blk_below (bk BK153.out) hb)
  have n3_:=Aside0.mk (below_step (by repeat (first|with_reducible exact HB.out|exact bl HB|refine bs ?_ GE151|refine bs ?_ GE152|refine bs ?_ GE153)) hb)
  clear BK151
  clear BK152
  clear BK153
  clear HB
  have BK151:=n0_
  have BK152:=n1_
  have BK153:=n2_
  have HB:=n3_
  clear n0_ n1_ n2_ n3_
  (try clear hb)
  (try clear hb2)
  (try clear hk)
  (try clear hi)
  refine hK.out _ _ ⟨(blk_cell BK151.out 0).trans rfl,(blk_cell BK151.out 1).trans rfl,(blk_cell BK152.out 0).trans rfl,(blk_cell BK152.out 1).trans rfl⟩ (fun hHeld=>?_)
  clear hK K
  refine norm_ (a':=?_) ?_ ?_
  rotate_left
  ·show Act.put _ (some 9) _=_
   simp only [Act.put,List.setIfInBounds_toArray,List.set_cons_zero,List.set_cons_succ,i64_w,i32_w]
   rfl
  refine one_ (i:=3) (N:=some 11) #[tt,tt,tt,tt,ff,ff] rfl rfl (by kernel_rfl) (by decide) (fun K hK=>?_)
  refine goes_ Try.func86 (by kernel_rfl) rfl #[.agg #[.int .i64 a1_0,.int .i64 a1_1]] (by rfl) rfl rfl (by exact mA _ _) ?_
  with_reducible refine(wide_known.calls a1_0 a1_1 t156 t157 _ A4.out).mono ?_
  rintro e w36 ⟨rfl,hb⟩
  refine⟨_,rfl,?_⟩
  have n0_:=Aside0.mk (blk_below (bk BK151.out) hb)
  have n1_:=Aside0.mk (blk_below (bk BK152.out) hb)
  have n2_:=Aside0.mk (blk_below (bk BK153.out) hb)
  have n3_:=Aside0.mk (below_step (by repeat (first|with_reducible exact HB.out|exact bl HB|refine bs ?_ GE151|refine bs ?_ GE152|refine bs ?_ GE153)) hb)
  clear BK151
  clear BK152
  clear BK153
  clear HB
  have BK151:=n0_
  have BK152:=n1_
  have BK153:=n2_
  have HB:=n3_
  clear n0_ n1_ n2_ n3_
  (try clear hb)
  (try clear hb2)
  (try clear hk)
  (try clear hi)
  refine hK.out _ _ ⟨(blk_cell BK151.out 0).trans rfl,(blk_cell BK151.out 1).trans rfl,(blk_cell BK152.out 0).trans rfl,(blk_cell BK152.out 1).trans rfl⟩ (fun hHeld=>?_)
  clear hK K
  refine norm_ (a':=?_) ?_ ?_
  rotate_left
  ·show Act.put _ (some 11) _=_
   simp only [Act.put,List.setIfInBounds_toArray,List.set_cons_zero,List.set_cons_succ,i64_w,i32_w]
   rfl
  refine last_ (i:=4) (N:=none) #[tt,tt,tt,tt,tt,ff] rfl rfl (by kernel_rfl) (by decide) (fun K hK=>?_)
  have hs37:w36.cell? ⟨gb151,0,none⟩=some (.int .i64 a0_0):=(blk_cell BK151.out 0).trans rfl
  have hfs37:=blk_frozen BK151.out 0
  have hns37_1:=NB152_151.out
  have hns37_2:=NB153_151.out
  have hms37_1:=NB151_152.out
  have hms37_2:=NB151_153.out
  have hs38:w36.cell? ⟨gb151,1,none⟩=some (.int .i64 a0_1):=(blk_cell BK151.out 1).trans rfl
  have hfs38:=blk_frozen BK151.out 1
  have hns38_1:=NB152_151.out
  have hns38_2:=NB153_151.out
  have hms38_1:=NB151_152.out
  have hms38_2:=NB151_153.out
  refine skip_ (w1:=?_) (by rfl) rfl ?_ ?_
  rotate_left
  ·go_simp
   rfl
  refine hK.out _ _ ?_
  clear hK K
  refine last_ (i:=5) (N:=none) #[tt,tt,tt,tt,tt,tt] rfl rfl (by kernel_rfl) (by decide) (fun K hK=>?_)
  have hs39:w36.cell? ⟨gb152,0,none⟩=some (.int .i64 a1_0):=(blk_cell BK152.out 0).trans rfl
  have hfs39:=blk_frozen BK152.out 0
  have hns39_0:=NB151_152.out
  have hns39_2:=NB153_152.out
  have hms39_0:=NB152_151.out
  have hms39_2:=NB152_153.out
  have hs40:w36.cell? ⟨gb152,1,none⟩=some (.int .i64 a1_1):=(blk_cell BK152.out 1).trans rfl
  have hfs40:=blk_frozen BK152.out 1
  have hns40_0:=NB151_152.out
  have hns40_2:=NB153_152.out
  have hms40_0:=NB152_151.out
  have hms40_2:=NB152_153.out
  refine skip_ (w1:=?_) (by rfl) rfl ?_ ?_
  rotate_left
  ·go_simp
   rfl
  refine hK.out _ _ ?_
  clear hK K
  refine done_ (by kernel_rfl) ?_
  have hnb41:=NB151_152.out
  have hnc41:=NB152_151.out
  have hnb42:=NB151_153.out
  have hnc42:=NB153_151.out
  have hcz43_0:w36.cell? ⟨gb151,0,none⟩=some (.int .i64 a0_0):=(blk_cell BK151.out 0).trans rfl
  have hcz43_1:w36.cell? ⟨gb151,1,none⟩=some (.int .i64 a0_1):=(blk_cell BK151.out 1).trans rfl
  have hfz43_0:=blk_frozen BK151.out 0
  have hfz43_1:=blk_frozen BK151.out 1
  have hnb44:=NB152_153.out
  have hnc44:=NB153_152.out
  have hcz45_0:w36.cell? ⟨gb152,0,none⟩=some (.int .i64 a1_0):=(blk_cell BK152.out 0).trans rfl
  have hcz45_1:w36.cell? ⟨gb152,1,none⟩=some (.int .i64 a1_1):=(blk_cell BK152.out 1).trans rfl
  have hfz45_0:=blk_frozen BK152.out 0
  have hfz45_1:=blk_frozen BK152.out 1
  try go_wp2_with (first|((with_reducible refine gate_dst (N:=7) rfl ?_);refine box_event ?hg (N:=7) ?hd (cs:=#[.int .i64 0,.int .i64 0]) (t:=59) ?hr ?_;(case hd=>rfl);(case hg=>rfl);(case hr=>first|(go_simp;done)|(go_simp;rfl));intro gb158 hg w46 hbox hb;have n0_:=Aside0.mk (blk_below (g:=gb151) (o:=.cells #[.int .i64 t154,.int .i64 t155] 59 (0,0)) (by try refine bk ?_;refine blk_far ?_ NB151_152.out _;try refine bk ?_;refine blk_far ?_ NB151_152.out _;try refine bk ?_;refine blk_put (cs:=#[.int .i64 t154,.int .i64 a0_1]) ?_ 1 _ rfl;try refine bk ?_;refine blk_put (cs:=#[.int .i64 a0_0,.int .i64 a0_1]) ?_ 0 _ rfl;try refine bk ?_;exact BK151.out) hb);have n1_:=Aside0.mk (blk_below (g:=gb152) (o:=.cells #[.int .i64 t156,.int .i64 t157] 59 (0,0)) (by try refine bk ?_;refine blk_put (cs:=#[.int .i64 t156,.int .i64 a1_1]) ?_ 1 _ rfl;try refine bk ?_;refine blk_put (cs:=#[.int .i64 a1_0,.int .i64 a1_1]) ?_ 0 _ rfl;try refine bk ?_;refine blk_far ?_ NB152_151.out _;try refine bk ?_;refine blk_far ?_ NB152_151.out _;try refine bk ?_;exact BK152.out) hb);have n2_:=Aside0.mk (blk_below (g:=gb153) (o:=.cells #[.int .i64 0,.int .i64 0] 59 (0,0)) (by try refine bk ?_;refine blk_far ?_ NB153_152.out _;try refine bk ?_;refine blk_far ?_ NB153_152.out _;try refine bk ?_;refine blk_far ?_ NB153_151.out _;try refine bk ?_;refine blk_far ?_ NB153_151.out _;try refine bk ?_;exact BK153.out) hb);have n3_:=Aside0.mk (below_step (by repeat (first|with_reducible exact HB.out|exact bl HB|refine bs ?_ GE151|refine bs ?_ GE152|refine bs ?_ GE153)) hb);have n4_:=Aside0.mk (hbox);have n5_:=Aside0.mk ((by rw [hg];exact(below_size (by repeat (first|with_reducible exact HB.out|exact bl HB|refine bs ?_ GE151|refine bs ?_ GE152|refine bs ?_ GE153))):w.heap.size≤gb158));have n6_:=Aside0.mk ((by rw [hg];exact(below_size (by repeat (first|with_reducible exact HB.out|exact bl HB|refine bs ?_ GE151|refine bs ?_ GE152|refine bs ?_ GE153))):w.heap.size≤gb158));have n7_:=Aside0.mk ((by rw [hg];exact Nat.ne_of_lt (blk_lt (g:=gb151) (o:=.cells #[.int .i64 t154,.int .i64 t155] 59 (0,0)) (by try refine bk ?_;refine blk_far ?_ NB151_152.out _;try refine bk ?_;refine blk_far ?_ NB151_152.out _;try refine bk ?_;refine blk_put (cs:=#[.int .i64 t154,.int .i64 a0_1]) ?_ 1 _ rfl;try refine bk ?_;refine blk_put (cs:=#[.int .i64 a0_0,.int .i64 a0_1]) ?_ 0 _ rfl;try refine bk ?_;exact BK151.out)):gb151≠gb158));have n8_:=Aside0.mk ((by rw [hg];exact Nat.ne_of_gt (blk_lt (g:=gb151) (o:=.cells #[.int .i64 t154,.int .i64 t155] 59 (0,0)) (by try refine bk ?_;refine blk_far ?_ NB151_152.out _;try refine bk ?_;refine blk_far ?_ NB151_152.out _;try refine bk ?_;refine blk_put (cs:=#[.int .i64 t154,.int .i64 a0_1]) ?_ 1 _ rfl;try refine bk ?_;refine blk_put (cs:=#[.int .i64 a0_0,.int .i64 a0_1]) ?_ 0 _ rfl;try refine bk ?_;exact BK151.out)):gb158≠gb151));have n9_:=Aside0.mk ((by rw [hg];exact Nat.ne_of_lt (blk_lt (g:=gb152) (o:=.cells #[.int .i64 t156,.int .i64 t157] 59 (0,0)) (by try refine bk ?_;refine blk_put (cs:=#[.int .i64 t156,.int .i64 a1_1]) ?_ 1 _ rfl;try refine bk ?_;refine blk_put (cs:=#[.int .i64 a1_0,.int .i64 a1_1]) ?_ 0 _ rfl;try refine bk ?_;refine blk_far ?_ NB152_151.out _;try refine bk ?_;refine blk_far ?_ NB152_151.out _;try refine bk ?_;exact BK152.out)):gb152≠gb158));have n10_:=Aside0.mk ((by rw [hg];exact Nat.ne_of_gt (blk_lt (g:=gb152) (o:=.cells #[.int .i64 t156,.int .i64 t157] 59 (0,0)) (by try refine bk ?_;refine blk_put (cs:=#[.int .i64 t156,.int .i64 a1_1]) ?_ 1 _ rfl;try refine bk ?_;refine blk_put (cs:=#[.int .i64 a1_0,.int .i64 a1_1]) ?_ 0 _ rfl;try refine bk ?_;refine blk_far ?_ NB152_151.out _;try refine bk ?_;refine blk_far ?_ NB152_151.out _;try refine bk ?_;exact BK152.out)):gb158≠gb152));have n11_:=Aside0.mk ((by rw [hg];exact Nat.ne_of_lt (blk_lt (g:=gb153) (o:=.cells #[.int .i64 0,.int .i64 0] 59 (0,0)) (by try refine bk ?_;refine blk_far ?_ NB153_152.out _;try refine bk ?_;refine blk_far ?_ NB153_152.out _;try refine bk ?_;refine blk_far ?_ NB153_151.out _;try refine bk ?_;refine blk_far ?_ NB153_151.out _;try refine bk ?_;exact BK153.out)):gb153≠gb158));have n12_:=Aside0.mk ((by rw [hg];exact Nat.ne_of_gt (blk_lt (g:=gb153) (o:=.cells #[.int .i64 0,.int .i64 0] 59 (0,0)) (by try refine bk ?_;refine blk_far ?_ NB153_152.out _;try refine bk ?_;refine blk_far ?_ NB153_152.out _;try refine bk ?_;refine blk_far ?_ NB153_151.out _;try refine bk ?_;refine blk_far ?_ NB153_151.out _;try refine bk ?_;exact BK153.out)):gb158≠gb153));clear BK151;clear BK152;clear BK153;clear HB;have BK151:=n0_;have BK152:=n1_;have BK153:=n2_;have HB:=n3_;have BK158:=n4_;have GW158:=n5_;have GE158:=n6_;have NB151_158:=n7_;have NB158_151:=n8_;have NB152_158:=n9_;have NB158_152:=n10_;have NB153_158:=n11_;have NB158_153:=n12_;clear n0_ n1_ n2_ n3_ n4_ n5_ n6_ n7_ n8_ n9_ n10_ n11_ n12_;clear hb hbox hg;have hnb47:=NB158_151.out;have hnc47:=NB151_158.out;have hnb48:=NB158_152.out;have hnc48:=NB152_158.out;have hnb49:=NB158_153.out;have hnc49:=NB153_158.out;have hcz50_0:w46.cell? ⟨gb158,0,none⟩=some (.int .i64 0):=(blk_cell BK158.out 0).trans rfl;have hcz50_1:w46.cell? ⟨gb158,1,none⟩=some (.int .i64 0):=(blk_cell BK158.out 1).trans rfl;have hfz50_0:=blk_frozen BK158.out 0;have hfz50_1:=blk_frozen BK158.out 1))
  have n0_:Aside0 (((w46.setCell ⟨gb158,0,none⟩ (.int .i64 (wrap64 ((wrap64 (t154+t156))+(wrap64 ((IntKind.u64.wrap ((IntKind.u64.wrap (t155))+(IntKind.u64.wrap (t157))))/4611686018427387904)))))).setCell ⟨gb158,1,none⟩ (.int .i64 (wrap64 (Go.bits .and .u64 (IntKind.u64.wrap ((IntKind.u64.wrap (t155))+(IntKind.u64.wrap (t157)))) 4611686018427387903)))).heap[gb151]? = some (.cells #[.int .i64 t154,.int .i64 t155] 59 (0,0))):=⟨by try refine bk ?_;refine blk_far ?_ NB151_158.out _;try refine bk ?_;refine blk_far ?_ NB151_158.out _;try refine bk ?_;exact BK151.out⟩
  have n1_:Aside0 (((w46.setCell ⟨gb158,0,none⟩ (.int .i64 (wrap64 ((wrap64 (t154+t156))+(wrap64 ((IntKind.u64.wrap ((IntKind.u64.wrap (t155))+(IntKind.u64.wrap (t157))))/4611686018427387904)))))).setCell ⟨gb158,1,none⟩ (.int .i64 (wrap64 (Go.bits .and .u64 (IntKind.u64.wrap ((IntKind.u64.wrap (t155))+(IntKind.u64.wrap (t157)))) 4611686018427387903)))).heap[gb152]? = some (.cells #[.int .i64 t156,.int .i64 t157] 59 (0,0))):=⟨by try refine bk ?_;refine blk_far ?_ NB152_158.out _;try refine bk ?_;refine blk_far ?_ NB152_158.out _;try refine bk ?_;exact BK152.out⟩
  have n2_:Aside0 (((w46.setCell ⟨gb158,0,none⟩ (.int .i64 (wrap64 ((wrap64 (t154+t156))+(wrap64 ((IntKind.u64.wrap ((IntKind.u64.wrap (t155))+(IntKind.u64.wrap (t157))))/4611686018427387904)))))).setCell ⟨gb158,1,none⟩ (.int .i64 (wrap64 (Go.bits .and .u64 (IntKind.u64.wrap ((IntKind.u64.wrap (t155))+(IntKind.u64.wrap (t157)))) 4611686018427387903)))).heap[gb153]? = some (.cells #[.int .i64 0,.int .i64 0] 59 (0,0))):=⟨by try refine bk ?_;refine blk_far ?_ NB153_158.out _;try refine bk ?_;refine blk_far ?_ NB153_158.out _;try refine bk ?_;exact BK153.out⟩
  have n3_:Aside0 (((w46.setCell ⟨gb158,0,none⟩ (.int .i64 (wrap64 ((wrap64 (t154+t156))+(wrap64 ((IntKind.u64.wrap ((IntKind.u64.wrap (t155))+(IntKind.u64.wrap (t157))))/4611686018427387904)))))).setCell ⟨gb158,1,none⟩ (.int .i64 (wrap64 (Go.bits .and .u64 (IntKind.u64.wrap ((IntKind.u64.wrap (t155))+(IntKind.u64.wrap (t157)))) 4611686018427387903)))).heap[gb158]? = some (.cells #[.int .i64 (wrap64 ((wrap64 (t154+t156))+(wrap64 ((IntKind.u64.wrap ((IntKind.u64.wrap (t155))+(IntKind.u64.wrap (t157))))/4611686018427387904)))),.int .i64 (wrap64 (Go.bits .and .u64 (IntKind.u64.wrap ((IntKind.u64.wrap (t155))+(IntKind.u64.wrap (t157)))) 4611686018427387903))] 59 (0,0))):=⟨by try refine bk ?_;refine blk_put (cs:=#[.int .i64 (wrap64 ((wrap64 (t154+t156))+(wrap64 ((IntKind.u64.wrap ((IntKind.u64.wrap (t155))+(IntKind.u64.wrap (t157))))/4611686018427387904)))),.int .i64 0]) ?_ 1 _ rfl;try refine bk ?_;refine blk_put (cs:=#[.int .i64 0,.int .i64 0]) ?_ 0 _ rfl;try refine bk ?_;exact BK158.out⟩
  have n4_:Aside0 (Below w.heap.size w ((w46.setCell ⟨gb158,0,none⟩ (.int .i64 (wrap64 ((wrap64 (t154+t156))+(wrap64 ((IntKind.u64.wrap ((IntKind.u64.wrap (t155))+(IntKind.u64.wrap (t157))))/4611686018427387904)))))).setCell ⟨gb158,1,none⟩ (.int .i64 (wrap64 (Go.bits .and .u64 (IntKind.u64.wrap ((IntKind.u64.wrap (t155))+(IntKind.u64.wrap (t157)))) 4611686018427387903))))):=⟨by repeat (first|with_reducible exact HB.out|exact bl HB|refine bs ?_ GE151|refine bs ?_ GE152|refine bs ?_ GE153|refine bs ?_ GE158)⟩
  (try clear BK151)
  (try clear BK152)
  (try clear BK153)
  (try clear BK158)
  (try clear HB)
  generalize ((w46.setCell ⟨gb158,0,none⟩ (.int .i64 (wrap64 ((wrap64 (t154+t156))+(wrap64 ((IntKind.u64.wrap ((IntKind.u64.wrap (t155))+(IntKind.u64.wrap (t157))))/4611686018427387904)))))).setCell ⟨gb158,1,none⟩ (.int .i64 (wrap64 (Go.bits .and .u64 (IntKind.u64.wrap ((IntKind.u64.wrap (t155))+(IntKind.u64.wrap (t157)))) 4611686018427387903))))=w51 at n0_ n1_ n2_ n3_ n4_ ⊢
  have BK151:=n0_
  have BK152:=n1_
  have BK153:=n2_
  have BK158:=n3_
  have HB:=n4_
  clear n0_ n1_ n2_ n3_ n4_
  have n0_:=Aside0.mk (blk_drew BK151.out)
  have n1_:=Aside0.mk (blk_drew BK152.out)
  have n2_:=Aside0.mk (blk_drew BK153.out)
  have n3_:=Aside0.mk (blk_drew BK158.out)
  have n4_:=Aside0.mk (below_drew1 HB.out)
  clear BK151
  clear BK152
  clear BK153
  clear BK158
  clear HB
  have BK151:=n0_
  have BK152:=n1_
  have BK153:=n2_
  have BK158:=n3_
  have HB:=n4_
  clear n0_ n1_ n2_ n3_ n4_
  refine start_ (n:=4) (S:=fun w'=>w'.cell? ⟨gb158,0,none⟩=some (.int .i64 (wrap64 ((wrap64 (t154+t156))+(wrap64 ((IntKind.u64.wrap ((IntKind.u64.wrap (t155))+(IntKind.u64.wrap (t157))))/4611686018427387904)))))∧w'.cell? ⟨gb158,1,none⟩=some (.int .i64 (wrap64 (Go.bits .and .u64 (IntKind.u64.wrap ((IntKind.u64.wrap (t155))+(IntKind.u64.wrap (t157)))) 4611686018427387903)))) (ds:=[]) #[false,false,false,false] (by kernel_rfl) rfl rfl ⟨(blk_cell BK158.out 0).trans rfl,(blk_cell BK158.out 1).trans rfl⟩ (fun hHeld=>?_)
  generalize w51.drew=w52 at BK151 BK152 BK153 BK158 HB hHeld ⊢
  refine take_ (i:=0) (N:=some 32) (v:=?_) (a':=?_) #[true,false,false,false] rfl rfl (by kernel_rfl) (fun _ _ _ h=>h) (Or.inl ⟨by rfl,?_⟩) hHeld ?_ ?_
  rotate_left
  ·rintro w' ⟨s0,s1⟩
   go_simp
   with_reducible rfl
  rotate_left
  ·simp only [Act.put,List.setIfInBounds_toArray,List.set_cons_zero,List.set_cons_succ,i64_w,i32_w]
   rfl
  refine take_ (i:=2) (N:=some 34) (v:=?_) (a':=?_) #[true,false,true,false] rfl rfl (by kernel_rfl) (fun _ _ _ h=>h) (Or.inl ⟨by rfl,?_⟩) hHeld ?_ ?_
  rotate_left
  ·rintro w' ⟨s0,s1⟩
   go_simp
   with_reducible rfl
  rotate_left
  ·simp only [Act.put,List.setIfInBounds_toArray,List.set_cons_zero,List.set_cons_succ,i64_w,i32_w]
   rfl
  refine one_ (i:=1) (N:=some 33) #[true,true,true,false] rfl rfl (by kernel_rfl) (by decide) (fun K hK=>?_)
  refine goes_ Try.func86 (by kernel_rfl) rfl #[.agg #[.int .i64 (wrap64 ((wrap64 (t154+t156))+(wrap64 ((IntKind.u64.wrap ((IntKind.u64.wrap (t155))+(IntKind.u64.wrap (t157))))/4611686018427387904)))),.int .i64 (wrap64 (Go.bits .and .u64 (IntKind.u64.wrap ((IntKind.u64.wrap (t155))+(IntKind.u64.wrap (t157)))) 4611686018427387903))]] (by rfl) rfl rfl (by exact mA _ _) ?_
  with_reducible refine(wide_known.calls (wrap64 ((wrap64 (t154+t156))+(wrap64 ((IntKind.u64.wrap ((IntKind.u64.wrap (t155))+(IntKind.u64.wrap (t157))))/4611686018427387904)))) (wrap64 (Go.bits .and .u64 (IntKind.u64.wrap ((IntKind.u64.wrap (t155))+(IntKind.u64.wrap (t157)))) 4611686018427387903)) t159 t160 _ A5.out).mono ?_
  rintro e w53 ⟨rfl,hb⟩
  refine⟨_,rfl,?_⟩
  have n0_:=Aside0.mk (blk_below (bk BK151.out) hb)
  have n1_:=Aside0.mk (blk_below (bk BK152.out) hb)
  have n2_:=Aside0.mk (blk_below (bk BK153.out) hb)
  have n3_:=Aside0.mk (blk_below (g:=gb158) (o:=.cells #[.int .i64 (wrap64 ((wrap64 (t154+t156))+(wrap64 ((IntKind.u64.wrap ((IntKind.u64.wrap (t155))+(IntKind.u64.wrap (t157))))/4611686018427387904)))),.int .i64 (wrap64 (Go.bits .and .u64 (IntKind.u64.wrap ((IntKind.u64.wrap (t155))+(IntKind.u64.wrap (t157)))) 4611686018427387903))] 59 (0,0)) (bk BK158.out) hb)
  have n4_:=Aside0.mk (below_step (by repeat (first|with_reducible exact HB.out|exact bl HB|refine bs ?_ GE151|refine bs ?_ GE152|refine bs ?_ GE153|refine bs ?_ GE158)) hb)
  clear BK151
  clear BK152
  clear BK153
  clear BK158
  clear HB
  have BK151:=n0_
  have BK152:=n1_
  have BK153:=n2_
  have BK158:=n3_
  have HB:=n4_
  clear n0_ n1_ n2_ n3_ n4_
  (try clear hb)
  (try clear hb2)
  (try clear hk)
  (try clear hi)
  refine hK.out _ _ ⟨(blk_cell BK158.out 0).trans rfl,(blk_cell BK158.out 1).trans rfl⟩ (fun hHeld=>?_)
  clear hK K
  refine norm_ (a':=?_) ?_ ?_
  rotate_left
  ·show Act.put _ (some 33) _=_
   simp only [Act.put,List.setIfInBounds_toArray,List.set_cons_zero,List.set_cons_succ,i64_w,i32_w]
   rfl
  refine pure_ (i:=3) (N:=some 35) (v:=?_) (a':=?_) #[true,true,true,true] rfl rfl (by kernel_rfl) (fun _ _ _ h=>h) (Or.inl ⟨by rfl,?_⟩) ?_ ?_
  rotate_left
  ·intro w'
   go_simp
   with_reducible rfl
  rotate_left
  ·simp only [Act.put,List.setIfInBounds_toArray,List.set_cons_zero,List.set_cons_succ,i64_w,i32_w]
   rfl
  refine done_ (by kernel_rfl) ?_
  have hcz54_0:w53.cell? ⟨gb158,0,none⟩=some (.int .i64 (wrap64 ((wrap64 (t154+t156))+(wrap64 ((IntKind.u64.wrap ((IntKind.u64.wrap (t155))+(IntKind.u64.wrap (t157))))/4611686018427387904))))):=(blk_cell BK158.out 0).trans rfl
  have hcz54_1:w53.cell? ⟨gb158,1,none⟩=some (.int .i64 (wrap64 (Go.bits .and .u64 (IntKind.u64.wrap ((IntKind.u64.wrap (t155))+(IntKind.u64.wrap (t157)))) 4611686018427387903))):=(blk_cell BK158.out 1).trans rfl
  have hfz54_0:=blk_frozen BK158.out 0
  have hfz54_1:=blk_frozen BK158.out 1
  have hcz55_0:w53.cell? ⟨gb153,0,none⟩=some (.int .i64 0):=(blk_cell BK153.out 0).trans rfl
  have hcz55_1:w53.cell? ⟨gb153,1,none⟩=some (.int .i64 0):=(blk_cell BK153.out 1).trans rfl
  have hfz55_0:=blk_frozen BK153.out 0
  have hfz55_1:=blk_frozen BK153.out 1
  try go_wp2
  refine bodyPost_ret (results_ct rfl _ _ gb153 59 #[.int .i64 (wrap64 ((wrap64 (t154+t156))+(wrap64 ((IntKind.u64.wrap ((IntKind.u64.wrap (t155))+(IntKind.u64.wrap (t157))))/4611686018427387904)))),.int .i64 (wrap64 (Go.bits .and .u64 (IntKind.u64.wrap ((IntKind.u64.wrap (t155))+(IntKind.u64.wrap (t157)))) 4611686018427387903))] (0,0) _ rfl (by try refine bk ?_;refine blk_put (cs:=#[.int .i64 (wrap64 ((wrap64 (t154+t156))+(wrap64 ((IntKind.u64.wrap ((IntKind.u64.wrap (t155))+(IntKind.u64.wrap (t157))))/4611686018427387904)))),.int .i64 0]) ?_ 1 _ rfl;try refine bk ?_;refine blk_put (cs:=#[.int .i64 0,.int .i64 0]) ?_ 0 _ rfl;try refine bk ?_;exact BK153.out) Try.underlying59 rfl (by kernel_rfl)) rfl ?_
  exact⟨by first|rfl|(simp [errW_none,errW_some]<;>rfl)|(simp [*,errW_none,errW_some]<;>rfl),by repeat (first|with_reducible exact HB.out|exact bl HB|refine bs ?_ GE151|refine bs ?_ GE152|refine bs ?_ GE153|refine bs ?_ GE158)⟩
def wide_Of.f (a0:Int):Option (Int × Int):=some (a0/4611686018427387904,Go.bits .and .i64 a0 4611686018427387903)
set_option maxHeartbeats 8000000 in
set_option maxRecDepth 100000 in
theorem wide_Of.calls (a0:Int) (r1:Int) (r2:Int) (w:World) (h:wide_Of.f a0=some (r1,r2)) :
  Calls Try.prog 76 #[.int .i64 a0] w fun e w'=>e=.returned (.agg #[.int .i64 r1,.int .i64 r2])∧Below w.heap.size w w':=by
 have hu59:=Try.underlying59
 have HB:=Aside0.mk (Below.refl w.heap.size w)
 have H:(some (a0/4611686018427387904,Go.bits .and .i64 a0 4611686018427387903))=some (r1,r2):=h
 clear h
 simp only [Option.some.injEq,Prod.mk.injEq] at H
 obtain⟨rfl,rfl⟩:=H
 go_enter Try.func76,Try.ntmps76
 go_wp2_with (first|((with_reducible refine gate_dst (N:=2) rfl ?_);refine box_event ?hg (N:=2) ?hd (cs:=#[.int .i64 0,.int .i64 0]) (t:=59) ?hr ?_;(case hd=>rfl);(case hg=>rfl);(case hr=>first|(go_simp;done)|(go_simp;rfl));intro gb161 hg w2 hbox hb;have n0_:=Aside0.mk (below_step (by first|with_reducible exact HB.out|exact bl HB) hb);have n1_:=Aside0.mk (hbox);have n2_:=Aside0.mk ((by rw [hg];exact(below_size (by first|with_reducible exact HB.out|exact bl HB)):w.heap.size≤gb161));have n3_:=Aside0.mk ((by rw [hg];exact(below_size (by first|with_reducible exact HB.out|exact bl HB)):w.heap.size≤gb161));clear HB;have HB:=n0_;have BK161:=n1_;have GW161:=n2_;have GE161:=n3_;clear n0_ n1_ n2_ n3_;clear hb hbox hg;have hcz3_0:w2.cell? ⟨gb161,0,none⟩=some (.int .i64 0):=(blk_cell BK161.out 0).trans rfl;have hcz3_1:w2.cell? ⟨gb161,1,none⟩=some (.int .i64 0):=(blk_cell BK161.out 1).trans rfl;have hfz3_0:=blk_frozen BK161.out 0;have hfz3_1:=blk_frozen BK161.out 1))
 refine bodyPost_ret (results_cell_row rfl _ _ gb161 59 #[.int .i64 (a0/4611686018427387904),.int .i64 (Go.bits .and .i64 a0 4611686018427387903)] (0,0) _ rfl (by try refine bk ?_;refine blk_put (cs:=#[.int .i64 (a0/4611686018427387904),.int .i64 0]) ?_ 1 _ rfl;try refine bk ?_;refine blk_put (cs:=#[.int .i64 0,.int .i64 0]) ?_ 0 _ rfl;try refine bk ?_;exact BK161.out) Try.underlying59 rfl (by kernel_rfl)) rfl ?_
 exact⟨by first|rfl|(simp [errW_none,errW_some]<;>rfl)|(simp [*,errW_none,errW_some]<;>rfl),by repeat (first|with_reducible exact HB.out|exact bl HB|refine bs ?_ GE161)⟩
end Go.Proofs.Ytonfobdknnlbjaa.B
end
section
set_option linter.unusedVariables false
set_option linter.unusedSimpArgs false
namespace Go.Proofs.Ytonfobdknnlbjaa.B
open Go.RowKit Go.Proofs.YtonfobdknnlbjaaW.PrintWords Go.Proofs.YtonfobdknnlbjaaW.PrintLast Go.Proofs.YtonfobdknnlbjaaW.PrintMore
attribute [local go_sem] max2_int min2_int max_two min_two max_three min_three max_four min_four
set_option linter.unusedVariables false
set_option linter.unusedSimpArgs false
attribute [local go_sem high] eqA59
def wide_Int.j0:Nat→Bool→Int→Int→Option (Int × Bool)
  | 0,_,_,_=>none
  | k+1,x15,x163000,x163001=>if x15=true then ((fix_Clamp.f (wrap64 ((wrap64 (x163000*4611686018427387904))+x163001))).bind fun bt165=>(some (bt165.1,!bt165.2))) else (if x163000<0 then (some ((-288230376151711744),false)) else (some (288230376151711744,false)))
def wide_Int.f (k:Nat) (a0_0:Int) (a0_1:Int):Option (Int × Bool):=(wide_known.f a0_0 a0_1).bind fun bt163=>(if bt163.1=0 then (wide_Int.j0 k true bt163.1 bt163.2) else (wide_Int.j0 k (bt163.1 == (-1)) bt163.1 bt163.2))
theorem wide_Int.mono_l:∀ k,(∀ y0 y1 y2,LeO (wide_Int.j0 k y0 y1 y2) (wide_Int.j0 (k+1) y0 y1 y2))
 | 0=>fun _ _ _ r h=>by simp [wide_Int.j0] at h
 | k+1=>by
  have ih0:=wide_Int.mono_l k
  ·intro y0 y1 y2
   unfold wide_Int.j0
   repeat' first
   | (with_reducible exact ih0 _ _ _)
   | (with_reducible exact LeO.refl _)
   | (with_reducible exact LeO.none _)
   | (with_reducible refine LeO.ite ?_ ?_)
   | (with_reducible refine LeO.bind ?_ (fun _=>?_))
   | exact ih0 _ _ _
   | exact LeO.none _
   | refine LeO.ite ?_ ?_
   | refine LeO.bind ?_ (fun _=>?_)
theorem wide_Int.mono:∀ a0 a1 k,LeO (wide_Int.f k a0 a1) (wide_Int.f (k+1) a0 a1):=by
 intro a0 a1 k
 have ih0:=wide_Int.mono_l k
 unfold wide_Int.f
 repeat' first
   | (with_reducible exact ih0 _ _ _)
   | (with_reducible exact LeO.refl _)
   | (with_reducible exact LeO.none _)
   | (with_reducible refine LeO.ite ?_ ?_)
   | (with_reducible refine LeO.bind ?_ (fun _=>?_))
   | exact ih0 _ _ _
   | exact LeO.none _
   | refine LeO.ite ?_ ?_
   | refine LeO.bind ?_ (fun _=>?_)
set_option maxHeartbeats 8000000 in
set_option maxRecDepth 100000 in
theorem wide_Int.calls (k:Nat) (a0_0:Int) (a0_1:Int) (r1:Int) (r2:Bool) (w:World) (h:wide_Int.f k a0_0 a0_1=some (r1,r2)) :
  Calls Try.prog 77 #[.agg #[.int .i64 a0_0,.int .i64 a0_1]] w fun e w'=>e=.returned (.tuple #[.int .i64 r1,.bool r2])∧Below w.heap.size w w':=by
 have hu59:=Try.underlying59
 have HB:=Aside0.mk (Below.refl w.heap.size w)
 have H:((wide_known.f a0_0 a0_1).bind fun bt163=>(if bt163.1=0 then (wide_Int.j0 k true bt163.1 bt163.2) else (wide_Int.j0 k (bt163.1 == (-1)) bt163.1 bt163.2)))=some (r1,r2):=h
 clear h
 replace H:=Option.bind_eq_some_iff.mp H
 obtain⟨⟨t163,t164⟩,A20,H⟩:=H
 replace H:(if t163=0 then (wide_Int.j0 k true t163 t164) else (wide_Int.j0 k (t163 == (-1)) t163 t164))=some (r1,r2):=H
 have A2:=Aside0.mk A20
 clear A20
 have HC3:=Aside0.mk H
 clear H
 go_enter Try.func77,Try.ntmps77
 go_upto_region 2 with (first|((with_reducible refine gate_dst (N:=1) rfl ?_);refine box_event ?hg (N:=1) ?hd (cs:=#[.int .i64 a0_0,.int .i64 a0_1]) (t:=59) ?hr ?_;(case hd=>rfl);(case hg=>rfl);(case hr=>first|(go_simp;done)|(go_simp;rfl));intro gb162 hg w4 hbox hb;have n0_:=Aside0.mk (below_step (by first|with_reducible exact HB.out|exact bl HB) hb);have n1_:=Aside0.mk (hbox);have n2_:=Aside0.mk ((by rw [hg];exact(below_size (by first|with_reducible exact HB.out|exact bl HB)):w.heap.size≤gb162));have n3_:=Aside0.mk ((by rw [hg];exact(below_size (by first|with_reducible exact HB.out|exact bl HB)):w.heap.size≤gb162));clear HB;have HB:=n0_;have BK162:=n1_;have GW162:=n2_;have GE162:=n3_;clear n0_ n1_ n2_ n3_;clear hb hbox hg;have hcz5_0:w4.cell? ⟨gb162,0,none⟩=some (.int .i64 a0_0):=(blk_cell BK162.out 0).trans rfl;have hcz5_1:w4.cell? ⟨gb162,1,none⟩=some (.int .i64 a0_1):=(blk_cell BK162.out 1).trans rfl;have hfz5_0:=blk_frozen BK162.out 0;have hfz5_1:=blk_frozen BK162.out 1)|((with_reducible refine gate_callee (f:=86) rfl ?_);refine goesL_ (some 7) rfl rfl Try.func86 (by kernel_rfl) rfl #[.agg #[.int .i64 a0_0,.int .i64 a0_1]] rfl (by exact mA _ _) ?_;(with_reducible refine(wide_known.calls a0_0 a0_1 t163 t164 _ A2.out).mono ?_);rintro e w6 ⟨rfl,hb⟩;refine⟨_,rfl,?_⟩;have n0_:=Aside0.mk (blk_below (bk BK162.out) hb);have n1_:=Aside0.mk (below_step (by repeat (first|with_reducible exact HB.out|exact bl HB|refine bs ?_ GE162)) hb);clear BK162;clear HB;have BK162:=n0_;have HB:=n1_;clear n0_ n1_;(try clear hb);(try clear hb2);(try clear hk);(try clear hi);have hcz7_0:w6.cell? ⟨gb162,0,none⟩=some (.int .i64 a0_0):=(blk_cell BK162.out 0).trans rfl;have hcz7_1:w6.cell? ⟨gb162,1,none⟩=some (.int .i64 a0_1):=(blk_cell BK162.out 1).trans rfl;have hfz7_0:=blk_frozen BK162.out 0;have hfz7_1:=blk_frozen BK162.out 1))
 (try simp only [Act.put,List.setIfInBounds_toArray,List.set_cons_zero,List.set_cons_succ])
 go_cut [15] (fun v15 wc=>∃ (kq:Nat) (x15_2:Bool),v15=.bool x15_2∧Aside0 (wide_Int.j0 kq x15_2 t163 t164=some (r1,r2))∧Aside0 (kq≤k)∧Aside0 (wc.heap[gb162]? = some (.cells #[.int .i64 t163,.int .i64 t164] 59 (0,0)))∧Aside0 (Below w.heap.size w wc))
 case first =>
  have H:=HC3.out
  clear HC3
  by_cases c8:t163=0
  ·rw [if_pos c8] at H
   have c8b0:(t163 == 0)=true:=beq_iff_eq.mpr c8
   have c8b1:(t163 != 0)=false:=bne_eq_false_iff_eq.mpr c8
   clear c8
   (first|rw [c8b0]|(simp only [i64_w,i32_w];rw [c8b0])|skip)
   have H':=Aside0.mk H
   clear H
   have hcz9_0:w6.cell? ⟨gb162,0,none⟩=some (.int .i64 a0_0):=(blk_cell BK162.out 0).trans rfl
   have hcz9_1:w6.cell? ⟨gb162,1,none⟩=some (.int .i64 a0_1):=(blk_cell BK162.out 1).trans rfl
   have hfz9_0:=blk_frozen BK162.out 0
   have hfz9_1:=blk_frozen BK162.out 1
   go_wp2
   go_meet
   case rel=>exact⟨_,(true),(by first|rfl|(simp;done)|(simp [*];done)),H',⟨by first|omega|exact Nat.le_refl _⟩,⟨by try refine bk ?_;refine blk_put (cs:=#[.int .i64 t163,.int .i64 a0_1]) ?_ 1 _ rfl;try refine bk ?_;refine blk_put (cs:=#[.int .i64 a0_0,.int .i64 a0_1]) ?_ 0 _ rfl;try refine bk ?_;exact BK162.out⟩,⟨by repeat (first|with_reducible exact HB.out|exact bl HB|refine bs ?_ GE162)⟩⟩
  ·rw [if_neg c8] at H
   have c8b0:(t163 == 0)=false:=beq_eq_false_iff_ne.mpr c8
   have c8b1:(t163 != 0)=true:=bne_iff_ne.mpr c8
   (first|rw [c8b0]|(simp only [i64_w,i32_w];rw [c8b0])|skip)
   have H':=Aside0.mk H
   clear H
   have hcz10_0:w6.cell? ⟨gb162,0,none⟩=some (.int .i64 a0_0):=(blk_cell BK162.out 0).trans rfl
   have hcz10_1:w6.cell? ⟨gb162,1,none⟩=some (.int .i64 a0_1):=(blk_cell BK162.out 1).trans rfl
   have hfz10_0:=blk_frozen BK162.out 0
   have hfz10_1:=blk_frozen BK162.out 1
   go_wp2
   go_meet
   case rel=>exact⟨_,((t163 == (-1))),(by first|rfl|(simp;done)|(simp [*];done)),H',⟨by first|omega|exact Nat.le_refl _⟩,⟨by try refine bk ?_;refine blk_put (cs:=#[.int .i64 t163,.int .i64 a0_1]) ?_ 1 _ rfl;try refine bk ?_;refine blk_put (cs:=#[.int .i64 a0_0,.int .i64 a0_1]) ?_ 0 _ rfl;try refine bk ?_;exact BK162.out⟩,⟨by repeat (first|with_reducible exact HB.out|exact bl HB|refine bs ?_ GE162)⟩⟩
 case rest =>
  clear HC3
  try clear p2
  try clear c7
  try clear c8
  try clear c8b0
  try clear c8b1
  try clear hcz10_0
  try clear hcz10_1
  try clear hcz5_0
  try clear hcz5_1
  try clear hcz7_0
  try clear hcz7_1
  try clear hcz9_0
  try clear hcz9_1
  try clear hfz10_0
  try clear hfz10_1
  try clear hfz5_0
  try clear hfz5_1
  try clear hfz7_0
  try clear hfz7_1
  try clear hfz9_0
  try clear hfz9_1
  obtain⟨kq,x15_2,rfl,HA,HJ2,BK162,HB⟩:=hcut
  cases kq with
  | zero=>exact absurd HA.out (by simp [wide_Int.j0])
  | succ kj2 =>
   have H:=HA.out
   clear HA
   simp only [wide_Int.j0] at H
   by_cases c11:x15_2=true
   ·subst c11
    have H1:((fix_Clamp.f (wrap64 ((wrap64 (t163*4611686018427387904))+t164))).bind fun bt165=>(some (bt165.1,!bt165.2)))=some (r1,r2):=by rw [if_pos rfl] at H;exact H
    clear H
    have H:=H1
    clear H1
    replace H:=Option.bind_eq_some_iff.mp H
    obtain⟨⟨t165,t166⟩,A120,H⟩:=H
    replace H:(some (t165,!t166))=some (r1,r2):=H
    have A12:=Aside0.mk A120
    clear A120
    simp only [Option.some.injEq,Prod.mk.injEq] at H
    obtain⟨rfl,rfl⟩:=H
    have hcz13_0:wc.cell? ⟨gb162,0,none⟩=some (.int .i64 t163):=(blk_cell BK162.out 0).trans rfl
    have hcz13_1:wc.cell? ⟨gb162,1,none⟩=some (.int .i64 t164):=(blk_cell BK162.out 1).trans rfl
    have hfz13_0:=blk_frozen BK162.out 0
    have hfz13_1:=blk_frozen BK162.out 1
    go_wp2_with (first|((with_reducible refine gate_callee (f:=19) rfl ?_);refine goesL_ (some 23) rfl rfl Try.func19 (by kernel_rfl) rfl #[.int .i64 (wrap64 ((wrap64 (t163*4611686018427387904))+t164))] rfl (by exact mA _ _) ?_;(with_reducible refine(fix_Clamp.calls (wrap64 ((wrap64 (t163*4611686018427387904))+t164)) t165 t166 _ A12.out).mono ?_);rintro e w14 ⟨rfl,hb⟩;refine⟨_,rfl,?_⟩;have n0_:=Aside0.mk (blk_below (bk BK162.out) hb);have n1_:=Aside0.mk (below_step (by repeat (first|with_reducible exact HB.out|exact bl HB|refine bs ?_ GE162)) hb);clear BK162;clear HB;have BK162:=n0_;have HB:=n1_;clear n0_ n1_;(try clear hb);(try clear hb2);(try clear hk);(try clear hi)))
    go_ret2
    exact⟨by first|rfl|(simp [errW_none,errW_some]<;>rfl)|(simp [*,errW_none,errW_some]<;>rfl),by repeat (first|with_reducible exact HB.out|exact bl HB|refine bs ?_ GE162)⟩
   ·replace c11:=Bool.eq_false_iff.mpr c11
    subst c11
    have H1:(if t163<0 then (some ((-288230376151711744),false)) else (some (288230376151711744,false)))=some (r1,r2):=by rw [if_neg (show ¬(false=true) by decide)] at H;exact H
    clear H
    have H:=H1
    clear H1
    by_cases c15:t163<0
    ·rw [if_pos c15] at H
     have c15b0:decide (t163<0)=true:=decide_eq_true c15
     clear c15
     simp only [Option.some.injEq,Prod.mk.injEq] at H
     obtain⟨rfl,rfl⟩:=H
     have hcz16_0:wc.cell? ⟨gb162,0,none⟩=some (.int .i64 t163):=(blk_cell BK162.out 0).trans rfl
     have hcz16_1:wc.cell? ⟨gb162,1,none⟩=some (.int .i64 t164):=(blk_cell BK162.out 1).trans rfl
     have hfz16_0:=blk_frozen BK162.out 0
     have hfz16_1:=blk_frozen BK162.out 1
     go_wp2
     go_ret2
     exact⟨by first|rfl|(simp [errW_none,errW_some]<;>rfl)|(simp [*,errW_none,errW_some]<;>rfl),by repeat (first|with_reducible exact HB.out|exact bl HB|refine bs ?_ GE162)⟩
    ·rw [if_neg c15] at H
     have c15b0:decide (t163<0)=false:=decide_eq_false c15
     clear c15
     simp only [Option.some.injEq,Prod.mk.injEq] at H
     obtain⟨rfl,rfl⟩:=H
     have hcz17_0:wc.cell? ⟨gb162,0,none⟩=some (.int .i64 t163):=(blk_cell BK162.out 0).trans rfl
     have hcz17_1:wc.cell? ⟨gb162,1,none⟩=some (.int .i64 t164):=(blk_cell BK162.out 1).trans rfl
     have hfz17_0:=blk_frozen BK162.out 0
     have hfz17_1:=blk_frozen BK162.out 1
     go_wp2
     go_ret2
     exact⟨by first|rfl|(simp [errW_none,errW_some]<;>rfl)|(simp [*,errW_none,errW_some]<;>rfl),by repeat (first|with_reducible exact HB.out|exact bl HB|refine bs ?_ GE162)⟩
end Go.Proofs.Ytonfobdknnlbjaa.B
end
