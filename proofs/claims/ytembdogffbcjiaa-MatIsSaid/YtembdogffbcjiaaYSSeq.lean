/- Lemmas of the row, laid by a program. -/
import Derived.RangeFuncNested
import Derived.RangeFuncBound
import Derived.RangeFuncCalls
import Derived.RangeFuncLeaves
import Derived.Shelf.Abstract
import Derived.WalkKit
import Derived.OwnWalkIn
import Derived.TacticsInMore
import Derived.LoopNIn
import Derived.LoopIn
import Derived.Test.YtembdogffbcjiaaYB0
import Derived.Test.YtembdogffbcjiaaYB1
import Derived.Test.YtembdogffbcjiaaYB2
import Derived.Test.YtembdogffbcjiaaYB3
namespace Go.Proofs.Ytembdogffbcjiaa.B
open Go Go.Proofs Go.RowKit Go.Shelf Go.Proofs.YtembdogffbcjiaaW.PrintWords Go.Proofs.YtembdogffbcjiaaW.PrintLast Go.Proofs.YtembdogffbcjiaaW.PrintMore
attribute [local go_sem] Oper.semAt_some
theorem grown_of_below {w w':World} (h:Below w.heap.size w w'):w.grownBy w' none:=⟨h.os,h.tape,h.output,h.size,fun k hk _=>h.block k hk⟩
set_option maxRecDepth 100000 in
set_option maxHeartbeats 4000000 in
theorem each1_56 (l n₀ B1 B2 n:Nat) (hn1:1≤n) (p q:Option Addr) (zs:List (Int × Int)) (hn:zs.length≤64) (hb2:B2<n₀) (J Jx:List (Int × Int)→World→Prop)
  (W:World) (hJ:AbidesFrom W.heap.size J)
  (hY:∀ pre x W1,J pre W1→pre.length<zs.length→YieldAt Fence.wide (n-1) Try.prog l #[.agg #[.int .i64 x.1,.int .i64 x.2]] W1 fun e W' =>
   (e=.returned (.bool true)∧J (pre++[x]) W'∧Below n₀ W1 W')∨(e=.returned (.bool false)∧Jx (pre++[x]) W'))
  (hc1:W.cell? ⟨B1,0,none⟩=some (.int .i64 zs.length)) (hc2:W.cell? ⟨B2,0,none⟩=some (.func (.func 72) #[] #[.pointer p,.pointer q]))
  (hf:∀ (k:Nat) x,zs[k]? = some x→∀ W',Below n₀ W W'→Calls Try.prog 72 #[.int .i64 k,.pointer p,.pointer q] W' fun e W''=>e=.returned (.agg #[.int .i64 x.1,.int .i64 x.2])∧Below W'.heap.size W' W'')
  (hn0:n₀≤W.heap.size) (h0:J [] W) :
  CallsIn Fence.wide n Try.prog 80 #[.func (.yield l) #[] #[],.pointer (some ⟨B1,0,none⟩),.pointer (some ⟨B2,0,none⟩)] W fun e W'=>(∃ v,e=.returned v)∧((∃ ys,ys=zs∧J ys W')∨(∃ pre,pre <+: zs∧Jx pre W')):=by
 refine callsIn_of_wp Try.func80 rfl trivial ?_ rfl
 simp only [Try.ntmps80,List.size_toArray,List.length_cons,List.length_nil,Nat.reduceAdd,Nat.reduceSub,Array.replicate_succ,Array.replicate_zero,List.push_toArray,List.append_toArray,List.nil_append,List.cons_append]
 gi_wp2
 gi_loopw [6] (fun i wr=>∃ k:Nat,k≤zs.length∧i=.int .i64 k∧J (zs.take k) wr∧Below n₀ W wr)
  (fun i _=>zs.length-(intOf i).toNat)
 case atStart=>exact⟨0,Nat.zero_le _,rfl,h0,Below.refl _ _⟩
 case round =>
  obtain⟨k,hk,rfl,hJs,hnx⟩:=hrel
  by_cases hlt:k<zs.length
  ·have hc2':=(hnx.cell (p:=⟨B2,0,none⟩) hb2).trans hc2
   obtain⟨x,hx⟩:∃ x,zs[k]? = some x:=⟨zs[k],List.getElem?_eq_getElem hlt⟩
   have ht:zs.take (k+1)=zs.take k++[x]:=by rw [List.take_add_one,hx];rfl
   gi_wp2_with (refine⟨trivial,?_⟩;gi_at_call 72;refine(callsIn_wide.2 (hf k x hx _ hnx)).mono ?_;rintro e w1 ⟨rfl,hb⟩;obtain⟨fn,tmps,assign,body,hy,hR⟩:=hY _ x w1 (hJ _ _ _ none hJs (grown_of_below hb) (by simp)) (by rw [List.length_take];omega);have hnx1:=hnx.trans (hb.mono (Nat.le_trans hn0 hnx.size)))
   refine hR.mono ?_
   rintro e W3 (⟨rfl,hJ3,hk3⟩|⟨rfl,hJx3⟩)
   ·gi_wp2
    go_roundw
    case rel=>exact⟨k+1,by omega,by simp,by rw [ht];exact hJ3,hnx1.trans hk3⟩
    case measure=>simp [intOf];omega
   ·gi_wp2
    refine bodyPost_ret (results_none rfl _ _ _) rfl ?_
    exact⟨⟨_,rfl⟩,.inr ⟨_,by rw [←ht];exact List.take_prefix _ _,hJx3⟩⟩
  ·obtain rfl:k=zs.length:=by omega
   gi_wp2
   go_end0
   exact⟨⟨_,rfl⟩,.inl ⟨_,rfl,by rw [List.take_length] at hJs;exact hJs⟩⟩
set_option maxRecDepth 100000 in
set_option maxHeartbeats 4000000 in
theorem each1_48 (l n₀ B1 B2 n:Nat) (hn1:1≤n) (p:Option Addr) (zs:List Bool) (hn:zs.length≤64) (hb2:B2<n₀) (J Jx:List Bool→World→Prop)
  (W:World) (hJ:AbidesFrom W.heap.size J)
  (hY:∀ pre x W1,J pre W1→pre.length<zs.length→YieldAt Fence.wide (n-1) Try.prog l #[.bool x] W1 fun e W' =>
   (e=.returned (.bool true)∧J (pre++[x]) W'∧Below n₀ W1 W')∨(e=.returned (.bool false)∧Jx (pre++[x]) W'))
  (hc1:W.cell? ⟨B1,0,none⟩=some (.int .i64 zs.length)) (hc2:W.cell? ⟨B2,0,none⟩=some (.func (.func 68) #[] #[.pointer p]))
  (hf:∀ (k:Nat) x,zs[k]? = some x→∀ W',Below n₀ W W'→Calls Try.prog 68 #[.int .i64 k,.pointer p] W' fun e W''=>e=.returned (.bool x)∧Below W'.heap.size W' W'')
  (hn0:n₀≤W.heap.size) (h0:J [] W) :
  CallsIn Fence.wide n Try.prog 81 #[.func (.yield l) #[] #[],.pointer (some ⟨B1,0,none⟩),.pointer (some ⟨B2,0,none⟩)] W fun e W'=>(∃ v,e=.returned v)∧((∃ ys,ys=zs∧J ys W')∨(∃ pre,pre <+: zs∧Jx pre W')):=by
 refine callsIn_of_wp Try.func81 rfl trivial ?_ rfl
 simp only [Try.ntmps81,List.size_toArray,List.length_cons,List.length_nil,Nat.reduceAdd,Nat.reduceSub,Array.replicate_succ,Array.replicate_zero,List.push_toArray,List.append_toArray,List.nil_append,List.cons_append]
 gi_wp2
 gi_loopw [6] (fun i wr=>∃ k:Nat,k≤zs.length∧i=.int .i64 k∧J (zs.take k) wr∧Below n₀ W wr)
  (fun i _=>zs.length-(intOf i).toNat)
 case atStart=>exact⟨0,Nat.zero_le _,rfl,h0,Below.refl _ _⟩
 case round =>
  obtain⟨k,hk,rfl,hJs,hnx⟩:=hrel
  by_cases hlt:k<zs.length
  ·have hc2':=(hnx.cell (p:=⟨B2,0,none⟩) hb2).trans hc2
   obtain⟨x,hx⟩:∃ x,zs[k]? = some x:=⟨zs[k],List.getElem?_eq_getElem hlt⟩
   have ht:zs.take (k+1)=zs.take k++[x]:=by rw [List.take_add_one,hx];rfl
   gi_wp2_with (refine⟨trivial,?_⟩;gi_at_call 68;refine(callsIn_wide.2 (hf k x hx _ hnx)).mono ?_;rintro e w1 ⟨rfl,hb⟩;obtain⟨fn,tmps,assign,body,hy,hR⟩:=hY _ x w1 (hJ _ _ _ none hJs (grown_of_below hb) (by simp)) (by rw [List.length_take];omega);have hnx1:=hnx.trans (hb.mono (Nat.le_trans hn0 hnx.size)))
   refine hR.mono ?_
   rintro e W3 (⟨rfl,hJ3,hk3⟩|⟨rfl,hJx3⟩)
   ·gi_wp2
    go_roundw
    case rel=>exact⟨k+1,by omega,by simp,by rw [ht];exact hJ3,hnx1.trans hk3⟩
    case measure=>simp [intOf];omega
   ·gi_wp2
    refine bodyPost_ret (results_none rfl _ _ _) rfl ?_
    exact⟨⟨_,rfl⟩,.inr ⟨_,by rw [←ht];exact List.take_prefix _ _,hJx3⟩⟩
  ·obtain rfl:k=zs.length:=by omega
   gi_wp2
   go_end0
   exact⟨⟨_,rfl⟩,.inl ⟨_,rfl,by rw [List.take_length] at hJs;exact hJs⟩⟩
set_option maxHeartbeats 1000000 in
theorem each_44 (n:Nat) (len:Int) (g:Nat) (lb:Array Value) (w:World) :
  CallsIn Fence.wide n Try.prog 64 #[.int .i64 len,.func (.func g) #[] lb] w fun e w'=>e=.returned (.func (.func 80) #[] #[.pointer (some ⟨w.heap.size,0,none⟩),.pointer (some ⟨w.heap.size+1,0,none⟩)])∧w'=(w.alloc (.cells #[.int .i64 len] 3)).alloc (.cells #[.func (.func g) #[] lb] 62):=by
 refine callsIn_of_wp Try.func64 rfl trivial ?_ rfl
 simp only [Try.ntmps64,List.size_toArray,List.length_cons,List.length_nil,Nat.reduceAdd,Nat.reduceSub,Array.replicate_succ,Array.replicate_zero,List.push_toArray,List.append_toArray,List.nil_append,List.cons_append]
 gi_wp2
 go_ret
 exact⟨by simp,rfl⟩
set_option maxHeartbeats 1000000 in
theorem each_47 (n:Nat) (len:Int) (g:Nat) (lb:Array Value) (w:World) :
  CallsIn Fence.wide n Try.prog 67 #[.int .i64 len,.func (.func g) #[] lb] w fun e w'=>e=.returned (.func (.func 81) #[] #[.pointer (some ⟨w.heap.size,0,none⟩),.pointer (some ⟨w.heap.size+1,0,none⟩)])∧w'=(w.alloc (.cells #[.int .i64 len] 3)).alloc (.cells #[.func (.func g) #[] lb] 71):=by
 refine callsIn_of_wp Try.func67 rfl trivial ?_ rfl
 simp only [Try.ntmps67,List.size_toArray,List.length_cons,List.length_nil,Nat.reduceAdd,Nat.reduceSub,Array.replicate_succ,Array.replicate_zero,List.push_toArray,List.append_toArray,List.nil_append,List.cons_append]
 gi_wp2
 go_ret
 exact⟨by simp,rfl⟩
set_option maxHeartbeats 1000000 in
theorem products_33 (n:Nat) (hn:1≤n) (A A':Option Addr) (len c len' c':Nat) (w:World) :
  CallsIn Fence.wide n Try.prog 53 #[.slice A len c,.slice A' len' c'] w fun e w'=>e=.returned (.func (.func 80) #[] #[.pointer (some ⟨w.heap.size+1+1,0,none⟩),.pointer (some ⟨w.heap.size+1+1+1,0,none⟩)])∧w'=(((w.alloc (.cells #[.slice A len c] 23)).alloc (.cells #[.slice A' len' c'] 23)).alloc (.cells #[.int .i64 len] 3)).alloc (.cells #[.func (.func 72) #[] #[.pointer (some ⟨w.heap.size,0,none⟩),.pointer (some ⟨w.heap.size+1,0,none⟩)]] 62):=by
 refine callsIn_of_wp Try.func53 rfl trivial ?_ rfl
 simp only [Try.ntmps53,List.size_toArray,List.length_cons,List.length_nil,Nat.reduceAdd,Nat.reduceSub,Array.replicate_succ,Array.replicate_zero,List.push_toArray,List.append_toArray,List.nil_append,List.cons_append]
 gi_wp2_with (refine⟨trivial,?_⟩;gi_at_call 64;refine(each_44 _ _ _ _ _).mono ?_;rintro e w1 ⟨rfl,rfl⟩)
 go_ret
 exact⟨by simp,rfl⟩
structure Gives (n₀:Nat) (W:World) (B1 B2:Nat) (zs:List (Int × Int)):Prop where
  le:n₀≤W.heap.size
  stops:∃ w0,Below w0.heap.size w0 W∧∀ n,1≤n→SeqStopsK Fence.wide n Try.prog 80 #[.pointer (some ⟨B1,0,none⟩),.pointer (some ⟨B2,0,none⟩)] (fun x:Int × Int=>#[.agg #[.int .i64 x.1,.int .i64 x.2]]) (Below n₀) (fun ys=>ys=zs) (fun pre=>pre <+: zs) zs.length w0
theorem Gives.later {n₀ B1 B2:Nat} {W W':World} {zs:List (Int × Int)} (h:Gives n₀ W B1 B2 zs) (hb:Below W.heap.size W W'):Gives n₀ W' B1 B2 zs:=by
 obtain⟨h1,w0,h2,h3⟩:=h
 exact⟨Nat.le_trans h1 hb.size,w0,h2.trans (hb.mono h2.size),h3⟩
def sumZ:List (Int × Int)→Int × Int→Option (Int × Int)
  | [],s=>some s
  | x :: xs,s=>(wide_Add.f s.1 s.2 x.1 x.2).bind fun r=>sumZ xs (r.1,r.2.1)
theorem sumZ_snoc (pre:List (Int × Int)) (x s t:Int × Int) (r:Int × Int × Bool) (h:sumZ pre s=some t) (hr:wide_Add.f t.1 t.2 x.1 x.2=some r):sumZ (pre++[x]) s=some (r.1,r.2.1):=by
 induction pre generalizing s with
 | nil=>cases h;simp [sumZ,hr]
 | cons y ys ih =>
  simp only [sumZ,List.cons_append] at h ⊢
  cases h1:wide_Add.f s.1 s.2 y.1 y.2 with
  | none=>rw [h1] at h;cases h
  | some q=>rw [h1] at h;simp only [Option.bind_some] at h ⊢;exact ih _ h
theorem bind_ex {α β:Type} {x:Option α} {f:α→Option β} (hx:∃ r,x=some r) (h:∀ r,∃ q,f r=some q):∃ q,x.bind f=some q:=by
 obtain⟨r,rfl⟩:=hx
 exact h r
theorem ite_ex {α:Type} {c:Prop} [Decidable c] {x y:Option α} (hx:∃ r,x=some r) (hy:∃ r,y=some r):∃ r,(if c then x else y)=some r:=by
 split
 ·exact hx
 ·exact hy
theorem known_some (a b:Int):∃ r,wide_known.f a b=some r:=by
 unfold wide_known.f wide_Sane.f
 exact bind_ex (ite_ex (ite_ex (ite_ex ⟨_,rfl⟩ ⟨_,rfl⟩) ⟨_,rfl⟩) ⟨_,rfl⟩) (fun _=>ite_ex ⟨_,rfl⟩ ⟨_,rfl⟩)
theorem wide_Add_some (a b c d:Int):∃ r,wide_Add.f a b c d=some r:=by
 unfold wide_Add.f
 exact bind_ex (known_some _ _) fun _=>bind_ex (known_some _ _) fun _=>bind_ex (known_some _ _) fun _=>ite_ex ⟨_,rfl⟩ ⟨_,rfl⟩
abbrev Blk2 (W:World) (B:Nat) (s:Int × Int):Prop:=W.heap[B]? = some (.cells #[.int .i64 s.1,.int .i64 s.2] 50 (0,0))
theorem blk2_own {X Y:World} {row:Option Nat} {B:Nat} {s:Int × Int} (h:Blk2 X B s) (hg:X.grownBy Y row) (hrow:∀ r,row=some r→∃ o:Obj,X.heap[r]? = some o∧o.isCells=false):Blk2 Y B s :=
 (hg.block B (Array.getElem?_eq_some_iff.1 h).1 (fun e=>by obtain⟨o,ho,hc⟩:=hrow B e.symm;rw [h] at ho;cases ho;cases hc)).trans h
theorem blk2_alloc {W:World} {B:Nat} {s:Int × Int} (h:Blk2 W B s) (o:Obj):Blk2 (W.alloc o) B s:=blk2_own h (World.grownBy_alloc W o none) (by simp)
theorem blk2_below {W W':World} {B:Nat} {s:Int × Int} (h:Blk2 W B s) (hb:Below W.heap.size W W'):Blk2 W' B s:=(hb.block B (Array.getElem?_eq_some_iff.1 h).1).trans h
theorem own2 {B B':Nat}:Own (fun (pre:List (Int × Int)) W=>(∃ s,sumZ pre (0,0)=some s∧Blk2 W B s)∧Blk2 W B' (0,0)):=by
 rintro pre X Y row ⟨⟨s,h2,h3⟩,h4⟩ hg hr
 exact⟨⟨s,h2,blk2_own h3 hg hr⟩,blk2_own h4 hg hr⟩
set_option maxRecDepth 100000 in
set_option maxHeartbeats 4000000 in
theorem add_23 (n₀ B1 B2:Nat) (zs:List (Int × Int)) (r:Int × Int) (w:World) (hG:Gives n₀ w B1 B2 zs) (hS:sumZ zs (0,0)=some r) :
  Calls Try.prog 46 #[.func (.func 80) #[] #[.pointer (some ⟨B1,0,none⟩),.pointer (some ⟨B2,0,none⟩)]] w fun e w'=>e=.returned (.agg #[.int .i64 r.1,.int .i64 r.2])∧Below w.heap.size w w':=by
 refine(callsIn_wide (n:=9)).1 ?_
 refine callsIn_of_wp_marks Try.func46 rfl trivial ?_ rfl
 simp only [Try.ntmps46,List.size_toArray,List.length_cons,List.length_nil,Nat.reduceAdd,Nat.reduceSub,Array.replicate_succ,Array.replicate_zero,List.push_toArray,List.append_toArray,List.nil_append,List.cons_append]
 gi_wp2
 have bR:=World.alloc_heap_new w (.cells #[.int .i64 0,.int .i64 0] 50)
 have bS:=World.alloc_heap_new (w.alloc (.cells #[.int .i64 0,.int .i64 0] 50)) (.cells #[.int .i64 0,.int .i64 0] 50)
 have bR:=(World.grownBy_alloc _ (.cells #[.int .i64 0,.int .i64 0] 50) none).block w.heap.size (Array.getElem?_eq_some_iff.1 bR).1 (by simp) |>.trans bR
 rw [World.size_alloc] at bS
 have hB0:Below w.heap.size w ((w.alloc (.cells #[.int .i64 0,.int .i64 0] 50)).alloc (.cells #[.int .i64 0,.int .i64 0] 50)):=((Below.refl _ w).alloc (Nat.le_refl _) _).alloc (by simp) _
 have hsz:((w.alloc (.cells #[.int .i64 0,.int .i64 0] 50)).alloc (.cells #[.int .i64 0,.int .i64 0] 50)).heap.size=w.heap.size+2:=by simp
 obtain⟨W0,hW0⟩:∃ W0,((w.alloc (.cells #[.int .i64 0,.int .i64 0] 50)).alloc (.cells #[.int .i64 0,.int .i64 0] 50))=W0:=⟨_,rfl⟩
 rw [hW0] at bR bS hB0 hsz ⊢
 clear hW0
 obtain⟨hle,w0,hw0,hst⟩:=hG
 refine wpIn_rangeFunc_ownH rfl (by omega) (gf:=80) (lb:=#[.pointer (some ⟨B1,0,none⟩),.pointer (some ⟨B2,0,none⟩)]) rfl trivial (enters_of Try.func80 (by kernel_rfl) rfl)
  (hst 8 (by omega)) belowK_t (belowK_b (by omega)) (hw0.trans (hB0.mono hw0.size)) (fun _=>rfl)
  (fun pre W=>((∃ s,sumZ pre (0,0)=some s∧Blk2 W (w.heap.size+1) s)∧Blk2 W w.heap.size (0,0))∧Below w.heap.size w W)
  (fun _ _ _=>False)
  (OwnFrom.and (Own.from own2 _) (ownFrom_below (Nat.le_refl _) (by omega)))
  (fun _ _ _ _ _ hs _ _=>hs)
  ⟨⟨⟨_,rfl,bS⟩,bR⟩,hB0⟩
  (fun x a' W=>∃ Bx,w.heap.size+1<Bx∧Blk2 W Bx x∧a'={ tmps:=#[.func (.func 80) #[] #[.pointer (some ⟨B1,0,none⟩),.pointer (some ⟨B2,0,none⟩)],undef,.pointer (some ⟨w.heap.size,0,none⟩),.pointer (some ⟨w.heap.size+1,0,none⟩),.pointer (some ⟨Bx,0,none⟩),.func (.func 80) #[] #[.pointer (some ⟨B1,0,none⟩),.pointer (some ⟨B2,0,none⟩)],.agg #[.int .i64 x.1,.int .i64 x.2],undef,undef,undef,undef,undef,undef,undef],defers:=[] })
  (fun x a' _ X Y row hs hg hr=>by obtain⟨Bx,h1,h2,h3⟩:=hs;exact⟨Bx,h1,blk2_own h2 hg (fun r e=>(hr r e).2),h3⟩)
  ?assign ?body ?done ?stop
 case assign =>
  rintro l pre x W K ⟨⟨⟨s,hs,bS1⟩,bR1⟩,hB1⟩ hK
  gi_wp2
  exact hK _ _ ((KeepsOthers.alloc _ _).from _) ((Below.refl _ W).alloc (by have:=hB1.size;omega) _) ⟨⟨⟨s,hs,blk2_alloc bS1 _⟩,blk2_alloc bR1 _⟩,hB1.alloc hB1.size _⟩ ⟨W.heap.size,(Array.getElem?_eq_some_iff.1 bS1).1,World.alloc_heap_new W _,rfl⟩
 case body =>
  rintro l pre x a' W hl ⟨rr,hr⟩ ⟨⟨⟨s,hs,bS1⟩,bR1⟩,hB1⟩ ⟨Bx,hBx,bX,rfl⟩ hlt
  obtain⟨⟨q1,q2,q3⟩,hq⟩:=wide_Add_some s.1 s.2 x.1 x.2
  have cX0:W.cell? ⟨Bx,0,none⟩=some (.int .i64 x.1):=(blk_cell bX 0).trans rfl
  have cX1:W.cell? ⟨Bx,1,none⟩=some (.int .i64 x.2):=(blk_cell bX 1).trans rfl
  have cS0:W.cell? ⟨w.heap.size+1,0,none⟩=some (.int .i64 s.1):=(blk_cell bS1 0).trans rfl
  have cS1:W.cell? ⟨w.heap.size+1,1,none⟩=some (.int .i64 s.2):=(blk_cell bS1 1).trans rfl
  gi_wp2_with (refine⟨trivial,?_⟩;gi_at_call 63;refine(CallsIn.inRound l (callsIn_wide.2 (wide_Add.calls s.1 s.2 x.1 x.2 q1 q2 q3 _ hq))).mono ?_;rintro e w1 ⟨rfl,hb⟩;have bT:=blk2_below bS1 hb;have bQ:=blk2_below bR1 hb;have cT0:w1.cell? ⟨w.heap.size+1,0,none⟩=some (.int .i64 s.1):=(blk_cell bT 0).trans rfl;have cT1:w1.cell? ⟨w.heap.size+1,1,none⟩=some (.int .i64 s.2):=(blk_cell bT 1).trans rfl;have fT0:=blk_frozen bT 0;have fT1:=blk_frozen bT 1)
  have hsW:=hB1.size
  have hle1:=hb.mono hsW
  have hle0:=hb.mono (Nat.le_trans hle hsW)
  refine⟨?_,?_,?_⟩
  ·exact(((KeepsOthers.of_grownBy (grown_of_below hb) (by simp)).trans (KeepsOthers.setCell _ _ _)).trans (KeepsOthers.setCell _ _ _)).from _
  ·exact(hle0.setCell (p:=⟨w.heap.size+1,0,none⟩) (by simp;omega) _).setCell (p:=⟨w.heap.size+1,1,none⟩) (by simp;omega) _
  ·refine⟨⟨⟨_,sumZ_snoc pre x _ _ _ hs hq,blk_put (cs:=#[.int .i64 q1,.int .i64 s.2]) (blk_put (cs:=#[.int .i64 s.1,.int .i64 s.2]) bT 0 _ rfl) 1 _ rfl⟩,blk_far (blk_far bQ (by simp) _) (by simp) _⟩,?_⟩
   exact((hB1.trans hle1).setCell (p:=⟨w.heap.size+1,0,none⟩) (by simp) _).setCell (p:=⟨w.heap.size+1,1,none⟩) (by simp) _
 case done =>
  rintro D ys W hD rfl ⟨⟨⟨s,hs,bS1⟩,bR1⟩,hB1⟩ hK
  obtain rfl:s=r:=by rw [hs] at hS;exact Option.some.inj hS
  have cS0:W.cell? ⟨w.heap.size+1,0,none⟩=some (.int .i64 s.1):=(blk_cell bS1 0).trans rfl
  have cS1:W.cell? ⟨w.heap.size+1,1,none⟩=some (.int .i64 s.2):=(blk_cell bS1 1).trans rfl
  have cR0:W.cell? ⟨w.heap.size,0,none⟩=some (.int .i64 0):=(blk_cell bR1 0).trans rfl
  have cR1:W.cell? ⟨w.heap.size,1,none⟩=some (.int .i64 0):=(blk_cell bR1 1).trans rfl
  have fR0:=blk_frozen bR1 0
  have fR1:=blk_frozen bR1 1
  gi_wp2
  have bE:=blk_put (cs:=#[.int .i64 s.1,.int .i64 0]) (blk_put (cs:=#[.int .i64 0,.int .i64 0]) bR1 0 (.int .i64 s.1) rfl) 1 (.int .i64 s.2) rfl
  have hK':=((KeepsOthers.setCell W ⟨w.heap.size,0,none⟩ (.int .i64 s.1)).trans (KeepsOthers.setCell _ ⟨w.heap.size,1,none⟩ (.int .i64 s.2))).same D _ hK rfl
  refine⟨by simp,.inl ⟨_,_,rfl,run_takeDeferred hK',?_⟩⟩
  have bF:=((grownBy_putObj' _ D (.deferred none)).block w.heap.size (Array.getElem?_eq_some_iff.1 bE).1 (by intro e;cases e;omega)).trans bE
  refine⟨.agg #[.int .i64 s.1,.int .i64 s.2],?_,rfl,?_⟩
  ·refine(results_cell_row rfl _ _ w.heap.size 50 _ (0,0) _ rfl bF Try.underlying50 rfl (by kernel_rfl)).trans ?_
   rfl
  ·exact((hB1.setCell (p:=⟨w.heap.size,0,none⟩) (by simp) _).setCell (p:=⟨w.heap.size,1,none⟩) (by simp) _).trans (belowK_b (w:=w) (Nat.le_refl _) _ D _ _ (by omega) hK' rfl rfl)
 case stop =>
  rintro D c pre W _ _ h _
  exact h.elim
set_option maxHeartbeats 1000000 in
theorem products_gives (A A':Option Addr) (len c len' c':Nat) (zs:List (Int × Int)) (hz:zs.length=len) (hlen:len≤64) (w:World)
  (hf:∀ (k:Nat) x,zs[k]? = some x→∀ B B' W',W'.cell? ⟨B,0,none⟩=some (.slice A len c)→W'.cell? ⟨B',0,none⟩=some (.slice A' len' c')→Below w.heap.size w W'→Calls Try.prog 72 #[.int .i64 k,.pointer (some ⟨B,0,none⟩),.pointer (some ⟨B',0,none⟩)] W' fun e W''=>e=.returned (.agg #[.int .i64 x.1,.int .i64 x.2])∧Below W'.heap.size W' W'') :
  Calls Try.prog 53 #[.slice A len c,.slice A' len' c'] w fun e w'=>∃ B1 B2,e=.returned (.func (.func 80) #[] #[.pointer (some ⟨B1,0,none⟩),.pointer (some ⟨B2,0,none⟩)])∧Gives w'.heap.size w' B1 B2 zs∧Below w.heap.size w w':=by
 refine(callsIn_wide (n:=9)).1 ?_
 refine(products_33 9 (by omega) A A' len c len' c' w).mono ?_
 rintro e w' ⟨rfl,rfl⟩
 have b0:=(((Boxed.new w 23 (.slice A len c)).alloc (.cells #[.slice A' len' c'] 23)).alloc (.cells #[.int .i64 len] 3)).alloc (.cells #[.func (.func 72) #[] #[.pointer (some ⟨w.heap.size,0,none⟩),.pointer (some ⟨w.heap.size+1,0,none⟩)]] 62)
 have b3:=((Boxed.new (w.alloc (.cells #[.slice A len c] 23)) 23 (.slice A' len' c')).alloc (.cells #[.int .i64 len] 3)).alloc (.cells #[.func (.func 72) #[] #[.pointer (some ⟨w.heap.size,0,none⟩),.pointer (some ⟨w.heap.size+1,0,none⟩)]] 62)
 have b1:=(Boxed.new ((w.alloc (.cells #[.slice A len c] 23)).alloc (.cells #[.slice A' len' c'] 23)) 3 (.int .i64 len)).alloc (.cells #[.func (.func 72) #[] #[.pointer (some ⟨w.heap.size,0,none⟩),.pointer (some ⟨w.heap.size+1,0,none⟩)]] 62)
 have b2:=Boxed.new (((w.alloc (.cells #[.slice A len c] 23)).alloc (.cells #[.slice A' len' c'] 23)).alloc (.cells #[.int .i64 len] 3)) 62 (.func (.func 72) #[] #[.pointer (some ⟨w.heap.size,0,none⟩),.pointer (some ⟨w.heap.size+1,0,none⟩)])
 have hB:Below w.heap.size w ((((w.alloc (.cells #[.slice A len c] 23)).alloc (.cells #[.slice A' len' c'] 23)).alloc (.cells #[.int .i64 len] 3)).alloc (.cells #[.func (.func 72) #[] #[.pointer (some ⟨w.heap.size,0,none⟩),.pointer (some ⟨w.heap.size+1,0,none⟩)]] 62)):=((((Below.refl _ w).alloc (Nat.le_refl _) _).alloc (by simp) _).alloc (by simp;omega) _).alloc (by simp;omega) _
 simp only [World.size_alloc] at b1 b2 b3
 obtain⟨W0,hW0⟩:∃ W0,((((w.alloc (.cells #[.slice A len c] 23)).alloc (.cells #[.slice A' len' c'] 23)).alloc (.cells #[.int .i64 len] 3)).alloc (.cells #[.func (.func 72) #[] #[.pointer (some ⟨w.heap.size,0,none⟩),.pointer (some ⟨w.heap.size+1,0,none⟩)]] 62))=W0:=⟨_,rfl⟩
 rw [hW0] at b0 b1 b2 b3 hB ⊢
 clear hW0
 refine⟨_,_,rfl,⟨Nat.le_refl _,W0,Below.refl _ _,?_⟩,hB⟩
 intro n hn l J Jx W hW hJ _ hY h0
 exact each1_56 l W0.heap.size _ _ n hn _ _ zs (by omega) b2.lt J Jx W hJ hY (by rw [hz];exact(hW.cell (p:=⟨_,0,none⟩) b1.lt).trans b1.cell) ((hW.cell (p:=⟨_,0,none⟩) b2.lt).trans b2.cell)
  (fun k x hx W' hW'=>hf k x hx _ _ W' (((hW.trans hW').cell (p:=⟨_,0,none⟩) b0.lt).trans b0.cell) (((hW.trans hW').cell (p:=⟨_,0,none⟩) b3.lt).trans b3.cell) (hB.trans ((hW.trans hW').mono hB.size))) hW.size h0
set_option maxRecDepth 100000 in
set_option maxHeartbeats 4000000 in
theorem changed_25 (A:Option Addr) (len c:Nat) (zs:List Bool) (hz:zs.length=len) (hlen:len≤64) (w:World)
  (hf:∀ (k:Nat) x,zs[k]? = some x→∀ B W',W'.cell? ⟨B,0,none⟩=some (.slice A len c)→Below w.heap.size w W'→Calls Try.prog 68 #[.int .i64 k,.pointer (some ⟨B,0,none⟩)] W' fun e W''=>e=.returned (.bool x)∧Below W'.heap.size W' W'') :
  Calls Try.prog 48 #[.slice A len c] w fun e w'=>e=.returned (.bool (zs.any id))∧Below w.heap.size w w':=by
 refine(callsIn_wide (n:=9)).1 ?_
 refine callsIn_of_wp_marks Try.func48 rfl trivial ?_ rfl
 simp only [Try.ntmps48,List.size_toArray,List.length_cons,List.length_nil,Nat.reduceAdd,Nat.reduceSub,Array.replicate_succ,Array.replicate_zero,List.push_toArray,List.append_toArray,List.nil_append,List.cons_append]
 gi_wp2_with (refine⟨trivial,?_⟩;gi_at_call 67;refine(each_47 _ _ _ _ _).mono ?_;rintro e w1 ⟨rfl,rfl⟩)
 have b0:=(((Boxed.new w 23 (.slice A len c)).alloc (.cells #[.bool false] 4)).alloc (.cells #[.int .i64 len] 3)).alloc (.cells #[.func (.func 68) #[] #[.pointer (some ⟨w.heap.size,0,none⟩)]] 71)
 have bR:=((Boxed.new (w.alloc (.cells #[.slice A len c] 23)) 4 (.bool false)).alloc (.cells #[.int .i64 len] 3)).alloc (.cells #[.func (.func 68) #[] #[.pointer (some ⟨w.heap.size,0,none⟩)]] 71)
 have b1:=(Boxed.new ((w.alloc (.cells #[.slice A len c] 23)).alloc (.cells #[.bool false] 4)) 3 (.int .i64 len)).alloc (.cells #[.func (.func 68) #[] #[.pointer (some ⟨w.heap.size,0,none⟩)]] 71)
 have b2:=Boxed.new (((w.alloc (.cells #[.slice A len c] 23)).alloc (.cells #[.bool false] 4)).alloc (.cells #[.int .i64 len] 3)) 71 (.func (.func 68) #[] #[.pointer (some ⟨w.heap.size,0,none⟩)])
 have hB:Below w.heap.size w ((((w.alloc (.cells #[.slice A len c] 23)).alloc (.cells #[.bool false] 4)).alloc (.cells #[.int .i64 len] 3)).alloc (.cells #[.func (.func 68) #[] #[.pointer (some ⟨w.heap.size,0,none⟩)]] 71)):=((((Below.refl _ w).alloc (Nat.le_refl _) _).alloc (by simp) _).alloc (by simp;omega) _).alloc (by simp;omega) _
 have hsz:((((w.alloc (.cells #[.slice A len c] 23)).alloc (.cells #[.bool false] 4)).alloc (.cells #[.int .i64 len] 3)).alloc (.cells #[.func (.func 68) #[] #[.pointer (some ⟨w.heap.size,0,none⟩)]] 71)).heap.size=w.heap.size+4:=by simp
 simp only [World.size_alloc] at b1 b2 bR
 obtain⟨W0,hW0⟩:∃ W0,((((w.alloc (.cells #[.slice A len c] 23)).alloc (.cells #[.bool false] 4)).alloc (.cells #[.int .i64 len] 3)).alloc (.cells #[.func (.func 68) #[] #[.pointer (some ⟨w.heap.size,0,none⟩)]] 71))=W0:=⟨_,rfl⟩
 rw [hW0] at b0 b1 b2 bR hB hsz ⊢
 clear hW0
 have hst:SeqStopsK Fence.wide 8 Try.prog 81 #[.pointer (some ⟨w.heap.size+1+1,0,none⟩),.pointer (some ⟨w.heap.size+1+1+1,0,none⟩)] (fun x:Bool=>#[.bool x]) (Below W0.heap.size) (fun ys=>ys=zs) (fun pre=>pre <+: zs) zs.length W0:=by
  intro l J Jx W hW hJ _ hY h0
  exact each1_48 l W0.heap.size _ _ 8 (by omega) _ zs (by omega) b2.lt J Jx W hJ hY (by rw [hz];exact(hW.cell (p:=⟨_,0,none⟩) b1.lt).trans b1.cell) ((hW.cell (p:=⟨_,0,none⟩) b2.lt).trans b2.cell)
   (fun k x hx W' hW'=>hf k x hx _ W' (((hW.trans hW').cell (p:=⟨_,0,none⟩) b0.lt).trans b0.cell) (hB.trans ((hW.trans hW').mono hB.size))) hW.size h0
 refine wpIn_rangeFunc_ownF rfl (by omega) (gf:=81) (lb:=#[.pointer (some ⟨w.heap.size+1+1,0,none⟩),.pointer (some ⟨w.heap.size+1+1+1,0,none⟩)]) rfl trivial (enters_of Try.func81 (by kernel_rfl) rfl)
  hst belowK_t (belowK_b (Nat.le_refl _)) (Below.refl _ _) (fun _=>rfl)
  (fun pre W=>((∀ y ∈ pre,y=false)∧Boxed W (w.heap.size+1) 4 (.bool false))∧Below w.heap.size w W)
  (fun c pre W=>(c=.ret∧true ∈ pre∧Boxed W (w.heap.size+1) 4 (.bool true))∧Below w.heap.size w W)
  (OwnFrom.and (Own.from (fun s X Y row hs hg hr=>⟨hs.1,boxed_own (w.heap.size+1) 4 (fun (_:Unit)=>Value.bool false) () X Y row hs.2 hg hr⟩) _) (ownFrom_below (Nat.le_refl _) (by omega)))
  (fun _=>OwnFrom.and (Own.from (fun s X Y row hs hg hr=>⟨hs.1,hs.2.1,boxed_own (w.heap.size+1) 4 (fun (_:Unit)=>Value.bool true) () X Y row hs.2.2 hg hr⟩) _) (ownFrom_below (Nat.le_refl _) (by omega)))
  ⟨⟨by simp,bR⟩,hB⟩
  (fun x=>{ tmps:=#[.slice A len c,.pointer (some ⟨w.heap.size,0,none⟩),.pointer (some ⟨w.heap.size+1,0,none⟩),.bool x,.slice A len c,.int .i64 len,.func (.func 68) #[] #[.pointer (some ⟨w.heap.size,0,none⟩)],.func (.func 81) #[] #[.pointer (some ⟨w.heap.size+1+1,0,none⟩),.pointer (some ⟨w.heap.size+1+1+1,0,none⟩)],.bool x,undef],defers:=[] }) ?assign ?body ?done ?stop
 case assign =>
  intro l x W K hK
  gi_wp2
  exact hK
 case body =>
  rintro l pre x W ⟨⟨hp,bR1⟩,hB1⟩ _
  have cR:=bR1.cell
  have fR:=bR1.frozen
  cases x
  ·gi_wp2
   exact⟨KeepsOthers.refl _,Below.refl _ _,⟨fun y hy=>(List.mem_append.1 hy).elim (hp y) (fun e=>by simpa using e),bR1⟩,hB1⟩
  ·gi_wp2
   exact⟨KeepsOthers.setCell _ _ _,⟨rfl,List.mem_append.2 (.inr (by simp)),bR1.set _⟩,hB1.setCell (p:=⟨w.heap.size+1,0,none⟩) (by simp) _⟩
 case done =>
  rintro D ys W hD rfl ⟨⟨hp,bR1⟩,hB1⟩ hK
  have cR:=bR1.cell
  have fR:=bR1.frozen
  gi_wp2
  have bE:=bR1.set (.bool false)
  have hK':=(KeepsOthers.setCell W ⟨w.heap.size+1,0,none⟩ (.bool false)).same D _ hK rfl
  refine⟨by simp,.inl ⟨_,_,rfl,run_takeDeferred hK',?_⟩⟩
  have hc5:=(bE.kept (grownBy_putObj' _ D (.deferred none)) (by intro e;cases e;omega)).cell
  refine⟨.bool false,?_,?_,(hB1.setCell (p:=⟨w.heap.size+1,0,none⟩) (by simp) _).trans (belowK_b (w:=w) (Nat.le_refl _) _ D _ _ (by omega) hK' rfl rfl)⟩
  ·simp [results,Try.f48,go_sem,hc5]
  ·have:ys.any id=false:=by rw [List.any_eq_false];intro y hy;rw [hp y hy];simp
   rw [this]
 case stop =>
  rintro D cc pre W hD hpre ⟨⟨rfl,hin,bR1⟩,hB1⟩ hK
  gi_wp2
  refine⟨by simp,.inl ⟨_,_,rfl,run_takeDeferred hK,?_⟩⟩
  have hc5:=(bR1.kept (grownBy_putObj' _ D (.deferred none)) (by intro e;cases e;omega)).cell
  refine⟨.bool true,?_,?_,hB1.trans (belowK_b (w:=w) (Nat.le_refl _) W D _ _ (by omega) hK rfl rfl)⟩
  ·simp [results,Try.f48,go_sem,hc5]
  ·have:zs.any id=true:=by rw [List.any_eq_true];exact⟨true,hpre.subset hin,rfl⟩
   rw [this]
def SumsTo (W:World) (B1 B2:Nat) (r1 r2:Int):Prop:=∃ n₀ zs,Gives n₀ W B1 B2 zs∧sumZ zs (0,0)=some (r1,r2)
theorem SumsTo.later {W W':World} {B1 B2:Nat} {r1 r2:Int} (h:SumsTo W B1 B2 r1 r2) (hb:Below W.heap.size W W'):SumsTo W' B1 B2 r1 r2:=by
 obtain⟨n₀,zs,hG,hS⟩:=h
 exact⟨n₀,zs,hG.later hb,hS⟩
theorem sum_add.calls (B1 B2:Nat) (r1 r2:Int) (w:World) (h:SumsTo w B1 B2 r1 r2) :
  Calls Try.prog 46 #[.func (.func 80) #[] #[.pointer (some ⟨B1,0,none⟩),.pointer (some ⟨B2,0,none⟩)]] w fun e w'=>e=.returned (.agg #[.int .i64 r1,.int .i64 r2])∧Below w.heap.size w w':=by
 obtain⟨n₀,zs,hG,hS⟩:=h
 exact add_23 n₀ B1 B2 zs (r1,r2) w hG hS
end Go.Proofs.Ytembdogffbcjiaa.B
