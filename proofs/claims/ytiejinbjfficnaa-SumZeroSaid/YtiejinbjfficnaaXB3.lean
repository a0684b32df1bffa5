/- Lemmas that the row leans on; laid by a program of this project out of longer texts: what the row does not name is left out. -/
import Derived.Test.YtiejinbjfficnaaXB0
import Derived.Test.YtiejinbjfficnaaXB2
import Derived.Test.YtiejinbjfficnaaXSeqA
namespace Go.Proofs.Ytiejinbjfficnaa.B
open Go.RowKit Go.Proofs.YtiejinbjfficnaaW.PrintWords Go.Proofs.YtiejinbjfficnaaW.PrintLast Go.Proofs.YtiejinbjfficnaaW.PrintMore
attribute [local go_sem] max2_int min2_int max_two min_two max_three min_three max_four min_four
set_option linter.unusedVariables false
set_option linter.unusedSimpArgs false
def sum_values.l0:Nat→List Int→Int→Int→Int→Int→Option (Int × Int)
  | 0,_,_,_,_,_=>none
  | k+1,x0,x19,x20,x133000,x133001=>if x20<x19 then ((sum_values_1.f x20 x0).bind fun bt133=>((wide_Add.f x133000 x133001 bt133.1 bt133.2).bind fun bt135=>(sum_values.l0 k x0 x19 (wrap64 (x20+1)) bt135.1 bt135.2.1))) else (some (x133000,x133001))
def sum_values.f (k:Nat) (l0:List Int):Option (Int × Int):=sum_values.l0 k l0 (l0.length:Int) 0 0 0
theorem sum_values.mono_l:∀ k,(∀ y0 y1 y2 y3 y4,LeO (sum_values.l0 k y0 y1 y2 y3 y4) (sum_values.l0 (k+1) y0 y1 y2 y3 y4))
 | 0=>fun _ _ _ _ _ r h=>by simp [sum_values.l0] at h
 | k+1=>by
  have ih0:=sum_values.mono_l k
  ·intro y0 y1 y2 y3 y4
   unfold sum_values.l0
   repeat' first
   | (with_reducible exact ih0 _ _ _ _ _)
   | (with_reducible exact LeO.refl _)
   | (with_reducible exact LeO.none _)
   | (with_reducible refine LeO.ite ?_ ?_)
   | (with_reducible refine LeO.bind ?_ (fun _=>?_))
   | exact ih0 _ _ _ _ _
   | exact LeO.none _
   | refine LeO.ite ?_ ?_
   | refine LeO.bind ?_ (fun _=>?_)
theorem sum_values.mono:∀ a0 k,LeO (sum_values.f k a0) (sum_values.f (k+1) a0):=by
 intro a0 k
 have ih0:=sum_values.mono_l k
 unfold sum_values.f
 repeat' first
   | (with_reducible exact ih0 _ _ _ _ _)
   | (with_reducible exact LeO.refl _)
   | (with_reducible exact LeO.none _)
   | (with_reducible refine LeO.ite ?_ ?_)
   | (with_reducible refine LeO.bind ?_ (fun _=>?_))
   | exact ih0 _ _ _ _ _
   | exact LeO.none _
   | refine LeO.ite ?_ ?_
   | refine LeO.bind ?_ (fun _=>?_)
theorem sum_values.zs (l:List Int) (hl:l.length≤64):∀ (k i:Nat) (s r:Int × Int),i≤l.length→sum_values.l0 k l (l.length:Int) (i:Int) s.1 s.2=some r→∃ zs:List (Int × Int),zs.length+i=l.length∧(∀ (j:Nat) x,zs[j]? = some x→sum_values_1.f ((j+i:Nat):Int) l=some x)∧sumZ zs s=some r
 | 0,i,s,r,_,h=>by simp [sum_values.l0] at h
 | k+1,i,s,r,hi,h=>by
  simp only [sum_values.l0] at h
  by_cases c:(i:Int)<(l.length:Int)
  ·rw [if_pos c] at h
   obtain⟨x,hx,h⟩:=Option.bind_eq_some_iff.mp h
   obtain⟨t,ht,h⟩:=Option.bind_eq_some_iff.mp h
   have hw:wrap64 ((i:Int)+1)=((i+1:Nat):Int):=by unfold wrap64;omega
   rw [hw] at h
   obtain⟨zs,h1,h2,h3⟩:=sum_values.zs l hl k (i+1) (t.1,t.2.1) r (by omega) h
   refine⟨x :: zs,by simp;omega,?_,?_⟩
   ·intro j y hy
    cases j with
    | zero=>simp at hy;subst hy;simpa using hx
    | succ j =>
     have:=h2 j y (by simpa using hy)
     rw [show j+1+i=j+(i+1) by omega]
     exact this
   ·simp only [sumZ]
    rw [ht]
    exact h3
  ·rw [if_neg c] at h
   have:s=r:=Option.some.inj h
   subst this
   exact⟨[],by simp;omega,by simp,rfl⟩
theorem sum_values.calls (k:Nat) (A0:Option Addr) (c0:Nat) (l0:List Int) (r1:Int) (r2:Int) (w:World) (hr0:Kd.C (Kd.int .i64) w A0 l0.length l0) (hc0:l0.length≤c0) (hlen_:l0.length≤64) (h:sum_values.f k l0=some (r1,r2)) :
  Calls Try.prog 24 #[.slice A0 l0.length c0] w fun e w'=>∃ B1 B2,e=.returned (.func (.func 62) #[] #[.pointer (some ⟨B1,0,none⟩),.pointer (some ⟨B2,0,none⟩)])∧SumsTo w' B1 B2 r1 r2∧Below w.heap.size w w':=by
 obtain⟨zs,h1,h2,h3⟩:=sum_values.zs l0 hlen_ k 0 (0,0) (r1,r2) (by omega) h
 refine(values_gives A0 l0.length c0 zs (by omega) hlen_ w (fun j x hx B W' hB hb=>?_)).mono ?_
 ·exact sum_values_1.calls j A0 c0 l0 x.1 x.2 W' (Kd.C_below hr0 hb) hc0 B ⟨hB⟩ (by have:=h2 j x hx;simpa using this)
 ·rintro e w' ⟨B1,B2,he,hG,hb⟩
  exact⟨B1,B2,he,⟨_,zs,hG,h3⟩,hb⟩
def sum_changed_1.f (a0:Int) (l1:List Int):Option (Bool):=if 0≤a0 then (if a0<(l1.length:Int) then ((fix_Clamp.f (rd l1 a0)).bind fun bt139=>(some bt139.2)) else (none)) else (none)
set_option maxHeartbeats 8000000 in
set_option maxRecDepth 100000 in
theorem sum_changed_1.calls (a0:Int) (A1:Option Addr) (c1:Nat) (l1:List Int) (r:Bool) (w:World) (hr1:Kd.C (Kd.int .i64) w A1 l1.length l1) (hc1:l1.length≤c1) (g1_:Nat) (HX1:Aside0 (w.cell? ⟨g1_,0,none⟩=some (.slice A1 l1.length c1))) (h:sum_changed_1.f a0 l1=some r) :
  Calls Try.prog 48 #[.int .i64 a0,.pointer (some ⟨g1_,0,none⟩)] w fun e w'=>e=.returned (.bool r)∧Below w.heap.size w w':=by
 have HR1:=Aside0.mk hr1
 have HC1:=Aside0.mk hc1
 clear hr1 hc1
 have HB:=Aside0.mk (Below.refl w.heap.size w)
 have H:(if 0≤a0 then (if a0<(l1.length:Int) then ((fix_Clamp.f (rd l1 a0)).bind fun bt139=>(some bt139.2)) else (none)) else (none))=some r:=h
 clear h
 by_cases c3:0≤a0
 ·rw [if_pos c3] at H
  have c3b0:decide (0≤a0)=true:=decide_eq_true c3
  clear c3
  by_cases c4:a0<(l1.length:Int)
  ·rw [if_pos c4] at H
   have c4b0:decide (a0<(l1.length:Int))=true:=decide_eq_true c4
   clear c4
   replace H:=Option.bind_eq_some_iff.mp H
   obtain⟨⟨t139,t140⟩,A50,H⟩:=H
   replace H:(some t140)=some r:=H
   have A5:=Aside0.mk A50
   clear A50
   obtain rfl:=Option.some.inj H
   have p138:0≤(a0:Int):=of_decide_eq_true (by first|(with_reducible assumption)|assumption)
   have q138:a0<(l1.length:Int):=of_decide_eq_true (by first|(with_reducible assumption)|assumption)
   obtain⟨ad138,e138,hx138_0⟩:=Kd.at_int HR1.out a0 p138 q138
   cases e138
   replace p138:=eq_true p138
   replace q138:=eq_true q138
   have hx1_:=HX1.out
   go_enter Try.func48,Try.ntmps48
   go_wp2_with (first|((with_reducible refine gate_callee (f:=18) rfl ?_);refine goesL_ (some 11) rfl rfl Try.func18 (by kernel_rfl) rfl #[.int .i64 (rd l1 a0)] rfl (by (try simp only [List.map_toArray,List.map_cons,List.map_nil]);first|done|rfl|(simp only [List.length_drop,List.length_take];rfl)) ?_;(with_reducible refine(fix_Clamp.calls (rd l1 a0) t139 t140 _ A5.out).mono ?_);rintro e w6 ⟨rfl,hb⟩;refine⟨_,rfl,?_⟩;have n0_:=Aside0.mk (below_step (by repeat (first|(with_reducible first|exact HB.out|apply below_alloc|apply pw_below_drewN|apply below_drew1)|exact HB.out)) hb);clear HB;have HB:=n0_;clear n0_;(try clear hb);(try clear hb2);(try clear hk);(try clear hi)))
   go_ret
   exact⟨by first|rfl|(simp [errW_none,errW_some]<;>rfl)|(simp [*,errW_none,errW_some]<;>rfl),by repeat (first|(with_reducible first|exact HB.out|apply below_alloc|apply pw_below_drewN|apply below_drew1)|exact HB.out)⟩
  ·rw [if_neg c4] at H
   exact absurd H (by simp)
 ·rw [if_neg c3] at H
  exact absurd H (by simp)
def sum_changed.l0:Nat→List Int→Int→Int→Option (Bool)
  | 0,_,_,_=>none
  | k+1,x0,x19,x20=>if x20<x19 then ((sum_changed_1.f x20 x0).bind fun t141=>(if t141=true then (some true) else (sum_changed.l0 k x0 x19 (wrap64 (x20+1))))) else (some false)
def sum_changed.f (k:Nat) (l0:List Int):Option (Bool):=sum_changed.l0 k l0 (l0.length:Int) 0
theorem sum_changed.mono_l:∀ k,(∀ y0 y1 y2,LeO (sum_changed.l0 k y0 y1 y2) (sum_changed.l0 (k+1) y0 y1 y2))
 | 0=>fun _ _ _ r h=>by simp [sum_changed.l0] at h
 | k+1=>by
  have ih0:=sum_changed.mono_l k
  ·intro y0 y1 y2
   unfold sum_changed.l0
   repeat' first
   | (with_reducible exact ih0 _ _ _)
   | (with_reducible exact LeO.refl _)
   | (with_reducible exact LeO.none _)
   | (with_reducible refine LeO.ite ?_ ?_)
   | (with_reducible refine LeO.bind ?_ (fun _=>?_))
   | exact ih0 _ _ _
   | exact LeO.none _
   | refine LeO.ite ?_ ?_
   | refine LeO.bind ?_ (fun _=>?_)
theorem sum_changed.mono:∀ a0 k,LeO (sum_changed.f k a0) (sum_changed.f (k+1) a0):=by
 intro a0 k
 have ih0:=sum_changed.mono_l k
 unfold sum_changed.f
 repeat' first
   | (with_reducible exact ih0 _ _ _)
   | (with_reducible exact LeO.refl _)
   | (with_reducible exact LeO.none _)
   | (with_reducible refine LeO.ite ?_ ?_)
   | (with_reducible refine LeO.bind ?_ (fun _=>?_))
   | exact ih0 _ _ _
   | exact LeO.none _
   | refine LeO.ite ?_ ?_
   | refine LeO.bind ?_ (fun _=>?_)
theorem sum_changed_1.some_ (l:List Int) (i:Nat) (hi:i<l.length):∃ b,sum_changed_1.f (i:Int) l=some b:=by
 unfold sum_changed_1.f fix_Clamp.f fix_within_int.f
 rw [if_pos (by omega),if_pos (by omega)]
 exact⟨_,rfl⟩
theorem sum_changed.zs (l:List Int) (hl:l.length≤64) (zs:List Bool) (hz:zs.length=l.length) (hf:∀ (j:Nat) x,zs[j]? = some x→sum_changed_1.f (j:Int) l=some x):∀ (k i:Nat) (r:Bool),i≤l.length→sum_changed.l0 k l (l.length:Int) (i:Int)=some r→(zs.drop i).any id=r
 | 0,i,r,_,h=>by simp [sum_changed.l0] at h
 | k+1,i,r,hi,h=>by
  simp only [sum_changed.l0] at h
  by_cases c:(i:Int)<(l.length:Int)
  ·rw [if_pos c] at h
   obtain⟨x,hx,h⟩:=Option.bind_eq_some_iff.mp h
   have hw:wrap64 ((i:Int)+1)=((i+1:Nat):Int):=by unfold wrap64;omega
   rw [hw] at h
   have hlt:i<zs.length:=by omega
   have hxi:=hf i zs[i] (List.getElem?_eq_getElem hlt)
   rw [hx] at hxi
   have hxe:=Option.some.inj hxi
   rw [List.drop_eq_getElem_cons hlt,List.any_cons]
   by_cases cx:x=true
   ·rw [if_pos cx] at h
    rw [←hxe,cx]
    simpa using Option.some.inj h
   ·rw [if_neg cx] at h
    rw [←hxe,show x=false by simpa using cx]
    simpa using sum_changed.zs l hl zs hz hf k (i+1) r (by omega) h
  ·rw [if_neg c] at h
   rw [List.drop_of_length_le (by omega)]
   simpa using Option.some.inj h
theorem sum_changed.calls (k:Nat) (A0:Option Addr) (c0:Nat) (l0:List Int) (r:Bool) (w:World) (hr0:Kd.C (Kd.int .i64) w A0 l0.length l0) (hc0:l0.length≤c0) (hlen_:l0.length≤64) (h:sum_changed.f k l0=some r) :
  Calls Try.prog 25 #[.slice A0 l0.length c0] w fun e w'=>e=.returned (.bool r)∧Below w.heap.size w w':=by
 obtain⟨zs,hz,hf⟩:∃ zs:List Bool,zs.length=l0.length∧∀ (j:Nat) x,zs[j]? = some x→sum_changed_1.f (j:Int) l0=some x:=by
  refine⟨(List.range l0.length).map (fun (i:Nat)=>(sum_changed_1.f (i:Int) l0).getD false),by simp,?_⟩
  intro j x hx
  rw [List.getElem?_map] at hx
  by_cases hj:j<l0.length
  ·rw [List.getElem?_range hj] at hx
   obtain⟨b,hb⟩:=sum_changed_1.some_ l0 j hj
   simp [hb] at hx
   rw [hb,hx]
  ·rw [List.getElem?_eq_none (by simpa using hj)] at hx
   simp at hx
 have hr:=sum_changed.zs l0 hlen_ zs hz hf k 0 r (by omega) h
 rw [List.drop_zero] at hr
 rw [←hr]
 exact changed_25 A0 l0.length c0 zs hz hlen_ w (fun j x hx B W' hB hb=>sum_changed_1.calls j A0 c0 l0 x W' (Kd.C_below hr0 hb) hc0 B ⟨hB⟩ (hf j x hx))
def sum_Total.f (k:Nat) (l0:List Int):Option (Int × Bool):=if 0≤(mn (l0.length:Int) 64) then (if (mn (l0.length:Int) 64)≤(l0.length:Int) then ((sum_values.f k (l0.take ((mn (l0.length:Int) 64):Int).toNat)).bind fun bt143=>((wide_Int.f k bt143.1 bt143.2).bind fun bt145=>(if bt145.2=true then ((sum_changed.f k (l0.take ((mn (l0.length:Int) 64):Int).toNat)).bind fun t147=>(some (bt145.1,t147))) else (some (bt145.1,true))))) else (none)) else (none)
theorem sum_Total.mono:∀ a0 k,LeO (sum_Total.f k a0) (sum_Total.f (k+1) a0):=by
 intro a0 k
 unfold sum_Total.f
 repeat' first
   | (with_reducible exact sum_changed.mono _ _)
   | (with_reducible exact sum_values.mono _ _)
   | (with_reducible exact wide_Int.mono _ _ _)
   | (with_reducible exact LeO.refl _)
   | (with_reducible exact LeO.none _)
   | (with_reducible refine LeO.ite ?_ ?_)
   | (with_reducible refine LeO.bind ?_ (fun _=>?_))
   | exact sum_changed.mono _ _
   | exact sum_values.mono _ _
   | exact wide_Int.mono _ _ _
   | exact LeO.none _
   | refine LeO.ite ?_ ?_
   | refine LeO.bind ?_ (fun _=>?_)
set_option maxHeartbeats 8000000 in
set_option maxRecDepth 100000 in
theorem sum_Total.calls (k:Nat) (A0:Option Addr) (c0:Nat) (l0:List Int) (r1:Int) (r2:Bool) (w:World) (hr0:Kd.C (Kd.int .i64) w A0 l0.length l0) (hc0:l0.length≤c0) (h:sum_Total.f k l0=some (r1,r2)) :
  Calls Try.prog 9 #[.slice A0 l0.length c0] w fun e w'=>e=.returned (.tuple #[.int .i64 r1,.bool r2])∧Below w.heap.size w w':=by
 have HR0:=Aside0.mk hr0
 have HC0:=Aside0.mk hc0
 clear hr0 hc0
 have HB:=Aside0.mk (Below.refl w.heap.size w)
 have H:(if 0≤(mn (l0.length:Int) 64) then (if (mn (l0.length:Int) 64)≤(l0.length:Int) then ((sum_values.f k (l0.take ((mn (l0.length:Int) 64):Int).toNat)).bind fun bt143=>((wide_Int.f k bt143.1 bt143.2).bind fun bt145=>(if bt145.2=true then ((sum_changed.f k (l0.take ((mn (l0.length:Int) 64):Int).toNat)).bind fun t147=>(some (bt145.1,t147))) else (some (bt145.1,true))))) else (none)) else (none))=some (r1,r2):=h
 clear h
 obtain⟨ji2,hji2⟩:∃ j_:Int,(mn (l0.length:Int) 64)=j_:=⟨_,rfl⟩
 replace H:(if 0≤(ji2) then (if (ji2)≤(l0.length:Int) then ((sum_values.f k (l0.take ((ji2):Int).toNat)).bind fun bt143=>((wide_Int.f k bt143.1 bt143.2).bind fun bt145=>(if bt145.2=true then ((sum_changed.f k (l0.take ((ji2):Int).toNat)).bind fun t147=>(some (bt145.1,t147))) else (some (bt145.1,true))))) else (none)) else (none))=some (r1,r2):=by first|(rw [hji2] at H;exact H)|(simp only [hji2] at H ⊢;exact H)
 (try (have hji2h:ji2≤64:=by (rw [←hji2];unfold mn;(repeat' split)<;>omega)))
 (try (have hji2g:ji2≤64:=by omega))
 (try (have hji2l:0≤ji2:=by (rw [←hji2];unfold mn;(repeat' split)<;>omega)))
 (try (have hji2m:0≤ji2:=by omega))
 have hji2_:(if 64<(l0.length:Int) then 64 else (l0.length:Int))=ji2:=hji2
 obtain⟨m0,hm0⟩:∃ m_:List Int,(l0.take ((ji2):Int).toNat)=m_:=⟨_,rfl⟩
 rw [hm0] at H
 have hm9:=Aside0.mk (show m0.length≤64 by rw [←hm0,List.length_take];omega)
 by_cases c3:0≤(ji2)
 ·rw [if_pos c3] at H
  have c3b0:=eq_true c3
  have c3b1:decide (0≤(ji2))=true:=decide_eq_true c3
  clear c3
  by_cases c4:(ji2)≤(l0.length:Int)
  ·rw [if_pos c4] at H
   have c4b0:=eq_true c4
   have c4b1:decide ((ji2)≤(l0.length:Int))=true:=decide_eq_true c4
   clear c4
   replace H:=Option.bind_eq_some_iff.mp H
   obtain⟨⟨t143,t144⟩,A50,H⟩:=H
   replace H:((wide_Int.f k t143 t144).bind fun bt145=>(if bt145.2=true then ((sum_changed.f k m0).bind fun t147=>(some (bt145.1,t147))) else (some (bt145.1,true))))=some (r1,r2):=H
   have A5:=Aside0.mk A50
   clear A50
   replace H:=Option.bind_eq_some_iff.mp H
   obtain⟨⟨t145,t146⟩,A60,H⟩:=H
   replace H:(if t146=true then ((sum_changed.f k m0).bind fun t147=>(some (t145,t147))) else (some (t145,true)))=some (r1,r2):=H
   have A6:=Aside0.mk A60
   clear A60
   by_cases c7:t146=true
   ·subst c7
    have H1:((sum_changed.f k m0).bind fun t147=>(some (t145,t147)))=some (r1,r2):=by rw [if_pos rfl] at H;exact H
    clear H
    have H:=H1
    clear H1
    replace H:=Option.bind_eq_some_iff.mp H
    obtain⟨t147,A80,H⟩:=H
    replace H:(some (t145,t147))=some (r1,r2):=H
    have A8:=Aside0.mk A80
    clear A80
    simp only [Option.some.injEq,Prod.mk.injEq] at H
    obtain⟨rfl,rfl⟩:=H
    obtain⟨i09,hi09,_,hsz9,_⟩:=info_parts info3
    obtain⟨hcut9,hA9,hC9⟩:=print_take_of (P:=Try.prog) (Value.int .i64) 0 22 3 .i64 Try.underlying22 hi09 hsz9 A0 c0 l0 (ji2) (of_decide_eq_true (by first|(with_reducible assumption)|assumption)) (of_decide_eq_true (by first|(with_reducible assumption)|assumption)) HC0.out
    rw [hm0] at hA9 hC9
    clear hcut9
    have HR142:=Aside0.mk (Kd.C_of_reads (h1:=fun _=>rfl) (hA9 _ (Kd.reads_of_C HR0.out)))
    have HC142:=Aside0.mk hC9
    clear hA9 hC9 hi09 hsz9
    go_enter Try.func9,Try.ntmps9
    go_wp2_with (first|((with_reducible refine gate_callee (f:=21) rfl ?_);refine goesL_ (some 7) rfl rfl Try.func21 (by kernel_rfl) rfl #[.slice A0 l0.length c0] rfl (by (try simp only [List.map_toArray,List.map_cons,List.map_nil]);first|done|rfl) ?_;(refine(sum_cut.own A0 c0 l0 m0 _ hm0 hji2_ HC0.out _).mono ?_);rintro e w21_ ⟨rfl,rfl⟩;refine⟨_,rfl,?_⟩)|((with_reducible refine gate_callee (f:=24) rfl ?_);refine goesL_ (some 10) rfl rfl Try.func24 (by kernel_rfl) rfl #[.slice A0 m0.length c0] rfl (by (try simp only [List.map_toArray,List.map_cons,List.map_nil]);first|done|(rw [show m0.length=(ji2).toNat from (by rw [List.length_take];have h_:((ji2):Int)≤(l0.length:Int):=of_decide_eq_true (by first|(with_reducible assumption)|assumption);omega)]<;>rfl)|(simp only [hji2];rfl)|rfl|(simp only [List.length_drop,List.length_take];rfl)) ?_;(with_reducible refine(sum_values.calls k _ _ m0 t143 t144 _ ?side1 ?side2 ?side9 A5.out).mono ?_);(case side1=>repeat (first|exact HR142.out|(with_reducible refine Kd.C_alloc ?_ _)|(with_reducible refine Kd.C_drewN ?_ _)|(with_reducible refine Kd.C_drew ?_)));(case side2=>exact HC142.out);(case side9=>first|exact hm9.out|exact hm8.out|(rw [List.length_take];omega));rintro e w10 ⟨B1_,B2_,rfl,hG_,hb⟩;refine⟨_,rfl,?_⟩;have n0_:=Aside0.mk (below_step (by repeat (first|(with_reducible first|exact HB.out|apply below_alloc|apply pw_below_drewN|apply below_drew1)|exact HB.out)) hb);clear HB;have HB:=n0_;clear n0_;(try clear hb);(try clear hb2);(try clear hk);(try clear hi))|((with_reducible refine gate_callee (f:=23) rfl ?_);refine goesL_ (some 11) rfl rfl Try.func23 (by kernel_rfl) rfl #[.func (.func 62) #[] #[.pointer (some ⟨B1_,0,none⟩),.pointer (some ⟨B2_,0,none⟩)]] rfl (by (try simp only [List.map_toArray,List.map_cons,List.map_nil]);first|done|rfl) ?_;(with_reducible refine(sum_add.calls _ _ t143 t144 _ ?sideG).mono ?_);(case sideG=>first|exact hG_|exact hG_.later (by repeat (first|exact Below.refl _ _|apply below_alloc|apply pw_below_drewN|apply below_drew1)));rintro e w10_ ⟨rfl,hb⟩;refine⟨_,rfl,?_⟩;have n0_:=Aside0.mk (below_step (by repeat (first|(with_reducible first|exact HB.out|apply below_alloc|apply pw_below_drewN|apply below_drew1)|exact HB.out)) hb);clear HB;have HB:=n0_;clear n0_;(try clear hb);(try clear hb2);(try clear hk);(try clear hi))|((with_reducible refine gate_callee (f:=22) rfl ?_);refine goesL_ (some 12) rfl rfl Try.func22 (by kernel_rfl) rfl #[.agg #[.int .i64 t143,.int .i64 t144]] rfl (by (try simp only [List.map_toArray,List.map_cons,List.map_nil]);first|done|rfl|(simp only [List.length_drop,List.length_take];rfl)) ?_;(with_reducible refine(wide_Int.calls k t143 t144 t145 true _ A6.out).mono ?_);rintro e w11 ⟨rfl,hb⟩;refine⟨_,rfl,?_⟩;have n0_:=Aside0.mk (below_step (by repeat (first|(with_reducible first|exact HB.out|apply below_alloc|apply pw_below_drewN|apply below_drew1)|exact HB.out)) hb);clear HB;have HB:=n0_;clear n0_;(try clear hb);(try clear hb2);(try clear hk);(try clear hi))|(go_at_call 25;(with_reducible refine(sum_changed.calls k _ _ m0 t147 _ ?side1 ?side2 ?side9 A8.out).mono ?_);(case side1=>repeat (first|exact(Kd.C_below HR142.out HB.out)|(with_reducible refine Kd.C_alloc ?_ _)|(with_reducible refine Kd.C_drewN ?_ _)|(with_reducible refine Kd.C_drew ?_)));(case side2=>exact HC142.out);(case side9=>first|exact hm9.out|exact hm8.out|(rw [List.length_take];omega));rintro e w12 ⟨rfl,hb⟩;have n0_:=Aside0.mk (below_step (by repeat (first|(with_reducible first|exact HB.out|apply below_alloc|apply pw_below_drewN|apply below_drew1)|exact HB.out)) hb);clear HB;have HB:=n0_;clear n0_;(try clear hb);(try clear hb2);(try clear hk);(try clear hi)))
    go_ret2
    exact⟨by first|rfl|(simp [errW_none,errW_some]<;>rfl)|(simp only [←hji2];first|rfl|(simp [errW_none,errW_some]<;>rfl))|(simp [*,errW_none,errW_some]<;>rfl),by repeat (first|(with_reducible first|exact HB.out|apply below_alloc|apply pw_below_drewN|apply below_drew1)|exact HB.out)⟩
   ·replace c7:=Bool.eq_false_iff.mpr c7
    subst c7
    have H1:(some (t145,true))=some (r1,r2):=by rw [if_neg (show ¬(false=true) by decide)] at H;exact H
    clear H
    have H:=H1
    clear H1
    simp only [Option.some.injEq,Prod.mk.injEq] at H
    obtain⟨rfl,rfl⟩:=H
    obtain⟨i013,hi013,_,hsz13,_⟩:=info_parts info3
    obtain⟨hcut13,hA13,hC13⟩:=print_take_of (P:=Try.prog) (Value.int .i64) 0 22 3 .i64 Try.underlying22 hi013 hsz13 A0 c0 l0 (ji2) (of_decide_eq_true (by first|(with_reducible assumption)|assumption)) (of_decide_eq_true (by first|(with_reducible assumption)|assumption)) HC0.out
    rw [hm0] at hA13 hC13
    clear hcut13
    have HR142:=Aside0.mk (Kd.C_of_reads (h1:=fun _=>rfl) (hA13 _ (Kd.reads_of_C HR0.out)))
    have HC142:=Aside0.mk hC13
    clear hA13 hC13 hi013 hsz13
    go_enter Try.func9,Try.ntmps9
    go_wp2_with (first|((with_reducible refine gate_callee (f:=21) rfl ?_);refine goesL_ (some 7) rfl rfl Try.func21 (by kernel_rfl) rfl #[.slice A0 l0.length c0] rfl (by (try simp only [List.map_toArray,List.map_cons,List.map_nil]);first|done|rfl) ?_;(refine(sum_cut.own A0 c0 l0 m0 _ hm0 hji2_ HC0.out _).mono ?_);rintro e w21_ ⟨rfl,rfl⟩;refine⟨_,rfl,?_⟩)|((with_reducible refine gate_callee (f:=24) rfl ?_);refine goesL_ (some 10) rfl rfl Try.func24 (by kernel_rfl) rfl #[.slice A0 m0.length c0] rfl (by (try simp only [List.map_toArray,List.map_cons,List.map_nil]);first|done|(rw [show m0.length=(ji2).toNat from (by rw [List.length_take];have h_:((ji2):Int)≤(l0.length:Int):=of_decide_eq_true (by first|(with_reducible assumption)|assumption);omega)]<;>rfl)|(simp only [hji2];rfl)|rfl|(simp only [List.length_drop,List.length_take];rfl)) ?_;(with_reducible refine(sum_values.calls k _ _ m0 t143 t144 _ ?side1 ?side2 ?side9 A5.out).mono ?_);(case side1=>repeat (first|exact HR142.out|(with_reducible refine Kd.C_alloc ?_ _)|(with_reducible refine Kd.C_drewN ?_ _)|(with_reducible refine Kd.C_drew ?_)));(case side2=>exact HC142.out);(case side9=>first|exact hm9.out|exact hm8.out|(rw [List.length_take];omega));rintro e w14 ⟨B1_,B2_,rfl,hG_,hb⟩;refine⟨_,rfl,?_⟩;have n0_:=Aside0.mk (below_step (by repeat (first|(with_reducible first|exact HB.out|apply below_alloc|apply pw_below_drewN|apply below_drew1)|exact HB.out)) hb);clear HB;have HB:=n0_;clear n0_;(try clear hb);(try clear hb2);(try clear hk);(try clear hi))|((with_reducible refine gate_callee (f:=23) rfl ?_);refine goesL_ (some 11) rfl rfl Try.func23 (by kernel_rfl) rfl #[.func (.func 62) #[] #[.pointer (some ⟨B1_,0,none⟩),.pointer (some ⟨B2_,0,none⟩)]] rfl (by (try simp only [List.map_toArray,List.map_cons,List.map_nil]);first|done|rfl) ?_;(with_reducible refine(sum_add.calls _ _ t143 t144 _ ?sideG).mono ?_);(case sideG=>first|exact hG_|exact hG_.later (by repeat (first|exact Below.refl _ _|apply below_alloc|apply pw_below_drewN|apply below_drew1)));rintro e w14_ ⟨rfl,hb⟩;refine⟨_,rfl,?_⟩;have n0_:=Aside0.mk (below_step (by repeat (first|(with_reducible first|exact HB.out|apply below_alloc|apply pw_below_drewN|apply below_drew1)|exact HB.out)) hb);clear HB;have HB:=n0_;clear n0_;(try clear hb);(try clear hb2);(try clear hk);(try clear hi))|((with_reducible refine gate_callee (f:=22) rfl ?_);refine goesL_ (some 12) rfl rfl Try.func22 (by kernel_rfl) rfl #[.agg #[.int .i64 t143,.int .i64 t144]] rfl (by (try simp only [List.map_toArray,List.map_cons,List.map_nil]);first|done|rfl|(simp only [List.length_drop,List.length_take];rfl)) ?_;(with_reducible refine(wide_Int.calls k t143 t144 t145 false _ A6.out).mono ?_);rintro e w15 ⟨rfl,hb⟩;refine⟨_,rfl,?_⟩;have n0_:=Aside0.mk (below_step (by repeat (first|(with_reducible first|exact HB.out|apply below_alloc|apply pw_below_drewN|apply below_drew1)|exact HB.out)) hb);clear HB;have HB:=n0_;clear n0_;(try clear hb);(try clear hb2);(try clear hk);(try clear hi)))
    go_ret2
    exact⟨by first|rfl|(simp [errW_none,errW_some]<;>rfl)|(simp only [←hji2];first|rfl|(simp [errW_none,errW_some]<;>rfl))|(simp [*,errW_none,errW_some]<;>rfl),by repeat (first|(with_reducible first|exact HB.out|apply below_alloc|apply pw_below_drewN|apply below_drew1)|exact HB.out)⟩
  ·rw [if_neg c4] at H
   exact absurd H (by simp)
 ·rw [if_neg c3] at H
  exact absurd H (by simp)
def sum_Mean.l0:Nat→List Int→Int→Int→Int→Int→Option (Int × Bool)
  | 0,_,_,_,_,_=>none
  | k+1,x0,x4,x5,x19,x20=>if x20<x19 then (if 0≤x20 then (if x20<(x0.length:Int) then ((fix_Clamp.f (rd x0 x20)).bind fun bt150=>(if (x0.length:Int)=0 then (none) else (sum_Mean.l0 k x0 (wrap64 (x4+(wrap64 (Int.tdiv bt150.1 (x0.length:Int))))) (wrap64 (x5+(wrap64 (bt150.1-(wrap64 ((wrap64 (Int.tdiv bt150.1 (x0.length:Int)))*(x0.length:Int))))))) x19 (wrap64 (x20+1))))) else (none)) else (none)) else (if (wrap64 (2*(x0.length:Int)))=0 then (none) else (if (wrap64 ((wrap64 (Int.tdiv (wrap64 ((wrap64 (2*x5))+(x0.length:Int))) (wrap64 (2*(x0.length:Int)))))*(wrap64 (2*(x0.length:Int))))) > (wrap64 ((wrap64 (2*x5))+(x0.length:Int))) then ((sum_changed.f k x0).bind fun t152=>(some (wrap64 (x4+(wrap64 ((wrap64 (Int.tdiv (wrap64 ((wrap64 (2*x5))+(x0.length:Int))) (wrap64 (2*(x0.length:Int)))))-1))),t152))) else ((sum_changed.f k x0).bind fun t153=>(some (wrap64 (x4+(wrap64 (Int.tdiv (wrap64 ((wrap64 (2*x5))+(x0.length:Int))) (wrap64 (2*(x0.length:Int)))))),t153)))))
def sum_Mean.f (k:Nat) (l0:List Int):Option (Int × Bool):=if 0≤(mn (l0.length:Int) 64) then (if (mn (l0.length:Int) 64)≤(l0.length:Int) then (if ((l0.take ((mn (l0.length:Int) 64):Int).toNat).length:Int)=0 then (some (0,false)) else (sum_Mean.l0 k (l0.take ((mn (l0.length:Int) 64):Int).toNat) 0 0 ((l0.take ((mn (l0.length:Int) 64):Int).toNat).length:Int) 0)) else (none)) else (none)
theorem sum_Mean.mono_l:∀ k,(∀ y0 y1 y2 y3 y4,LeO (sum_Mean.l0 k y0 y1 y2 y3 y4) (sum_Mean.l0 (k+1) y0 y1 y2 y3 y4))
 | 0=>fun _ _ _ _ _ r h=>by simp [sum_Mean.l0] at h
 | k+1=>by
  have ih0:=sum_Mean.mono_l k
  ·intro y0 y1 y2 y3 y4
   unfold sum_Mean.l0
   repeat' first
   | (with_reducible exact ih0 _ _ _ _ _)
   | (with_reducible exact sum_changed.mono _ _)
   | (with_reducible exact LeO.refl _)
   | (with_reducible exact LeO.none _)
   | (with_reducible refine LeO.ite ?_ ?_)
   | (with_reducible refine LeO.bind ?_ (fun _=>?_))
   | exact ih0 _ _ _ _ _
   | exact sum_changed.mono _ _
   | exact LeO.none _
   | refine LeO.ite ?_ ?_
   | refine LeO.bind ?_ (fun _=>?_)
theorem sum_Mean.mono:∀ a0 k,LeO (sum_Mean.f k a0) (sum_Mean.f (k+1) a0):=by
 intro a0 k
 have ih0:=sum_Mean.mono_l k
 unfold sum_Mean.f
 repeat' first
   | (with_reducible exact ih0 _ _ _ _ _)
   | (with_reducible exact sum_changed.mono _ _)
   | (with_reducible exact LeO.refl _)
   | (with_reducible exact LeO.none _)
   | (with_reducible refine LeO.ite ?_ ?_)
   | (with_reducible refine LeO.bind ?_ (fun _=>?_))
   | exact ih0 _ _ _ _ _
   | exact sum_changed.mono _ _
   | exact LeO.none _
   | refine LeO.ite ?_ ?_
   | refine LeO.bind ?_ (fun _=>?_)
set_option maxHeartbeats 8000000 in
set_option maxRecDepth 100000 in
theorem sum_Mean.calls (k:Nat) (A0:Option Addr) (c0:Nat) (l0:List Int) (r1:Int) (r2:Bool) (w:World) (hr0:Kd.C (Kd.int .i64) w A0 l0.length l0) (hc0:l0.length≤c0) (h:sum_Mean.f k l0=some (r1,r2)) :
  Calls Try.prog 11 #[.slice A0 l0.length c0] w fun e w'=>e=.returned (.tuple #[.int .i64 r1,.bool r2])∧Below w.heap.size w w':=by
 have HR0:=Aside0.mk hr0
 have HC0:=Aside0.mk hc0
 clear hr0 hc0
 have HB:=Aside0.mk (Below.refl w.heap.size w)
 have H:(if 0≤(mn (l0.length:Int) 64) then (if (mn (l0.length:Int) 64)≤(l0.length:Int) then (if ((l0.take ((mn (l0.length:Int) 64):Int).toNat).length:Int)=0 then (some (0,false)) else (sum_Mean.l0 k (l0.take ((mn (l0.length:Int) 64):Int).toNat) 0 0 ((l0.take ((mn (l0.length:Int) 64):Int).toNat).length:Int) 0)) else (none)) else (none))=some (r1,r2):=h
 clear h
 obtain⟨ji2,hji2⟩:∃ j_:Int,(mn (l0.length:Int) 64)=j_:=⟨_,rfl⟩
 replace H:(if 0≤(ji2) then (if (ji2)≤(l0.length:Int) then (if ((l0.take ((ji2):Int).toNat).length:Int)=0 then (some (0,false)) else (sum_Mean.l0 k (l0.take ((ji2):Int).toNat) 0 0 ((l0.take ((ji2):Int).toNat).length:Int) 0)) else (none)) else (none))=some (r1,r2):=by first|(rw [hji2] at H;exact H)|(simp only [hji2] at H ⊢;exact H)
 (try (have hji2h:ji2≤64:=by (rw [←hji2];unfold mn;(repeat' split)<;>omega)))
 (try (have hji2g:ji2≤64:=by omega))
 (try (have hji2l:0≤ji2:=by (rw [←hji2];unfold mn;(repeat' split)<;>omega)))
 (try (have hji2m:0≤ji2:=by omega))
 have hji2_:(if 64<(l0.length:Int) then 64 else (l0.length:Int))=ji2:=hji2
 obtain⟨m0,hm0⟩:∃ m_:List Int,(l0.take ((ji2):Int).toNat)=m_:=⟨_,rfl⟩
 rw [hm0] at H
 have hm9:=Aside0.mk (show m0.length≤64 by rw [←hm0,List.length_take];omega)
 by_cases c3:0≤(ji2)
 ·rw [if_pos c3] at H
  have c3b0:=eq_true c3
  have c3b1:decide (0≤(ji2))=true:=decide_eq_true c3
  clear c3
  by_cases c4:(ji2)≤(l0.length:Int)
  ·rw [if_pos c4] at H
   have c4b0:=eq_true c4
   have c4b1:decide ((ji2)≤(l0.length:Int))=true:=decide_eq_true c4
   clear c4
   by_cases c5:(m0.length:Int)=0
   ·rw [if_pos c5] at H
    have c5b0:((m0.length:Int) == 0)=true:=beq_iff_eq.mpr c5
    have c5b1:((m0.length:Int) != 0)=false:=bne_eq_false_iff_eq.mpr c5
    clear c5
    simp only [Option.some.injEq,Prod.mk.injEq] at H
    obtain⟨rfl,rfl⟩:=H
    obtain⟨i06,hi06,_,hsz6,_⟩:=info_parts info3
    obtain⟨hcut6,hA6,hC6⟩:=print_take_of (P:=Try.prog) (Value.int .i64) 0 22 3 .i64 Try.underlying22 hi06 hsz6 A0 c0 l0 (ji2) (of_decide_eq_true (by first|(with_reducible assumption)|assumption)) (of_decide_eq_true (by first|(with_reducible assumption)|assumption)) HC0.out
    rw [hm0] at hA6 hC6
    clear hcut6
    have HR148:=Aside0.mk (Kd.C_of_reads (h1:=fun _=>rfl) (hA6 _ (Kd.reads_of_C HR0.out)))
    have HC148:=Aside0.mk hC6
    clear hA6 hC6 hi06 hsz6
    go_enter Try.func11,Try.ntmps11
    go_wp2_with ((with_reducible refine gate_callee (f:=21) rfl ?_);refine goesL_ (some 14) rfl rfl Try.func21 (by kernel_rfl) rfl #[.slice A0 l0.length c0] rfl (by (try simp only [List.map_toArray,List.map_cons,List.map_nil]);first|done|rfl) ?_;(refine(sum_cut.own A0 c0 l0 m0 _ hm0 hji2_ HC0.out _).mono ?_);rintro e w21_ ⟨rfl,rfl⟩;refine⟨_,rfl,?_⟩)
    go_ret2
    exact⟨by first|rfl|(simp [errW_none,errW_some]<;>rfl)|(simp only [←hji2];first|rfl|(simp [errW_none,errW_some]<;>rfl))|(simp [*,errW_none,errW_some]<;>rfl),by repeat (first|(with_reducible first|exact HB.out|apply below_alloc|apply pw_below_drewN|apply below_drew1)|exact HB.out)⟩
   ·rw [if_neg c5] at H
    have c5b0:((m0.length:Int) == 0)=false:=beq_eq_false_iff_ne.mpr c5
    have c5b1:((m0.length:Int) != 0)=true:=bne_iff_ne.mpr c5
    have c5b2:¬(m0=[]):=fun h_=>c5 (by rw [h_];rfl)
    have H':=Aside0.mk H
    clear H
    obtain⟨i07,hi07,_,hsz7,_⟩:=info_parts info3
    obtain⟨hcut7,hA7,hC7⟩:=print_take_of (P:=Try.prog) (Value.int .i64) 0 22 3 .i64 Try.underlying22 hi07 hsz7 A0 c0 l0 (ji2) (of_decide_eq_true (by first|(with_reducible assumption)|assumption)) (of_decide_eq_true (by first|(with_reducible assumption)|assumption)) HC0.out
    rw [hm0] at hA7 hC7
    clear hcut7
    have HR148:=Aside0.mk (Kd.C_of_reads (h1:=fun _=>rfl) (hA7 _ (Kd.reads_of_C HR0.out)))
    have HC148:=Aside0.mk hC7
    clear hA7 hC7 hi07 hsz7
    go_enter Try.func11,Try.ntmps11
    go_wp2_with ((with_reducible refine gate_callee (f:=21) rfl ?_);refine goesL_ (some 14) rfl rfl Try.func21 (by kernel_rfl) rfl #[.slice A0 l0.length c0] rfl (by (try simp only [List.map_toArray,List.map_cons,List.map_nil]);first|done|rfl) ?_;(refine(sum_cut.own A0 c0 l0 m0 _ hm0 hji2_ HC0.out _).mono ?_);rintro e w21_ ⟨rfl,rfl⟩;refine⟨_,rfl,?_⟩)
    go_loopg [4,5,20] k (fun kq v4 v5 v20 w'=>∃ (x4_1:Int) (x5_1:Int) (x20_1:Int),v4=.int .i64 x4_1∧v5=.int .i64 x5_1∧v20=.int .i64 x20_1∧Aside0 (sum_Mean.l0 kq m0 x4_1 x5_1 (m0.length:Int) x20_1=some (r1,r2))∧Aside0 (kq≤k)∧Aside0 (Below w.heap.size w w'))
    case atStart=>exact⟨(0),(0),(0),(by first|rfl|(simp;done)|(simp [*];done)),(by first|rfl|(simp;done)|(simp [*];done)),(by first|rfl|(simp;done)|(simp [*];done)),H',⟨Nat.le_refl _⟩,⟨by repeat (first|(with_reducible first|exact HB.out|apply below_alloc|apply pw_below_drewN|apply below_drew1)|exact HB.out)⟩⟩
    case round =>
     clear H'
     try clear c1
     try clear p2
     try clear c3
     try clear c3b0
     try clear c3b1
     try clear c4
     try clear c4b0
     try clear c4b1
     try clear c5
     try clear c5b0
     try clear c5b1
     try clear c5b2
     obtain⟨x4_1,x5_1,x20_1,rfl,rfl,rfl,HA,HK1,HB⟩:=hrel
     cases gk with
     | zero=>exact absurd HA.out (by simp [sum_Mean.l0])
     | succ k1 =>
      have H:=HA.out
      clear HA
      simp only [sum_Mean.l0] at H
      by_cases c8:x20_1<(m0.length:Int)
      ·rw [if_pos c8] at H
       have c8b0:decide (x20_1<(m0.length:Int))=true:=decide_eq_true c8
       clear c8
       by_cases c9:0≤x20_1
       ·rw [if_pos c9] at H
        have c9b0:decide (0≤x20_1)=true:=decide_eq_true c9
        clear c9
        by_cases c10:x20_1<(m0.length:Int)
        ·rw [if_pos c10] at H
         have c10b0:decide (x20_1<(m0.length:Int))=true:=decide_eq_true c10
         clear c10
         replace H:=Option.bind_eq_some_iff.mp H
         obtain⟨⟨t150,t151⟩,A110,H⟩:=H
         replace H:(if (m0.length:Int)=0 then (none) else (sum_Mean.l0 k1 m0 (wrap64 (x4_1+(wrap64 (Int.tdiv t150 (m0.length:Int))))) (wrap64 (x5_1+(wrap64 (t150-(wrap64 ((wrap64 (Int.tdiv t150 (m0.length:Int)))*(m0.length:Int))))))) (m0.length:Int) (wrap64 (x20_1+1))))=some (r1,r2):=H
         have A11:=Aside0.mk A110
         clear A110
         by_cases c12:(m0.length:Int)=0
         ·rw [if_pos c12] at H
          exact absurd H (by simp)
         ·rw [if_neg c12] at H
          have c12b0:((m0.length:Int) == 0)=false:=beq_eq_false_iff_ne.mpr c12
          have c12b1:((m0.length:Int) != 0)=true:=bne_iff_ne.mpr c12
          have c12b2:¬(m0=[]):=fun h_=>c12 (by rw [h_];rfl)
          have H':=Aside0.mk H
          clear H
          have p149:0≤(x20_1:Int):=of_decide_eq_true (by first|(with_reducible assumption)|assumption)
          have q149:x20_1<(m0.length:Int):=of_decide_eq_true (by first|(with_reducible assumption)|assumption)
          obtain⟨ad149,e149,hx149_0⟩:=Kd.at_int HR148.out x20_1 p149 q149
          cases e149
          replace hx149_0:=(HB.out.cell (World.block_lt_of_cell? w _ hx149_0)).trans hx149_0
          replace p149:=eq_true p149
          replace q149:=eq_true q149
          go_wp2_with (first|((with_reducible refine gate_callee (f:=18) rfl ?_);refine goesL_ (some 28) rfl rfl Try.func18 (by kernel_rfl) rfl #[.int .i64 (rd m0 x20_1)] rfl (by (try simp only [List.map_toArray,List.map_cons,List.map_nil]);first|done|(simp only [hji2];rfl)|rfl|(simp only [List.length_drop,List.length_take];rfl)) ?_;(with_reducible refine(fix_Clamp.calls (rd m0 x20_1) t150 t151 _ A11.out).mono ?_);rintro e w13 ⟨rfl,hb⟩;refine⟨_,rfl,?_⟩;have n0_:=Aside0.mk (below_step (by repeat (first|(with_reducible first|exact HB.out|apply below_alloc|apply pw_below_drewN|apply below_drew1)|exact HB.out)) hb);clear HB;have HB:=n0_;clear n0_;(try clear hb);(try clear hb2);(try clear hk);(try clear hi)))
          go_roundg k1
          case measure=>have:=HK1.out;omega
          case rel=>exact⟨(wrap64 (x4_1+(wrap64 (Int.tdiv t150 (m0.length:Int))))),(wrap64 (x5_1+(wrap64 (t150-(wrap64 ((wrap64 (Int.tdiv t150 (m0.length:Int)))*(m0.length:Int))))))),(wrap64 (x20_1+1)),(by first|rfl|(simp;done)|(simp only [←hji2]<;>(first|rfl|simp))|(simp [*];done)),(by first|rfl|(simp;done)|(simp only [←hji2]<;>(first|rfl|simp))|(simp [*];done)),(by first|rfl|(simp;done)|(simp [*];done)),H',⟨by have:=HK1.out;omega⟩,⟨by repeat (first|(with_reducible first|exact HB.out|apply below_alloc|apply pw_below_drewN|apply below_drew1)|exact HB.out)⟩⟩
        ·rw [if_neg c10] at H
         exact absurd H (by simp)
       ·rw [if_neg c9] at H
        exact absurd H (by simp)
      ·rw [if_neg c8] at H
       have c8b0:decide (x20_1<(m0.length:Int))=false:=decide_eq_false c8
       clear c8
       by_cases c14:(wrap64 (2*(m0.length:Int)))=0
       ·rw [if_pos c14] at H
        exact absurd H (by simp)
       ·rw [if_neg c14] at H
        have c14b0:((wrap64 (2*(m0.length:Int))) == 0)=false:=beq_eq_false_iff_ne.mpr c14
        have c14b1:((wrap64 (2*(m0.length:Int))) != 0)=true:=bne_iff_ne.mpr c14
        by_cases c15:(wrap64 ((wrap64 (Int.tdiv (wrap64 ((wrap64 (2*x5_1))+(m0.length:Int))) (wrap64 (2*(m0.length:Int)))))*(wrap64 (2*(m0.length:Int))))) > (wrap64 ((wrap64 (2*x5_1))+(m0.length:Int)))
        ·rw [if_pos c15] at H
         have c15b0:decide ((wrap64 ((wrap64 (2*x5_1))+(m0.length:Int)))<(wrap64 ((wrap64 (Int.tdiv (wrap64 ((wrap64 (2*x5_1))+(m0.length:Int))) (wrap64 (2*(m0.length:Int)))))*(wrap64 (2*(m0.length:Int))))))=true:=decide_eq_true c15
         clear c15
         replace H:=Option.bind_eq_some_iff.mp H
         obtain⟨t152,A160,H⟩:=H
         replace H:(some (wrap64 (x4_1+(wrap64 ((wrap64 (Int.tdiv (wrap64 ((wrap64 (2*x5_1))+(m0.length:Int))) (wrap64 (2*(m0.length:Int)))))-1))),t152))=some (r1,r2):=H
         have A16:=Aside0.mk A160
         clear A160
         simp only [Option.some.injEq,Prod.mk.injEq] at H
         obtain⟨rfl,rfl⟩:=H
         go_wp2_with (first|((with_reducible refine gate_callee (f:=25) rfl ?_);refine goesL_ (some 69) rfl rfl Try.func25 (by kernel_rfl) rfl #[.slice A0 m0.length c0] rfl (by (try simp only [List.map_toArray,List.map_cons,List.map_nil]);first|done|(rw [show m0.length=(ji2).toNat from (by rw [List.length_take];have h_:((ji2):Int)≤(l0.length:Int):=of_decide_eq_true (by first|(with_reducible assumption)|assumption);omega)]<;>rfl)|(simp only [hji2];rfl)|rfl|(simp only [List.length_drop,List.length_take];rfl)) ?_;(with_reducible refine(sum_changed.calls k1 _ _ m0 t152 _ ?side1 ?side2 ?side9 A16.out).mono ?_);(case side1=>repeat (first|exact(Kd.C_below HR148.out HB.out)|(with_reducible refine Kd.C_alloc ?_ _)|(with_reducible refine Kd.C_drewN ?_ _)|(with_reducible refine Kd.C_drew ?_)));(case side2=>exact HC148.out);(case side9=>first|exact hm9.out|exact hm8.out|(rw [List.length_take];omega));rintro e w17 ⟨rfl,hb⟩;refine⟨_,rfl,?_⟩;have n0_:=Aside0.mk (below_step (by repeat (first|(with_reducible first|exact HB.out|apply below_alloc|apply pw_below_drewN|apply below_drew1)|exact HB.out)) hb);clear HB;have HB:=n0_;clear n0_;(try clear hb);(try clear hb2);(try clear hk);(try clear hi)))
         go_ret2
         exact⟨by first|rfl|(simp [errW_none,errW_some]<;>rfl)|(simp only [←hji2];first|rfl|(simp [errW_none,errW_some]<;>rfl))|(simp [*,errW_none,errW_some]<;>rfl),by repeat (first|(with_reducible first|exact HB.out|apply below_alloc|apply pw_below_drewN|apply below_drew1)|exact HB.out)⟩
        ·rw [if_neg c15] at H
         have c15b0:decide ((wrap64 ((wrap64 (2*x5_1))+(m0.length:Int)))<(wrap64 ((wrap64 (Int.tdiv (wrap64 ((wrap64 (2*x5_1))+(m0.length:Int))) (wrap64 (2*(m0.length:Int)))))*(wrap64 (2*(m0.length:Int))))))=false:=decide_eq_false c15
         clear c15
         replace H:=Option.bind_eq_some_iff.mp H
         obtain⟨t153,A180,H⟩:=H
         replace H:(some (wrap64 (x4_1+(wrap64 (Int.tdiv (wrap64 ((wrap64 (2*x5_1))+(m0.length:Int))) (wrap64 (2*(m0.length:Int)))))),t153))=some (r1,r2):=H
         have A18:=Aside0.mk A180
         clear A180
         simp only [Option.some.injEq,Prod.mk.injEq] at H
         obtain⟨rfl,rfl⟩:=H
         go_wp2_with (first|((with_reducible refine gate_callee (f:=25) rfl ?_);refine goesL_ (some 69) rfl rfl Try.func25 (by kernel_rfl) rfl #[.slice A0 m0.length c0] rfl (by (try simp only [List.map_toArray,List.map_cons,List.map_nil]);first|done|(rw [show m0.length=(ji2).toNat from (by rw [List.length_take];have h_:((ji2):Int)≤(l0.length:Int):=of_decide_eq_true (by first|(with_reducible assumption)|assumption);omega)]<;>rfl)|(simp only [hji2];rfl)|rfl|(simp only [List.length_drop,List.length_take];rfl)) ?_;(with_reducible refine(sum_changed.calls k1 _ _ m0 t153 _ ?side1 ?side2 ?side9 A18.out).mono ?_);(case side1=>repeat (first|exact(Kd.C_below HR148.out HB.out)|(with_reducible refine Kd.C_alloc ?_ _)|(with_reducible refine Kd.C_drewN ?_ _)|(with_reducible refine Kd.C_drew ?_)));(case side2=>exact HC148.out);(case side9=>first|exact hm9.out|exact hm8.out|(rw [List.length_take];omega));rintro e w19 ⟨rfl,hb⟩;refine⟨_,rfl,?_⟩;have n0_:=Aside0.mk (below_step (by repeat (first|(with_reducible first|exact HB.out|apply below_alloc|apply pw_below_drewN|apply below_drew1)|exact HB.out)) hb);clear HB;have HB:=n0_;clear n0_;(try clear hb);(try clear hb2);(try clear hk);(try clear hi)))
         go_ret2
         exact⟨by first|rfl|(simp [errW_none,errW_some]<;>rfl)|(simp only [←hji2];first|rfl|(simp [errW_none,errW_some]<;>rfl))|(simp [*,errW_none,errW_some]<;>rfl),by repeat (first|(with_reducible first|exact HB.out|apply below_alloc|apply pw_below_drewN|apply below_drew1)|exact HB.out)⟩
  ·rw [if_neg c4] at H
   exact absurd H (by simp)
 ·rw [if_neg c3] at H
  exact absurd H (by simp)
end Go.Proofs.Ytiejinbjfficnaa.B
