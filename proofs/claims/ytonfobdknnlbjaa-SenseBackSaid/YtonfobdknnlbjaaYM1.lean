/- Lemmas of the rows, laid by a program. -/
import Derived.Test.YtonfobdknnlbjaaProg
import Derived.Below
import Derived.Deep.Draws
import Derived.Deep.AppendLies
import Derived.Maps.AppendAt
import Derived.OwnWalk
import Derived.Laws.BytesArg
import Derived.Laws.MakeOwn
import Derived.Laws.OwnMore
import Derived.Deep.OwnRows
import Derived.Tactics
import Derived.Lib.ConvBytes
import Derived.Laws.Slices
import Derived.WalkKit
import Derived.KernelRfl
import Derived.RowKit3
import Derived.Deep.LoopGhost
import Derived.Deep.QuietTactic
import Derived.BigQuiet
import Derived.WideLaws
import Derived.Deep.DeepCutAuto
import Derived.Deep.CutBlock
import Derived.Deep.RegionHeld3
import Derived.Laws.Rows
import Derived.Lib.AppendStr
import Derived.ArgAppend
import Derived.Laws.IdiomCopy
import Derived.OrdersHeld
import Derived.Laws.BitsLemmas
import Derived.RowKit
import Derived.Test.YtonfobdknnlbjaaYM0
import Derived.ChangeKeysEq
import Derived.Shelf.Abstract
import Derived.LoopN
section
set_option linter.unusedVariables false
set_option linter.unusedSimpArgs false
namespace Go.Proofs.Ytonfobdknnlbjaa.B
open Go.RowKit Go.Proofs.YtonfobdknnlbjaaW.PrintWords Go.Proofs.YtonfobdknnlbjaaW.PrintLast Go.Proofs.YtonfobdknnlbjaaW.PrintMore
attribute [local go_sem] max2_int min2_int max_two min_two max_three min_three max_four min_four
set_option linter.unusedVariables false
set_option linter.unusedSimpArgs false
def errW:Option Int→Value
  | none=>.nilIface
  | some c=>.iface 0 (.int .i64 c)
theorem errW_none:errW none=.nilIface:=rfl
theorem errW_some (c:Int):errW (some c)=.iface 0 (.int .i64 c):=rfl
theorem info3:(Try.prog.info? 3).map (fun i=>(i.zero,i.size,i.bytes))=some (some (.int .i64 0),1,8):=by kernel_rfl
theorem info22:(Try.prog.info? 22).map (fun i=>(i.zero,i.size,i.bytes))=some (some (.agg #[(.int .i64 0),(.int .i64 0),(.int .i64 0)]),3,24):=by kernel_rfl
structure S22 where
  f0:Int
  f1:Int
  f2:Int
def z22:S22:=⟨(0:Int),(0:Int),(0:Int)⟩
def k22:Kd S22:=Kd.iso (Kd.pair (Kd.int .i64) (Kd.pair (Kd.int .i64) (Kd.int .i64))) (fun x:S22=>(x.f0,x.f1,x.f2))
theorem k22_open {w:World} {x:S22} {cs:List Value} (h:k22.K w x cs):cs=[.int .i64 x.f0,.int .i64 x.f1,.int .i64 x.f2]:=by
 obtain⟨_,_,rfl,rfl,⟨_,_,rfl,rfl,rfl⟩⟩:=h
 exact rfl
theorem k22_mkM (w:World) (base:Nat) (ok:Nat→Prop) (x:S22)  : k22.M w base ok x [.int .i64 x.f0,.int .i64 x.f1,.int .i64 x.f2]:=⟨[.int .i64 x.f0],[.int .i64 x.f1,.int .i64 x.f2],rfl,rfl,⟨[.int .i64 x.f1],[.int .i64 x.f2],rfl,rfl,rfl⟩⟩
def rd_T22 (xs:List S22) (i:Int):S22:=xs.getD i.toNat z22
theorem at_T22 {w:World} {A:Option Addr} {n:Nat} {xs:List S22} (h:Kd.C k22 w A n xs) (i:Int) (h0:0≤i) (h1:i<n):∃ ad , A=some ad∧w.cell? (ad.add (i.toNat*3))=some (.int .i64 (rd_T22 xs i).f0)∧w.cell? ⟨(ad.add (i.toNat*3)).block,(ad.add (i.toNat*3)).off+1,none⟩=some (.int .i64 (rd_T22 xs i).f1)∧w.cell? ⟨(ad.add (i.toNat*3)).block,(ad.add (i.toNat*3)).off+2,none⟩=some (.int .i64 (rd_T22 xs i).f2):=by
 obtain⟨ad,c,e,_,hK,hc0⟩:=Kd.C_get h z22 i h0 h1
 have hc:∀ j u,c[j]? = some u→w.cell? (ad.add (i.toNat*3+j))=some u:=hc0
 obtain rfl:=k22_open hK
 exact⟨ad,e,hc 0 _ rfl,by rw [←add_field _ _ 1 (by omega)];exact hc 1 _ rfl,by rw [←add_field _ _ 2 (by omega)];exact hc 2 _ rfl⟩
abbrev tt:Bool:=true
abbrev ff:Bool:=false
class La (W:outParam World) (W':World):Prop where
  la:Below W.heap.size W W'
instance (priority:=10) laR (W:World):La W W:=⟨Below.refl _ _⟩
instance laA (W X:World) (o:Obj) [k:La W X]:La W (X.alloc o):=⟨below_alloc k.la o⟩
instance laD (W X:World) [k:La W X]:La W X.drew:=⟨below_drew k.la⟩
instance laN (W X:World) (n:Nat) [k:La W X]:La W (X.drewN n):=⟨pw_below_drewN k.la n⟩
theorem mA {α β:Type} (f:α→β) (l:List α):l.toArray.map f=(l.map f).toArray:=List.map_toArray ..
theorem bl {w W W':World} (h:Aside0 (Below w.heap.size w W)) [k:La W W']:Below w.heap.size w W':=below_step h.out k.la
theorem bs {w W W':World} {g j:Nat} {v:Value} [k:La (W.setCell ⟨g,j,none⟩ v) W'] (h:Below w.heap.size w W) (hg:Aside0 (w.heap.size≤g)):Below w.heap.size w W':=below_step (below_set h hg.out) k.la
theorem bk {W W':World} {g:Nat} {o:Obj} [k:La W W'] (h:W.heap[g]? = some o):W'.heap[g]? = some o:=blk_below h k.la
theorem kR {α:Type} {d:Kd α} {e:Nat} {W W':World} {base:Nat} {ok:Nat→Prop} {v:Value} {xs:List α} [k:La W W'] (h:Kd.R d e W base ok v xs):Kd.R d e W' base ok v xs:=Kd.R_below h k.la
theorem kS {α:Type} {d:Kd α} {e:Nat} {W W':World} {base:Nat} {ok:Nat→Prop} {v:Value} {xs:List α} [k:La W W'] (h:Kd.S d e W base ok v xs):Kd.S d e W' base ok v xs:=Kd.S_below h k.la
theorem kN {α:Type} {d:Kd α} {e:Nat} {W W':World} {base:Nat} {ok:Nat→Prop} {v:Value} {xs:List α} [k:La W W'] (h:Kd.N d e W base ok v xs):Kd.N d e W' base ok v xs:=Kd.N_below h k.la
theorem kV {α:Type} {d:Kd α} {e:Nat} {W W':World} {base:Nat} {ok:Nat→Prop} {v:Value} {xs:List α} [k:La W W'] (h:Kd.V d e W base ok v xs):Kd.V d e W' base ok v xs:=Kd.V_below h k.la
theorem kC {α:Type} {d:Kd α} {W W':World} {A:Option Addr} {n:Nat} {xs:List α} [k:La W W'] (h:Kd.C d W A n xs):Kd.C d W' A n xs:=Kd.C_below h k.la
end Go.Proofs.Ytonfobdknnlbjaa.B
end
section
set_option linter.unusedVariables false
set_option linter.unusedSimpArgs false
namespace Go.Proofs.Ytonfobdknnlbjaa.B
open Go.RowKit Go.Proofs.YtonfobdknnlbjaaW.PrintWords Go.Proofs.YtonfobdknnlbjaaW.PrintLast Go.Proofs.YtonfobdknnlbjaaW.PrintMore
attribute [local go_sem] max2_int min2_int max_two min_two max_three min_three max_four min_four
set_option linter.unusedVariables false
set_option linter.unusedSimpArgs false
theorem eqi_last {P:Program} {w:World} {d e c i:Nat} {xs ys:Array Value} {a b:Value} {r:Bool} (ha:(part e xs (i*c)).run P w=.ok a w) (hb:(part e ys (i*c)).run P w=.ok b w) (he:(Op.equalIn d e a b).run P w=.ok r w):(Op.eqItems d e c xs ys [i]).run P w=.ok r w:=by
 simp only [Op.eqItems,Sem.run_bind,ha,hb,he,Result.andThen_ok]
 cases r<;>simp
theorem eqi_cons {P:Program} {w:World} {d e c i:Nat} {is:List Nat} {xs ys:Array Value} {a b:Value} {r s:Bool} (ha:(part e xs (i*c)).run P w=.ok a w) (hb:(part e ys (i*c)).run P w=.ok b w) (he:(Op.equalIn d e a b).run P w=.ok r w) (hr:(Op.eqItems d e c xs ys is).run P w=.ok s w):(Op.eqItems d e c xs ys (i :: is)).run P w=.ok (r && s) w:=by
 simp only [Op.eqItems,Sem.run_bind,ha,hb,he,Result.andThen_ok]
 cases r
 ·simp
 ·simpa using hr
theorem eqArr {P:Program} {w:World} {d t e n:Nat} {xs ys:Array Value} {r:Bool} (hu:P.underlying t=some (.array n e)) (hi:(P.info? e).isSome=true) (h:(Op.eqItems d e (P.cellsOf e) xs ys (List.range n)).run P w=.ok r w):(Op.equalIn (d+1) t (.agg xs) (.agg ys)).run P w=.ok r w:=by
 obtain⟨i,hi⟩:=Option.isSome_iff_exists.mp hi
 rw [run_equalIn_array w d xs ys hu hi]
 exact h
theorem eqA22 (d:Nat) (w:World) (x0 y0:Int) (x1 y1:Int) (x2 y2:Int) :
  (Op.equalIn (d+2) 22 (.agg #[.int .i64 x0,.int .i64 x1,.int .i64 x2]) (.agg #[.int .i64 y0,.int .i64 y1,.int .i64 y2])).run Try.prog w=.ok (x0 == y0 && (x1 == y1 && (x2 == y2))) w:=by
 refine eqArr Try.underlying22 (by kernel_rfl) ?_
 rw [show Try.prog.cellsOf 3=1 by kernel_rfl]
 refine eqi_cons (by go_simp;rfl) (by go_simp;rfl) (by go_simp) ?_
 refine eqi_cons (by go_simp;rfl) (by go_simp;rfl) (by go_simp) ?_
 exact eqi_last (by go_simp;rfl) (by go_simp;rfl) (by go_simp)
theorem eqA24 (d:Nat) (w:World) (x0 y0:Int) (x1 y1:Int) (x2 y2:Int) (x3 y3:Int) (x4 y4:Int) :
  (Op.equalIn (d+3) 24 (.agg #[.int .i64 x0,.int .i64 x1,.int .i64 x2,.int .i64 x3,.int .i64 x4]) (.agg #[.int .i64 y0,.int .i64 y1,.int .i64 y2,.int .i64 y3,.int .i64 y4])).run Try.prog w=.ok ((x0 == y0 && (x1 == y1 && (x2 == y2))) && (x3 == y3 && (x4 == y4))) w:=by
 refine eqA_of Try.underlying24 (by kernel_rfl) ?_
 refine eqf_cons (by rfl) (by go_simp) (by go_simp) (eqA22 (d+0) w _ _ _ _ _ _) ?_
 refine eqf_cons (by rfl) (by go_simp;rfl) (by go_simp;rfl) (by go_simp) ?_
 exact eqf_last (by rfl) (by go_simp;rfl) (by go_simp;rfl) (by go_simp)
theorem eqA59 (d:Nat) (w:World) (x0 y0:Int) (x1 y1:Int) :
  (Op.equalIn (d+2) 59 (.agg #[.int .i64 x0,.int .i64 x1]) (.agg #[.int .i64 y0,.int .i64 y1])).run Try.prog w=.ok (x0 == y0 && (x1 == y1)) w:=by
 refine eqA_of Try.underlying59 (by kernel_rfl) ?_
 refine eqf_cons (by rfl) (by go_simp;rfl) (by go_simp;rfl) (by go_simp) ?_
 exact eqf_last (by rfl) (by go_simp;rfl) (by go_simp;rfl) (by go_simp)
end Go.Proofs.Ytonfobdknnlbjaa.B
end
section
set_option linter.unusedVariables false
set_option linter.unusedSimpArgs false
namespace Go.Proofs.Ytonfobdknnlbjaa.B
open Go.RowKit Go.Proofs.YtonfobdknnlbjaaW.PrintWords Go.Proofs.YtonfobdknnlbjaaW.PrintLast Go.Proofs.YtonfobdknnlbjaaW.PrintMore
attribute [local go_sem] max2_int min2_int max_two min_two max_three min_three max_four min_four
set_option linter.unusedVariables false
set_option linter.unusedSimpArgs false
def fix_within_int.f (a0:Int) (a1:Int) (a2:Int):Option (Int):=some (mx a1 (mn a0 a2))
set_option maxHeartbeats 8000000 in
set_option maxRecDepth 100000 in
theorem fix_within_int.calls (a0:Int) (a1:Int) (a2:Int) (r:Int) (w:World) (h:fix_within_int.f a0 a1 a2=some r) :
  Calls Try.prog 39 #[.int .i64 a0,.int .i64 a1,.int .i64 a2] w fun e w'=>e=.returned (.int .i64 r)∧Below w.heap.size w w':=by
 have HB:=Aside0.mk (Below.refl w.heap.size w)
 have H:(some (mx a1 (mn a0 a2)))=some r:=h
 clear h
 obtain⟨ji4,hji4⟩:∃ j_:Int,(mn a0 a2)=j_:=⟨_,rfl⟩
 replace H:(some (mx a1 (ji4)))=some r:=by first|(rw [hji4] at H;exact H)|(simp only [hji4] at H ⊢;exact H)
 have hji4_:(if a2<a0 then a2 else a0)=ji4:=hji4
 obtain⟨ji5,hji5⟩:∃ j_:Int,(mx a1 (ji4))=j_:=⟨_,rfl⟩
 replace H:(some ji5)=some r:=by first|(rw [hji5] at H;exact H)|(simp only [hji5] at H ⊢;exact H)
 have hji5_:(if a1<(ji4) then (ji4) else a1)=ji5:=hji5
 obtain rfl:=Option.some.inj H
 go_enter Try.func39,Try.ntmps39
 go_wp2
 go_ret
 exact⟨by first|rfl|(simp [errW_none,errW_some]<;>rfl)|(simp only [←hji4,←hji5];first|rfl|(simp [errW_none,errW_some]<;>rfl))|(simp [*,errW_none,errW_some]<;>rfl),by first|with_reducible exact HB.out|exact bl HB⟩
def fix_Clamp.f (a0:Int):Option (Int × Bool):=(fix_within_int.f a0 (-288230376151711744) 288230376151711744).bind fun t101=>(some (t101,(t101 != a0)))
set_option maxHeartbeats 8000000 in
set_option maxRecDepth 100000 in
theorem fix_Clamp.calls (a0:Int) (r1:Int) (r2:Bool) (w:World) (h:fix_Clamp.f a0=some (r1,r2)) :
  Calls Try.prog 19 #[.int .i64 a0] w fun e w'=>e=.returned (.tuple #[.int .i64 r1,.bool r2])∧Below w.heap.size w w':=by
 have HB:=Aside0.mk (Below.refl w.heap.size w)
 have H:((fix_within_int.f a0 (-288230376151711744) 288230376151711744).bind fun t101=>(some (t101,(t101 != a0))))=some (r1,r2):=h
 clear h
 replace H:=Option.bind_eq_some_iff.mp H
 obtain⟨t101,A20,H⟩:=H
 replace H:(some (t101,(t101 != a0)))=some (r1,r2):=H
 have A2:=Aside0.mk A20
 clear A20
 simp only [Option.some.injEq,Prod.mk.injEq] at H
 obtain⟨rfl,rfl⟩:=H
 go_enter Try.func19,Try.ntmps19
 go_wp2_with (first|((with_reducible refine gate_callee (f:=39) rfl ?_);refine goesL_ (some 6) rfl rfl Try.func39 (by kernel_rfl) rfl #[.int .i64 a0,.int .i64 (-288230376151711744),.int .i64 288230376151711744] rfl (by exact mA _ _) ?_;(with_reducible refine(fix_within_int.calls a0 (-288230376151711744) 288230376151711744 t101 _ A2.out).mono ?_);rintro e w3 ⟨rfl,hb⟩;refine⟨_,rfl,?_⟩;have n0_:=Aside0.mk (below_step (by first|with_reducible exact HB.out|exact bl HB) hb);clear HB;have HB:=n0_;clear n0_;(try clear hb);(try clear hb2);(try clear hk);(try clear hi)))
 go_ret2
 exact⟨by first|rfl|(simp [errW_none,errW_some]<;>rfl)|(simp [*,errW_none,errW_some]<;>rfl),by first|with_reducible exact HB.out|exact bl HB⟩
def sense_value.f (a0:Int):Option (Bool):=(fix_Clamp.f a0).bind fun bt102=>(some (!bt102.2))
set_option maxHeartbeats 8000000 in
set_option maxRecDepth 100000 in
theorem sense_value.calls (a0:Int) (r:Bool) (w:World) (h:sense_value.f a0=some r) :
  Calls Try.prog 31 #[.int .i64 a0] w fun e w'=>e=.returned (.bool r)∧Below w.heap.size w w':=by
 have HB:=Aside0.mk (Below.refl w.heap.size w)
 have H:((fix_Clamp.f a0).bind fun bt102=>(some (!bt102.2)))=some r:=h
 clear h
 replace H:=Option.bind_eq_some_iff.mp H
 obtain⟨⟨t102,t103⟩,A20,H⟩:=H
 replace H:(some (!t103))=some r:=H
 have A2:=Aside0.mk A20
 clear A20
 obtain rfl:=Option.some.inj H
 go_enter Try.func31,Try.ntmps31
 go_wp2_with (first|((with_reducible refine gate_callee (f:=19) rfl ?_);refine goesL_ (some 7) rfl rfl Try.func19 (by kernel_rfl) rfl #[.int .i64 a0] rfl (by exact mA _ _) ?_;(with_reducible refine(fix_Clamp.calls a0 t102 t103 _ A2.out).mono ?_);rintro e w3 ⟨rfl,hb⟩;refine⟨_,rfl,?_⟩;have n0_:=Aside0.mk (below_step (by first|with_reducible exact HB.out|exact bl HB) hb);clear HB;have HB:=n0_;clear n0_;(try clear hb);(try clear hb2);(try clear hk);(try clear hi)))
 go_ret
 exact⟨by first|rfl|(simp [errW_none,errW_some]<;>rfl)|(simp [*,errW_none,errW_some]<;>rfl),by first|with_reducible exact HB.out|exact bl HB⟩
def slices_IndexFunc_int_int.l0 (F:Int→Option Bool):Nat→List Int→Int→Int→Option (Int)
  | 0,_,_,_=>none
  | k+1,x0,x7,x8=>if x8<x7 then (if 0≤x8 then (if x8<(x0.length:Int) then ((F (rd x0 x8)).bind fun t105=>(if t105=true then (some x8) else (slices_IndexFunc_int_int.l0 F k x0 x7 (wrap64 (x8+1))))) else (none)) else (none)) else (some (-1))
def slices_IndexFunc_int_int.f (F:Int→Option Bool) (k:Nat) (l0:List Int):Option (Int):=slices_IndexFunc_int_int.l0 F k l0 (l0.length:Int) 0
theorem slices_IndexFunc_int_int.mono_l {F G:Int→Option Bool} (hF:∀ i0_,LeO (F i0_) (G i0_)):∀ k,(∀ y0 y1 y2,LeO (slices_IndexFunc_int_int.l0 F k y0 y1 y2) (slices_IndexFunc_int_int.l0 G (k+1) y0 y1 y2))
 | 0=>fun _ _ _ r h=>by simp [slices_IndexFunc_int_int.l0] at h
 | k+1=>by
  have ih0:=slices_IndexFunc_int_int.mono_l hF k
  ·intro y0 y1 y2
   unfold slices_IndexFunc_int_int.l0
   repeat' first
   | (with_reducible exact ih0 _ _ _)
   | (with_reducible exact hF _)
   | (with_reducible exact LeO.refl _)
   | (with_reducible exact LeO.none _)
   | (with_reducible refine LeO.ite ?_ ?_)
   | (with_reducible refine LeO.bind ?_ (fun _=>?_))
   | exact ih0 _ _ _
   | exact LeO.none _
   | refine LeO.ite ?_ ?_
   | refine LeO.bind ?_ (fun _=>?_)
theorem slices_IndexFunc_int_int.mono {F G:Int→Option Bool} (hF:∀ i0_,LeO (F i0_) (G i0_)):∀ a0 k,LeO (slices_IndexFunc_int_int.f F k a0) (slices_IndexFunc_int_int.f G (k+1) a0):=by
 intro a0 k
 have ih0:=slices_IndexFunc_int_int.mono_l hF k
 unfold slices_IndexFunc_int_int.f
 repeat' first
   | (with_reducible exact ih0 _ _ _)
   | (with_reducible exact hF _)
   | (with_reducible exact LeO.refl _)
   | (with_reducible exact LeO.none _)
   | (with_reducible refine LeO.ite ?_ ?_)
   | (with_reducible refine LeO.bind ?_ (fun _=>?_))
   | exact ih0 _ _ _
   | exact LeO.none _
   | refine LeO.ite ?_ ?_
   | refine LeO.bind ?_ (fun _=>?_)
set_option maxHeartbeats 8000000 in
set_option maxRecDepth 100000 in
theorem slices_IndexFunc_int_int.calls (F:Int→Option Bool) (g:Nat) (pre lb:Array Value) (k:Nat) (A0:Option Addr) (c0:Nat) (l0:List Int) (r:Int) (w:World) (eg:∀ args w,(callFunc g args).run Try.prog w=.ok (.enter g args) w) (hF:Aside0 (∀ i0_ r_ W,Below w.heap.size w W→F i0_=some r_→Calls Try.prog g (pre++(#[.int .i64 i0_]++lb)) W fun e W'=>e=.returned (.bool r_)∧Below W.heap.size W W')) (hr0:Kd.C (Kd.int .i64) w A0 l0.length l0) (hc0:l0.length≤c0) (h:slices_IndexFunc_int_int.f F k l0=some r) :
  Calls Try.prog 44 #[.slice A0 l0.length c0,.func (.func g) pre lb] w fun e w'=>e=.returned (.int .i64 r)∧Below w.heap.size w w':=by
 have HR0:=Aside0.mk hr0
 have HC0:=Aside0.mk hc0
 clear hr0 hc0
 have HB:=Aside0.mk (Below.refl w.heap.size w)
 have H:(slices_IndexFunc_int_int.l0 F k l0 (l0.length:Int) 0)=some r:=h
 clear h
 have H':=Aside0.mk H
 clear H
 go_enter Try.func44,Try.ntmps44
 go_wp2
 go_loopg [8] k (fun kq v8 w'=>∃ (x8_1:Int),v8=.int .i64 x8_1∧Aside0 (slices_IndexFunc_int_int.l0 F kq l0 (l0.length:Int) x8_1=some r)∧Aside0 (kq≤k)∧Aside0 (Below w.heap.size w w'))
 case atStart=>exact⟨(0),(by first|rfl|(simp;done)|(simp [*];done)),H',⟨Nat.le_refl _⟩,⟨by repeat (first|(with_reducible first|exact HB.out|apply below_alloc|apply pw_below_drewN|apply below_drew1)|exact HB.out)⟩⟩
 case round =>
  clear H'
  obtain⟨x8_1,rfl,HA,HK1,HB⟩:=hrel
  cases gk with
  | zero=>exact absurd HA.out (by simp [slices_IndexFunc_int_int.l0])
  | succ k1 =>
   have H:=HA.out
   clear HA
   simp only [slices_IndexFunc_int_int.l0] at H
   by_cases c2:x8_1<(l0.length:Int)
   ·rw [if_pos c2] at H
    have c2b0:decide (x8_1<(l0.length:Int))=true:=decide_eq_true c2
    clear c2
    by_cases c3:0≤x8_1
    ·rw [if_pos c3] at H
     have c3b0:decide (0≤x8_1)=true:=decide_eq_true c3
     clear c3
     by_cases c4:x8_1<(l0.length:Int)
     ·rw [if_pos c4] at H
      have c4b0:decide (x8_1<(l0.length:Int))=true:=decide_eq_true c4
      clear c4
      replace H:=Option.bind_eq_some_iff.mp H
      obtain⟨t105,A50,H⟩:=H
      replace H:(if t105=true then (some x8_1) else (slices_IndexFunc_int_int.l0 F k1 l0 (l0.length:Int) (wrap64 (x8_1+1))))=some r:=H
      have A5:=Aside0.mk A50
      clear A50
      by_cases c6:t105=true
      ·subst c6
       have H1:(some x8_1)=some r:=by rw [if_pos rfl] at H;exact H
       clear H
       have H:=H1
       clear H1
       obtain rfl:=Option.some.inj H
       have p104:0≤(x8_1:Int):=of_decide_eq_true (by first|(with_reducible assumption)|assumption)
       have q104:x8_1<(l0.length:Int):=of_decide_eq_true (by first|(with_reducible assumption)|assumption)
       obtain⟨ad104,e104,hx104_0⟩:=Kd.at_int HR0.out x8_1 p104 q104
       cases e104
       replace hx104_0:=(HB.out.cell (World.block_lt_of_cell? w _ hx104_0)).trans hx104_0
       replace p104:=eq_true p104
       replace q104:=eq_true q104
       go_wp2_with (first|(go_at_fn g;refine calls_of_args (args':=pre++(#[.int .i64 (rd l0 x8_1)]++lb)) (by simp) ?_;refine(hF.out _ _ _ (by repeat (first|(with_reducible first|exact HB.out|apply below_alloc|apply pw_below_drewN|apply below_drew1)|exact HB.out)) A5.out).mono ?_;rintro e w7 ⟨rfl,hb⟩;have n0_:=Aside0.mk (below_step (by repeat (first|(with_reducible first|exact HB.out|apply below_alloc|apply pw_below_drewN|apply below_drew1)|exact HB.out)) hb);clear HB;have HB:=n0_;clear n0_;(try clear hb);(try clear hb2);(try clear hk);(try clear hi)))
       go_ret
       exact⟨by first|rfl|(simp [errW_none,errW_some]<;>rfl)|(simp [*,errW_none,errW_some]<;>rfl),by repeat (first|(with_reducible first|exact HB.out|apply below_alloc|apply pw_below_drewN|apply below_drew1)|exact HB.out)⟩
      ·replace c6:=Bool.eq_false_iff.mpr c6
       subst c6
       have H1:(slices_IndexFunc_int_int.l0 F k1 l0 (l0.length:Int) (wrap64 (x8_1+1)))=some r:=by rw [if_neg (show ¬(false=true) by decide)] at H;exact H
       clear H
       have H:=H1
       clear H1
       have H':=Aside0.mk H
       clear H
       have p104:0≤(x8_1:Int):=of_decide_eq_true (by first|(with_reducible assumption)|assumption)
       have q104:x8_1<(l0.length:Int):=of_decide_eq_true (by first|(with_reducible assumption)|assumption)
       obtain⟨ad104,e104,hx104_0⟩:=Kd.at_int HR0.out x8_1 p104 q104
       cases e104
       replace hx104_0:=(HB.out.cell (World.block_lt_of_cell? w _ hx104_0)).trans hx104_0
       replace p104:=eq_true p104
       replace q104:=eq_true q104
       go_wp2_with (first|(go_at_fn g;refine calls_of_args (args':=pre++(#[.int .i64 (rd l0 x8_1)]++lb)) (by simp) ?_;refine(hF.out _ _ _ (by repeat (first|(with_reducible first|exact HB.out|apply below_alloc|apply pw_below_drewN|apply below_drew1)|exact HB.out)) A5.out).mono ?_;rintro e w8 ⟨rfl,hb⟩;have n0_:=Aside0.mk (below_step (by repeat (first|(with_reducible first|exact HB.out|apply below_alloc|apply pw_below_drewN|apply below_drew1)|exact HB.out)) hb);clear HB;have HB:=n0_;clear n0_;(try clear hb);(try clear hb2);(try clear hk);(try clear hi)))
       go_roundg k1
       case measure=>have:=HK1.out;omega
       case rel=>exact⟨(wrap64 (x8_1+1)),(by first|rfl|(simp;done)|(simp [*];done)),H',⟨by have:=HK1.out;omega⟩,⟨by repeat (first|(with_reducible first|exact HB.out|apply below_alloc|apply pw_below_drewN|apply below_drew1)|exact HB.out)⟩⟩
     ·rw [if_neg c4] at H
      exact absurd H (by simp)
    ·rw [if_neg c3] at H
     exact absurd H (by simp)
   ·rw [if_neg c2] at H
    have c2b0:decide (x8_1<(l0.length:Int))=false:=decide_eq_false c2
    clear c2
    obtain rfl:=Option.some.inj H
    go_wp2
    go_ret
    exact⟨by first|rfl|(simp [errW_none,errW_some]<;>rfl)|(simp [*,errW_none,errW_some]<;>rfl),by repeat (first|(with_reducible first|exact HB.out|apply below_alloc|apply pw_below_drewN|apply below_drew1)|exact HB.out)⟩
def slices_ContainsFunc_int_int.f (F:Int→Option Bool) (k:Nat) (l0:List Int):Option (Bool):=(slices_IndexFunc_int_int.f F k l0).bind fun t106=>(some (decide (t106 ≥ 0)))
theorem slices_ContainsFunc_int_int.mono {F G:Int→Option Bool} (hF:∀ i0_,LeO (F i0_) (G i0_)):∀ a0 k,LeO (slices_ContainsFunc_int_int.f F k a0) (slices_ContainsFunc_int_int.f G (k+1) a0):=by
 intro a0 k
 unfold slices_ContainsFunc_int_int.f
 repeat' first
   | (with_reducible exact slices_IndexFunc_int_int.mono hF _ _)
   | (with_reducible exact LeO.refl _)
   | (with_reducible exact LeO.none _)
   | (with_reducible refine LeO.ite ?_ ?_)
   | (with_reducible refine LeO.bind ?_ (fun _=>?_))
   | exact slices_IndexFunc_int_int.mono hF _ _
   | exact LeO.none _
   | refine LeO.ite ?_ ?_
   | refine LeO.bind ?_ (fun _=>?_)
set_option maxHeartbeats 8000000 in
set_option maxRecDepth 100000 in
theorem slices_ContainsFunc_int_int.calls (F:Int→Option Bool) (g:Nat) (pre lb:Array Value) (k:Nat) (A0:Option Addr) (c0:Nat) (l0:List Int) (r:Bool) (w:World) (eg:∀ args w,(callFunc g args).run Try.prog w=.ok (.enter g args) w) (hF:Aside0 (∀ i0_ r_ W,Below w.heap.size w W→F i0_=some r_→Calls Try.prog g (pre++(#[.int .i64 i0_]++lb)) W fun e W'=>e=.returned (.bool r_)∧Below W.heap.size W W')) (hr0:Kd.C (Kd.int .i64) w A0 l0.length l0) (hc0:l0.length≤c0) (h:slices_ContainsFunc_int_int.f F k l0=some r) :
  Calls Try.prog 22 #[.slice A0 l0.length c0,.func (.func g) pre lb] w fun e w'=>e=.returned (.bool r)∧Below w.heap.size w w':=by
 have HR0:=Aside0.mk hr0
 have HC0:=Aside0.mk hc0
 clear hr0 hc0
 have HB:=Aside0.mk (Below.refl w.heap.size w)
 have H:((slices_IndexFunc_int_int.f F k l0).bind fun t106=>(some (decide (t106 ≥ 0))))=some r:=h
 clear h
 replace H:=Option.bind_eq_some_iff.mp H
 obtain⟨t106,A20,H⟩:=H
 replace H:(some (decide (t106 ≥ 0)))=some r:=H
 have A2:=Aside0.mk A20
 clear A20
 obtain rfl:=Option.some.inj H
 go_enter Try.func22,Try.ntmps22
 go_wp2_with (first|((with_reducible refine gate_callee (f:=44) rfl ?_);refine goesL_ (some 7) rfl rfl Try.func44 (by kernel_rfl) rfl #[.slice A0 l0.length c0,.func (.func g) pre lb] rfl (by (try simp only [List.map_toArray,List.map_cons,List.map_nil]);first|done|rfl|(simp only [List.length_drop,List.length_take];rfl)) ?_;(refine(slices_IndexFunc_int_int.calls F g pre lb k _ _ l0 t106 _ eg ⟨fun i0_ r_ W_ hb_=>hF.out i0_ r_ W_ (below_step (by repeat (first|(with_reducible first|exact HB.out|apply below_alloc|apply pw_below_drewN|apply below_drew1)|exact HB.out)) hb_)⟩ ?side1 ?side2 A2.out).mono ?_);(case side1=>repeat (first|exact HR0.out|(with_reducible refine Kd.C_alloc ?_ _)|(with_reducible refine Kd.C_drewN ?_ _)|(with_reducible refine Kd.C_drew ?_)));(case side2=>exact HC0.out);rintro e w3 ⟨rfl,hb⟩;refine⟨_,rfl,?_⟩;have n0_:=Aside0.mk (below_step (by repeat (first|(with_reducible first|exact HB.out|apply below_alloc|apply pw_below_drewN|apply below_drew1)|exact HB.out)) hb);clear HB;have HB:=n0_;clear n0_;(try clear hb);(try clear hb2);(try clear hk);(try clear hi)))
 go_ret
 exact⟨by first|rfl|(simp [errW_none,errW_some]<;>rfl)|(simp [*,errW_none,errW_some]<;>rfl),by repeat (first|(with_reducible first|exact HB.out|apply below_alloc|apply pw_below_drewN|apply below_drew1)|exact HB.out)⟩
def sense_values_1.f (a0:Int):Option (Bool):=(sense_value.f a0).bind fun t107=>(some (!t107))
set_option maxHeartbeats 8000000 in
set_option maxRecDepth 100000 in
theorem sense_values_1.calls (a0:Int) (r:Bool) (w:World) (h:sense_values_1.f a0=some r) :
  Calls Try.prog 56 #[.int .i64 a0] w fun e w'=>e=.returned (.bool r)∧Below w.heap.size w w':=by
 have HB:=Aside0.mk (Below.refl w.heap.size w)
 have H:((sense_value.f a0).bind fun t107=>(some (!t107)))=some r:=h
 clear h
 replace H:=Option.bind_eq_some_iff.mp H
 obtain⟨t107,A20,H⟩:=H
 replace H:(some (!t107))=some r:=H
 have A2:=Aside0.mk A20
 clear A20
 obtain rfl:=Option.some.inj H
 go_enter Try.func56,Try.ntmps56
 go_wp2_with (first|((with_reducible refine gate_callee (f:=31) rfl ?_);refine goesL_ (some 4) rfl rfl Try.func31 (by kernel_rfl) rfl #[.int .i64 a0] rfl (by exact mA _ _) ?_;(with_reducible refine(sense_value.calls a0 t107 _ A2.out).mono ?_);rintro e w3 ⟨rfl,hb⟩;refine⟨_,rfl,?_⟩;have n0_:=Aside0.mk (below_step (by first|with_reducible exact HB.out|exact bl HB) hb);clear HB;have HB:=n0_;clear n0_;(try clear hb);(try clear hb2);(try clear hk);(try clear hi)))
 go_ret
 exact⟨by first|rfl|(simp [errW_none,errW_some]<;>rfl)|(simp [*,errW_none,errW_some]<;>rfl),by first|with_reducible exact HB.out|exact bl HB⟩
theorem C_of_blk3 {W:World} {g:Nat} {x y z:Int} {t:TypeId} (h:W.heap[g]? = some (.cells #[.int .i64 x,.int .i64 y,.int .i64 z] t (0,0))):Kd.C (Kd.int .i64) W (some ⟨g,0,none⟩) [x,y,z].length [x,y,z]:=by
 refine Kd.C_of_reads (d:=(0:Int)) (h1:=fun _=>rfl) ⟨rfl,(by show(3:Nat)≤_;decide),fun h0=>⟨⟨g,0,none⟩,rfl,fun c hc=>?_⟩⟩
 have h3:c<3:=hc
 have e:(⟨g,0,none⟩:Addr).add c=⟨g,c,none⟩:=by unfold Addr.add;split<;>simp_all<;>omega
 rw [e]
 match c,h3 with
 | 0,_=>exact(blk_cell h 0).trans rfl
 | 1,_=>exact(blk_cell h 1).trans rfl
 | 2,_=>exact(blk_cell h 2).trans rfl
def sense_values.f (k:Nat) (a0_0:Int) (a0_1:Int) (a0_2:Int):Option (Bool):=(slices_ContainsFunc_int_int.f sense_values_1.f k (([a0_0,a0_1,a0_2]:List Int))).bind fun t112=>(some (!t112))
theorem sense_values.mono:∀ a0 a1 a2 k,LeO (sense_values.f k a0 a1 a2) (sense_values.f (k+1) a0 a1 a2):=by
 intro a0 a1 a2 k
 unfold sense_values.f
 repeat' first
   | (with_reducible exact slices_ContainsFunc_int_int.mono (fun _=>LeO.refl _) _ _)
   | (with_reducible exact LeO.refl _)
   | (with_reducible exact LeO.none _)
   | (with_reducible refine LeO.ite ?_ ?_)
   | (with_reducible refine LeO.bind ?_ (fun _=>?_))
   | exact slices_ContainsFunc_int_int.mono (fun _=>LeO.refl _) _ _
   | exact LeO.none _
   | refine LeO.ite ?_ ?_
   | refine LeO.bind ?_ (fun _=>?_)
set_option maxHeartbeats 8000000 in
set_option maxRecDepth 100000 in
theorem sense_values.calls (k:Nat) (a0_0:Int) (a0_1:Int) (a0_2:Int) (r:Bool) (w:World) (h:sense_values.f k a0_0 a0_1 a0_2=some r) :
  Calls Try.prog 30 #[.agg #[.int .i64 a0_0,.int .i64 a0_1,.int .i64 a0_2]] w fun e w'=>e=.returned (.bool r)∧Below w.heap.size w w':=by
 have hu22:=Try.underlying22
 have HB:=Aside0.mk (Below.refl w.heap.size w)
 have H:((slices_ContainsFunc_int_int.f sense_values_1.f k (([a0_0,a0_1,a0_2]:List Int))).bind fun t112=>(some (!t112)))=some r:=h
 clear h
 obtain⟨y109,hy109⟩:∃ y_:List Int,y_=(([a0_0,a0_1,a0_2]:List Int)):=⟨_,rfl⟩
 replace H:((slices_ContainsFunc_int_int.f sense_values_1.f k y109).bind fun t112=>(some (!t112)))=some r:=by first|(rw [hy109];with_reducible exact H)|(have H2_:=(Option.bind_some _ _).symm.trans H;rw [hy109];with_reducible exact H2_)|(have H2_:=(Option.bind_some _ _).symm.trans H;with_reducible exact H2_)|with_reducible exact H|(rw [hy109];exact H)|exact H
 have Ny109:=Aside0.mk hy109
 clear hy109
 replace H:=Option.bind_eq_some_iff.mp H
 obtain⟨t112,A20,H⟩:=H
 replace H:(some (!t112))=some r:=H
 have A2:=Aside0.mk A20
 clear A20
 obtain rfl:=Option.some.inj H
 go_enter Try.func30,Try.ntmps30
 go_wp2_with (first|((with_reducible refine gate_dst (N:=1) rfl ?_);refine box_event ?hg (N:=1) ?hd (cs:=#[.int .i64 a0_0,.int .i64 a0_1,.int .i64 a0_2]) (t:=22) ?hr ?_;(case hd=>rfl);(case hg=>rfl);(case hr=>first|(go_simp;done)|(go_simp;rfl));intro gb108 hg w3 hbox hb;have n0_:=Aside0.mk (below_step (by first|with_reducible exact HB.out|exact bl HB) hb);have n1_:=Aside0.mk (hbox);have n2_:=Aside0.mk ((by rw [hg];exact(below_size (by first|with_reducible exact HB.out|exact bl HB)):w.heap.size≤gb108));have n3_:=Aside0.mk ((by rw [hg];exact(below_size (by first|with_reducible exact HB.out|exact bl HB)):w.heap.size≤gb108));clear HB;have HB:=n0_;have BK108:=n1_;have GW108:=n2_;have GE108:=n3_;clear n0_ n1_ n2_ n3_;clear hb hbox hg;have hcz4_0:w3.cell? ⟨gb108,0,none⟩=some (.int .i64 a0_0):=(blk_cell BK108.out 0).trans rfl;have hcz4_1:w3.cell? ⟨gb108,1,none⟩=some (.int .i64 a0_1):=(blk_cell BK108.out 1).trans rfl;have hcz4_2:w3.cell? ⟨gb108,2,none⟩=some (.int .i64 a0_2):=(blk_cell BK108.out 2).trans rfl;have hfz4_0:=blk_frozen BK108.out 0;have hfz4_1:=blk_frozen BK108.out 1;have hfz4_2:=blk_frozen BK108.out 2)|((with_reducible refine gate_callee (f:=22) rfl ?_);refine goesL_ (some 4) rfl rfl Try.func22 (by kernel_rfl) rfl #[.slice (some ⟨gb108,0,none⟩) 3 3,.func (.func 56) #[] #[]] rfl (by (try simp only [List.map_toArray,List.map_cons,List.map_nil]);first|done|rfl) ?_;have A_:=A2.out;rw [Ny109.out] at A_;refine(slices_ContainsFunc_int_int.calls sense_values_1.f 56 #[] #[] k (some ⟨gb108,0,none⟩) 3 [a0_0,a0_1,a0_2] t112 _ (enters_of Try.func56 (by kernel_rfl) rfl) ⟨fun i_ r_ W_ hb_ hf_=>calls_of_args (by simp) (sense_values_1.calls i_ r_ W_ hf_)⟩ (C_of_blk3 (bk BK108.out)) (Nat.le_refl 3) A_).mono ?_;clear A_;rintro e wz_ ⟨rfl,hb⟩;refine⟨_,rfl,?_⟩;have n0_:=Aside0.mk (below_step (by first|with_reducible exact HB.out|exact bl HB) hb);clear HB;have HB:=n0_;clear n0_;(try clear hb)))
 go_ret
 exact⟨by first|rfl|(simp [errW_none,errW_some]<;>rfl)|(simp [*,errW_none,errW_some]<;>rfl),by repeat (first|with_reducible exact HB.out|exact bl HB|refine bs ?_ GE108)⟩
def sense_Sane.f (k:Nat) (a0_0:Int) (a0_1:Int) (a0_2:Int) (a0_3:Int) (a0_4:Int):Option (Bool):=(sense_values.f k a0_0 a0_1 a0_2).bind fun t114=>(if t114=true then ((sense_value.f a0_3).bind fun t115=>(if t115=true then (if a0_3 > 0 then ((sense_value.f a0_4).bind fun t116=>(if t116=true then (some (decide (a0_4 ≥ 0))) else (some false))) else (some false)) else (some false))) else (some false))
theorem sense_Sane.mono:∀ a0 a1 a2 a3 a4 k,LeO (sense_Sane.f k a0 a1 a2 a3 a4) (sense_Sane.f (k+1) a0 a1 a2 a3 a4):=by
 intro a0 a1 a2 a3 a4 k
 unfold sense_Sane.f
 repeat' first
   | (with_reducible exact sense_values.mono _ _ _ _)
   | (with_reducible exact LeO.refl _)
   | (with_reducible exact LeO.none _)
   | (with_reducible refine LeO.ite ?_ ?_)
   | (with_reducible refine LeO.bind ?_ (fun _=>?_))
   | exact sense_values.mono _ _ _ _
   | exact LeO.none _
   | refine LeO.ite ?_ ?_
   | refine LeO.bind ?_ (fun _=>?_)
set_option maxHeartbeats 8000000 in
set_option maxRecDepth 100000 in
theorem sense_Sane.calls (k:Nat) (a0_0:Int) (a0_1:Int) (a0_2:Int) (a0_3:Int) (a0_4:Int) (r:Bool) (w:World) (h:sense_Sane.f k a0_0 a0_1 a0_2 a0_3 a0_4=some r) :
  Calls Try.prog 13 #[.agg #[.int .i64 a0_0,.int .i64 a0_1,.int .i64 a0_2,.int .i64 a0_3,.int .i64 a0_4]] w fun e w'=>e=.returned (.bool r)∧Below w.heap.size w w':=by
 have hu24:=Try.underlying24
 have hu22:=Try.underlying22
 have HB:=Aside0.mk (Below.refl w.heap.size w)
 have H:((sense_values.f k a0_0 a0_1 a0_2).bind fun t114=>(if t114=true then ((sense_value.f a0_3).bind fun t115=>(if t115=true then (if a0_3 > 0 then ((sense_value.f a0_4).bind fun t116=>(if t116=true then (some (decide (a0_4 ≥ 0))) else (some false))) else (some false)) else (some false))) else (some false)))=some r:=h
 clear h
 replace H:=Option.bind_eq_some_iff.mp H
 obtain⟨t114,A20,H⟩:=H
 replace H:(if t114=true then ((sense_value.f a0_3).bind fun t115=>(if t115=true then (if a0_3 > 0 then ((sense_value.f a0_4).bind fun t116=>(if t116=true then (some (decide (a0_4 ≥ 0))) else (some false))) else (some false)) else (some false))) else (some false))=some r:=H
 have A2:=Aside0.mk A20
 clear A20
 by_cases c3:t114=true
 ·subst c3
  have H1:((sense_value.f a0_3).bind fun t115=>(if t115=true then (if a0_3 > 0 then ((sense_value.f a0_4).bind fun t116=>(if t116=true then (some (decide (a0_4 ≥ 0))) else (some false))) else (some false)) else (some false)))=some r:=by rw [if_pos rfl] at H;exact H
  clear H
  have H:=H1
  clear H1
  replace H:=Option.bind_eq_some_iff.mp H
  obtain⟨t115,A40,H⟩:=H
  replace H:(if t115=true then (if a0_3 > 0 then ((sense_value.f a0_4).bind fun t116=>(if t116=true then (some (decide (a0_4 ≥ 0))) else (some false))) else (some false)) else (some false))=some r:=H
  have A4:=Aside0.mk A40
  clear A40
  by_cases c5:t115=true
  ·subst c5
   have H1:(if a0_3 > 0 then ((sense_value.f a0_4).bind fun t116=>(if t116=true then (some (decide (a0_4 ≥ 0))) else (some false))) else (some false))=some r:=by rw [if_pos rfl] at H;exact H
   clear H
   have H:=H1
   clear H1
   by_cases c6:a0_3 > 0
   ·rw [if_pos c6] at H
    have c6b0:decide (0<a0_3)=true:=decide_eq_true c6
    clear c6
    replace H:=Option.bind_eq_some_iff.mp H
    obtain⟨t116,A70,H⟩:=H
    replace H:(if t116=true then (some (decide (a0_4 ≥ 0))) else (some false))=some r:=H
    have A7:=Aside0.mk A70
    clear A70
    by_cases c8:t116=true
    ·subst c8
     have H1:(some (decide (a0_4 ≥ 0)))=some r:=by rw [if_pos rfl] at H;exact H
     clear H
     have H:=H1
     clear H1
     obtain rfl:=Option.some.inj H
     go_enter Try.func13,Try.ntmps13
     go_wp2_with (first|((with_reducible refine gate_dst (N:=1) rfl ?_);refine box_event ?hg (N:=1) ?hd (cs:=#[.int .i64 a0_0,.int .i64 a0_1,.int .i64 a0_2,.int .i64 a0_3,.int .i64 a0_4]) (t:=24) ?hr ?_;(case hd=>rfl);(case hg=>rfl);(case hr=>first|(go_simp;done)|(go_simp;rfl));intro gb113 hg w9 hbox hb;have n0_:=Aside0.mk (below_step (by first|with_reducible exact HB.out|exact bl HB) hb);have n1_:=Aside0.mk (hbox);have n2_:=Aside0.mk ((by rw [hg];exact(below_size (by first|with_reducible exact HB.out|exact bl HB)):w.heap.size≤gb113));have n3_:=Aside0.mk ((by rw [hg];exact(below_size (by first|with_reducible exact HB.out|exact bl HB)):w.heap.size≤gb113));clear HB;have HB:=n0_;have BK113:=n1_;have GW113:=n2_;have GE113:=n3_;clear n0_ n1_ n2_ n3_;clear hb hbox hg;have hcz10_0:w9.cell? ⟨gb113,0,none⟩=some (.int .i64 a0_0):=(blk_cell BK113.out 0).trans rfl;have hcz10_1:w9.cell? ⟨gb113,1,none⟩=some (.int .i64 a0_1):=(blk_cell BK113.out 1).trans rfl;have hcz10_2:w9.cell? ⟨gb113,2,none⟩=some (.int .i64 a0_2):=(blk_cell BK113.out 2).trans rfl;have hcz10_3:w9.cell? ⟨gb113,3,none⟩=some (.int .i64 a0_3):=(blk_cell BK113.out 3).trans rfl;have hcz10_4:w9.cell? ⟨gb113,4,none⟩=some (.int .i64 a0_4):=(blk_cell BK113.out 4).trans rfl;have hfz10_0:=blk_frozen BK113.out 0;have hfz10_1:=blk_frozen BK113.out 1;have hfz10_2:=blk_frozen BK113.out 2;have hfz10_3:=blk_frozen BK113.out 3;have hfz10_4:=blk_frozen BK113.out 4)|((with_reducible refine gate_callee (f:=30) rfl ?_);refine goesL_ (some 5) rfl rfl Try.func30 (by kernel_rfl) rfl #[.agg #[.int .i64 a0_0,.int .i64 a0_1,.int .i64 a0_2]] rfl (by exact mA _ _) ?_;(with_reducible refine(sense_values.calls k a0_0 a0_1 a0_2 true _ A2.out).mono ?_);rintro e w11 ⟨rfl,hb⟩;refine⟨_,rfl,?_⟩;have n0_:=Aside0.mk (blk_below (bk BK113.out) hb);have n1_:=Aside0.mk (below_step (by repeat (first|with_reducible exact HB.out|exact bl HB|refine bs ?_ GE113)) hb);clear BK113;clear HB;have BK113:=n0_;have HB:=n1_;clear n0_ n1_;(try clear hb);(try clear hb2);(try clear hk);(try clear hi);have hcz12_0:w11.cell? ⟨gb113,0,none⟩=some (.int .i64 a0_0):=(blk_cell BK113.out 0).trans rfl;have hcz12_1:w11.cell? ⟨gb113,1,none⟩=some (.int .i64 a0_1):=(blk_cell BK113.out 1).trans rfl;have hcz12_2:w11.cell? ⟨gb113,2,none⟩=some (.int .i64 a0_2):=(blk_cell BK113.out 2).trans rfl;have hcz12_3:w11.cell? ⟨gb113,3,none⟩=some (.int .i64 a0_3):=(blk_cell BK113.out 3).trans rfl;have hcz12_4:w11.cell? ⟨gb113,4,none⟩=some (.int .i64 a0_4):=(blk_cell BK113.out 4).trans rfl;have hfz12_0:=blk_frozen BK113.out 0;have hfz12_1:=blk_frozen BK113.out 1;have hfz12_2:=blk_frozen BK113.out 2;have hfz12_3:=blk_frozen BK113.out 3;have hfz12_4:=blk_frozen BK113.out 4)|(go_at_call 31;(with_reducible refine(sense_value.calls a0_3 true _ A4.out).mono ?_);rintro e w13 ⟨rfl,hb⟩;have n0_:=Aside0.mk (blk_below (bk BK113.out) hb);have n1_:=Aside0.mk (below_step (by repeat (first|with_reducible exact HB.out|exact bl HB|refine bs ?_ GE113)) hb);clear BK113;clear HB;have BK113:=n0_;have HB:=n1_;clear n0_ n1_;(try clear hb);(try clear hb2);(try clear hk);(try clear hi);have hcz14_0:w13.cell? ⟨gb113,0,none⟩=some (.int .i64 a0_0):=(blk_cell BK113.out 0).trans rfl;have hcz14_1:w13.cell? ⟨gb113,1,none⟩=some (.int .i64 a0_1):=(blk_cell BK113.out 1).trans rfl;have hcz14_2:w13.cell? ⟨gb113,2,none⟩=some (.int .i64 a0_2):=(blk_cell BK113.out 2).trans rfl;have hcz14_3:w13.cell? ⟨gb113,3,none⟩=some (.int .i64 a0_3):=(blk_cell BK113.out 3).trans rfl;have hcz14_4:w13.cell? ⟨gb113,4,none⟩=some (.int .i64 a0_4):=(blk_cell BK113.out 4).trans rfl;have hfz14_0:=blk_frozen BK113.out 0;have hfz14_1:=blk_frozen BK113.out 1;have hfz14_2:=blk_frozen BK113.out 2;have hfz14_3:=blk_frozen BK113.out 3;have hfz14_4:=blk_frozen BK113.out 4)|(go_at_call 31;(with_reducible refine(sense_value.calls a0_4 true _ A7.out).mono ?_);rintro e w15 ⟨rfl,hb⟩;have n0_:=Aside0.mk (blk_below (bk BK113.out) hb);have n1_:=Aside0.mk (below_step (by repeat (first|with_reducible exact HB.out|exact bl HB|refine bs ?_ GE113)) hb);clear BK113;clear HB;have BK113:=n0_;have HB:=n1_;clear n0_ n1_;(try clear hb);(try clear hb2);(try clear hk);(try clear hi);have hcz16_0:w15.cell? ⟨gb113,0,none⟩=some (.int .i64 a0_0):=(blk_cell BK113.out 0).trans rfl;have hcz16_1:w15.cell? ⟨gb113,1,none⟩=some (.int .i64 a0_1):=(blk_cell BK113.out 1).trans rfl;have hcz16_2:w15.cell? ⟨gb113,2,none⟩=some (.int .i64 a0_2):=(blk_cell BK113.out 2).trans rfl;have hcz16_3:w15.cell? ⟨gb113,3,none⟩=some (.int .i64 a0_3):=(blk_cell BK113.out 3).trans rfl;have hcz16_4:w15.cell? ⟨gb113,4,none⟩=some (.int .i64 a0_4):=(blk_cell BK113.out 4).trans rfl;have hfz16_0:=blk_frozen BK113.out 0;have hfz16_1:=blk_frozen BK113.out 1;have hfz16_2:=blk_frozen BK113.out 2;have hfz16_3:=blk_frozen BK113.out 3;have hfz16_4:=blk_frozen BK113.out 4))
     go_ret
     exact⟨by first|rfl|(simp [errW_none,errW_some]<;>rfl)|(simp [*,errW_none,errW_some]<;>rfl),by repeat (first|with_reducible exact HB.out|exact bl HB|refine bs ?_ GE113)⟩
    ·replace c8:=Bool.eq_false_iff.mpr c8
     subst c8
     have H1:(some false)=some r:=by rw [if_neg (show ¬(false=true) by decide)] at H;exact H
     clear H
     have H:=H1
     clear H1
     obtain rfl:=Option.some.inj H
     go_enter Try.func13,Try.ntmps13
     go_wp2_with (first|((with_reducible refine gate_dst (N:=1) rfl ?_);refine box_event ?hg (N:=1) ?hd (cs:=#[.int .i64 a0_0,.int .i64 a0_1,.int .i64 a0_2,.int .i64 a0_3,.int .i64 a0_4]) (t:=24) ?hr ?_;(case hd=>rfl);(case hg=>rfl);(case hr=>first|(go_simp;done)|(go_simp;rfl));intro gb113 hg w17 hbox hb;have n0_:=Aside0.mk (below_step (by first|with_reducible exact HB.out|exact bl HB) hb);have n1_:=Aside0.mk (hbox);have n2_:=Aside0.mk ((by rw [hg];exact(below_size (by first|with_reducible exact HB.out|exact bl HB)):w.heap.size≤gb113));have n3_:=Aside0.mk ((by rw [hg];exact(below_size (by first|with_reducible exact HB.out|exact bl HB)):w.heap.size≤gb113));clear HB;have HB:=n0_;have BK113:=n1_;have GW113:=n2_;have GE113:=n3_;clear n0_ n1_ n2_ n3_;clear hb hbox hg;have hcz18_0:w17.cell? ⟨gb113,0,none⟩=some (.int .i64 a0_0):=(blk_cell BK113.out 0).trans rfl;have hcz18_1:w17.cell? ⟨gb113,1,none⟩=some (.int .i64 a0_1):=(blk_cell BK113.out 1).trans rfl;have hcz18_2:w17.cell? ⟨gb113,2,none⟩=some (.int .i64 a0_2):=(blk_cell BK113.out 2).trans rfl;have hcz18_3:w17.cell? ⟨gb113,3,none⟩=some (.int .i64 a0_3):=(blk_cell BK113.out 3).trans rfl;have hcz18_4:w17.cell? ⟨gb113,4,none⟩=some (.int .i64 a0_4):=(blk_cell BK113.out 4).trans rfl;have hfz18_0:=blk_frozen BK113.out 0;have hfz18_1:=blk_frozen BK113.out 1;have hfz18_2:=blk_frozen BK113.out 2;have hfz18_3:=blk_frozen BK113.out 3;have hfz18_4:=blk_frozen BK113.out 4)|((with_reducible refine gate_callee (f:=30) rfl ?_);refine goesL_ (some 5) rfl rfl Try.func30 (by kernel_rfl) rfl #[.agg #[.int .i64 a0_0,.int .i64 a0_1,.int .i64 a0_2]] rfl (by exact mA _ _) ?_;(with_reducible refine(sense_values.calls k a0_0 a0_1 a0_2 true _ A2.out).mono ?_);rintro e w19 ⟨rfl,hb⟩;refine⟨_,rfl,?_⟩;have n0_:=Aside0.mk (blk_below (bk BK113.out) hb);have n1_:=Aside0.mk (below_step (by repeat (first|with_reducible exact HB.out|exact bl HB|refine bs ?_ GE113)) hb);clear BK113;clear HB;have BK113:=n0_;have HB:=n1_;clear n0_ n1_;(try clear hb);(try clear hb2);(try clear hk);(try clear hi);have hcz20_0:w19.cell? ⟨gb113,0,none⟩=some (.int .i64 a0_0):=(blk_cell BK113.out 0).trans rfl;have hcz20_1:w19.cell? ⟨gb113,1,none⟩=some (.int .i64 a0_1):=(blk_cell BK113.out 1).trans rfl;have hcz20_2:w19.cell? ⟨gb113,2,none⟩=some (.int .i64 a0_2):=(blk_cell BK113.out 2).trans rfl;have hcz20_3:w19.cell? ⟨gb113,3,none⟩=some (.int .i64 a0_3):=(blk_cell BK113.out 3).trans rfl;have hcz20_4:w19.cell? ⟨gb113,4,none⟩=some (.int .i64 a0_4):=(blk_cell BK113.out 4).trans rfl;have hfz20_0:=blk_frozen BK113.out 0;have hfz20_1:=blk_frozen BK113.out 1;have hfz20_2:=blk_frozen BK113.out 2;have hfz20_3:=blk_frozen BK113.out 3;have hfz20_4:=blk_frozen BK113.out 4)|(go_at_call 31;(with_reducible refine(sense_value.calls a0_3 true _ A4.out).mono ?_);rintro e w21 ⟨rfl,hb⟩;have n0_:=Aside0.mk (blk_below (bk BK113.out) hb);have n1_:=Aside0.mk (below_step (by repeat (first|with_reducible exact HB.out|exact bl HB|refine bs ?_ GE113)) hb);clear BK113;clear HB;have BK113:=n0_;have HB:=n1_;clear n0_ n1_;(try clear hb);(try clear hb2);(try clear hk);(try clear hi);have hcz22_0:w21.cell? ⟨gb113,0,none⟩=some (.int .i64 a0_0):=(blk_cell BK113.out 0).trans rfl;have hcz22_1:w21.cell? ⟨gb113,1,none⟩=some (.int .i64 a0_1):=(blk_cell BK113.out 1).trans rfl;have hcz22_2:w21.cell? ⟨gb113,2,none⟩=some (.int .i64 a0_2):=(blk_cell BK113.out 2).trans rfl;have hcz22_3:w21.cell? ⟨gb113,3,none⟩=some (.int .i64 a0_3):=(blk_cell BK113.out 3).trans rfl;have hcz22_4:w21.cell? ⟨gb113,4,none⟩=some (.int .i64 a0_4):=(blk_cell BK113.out 4).trans rfl;have hfz22_0:=blk_frozen BK113.out 0;have hfz22_1:=blk_frozen BK113.out 1;have hfz22_2:=blk_frozen BK113.out 2;have hfz22_3:=blk_frozen BK113.out 3;have hfz22_4:=blk_frozen BK113.out 4)|(go_at_call 31;(with_reducible refine(sense_value.calls a0_4 false _ A7.out).mono ?_);rintro e w23 ⟨rfl,hb⟩;have n0_:=Aside0.mk (blk_below (bk BK113.out) hb);have n1_:=Aside0.mk (below_step (by repeat (first|with_reducible exact HB.out|exact bl HB|refine bs ?_ GE113)) hb);clear BK113;clear HB;have BK113:=n0_;have HB:=n1_;clear n0_ n1_;(try clear hb);(try clear hb2);(try clear hk);(try clear hi)))
     go_ret
     exact⟨by first|rfl|(simp [errW_none,errW_some]<;>rfl)|(simp [*,errW_none,errW_some]<;>rfl),by repeat (first|with_reducible exact HB.out|exact bl HB|refine bs ?_ GE113)⟩
   ·rw [if_neg c6] at H
    have c6b0:decide (0<a0_3)=false:=decide_eq_false c6
    clear c6
    obtain rfl:=Option.some.inj H
    go_enter Try.func13,Try.ntmps13
    go_wp2_with (first|((with_reducible refine gate_dst (N:=1) rfl ?_);refine box_event ?hg (N:=1) ?hd (cs:=#[.int .i64 a0_0,.int .i64 a0_1,.int .i64 a0_2,.int .i64 a0_3,.int .i64 a0_4]) (t:=24) ?hr ?_;(case hd=>rfl);(case hg=>rfl);(case hr=>first|(go_simp;done)|(go_simp;rfl));intro gb113 hg w24 hbox hb;have n0_:=Aside0.mk (below_step (by first|with_reducible exact HB.out|exact bl HB) hb);have n1_:=Aside0.mk (hbox);have n2_:=Aside0.mk ((by rw [hg];exact(below_size (by first|with_reducible exact HB.out|exact bl HB)):w.heap.size≤gb113));have n3_:=Aside0.mk ((by rw [hg];exact(below_size (by first|with_reducible exact HB.out|exact bl HB)):w.heap.size≤gb113));clear HB;have HB:=n0_;have BK113:=n1_;have GW113:=n2_;have GE113:=n3_;clear n0_ n1_ n2_ n3_;clear hb hbox hg;have hcz25_0:w24.cell? ⟨gb113,0,none⟩=some (.int .i64 a0_0):=(blk_cell BK113.out 0).trans rfl;have hcz25_1:w24.cell? ⟨gb113,1,none⟩=some (.int .i64 a0_1):=(blk_cell BK113.out 1).trans rfl;have hcz25_2:w24.cell? ⟨gb113,2,none⟩=some (.int .i64 a0_2):=(blk_cell BK113.out 2).trans rfl;have hcz25_3:w24.cell? ⟨gb113,3,none⟩=some (.int .i64 a0_3):=(blk_cell BK113.out 3).trans rfl;have hcz25_4:w24.cell? ⟨gb113,4,none⟩=some (.int .i64 a0_4):=(blk_cell BK113.out 4).trans rfl;have hfz25_0:=blk_frozen BK113.out 0;have hfz25_1:=blk_frozen BK113.out 1;have hfz25_2:=blk_frozen BK113.out 2;have hfz25_3:=blk_frozen BK113.out 3;have hfz25_4:=blk_frozen BK113.out 4)|((with_reducible refine gate_callee (f:=30) rfl ?_);refine goesL_ (some 5) rfl rfl Try.func30 (by kernel_rfl) rfl #[.agg #[.int .i64 a0_0,.int .i64 a0_1,.int .i64 a0_2]] rfl (by exact mA _ _) ?_;(with_reducible refine(sense_values.calls k a0_0 a0_1 a0_2 true _ A2.out).mono ?_);rintro e w26 ⟨rfl,hb⟩;refine⟨_,rfl,?_⟩;have n0_:=Aside0.mk (blk_below (bk BK113.out) hb);have n1_:=Aside0.mk (below_step (by repeat (first|with_reducible exact HB.out|exact bl HB|refine bs ?_ GE113)) hb);clear BK113;clear HB;have BK113:=n0_;have HB:=n1_;clear n0_ n1_;(try clear hb);(try clear hb2);(try clear hk);(try clear hi);have hcz27_0:w26.cell? ⟨gb113,0,none⟩=some (.int .i64 a0_0):=(blk_cell BK113.out 0).trans rfl;have hcz27_1:w26.cell? ⟨gb113,1,none⟩=some (.int .i64 a0_1):=(blk_cell BK113.out 1).trans rfl;have hcz27_2:w26.cell? ⟨gb113,2,none⟩=some (.int .i64 a0_2):=(blk_cell BK113.out 2).trans rfl;have hcz27_3:w26.cell? ⟨gb113,3,none⟩=some (.int .i64 a0_3):=(blk_cell BK113.out 3).trans rfl;have hcz27_4:w26.cell? ⟨gb113,4,none⟩=some (.int .i64 a0_4):=(blk_cell BK113.out 4).trans rfl;have hfz27_0:=blk_frozen BK113.out 0;have hfz27_1:=blk_frozen BK113.out 1;have hfz27_2:=blk_frozen BK113.out 2;have hfz27_3:=blk_frozen BK113.out 3;have hfz27_4:=blk_frozen BK113.out 4)|(go_at_call 31;(with_reducible refine(sense_value.calls a0_3 true _ A4.out).mono ?_);rintro e w28 ⟨rfl,hb⟩;have n0_:=Aside0.mk (blk_below (bk BK113.out) hb);have n1_:=Aside0.mk (below_step (by repeat (first|with_reducible exact HB.out|exact bl HB|refine bs ?_ GE113)) hb);clear BK113;clear HB;have BK113:=n0_;have HB:=n1_;clear n0_ n1_;(try clear hb);(try clear hb2);(try clear hk);(try clear hi);have hcz29_0:w28.cell? ⟨gb113,0,none⟩=some (.int .i64 a0_0):=(blk_cell BK113.out 0).trans rfl;have hcz29_1:w28.cell? ⟨gb113,1,none⟩=some (.int .i64 a0_1):=(blk_cell BK113.out 1).trans rfl;have hcz29_2:w28.cell? ⟨gb113,2,none⟩=some (.int .i64 a0_2):=(blk_cell BK113.out 2).trans rfl;have hcz29_3:w28.cell? ⟨gb113,3,none⟩=some (.int .i64 a0_3):=(blk_cell BK113.out 3).trans rfl;have hcz29_4:w28.cell? ⟨gb113,4,none⟩=some (.int .i64 a0_4):=(blk_cell BK113.out 4).trans rfl;have hfz29_0:=blk_frozen BK113.out 0;have hfz29_1:=blk_frozen BK113.out 1;have hfz29_2:=blk_frozen BK113.out 2;have hfz29_3:=blk_frozen BK113.out 3;have hfz29_4:=blk_frozen BK113.out 4))
    go_ret
    exact⟨by first|rfl|(simp [errW_none,errW_some]<;>rfl)|(simp [*,errW_none,errW_some]<;>rfl),by repeat (first|with_reducible exact HB.out|exact bl HB|refine bs ?_ GE113)⟩
  ·replace c5:=Bool.eq_false_iff.mpr c5
   subst c5
   have H1:(some false)=some r:=by rw [if_neg (show ¬(false=true) by decide)] at H;exact H
   clear H
   have H:=H1
   clear H1
   obtain rfl:=Option.some.inj H
   go_enter Try.func13,Try.ntmps13
   go_wp2_with (first|((with_reducible refine gate_dst (N:=1) rfl ?_);refine box_event ?hg (N:=1) ?hd (cs:=#[.int .i64 a0_0,.int .i64 a0_1,.int .i64 a0_2,.int .i64 a0_3,.int .i64 a0_4]) (t:=24) ?hr ?_;(case hd=>rfl);(case hg=>rfl);(case hr=>first|(go_simp;done)|(go_simp;rfl));intro gb113 hg w30 hbox hb;have n0_:=Aside0.mk (below_step (by first|with_reducible exact HB.out|exact bl HB) hb);have n1_:=Aside0.mk (hbox);have n2_:=Aside0.mk ((by rw [hg];exact(below_size (by first|with_reducible exact HB.out|exact bl HB)):w.heap.size≤gb113));have n3_:=Aside0.mk ((by rw [hg];exact(below_size (by first|with_reducible exact HB.out|exact bl HB)):w.heap.size≤gb113));clear HB;have HB:=n0_;have BK113:=n1_;have GW113:=n2_;have GE113:=n3_;clear n0_ n1_ n2_ n3_;clear hb hbox hg;have hcz31_0:w30.cell? ⟨gb113,0,none⟩=some (.int .i64 a0_0):=(blk_cell BK113.out 0).trans rfl;have hcz31_1:w30.cell? ⟨gb113,1,none⟩=some (.int .i64 a0_1):=(blk_cell BK113.out 1).trans rfl;have hcz31_2:w30.cell? ⟨gb113,2,none⟩=some (.int .i64 a0_2):=(blk_cell BK113.out 2).trans rfl;have hcz31_3:w30.cell? ⟨gb113,3,none⟩=some (.int .i64 a0_3):=(blk_cell BK113.out 3).trans rfl;have hcz31_4:w30.cell? ⟨gb113,4,none⟩=some (.int .i64 a0_4):=(blk_cell BK113.out 4).trans rfl;have hfz31_0:=blk_frozen BK113.out 0;have hfz31_1:=blk_frozen BK113.out 1;have hfz31_2:=blk_frozen BK113.out 2;have hfz31_3:=blk_frozen BK113.out 3;have hfz31_4:=blk_frozen BK113.out 4)|((with_reducible refine gate_callee (f:=30) rfl ?_);refine goesL_ (some 5) rfl rfl Try.func30 (by kernel_rfl) rfl #[.agg #[.int .i64 a0_0,.int .i64 a0_1,.int .i64 a0_2]] rfl (by exact mA _ _) ?_;(with_reducible refine(sense_values.calls k a0_0 a0_1 a0_2 true _ A2.out).mono ?_);rintro e w32 ⟨rfl,hb⟩;refine⟨_,rfl,?_⟩;have n0_:=Aside0.mk (blk_below (bk BK113.out) hb);have n1_:=Aside0.mk (below_step (by repeat (first|with_reducible exact HB.out|exact bl HB|refine bs ?_ GE113)) hb);clear BK113;clear HB;have BK113:=n0_;have HB:=n1_;clear n0_ n1_;(try clear hb);(try clear hb2);(try clear hk);(try clear hi);have hcz33_0:w32.cell? ⟨gb113,0,none⟩=some (.int .i64 a0_0):=(blk_cell BK113.out 0).trans rfl;have hcz33_1:w32.cell? ⟨gb113,1,none⟩=some (.int .i64 a0_1):=(blk_cell BK113.out 1).trans rfl;have hcz33_2:w32.cell? ⟨gb113,2,none⟩=some (.int .i64 a0_2):=(blk_cell BK113.out 2).trans rfl;have hcz33_3:w32.cell? ⟨gb113,3,none⟩=some (.int .i64 a0_3):=(blk_cell BK113.out 3).trans rfl;have hcz33_4:w32.cell? ⟨gb113,4,none⟩=some (.int .i64 a0_4):=(blk_cell BK113.out 4).trans rfl;have hfz33_0:=blk_frozen BK113.out 0;have hfz33_1:=blk_frozen BK113.out 1;have hfz33_2:=blk_frozen BK113.out 2;have hfz33_3:=blk_frozen BK113.out 3;have hfz33_4:=blk_frozen BK113.out 4)|(go_at_call 31;(with_reducible refine(sense_value.calls a0_3 false _ A4.out).mono ?_);rintro e w34 ⟨rfl,hb⟩;have n0_:=Aside0.mk (blk_below (bk BK113.out) hb);have n1_:=Aside0.mk (below_step (by repeat (first|with_reducible exact HB.out|exact bl HB|refine bs ?_ GE113)) hb);clear BK113;clear HB;have BK113:=n0_;have HB:=n1_;clear n0_ n1_;(try clear hb);(try clear hb2);(try clear hk);(try clear hi)))
   go_ret
   exact⟨by first|rfl|(simp [errW_none,errW_some]<;>rfl)|(simp [*,errW_none,errW_some]<;>rfl),by repeat (first|with_reducible exact HB.out|exact bl HB|refine bs ?_ GE113)⟩
 ·replace c3:=Bool.eq_false_iff.mpr c3
  subst c3
  have H1:(some false)=some r:=by rw [if_neg (show ¬(false=true) by decide)] at H;exact H
  clear H
  have H:=H1
  clear H1
  obtain rfl:=Option.some.inj H
  go_enter Try.func13,Try.ntmps13
  go_wp2_with (first|((with_reducible refine gate_dst (N:=1) rfl ?_);refine box_event ?hg (N:=1) ?hd (cs:=#[.int .i64 a0_0,.int .i64 a0_1,.int .i64 a0_2,.int .i64 a0_3,.int .i64 a0_4]) (t:=24) ?hr ?_;(case hd=>rfl);(case hg=>rfl);(case hr=>first|(go_simp;done)|(go_simp;rfl));intro gb113 hg w35 hbox hb;have n0_:=Aside0.mk (below_step (by first|with_reducible exact HB.out|exact bl HB) hb);have n1_:=Aside0.mk (hbox);have n2_:=Aside0.mk ((by rw [hg];exact(below_size (by first|with_reducible exact HB.out|exact bl HB)):w.heap.size≤gb113));have n3_:=Aside0.mk ((by rw [hg];exact(below_size (by first|with_reducible exact HB.out|exact bl HB)):w.heap.size≤gb113));clear HB;have HB:=n0_;have BK113:=n1_;have GW113:=n2_;have GE113:=n3_;clear n0_ n1_ n2_ n3_;clear hb hbox hg;have hcz36_0:w35.cell? ⟨gb113,0,none⟩=some (.int .i64 a0_0):=(blk_cell BK113.out 0).trans rfl;have hcz36_1:w35.cell? ⟨gb113,1,none⟩=some (.int .i64 a0_1):=(blk_cell BK113.out 1).trans rfl;have hcz36_2:w35.cell? ⟨gb113,2,none⟩=some (.int .i64 a0_2):=(blk_cell BK113.out 2).trans rfl;have hcz36_3:w35.cell? ⟨gb113,3,none⟩=some (.int .i64 a0_3):=(blk_cell BK113.out 3).trans rfl;have hcz36_4:w35.cell? ⟨gb113,4,none⟩=some (.int .i64 a0_4):=(blk_cell BK113.out 4).trans rfl;have hfz36_0:=blk_frozen BK113.out 0;have hfz36_1:=blk_frozen BK113.out 1;have hfz36_2:=blk_frozen BK113.out 2;have hfz36_3:=blk_frozen BK113.out 3;have hfz36_4:=blk_frozen BK113.out 4)|((with_reducible refine gate_callee (f:=30) rfl ?_);refine goesL_ (some 5) rfl rfl Try.func30 (by kernel_rfl) rfl #[.agg #[.int .i64 a0_0,.int .i64 a0_1,.int .i64 a0_2]] rfl (by exact mA _ _) ?_;(with_reducible refine(sense_values.calls k a0_0 a0_1 a0_2 false _ A2.out).mono ?_);rintro e w37 ⟨rfl,hb⟩;refine⟨_,rfl,?_⟩;have n0_:=Aside0.mk (blk_below (bk BK113.out) hb);have n1_:=Aside0.mk (below_step (by repeat (first|with_reducible exact HB.out|exact bl HB|refine bs ?_ GE113)) hb);clear BK113;clear HB;have BK113:=n0_;have HB:=n1_;clear n0_ n1_;(try clear hb);(try clear hb2);(try clear hk);(try clear hi)))
  go_ret
  exact⟨by first|rfl|(simp [errW_none,errW_some]<;>rfl)|(simp [*,errW_none,errW_some]<;>rfl),by repeat (first|with_reducible exact HB.out|exact bl HB|refine bs ?_ GE113)⟩
def vec_each.f (F:Int→Option (Int × Bool)):Option (Int × Int × Int × Bool):=(F 0).bind fun bt119=>((F 1).bind fun bt121=>(if bt119.2=true then ((F 2).bind fun bt123=>(some (bt119.1,bt121.1,bt123.1,true))) else ((F 2).bind fun bt125=>(if bt121.2=true then (some (bt119.1,bt121.1,bt125.1,true)) else (some (bt119.1,bt121.1,bt125.1,bt125.2))))))
theorem vec_each.mono {F G:Int→Option (Int × Bool)} (hF:∀ i,LeO (F i) (G i)):LeO (vec_each.f F) (vec_each.f G):=by
 unfold vec_each.f
 repeat' first
   | (with_reducible exact hF _)
   | (with_reducible exact LeO.refl _)
   | (with_reducible refine LeO.ite ?_ ?_)
   | (with_reducible refine LeO.bind ?_ (fun _=>?_))
set_option maxHeartbeats 8000000 in
set_option maxRecDepth 100000 in
theorem vec_each.calls (F:Int→Option (Int × Bool)) (g:Nat) (pre lb:Array Value)  (r1:Int) (r2:Int) (r3:Int) (r4:Bool) (w:World) (eg:∀ args w,(callFunc g args).run Try.prog w=.ok (.enter g args) w) (hF:Aside0 (∀ i0_ r1_ r2_ W,Below w.heap.size w W→F i0_=some (r1_,r2_)→Calls Try.prog g (pre++(#[.int .i64 i0_]++lb)) W fun e W'=>e=.returned (.tuple #[.int .i64 r1_,.bool r2_])∧Below W.heap.size W W')) (h:vec_each.f F=some (r1,r2,r3,r4)) :
  Calls Try.prog 40 #[.func (.func g) pre lb] w fun e w'=>e=.returned (.tuple #[.agg #[.int .i64 r1,.int .i64 r2,.int .i64 r3],.bool r4])∧Below w.heap.size w w':=by
 have hu22:=Try.underlying22
 have HB:=Aside0.mk (Below.refl w.heap.size w)
 have H:((F 0).bind fun bt119=>((F 1).bind fun bt121=>(if bt119.2=true then ((F 2).bind fun bt123=>(some (bt119.1,bt121.1,bt123.1,true))) else ((F 2).bind fun bt125=>(if bt121.2=true then (some (bt119.1,bt121.1,bt125.1,true)) else (some (bt119.1,bt121.1,bt125.1,bt125.2)))))))=some (r1,r2,r3,r4):=h
 clear h
 replace H:=Option.bind_eq_some_iff.mp H
 obtain⟨⟨t119,t120⟩,A10,H⟩:=H
 replace H:((F 1).bind fun bt121=>(if t120=true then ((F 2).bind fun bt123=>(some (t119,bt121.1,bt123.1,true))) else ((F 2).bind fun bt125=>(if bt121.2=true then (some (t119,bt121.1,bt125.1,true)) else (some (t119,bt121.1,bt125.1,bt125.2))))))=some (r1,r2,r3,r4):=H
 have A1:=Aside0.mk A10
 clear A10
 replace H:=Option.bind_eq_some_iff.mp H
 obtain⟨⟨t121,t122⟩,A20,H⟩:=H
 replace H:(if t120=true then ((F 2).bind fun bt123=>(some (t119,t121,bt123.1,true))) else ((F 2).bind fun bt125=>(if t122=true then (some (t119,t121,bt125.1,true)) else (some (t119,t121,bt125.1,bt125.2)))))=some (r1,r2,r3,r4):=H
 have A2:=Aside0.mk A20
 clear A20
 by_cases c3:t120=true
 ·subst c3
  have H1:((F 2).bind fun bt123=>(some (t119,t121,bt123.1,true)))=some (r1,r2,r3,r4):=by rw [if_pos rfl] at H;exact H
  clear H
  have H:=H1
  clear H1
  replace H:=Option.bind_eq_some_iff.mp H
  obtain⟨⟨t123,t124⟩,A40,H⟩:=H
  replace H:(some (t119,t121,t123,true))=some (r1,r2,r3,r4):=H
  have A4:=Aside0.mk A40
  clear A40
  simp only [Option.some.injEq,Prod.mk.injEq] at H
  obtain⟨rfl,rfl,rfl,rfl⟩:=H
  go_enter Try.func40,Try.ntmps40
  go_wp2_with (first|((with_reducible refine gate_dst (N:=2) rfl ?_);refine box_event ?hg (N:=2) ?hd (cs:=#[.int .i64 0,.int .i64 0,.int .i64 0]) (t:=22) ?hr ?_;(case hd=>rfl);(case hg=>rfl);(case hr=>first|(go_simp;done)|(go_simp;rfl));intro gb117 hg w5 hbox hb;have n0_:=Aside0.mk (below_step (by repeat (first|(with_reducible first|exact HB.out|apply below_alloc|apply pw_below_drewN|apply below_drew1)|exact HB.out)) hb);have n1_:=Aside0.mk (hbox);have n2_:=Aside0.mk ((by rw [hg];exact(below_size (by repeat (first|(with_reducible first|exact HB.out|apply below_alloc|apply pw_below_drewN|apply below_drew1)|exact HB.out))):w.heap.size≤gb117));have n3_:=Aside0.mk ((by rw [hg];exact(below_size (by repeat (first|(with_reducible first|exact HB.out|apply below_alloc|apply pw_below_drewN|apply below_drew1)|exact HB.out))):w.heap.size≤gb117));clear HB;have HB:=n0_;have BK117:=n1_;have GW117:=n2_;have GE117:=n3_;clear n0_ n1_ n2_ n3_;clear hb hbox hg)|((with_reducible refine gate_dst (N:=4) rfl ?_);refine box_event ?hg (N:=4) ?hd (cs:=#[.int .i64 0,.int .i64 0,.int .i64 0]) (t:=22) ?hr ?_;(case hd=>rfl);(case hg=>rfl);(case hr=>first|(go_simp;done)|(go_simp;rfl));intro gb118 hg w6 hbox hb;have n0_:=Aside0.mk (blk_below (g:=gb117) (o:=.cells #[.int .i64 0,.int .i64 0,.int .i64 0] 22 (0,0)) (by (with_reducible repeat (first|refine blk_drewN ?_ _|refine blk_drew ?_|refine blk_alloc ?_ _));exact BK117.out) hb);have n1_:=Aside0.mk (below_step (by repeat (first|(with_reducible first|exact HB.out|apply below_alloc|apply pw_below_drewN|apply below_drew1|refine below_set ?_ GE117.out)|exact HB.out)) hb);have n2_:=Aside0.mk (hbox);have n3_:=Aside0.mk ((by rw [hg];exact(below_size (by repeat (first|(with_reducible first|exact HB.out|apply below_alloc|apply pw_below_drewN|apply below_drew1|refine below_set ?_ GE117.out)|exact HB.out))):w.heap.size≤gb118));have n4_:=Aside0.mk ((by rw [hg];exact(below_size (by repeat (first|(with_reducible first|exact HB.out|apply below_alloc|apply pw_below_drewN|apply below_drew1|refine below_set ?_ GE117.out)|exact HB.out))):w.heap.size≤gb118));have n5_:=Aside0.mk ((by rw [hg];exact Nat.ne_of_lt (blk_lt (g:=gb117) (o:=.cells #[.int .i64 0,.int .i64 0,.int .i64 0] 22 (0,0)) (by (with_reducible repeat (first|refine blk_drewN ?_ _|refine blk_drew ?_|refine blk_alloc ?_ _));exact BK117.out)):gb117≠gb118));have n6_:=Aside0.mk ((by rw [hg];exact Nat.ne_of_gt (blk_lt (g:=gb117) (o:=.cells #[.int .i64 0,.int .i64 0,.int .i64 0] 22 (0,0)) (by (with_reducible repeat (first|refine blk_drewN ?_ _|refine blk_drew ?_|refine blk_alloc ?_ _));exact BK117.out)):gb118≠gb117));clear BK117;clear HB;have BK117:=n0_;have HB:=n1_;have BK118:=n2_;have GW118:=n3_;have GE118:=n4_;have NB117_118:=n5_;have NB118_117:=n6_;clear n0_ n1_ n2_ n3_ n4_ n5_ n6_;clear hb hbox hg)|(go_at_fn g;refine calls_of_args (args':=pre++(#[.int .i64 0]++lb)) (by simp) ?_;refine(hF.out _ _ _ _ (by repeat (first|(with_reducible first|exact HB.out|apply below_alloc|apply pw_below_drewN|apply below_drew1|refine below_set ?_ GE117.out|refine below_set ?_ GE118.out)|exact HB.out)) A1.out).mono ?_;rintro e w7 ⟨rfl,hb⟩;have n0_:=Aside0.mk (blk_below (g:=gb117) (o:=.cells #[.int .i64 0,.int .i64 0,.int .i64 0] 22 (0,0)) (by (with_reducible repeat (first|refine blk_drewN ?_ _|refine blk_drew ?_|refine blk_alloc ?_ _));exact BK117.out) hb);have n1_:=Aside0.mk (blk_below (g:=gb118) (o:=.cells #[.int .i64 0,.int .i64 0,.int .i64 0] 22 (0,0)) (by (with_reducible repeat (first|refine blk_drewN ?_ _|refine blk_drew ?_|refine blk_alloc ?_ _));exact BK118.out) hb);have n2_:=Aside0.mk (below_step (by repeat (first|(with_reducible first|exact HB.out|apply below_alloc|apply pw_below_drewN|apply below_drew1|refine below_set ?_ GE117.out|refine below_set ?_ GE118.out)|exact HB.out)) hb);clear BK117;clear BK118;clear HB;have BK117:=n0_;have BK118:=n1_;have HB:=n2_;clear n0_ n1_ n2_;(try clear hb);(try clear hb2);(try clear hk);(try clear hi);have hnb8:=NB118_117.out;have hnc8:=NB117_118.out;have hcz9_0:w7.cell? ⟨gb118,0,none⟩=some (.int .i64 0):=(blk_cell BK118.out 0).trans rfl;have hcz9_1:w7.cell? ⟨gb118,1,none⟩=some (.int .i64 0):=(blk_cell BK118.out 1).trans rfl;have hcz9_2:w7.cell? ⟨gb118,2,none⟩=some (.int .i64 0):=(blk_cell BK118.out 2).trans rfl;have hfz9_0:=blk_frozen BK118.out 0;have hfz9_1:=blk_frozen BK118.out 1;have hfz9_2:=blk_frozen BK118.out 2)|(go_at_fn g;refine calls_of_args (args':=pre++(#[.int .i64 1]++lb)) (by simp) ?_;refine(hF.out _ _ _ _ (by repeat (first|(with_reducible first|exact HB.out|apply below_alloc|apply pw_below_drewN|apply below_drew1|refine below_set ?_ GE117.out|refine below_set ?_ GE118.out)|exact HB.out)) A2.out).mono ?_;rintro e w10 ⟨rfl,hb⟩;have n0_:=Aside0.mk (blk_below (g:=gb117) (o:=.cells #[.int .i64 0,.int .i64 0,.int .i64 0] 22 (0,0)) (by (with_reducible repeat (first|refine blk_drewN ?_ _|refine blk_drew ?_|refine blk_alloc ?_ _));refine blk_far ?_ NB117_118.out _;(with_reducible repeat (first|refine blk_drewN ?_ _|refine blk_drew ?_|refine blk_alloc ?_ _));exact BK117.out) hb);have n1_:=Aside0.mk (blk_below (g:=gb118) (o:=.cells #[.int .i64 t119,.int .i64 0,.int .i64 0] 22 (0,0)) (by (with_reducible repeat (first|refine blk_drewN ?_ _|refine blk_drew ?_|refine blk_alloc ?_ _));refine blk_put (cs:=#[.int .i64 0,.int .i64 0,.int .i64 0]) ?_ 0 _ rfl;(with_reducible repeat (first|refine blk_drewN ?_ _|refine blk_drew ?_|refine blk_alloc ?_ _));exact BK118.out) hb);have n2_:=Aside0.mk (below_step (by repeat (first|(with_reducible first|exact HB.out|apply below_alloc|apply pw_below_drewN|apply below_drew1|refine below_set ?_ GE117.out|refine below_set ?_ GE118.out)|exact HB.out)) hb);clear BK117;clear BK118;clear HB;have BK117:=n0_;have BK118:=n1_;have HB:=n2_;clear n0_ n1_ n2_;(try clear hb);(try clear hb2);(try clear hk);(try clear hi);have hcz11_0:w10.cell? ⟨gb118,0,none⟩=some (.int .i64 t119):=(blk_cell BK118.out 0).trans rfl;have hcz11_1:w10.cell? ⟨gb118,1,none⟩=some (.int .i64 0):=(blk_cell BK118.out 1).trans rfl;have hcz11_2:w10.cell? ⟨gb118,2,none⟩=some (.int .i64 0):=(blk_cell BK118.out 2).trans rfl;have hfz11_0:=blk_frozen BK118.out 0;have hfz11_1:=blk_frozen BK118.out 1;have hfz11_2:=blk_frozen BK118.out 2)|(go_at_fn g;refine calls_of_args (args':=pre++(#[.int .i64 2]++lb)) (by simp) ?_;refine(hF.out _ _ _ _ (by repeat (first|(with_reducible first|exact HB.out|apply below_alloc|apply pw_below_drewN|apply below_drew1|refine below_set ?_ GE117.out|refine below_set ?_ GE118.out)|exact HB.out)) A4.out).mono ?_;rintro e w12 ⟨rfl,hb⟩;have n0_:=Aside0.mk (blk_below (g:=gb117) (o:=.cells #[.int .i64 0,.int .i64 0,.int .i64 0] 22 (0,0)) (by (with_reducible repeat (first|refine blk_drewN ?_ _|refine blk_drew ?_|refine blk_alloc ?_ _));refine blk_far ?_ NB117_118.out _;(with_reducible repeat (first|refine blk_drewN ?_ _|refine blk_drew ?_|refine blk_alloc ?_ _));exact BK117.out) hb);have n1_:=Aside0.mk (blk_below (g:=gb118) (o:=.cells #[.int .i64 t119,.int .i64 t121,.int .i64 0] 22 (0,0)) (by (with_reducible repeat (first|refine blk_drewN ?_ _|refine blk_drew ?_|refine blk_alloc ?_ _));refine blk_put (cs:=#[.int .i64 t119,.int .i64 0,.int .i64 0]) ?_ 1 _ rfl;(with_reducible repeat (first|refine blk_drewN ?_ _|refine blk_drew ?_|refine blk_alloc ?_ _));exact BK118.out) hb);have n2_:=Aside0.mk (below_step (by repeat (first|(with_reducible first|exact HB.out|apply below_alloc|apply pw_below_drewN|apply below_drew1|refine below_set ?_ GE117.out|refine below_set ?_ GE118.out)|exact HB.out)) hb);clear BK117;clear BK118;clear HB;have BK117:=n0_;have BK118:=n1_;have HB:=n2_;clear n0_ n1_ n2_;(try clear hb);(try clear hb2);(try clear hk);(try clear hi);have hcz13_0:w12.cell? ⟨gb118,0,none⟩=some (.int .i64 t119):=(blk_cell BK118.out 0).trans rfl;have hcz13_1:w12.cell? ⟨gb118,1,none⟩=some (.int .i64 t121):=(blk_cell BK118.out 1).trans rfl;have hcz13_2:w12.cell? ⟨gb118,2,none⟩=some (.int .i64 0):=(blk_cell BK118.out 2).trans rfl;have hfz13_0:=blk_frozen BK118.out 0;have hfz13_1:=blk_frozen BK118.out 1;have hfz13_2:=blk_frozen BK118.out 2;have hcz14_0:w12.cell? ⟨gb117,0,none⟩=some (.int .i64 0):=(blk_cell BK117.out 0).trans rfl;have hcz14_1:w12.cell? ⟨gb117,1,none⟩=some (.int .i64 0):=(blk_cell BK117.out 1).trans rfl;have hcz14_2:w12.cell? ⟨gb117,2,none⟩=some (.int .i64 0):=(blk_cell BK117.out 2).trans rfl;have hfz14_0:=blk_frozen BK117.out 0;have hfz14_1:=blk_frozen BK117.out 1;have hfz14_2:=blk_frozen BK117.out 2))
  try (refine wp_loop_rounds 4 ?_;repeat (rw [rounds_succ];go_wp2_with (first|((with_reducible refine gate_dst (N:=2) rfl ?_);refine box_event ?hg (N:=2) ?hd (cs:=#[.int .i64 0,.int .i64 0,.int .i64 0]) (t:=22) ?hr ?_;(case hd=>rfl);(case hg=>rfl);(case hr=>first|(go_simp;done)|(go_simp;rfl));intro gb117 hg w5 hbox hb;have n0_:=Aside0.mk (below_step (by repeat (first|(with_reducible first|exact HB.out|apply below_alloc|apply pw_below_drewN|apply below_drew1)|exact HB.out)) hb);have n1_:=Aside0.mk (hbox);have n2_:=Aside0.mk ((by rw [hg];exact(below_size (by repeat (first|(with_reducible first|exact HB.out|apply below_alloc|apply pw_below_drewN|apply below_drew1)|exact HB.out))):w.heap.size≤gb117));have n3_:=Aside0.mk ((by rw [hg];exact(below_size (by repeat (first|(with_reducible first|exact HB.out|apply below_alloc|apply pw_below_drewN|apply below_drew1)|exact HB.out))):w.heap.size≤gb117));clear HB;have HB:=n0_;have BK117:=n1_;have GW117:=n2_;have GE117:=n3_;clear n0_ n1_ n2_ n3_;clear hb hbox hg)|((with_reducible refine gate_dst (N:=4) rfl ?_);refine box_event ?hg (N:=4) ?hd (cs:=#[.int .i64 0,.int .i64 0,.int .i64 0]) (t:=22) ?hr ?_;(case hd=>rfl);(case hg=>rfl);(case hr=>first|(go_simp;done)|(go_simp;rfl));intro gb118 hg w6 hbox hb;have n0_:=Aside0.mk (blk_below (g:=gb117) (o:=.cells #[.int .i64 0,.int .i64 0,.int .i64 0] 22 (0,0)) (by (with_reducible repeat (first|refine blk_drewN ?_ _|refine blk_drew ?_|refine blk_alloc ?_ _));exact BK117.out) hb);have n1_:=Aside0.mk (below_step (by repeat (first|(with_reducible first|exact HB.out|apply below_alloc|apply pw_below_drewN|apply below_drew1|refine below_set ?_ GE117.out)|exact HB.out)) hb);have n2_:=Aside0.mk (hbox);have n3_:=Aside0.mk ((by rw [hg];exact(below_size (by repeat (first|(with_reducible first|exact HB.out|apply below_alloc|apply pw_below_drewN|apply below_drew1|refine below_set ?_ GE117.out)|exact HB.out))):w.heap.size≤gb118));have n4_:=Aside0.mk ((by rw [hg];exact(below_size (by repeat (first|(with_reducible first|exact HB.out|apply below_alloc|apply pw_below_drewN|apply below_drew1|refine below_set ?_ GE117.out)|exact HB.out))):w.heap.size≤gb118));have n5_:=Aside0.mk ((by rw [hg];exact Nat.ne_of_lt (blk_lt (g:=gb117) (o:=.cells #[.int .i64 0,.int .i64 0,.int .i64 0] 22 (0,0)) (by (with_reducible repeat (first|refine blk_drewN ?_ _|refine blk_drew ?_|refine blk_alloc ?_ _));exact BK117.out)):gb117≠gb118));have n6_:=Aside0.mk ((by rw [hg];exact Nat.ne_of_gt (blk_lt (g:=gb117) (o:=.cells #[.int .i64 0,.int .i64 0,.int .i64 0] 22 (0,0)) (by (with_reducible repeat (first|refine blk_drewN ?_ _|refine blk_drew ?_|refine blk_alloc ?_ _));exact BK117.out)):gb118≠gb117));clear BK117;clear HB;have BK117:=n0_;have HB:=n1_;have BK118:=n2_;have GW118:=n3_;have GE118:=n4_;have NB117_118:=n5_;have NB118_117:=n6_;clear n0_ n1_ n2_ n3_ n4_ n5_ n6_;clear hb hbox hg)|(go_at_fn g;refine calls_of_args (args':=pre++(#[.int .i64 0]++lb)) (by simp) ?_;refine(hF.out _ _ _ _ (by repeat (first|(with_reducible first|exact HB.out|apply below_alloc|apply pw_below_drewN|apply below_drew1|refine below_set ?_ GE117.out|refine below_set ?_ GE118.out)|exact HB.out)) A1.out).mono ?_;rintro e w7 ⟨rfl,hb⟩;have n0_:=Aside0.mk (blk_below (g:=gb117) (o:=.cells #[.int .i64 0,.int .i64 0,.int .i64 0] 22 (0,0)) (by (with_reducible repeat (first|refine blk_drewN ?_ _|refine blk_drew ?_|refine blk_alloc ?_ _));exact BK117.out) hb);have n1_:=Aside0.mk (blk_below (g:=gb118) (o:=.cells #[.int .i64 0,.int .i64 0,.int .i64 0] 22 (0,0)) (by (with_reducible repeat (first|refine blk_drewN ?_ _|refine blk_drew ?_|refine blk_alloc ?_ _));exact BK118.out) hb);have n2_:=Aside0.mk (below_step (by repeat (first|(with_reducible first|exact HB.out|apply below_alloc|apply pw_below_drewN|apply below_drew1|refine below_set ?_ GE117.out|refine below_set ?_ GE118.out)|exact HB.out)) hb);clear BK117;clear BK118;clear HB;have BK117:=n0_;have BK118:=n1_;have HB:=n2_;clear n0_ n1_ n2_;(try clear hb);(try clear hb2);(try clear hk);(try clear hi);have hnb8:=NB118_117.out;have hnc8:=NB117_118.out;have hcz9_0:w7.cell? ⟨gb118,0,none⟩=some (.int .i64 0):=(blk_cell BK118.out 0).trans rfl;have hcz9_1:w7.cell? ⟨gb118,1,none⟩=some (.int .i64 0):=(blk_cell BK118.out 1).trans rfl;have hcz9_2:w7.cell? ⟨gb118,2,none⟩=some (.int .i64 0):=(blk_cell BK118.out 2).trans rfl;have hfz9_0:=blk_frozen BK118.out 0;have hfz9_1:=blk_frozen BK118.out 1;have hfz9_2:=blk_frozen BK118.out 2)|(go_at_fn g;refine calls_of_args (args':=pre++(#[.int .i64 1]++lb)) (by simp) ?_;refine(hF.out _ _ _ _ (by repeat (first|(with_reducible first|exact HB.out|apply below_alloc|apply pw_below_drewN|apply below_drew1|refine below_set ?_ GE117.out|refine below_set ?_ GE118.out)|exact HB.out)) A2.out).mono ?_;rintro e w10 ⟨rfl,hb⟩;have n0_:=Aside0.mk (blk_below (g:=gb117) (o:=.cells #[.int .i64 0,.int .i64 0,.int .i64 0] 22 (0,0)) (by (with_reducible repeat (first|refine blk_drewN ?_ _|refine blk_drew ?_|refine blk_alloc ?_ _));refine blk_far ?_ NB117_118.out _;(with_reducible repeat (first|refine blk_drewN ?_ _|refine blk_drew ?_|refine blk_alloc ?_ _));exact BK117.out) hb);have n1_:=Aside0.mk (blk_below (g:=gb118) (o:=.cells #[.int .i64 t119,.int .i64 0,.int .i64 0] 22 (0,0)) (by (with_reducible repeat (first|refine blk_drewN ?_ _|refine blk_drew ?_|refine blk_alloc ?_ _));refine blk_put (cs:=#[.int .i64 0,.int .i64 0,.int .i64 0]) ?_ 0 _ rfl;(with_reducible repeat (first|refine blk_drewN ?_ _|refine blk_drew ?_|refine blk_alloc ?_ _));exact BK118.out) hb);have n2_:=Aside0.mk (below_step (by repeat (first|(with_reducible first|exact HB.out|apply below_alloc|apply pw_below_drewN|apply below_drew1|refine below_set ?_ GE117.out|refine below_set ?_ GE118.out)|exact HB.out)) hb);clear BK117;clear BK118;clear HB;have BK117:=n0_;have BK118:=n1_;have HB:=n2_;clear n0_ n1_ n2_;(try clear hb);(try clear hb2);(try clear hk);(try clear hi);have hcz11_0:w10.cell? ⟨gb118,0,none⟩=some (.int .i64 t119):=(blk_cell BK118.out 0).trans rfl;have hcz11_1:w10.cell? ⟨gb118,1,none⟩=some (.int .i64 0):=(blk_cell BK118.out 1).trans rfl;have hcz11_2:w10.cell? ⟨gb118,2,none⟩=some (.int .i64 0):=(blk_cell BK118.out 2).trans rfl;have hfz11_0:=blk_frozen BK118.out 0;have hfz11_1:=blk_frozen BK118.out 1;have hfz11_2:=blk_frozen BK118.out 2)|(go_at_fn g;refine calls_of_args (args':=pre++(#[.int .i64 2]++lb)) (by simp) ?_;refine(hF.out _ _ _ _ (by repeat (first|(with_reducible first|exact HB.out|apply below_alloc|apply pw_below_drewN|apply below_drew1|refine below_set ?_ GE117.out|refine below_set ?_ GE118.out)|exact HB.out)) A4.out).mono ?_;rintro e w12 ⟨rfl,hb⟩;have n0_:=Aside0.mk (blk_below (g:=gb117) (o:=.cells #[.int .i64 0,.int .i64 0,.int .i64 0] 22 (0,0)) (by (with_reducible repeat (first|refine blk_drewN ?_ _|refine blk_drew ?_|refine blk_alloc ?_ _));refine blk_far ?_ NB117_118.out _;(with_reducible repeat (first|refine blk_drewN ?_ _|refine blk_drew ?_|refine blk_alloc ?_ _));exact BK117.out) hb);have n1_:=Aside0.mk (blk_below (g:=gb118) (o:=.cells #[.int .i64 t119,.int .i64 t121,.int .i64 0] 22 (0,0)) (by (with_reducible repeat (first|refine blk_drewN ?_ _|refine blk_drew ?_|refine blk_alloc ?_ _));refine blk_put (cs:=#[.int .i64 t119,.int .i64 0,.int .i64 0]) ?_ 1 _ rfl;(with_reducible repeat (first|refine blk_drewN ?_ _|refine blk_drew ?_|refine blk_alloc ?_ _));exact BK118.out) hb);have n2_:=Aside0.mk (below_step (by repeat (first|(with_reducible first|exact HB.out|apply below_alloc|apply pw_below_drewN|apply below_drew1|refine below_set ?_ GE117.out|refine below_set ?_ GE118.out)|exact HB.out)) hb);clear BK117;clear BK118;clear HB;have BK117:=n0_;have BK118:=n1_;have HB:=n2_;clear n0_ n1_ n2_;(try clear hb);(try clear hb2);(try clear hk);(try clear hi);have hcz13_0:w12.cell? ⟨gb118,0,none⟩=some (.int .i64 t119):=(blk_cell BK118.out 0).trans rfl;have hcz13_1:w12.cell? ⟨gb118,1,none⟩=some (.int .i64 t121):=(blk_cell BK118.out 1).trans rfl;have hcz13_2:w12.cell? ⟨gb118,2,none⟩=some (.int .i64 0):=(blk_cell BK118.out 2).trans rfl;have hfz13_0:=blk_frozen BK118.out 0;have hfz13_1:=blk_frozen BK118.out 1;have hfz13_2:=blk_frozen BK118.out 2;have hcz14_0:w12.cell? ⟨gb117,0,none⟩=some (.int .i64 0):=(blk_cell BK117.out 0).trans rfl;have hcz14_1:w12.cell? ⟨gb117,1,none⟩=some (.int .i64 0):=(blk_cell BK117.out 1).trans rfl;have hcz14_2:w12.cell? ⟨gb117,2,none⟩=some (.int .i64 0):=(blk_cell BK117.out 2).trans rfl;have hfz14_0:=blk_frozen BK117.out 0;have hfz14_1:=blk_frozen BK117.out 1;have hfz14_2:=blk_frozen BK117.out 2))))
  refine bodyPost_ret (results_ct rfl _ _ gb117 22 #[.int .i64 t119,.int .i64 t121,.int .i64 t123] (0,0) _ rfl (by (with_reducible repeat (first|refine blk_drewN ?_ _|refine blk_drew ?_|refine blk_alloc ?_ _));refine blk_put (cs:=#[.int .i64 t119,.int .i64 t121,.int .i64 0]) ?_ 2 _ rfl;(with_reducible repeat (first|refine blk_drewN ?_ _|refine blk_drew ?_|refine blk_alloc ?_ _));refine blk_put (cs:=#[.int .i64 t119,.int .i64 0,.int .i64 0]) ?_ 1 _ rfl;(with_reducible repeat (first|refine blk_drewN ?_ _|refine blk_drew ?_|refine blk_alloc ?_ _));refine blk_put (cs:=#[.int .i64 0,.int .i64 0,.int .i64 0]) ?_ 0 _ rfl;(with_reducible repeat (first|refine blk_drewN ?_ _|refine blk_drew ?_|refine blk_alloc ?_ _));refine blk_far ?_ NB117_118.out _;(with_reducible repeat (first|refine blk_drewN ?_ _|refine blk_drew ?_|refine blk_alloc ?_ _));exact BK117.out) Try.underlying22 rfl (by kernel_rfl)) rfl ?_
  exact⟨by first|rfl|(simp [errW_none,errW_some]<;>rfl)|(simp [*,errW_none,errW_some]<;>rfl),by repeat (first|(with_reducible first|exact HB.out|apply below_alloc|apply pw_below_drewN|apply below_drew1|refine below_set ?_ GE117.out|refine below_set ?_ GE118.out)|exact HB.out)⟩
 ·replace c3:=Bool.eq_false_iff.mpr c3
  subst c3
  have H1:((F 2).bind fun bt125=>(if t122=true then (some (t119,t121,bt125.1,true)) else (some (t119,t121,bt125.1,bt125.2))))=some (r1,r2,r3,r4):=by rw [if_neg (show ¬(false=true) by decide)] at H;exact H
  clear H
  have H:=H1
  clear H1
  replace H:=Option.bind_eq_some_iff.mp H
  obtain⟨⟨t125,t126⟩,A150,H⟩:=H
  replace H:(if t122=true then (some (t119,t121,t125,true)) else (some (t119,t121,t125,t126)))=some (r1,r2,r3,r4):=H
  have A15:=Aside0.mk A150
  clear A150
  by_cases c16:t122=true
  ·subst c16
   have H1:(some (t119,t121,t125,true))=some (r1,r2,r3,r4):=by rw [if_pos rfl] at H;exact H
   clear H
   have H:=H1
   clear H1
   simp only [Option.some.injEq,Prod.mk.injEq] at H
   obtain⟨rfl,rfl,rfl,rfl⟩:=H
   go_enter Try.func40,Try.ntmps40
   go_wp2_with (first|((with_reducible refine gate_dst (N:=2) rfl ?_);refine box_event ?hg (N:=2) ?hd (cs:=#[.int .i64 0,.int .i64 0,.int .i64 0]) (t:=22) ?hr ?_;(case hd=>rfl);(case hg=>rfl);(case hr=>first|(go_simp;done)|(go_simp;rfl));intro gb117 hg w17 hbox hb;have n0_:=Aside0.mk (below_step (by repeat (first|(with_reducible first|exact HB.out|apply below_alloc|apply pw_below_drewN|apply below_drew1)|exact HB.out)) hb);have n1_:=Aside0.mk (hbox);have n2_:=Aside0.mk ((by rw [hg];exact(below_size (by repeat (first|(with_reducible first|exact HB.out|apply below_alloc|apply pw_below_drewN|apply below_drew1)|exact HB.out))):w.heap.size≤gb117));have n3_:=Aside0.mk ((by rw [hg];exact(below_size (by repeat (first|(with_reducible first|exact HB.out|apply below_alloc|apply pw_below_drewN|apply below_drew1)|exact HB.out))):w.heap.size≤gb117));clear HB;have HB:=n0_;have BK117:=n1_;have GW117:=n2_;have GE117:=n3_;clear n0_ n1_ n2_ n3_;clear hb hbox hg)|((with_reducible refine gate_dst (N:=4) rfl ?_);refine box_event ?hg (N:=4) ?hd (cs:=#[.int .i64 0,.int .i64 0,.int .i64 0]) (t:=22) ?hr ?_;(case hd=>rfl);(case hg=>rfl);(case hr=>first|(go_simp;done)|(go_simp;rfl));intro gb118 hg w18 hbox hb;have n0_:=Aside0.mk (blk_below (g:=gb117) (o:=.cells #[.int .i64 0,.int .i64 0,.int .i64 0] 22 (0,0)) (by (with_reducible repeat (first|refine blk_drewN ?_ _|refine blk_drew ?_|refine blk_alloc ?_ _));exact BK117.out) hb);have n1_:=Aside0.mk (below_step (by repeat (first|(with_reducible first|exact HB.out|apply below_alloc|apply pw_below_drewN|apply below_drew1|refine below_set ?_ GE117.out)|exact HB.out)) hb);have n2_:=Aside0.mk (hbox);have n3_:=Aside0.mk ((by rw [hg];exact(below_size (by repeat (first|(with_reducible first|exact HB.out|apply below_alloc|apply pw_below_drewN|apply below_drew1|refine below_set ?_ GE117.out)|exact HB.out))):w.heap.size≤gb118));have n4_:=Aside0.mk ((by rw [hg];exact(below_size (by repeat (first|(with_reducible first|exact HB.out|apply below_alloc|apply pw_below_drewN|apply below_drew1|refine below_set ?_ GE117.out)|exact HB.out))):w.heap.size≤gb118));have n5_:=Aside0.mk ((by rw [hg];exact Nat.ne_of_lt (blk_lt (g:=gb117) (o:=.cells #[.int .i64 0,.int .i64 0,.int .i64 0] 22 (0,0)) (by (with_reducible repeat (first|refine blk_drewN ?_ _|refine blk_drew ?_|refine blk_alloc ?_ _));exact BK117.out)):gb117≠gb118));have n6_:=Aside0.mk ((by rw [hg];exact Nat.ne_of_gt (blk_lt (g:=gb117) (o:=.cells #[.int .i64 0,.int .i64 0,.int .i64 0] 22 (0,0)) (by (with_reducible repeat (first|refine blk_drewN ?_ _|refine blk_drew ?_|refine blk_alloc ?_ _));exact BK117.out)):gb118≠gb117));clear BK117;clear HB;have BK117:=n0_;have HB:=n1_;have BK118:=n2_;have GW118:=n3_;have GE118:=n4_;have NB117_118:=n5_;have NB118_117:=n6_;clear n0_ n1_ n2_ n3_ n4_ n5_ n6_;clear hb hbox hg)|(go_at_fn g;refine calls_of_args (args':=pre++(#[.int .i64 0]++lb)) (by simp) ?_;refine(hF.out _ _ _ _ (by repeat (first|(with_reducible first|exact HB.out|apply below_alloc|apply pw_below_drewN|apply below_drew1|refine below_set ?_ GE117.out|refine below_set ?_ GE118.out)|exact HB.out)) A1.out).mono ?_;rintro e w19 ⟨rfl,hb⟩;have n0_:=Aside0.mk (blk_below (g:=gb117) (o:=.cells #[.int .i64 0,.int .i64 0,.int .i64 0] 22 (0,0)) (by (with_reducible repeat (first|refine blk_drewN ?_ _|refine blk_drew ?_|refine blk_alloc ?_ _));exact BK117.out) hb);have n1_:=Aside0.mk (blk_below (g:=gb118) (o:=.cells #[.int .i64 0,.int .i64 0,.int .i64 0] 22 (0,0)) (by (with_reducible repeat (first|refine blk_drewN ?_ _|refine blk_drew ?_|refine blk_alloc ?_ _));exact BK118.out) hb);have n2_:=Aside0.mk (below_step (by repeat (first|(with_reducible first|exact HB.out|apply below_alloc|apply pw_below_drewN|apply below_drew1|refine below_set ?_ GE117.out|refine below_set ?_ GE118.out)|exact HB.out)) hb);clear BK117;clear BK118;clear HB;have BK117:=n0_;have BK118:=n1_;have HB:=n2_;clear n0_ n1_ n2_;(try clear hb);(try clear hb2);(try clear hk);(try clear hi);have hnb20:=NB118_117.out;have hnc20:=NB117_118.out;have hcz21_0:w19.cell? ⟨gb118,0,none⟩=some (.int .i64 0):=(blk_cell BK118.out 0).trans rfl;have hcz21_1:w19.cell? ⟨gb118,1,none⟩=some (.int .i64 0):=(blk_cell BK118.out 1).trans rfl;have hcz21_2:w19.cell? ⟨gb118,2,none⟩=some (.int .i64 0):=(blk_cell BK118.out 2).trans rfl;have hfz21_0:=blk_frozen BK118.out 0;have hfz21_1:=blk_frozen BK118.out 1;have hfz21_2:=blk_frozen BK118.out 2)|(go_at_fn g;refine calls_of_args (args':=pre++(#[.int .i64 1]++lb)) (by simp) ?_;refine(hF.out _ _ _ _ (by repeat (first|(with_reducible first|exact HB.out|apply below_alloc|apply pw_below_drewN|apply below_drew1|refine below_set ?_ GE117.out|refine below_set ?_ GE118.out)|exact HB.out)) A2.out).mono ?_;rintro e w22 ⟨rfl,hb⟩;have n0_:=Aside0.mk (blk_below (g:=gb117) (o:=.cells #[.int .i64 0,.int .i64 0,.int .i64 0] 22 (0,0)) (by (with_reducible repeat (first|refine blk_drewN ?_ _|refine blk_drew ?_|refine blk_alloc ?_ _));refine blk_far ?_ NB117_118.out _;(with_reducible repeat (first|refine blk_drewN ?_ _|refine blk_drew ?_|refine blk_alloc ?_ _));exact BK117.out) hb);have n1_:=Aside0.mk (blk_below (g:=gb118) (o:=.cells #[.int .i64 t119,.int .i64 0,.int .i64 0] 22 (0,0)) (by (with_reducible repeat (first|refine blk_drewN ?_ _|refine blk_drew ?_|refine blk_alloc ?_ _));refine blk_put (cs:=#[.int .i64 0,.int .i64 0,.int .i64 0]) ?_ 0 _ rfl;(with_reducible repeat (first|refine blk_drewN ?_ _|refine blk_drew ?_|refine blk_alloc ?_ _));exact BK118.out) hb);have n2_:=Aside0.mk (below_step (by repeat (first|(with_reducible first|exact HB.out|apply below_alloc|apply pw_below_drewN|apply below_drew1|refine below_set ?_ GE117.out|refine below_set ?_ GE118.out)|exact HB.out)) hb);clear BK117;clear BK118;clear HB;have BK117:=n0_;have BK118:=n1_;have HB:=n2_;clear n0_ n1_ n2_;(try clear hb);(try clear hb2);(try clear hk);(try clear hi);have hcz23_0:w22.cell? ⟨gb118,0,none⟩=some (.int .i64 t119):=(blk_cell BK118.out 0).trans rfl;have hcz23_1:w22.cell? ⟨gb118,1,none⟩=some (.int .i64 0):=(blk_cell BK118.out 1).trans rfl;have hcz23_2:w22.cell? ⟨gb118,2,none⟩=some (.int .i64 0):=(blk_cell BK118.out 2).trans rfl;have hfz23_0:=blk_frozen BK118.out 0;have hfz23_1:=blk_frozen BK118.out 1;have hfz23_2:=blk_frozen BK118.out 2)|(go_at_fn g;refine calls_of_args (args':=pre++(#[.int .i64 2]++lb)) (by simp) ?_;refine(hF.out _ _ _ _ (by repeat (first|(with_reducible first|exact HB.out|apply below_alloc|apply pw_below_drewN|apply below_drew1|refine below_set ?_ GE117.out|refine below_set ?_ GE118.out)|exact HB.out)) A15.out).mono ?_;rintro e w24 ⟨rfl,hb⟩;have n0_:=Aside0.mk (blk_below (g:=gb117) (o:=.cells #[.int .i64 0,.int .i64 0,.int .i64 0] 22 (0,0)) (by (with_reducible repeat (first|refine blk_drewN ?_ _|refine blk_drew ?_|refine blk_alloc ?_ _));refine blk_far ?_ NB117_118.out _;(with_reducible repeat (first|refine blk_drewN ?_ _|refine blk_drew ?_|refine blk_alloc ?_ _));exact BK117.out) hb);have n1_:=Aside0.mk (blk_below (g:=gb118) (o:=.cells #[.int .i64 t119,.int .i64 t121,.int .i64 0] 22 (0,0)) (by (with_reducible repeat (first|refine blk_drewN ?_ _|refine blk_drew ?_|refine blk_alloc ?_ _));refine blk_put (cs:=#[.int .i64 t119,.int .i64 0,.int .i64 0]) ?_ 1 _ rfl;(with_reducible repeat (first|refine blk_drewN ?_ _|refine blk_drew ?_|refine blk_alloc ?_ _));exact BK118.out) hb);have n2_:=Aside0.mk (below_step (by repeat (first|(with_reducible first|exact HB.out|apply below_alloc|apply pw_below_drewN|apply below_drew1|refine below_set ?_ GE117.out|refine below_set ?_ GE118.out)|exact HB.out)) hb);clear BK117;clear BK118;clear HB;have BK117:=n0_;have BK118:=n1_;have HB:=n2_;clear n0_ n1_ n2_;(try clear hb);(try clear hb2);(try clear hk);(try clear hi);have hcz25_0:w24.cell? ⟨gb118,0,none⟩=some (.int .i64 t119):=(blk_cell BK118.out 0).trans rfl;have hcz25_1:w24.cell? ⟨gb118,1,none⟩=some (.int .i64 t121):=(blk_cell BK118.out 1).trans rfl;have hcz25_2:w24.cell? ⟨gb118,2,none⟩=some (.int .i64 0):=(blk_cell BK118.out 2).trans rfl;have hfz25_0:=blk_frozen BK118.out 0;have hfz25_1:=blk_frozen BK118.out 1;have hfz25_2:=blk_frozen BK118.out 2;have hcz26_0:w24.cell? ⟨gb117,0,none⟩=some (.int .i64 0):=(blk_cell BK117.out 0).trans rfl;have hcz26_1:w24.cell? ⟨gb117,1,none⟩=some (.int .i64 0):=(blk_cell BK117.out 1).trans rfl;have hcz26_2:w24.cell? ⟨gb117,2,none⟩=some (.int .i64 0):=(blk_cell BK117.out 2).trans rfl;have hfz26_0:=blk_frozen BK117.out 0;have hfz26_1:=blk_frozen BK117.out 1;have hfz26_2:=blk_frozen BK117.out 2))
   try (refine wp_loop_rounds 4 ?_;repeat (rw [rounds_succ];go_wp2_with (first|((with_reducible refine gate_dst (N:=2) rfl ?_);refine box_event ?hg (N:=2) ?hd (cs:=#[.int .i64 0,.int .i64 0,.int .i64 0]) (t:=22) ?hr ?_;(case hd=>rfl);(case hg=>rfl);(case hr=>first|(go_simp;done)|(go_simp;rfl));intro gb117 hg w17 hbox hb;have n0_:=Aside0.mk (below_step (by repeat (first|(with_reducible first|exact HB.out|apply below_alloc|apply pw_below_drewN|apply below_drew1)|exact HB.out)) hb);have n1_:=Aside0.mk (hbox);have n2_:=Aside0.mk ((by rw [hg];exact(below_size (by repeat (first|(with_reducible first|exact HB.out|apply below_alloc|apply pw_below_drewN|apply below_drew1)|exact HB.out))):w.heap.size≤gb117));have n3_:=Aside0.mk ((by rw [hg];exact(below_size (by repeat (first|(with_reducible first|exact HB.out|apply below_alloc|apply pw_below_drewN|apply below_drew1)|exact HB.out))):w.heap.size≤gb117));clear HB;have HB:=n0_;have BK117:=n1_;have GW117:=n2_;have GE117:=n3_;clear n0_ n1_ n2_ n3_;clear hb hbox hg)|((with_reducible refine gate_dst (N:=4) rfl ?_);refine box_event ?hg (N:=4) ?hd (cs:=#[.int .i64 0,.int .i64 0,.int .i64 0]) (t:=22) ?hr ?_;(case hd=>rfl);(case hg=>rfl);(case hr=>first|(go_simp;done)|(go_simp;rfl));intro gb118 hg w18 hbox hb;have n0_:=Aside0.mk (blk_below (g:=gb117) (o:=.cells #[.int .i64 0,.int .i64 0,.int .i64 0] 22 (0,0)) (by (with_reducible repeat (first|refine blk_drewN ?_ _|refine blk_drew ?_|refine blk_alloc ?_ _));exact BK117.out) hb);have n1_:=Aside0.mk (below_step (by repeat (first|(with_reducible first|exact HB.out|apply below_alloc|apply pw_below_drewN|apply below_drew1|refine below_set ?_ GE117.out)|exact HB.out)) hb);have n2_:=Aside0.mk (hbox);have n3_:=Aside0.mk ((by rw [hg];exact(below_size (by repeat (first|(with_reducible first|exact HB.out|apply below_alloc|apply pw_below_drewN|apply below_drew1|refine below_set ?_ GE117.out)|exact HB.out))):w.heap.size≤gb118));have n4_:=Aside0.mk ((by rw [hg];exact(below_size (by repeat (first|(with_reducible first|exact HB.out|apply below_alloc|apply pw_below_drewN|apply below_drew1|refine below_set ?_ GE117.out)|exact HB.out))):w.heap.size≤gb118));have n5_:=Aside0.mk ((by rw [hg];exact Nat.ne_of_lt (blk_lt (g:=gb117) (o:=.cells #[.int .i64 0,.int .i64 0,.int .i64 0] 22 (0,0)) (by (with_reducible repeat (first|refine blk_drewN ?_ _|refine blk_drew ?_|refine blk_alloc ?_ _));exact BK117.out)):gb117≠gb118));have n6_:=Aside0.mk ((by rw [hg];exact Nat.ne_of_gt (blk_lt (g:=gb117) (o:=.cells #[.int .i64 0,.int .i64 0,.int .i64 0] 22 (0,0)) (by (with_reducible repeat (first|refine blk_drewN ?_ _|refine blk_drew ?_|refine blk_alloc ?_ _));exact BK117.out)):gb118≠gb117));clear BK117;clear HB;have BK117:=n0_;have HB:=n1_;have BK118:=n2_;have GW118:=n3_;have GE118:=n4_;have NB117_118:=n5_;have NB118_117:=n6_;clear n0_ n1_ n2_ n3_ n4_ n5_ n6_;clear hb hbox hg)|(go_at_fn g;refine calls_of_args (args':=pre++(#[.int .i64 0]++lb)) (by simp) ?_;refine(hF.out _ _ _ _ (by repeat (first|(with_reducible first|exact HB.out|apply below_alloc|apply pw_below_drewN|apply below_drew1|refine below_set ?_ GE117.out|refine below_set ?_ GE118.out)|exact HB.out)) A1.out).mono ?_;rintro e w19 ⟨rfl,hb⟩;have n0_:=Aside0.mk (blk_below (g:=gb117) (o:=.cells #[.int .i64 0,.int .i64 0,.int .i64 0] 22 (0,0)) (by (with_reducible repeat (first|refine blk_drewN ?_ _|refine blk_drew ?_|refine blk_alloc ?_ _));exact BK117.out) hb);have n1_:=Aside0.mk (blk_below (g:=gb118) (o:=.cells #[.int .i64 0,.int .i64 0,.int .i64 0] 22 (0,0)) (by (with_reducible repeat (first|refine blk_drewN ?_ _|refine blk_drew ?_|refine blk_alloc ?_ _));exact BK118.out) hb);have n2_:=Aside0.mk (below_step (by repeat (first|(with_reducible first|exact HB.out|apply below_alloc|apply pw_below_drewN|apply below_drew1|refine below_set ?_ GE117.out|refine below_set ?_ GE118.out)|exact HB.out)) hb);clear BK117;clear BK118;clear HB;have BK117:=n0_;have BK118:=n1_;have HB:=n2_;clear n0_ n1_ n2_;(try clear hb);(try clear hb2);(try clear hk);(try clear hi);have hnb20:=NB118_117.out;have hnc20:=NB117_118.out;have hcz21_0:w19.cell? ⟨gb118,0,none⟩=some (.int .i64 0):=(blk_cell BK118.out 0).trans rfl;have hcz21_1:w19.cell? ⟨gb118,1,none⟩=some (.int .i64 0):=(blk_cell BK118.out 1).trans rfl;have hcz21_2:w19.cell? ⟨gb118,2,none⟩=some (.int .i64 0):=(blk_cell BK118.out 2).trans rfl;have hfz21_0:=blk_frozen BK118.out 0;have hfz21_1:=blk_frozen BK118.out 1;have hfz21_2:=blk_frozen BK118.out 2)|(go_at_fn g;refine calls_of_args (args':=pre++(#[.int .i64 1]++lb)) (by simp) ?_;refine(hF.out _ _ _ _ (by repeat (first|(with_reducible first|exact HB.out|apply below_alloc|apply pw_below_drewN|apply below_drew1|refine below_set ?_ GE117.out|refine below_set ?_ GE118.out)|exact HB.out)) A2.out).mono ?_;rintro e w22 ⟨rfl,hb⟩;have n0_:=Aside0.mk (blk_below (g:=gb117) (o:=.cells #[.int .i64 0,.int .i64 0,.int .i64 0] 22 (0,0)) (by (with_reducible repeat (first|refine blk_drewN ?_ _|refine blk_drew ?_|refine blk_alloc ?_ _));refine blk_far ?_ NB117_118.out _;(with_reducible repeat (first|refine blk_drewN ?_ _|refine blk_drew ?_|refine blk_alloc ?_ _));exact BK117.out) hb);have n1_:=Aside0.mk (blk_below (g:=gb118) (o:=.cells #[.int .i64 t119,.int .i64 0,.int .i64 0] 22 (0,0)) (by (with_reducible repeat (first|refine blk_drewN ?_ _|refine blk_drew ?_|refine blk_alloc ?_ _));refine blk_put (cs:=#[.int .i64 0,.int .i64 0,.int .i64 0]) ?_ 0 _ rfl;(with_reducible repeat (first|refine blk_drewN ?_ _|refine blk_drew ?_|refine blk_alloc ?_ _));exact BK118.out) hb);have n2_:=Aside0.mk (below_step (by repeat (first|(with_reducible first|exact HB.out|apply below_alloc|apply pw_below_drewN|apply below_drew1|refine below_set ?_ GE117.out|refine below_set ?_ GE118.out)|exact HB.out)) hb);clear BK117;clear BK118;clear HB;have BK117:=n0_;have BK118:=n1_;have HB:=n2_;clear n0_ n1_ n2_;(try clear hb);(try clear hb2);(try clear hk);(try clear hi);have hcz23_0:w22.cell? ⟨gb118,0,none⟩=some (.int .i64 t119):=(blk_cell BK118.out 0).trans rfl;have hcz23_1:w22.cell? ⟨gb118,1,none⟩=some (.int .i64 0):=(blk_cell BK118.out 1).trans rfl;have hcz23_2:w22.cell? ⟨gb118,2,none⟩=some (.int .i64 0):=(blk_cell BK118.out 2).trans rfl;have hfz23_0:=blk_frozen BK118.out 0;have hfz23_1:=blk_frozen BK118.out 1;have hfz23_2:=blk_frozen BK118.out 2)|(go_at_fn g;refine calls_of_args (args':=pre++(#[.int .i64 2]++lb)) (by simp) ?_;refine(hF.out _ _ _ _ (by repeat (first|(with_reducible first|exact HB.out|apply below_alloc|apply pw_below_drewN|apply below_drew1|refine below_set ?_ GE117.out|refine below_set ?_ GE118.out)|exact HB.out)) A15.out).mono ?_;rintro e w24 ⟨rfl,hb⟩;have n0_:=Aside0.mk (blk_below (g:=gb117) (o:=.cells #[.int .i64 0,.int .i64 0,.int .i64 0] 22 (0,0)) (by (with_reducible repeat (first|refine blk_drewN ?_ _|refine blk_drew ?_|refine blk_alloc ?_ _));refine blk_far ?_ NB117_118.out _;(with_reducible repeat (first|refine blk_drewN ?_ _|refine blk_drew ?_|refine blk_alloc ?_ _));exact BK117.out) hb);have n1_:=Aside0.mk (blk_below (g:=gb118) (o:=.cells #[.int .i64 t119,.int .i64 t121,.int .i64 0] 22 (0,0)) (by (with_reducible repeat (first|refine blk_drewN ?_ _|refine blk_drew ?_|refine blk_alloc ?_ _));refine blk_put (cs:=#[.int .i64 t119,.int .i64 0,.int .i64 0]) ?_ 1 _ rfl;(with_reducible repeat (first|refine blk_drewN ?_ _|refine blk_drew ?_|refine blk_alloc ?_ _));exact BK118.out) hb);have n2_:=Aside0.mk (below_step (by repeat (first|(with_reducible first|exact HB.out|apply below_alloc|apply pw_below_drewN|apply below_drew1|refine below_set ?_ GE117.out|refine below_set ?_ GE118.out)|exact HB.out)) hb);clear BK117;clear BK118;clear HB;have BK117:=n0_;have BK118:=n1_;have HB:=n2_;clear n0_ n1_ n2_;(try clear hb);(try clear hb2);(try clear hk);(try clear hi);have hcz25_0:w24.cell? ⟨gb118,0,none⟩=some (.int .i64 t119):=(blk_cell BK118.out 0).trans rfl;have hcz25_1:w24.cell? ⟨gb118,1,none⟩=some (.int .i64 t121):=(blk_cell BK118.out 1).trans rfl;have hcz25_2:w24.cell? ⟨gb118,2,none⟩=some (.int .i64 0):=(blk_cell BK118.out 2).trans rfl;have hfz25_0:=blk_frozen BK118.out 0;have hfz25_1:=blk_frozen BK118.out 1;have hfz25_2:=blk_frozen BK118.out 2;have hcz26_0:w24.cell? ⟨gb117,0,none⟩=some (.int .i64 0):=(blk_cell BK117.out 0).trans rfl;have hcz26_1:w24.cell? ⟨gb117,1,none⟩=some (.int .i64 0):=(blk_cell BK117.out 1).trans rfl;have hcz26_2:w24.cell? ⟨gb117,2,none⟩=some (.int .i64 0):=(blk_cell BK117.out 2).trans rfl;have hfz26_0:=blk_frozen BK117.out 0;have hfz26_1:=blk_frozen BK117.out 1;have hfz26_2:=blk_frozen BK117.out 2))))
   refine bodyPost_ret (results_ct rfl _ _ gb117 22 #[.int .i64 t119,.int .i64 t121,.int .i64 t125] (0,0) _ rfl (by (with_reducible repeat (first|refine blk_drewN ?_ _|refine blk_drew ?_|refine blk_alloc ?_ _));refine blk_put (cs:=#[.int .i64 t119,.int .i64 t121,.int .i64 0]) ?_ 2 _ rfl;(with_reducible repeat (first|refine blk_drewN ?_ _|refine blk_drew ?_|refine blk_alloc ?_ _));refine blk_put (cs:=#[.int .i64 t119,.int .i64 0,.int .i64 0]) ?_ 1 _ rfl;(with_reducible repeat (first|refine blk_drewN ?_ _|refine blk_drew ?_|refine blk_alloc ?_ _));refine blk_put (cs:=#[.int .i64 0,.int .i64 0,.int .i64 0]) ?_ 0 _ rfl;(with_reducible repeat (first|refine blk_drewN ?_ _|refine blk_drew ?_|refine blk_alloc ?_ _));refine blk_far ?_ NB117_118.out _;(with_reducible repeat (first|refine blk_drewN ?_ _|refine blk_drew ?_|refine blk_alloc ?_ _));exact BK117.out) Try.underlying22 rfl (by kernel_rfl)) rfl ?_
   exact⟨by first|rfl|(simp [errW_none,errW_some]<;>rfl)|(simp [*,errW_none,errW_some]<;>rfl),by repeat (first|(with_reducible first|exact HB.out|apply below_alloc|apply pw_below_drewN|apply below_drew1|refine below_set ?_ GE117.out|refine below_set ?_ GE118.out)|exact HB.out)⟩
  ·replace c16:=Bool.eq_false_iff.mpr c16
   subst c16
   have H1:(some (t119,t121,t125,t126))=some (r1,r2,r3,r4):=by rw [if_neg (show ¬(false=true) by decide)] at H;exact H
   clear H
   have H:=H1
   clear H1
   simp only [Option.some.injEq,Prod.mk.injEq] at H
   obtain⟨rfl,rfl,rfl,rfl⟩:=H
   go_enter Try.func40,Try.ntmps40
   go_wp2_with (first|((with_reducible refine gate_dst (N:=2) rfl ?_);refine box_event ?hg (N:=2) ?hd (cs:=#[.int .i64 0,.int .i64 0,.int .i64 0]) (t:=22) ?hr ?_;(case hd=>rfl);(case hg=>rfl);(case hr=>first|(go_simp;done)|(go_simp;rfl));intro gb117 hg w27 hbox hb;have n0_:=Aside0.mk (below_step (by repeat (first|(with_reducible first|exact HB.out|apply below_alloc|apply pw_below_drewN|apply below_drew1)|exact HB.out)) hb);have n1_:=Aside0.mk (hbox);have n2_:=Aside0.mk ((by rw [hg];exact(below_size (by repeat (first|(with_reducible first|exact HB.out|apply below_alloc|apply pw_below_drewN|apply below_drew1)|exact HB.out))):w.heap.size≤gb117));have n3_:=Aside0.mk ((by rw [hg];exact(below_size (by repeat (first|(with_reducible first|exact HB.out|apply below_alloc|apply pw_below_drewN|apply below_drew1)|exact HB.out))):w.heap.size≤gb117));clear HB;have HB:=n0_;have BK117:=n1_;have GW117:=n2_;have GE117:=n3_;clear n0_ n1_ n2_ n3_;clear hb hbox hg)|((with_reducible refine gate_dst (N:=4) rfl ?_);refine box_event ?hg (N:=4) ?hd (cs:=#[.int .i64 0,.int .i64 0,.int .i64 0]) (t:=22) ?hr ?_;(case hd=>rfl);(case hg=>rfl);(case hr=>first|(go_simp;done)|(go_simp;rfl));intro gb118 hg w28 hbox hb;have n0_:=Aside0.mk (blk_below (g:=gb117) (o:=.cells #[.int .i64 0,.int .i64 0,.int .i64 0] 22 (0,0)) (by (with_reducible repeat (first|refine blk_drewN ?_ _|refine blk_drew ?_|refine blk_alloc ?_ _));exact BK117.out) hb);have n1_:=Aside0.mk (below_step (by repeat (first|(with_reducible first|exact HB.out|apply below_alloc|apply pw_below_drewN|apply below_drew1|refine below_set ?_ GE117.out)|exact HB.out)) hb);have n2_:=Aside0.mk (hbox);have n3_:=Aside0.mk ((by rw [hg];exact(below_size (by repeat (first|(with_reducible first|exact HB.out|apply below_alloc|apply pw_below_drewN|apply below_drew1|refine below_set ?_ GE117.out)|exact HB.out))):w.heap.size≤gb118));have n4_:=Aside0.mk ((by rw [hg];exact(below_size (by repeat (first|(with_reducible first|exact HB.out|apply below_alloc|apply pw_below_drewN|apply below_drew1|refine below_set ?_ GE117.out)|exact HB.out))):w.heap.size≤gb118));have n5_:=Aside0.mk ((by rw [hg];exact Nat.ne_of_lt (blk_lt (g:=gb117) (o:=.cells #[.int .i64 0,.int .i64 0,.int .i64 0] 22 (0,0)) (by (with_reducible repeat (first|refine blk_drewN ?_ _|refine blk_drew ?_|refine blk_alloc ?_ _));exact BK117.out)):gb117≠gb118));have n6_:=Aside0.mk ((by rw [hg];exact Nat.ne_of_gt (blk_lt (g:=gb117) (o:=.cells #[.int .i64 0,.int .i64 0,.int .i64 0] 22 (0,0)) (by (with_reducible repeat (first|refine blk_drewN ?_ _|refine blk_drew ?_|refine blk_alloc ?_ _));exact BK117.out)):gb118≠gb117));clear BK117;clear HB;have BK117:=n0_;have HB:=n1_;have BK118:=n2_;have GW118:=n3_;have GE118:=n4_;have NB117_118:=n5_;have NB118_117:=n6_;clear n0_ n1_ n2_ n3_ n4_ n5_ n6_;clear hb hbox hg)|(go_at_fn g;refine calls_of_args (args':=pre++(#[.int .i64 0]++lb)) (by simp) ?_;refine(hF.out _ _ _ _ (by repeat (first|(with_reducible first|exact HB.out|apply below_alloc|apply pw_below_drewN|apply below_drew1|refine below_set ?_ GE117.out|refine below_set ?_ GE118.out)|exact HB.out)) A1.out).mono ?_;rintro e w29 ⟨rfl,hb⟩;have n0_:=Aside0.mk (blk_below (g:=gb117) (o:=.cells #[.int .i64 0,.int .i64 0,.int .i64 0] 22 (0,0)) (by (with_reducible repeat (first|refine blk_drewN ?_ _|refine blk_drew ?_|refine blk_alloc ?_ _));exact BK117.out) hb);have n1_:=Aside0.mk (blk_below (g:=gb118) (o:=.cells #[.int .i64 0,.int .i64 0,.int .i64 0] 22 (0,0)) (by (with_reducible repeat (first|refine blk_drewN ?_ _|refine blk_drew ?_|refine blk_alloc ?_ _));exact BK118.out) hb);have n2_:=Aside0.mk (below_step (by repeat (first|(with_reducible first|exact HB.out|apply below_alloc|apply pw_below_drewN|apply below_drew1|refine below_set ?_ GE117.out|refine below_set ?_ GE118.out)|exact HB.out)) hb);clear BK117;clear BK118;clear HB;have BK117:=n0_;have BK118:=n1_;have HB:=n2_;clear n0_ n1_ n2_;(try clear hb);(try clear hb2);(try clear hk);(try clear hi);have hnb30:=NB118_117.out;have hnc30:=NB117_118.out;have hcz31_0:w29.cell? ⟨gb118,0,none⟩=some (.int .i64 0):=(blk_cell BK118.out 0).trans rfl;have hcz31_1:w29.cell? ⟨gb118,1,none⟩=some (.int .i64 0):=(blk_cell BK118.out 1).trans rfl;have hcz31_2:w29.cell? ⟨gb118,2,none⟩=some (.int .i64 0):=(blk_cell BK118.out 2).trans rfl;have hfz31_0:=blk_frozen BK118.out 0;have hfz31_1:=blk_frozen BK118.out 1;have hfz31_2:=blk_frozen BK118.out 2)|(go_at_fn g;refine calls_of_args (args':=pre++(#[.int .i64 1]++lb)) (by simp) ?_;refine(hF.out _ _ _ _ (by repeat (first|(with_reducible first|exact HB.out|apply below_alloc|apply pw_below_drewN|apply below_drew1|refine below_set ?_ GE117.out|refine below_set ?_ GE118.out)|exact HB.out)) A2.out).mono ?_;rintro e w32 ⟨rfl,hb⟩;have n0_:=Aside0.mk (blk_below (g:=gb117) (o:=.cells #[.int .i64 0,.int .i64 0,.int .i64 0] 22 (0,0)) (by (with_reducible repeat (first|refine blk_drewN ?_ _|refine blk_drew ?_|refine blk_alloc ?_ _));refine blk_far ?_ NB117_118.out _;(with_reducible repeat (first|refine blk_drewN ?_ _|refine blk_drew ?_|refine blk_alloc ?_ _));exact BK117.out) hb);have n1_:=Aside0.mk (blk_below (g:=gb118) (o:=.cells #[.int .i64 t119,.int .i64 0,.int .i64 0] 22 (0,0)) (by (with_reducible repeat (first|refine blk_drewN ?_ _|refine blk_drew ?_|refine blk_alloc ?_ _));refine blk_put (cs:=#[.int .i64 0,.int .i64 0,.int .i64 0]) ?_ 0 _ rfl;(with_reducible repeat (first|refine blk_drewN ?_ _|refine blk_drew ?_|refine blk_alloc ?_ _));exact BK118.out) hb);have n2_:=Aside0.mk (below_step (by repeat (first|(with_reducible first|exact HB.out|apply below_alloc|apply pw_below_drewN|apply below_drew1|refine below_set ?_ GE117.out|refine below_set ?_ GE118.out)|exact HB.out)) hb);clear BK117;clear BK118;clear HB;have BK117:=n0_;have BK118:=n1_;have HB:=n2_;clear n0_ n1_ n2_;(try clear hb);(try clear hb2);(try clear hk);(try clear hi);have hcz33_0:w32.cell? ⟨gb118,0,none⟩=some (.int .i64 t119):=(blk_cell BK118.out 0).trans rfl;have hcz33_1:w32.cell? ⟨gb118,1,none⟩=some (.int .i64 0):=(blk_cell BK118.out 1).trans rfl;have hcz33_2:w32.cell? ⟨gb118,2,none⟩=some (.int .i64 0):=(blk_cell BK118.out 2).trans rfl;have hfz33_0:=blk_frozen BK118.out 0;have hfz33_1:=blk_frozen BK118.out 1;have hfz33_2:=blk_frozen BK118.out 2)|(go_at_fn g;refine calls_of_args (args':=pre++(#[.int .i64 2]++lb)) (by simp) ?_;refine(hF.out _ _ _ _ (by repeat (first|(with_reducible first|exact HB.out|apply below_alloc|apply pw_below_drewN|apply below_drew1|refine below_set ?_ GE117.out|refine below_set ?_ GE118.out)|exact HB.out)) A15.out).mono ?_;rintro e w34 ⟨rfl,hb⟩;have n0_:=Aside0.mk (blk_below (g:=gb117) (o:=.cells #[.int .i64 0,.int .i64 0,.int .i64 0] 22 (0,0)) (by (with_reducible repeat (first|refine blk_drewN ?_ _|refine blk_drew ?_|refine blk_alloc ?_ _));refine blk_far ?_ NB117_118.out _;(with_reducible repeat (first|refine blk_drewN ?_ _|refine blk_drew ?_|refine blk_alloc ?_ _));exact BK117.out) hb);have n1_:=Aside0.mk (blk_below (g:=gb118) (o:=.cells #[.int .i64 t119,.int .i64 t121,.int .i64 0] 22 (0,0)) (by (with_reducible repeat (first|refine blk_drewN ?_ _|refine blk_drew ?_|refine blk_alloc ?_ _));refine blk_put (cs:=#[.int .i64 t119,.int .i64 0,.int .i64 0]) ?_ 1 _ rfl;(with_reducible repeat (first|refine blk_drewN ?_ _|refine blk_drew ?_|refine blk_alloc ?_ _));exact BK118.out) hb);have n2_:=Aside0.mk (below_step (by repeat (first|(with_reducible first|exact HB.out|apply below_alloc|apply pw_below_drewN|apply below_drew1|refine below_set ?_ GE117.out|refine below_set ?_ GE118.out)|exact HB.out)) hb);clear BK117;clear BK118;clear HB;have BK117:=n0_;have BK118:=n1_;have HB:=n2_;clear n0_ n1_ n2_;(try clear hb);(try clear hb2);(try clear hk);(try clear hi);have hcz35_0:w34.cell? ⟨gb118,0,none⟩=some (.int .i64 t119):=(blk_cell BK118.out 0).trans rfl;have hcz35_1:w34.cell? ⟨gb118,1,none⟩=some (.int .i64 t121):=(blk_cell BK118.out 1).trans rfl;have hcz35_2:w34.cell? ⟨gb118,2,none⟩=some (.int .i64 0):=(blk_cell BK118.out 2).trans rfl;have hfz35_0:=blk_frozen BK118.out 0;have hfz35_1:=blk_frozen BK118.out 1;have hfz35_2:=blk_frozen BK118.out 2;have hcz36_0:w34.cell? ⟨gb117,0,none⟩=some (.int .i64 0):=(blk_cell BK117.out 0).trans rfl;have hcz36_1:w34.cell? ⟨gb117,1,none⟩=some (.int .i64 0):=(blk_cell BK117.out 1).trans rfl;have hcz36_2:w34.cell? ⟨gb117,2,none⟩=some (.int .i64 0):=(blk_cell BK117.out 2).trans rfl;have hfz36_0:=blk_frozen BK117.out 0;have hfz36_1:=blk_frozen BK117.out 1;have hfz36_2:=blk_frozen BK117.out 2))
   try (refine wp_loop_rounds 4 ?_;repeat (rw [rounds_succ];go_wp2_with (first|((with_reducible refine gate_dst (N:=2) rfl ?_);refine box_event ?hg (N:=2) ?hd (cs:=#[.int .i64 0,.int .i64 0,.int .i64 0]) (t:=22) ?hr ?_;(case hd=>rfl);(case hg=>rfl);(case hr=>first|(go_simp;done)|(go_simp;rfl));intro gb117 hg w27 hbox hb;have n0_:=Aside0.mk (below_step (by repeat (first|(with_reducible first|exact HB.out|apply below_alloc|apply pw_below_drewN|apply below_drew1)|exact HB.out)) hb);have n1_:=Aside0.mk (hbox);have n2_:=Aside0.mk ((by rw [hg];exact(below_size (by repeat (first|(with_reducible first|exact HB.out|apply below_alloc|apply pw_below_drewN|apply below_drew1)|exact HB.out))):w.heap.size≤gb117));have n3_:=Aside0.mk ((by rw [hg];exact(below_size (by repeat (first|(with_reducible first|exact HB.out|apply below_alloc|apply pw_below_drewN|apply below_drew1)|exact HB.out))):w.heap.size≤gb117));clear HB;have HB:=n0_;have BK117:=n1_;have GW117:=n2_;have GE117:=n3_;clear n0_ n1_ n2_ n3_;clear hb hbox hg)|((with_reducible refine gate_dst (N:=4) rfl ?_);refine box_event ?hg (N:=4) ?hd (cs:=#[.int .i64 0,.int .i64 0,.int .i64 0]) (t:=22) ?hr ?_;(case hd=>rfl);(case hg=>rfl);(case hr=>first|(go_simp;done)|(go_simp;rfl));intro gb118 hg w28 hbox hb;have n0_:=Aside0.mk (blk_below (g:=gb117) (o:=.cells #[.int .i64 0,.int .i64 0,.int .i64 0] 22 (0,0)) (by (with_reducible repeat (first|refine blk_drewN ?_ _|refine blk_drew ?_|refine blk_alloc ?_ _));exact BK117.out) hb);have n1_:=Aside0.mk (below_step (by repeat (first|(with_reducible first|exact HB.out|apply below_alloc|apply pw_below_drewN|apply below_drew1|refine below_set ?_ GE117.out)|exact HB.out)) hb);have n2_:=Aside0.mk (hbox);have n3_:=Aside0.mk ((by rw [hg];exact(below_size (by repeat (first|(with_reducible first|exact HB.out|apply below_alloc|apply pw_below_drewN|apply below_drew1|refine below_set ?_ GE117.out)|exact HB.out))):w.heap.size≤gb118));have n4_:=Aside0.mk ((by rw [hg];exact(below_size (by repeat (first|(with_reducible first|exact HB.out|apply below_alloc|apply pw_below_drewN|apply below_drew1|refine below_set ?_ GE117.out)|exact HB.out))):w.heap.size≤gb118));have n5_:=Aside0.mk ((by rw [hg];exact Nat.ne_of_lt (blk_lt (g:=gb117) (o:=.cells #[.int .i64 0,.int .i64 0,.int .i64 0] 22 (0,0)) (by (with_reducible repeat (first|refine blk_drewN ?_ _|refine blk_drew ?_|refine blk_alloc ?_ _));exact BK117.out)):gb117≠gb118));have n6_:=Aside0.mk ((by rw [hg];exact Nat.ne_of_gt (blk_lt (g:=gb117) (o:=.cells #[.int .i64 0,.int .i64 0,.int .i64 0] 22 (0,0)) (by (with_reducible repeat (first|refine blk_drewN ?_ _|refine blk_drew ?_|refine blk_alloc ?_ _));exact BK117.out)):gb118≠gb117));clear BK117;clear HB;have BK117:=n0_;have HB:=n1_;have BK118:=n2_;have GW118:=n3_;have GE118:=n4_;have NB117_118:=n5_;have NB118_117:=n6_;clear n0_ n1_ n2_ n3_ n4_ n5_ n6_;clear hb hbox hg)|(go_at_fn g;refine calls_of_args (args':=pre++(#[.int .i64 0]++lb)) (by simp) ?_;refine(hF.out _ _ _ _ (by repeat (first|(with_reducible first|exact HB.out|apply below_alloc|apply pw_below_drewN|apply below_drew1|refine below_set ?_ GE117.out|refine below_set ?_ GE118.out)|exact HB.out)) A1.out).mono ?_;rintro e w29 ⟨rfl,hb⟩;have n0_:=Aside0.mk (blk_below (g:=gb117) (o:=.cells #[.int .i64 0,.int .i64 0,.int .i64 0] 22 (0,0)) (by (with_reducible repeat (first|refine blk_drewN ?_ _|refine blk_drew ?_|refine blk_alloc ?_ _));exact BK117.out) hb);have n1_:=Aside0.mk (blk_below (g:=gb118) (o:=.cells #[.int .i64 0,.int .i64 0,.int .i64 0] 22 (0,0)) (by (with_reducible repeat (first|refine blk_drewN ?_ _|refine blk_drew ?_|refine blk_alloc ?_ _));exact BK118.out) hb);have n2_:=Aside0.mk (below_step (by repeat (first|(with_reducible first|exact HB.out|apply below_alloc|apply pw_below_drewN|apply below_drew1|refine below_set ?_ GE117.out|refine below_set ?_ GE118.out)|exact HB.out)) hb);clear BK117;clear BK118;clear HB;have BK117:=n0_;have BK118:=n1_;have HB:=n2_;clear n0_ n1_ n2_;(try clear hb);(try clear hb2);(try clear hk);(try clear hi);have hnb30:=NB118_117.out;have hnc30:=NB117_118.out;have hcz31_0:w29.cell? ⟨gb118,0,none⟩=some (.int .i64 0):=(blk_cell BK118.out 0).trans rfl;have hcz31_1:w29.cell? ⟨gb118,1,none⟩=some (.int .i64 0):=(blk_cell BK118.out 1).trans rfl;have hcz31_2:w29.cell? ⟨gb118,2,none⟩=some (.int .i64 0):=(blk_cell BK118.out 2).trans rfl;have hfz31_0:=blk_frozen BK118.out 0;have hfz31_1:=blk_frozen BK118.out 1;have hfz31_2:=blk_frozen BK118.out 2)|(go_at_fn g;refine calls_of_args (args':=pre++(#[.int .i64 1]++lb)) (by simp) ?_;refine(hF.out _ _ _ _ (by repeat (first|(with_reducible first|exact HB.out|apply below_alloc|apply pw_below_drewN|apply below_drew1|refine below_set ?_ GE117.out|refine below_set ?_ GE118.out)|exact HB.out)) A2.out).mono ?_;rintro e w32 ⟨rfl,hb⟩;have n0_:=Aside0.mk (blk_below (g:=gb117) (o:=.cells #[.int .i64 0,.int .i64 0,.int .i64 0] 22 (0,0)) (by (with_reducible repeat (first|refine blk_drewN ?_ _|refine blk_drew ?_|refine blk_alloc ?_ _));refine blk_far ?_ NB117_118.out _;(with_reducible repeat (first|refine blk_drewN ?_ _|refine blk_drew ?_|refine blk_alloc ?_ _));exact BK117.out) hb);have n1_:=Aside0.mk (blk_below (g:=gb118) (o:=.cells #[.int .i64 t119,.int .i64 0,.int .i64 0] 22 (0,0)) (by (with_reducible repeat (first|refine blk_drewN ?_ _|refine blk_drew ?_|refine blk_alloc ?_ _));refine blk_put (cs:=#[.int .i64 0,.int .i64 0,.int .i64 0]) ?_ 0 _ rfl;(with_reducible repeat (first|refine blk_drewN ?_ _|refine blk_drew ?_|refine blk_alloc ?_ _));exact BK118.out) hb);have n2_:=Aside0.mk (below_step (by repeat (first|(with_reducible first|exact HB.out|apply below_alloc|apply pw_below_drewN|apply below_drew1|refine below_set ?_ GE117.out|refine below_set ?_ GE118.out)|exact HB.out)) hb);clear BK117;clear BK118;clear HB;have BK117:=n0_;have BK118:=n1_;have HB:=n2_;clear n0_ n1_ n2_;(try clear hb);(try clear hb2);(try clear hk);(try clear hi);have hcz33_0:w32.cell? ⟨gb118,0,none⟩=some (.int .i64 t119):=(blk_cell BK118.out 0).trans rfl;have hcz33_1:w32.cell? ⟨gb118,1,none⟩=some (.int .i64 0):=(blk_cell BK118.out 1).trans rfl;have hcz33_2:w32.cell? ⟨gb118,2,none⟩=some (.int .i64 0):=(blk_cell BK118.out 2).trans rfl;have hfz33_0:=blk_frozen BK118.out 0;have hfz33_1:=blk_frozen BK118.out 1;have hfz33_2:=blk_frozen BK118.out 2)|(go_at_fn g;refine calls_of_args (args':=pre++(#[.int .i64 2]++lb)) (by simp) ?_;refine(hF.out _ _ _ _ (by repeat (first|(with_reducible first|exact HB.out|apply below_alloc|apply pw_below_drewN|apply below_drew1|refine below_set ?_ GE117.out|refine below_set ?_ GE118.out)|exact HB.out)) A15.out).mono ?_;rintro e w34 ⟨rfl,hb⟩;have n0_:=Aside0.mk (blk_below (g:=gb117) (o:=.cells #[.int .i64 0,.int .i64 0,.int .i64 0] 22 (0,0)) (by (with_reducible repeat (first|refine blk_drewN ?_ _|refine blk_drew ?_|refine blk_alloc ?_ _));refine blk_far ?_ NB117_118.out _;(with_reducible repeat (first|refine blk_drewN ?_ _|refine blk_drew ?_|refine blk_alloc ?_ _));exact BK117.out) hb);have n1_:=Aside0.mk (blk_below (g:=gb118) (o:=.cells #[.int .i64 t119,.int .i64 t121,.int .i64 0] 22 (0,0)) (by (with_reducible repeat (first|refine blk_drewN ?_ _|refine blk_drew ?_|refine blk_alloc ?_ _));refine blk_put (cs:=#[.int .i64 t119,.int .i64 0,.int .i64 0]) ?_ 1 _ rfl;(with_reducible repeat (first|refine blk_drewN ?_ _|refine blk_drew ?_|refine blk_alloc ?_ _));exact BK118.out) hb);have n2_:=Aside0.mk (below_step (by repeat (first|(with_reducible first|exact HB.out|apply below_alloc|apply pw_below_drewN|apply below_drew1|refine below_set ?_ GE117.out|refine below_set ?_ GE118.out)|exact HB.out)) hb);clear BK117;clear BK118;clear HB;have BK117:=n0_;have BK118:=n1_;have HB:=n2_;clear n0_ n1_ n2_;(try clear hb);(try clear hb2);(try clear hk);(try clear hi);have hcz35_0:w34.cell? ⟨gb118,0,none⟩=some (.int .i64 t119):=(blk_cell BK118.out 0).trans rfl;have hcz35_1:w34.cell? ⟨gb118,1,none⟩=some (.int .i64 t121):=(blk_cell BK118.out 1).trans rfl;have hcz35_2:w34.cell? ⟨gb118,2,none⟩=some (.int .i64 0):=(blk_cell BK118.out 2).trans rfl;have hfz35_0:=blk_frozen BK118.out 0;have hfz35_1:=blk_frozen BK118.out 1;have hfz35_2:=blk_frozen BK118.out 2;have hcz36_0:w34.cell? ⟨gb117,0,none⟩=some (.int .i64 0):=(blk_cell BK117.out 0).trans rfl;have hcz36_1:w34.cell? ⟨gb117,1,none⟩=some (.int .i64 0):=(blk_cell BK117.out 1).trans rfl;have hcz36_2:w34.cell? ⟨gb117,2,none⟩=some (.int .i64 0):=(blk_cell BK117.out 2).trans rfl;have hfz36_0:=blk_frozen BK117.out 0;have hfz36_1:=blk_frozen BK117.out 1;have hfz36_2:=blk_frozen BK117.out 2))))
   refine bodyPost_ret (results_ct rfl _ _ gb117 22 #[.int .i64 t119,.int .i64 t121,.int .i64 t125] (0,0) _ rfl (by (with_reducible repeat (first|refine blk_drewN ?_ _|refine blk_drew ?_|refine blk_alloc ?_ _));refine blk_put (cs:=#[.int .i64 t119,.int .i64 t121,.int .i64 0]) ?_ 2 _ rfl;(with_reducible repeat (first|refine blk_drewN ?_ _|refine blk_drew ?_|refine blk_alloc ?_ _));refine blk_put (cs:=#[.int .i64 t119,.int .i64 0,.int .i64 0]) ?_ 1 _ rfl;(with_reducible repeat (first|refine blk_drewN ?_ _|refine blk_drew ?_|refine blk_alloc ?_ _));refine blk_put (cs:=#[.int .i64 0,.int .i64 0,.int .i64 0]) ?_ 0 _ rfl;(with_reducible repeat (first|refine blk_drewN ?_ _|refine blk_drew ?_|refine blk_alloc ?_ _));refine blk_far ?_ NB117_118.out _;(with_reducible repeat (first|refine blk_drewN ?_ _|refine blk_drew ?_|refine blk_alloc ?_ _));exact BK117.out) Try.underlying22 rfl (by kernel_rfl)) rfl ?_
   exact⟨by first|rfl|(simp [errW_none,errW_some]<;>rfl)|(simp [*,errW_none,errW_some]<;>rfl),by repeat (first|(with_reducible first|exact HB.out|apply below_alloc|apply pw_below_drewN|apply below_drew1|refine below_set ?_ GE117.out|refine below_set ?_ GE118.out)|exact HB.out)⟩
def fix_known.f (a0:Int):Option (Int):=(fix_within_int.f a0 (-288230376151711744) 288230376151711744).bind fun t127=>(some t127)
set_option maxHeartbeats 8000000 in
set_option maxRecDepth 100000 in
theorem fix_known.calls (a0:Int) (r:Int) (w:World) (h:fix_known.f a0=some r) :
  Calls Try.prog 38 #[.int .i64 a0] w fun e w'=>e=.returned (.int .i64 r)∧Below w.heap.size w w':=by
 have HB:=Aside0.mk (Below.refl w.heap.size w)
 have H:((fix_within_int.f a0 (-288230376151711744) 288230376151711744).bind fun t127=>(some t127))=some r:=h
 clear h
 replace H:=Option.bind_eq_some_iff.mp H
 obtain⟨t127,A20,H⟩:=H
 replace H:(some t127)=some r:=H
 have A2:=Aside0.mk A20
 clear A20
 obtain rfl:=Option.some.inj H
 go_enter Try.func38,Try.ntmps38
 go_wp2_with (first|((with_reducible refine gate_callee (f:=39) rfl ?_);refine goesL_ (some 4) rfl rfl Try.func39 (by kernel_rfl) rfl #[.int .i64 a0,.int .i64 (-288230376151711744),.int .i64 288230376151711744] rfl (by exact mA _ _) ?_;(with_reducible refine(fix_within_int.calls a0 (-288230376151711744) 288230376151711744 t127 _ A2.out).mono ?_);rintro e w3 ⟨rfl,hb⟩;refine⟨_,rfl,?_⟩;have n0_:=Aside0.mk (below_step (by first|with_reducible exact HB.out|exact bl HB) hb);clear HB;have HB:=n0_;clear n0_;(try clear hb);(try clear hb2);(try clear hk);(try clear hi)))
 go_ret
 exact⟨by first|rfl|(simp [errW_none,errW_some]<;>rfl)|(simp [*,errW_none,errW_some]<;>rfl),by first|with_reducible exact HB.out|exact bl HB⟩
def fix_Sub.f (a0:Int) (a1:Int):Option (Int × Bool):=(fix_known.f a0).bind fun t128=>((fix_known.f a1).bind fun t129=>((fix_Clamp.f (wrap64 (t128-t129))).bind fun bt130=>(if bt130.2=true then (some (bt130.1,true)) else ((fix_known.f a0).bind fun t132=>(if t132=a0 then ((fix_known.f a1).bind fun t133=>(some (bt130.1,(t133 != a1)))) else (some (bt130.1,true)))))))
set_option maxHeartbeats 8000000 in
set_option maxRecDepth 100000 in
theorem fix_Sub.calls (a0:Int) (a1:Int) (r1:Int) (r2:Bool) (w:World) (h:fix_Sub.f a0 a1=some (r1,r2)) :
  Calls Try.prog 18 #[.int .i64 a0,.int .i64 a1] w fun e w'=>e=.returned (.tuple #[.int .i64 r1,.bool r2])∧Below w.heap.size w w':=by
 have HB:=Aside0.mk (Below.refl w.heap.size w)
 have H:((fix_known.f a0).bind fun t128=>((fix_known.f a1).bind fun t129=>((fix_Clamp.f (wrap64 (t128-t129))).bind fun bt130=>(if bt130.2=true then (some (bt130.1,true)) else ((fix_known.f a0).bind fun t132=>(if t132=a0 then ((fix_known.f a1).bind fun t133=>(some (bt130.1,(t133 != a1)))) else (some (bt130.1,true))))))))=some (r1,r2):=h
 clear h
 replace H:=Option.bind_eq_some_iff.mp H
 obtain⟨t128,A30,H⟩:=H
 replace H:((fix_known.f a1).bind fun t129=>((fix_Clamp.f (wrap64 (t128-t129))).bind fun bt130=>(if bt130.2=true then (some (bt130.1,true)) else ((fix_known.f a0).bind fun t132=>(if t132=a0 then ((fix_known.f a1).bind fun t133=>(some (bt130.1,(t133 != a1)))) else (some (bt130.1,true)))))))=some (r1,r2):=H
 have A3:=Aside0.mk A30
 clear A30
 replace H:=Option.bind_eq_some_iff.mp H
 obtain⟨t129,A40,H⟩:=H
 replace H:((fix_Clamp.f (wrap64 (t128-t129))).bind fun bt130=>(if bt130.2=true then (some (bt130.1,true)) else ((fix_known.f a0).bind fun t132=>(if t132=a0 then ((fix_known.f a1).bind fun t133=>(some (bt130.1,(t133 != a1)))) else (some (bt130.1,true))))))=some (r1,r2):=H
 have A4:=Aside0.mk A40
 clear A40
 replace H:=Option.bind_eq_some_iff.mp H
 obtain⟨⟨t130,t131⟩,A50,H⟩:=H
 replace H:(if t131=true then (some (t130,true)) else ((fix_known.f a0).bind fun t132=>(if t132=a0 then ((fix_known.f a1).bind fun t133=>(some (t130,(t133 != a1)))) else (some (t130,true)))))=some (r1,r2):=H
 have A5:=Aside0.mk A50
 clear A50
 by_cases c6:t131=true
 ·subst c6
  have H1:(some (t130,true))=some (r1,r2):=by rw [if_pos rfl] at H;exact H
  clear H
  have H:=H1
  clear H1
  simp only [Option.some.injEq,Prod.mk.injEq] at H
  obtain⟨rfl,rfl⟩:=H
  go_enter Try.func18,Try.ntmps18
  go_wp2_with (first|((with_reducible refine gate_callee (f:=38) rfl ?_);refine goesL_ (some 10) rfl rfl Try.func38 (by kernel_rfl) rfl #[.int .i64 a0] rfl (by exact mA _ _) ?_;(with_reducible refine(fix_known.calls a0 t128 _ A3.out).mono ?_);rintro e w7 ⟨rfl,hb⟩;refine⟨_,rfl,?_⟩;have n0_:=Aside0.mk (below_step (by first|with_reducible exact HB.out|exact bl HB) hb);clear HB;have HB:=n0_;clear n0_;(try clear hb);(try clear hb2);(try clear hk);(try clear hi))|((with_reducible refine gate_callee (f:=38) rfl ?_);refine goesL_ (some 12) rfl rfl Try.func38 (by kernel_rfl) rfl #[.int .i64 a1] rfl (by exact mA _ _) ?_;(with_reducible refine(fix_known.calls a1 t129 _ A4.out).mono ?_);rintro e w8 ⟨rfl,hb⟩;refine⟨_,rfl,?_⟩;have n0_:=Aside0.mk (below_step (by first|with_reducible exact HB.out|exact bl HB) hb);clear HB;have HB:=n0_;clear n0_;(try clear hb);(try clear hb2);(try clear hk);(try clear hi))|((with_reducible refine gate_callee (f:=19) rfl ?_);refine goesL_ (some 14) rfl rfl Try.func19 (by kernel_rfl) rfl #[.int .i64 (wrap64 (t128-t129))] rfl (by exact mA _ _) ?_;(with_reducible refine(fix_Clamp.calls (wrap64 (t128-t129)) t130 true _ A5.out).mono ?_);rintro e w9 ⟨rfl,hb⟩;refine⟨_,rfl,?_⟩;have n0_:=Aside0.mk (below_step (by first|with_reducible exact HB.out|exact bl HB) hb);clear HB;have HB:=n0_;clear n0_;(try clear hb);(try clear hb2);(try clear hk);(try clear hi)))
  go_ret2
  exact⟨by first|rfl|(simp [errW_none,errW_some]<;>rfl)|(simp [*,errW_none,errW_some]<;>rfl),by first|with_reducible exact HB.out|exact bl HB⟩
 ·replace c6:=Bool.eq_false_iff.mpr c6
  subst c6
  have H1:((fix_known.f a0).bind fun t132=>(if t132=a0 then ((fix_known.f a1).bind fun t133=>(some (t130,(t133 != a1)))) else (some (t130,true))))=some (r1,r2):=by rw [if_neg (show ¬(false=true) by decide)] at H;exact H
  clear H
  have H:=H1
  clear H1
  replace H:=Option.bind_eq_some_iff.mp H
  obtain⟨t132,A100,H⟩:=H
  replace H:(if t132=a0 then ((fix_known.f a1).bind fun t133=>(some (t130,(t133 != a1)))) else (some (t130,true)))=some (r1,r2):=H
  have A10:=Aside0.mk A100
  clear A100
  by_cases c11:t132=a0
  ·rw [if_pos c11] at H
   have c11b0:(t132 == a0)=true:=beq_iff_eq.mpr c11
   have c11b1:(t132 != a0)=false:=bne_eq_false_iff_eq.mpr c11
   clear c11
   replace H:=Option.bind_eq_some_iff.mp H
   obtain⟨t133,A120,H⟩:=H
   replace H:(some (t130,(t133 != a1)))=some (r1,r2):=H
   have A12:=Aside0.mk A120
   clear A120
   simp only [Option.some.injEq,Prod.mk.injEq] at H
   obtain⟨rfl,rfl⟩:=H
   go_enter Try.func18,Try.ntmps18
   go_wp2_with (first|((with_reducible refine gate_callee (f:=38) rfl ?_);refine goesL_ (some 10) rfl rfl Try.func38 (by kernel_rfl) rfl #[.int .i64 a0] rfl (by exact mA _ _) ?_;(with_reducible refine(fix_known.calls a0 t128 _ A3.out).mono ?_);rintro e w13 ⟨rfl,hb⟩;refine⟨_,rfl,?_⟩;have n0_:=Aside0.mk (below_step (by first|with_reducible exact HB.out|exact bl HB) hb);clear HB;have HB:=n0_;clear n0_;(try clear hb);(try clear hb2);(try clear hk);(try clear hi))|((with_reducible refine gate_callee (f:=38) rfl ?_);refine goesL_ (some 12) rfl rfl Try.func38 (by kernel_rfl) rfl #[.int .i64 a1] rfl (by exact mA _ _) ?_;(with_reducible refine(fix_known.calls a1 t129 _ A4.out).mono ?_);rintro e w14 ⟨rfl,hb⟩;refine⟨_,rfl,?_⟩;have n0_:=Aside0.mk (below_step (by first|with_reducible exact HB.out|exact bl HB) hb);clear HB;have HB:=n0_;clear n0_;(try clear hb);(try clear hb2);(try clear hk);(try clear hi))|((with_reducible refine gate_callee (f:=19) rfl ?_);refine goesL_ (some 14) rfl rfl Try.func19 (by kernel_rfl) rfl #[.int .i64 (wrap64 (t128-t129))] rfl (by exact mA _ _) ?_;(with_reducible refine(fix_Clamp.calls (wrap64 (t128-t129)) t130 false _ A5.out).mono ?_);rintro e w15 ⟨rfl,hb⟩;refine⟨_,rfl,?_⟩;have n0_:=Aside0.mk (below_step (by first|with_reducible exact HB.out|exact bl HB) hb);clear HB;have HB:=n0_;clear n0_;(try clear hb);(try clear hb2);(try clear hk);(try clear hi))|(go_at_call 38;(with_reducible refine(fix_known.calls a0 t132 _ A10.out).mono ?_);rintro e w16 ⟨rfl,hb⟩;have n0_:=Aside0.mk (below_step (by first|with_reducible exact HB.out|exact bl HB) hb);clear HB;have HB:=n0_;clear n0_;(try clear hb);(try clear hb2);(try clear hk);(try clear hi))|(go_at_call 38;(with_reducible refine(fix_known.calls a1 t133 _ A12.out).mono ?_);rintro e w17 ⟨rfl,hb⟩;have n0_:=Aside0.mk (below_step (by first|with_reducible exact HB.out|exact bl HB) hb);clear HB;have HB:=n0_;clear n0_;(try clear hb);(try clear hb2);(try clear hk);(try clear hi)))
   go_ret2
   exact⟨by first|rfl|(simp [errW_none,errW_some]<;>rfl)|(simp [*,errW_none,errW_some]<;>rfl),by first|with_reducible exact HB.out|exact bl HB⟩
  ·rw [if_neg c11] at H
   have c11b0:(t132 == a0)=false:=beq_eq_false_iff_ne.mpr c11
   have c11b1:(t132 != a0)=true:=bne_iff_ne.mpr c11
   simp only [Option.some.injEq,Prod.mk.injEq] at H
   obtain⟨rfl,rfl⟩:=H
   go_enter Try.func18,Try.ntmps18
   go_wp2_with (first|((with_reducible refine gate_callee (f:=38) rfl ?_);refine goesL_ (some 10) rfl rfl Try.func38 (by kernel_rfl) rfl #[.int .i64 a0] rfl (by exact mA _ _) ?_;(with_reducible refine(fix_known.calls a0 t128 _ A3.out).mono ?_);rintro e w18 ⟨rfl,hb⟩;refine⟨_,rfl,?_⟩;have n0_:=Aside0.mk (below_step (by first|with_reducible exact HB.out|exact bl HB) hb);clear HB;have HB:=n0_;clear n0_;(try clear hb);(try clear hb2);(try clear hk);(try clear hi))|((with_reducible refine gate_callee (f:=38) rfl ?_);refine goesL_ (some 12) rfl rfl Try.func38 (by kernel_rfl) rfl #[.int .i64 a1] rfl (by exact mA _ _) ?_;(with_reducible refine(fix_known.calls a1 t129 _ A4.out).mono ?_);rintro e w19 ⟨rfl,hb⟩;refine⟨_,rfl,?_⟩;have n0_:=Aside0.mk (below_step (by first|with_reducible exact HB.out|exact bl HB) hb);clear HB;have HB:=n0_;clear n0_;(try clear hb);(try clear hb2);(try clear hk);(try clear hi))|((with_reducible refine gate_callee (f:=19) rfl ?_);refine goesL_ (some 14) rfl rfl Try.func19 (by kernel_rfl) rfl #[.int .i64 (wrap64 (t128-t129))] rfl (by exact mA _ _) ?_;(with_reducible refine(fix_Clamp.calls (wrap64 (t128-t129)) t130 false _ A5.out).mono ?_);rintro e w20 ⟨rfl,hb⟩;refine⟨_,rfl,?_⟩;have n0_:=Aside0.mk (below_step (by first|with_reducible exact HB.out|exact bl HB) hb);clear HB;have HB:=n0_;clear n0_;(try clear hb);(try clear hb2);(try clear hk);(try clear hi))|(go_at_call 38;(with_reducible refine(fix_known.calls a0 t132 _ A10.out).mono ?_);rintro e w21 ⟨rfl,hb⟩;have n0_:=Aside0.mk (below_step (by first|with_reducible exact HB.out|exact bl HB) hb);clear HB;have HB:=n0_;clear n0_;(try clear hb);(try clear hb2);(try clear hk);(try clear hi)))
   go_ret2
   exact⟨by first|rfl|(simp [errW_none,errW_some]<;>rfl)|(simp [*,errW_none,errW_some]<;>rfl),by first|with_reducible exact HB.out|exact bl HB⟩
end Go.Proofs.Ytonfobdknnlbjaa.B
end
