/- Lemmas of the rows, laid by a program. -/
import Derived.Test.YtkeedfiffjpnfaaZM1
section
set_option linter.unusedVariables false
set_option linter.unusedSimpArgs false
namespace Go.Proofs.Ytkeedfiffjpnfaa.X
open Go Go.RowKit
set_option linter.unusedVariables false
set_option linter.unusedSimpArgs false
variable {P:Program} {B:Nat} {F:Nat→Prop} {G:Nat→Option Value} {m:Mem} {w:World} {C:RC} {R:Type}
theorem run_v {S:Sem Value} {V:Value} {w':World} (h:S.run P w=.ok V w'):(do pure (Next.value (←S)):Sem Next).run P w=.ok (.value V) w':=by
 simp [Sem.run_bind,h]
theorem s2a_run {T:List TI} (hT:TOk P T) {t:TypeId} {x v:SV} {X:Value} (hx:SRep C x X) (h:s2ax T t x=some v):∃ U,(Instr.arrayAt t X).run P w=.ok U w∧SRep C v U:=by
 unfold s2ax at h
 split at h
 ·rename_i n e b off l c hd
  split at h
  ·rename_i hn
   obtain rfl:=Option.some.inj h
   obtain⟨i,D,z,hi,hu,hz,hg⟩:=hT.ty (t:=t) (by simp [okT,hd])
   rw [hg] at hd
   cases D<;>simp only [tdOf] at hd<;>try cases hd
   simp only [SRep] at hx
   obtain⟨g,hG,rfl⟩:=hx
   refine⟨.pointer (some ⟨g,off,none⟩),?_,by simp only [SRep];exact⟨g,hG,rfl⟩⟩
   simp [Instr.arrayAt,run_underlying hu,Sem.run_bind,Nat.not_lt.2 hn]
  ·cases h
 ·cases h
set_option maxHeartbeats 1000000 in
theorem opx_ok {X:Ctx} (hX:XOk P X) {rec:Rec R} (hrec:RecOk P rec) {fid:FuncId} {p:Option Nat} {o:Oper} {s:St} {K:SV→Mem→Option R} {r:R} {a:Act} (hm:MInv B F G s.m w) (hf:memFree p G s.m)
  (ht:SReps (rc F G s.m w) s.t a.tmps.toList) (h:opx X rec fid p o s K=some r) (next:Act→World→Prop) (Q:Exit→Act→World→Prop)
  (hn:∀ v m' V w' G',After B F G s.m w G' m' w'→SRep (rc F G' m' w') v V→K v m'=some r→((∀ b,b≠memNew p s.m→G' b=G b)∨∃ f as K',rec f as s.m K'=some r)→next (a.put o.dst V) w'):o.wp P a w next Q:=by
 have hr:=After.refl hm
 have hs:(∀ b,b≠memNew p s.m→G b=G b)∨∃ f as K',rec f as s.m K'=some r:=Or.inl fun _ _=>rfl
 unfold opx at h
 simp only at h
 split at h
 ·rename_i x hop
  exact wp_val (by simp [execOp,hop]) (hn _ _ _ _ _ hr (ev_rep ht x) h hs)
 ·rename_i x hop
  exact wp_val (by simp [execOp,hop]) (hn _ _ _ _ _ hr (ev_rep ht x) h hs)
 ·rename_i c x y hop
  split at h
  ·rename_i cb hc
   have hcv:=ev_rep ht c
   rw [hc] at hcv
   simp only [SRep] at hcv
   split at h
   ·rename_i b1 b2 h1 h2
    have e1:=ev_rep ht x
    have e2:=ev_rep ht y
    rw [h1] at e1
    rw [h2] at e2
    simp only [SRep] at e1 e2
    refine wp_val (V:=.bool (bif cb then b1 else b2)) ?_ (hn _ _ _ _ _ hr (by simp only [SRep]) h hs)
    cases cb<;>simp [execOp,hop,hcv,asBool,e1,e2]
   ·cases cb
    ·exact wp_val (by simp [execOp,hop,hcv,asBool]) (hn _ _ _ _ _ hr (ev_rep ht y) h hs)
    ·exact wp_val (by simp [execOp,hop,hcv,asBool]) (hn _ _ _ _ _ hr (ev_rep ht x) h hs)
  ·cases h
 ·rename_i t hop
  split at h
  ·rename_i z hz
   obtain⟨zv,hzr,hzs,_⟩:=zero_ok hX.T hz w (rc F G s.m w)
   obtain⟨w',G',hrun,haf,hsr,hg⟩:=var_ok (P:=P) hm hf (t:=t) hzs
   refine wp_val ?_ (hn _ _ _ _ _ haf hsr h (Or.inl hg))
   simp only [execOp,hop]
   refine run_v ?_
   simp only [Instr.alloc,Sem.run_bind,hzr,Result.andThen_ok]
   simpa [Sem.run_bind] using hrun
  ·cases h
 ·rename_i t x hop
  split at h
  ·rename_i hl
   obtain⟨hcs,_⟩:=svCells_rep (ev_rep ht x) hl
   obtain⟨w',G',hrun,haf,hsr,hg⟩:=var_ok (P:=P) hm hf (t:=t) hcs
   refine wp_val ?_ (hn _ _ _ _ _ haf hsr h (Or.inl hg))
   simp only [execOp,hop]
   exact run_v hrun
  ·cases h
 ·rename_i t parts hop
  split at h
  ·rename_i v hv
   have hp:=prep_ok ht parts.toList
   obtain⟨V,hrun,hsr⟩:=build_ok (P:=P) (w:=w) (parts':=parts.map fun (i,x)=>(i,a.eval x)) hX.T (by simpa using hp) hv
   refine wp_val ?_ (hn _ _ _ _ _ hr hsr h hs)
   simp only [execOp,hop]
   exact run_v hrun
  ·cases h
 ·rename_i t n parts hop
  have hp:=prep_ok ht parts.toList
  obtain⟨v,m',V,w',G',hrun,haf,hsr,hk,hg⟩:=bsl_ok (P:=P) (parts':=parts.map fun (i,x)=>(i,a.eval x)) hX.T hm hf (by simpa using hp) h
  refine wp_val ?_ (hn _ _ _ _ _ haf hsr hk (Or.inl hg))
  simp only [execOp,hop]
  exact run_v hrun
 ·rename_i t x hop
  split at h
  ·rename_i v hv
   obtain⟨U,hrun,hsr⟩:=ld_ok (P:=P) hX.T hm (ev_rep ht x) hv
   refine wp_val ?_ (hn _ _ _ _ _ hr hsr h hs)
   simp only [execOp,hop]
   exact run_v hrun
  ·cases h
 ·rename_i t x y hop
  split at h
  ·rename_i m' hv
   obtain⟨w',hrun,haf⟩:=st_ok (P:=P) hX.T hm (ev_rep ht x) (ev_rep ht y) hv
   have hnn:=hn .junk m' undef w' G haf (by simp only [SRep]) h (Or.inl fun _ _=>rfl)
   unfold Oper.wp
   have:(execOp a.eval o).run P w=.ok .skip w':=by
    simp only [execOp,hop,Sem.run_bind,hrun,Result.andThen_ok,Sem.run_pure]
   rw [this]
   exact hnn
  ·cases h
 ·rename_i op t x y ty hop
  obtain⟨v,V,hrun,hsr,hk⟩:=bin_ok (P:=P) (w:=w) hX.T (ev_rep ht x) (ev_rep ht y) h x y
  refine wp_val ?_ (hn _ _ _ _ _ hr hsr hk hs)
  simp only [execOp,hop]
  exact run_v hrun
 ·rename_i op t x hop
  obtain⟨v,V,hrun,hsr,hk⟩:=un_ok (P:=P) (w:=w) (ev_rep ht x) h
  refine wp_val ?_ (hn _ _ _ _ _ hr hsr hk hs)
  simp only [execOp,hop]
  exact run_v hrun
 ·rename_i src dst x hop
  obtain⟨v,V,hrun,hsr,hk⟩:=cv_ok (P:=P) (w:=w) hX.T (ev_rep ht x) h
  refine wp_val ?_ (hn _ _ _ _ _ hr hsr hk hs)
  simp only [execOp,hop]
  exact run_v hrun
 ·rename_i t x hop
  split at h
  ·rename_i v hv
   obtain⟨U,hrun,hsr⟩:=s2a_run (P:=P) (w:=w) hX.T (ev_rep ht x) hv
   refine wp_val ?_ (hn _ _ _ _ _ hr hsr h hs)
   simp only [execOp,hop]
   exact run_v hrun
  ·cases h
 ·rename_i t x lo hi mx hop
  obtain⟨v,V,hrun,hsr,hk⟩:=sl_ok (P:=P) hX.T (ev_rep ht x) (orep_map ht lo) (orep_map ht hi) (orep_map ht mx) h
  refine wp_val ?_ (hn _ _ _ _ _ hr hsr hk hs)
  simp only [execOp,hop]
  exact run_v hrun
 ·rename_i t x f hop
  split at h
  ·rename_i o' ty n hfo
   split at h
   ·rename_i v hv
    obtain⟨U,hrun,hsr⟩:=faddr_run (P:=P) (w:=w) hX.T (ev_rep ht x) hfo hv
    refine wp_val ?_ (hn _ _ _ _ _ hr hsr h hs)
    simp only [execOp,hop]
    exact run_v hrun
   ·cases h
  ·cases h
 ·rename_i t x f hop
  split at h
  ·rename_i o' ty n l hfo hx
   split at h
   ·rename_i v hv
    have hxr:=ev_rep ht x
    rw [hx] at hxr
    obtain⟨U,hrun,hsr⟩:=field_run (P:=P) (w:=w) hX.T hxr hfo hv
    refine wp_val ?_ (hn _ _ _ _ _ hr hsr h hs)
    simp only [execOp,hop]
    exact run_v hrun
   ·cases h
  ·cases h
 ·rename_i t x i hop
  split at h
  ·rename_i k n hi
   have hir:=ev_rep ht i
   rw [hi] at hir
   simp only [SRep] at hir
   obtain⟨v,V,hrun,hsr,hk⟩:=iaddr_ok (P:=P) (k:=k) hX.T hm (ev_rep ht x) h
   refine wp_val ?_ (hn _ _ _ _ _ hr hsr hk hs)
   simp only [execOp,hop,hir]
   exact run_v hrun
  ·cases h
 ·rename_i t x i hop
  split at h
  ·rename_i k n hi
   have hir:=ev_rep ht i
   rw [hi] at hir
   simp only [SRep] at hir
   obtain⟨v,V,hrun,hsr,hk⟩:=ix_ok (P:=P) (w:=w) (k:=k) hX.T (ev_rep ht x) h
   refine wp_val ?_ (hn _ _ _ _ _ hr hsr hk hs)
   simp only [execOp,hop,hir]
   exact run_v hrun
  ·cases h
 ·rename_i t i hop
  split at h
  ·rename_i l hl
   split at h
   ·rename_i v hv
    have htr:=ev_rep ht t
    rw [hl] at htr
    simp only [SRep] at htr
    obtain⟨vs,hvs,hrs⟩:=htr
    obtain⟨u,hu,hur⟩:=hrs.get hv
    refine wp_val (V:=u) ?_ (hn _ _ _ _ _ hr hur h hs)
    have hu':vs[i]? = some u:=by simpa using hu
    simp [execOp,hop,hvs,Instr.extract,hu']
   ·cases h
  ·cases h
 ·rename_i f x y hop
  refine wp_val (V:=.func f (x.map a.eval) (y.map a.eval)) ?_ (hn _ _ _ _ _ hr ?_ h hs)
  ·simp [execOp,hop,Instr.makeFunc]
  ·simp only [SRep]
   exact⟨_,_,rfl,by simpa using reps_map ht x.toList,by simpa using reps_map ht y.toList⟩
 ·rename_i c hop
  split at h
  ·rename_i b hcal
   unfold bix at h
   have hargs:=reps_map ht c.args.toList
   split at h
   ·rename_i t ts s0 ss hts has
    split at h
    ·rename_i n hnl
     have hr0:∃ X0,c.args.toList.map a.eval=X0 :: (c.args.toList.map a.eval).tail∧SRep (rc F G s.m w) s0 X0:=by
      rw [has] at hargs
      simp only [SReps] at hargs
      obtain⟨v,vs,e,h1,h2⟩:=hargs
      exact⟨v,by rw [e];rfl,h1⟩
     obtain⟨X0,e0,hx0⟩:=hr0
     have ha0:(c.args.map a.eval)[0]? = some X0:=by
      rw [←Array.getElem?_toList,Array.toList_map,e0];rfl
     have ht0:c.argTypes[0]? = some t:=by
      rw [←Array.getElem?_toList,hts];rfl
     have hrun:=len_ok (P:=P) hX.T hm hx0 hnl c.argTypes o.type (c.args.map a.eval) ht0 ha0
     refine wp_val ?_ (hn _ _ _ _ _ hr (by simp only [SRep];rfl) h hs)
     simp only [execOp,hop,resolve,hcal,Sem.run_bind,Sem.run_pure,Result.andThen_ok,invoke,builtin]
     rw [hrun];rfl
    ·cases h
   ·rename_i t t' s0 x0 hts has
    split at h
    ·rename_i e
     subst e
     rw [has] at hargs
     simp only [SReps] at hargs
     obtain⟨S0,vs,e0,h1,X0,vs',e1,h2,e2⟩:=hargs
     subst e2
     subst e1
     obtain⟨v,m',V,w',G',hrun,haf,hsr,hk,hg⟩:=app_ok (P:=P) hX.T hm hf h1 h2 h o.type
     refine wp_val ?_ (hn _ _ _ _ _ haf hsr hk (Or.inl hg))
     have ha0:c.args.map a.eval=#[S0,X0]:=by
      apply Array.ext'
      rw [Array.toList_map,e0]
     have ht0:c.argTypes=#[t',t']:=by
      apply Array.ext'
      rw [hts]
     simp only [execOp,hop,resolve,hcal,Sem.run_bind,Sem.run_pure,Result.andThen_ok,invoke,builtin,ha0,ht0]
     rw [hrun];rfl
    ·cases h
   ·split at h
    ·rename_i v hv
     obtain⟨V,hrun,hsr⟩:=minmax_ok (P:=P) (w:=w) hv hargs c.argTypes o.type
     refine wp_val ?_ (hn _ _ _ _ _ hr hsr h hs)
     have ha0:(c.args.toList.map a.eval).toArray=c.args.map a.eval:=by
      apply Array.ext'
      rw [Array.toList_map]
     rw [ha0] at hrun
     simp only [Bool.false_eq_true,if_true,if_false] at hrun
     simp only [execOp,hop,resolve,hcal,Sem.run_bind,Sem.run_pure,Result.andThen_ok,invoke,builtin]
     rw [hrun];rfl
    ·cases h
   ·split at h
    ·rename_i v hv
     obtain⟨V,hrun,hsr⟩:=minmax_ok (P:=P) (w:=w) hv hargs c.argTypes o.type
     refine wp_val ?_ (hn _ _ _ _ _ hr hsr h hs)
     have ha0:(c.args.toList.map a.eval).toArray=c.args.map a.eval:=by
      apply Array.ext'
      rw [Array.toList_map]
     rw [ha0] at hrun
     simp only [Bool.false_eq_true,if_true,if_false] at hrun
     simp only [execOp,hop,resolve,hcal,Sem.run_bind,Sem.run_pure,Result.andThen_ok,invoke,builtin]
     rw [hrun];rfl
    ·cases h
   ·cases h
  ·rename_i f hcal
   split at h
   ·rename_i fi first cap hfv
    have hfr:=ev_rep ht f
    rw [hfv] at hfr
    simp only [SRep] at hfr
    obtain⟨xs,ys,hfe,hx,hy⟩:=hfr
    have hargs:=(hx.app (reps_map ht c.args.toList)).app hy
    obtain⟨hent,hcalls⟩:=callx_ok (P:=P) hX hrec hm hf hargs h
    unfold Oper.wp
    have hrun:(execOp a.eval o).run P w=.ok (.enter fi (xs++c.args.map a.eval++ys)) w:=by
     simp only [execOp,hop,resolve,hcal,hfe,Deferred.ofValue,Sem.run_bind,Sem.run_pure,Result.andThen_ok,invoke]
     exact callFunc_run hent _ w
    rw [hrun]
    simp only [Oper.upon]
    have he:(xs.toList++c.args.toList.map a.eval++ys.toList).toArray=xs++c.args.map a.eval++ys:=by
     apply Array.ext'
     simp
    rw [he] at hcalls
    refine hcalls.mono ?_
    rintro e w' ⟨v,m',V,G',rfl,haf,hsr,hk,hg⟩
    exact hn _ _ _ _ _ haf hsr hk hg
   ·cases h
  ·cases h
 ·cases h
end Go.Proofs.Ytkeedfiffjpnfaa.X
end
section
set_option linter.unusedVariables false
set_option linter.unusedSimpArgs false
namespace Go.Proofs.Ytkeedfiffjpnfaa.X
open Go Go.RowKit
set_option linter.unusedVariables false
set_option linter.unusedSimpArgs false
variable {P:Program} {B:Nat} {F:Nat→Prop} {G:Nat→Option Value} {m:Mem} {w:World} {C:RC} {R:Type}
theorem put_defers (a:Act) (d:Option Tmp) (v:Value):(a.put d v).defers=a.defers:=by cases d<;>rfl
theorem getT_bool {t:List SV} {a:Act} {d:Nat} {c:Bool} (ht:SReps C t a.tmps.toList) (h:getT t d=.v (.bool c)):a.tmps[d]? = some (.bool c):=by
 rw [getT_some] at h
 cases e:t[d]? with
 | none=>rw [e] at h;simp at h
 | some s =>
  rw [e] at h
  simp only [Option.getD_some] at h
  subst h
  obtain⟨v,hv,hr⟩:=ht.get e
  simp only [SRep] at hr
  subst hr
  simpa using hv
theorem getT_tuple {t:List SV} {a:Act} {d:Nat} {x:Array Value} (ht:SReps C t a.tmps.toList) (h:getT t d=.v (.tuple x)):a.tmps[d]? = some (.tuple x):=by
 rw [getT_some] at h
 cases e:t[d]? with
 | none=>rw [e] at h;simp at h
 | some s =>
  rw [e] at h
  simp only [Option.getD_some] at h
  subst h
  obtain⟨v,hv,hr⟩:=ht.get e
  simp only [SRep] at hr
  subst hr
  simpa using hv
theorem set_bool {t:List SV} {a:Act} {d:Nat} {c:Bool} (ht:SReps C t a.tmps.toList) (h:a.tmps[d]? = some (.bool c)):SReps C (t.set d (.v (.bool c))) a.tmps.toList:=by
 have h2:=ht.set d (s:=.v (.bool c)) (v:=.bool c) (by simp only [SRep])
 have:a.tmps.toList.set d (.bool c)=a.tmps.toList:=by
  apply List.ext_getElem?
  intro i
  rw [List.getElem?_set]
  split
  ·rename_i e
   subst e
   have:a.tmps.toList[d]? = some (.bool c):=by simpa using h
   rw [this]
   split
   ·rfl
   ·rename_i hn;rw [List.getElem?_eq_none (by omega)] at this;cases this
  ·rfl
 rwa [this] at h2
theorem opg_ok {X:Ctx} (hX:XOk P X) {rec:Rec R} (hrec:RecOk P rec) {fid:FuncId} {p:Option Nat} {ops:Array Oper} {o:Oper} {s:St} {K:St→Option R} {r:R} {a:Act} (hm:MInv B F G s.m w) (hf:memFree p G s.m)
  (ht:SReps (rc F G s.m w) s.t a.tmps.toList) (h:opg X rec fid p ops o s K=some r) (next:Act→World→Prop) (Q:Exit→Act→World→Prop)
  (hn:∀ (s':St) (a':Act) w' G',After B F G s.m w G' s'.m w'→SReps (rc F G' s'.m w') s'.t a'.tmps.toList→a'.defers=a.defers→K s'=some r→next a' w') :
  if Region.wanted o (yielded ops a.tmps) then o.wp P a w next Q∨(o.asks P a w∧LetsOut Q) else next (a.put o.dst undef) w:=by
 unfold opg at h
 split at h
 ·rename_i hg
  have hw:Region.wanted o (yielded ops a.tmps)=true:=by simp [Region.wanted,hg]
  rw [if_pos hw]
  refine Or.inl (opx_ok hX hrec hm hf ht h next Q fun v m' V w' G' haf hv hk _=>?_)
  exact hn _ _ _ _ haf (put_rep (ht.le haf.le) hv o.dst) (put_defers _ _ _) hk
 ·rename_i j want hg
  split at h
  ·rename_i d hd
   split at h
   ·rename_i c hc
    have hb:=getT_bool ht hc
    have hy:yielded ops a.tmps j=some c:=by
     unfold yielded
     rw [hd]
     simp [hb]
    cases hcw:eqB c want with
    | true =>
     rw [hcw] at h
     simp only [cond_true] at h
     have e:c=want:=by cases c<;>cases want<;>first|rfl|cases hcw
     subst e
     have hw:Region.wanted o (yielded ops a.tmps)=true:=by simp [Region.wanted,hg,hy]
     rw [if_pos hw]
     have ht':=set_bool ht hb
     refine Or.inl (opx_ok (s:=⟨s.t.set d (.v (.bool c)),s.m⟩) hX hrec hm hf ht' h next Q fun v m' V w' G' haf hv hk _=>?_)
     exact hn _ _ _ _ haf (put_rep (ht'.le haf.le) hv o.dst) (put_defers _ _ _) hk
    | false =>
     rw [hcw] at h
     simp only [cond_false] at h
     have e:c=!want:=by cases c<;>cases want<;>first|rfl|cases hcw
     subst e
     have hw:Region.wanted o (yielded ops a.tmps)=false:=by simp [Region.wanted,hg,hy]
     rw [if_neg (by rw [hw];simp)]
     exact hn ⟨putT (s.t.set d (.v (.bool (!want)))) o.dst (.v undef),s.m⟩ _ _ _ (After.refl hm) (put_rep (set_bool ht hb) (by simp only [SRep]) o.dst) (put_defers _ _ _) h
   ·rename_i x hc
    have hb:=getT_tuple ht hc
    have hy:yielded ops a.tmps j=none:=by
     unfold yielded
     rw [hd]
     simp [hb]
    have hw:Region.wanted o (yielded ops a.tmps)=false:=by simp [Region.wanted,hg,hy]
    rw [if_neg (by rw [hw];simp)]
    exact hn ⟨putT s.t o.dst (.v undef),s.m⟩ _ _ _ (After.refl hm) (put_rep ht (by simp only [SRep]) o.dst) (put_defers _ _ _) h
   ·cases h
  ·cases h
theorem opsx_ok {X:Ctx} (hX:XOk P X) {rec:Rec R} (hrec:RecOk P rec) {fid:FuncId} {ops:Array Oper} {Q:Exit→Act→World→Prop} {r:R} :
  ∀ (l:List Oper) (i:Nat) (s:St) (K:St→Option R) (a:Act) (w:World) (G:Nat→Option Value),ops.toList.drop i=l→MInv B F G s.m w→SReps (rc F G s.m w) s.t a.tmps.toList→opsx X rec fid ops l s K=some r →
  (∀ (s':St) (a':Act) w' G',After B F G s.m w G' s'.m w'→SReps (rc F G' s'.m w') s'.t a'.tmps.toList→a'.defers=a.defers→K s'=some r→Q .normal a' w')→wpOps P ops Q (List.range' i (ops.size-i)) a w:=by
 intro l
 induction l with
 | nil =>
  intro i s K a w G hl hm ht h hn
  have:ops.size-i=0:=by
   have:=congrArg List.length hl
   simpa using this
  rw [this]
  simp only [List.range'_zero,wpOps]
  exact hn s a w G (After.refl hm) ht rfl h
 | cons o l ih =>
  intro i s K a w G hl hm ht h hn
  have hlt:i<ops.size:=by
   have:=congrArg List.length hl
   simp at this
   omega
  obtain⟨n,hsz⟩:∃ n,ops.size-i=n+1:=⟨ops.size-i-1,by omega⟩
  have hoi:ops[i]? = some o:=by
   have:(ops.toList.drop i)[0]? = some o:=by rw [hl];rfl
   simpa using this
  rw [hsz,List.range'_succ]
  simp only [opsx] at h
  simp only [wpOps,hoi]
  have hl':ops.toList.drop (i+1)=l:=by
   have:=congrArg List.tail hl
   simpa [List.tail_drop] using this
  refine opg_ok (p:=none) hX hrec hm trivial ht h (wpOps P ops Q (List.range' (i+1) n)) Q fun s' a' w' G' haf ht' hd hk=>?_
  have hn1:n=ops.size-(i+1):=by omega
  rw [hn1]
  exact ih (i+1) s' K a' w' G' hl' haf.minv ht' hk fun s2 a2 w2 G2 haf2 ht2 hd2 hk2=>hn s2 a2 w2 G2 (haf.trans haf2) ht2 (hd2.trans hd) hk2
end Go.Proofs.Ytkeedfiffjpnfaa.X
end
section
set_option linter.unusedVariables false
set_option linter.unusedSimpArgs false
namespace Go.Proofs.Ytkeedfiffjpnfaa.X
open Go Go.RowKit
set_option linter.unusedVariables false
set_option linter.unusedSimpArgs false
section
variable {S:Type} (Act:Nat→S→S→Prop)
def Chain:List Nat→S→S→Prop
  | [],s,s'=>s=s'
  | i :: l,s,s'=>∃ a,Act i s a∧Chain l a s'
variable {Act}
theorem Chain.app:∀ {l l':List Nat} {s a s':S},Chain Act l s a→Chain Act l' a s'→Chain Act (l++l') s s'
 | [],l',s,a,s',h,h'=>by obtain rfl:=h;exact h'
 | i :: l,l',s,a,s',h,h'=>by
  obtain⟨b,h1,h2⟩:=h
  exact⟨b,h1,Chain.app h2 h'⟩
theorem Chain.det (hd:∀ i s a b,Act i s a→Act i s b→a=b):∀ {l:List Nat} {s a b:S},Chain Act l s a→Chain Act l s b→a=b
 | [],s,a,b,h,h'=>by obtain rfl:=h;exact h'
 | i :: l,s,a,b,h,h'=>by
  obtain⟨x,h1,h2⟩:=h
  obtain⟨y,h3,h4⟩:=h'
  obtain rfl:=hd i s x y h1 h3
  exact Chain.det hd h2 h4
theorem Chain.pass {i:Nat}:∀ {l:List Nat} {s a m:S},(∀ j ∈ l,∀ s a b,Act i s a→Act j a b→∃ a',Act j s a'∧Act i a' b)→Act i s a→Chain Act l a m→∃ a',Chain Act l s a'∧Act i a' m
 | [],s,a,m,hc,h,h'=>by obtain rfl:=h';exact⟨s,rfl,h⟩
 | j :: l,s,a,m,hc,h,h'=>by
  obtain⟨b,h1,h2⟩:=h'
  obtain⟨a',h3,h4⟩:=hc j (by simp) s a b h h1
  obtain⟨a2,h5,h6⟩:=Chain.pass (fun k hk=>hc k (by simp [hk])) h4 h2
  exact⟨a2,⟨a',h3,h5⟩,h6⟩
theorem Chain.split (D:Nat→Bool):∀ {l:List Nat} {s s':S},l.Pairwise (fun i j=>D i=false→D j=true→∀ s a b,Act i s a→Act j a b→∃ a',Act j s a'∧Act i a' b)→Chain Act l s s' →
  ∃ m,Chain Act (l.filter D) s m∧Chain Act (l.filter fun i=>!D i) m s'
 | [],s,s',_,h=>by obtain rfl:=h;exact⟨s,rfl,rfl⟩
 | i :: l,s,s',hp,h=>by
  obtain⟨a,h1,h2⟩:=h
  obtain⟨hi,hp⟩:=List.pairwise_cons.1 hp
  obtain⟨m,h3,h4⟩:=Chain.split D hp h2
  cases hD:D i with
  | true =>
   refine⟨m,?_,?_⟩
   ·rw [List.filter_cons_of_pos (by simpa using hD)];exact⟨a,h1,h3⟩
   ·rw [List.filter_cons_of_neg (by simp [hD])];exact h4
  | false =>
   obtain⟨a',h5,h6⟩:=Chain.pass (fun j hj=>hi j (List.mem_filter.1 hj).1 hD (List.mem_filter.1 hj).2) h1 h3
   refine⟨a',?_,?_⟩
   ·rw [List.filter_cons_of_neg (by simp [hD])];exact h5
   ·rw [List.filter_cons_of_pos (by simp [hD])];exact⟨m,h6,h4⟩
end
theorem range_filter_one {n i:Nat} {D:Nat→Bool} (hi:i<n) (hD:D i=true):((List.range n).filter D).filter (fun j=>!(j != i))=[i]:=by
 rw [List.filter_filter]
 have:(fun a=>(!(a != i)) && D a)=(fun a=>a == i):=by
  funext a
  by_cases e:a=i
  ·subst e;simp [hD]
  ·have h:(a == i)=false:=by simpa using e
   simp only [bne,h,Bool.not_false,Bool.not_true,Bool.false_and]
 rw [this]
 clear this
 induction n with
 | zero=>omega
 | succ n ih =>
  rw [List.range_succ,List.filter_append]
  by_cases h:i<n
  ·rw [ih h]
   simp
   omega
  ·have:i=n:=by omega
   subst this
   have:(List.range i).filter (fun a=>a == i)=[]:=by
    rw [List.filter_eq_nil_iff]
    intro a ha
    simp at ha
    simp;omega
   rw [this]
   simp
theorem Chain.next {S:Type} {Act:Nat→S→S→Prop} (hd:∀ i s a b,Act i s a→Act i s b→a=b) {n:Nat} {s0 sn s:S} (full:Chain Act (List.range n) s0 sn) (D:Nat→Bool) (i:Nat) (hi:i<n) (hDi:D i=false)
  (hs:Chain Act ((List.range n).filter D) s0 s)
  (h1:∀ a b,a<b→b<n→(D a || a == i)=false→(D b || b == i)=true→∀ s x y,Act a s x→Act b x y→∃ x',Act b s x'∧Act a x' y)
  (h2:∀ b,i<b→b<n→D b=true→∀ s x y,Act i s x→Act b x y→∃ x',Act b s x'∧Act i x' y) :
  ∃ s',Act i s s'∧Chain Act ((List.range n).filter fun j=>D j || j == i) s0 s':=by
 obtain⟨s',hs',_⟩:=Chain.split (fun j=>D j || j == i) (by
  rw [List.pairwise_iff_getElem]
  intro a b ha hb hab hDa hDb
  simp only [List.getElem_range] at hDa hDb ⊢
  simp only [List.length_range] at hb
  exact h1 a b hab hb hDa hDb) full
 refine⟨s',?_,hs'⟩
 have hp:((List.range n).filter fun j=>D j || j == i).Pairwise (fun a b=>(a != i)=false→(b != i)=true→∀ s x y,Act a s x→Act b x y→∃ x',Act b s x'∧Act a x' y):=by
  have hlt:((List.range n).filter fun j=>D j || j == i).Pairwise (·<·):=List.Pairwise.filter _ List.pairwise_lt_range
  refine List.Pairwise.imp_of_mem ?_ hlt
  intro a b ha hb hab hai hbi
  have hai':a=i:=by simpa using hai
  subst hai'
  obtain⟨hb1,hb2⟩:=List.mem_filter.1 hb
  have hbn:b<n:=by simpa using hb1
  have hbi':b≠a:=by simpa using hbi
  have hDb:D b=true:=by
   simp only [Bool.or_eq_true,beq_iff_eq] at hb2
   exact hb2.resolve_right hbi'
  exact h2 b hab hbn hDb
 obtain⟨m,hm1,hm2⟩:=Chain.split (fun j=>j != i) hp hs'
 rw [range_filter_one hi (by simp)] at hm2
 obtain⟨x,hx,rfl⟩:=hm2
 have he:(((List.range n).filter fun j=>D j || j == i).filter fun j=>j != i)=(List.range n).filter D:=by
  rw [List.filter_filter]
  congr 1
  funext j
  by_cases e:j=i
  ·subst e;simp [hDi]
  ·have h:(j == i)=false:=by simpa using e
   simp only [bne,h,Bool.not_false,Bool.true_and,Bool.or_false]
 rw [he] at hm1
 obtain rfl:=Chain.det hd hm1 hs
 exact hx
end Go.Proofs.Ytkeedfiffjpnfaa.X
end
section
set_option linter.unusedVariables false
set_option linter.unusedSimpArgs false
namespace Go.Proofs.Ytkeedfiffjpnfaa.X
open Go Go.RowKit
set_option linter.unusedVariables false
set_option linter.unusedSimpArgs false
variable {R:Type} {r:R}
section
variable {V:Type} {DT:Type→Type} {E:V→(A:Type)→DT A→Option A} {Q:V→Prop} {x:Option R} {y:(A:Type)→DT A→Option A}
theorem nat_if {c:Bool} (h:(bif c then x else none)=some r) (hk:x=some r→∃ v,Q v∧∀ A D,y A D=E v A D):∃ v,Q v∧∀ A D,(bif c then y A D else none)=E v A D:=by
 cases c
 ·cases h
 ·exact hk h
theorem nat_unless {c:Bool} (h:(bif c then none else x)=some r) (hk:x=some r→∃ v,Q v∧∀ A D,y A D=E v A D):∃ v,Q v∧∀ A D,(bif c then none else y A D)=E v A D:=by
 cases c
 ·exact hk h
 ·cases h
theorem nat_ite {c:Prop} [Decidable c] (h:(if c then x else none)=some r) (hk:x=some r→∃ v,Q v∧∀ A D,y A D=E v A D):∃ v,Q v∧∀ A D,(if c then y A D else none)=E v A D:=by
 by_cases hc:c
 ·simp only [if_pos hc] at h ⊢;exact hk h
 ·rw [if_neg hc] at h;cases h
theorem split_nat {i:Int}:∀ {n:Nat} {k:Nat→Option R} {k':(A:Type)→DT A→Nat→Option A},splitIdx i n k=some r→(∀ j,k j=some r→∃ v,Q v∧∀ A D,k' A D j=E v A D)→∃ v,Q v∧∀ A D,splitIdx i n (k' A D)=E v A D:=by
 intro n
 induction n with
 | zero=>intro k k' h;simp [splitIdx] at h
 | succ n ih =>
  intro k k' h hk
  simp only [splitIdx] at h ⊢
  cases hc:decide (i=(n:Int)) with
  | true=>rw [hc] at h;exact hk n h
  | false=>rw [hc] at h;exact ih h hk
end
theorem intx_nat {op:BinOp} {k k':IntKind} {x y:Int} {K:SV→Option R} (h:intx op k x k' y K=some r):∃ v,K v=some r∧∀ (A:Type) (D:SV→Option A),intx op k x k' y D=D v:=by
 cases op<;>simp only [intx] at h ⊢
 case shl=>exact nat_unless h fun h=>⟨_,h,fun _ _=>rfl⟩
 case shr=>exact nat_unless h fun h=>⟨_,h,fun _ _=>rfl⟩
 case quo=>exact nat_ite h fun h=>nat_unless h fun h=>⟨_,h,fun _ _=>rfl⟩
 case rem=>exact nat_ite h fun h=>nat_unless h fun h=>⟨_,h,fun _ _=>rfl⟩
 all_goals exact nat_ite h fun h=>⟨_,h,fun _ _=>rfl⟩
theorem binx_nat {T:List TI} {op:BinOp} {t:TypeId} {a b:SV} {K:SV→Option R} (h:binx T op t a b K=some r):∃ v,K v=some r∧∀ (A:Type) (D:SV→Option A),binx T op t a b D=D v:=by
 unfold binx at h ⊢
 split at h
 ·rename_i h1 h2
  (try simp only [h1,h2])
  exact intx_nat h
 ·rename_i hne
  have hm:∀ (Z:IntKind→Int→IntKind→Int→Option SV) (D:Option SV),(match isInt a,isInt b with|some (k,x),some (k',y)=>Z k x k' y|_,_=>D)=D:=by
   intro Z D
   split
   ·rename_i h1 h2;exact absurd h2 (hne _ _ _ _ h1)
   ·rfl
  split at h
  ·split at h
   ·rename_i hq
    split at h
    ·rename_i hok
     refine⟨_,h,fun _ _=>?_⟩
     simp_all
    ·cases h
   ·cases h
  ·split at h
   ·rename_i hq
    split at h
    ·rename_i hok
     refine⟨_,h,fun _ _=>?_⟩
     simp_all
    ·cases h
   ·cases h
  ·cases h
theorem unx_nat {op:UnOp} {a:SV} {K:SV→Option R} (h:unx op a K=some r):∃ v,K v=some r∧∀ (A:Type) (D:SV→Option A),unx op a D=D v:=by
 unfold unx at h ⊢
 split at h<;>first
  | exact⟨_,h,fun _ _=>rfl⟩
  | cases h
theorem cvx_nat {T:List TI} {src dst:TypeId} {a:SV} {K:SV→Option R} (h:cvx T src dst a K=some r):∃ v,K v=some r∧∀ (A:Type) (D:SV→Option A),cvx T src dst a D=D v:=by
 unfold cvx at h ⊢
 split at h
 ·first
   | exact⟨_,h,fun _ _=>rfl⟩
   | (refine⟨_,h,fun _ _=>?_⟩;simp_all)
 ·cases h
theorem opt_case {A:Type} {o:Option A}:o=none∨∃ a,o=some a:=by cases o<;>simp
theorem iaddr_nat {T:List TI} {m:Mem} {t:TypeId} {x:SV} {i:Int} {K:SV→Option R} (h:iaddr T m t x i K=some r):∃ v,K v=some r∧∀ (A:Type) (D:SV→Option A),iaddr T m t x i D=D v:=by
 unfold iaddr at h ⊢
 cases hd:(getI T t).d<;>simp only [hd] at h ⊢<;>try cases h
 case array n e =>
  refine nat_ite h ?_
  clear h
  intro h
  split at h
  ·exact split_nat h fun j h=>⟨_,h,fun _ _=>rfl⟩
  ·cases h
 case slice e =>
  refine nat_ite h ?_
  clear h
  intro h
  cases x<;>simp only at h ⊢<;>try cases h
  case seq=>exact nat_ite h fun h=>nat_if h fun h=>⟨_,h,fun _ _=>rfl⟩
  case own b =>
   cases hb:m[b]? with
   | none=>rw [hb] at h;cases h
   | some y =>
    cases y with
    | none=>rw [hb] at h;cases h
    | some y =>
     obtain⟨r0,k⟩:=y
     cases k with
     | cells cs=>rw [hb] at h;cases h
     | row E Kd xs=>rw [hb] at h;exact nat_ite h fun h=>nat_if h fun h=>⟨_,h,fun _ _=>rfl⟩
  case arr=>exact split_nat h fun j h=>⟨_,h,fun _ _=>rfl⟩
theorem ixx_nat {T:List TI} {t:TypeId} {x:SV} {i:Int} {K:SV→Option R} (h:ixx T t x i K=some r):∃ v,K v=some r∧∀ (A:Type) (D:SV→Option A),ixx T t x i D=D v:=by
 unfold ixx at h ⊢
 cases hd:(getI T t).d<;>simp only [hd] at h ⊢<;>try cases h
 case array n e =>
  cases x<;>simp only at h ⊢<;>try cases h
  case agg l =>
   refine nat_ite h ?_
   clear h
   intro h
   refine split_nat h ?_
   clear h
   intro j h
   split at h
   ·rename_i c hc
    exact⟨c,h,fun _ _=>by (try simp only [hc])⟩
   ·cases h
theorem slx_nat {T:List TI} {m:Mem} {t:TypeId} {x:SV} {lo hi mx:Option SV} {K:SV→Option R} (h:slx T m t x lo hi mx K=some r):∃ v,K v=some r∧∀ (A:Type) (D:SV→Option A),slx T m t x lo hi mx D=D v:=by
 unfold slx at h ⊢
 cases hd:(getI T t).d<;>simp only [hd] at h ⊢<;>try cases h
 case array n e =>
  cases x<;>simp only at h ⊢<;>try cases h
  case ptr b off =>
   cases mx with
   | some y=>split at h<;>first|cases h|(rename_i h3;cases h3)
   | none =>
    cases h1:bnd lo 0 with
    | none=>rw [h1] at h;cases h
    | some l =>
     cases h2:bnd hi n with
     | none=>rw [h1,h2] at h;cases h
     | some hh =>
      rw [h1,h2] at h
      exact nat_ite h fun h=>split_nat h fun j h=>split_nat h fun j h=>nat_ite h fun h=>⟨_,h,fun _ _=>rfl⟩
 case slice e =>
  cases x<;>simp only at h ⊢<;>try cases h
  case seq Kd xs =>
   cases mx with
   | none =>
    simp only at h ⊢
    cases h1:bnd lo 0 with
    | none=>rw [h1] at h;cases h
    | some l =>
     cases h2:bnd hi xs.length with
     | none=>rw [h1,h2] at h;cases h
     | some hh =>
      rw [h1,h2] at h
      exact nat_ite h fun h=>nat_if h fun h=>⟨_,h,fun _ _=>rfl⟩
   | some y =>
    split at h
    ·rename_i e';cases e'
    ·rename_i n0 e'
     obtain rfl:=Option.some.inj e'
     (try simp only at h ⊢)
     cases h1:bnd lo 0 with
     | none=>rw [h1] at h;cases h
     | some l =>
      rw [h1] at h
      split at h
      ·exact nat_ite h fun h=>nat_if h fun h=>⟨_,h,fun _ _=>rfl⟩
      ·cases h
    ·cases h
theorem bslx_nat {T:List TI} {p:Option Nat} {m:Mem} {t:TypeId} {len:Nat} {parts:List (Nat × SV)} {K:SV→Mem→Option R} (h:bslx T p m t len parts K=some r) :
  ∃ v:SV × Mem,K v.1 v.2=some r∧∀ (A:Type) (D:SV→Mem→Option A),bslx T p m t len parts D=D v.1 v.2:=by
 unfold bslx at h ⊢
 cases hd:(getI T t).d<;>simp only [hd] at h ⊢<;>try cases h
 case slice e =>
  cases h1:zeroCells T e with
  | none=>rw [h1] at h;cases h
  | some z =>
   cases h2:kindOf T 20 e with
   | none=>rw [h1,h2] at h;cases h
   | some Kd =>
    rw [h1,h2] at h
    refine nat_ite h ?_
    clear h
    intro h
    cases h3:fillx (fun i=>some (i*szOf T e,szOf T e)) (repl len z) parts with
    | none=>rw [h3] at h;cases h
    | some l =>
     rw [h3] at h
     refine nat_ite h ?_
     clear h
     intro h
     cases h4:parseN (parse m false Kd) len l with
     | none=>rw [h4] at h;cases h
     | some xs=>rw [h4] at h;exact⟨(_,_),h,fun _ _=>rfl⟩
theorem appx_nat {T:List TI} {p:Option Nat} {m:Mem} {t:TypeId} {s x:SV} {K:SV→Mem→Option R} (h:appx T p m t s x K=some r) :
  ∃ v:SV × Mem,K v.1 v.2=some r∧∀ (A:Type) (D:SV→Mem→Option A),appx T p m t s x D=D v.1 v.2:=by
 unfold appx at h ⊢
 cases hd:(getI T t).d<;>simp only [hd] at h ⊢<;>try cases h
 case slice e =>
  cases h2:kindOf T 20 e with
  | none=>rw [h2] at h;cases h
  | some Kd =>
   rw [h2] at h
   refine nat_ite h ?_
   clear h
   intro h
   cases h3:elems m Kd x with
   | none=>rw [h3] at h;cases h
   | some ys =>
    rw [h3] at h
    cases s<;>simp only at h ⊢<;>try cases h
    case v=>exact nat_ite h fun h=>nat_if h fun h=>⟨(_,_),h,fun _ _=>rfl⟩
    case emp=>exact nat_if h fun h=>⟨(_,_),h,fun _ _=>rfl⟩
    case own b =>
     cases hb:m[b]? with
     | none=>rw [hb] at h;cases h
     | some y =>
      cases y with
      | none=>rw [hb] at h;cases h
      | some y =>
       obtain⟨r0,k⟩:=y
       cases r0 with
       | false=>rw [hb] at h;cases k<;>cases h
       | true =>
        cases k with
        | cells cs=>rw [hb] at h;cases h
        | row E K' xs =>
         rw [hb] at h
         simp only at h ⊢
         cases hc:castL (a:=Kd) xs with
         | none=>rw [hc] at h;cases h
         | some zs=>rw [hc] at h;exact nat_ite h fun h=>nat_if h fun h=>⟨(_,_),h,fun _ _=>rfl⟩
    case arr b off n c =>
     refine nat_ite h ?_
     clear h
     intro h
     cases h4:elems m Kd (.arr b off n c) with
     | none=>rw [h4] at h;cases h
     | some zs=>rw [h4] at h;exact nat_if h fun h=>⟨(_,_),h,fun _ _=>rfl⟩
theorem bix_nat {T:List TI} {p:Option Nat} {b:Builtin} {ts:List TypeId} {m:Mem} {as:List SV} {K:SV→Mem→Option R} (h:bix T p b ts m as K=some r) :
  ∃ v:SV × Mem,K v.1 v.2=some r∧∀ (A:Type) (D:SV→Mem→Option A),bix T p b ts m as D=D v.1 v.2:=by
 unfold bix at h ⊢
 split at h
 ·rename_i t _ s _
  cases h1:lenx T m t s with
  | none=>rw [h1] at h;cases h
  | some n=>rw [h1] at h;exact⟨(_,_),h,fun _ _=>rfl⟩
 ·exact nat_ite h fun h=>appx_nat h
 ·split at h
  ·rename_i s hs
   first
    | exact⟨(s,m),h,fun _ _=>rfl⟩
    | exact⟨(s,m),h,fun _ _=>by simp only [hs]⟩
  ·cases h
 ·split at h
  ·rename_i s hs
   first
    | exact⟨(s,m),h,fun _ _=>rfl⟩
    | exact⟨(s,m),h,fun _ _=>by simp only [hs]⟩
  ·cases h
 ·cases h
theorem callx0_nat {X:Ctx} {f:FuncId} {as:List SV} {p:Option Nat} {m:Mem} {K:SV→Mem→Option R} (h:callx0 X none4 f as p m K=some r):∃ v:SV × Mem,K v.1 v.2=some r∧∀ (A:Type) (D:SV→Mem→Option A),callx0 X none4 f as p m D=D v.1 v.2:=by
 unfold callx0 at h ⊢
 cases hs:X.spec f with
 | none =>
  rw [hs] at h
  simp only at h
  split at h<;>cases h
 | some sp =>
  rw [hs] at h
  simp only at h ⊢
  cases hx:parses m sp.R.flat sp.A as with
  | none=>rw [hx] at h;cases h
  | some x =>
   rw [hx] at h
   obtain⟨y,hy,h⟩:=Option.bind_eq_some_iff.1 h
   exact⟨sp.R.give p m y,h,fun _ _=>by simp only [hy,Option.bind_some]⟩
theorem callx_nat {X:Ctx} {f:FuncId} {as:List SV} {p:Option Nat} {m:Mem} {K:SV→Mem→Option R} (h:callx X none4 f as p m K=some r):∃ v:SV × Mem,K v.1 v.2=some r∧∀ (A:Type) (D:SV→Mem→Option A),callx X none4 f as p m D=D v.1 v.2:=by
 unfold callx at h ⊢
 cases hs:X.alt f with
 | none =>
  rw [hs] at h
  simp only at h ⊢
  exact callx0_nat h
 | some al =>
  rw [hs] at h
  simp only at h ⊢
  cases hx:parses m al.R.flat al.A as with
  | none=>rw [hx] at h;cases h
  | some x =>
   rw [hx] at h
   obtain⟨y,hy,h,hD⟩:=Fk.go_some h
   exact⟨al.R.give p m y,h,fun _ D=>hD _ _⟩
theorem nat_mem {m:Mem} {K:SV→Mem→Option R} {F:(A:Type)→(SV→Option A)→Option A} (h:∃ v,K v m=some r∧∀ (A:Type) (D:SV→Option A),F A D=D v) :
  ∃ v:SV × Mem,K v.1 v.2=some r∧∀ (A:Type) (D:SV→Mem→Option A),F A (fun v=>D v m)=D v.1 v.2:=by
 obtain⟨v,h1,h2⟩:=h
 exact⟨(v,m),h1,fun A D=>h2 A _⟩
theorem opx_nat {X:Ctx} {fid:FuncId} {p:Option Nat} {o:Oper} {s:St} {K:SV→Mem→Option R} (h:opx X none4 fid p o s K=some r) :
  ∃ v:SV × Mem,K v.1 v.2=some r∧∀ (A:Type) (D:SV→Mem→Option A),opx X none4 fid p o s D=D v.1 v.2:=by
 cases hop:o.op<;>simp only [opx,hop] at h ⊢<;>try cases h
 case move x=>exact⟨(_,_),h,fun _ _=>rfl⟩
 case assign x=>exact⟨(_,_),h,fun _ _=>rfl⟩
 case pick c x y =>
  cases hc:ev s.t c<;>rw [hc] at h<;>(try cases h)
  rename_i cv
  cases cv<;>(try cases h)
  rename_i b
  simp only at h ⊢
  have two:(bif b then K (ev s.t x) s.m else K (ev s.t y) s.m)=some r→∃ v:SV × Mem,K v.1 v.2=some r∧∀ (A:Type) (D:SV→Mem→Option A),(bif b then D (ev s.t x) s.m else D (ev s.t y) s.m)=D v.1 v.2:=by
   intro h
   cases b
   ·exact⟨(_,_),h,fun _ _=>rfl⟩
   ·exact⟨(_,_),h,fun _ _=>rfl⟩
  split at h
  ·exact⟨(_,_),h,fun _ _=>rfl⟩
  ·exact two h
 case alloc t =>
  cases hz:zeroCells X.T t with
  | none=>rw [hz] at h;cases h
  | some z=>rw [hz] at h;exact⟨(_,_),h,fun _ _=>rfl⟩
 case box t x=>exact nat_ite h fun h=>⟨(_,_),h,fun _ _=>rfl⟩
 case build t parts =>
  cases hz:buildx X.T t (mapSV (ev s.t) parts.toList) with
  | none=>rw [hz] at h;cases h
  | some z=>rw [hz] at h;exact⟨(_,_),h,fun _ _=>rfl⟩
 case buildSlice t n parts=>exact bslx_nat h
 case load t x =>
  cases hz:ldx X.T s.m t (ev s.t x) with
  | none=>rw [hz] at h;cases h
  | some z=>rw [hz] at h;exact⟨(_,_),h,fun _ _=>rfl⟩
 case store t x y =>
  cases hz:stx X.T s.m t (ev s.t x) (ev s.t y) with
  | none=>rw [hz] at h;cases h
  | some z=>rw [hz] at h;exact⟨(_,_),h,fun _ _=>rfl⟩
 case binOp op t x y ty=>exact nat_mem (F:=fun A D=>binx X.T op t (ev s.t x) (ev s.t y) D) (binx_nat h)
 case unOp op t x=>exact nat_mem (F:=fun A D=>unx op (ev s.t x) D) (unx_nat h)
 case convert src dst x=>exact nat_mem (F:=fun A D=>cvx X.T src dst (ev s.t x) D) (cvx_nat h)
 case slice t x lo hi mx=>exact nat_mem (F:=fun A D=>slx X.T s.m t (ev s.t x) (lo.map (ev s.t)) (hi.map (ev s.t)) (mx.map (ev s.t)) D) (slx_nat h)
 case sliceToArrayPointer t x =>
  cases hz:s2ax X.T t (ev s.t x) with
  | none=>rw [hz] at h;cases h
  | some z=>rw [hz] at h;exact⟨(_,_),h,fun _ _=>rfl⟩
 case fieldAddr t x f =>
  cases hf:fieldOf X.T t f with
  | none=>rw [hf] at h;cases h
  | some q =>
   obtain⟨q1,q2,q3⟩:=q
   rw [hf] at h
   simp only at h ⊢
   cases hz:faddr (ev s.t x) q1 with
   | none=>rw [hz] at h;cases h
   | some z=>rw [hz] at h;exact⟨(_,_),h,fun _ _=>rfl⟩
 case field t x f =>
  cases hf:fieldOf X.T t f with
  | none=>rw [hf] at h;cases h
  | some q =>
   obtain⟨q1,q2,q3⟩:=q
   rw [hf] at h
   cases hx:ev s.t x<;>rw [hx] at h<;>(try cases h)
   simp only at h ⊢
   rename_i l
   cases hz:partx X.T q2 l q1 q3 with
   | none=>rw [hz] at h;cases h
   | some z=>rw [hz] at h;exact⟨(_,_),h,fun _ _=>rfl⟩
 case indexAddr t x i =>
  cases hi:ev s.t i<;>rw [hi] at h<;>(try cases h)
  rename_i iv
  cases iv<;>(try cases h)
  exact nat_mem (F:=fun A D=>iaddr X.T s.m t (ev s.t x) _ D) (iaddr_nat h)
 case index t x i =>
  cases hi:ev s.t i<;>rw [hi] at h<;>(try cases h)
  rename_i iv
  cases iv<;>(try cases h)
  exact nat_mem (F:=fun A D=>ixx X.T t (ev s.t x) _ D) (ixx_nat h)
 case extract t i =>
  cases ht:ev s.t t<;>rw [ht] at h<;>(try cases h)
  simp only at h ⊢
  rename_i l
  cases hz:l[i]? with
  | none=>rw [hz] at h;cases h
  | some z=>rw [hz] at h;exact⟨(_,_),h,fun _ _=>rfl⟩
 case makeFunc f x y=>exact⟨(_,_),h,fun _ _=>rfl⟩
 case call c =>
  cases hc:c.callee<;>rw [hc] at h<;>(try cases h)
  case builtin b=>exact bix_nat h
  case value f =>
   simp only at h ⊢
   cases hf:ev s.t f<;>rw [hf] at h<;>(try cases h)
   rename_i fn a b
   cases fn<;>(try cases h)
   exact callx_nat h
end Go.Proofs.Ytkeedfiffjpnfaa.X
end
section
set_option linter.unusedVariables false
set_option linter.unusedSimpArgs false
namespace Go.Proofs.Ytkeedfiffjpnfaa.X
open Go Go.RowKit
set_option linter.unusedVariables false
set_option linter.unusedSimpArgs false
variable {R:Type} {r:R}
theorem mapSV_congr {e e':Operand→SV}:∀ {l:List (Nat × Operand)},(∀ x ∈ l.map (·.2),e x=e' x)→mapSV e l=mapSV e' l
 | [],_=>rfl
 | (i,x) :: l,h=>by
  simp only [mapSV]
  rw [h x (by simp),mapSV_congr (fun y hy=>h y (by simp at hy ⊢;exact Or.inr hy))]
theorem opx_congr {X:Ctx} {rec:Rec R} {fid:FuncId} {p:Option Nat} {o:Oper} {t t':List SV} {m:Mem} (K:SV→Mem→Option R) (h:∀ x ∈ o.op.operands,ev t x=ev t' x) :
  opx X rec fid p o ⟨t,m⟩ K=opx X rec fid p o ⟨t',m⟩ K:=by
 cases hop:o.op<;>rw [hop] at h<;>simp only [Op.operands] at h<;>simp only [opx,hop]
 case move x=>rw [h x (by simp)]
 case assign x=>rw [h x (by simp)]
 case pick c x y=>rw [h c (by simp),h x (by simp),h y (by simp)]
 case box ty x=>rw [h x (by simp)]
 case build ty parts=>rw [mapSV_congr (fun x hx=>h x (by simpa using hx))]
 case buildSlice ty n parts=>rw [mapSV_congr (fun x hx=>h x (by simpa using hx))]
 case load ty x=>rw [h x (by simp)]
 case store ty x y=>rw [h x (by simp),h y (by simp)]
 case binOp op ty x y ty'=>rw [h x (by simp),h y (by simp)]
 case unOp op ty x=>rw [h x (by simp)]
 case convert src dst x=>rw [h x (by simp)]
 case slice ty x lo hi mx =>
  rw [h x (by simp)]
  have hl:lo.map (ev t)=lo.map (ev t'):=by cases lo<;>simp;exact h _ (by simp)
  have hh:hi.map (ev t)=hi.map (ev t'):=by cases hi<;>simp;exact h _ (by simp)
  have hm:mx.map (ev t)=mx.map (ev t'):=by cases mx<;>simp;exact h _ (by simp)
  rw [hl,hh,hm]
 case sliceToArrayPointer ty x=>rw [h x (by simp)]
 case fieldAddr ty x f=>rw [h x (by simp)]
 case field ty x f=>rw [h x (by simp)]
 case indexAddr ty x i=>rw [h x (by simp),h i (by simp)]
 case index ty x i=>rw [h x (by simp),h i (by simp)]
 case extract x i=>rw [h x (by simp)]
 case makeFunc f x y =>
  have hx:x.toList.map (ev t)=x.toList.map (ev t'):=List.map_congr_left fun z hz=>h z (by simp;exact Or.inl (by simpa using hz))
  have hy:y.toList.map (ev t)=y.toList.map (ev t'):=List.map_congr_left fun z hz=>h z (by simp;exact Or.inr (by simpa using hz))
  rw [hx,hy]
 case call c =>
  have ha:c.args.toList.map (ev t)=c.args.toList.map (ev t'):=List.map_congr_left fun z hz=>h z (by simp only [Call.operands];exact Array.mem_append.2 (Or.inr (by simpa using hz)))
  rw [ha]
  cases hc:c.callee with
  | value f =>
   have hf:ev t f=ev t' f:=h f (by simp [Call.operands,hc])
   simp only [hf]
  | invoke x y=>rfl
  | builtin b=>rfl
theorem names_congr {o:Oper} {t t':List SV} (h:∀ x ∈ o.op.operands,ev t x=ev t' x):opNames t o=opNames t' o:=by
 unfold opNames
 rw [List.map_congr_left fun z hz=>h z (by simpa using hz)]
theorem writes_congr {o:Oper} {t t':List SV} (h:∀ x ∈ o.op.operands,ev t x=ev t' x):opWrites t o=opWrites t' o:=by
 unfold opWrites
 cases hop:o.op<;>rw [hop] at h<;>simp only [Op.operands] at h<;>simp only
 case store ty x y=>rw [h x (by simp)]
 case call c =>
  cases hc:c.callee<;>(try simp only)<;>(try rfl)
  rename_i b
  cases b<;>(try simp only)
  cases hl:c.args.toList with
  | nil=>rfl
  | cons s l =>
   simp only
   rw [h s (by
    simp only [Call.operands]
    refine Array.mem_append.2 (Or.inr ?_)
    have:s ∈ c.args.toList:=by rw [hl];simp
    simpa using this)]
theorem hasN_iff {l:List Nat} {n:Nat}:hasN l n=true↔n ∈ l:=by
 induction l with
 | nil=>simp [hasN]
 | cons x l ih =>
  simp only [hasN,Bool.or_eq_true,ih,List.mem_cons]
  rw [show(Nat.beq x n=true)↔n=x by rw [Nat.beq_eq];exact eq_comm]
theorem maskF_get (V W:List Nat):∀ (m:Mem) (i b:Nat),(maskF V W i m)[b]? = (m[b]?).map (seen V W (i+b))
 | [],i,b=>by simp [maskF]
 | x :: m,i,0=>by simp [maskF]
 | x :: m,i,b+1=>by
  simp only [maskF,List.getElem?_cons_succ,maskF_get V W m (i+1) b]
  rw [show i+1+b=i+(b+1) by omega]
theorem mask_get (V W:List Nat) (m:Mem) (b:Nat):(mask V W m)[b]? = (m[b]?).map (seen V W b):=by
 unfold mask;rw [maskF_get,Nat.zero_add]
theorem maskF_len (V W:List Nat):∀ (m:Mem) (i:Nat),(maskF V W i m).length=m.length
 | [],i=>rfl
 | x :: m,i=>by simp [maskF,maskF_len V W m (i+1)]
theorem mask_len (V W:List Nat) (m:Mem):(mask V W m).length=m.length:=maskF_len V W m 0
theorem mergeF_get (U:List Nat):∀ (m m':Mem) (i b:Nat),(mergeF U i m m')[b]? = (m[b]?).map (fun x=>made U (i+b) x (m'[b]?))
 | [],m',i,b=>by simp [mergeF]
 | x :: m,[],i,0=>by simp [mergeF]
 | x :: m,[],i,b+1=>by
  simp only [mergeF,List.getElem?_cons_succ,mergeF_get U m [] (i+1) b]
  rw [show i+1+b=i+(b+1) by omega]
  simp
 | x :: m,y :: m',i,0=>by
  simp [mergeF]
 | x :: m,y :: m',i,b+1=>by
  simp only [mergeF,List.getElem?_cons_succ,mergeF_get U m m' (i+1) b]
  rw [show i+1+b=i+(b+1) by omega]
theorem merge_get (U:List Nat) (m m':Mem) (b:Nat):(merge U m m')[b]? = (m[b]?).map (fun x=>made U b x (m'[b]?)):=by
 unfold merge;rw [mergeF_get,Nat.zero_add]
theorem mergeF_len (U:List Nat):∀ (m m':Mem) (i:Nat),(mergeF U i m m').length=m.length
 | [],m',i=>rfl
 | x :: m,[],i=>by simp [mergeF,mergeF_len U m [] (i+1)]
 | x :: m,y :: m',i=>by simp [mergeF,mergeF_len U m m' (i+1)]
theorem merge_len (U:List Nat) (m m':Mem):(merge U m m').length=m.length:=mergeF_len U m m' 0
theorem mask_merge {V W U:List Nat} {m m':Mem} (h:∀ b,b ∈ U→b ∉ V∧b ∉ W):mask V W (merge U m m')=mask V W m:=by
 apply List.ext_getElem?
 intro b
 rw [mask_get,mask_get,merge_get]
 cases m[b]? with
 | none=>rfl
 | some x =>
  simp only [Option.map_some,Option.some.injEq]
  unfold made
  cases hU:hasN U b with
  | false=>rfl
  | true =>
   obtain⟨h1,h2⟩:=h b (hasN_iff.1 hU)
   have hV:hasN V b=false:=by
    cases e:hasN V b with
    | false=>rfl
    | true=>exact absurd (hasN_iff.1 e) h1
   have hW:hasN W b=false:=by
    cases e:hasN W b with
    | false=>rfl
    | true=>exact absurd (hasN_iff.1 e) h2
   simp only [seen,hV,hW,cond_false]
theorem merge_comm {U U':List Nat} {m m1 m2:Mem} (h:∀ b,b ∈ U→b ∉ U'):merge U (merge U' m m2) m1=merge U' (merge U m m1) m2:=by
 apply List.ext_getElem?
 intro b
 simp only [merge_get]
 cases m[b]? with
 | none=>rfl
 | some x =>
  simp only [Option.map_some,Option.some.injEq]
  unfold made
  cases hU:hasN U b with
  | false=>rfl
  | true =>
   have hU':hasN U' b=false:=by
    cases e:hasN U' b with
    | false=>rfl
    | true=>exact absurd (hasN_iff.1 e) (h b (hasN_iff.1 hU))
   simp only [hU',cond_false,cond_true]
end Go.Proofs.Ytkeedfiffjpnfaa.X
end
section
set_option linter.unusedVariables false
set_option linter.unusedSimpArgs false
namespace Go.Proofs.Ytkeedfiffjpnfaa.X
open Go Go.RowKit
set_option linter.unusedVariables false
set_option linter.unusedSimpArgs false
variable {P:Program} {B:Nat} {F:Nat→Prop} {G:Nat→Option Value} {m:Mem} {w:World} {C:RC} {R:Type} {r:R}
def Keeps (p:Nat) (m m':Mem):Prop:=m'.length=m.length∧∀ (b:Nat) k,m[b]? = some (some (false,k))→b≠p→m'[b]? = m[b]?
theorem Keeps.refl (p:Nat) (m:Mem):Keeps p m m:=⟨rfl,fun _ _ _ _=>rfl⟩
theorem Keeps.put (p:Nat) (m:Mem) (k:Blk):Keeps p m (memPut (some p) m k):=⟨by simp [memPut],fun b k h hb=>by simp only [memPut];rw [List.getElem?_set_ne (fun e=>hb e.symm)]⟩
theorem Keeps.set {p b:Nat} {m:Mem} {k:Blk} (x:Option (Bool × Blk)) (h:m[b]? = some (some (true,k))):Keeps p m (m.set b x):=⟨by simp,fun c k' hc hcp=>by
 by_cases e:b=c
 ·subst e;rw [h] at hc;cases hc
 ·rw [List.getElem?_set_ne e]⟩
theorem Keeps.trans {p:Nat} {a b c:Mem} (h:Keeps p a b) (k:Keeps p b c):Keeps p a c :=
 ⟨k.1.trans h.1,fun x y hx hp=>(k.2 x y ((h.2 x y hx hp).trans hx) hp).trans (h.2 x y hx hp)⟩
theorem stx_keeps {T:List TI} {p:Nat} {m m':Mem} {t:TypeId} {x y:SV} (h:stx T m t x y=some m'):Keeps p m m':=by
 unfold stx at h
 simp only at h
 split at h
 ·split at h
  ·split at h
   ·rename_i cs hb
    split at h
    ·obtain rfl:=Option.some.inj h
     exact Keeps.set _ hb
    ·cases h
   ·cases h
  ·cases h
 ·cases h
theorem bslx_keeps {T:List TI} {p:Nat} {m m':Mem} {t:TypeId} {len:Nat} {parts:List (Nat × SV)} {v:SV} (h:bslx T (some p) m t len parts (fun v m=>some (v,m))=some (v,m')):Keeps p m m':=by
 unfold bslx at h
 repeat' split at h
 all_goals first
  | (obtain⟨rfl,rfl⟩:=Prod.mk.inj (Option.some.inj h);exact Keeps.put _ _ _)
  | cases h
theorem give_keeps {p:Nat} {m m':Mem} {d:RD} {x:d.T} {v:SV} (h:(some ((d.give (some p) m x).1,(d.give (some p) m x).2):Option (SV × Mem))=some (v,m')):Keeps p m m':=by
 obtain⟨_,rfl⟩:=Prod.mk.inj (Option.some.inj h)
 cases d with
 | one d=>exact Keeps.refl _ _
 | many l=>exact Keeps.refl _ _
 | row E K=>exact Keeps.put _ _ _
theorem appx_keeps {T:List TI} {p:Nat} {m m':Mem} {t:TypeId} {x y:SV} {v:SV} (h:appx T (some p) m t x y (fun v m=>some (v,m))=some (v,m')):Keeps p m m':=by
 unfold appx at h
 split at h
 ·split at h
  ·split at h
   ·split at h
    ·split at h
     ·split at h
      ·obtain⟨_,h⟩:=of_cond' h
       obtain⟨rfl,rfl⟩:=Prod.mk.inj (Option.some.inj h)
       exact Keeps.put _ _ _
      ·cases h
     ·obtain⟨_,h⟩:=of_cond' h
      obtain⟨rfl,rfl⟩:=Prod.mk.inj (Option.some.inj h)
      exact Keeps.put _ _ _
     ·split at h
      ·rename_i hb
       split at h
       ·split at h
        ·obtain⟨_,h⟩:=of_cond' h
         obtain⟨rfl,rfl⟩:=Prod.mk.inj (Option.some.inj h)
         exact(Keeps.set _ hb).trans (Keeps.put _ _ _)
        ·cases h
       ·cases h
      ·cases h
     ·split at h
      ·split at h
       ·obtain⟨_,h⟩:=of_cond' h
        obtain⟨rfl,rfl⟩:=Prod.mk.inj (Option.some.inj h)
        exact Keeps.put _ _ _
       ·cases h
      ·cases h
     ·cases h
    ·cases h
   ·cases h
  ·cases h
 ·cases h
theorem nat_keeps {p:Nat} {m m':Mem} {v:SV} {F:(A:Type)→(SV→Option A)→Option A} (hn:∀ {r:SV × Mem},F _ (fun v=>some (v,m))=some r→∃ u,(some (u,m):Option (SV × Mem))=some r∧∀ (A:Type) (D:SV→Option A),F A D=D u)
  (h:F _ (fun v=>some (v,m))=some (v,m')):Keeps p m m':=by
 obtain⟨u,hu,_⟩:=hn h
 obtain⟨rfl,rfl⟩:=Prod.mk.inj (Option.some.inj hu)
 exact Keeps.refl _ _
theorem opx_keeps {X:Ctx} {fid:FuncId} {p:Nat} {o:Oper} {s:St} {v:SV} {m':Mem} (h:opx X none4 fid (some p) o s (fun v m=>some (v,m))=some (v,m')):Keeps p s.m m':=by
 have same:∀ {v':SV},(some (v',s.m):Option (SV × Mem))=some (v,m')→Keeps p s.m m':=fun h=>by
  obtain⟨rfl,rfl⟩:=Prod.mk.inj (Option.some.inj h)
  exact Keeps.refl _ _
 cases hop:o.op<;>simp only [opx,hop] at h<;>try cases h
 case move.refl x=>exact Keeps.refl _ _
 case assign.refl x=>exact Keeps.refl _ _
 case pick c x y =>
  cases hc:ev s.t c<;>rw [hc] at h<;>(try cases h)
  rename_i cv
  cases cv<;>(try cases h)
  rename_i b
  simp only at h
  split at h
  ·exact same h
  ·cases b<;>exact same h
 case alloc t =>
  cases hz:zeroCells X.T t with
  | none=>rw [hz] at h;cases h
  | some z=>rw [hz] at h;obtain⟨rfl,rfl⟩:=Prod.mk.inj (Option.some.inj h);exact Keeps.put _ _ _
 case box t x =>
  split at h
  ·obtain⟨rfl,rfl⟩:=Prod.mk.inj (Option.some.inj h);exact Keeps.put _ _ _
  ·cases h
 case build t parts =>
  cases hz:buildx X.T t (mapSV (ev s.t) parts.toList) with
  | none=>rw [hz] at h;cases h
  | some z=>rw [hz] at h;exact same h
 case buildSlice t n parts=>exact bslx_keeps h
 case load t x =>
  cases hz:ldx X.T s.m t (ev s.t x) with
  | none=>rw [hz] at h;cases h
  | some z=>rw [hz] at h;exact same h
 case store t x y =>
  cases hz:stx X.T s.m t (ev s.t x) (ev s.t y) with
  | none=>rw [hz] at h;cases h
  | some z=>rw [hz] at h;obtain⟨rfl,rfl⟩:=Prod.mk.inj (Option.some.inj h);exact stx_keeps hz
 case binOp op t x y ty=>exact nat_keeps (F:=fun A D=>binx X.T op t (ev s.t x) (ev s.t y) D) (fun h=>binx_nat h) h
 case unOp op t x=>exact nat_keeps (F:=fun A D=>unx op (ev s.t x) D) (fun h=>unx_nat h) h
 case convert src dst x=>exact nat_keeps (F:=fun A D=>cvx X.T src dst (ev s.t x) D) (fun h=>cvx_nat h) h
 case slice t x lo hi mx=>exact nat_keeps (F:=fun A D=>slx X.T s.m t (ev s.t x) (lo.map (ev s.t)) (hi.map (ev s.t)) (mx.map (ev s.t)) D) (fun h=>slx_nat h) h
 case sliceToArrayPointer t x =>
  split at h
  ·exact same h
  ·cases h
 case fieldAddr t x f =>
  split at h
  ·split at h
   ·exact same h
   ·cases h
  ·cases h
 case field t x f =>
  split at h
  ·split at h
   ·exact same h
   ·cases h
  ·cases h
 case indexAddr t x i =>
  split at h
  ·exact nat_keeps (F:=fun A D=>iaddr X.T s.m t (ev s.t x) _ D) (fun h=>iaddr_nat h) h
  ·cases h
 case index t x i =>
  split at h
  ·exact nat_keeps (F:=fun A D=>ixx X.T t (ev s.t x) _ D) (fun h=>ixx_nat h) h
  ·cases h
 case extract t i =>
  split at h
  ·split at h
   ·exact same h
   ·cases h
  ·cases h
 case makeFunc.refl f x y=>exact Keeps.refl _ _
 case call c =>
  split at h
  ·unfold bix at h
   split at h
   ·split at h
    ·exact same h
    ·cases h
   ·split at h
    ·exact appx_keeps h
    ·cases h
   ·split at h
    ·exact same h
    ·cases h
   ·split at h
    ·exact same h
    ·cases h
   ·cases h
  ·split at h
   ·unfold callx at h
    split at h
    ·split at h
     ·obtain⟨y,hy,h,_⟩:=Fk.go_some h
      exact give_keeps h
     ·cases h
    ·unfold callx0 at h
     split at h
     ·split at h
      ·obtain⟨y,hy,h⟩:=Option.bind_eq_some_iff.1 h
       exact give_keeps h
      ·cases h
     ·split at h<;>cases h
   ·cases h
  ·cases h
end Go.Proofs.Ytkeedfiffjpnfaa.X
end
section
set_option linter.unusedVariables false
set_option linter.unusedSimpArgs false
namespace Go.Proofs.Ytkeedfiffjpnfaa.X
open Go Go.RowKit
set_option linter.unusedVariables false
set_option linter.unusedSimpArgs false
variable {P:Program} {B:Nat} {F:Nat→Prop} {G:Nat→Option Value} {m:Mem} {w:World} {C:RC} {R:Type} {r:R}
def hid (F:Nat→Prop) (G:Nat→Option Value) (m m1:Mem):Nat→Prop:=fun g=>F g∨∃ b r k V,m[b]? = some (some (r,k))∧(∀ y,m1[b]?≠some (some y))∧G b=some V∧blkOf V=some g
theorem mask_live {V W:List Nat} {b:Nat} {r0:Bool} {k:Blk} (h:(mask V W m)[b]? = some (some (r0,k))):∃ r1,m[b]? = some (some (r1,k))∧((b ∈ W∧r0=r1)∨(b ∉ W∧b ∈ V∧r0=false)):=by
 rw [mask_get] at h
 cases hb:m[b]? with
 | none=>rw [hb] at h;cases h
 | some x =>
  rw [hb] at h
  simp only [Option.map_some,Option.some.injEq] at h
  unfold seen at h
  cases hW:hasN W b with
  | true =>
   rw [hW] at h
   simp only [cond_true] at h
   subst h
   exact⟨r0,rfl,Or.inl ⟨hasN_iff.1 hW,rfl⟩⟩
  | false =>
   rw [hW] at h
   simp only [cond_false] at h
   have hW':b ∉ W:=fun e=>by rw [hasN_iff.2 e] at hW;cases hW
   cases hV:hasN V b with
   | false=>rw [hV] at h;cases h
   | true =>
    rw [hV] at h
    simp only [cond_true] at h
    cases x with
    | none=>cases h
    | some y =>
     obtain⟨r1,k1⟩:=y
     simp only [Option.some.injEq,Prod.mk.injEq] at h
     obtain⟨h1,rfl⟩:=h
     exact⟨r1,rfl,Or.inr ⟨hW',hasN_iff.1 hV,h1.symm⟩⟩
theorem mask_of {V W:List Nat} {b:Nat} {r1:Bool} {k:Blk} (h:m[b]? = some (some (r1,k))):(b ∈ W→(mask V W m)[b]? = some (some (r1,k)))∧(b ∉ W→b ∈ V→(mask V W m)[b]? = some (some (false,k)))∧(b ∉ W→b ∉ V→(mask V W m)[b]? = some none):=by
 rw [mask_get,h]
 simp only [Option.map_some]
 unfold seen
 refine⟨fun hW=>?_,fun hW hV=>?_,fun hW hV=>?_⟩
 ·rw [hasN_iff.2 hW];rfl
 ·have:hasN W b=false:=by
   cases e:hasN W b with
   | false=>rfl
   | true=>exact absurd (hasN_iff.1 e) hW
  rw [this,hasN_iff.2 hV];rfl
 ·have h1:hasN W b=false:=by
   cases e:hasN W b with
   | false=>rfl
   | true=>exact absurd (hasN_iff.1 e) hW
  have h2:hasN V b=false:=by
   cases e:hasN V b with
   | false=>rfl
   | true=>exact absurd (hasN_iff.1 e) hV
  rw [h1,h2];rfl
theorem bad_mask {V W:List Nat}:badOf (hid F G m (mask V W m)) G (mask V W m)=badOf F G m:=by
 funext g
 apply propext
 constructor
 ·rintro((hF|⟨b,r0,k,U,h1,h2,h3,h4⟩)|⟨b,r0,k,U,h1,h3,h4⟩)
  ·exact Or.inl hF
  ·exact Or.inr ⟨b,r0,k,U,h1,h3,h4⟩
  ·obtain⟨r1,h5,_⟩:=mask_live h1
   exact Or.inr ⟨b,r1,k,U,h5,h3,h4⟩
 ·rintro(hF|⟨b,r0,k,U,h1,h3,h4⟩)
  ·exact Or.inl (Or.inl hF)
  ·obtain⟨e1,e2,e3⟩:=mask_of (V:=V) (W:=W) h1
   by_cases hW:b ∈ W
   ·exact Or.inr ⟨b,r0,k,U,e1 hW,h3,h4⟩
   ·by_cases hV:b ∈ V
    ·exact Or.inr ⟨b,false,k,U,e2 hW hV,h3,h4⟩
    ·exact Or.inl (Or.inr ⟨b,r0,k,U,h1,fun y hy=>(by rw [e3 hW hV] at hy;cases hy),h3,h4⟩)
theorem mask_inv {V W:List Nat} (hm:MInv B F G m w):MInv B (hid F G m (mask V W m)) G (mask V W m) w where
 sz:=hm.sz
 fr:=by
  rintro g (hF|⟨b,r0,k,U,h1,h2,h3,h4⟩)
  ·exact hm.fr g hF
  ·exact(hm.ge _ _ _ _ _ h1 h3 h4).2
 fo:=by
  rintro b r0 k U g h1 h2 h3 (hF|⟨b',r',k',U',h4,h5,h6,h7⟩)
  ·obtain⟨r1,h8,_⟩:=mask_live h1
   exact hm.fo _ _ _ _ _ h8 h2 h3 hF
  ·obtain⟨r1,h8,_⟩:=mask_live h1
   have:=hm.inj _ _ _ _ _ _ _ _ _ h8 h4 h2 h6 h3 h7
   subst this
   exact h5 _ h1
 len:=fun b hb=>hm.len b (by rwa [mask_len] at hb)
 blk:=fun b r0 k h1=>by
  obtain⟨r1,h8,_⟩:=mask_live h1
  obtain⟨U,hU,hr⟩:=hm.blk _ _ _ h8
  exact⟨U,hU,by rw [rc,bad_mask];exact hr⟩
 inj:=fun b r0 k b' r' k' U U' g h1 h2 h3 h4 h5 h6=>by
  obtain⟨r1,h8,_⟩:=mask_live h1
  obtain⟨r2,h9,_⟩:=mask_live h2
  exact hm.inj _ _ _ _ _ _ _ _ _ h8 h9 h3 h4 h5 h6
 ge:=fun b r0 k U g h1 h2 h3=>by
  obtain⟨r1,h8,_⟩:=mask_live h1
  exact hm.ge _ _ _ _ _ h8 h2 h3
theorem merge_live {U:List Nat} {m':Mem} {b:Nat} {r0:Bool} {k:Blk} (h:(merge U m m')[b]? = some (some (r0,k))):(b ∈ U∧r0=true∧m'[b]? = some (some (true,k)))∨(b ∉ U∧m[b]? = some (some (r0,k))):=by
 rw [merge_get] at h
 cases hb:m[b]? with
 | none=>rw [hb] at h;cases h
 | some x =>
  rw [hb] at h
  simp only [Option.map_some,Option.some.injEq] at h
  unfold made at h
  cases hU:hasN U b with
  | true =>
   rw [hU] at h
   simp only [cond_true] at h
   split at h
   ·rename_i k' hk'
    obtain⟨rfl,rfl⟩:=Prod.mk.inj (Option.some.inj h)
    exact Or.inl ⟨hasN_iff.1 hU,rfl,hk'⟩
   ·cases h
  | false =>
   rw [hU] at h
   simp only [cond_false] at h
   subst h
   exact Or.inr ⟨fun e=>(by rw [hasN_iff.2 e] at hU;cases hU),rfl⟩
theorem unmask {V W:List Nat} {p:Nat} (hm:MInv B F G m w) (hp:G p=none) {G':Nat→Option Value} {m1:Mem} {w':World} (hk:Keeps p (mask V W m) m1)
  (h:After B (hid F G m (mask V W m)) G (mask V W m) w G' m1 w'):After B F G m w G' (merge (p :: W) m m1) w'∧(rc (hid F G m (mask V W m)) G' m1 w').Le (rc F G' (merge (p :: W) m m1) w'):=by
 have notp:∀ {b r0 k},m[b]? = some (some (r0,k))→b≠p:=fun {b r0 k} h1 e=>by
  obtain⟨U,hU,_⟩:=hm.blk _ _ _ h1
  rw [e,hp] at hU;cases hU
 have hwr:∀ g,wrOf G (mask V W m) g→∃ b k U,b ∈ W∧m[b]? = some (some (true,k))∧G b=some U∧blkOf U=some g:=by
  rintro g ⟨b,k,U,h1,h2,h3⟩
  obtain⟨r1,h8,h9|h9⟩:=mask_live h1
  ·obtain⟨hW,rfl⟩:=h9
   exact⟨b,k,U,hW,h8,h2,h3⟩
  ·cases h9.2.2
 have hbad:∀ g,badOf F G' (merge (p :: W) m m1) g→badOf (hid F G m (mask V W m)) G' m1 g:=by
  rintro g (hF|⟨b,r0,k,U,h1,h2,h3⟩)
  ·exact Or.inl (Or.inl hF)
  ·rcases merge_live h1 with ⟨hb,rfl,h4⟩|⟨hb,h4⟩
   ·exact Or.inr ⟨b,true,k,U,h4,h2,h3⟩
   ·have hW:b ∉ W:=fun e=>hb (List.mem_cons_of_mem _ e)
    obtain⟨e1,e2,e3⟩:=mask_of (V:=V) (W:=W) h4
    by_cases hV:b ∈ V
    ·have h5:=hk.2 b k (e2 hW hV) (notp h4)
     exact Or.inr ⟨b,false,k,U,h5.trans (e2 hW hV),h2,h3⟩
    ·obtain⟨U0,hU0,_⟩:=hm.blk _ _ _ h4
     have:=h.gext b U0 hU0
     rw [h2] at this
     obtain rfl:=Option.some.inj this
     exact Or.inl (Or.inr ⟨b,r0,k,U,h4,fun y hy=>(by rw [e3 hW hV] at hy;cases hy),hU0,h3⟩)
 have hle:(rc (hid F G m (mask V W m)) G' m1 w').Le (rc F G' (merge (p :: W) m m1) w'):=⟨fun _ _ h=>h,Nat.le_refl _,fun _ _ _=>rfl,fun g _ hn hn'=>hn (hbad g hn')⟩
 have old:∀ {b r0 k U},m[b]? = some (some (r0,k))→G' b=some U→G b=some U:=fun {b r0 k U} h1 h2=>by
  obtain⟨U0,hU0,_⟩:=hm.blk _ _ _ h1
  have:=h.gext b U0 hU0
  rw [h2] at this
  rw [hU0,Option.some.inj this]
 have heap:∀ {b r0 k U g},m[b]? = some (some (r0,k))→b ∉ W→G b=some U→blkOf U=some g→w'.heap[g]? = w.heap[g]?:=fun {b r0 k U g} h1 hW h2 h3=>by
  refine h.grow.block g (hm.ge _ _ _ _ _ h1 h2 h3).2 (fun hw=>?_)
  obtain⟨c,k',U',hc,h4,h5,h6⟩:=hwr g hw
  have:=hm.inj _ _ _ _ _ _ _ _ _ h1 h4 h2 h5 h3 h6
  subst this
  exact hW hc
 have hbm:∀ g,g<w.heap.size→¬badOf F G m g→¬badOf F G' (merge (p :: W) m m1) g:=fun g hg hn hn'=>by
  have h1:=hbad g hn'
  rw [←bad_mask (V:=V) (W:=W)] at hn
  exact h.hb g hg hn h1
 have hle2:(rc F G m w).Le (rc F G' (merge (p :: W) m m1) w'):=⟨h.gext,h.grow.size,fun g hg hn=>h.grow.block g hg (fun hw=>by
  obtain⟨c,k',U',hc,h4,h5,h6⟩:=hwr g hw
  exact hn (Or.inr ⟨c,true,k',U',h4,h5,h6⟩)),hbm⟩
 refine⟨⟨⟨Nat.le_trans hm.sz h.grow.size,fun g hF=>Nat.lt_of_lt_of_le (hm.fr g hF) h.grow.size,?_,?_,?_,?_,?_⟩,h.gext,?_,hbm,?_⟩,hle⟩
 ·intro b r0 k U g h1 h2 h3 hF
  rcases merge_live h1 with ⟨hb,rfl,h4⟩|⟨hb,h4⟩
  ·exact h.minv.fo _ _ _ _ _ h4 h2 h3 (Or.inl hF)
  ·exact hm.fo _ _ _ _ _ h4 (old h4 h2) h3 hF
 ·intro b hb
  rw [merge_len] at hb
  exact h.minv.len b (by rw [hk.1,mask_len];exact hb)
 ·intro b r0 k h1
  rcases merge_live h1 with ⟨hb,rfl,h4⟩|⟨hb,h4⟩
  ·obtain⟨U,hU,hr⟩:=h.minv.blk _ _ _ h4
   exact⟨U,hU,hr.le hle fun _ _=>rfl⟩
  ·obtain⟨U,hU,hr⟩:=hm.blk _ _ _ h4
   exact⟨U,h.gext b U hU,hr.le hle2 fun g hg=>heap h4 (fun e=>hb (List.mem_cons_of_mem _ e)) hU hg⟩
 ·intro b r0 k b' r' k' U U' g h1 h2 h3 h4 h5 h6
  have mixed:∀ {b b' k k' r' U U'},m1[b]? = some (some (true,k))→b' ∉ p :: W→m[b']? = some (some (r',k'))→G' b=some U→G' b'=some U'→blkOf U=some g→blkOf U'=some g→False:=by
   intro b b' k k' r' U U' e1 e2 e3 e4 e5 e6 e7
   have e8:=old e3 e5
   have hlt:=(hm.ge _ _ _ _ _ e3 e8 e7).2
   obtain⟨c,kc,Uc,hc,f1,f2,f3⟩:=hwr g (h.ws g hlt ⟨b,k,U,e1,e4,e6⟩)
   have:=hm.inj _ _ _ _ _ _ _ _ _ e3 f1 e8 f2 e7 f3
   subst this
   exact e2 (List.mem_cons_of_mem _ hc)
  rcases merge_live h1 with ⟨hb,rfl,e1⟩|⟨hb,e1⟩<;>rcases merge_live h2 with ⟨hb',rfl,e2⟩|⟨hb',e2⟩
  ·exact h.minv.inj _ _ _ _ _ _ _ _ _ e1 e2 h3 h4 h5 h6
  ·exact(mixed e1 hb' e2 h3 h4 h5 h6).elim
  ·exact(mixed e2 hb e1 h4 h3 h6 h5).elim
  ·exact hm.inj _ _ _ _ _ _ _ _ _ e1 e2 (old e1 h3) (old e2 h4) h5 h6
 ·intro b r0 k U g h1 h2 h3
  rcases merge_live h1 with ⟨hb,rfl,h4⟩|⟨hb,h4⟩
  ·exact h.minv.ge _ _ _ _ _ h4 h2 h3
  ·have:=hm.ge _ _ _ _ _ h4 (old h4 h2) h3
   exact⟨this.1,Nat.lt_of_lt_of_le this.2 h.grow.size⟩
 ·refine⟨h.grow.os,h.grow.tape,h.grow.output,h.grow.size,fun g hg hn=>h.grow.block g hg (fun hw=>hn ?_)⟩
  obtain⟨c,k',U',hc,h4,h5,h6⟩:=hwr g hw
  exact⟨c,k',U',h4,h5,h6⟩
 ·rintro g hg ⟨b,k,U,h1,h2,h3⟩
  rcases merge_live h1 with ⟨hb,_,h4⟩|⟨hb,h4⟩
  ·obtain⟨c,k',U',hc,f1,f2,f3⟩:=hwr g (h.ws g hg ⟨b,k,U,h4,h2,h3⟩)
   exact⟨c,k',U',f1,f2,f3⟩
  ·exact⟨b,k,U,h4,old h4 h2,h3⟩
end Go.Proofs.Ytkeedfiffjpnfaa.X
end
section
set_option linter.unusedVariables false
set_option linter.unusedSimpArgs false
namespace Go.Proofs.Ytkeedfiffjpnfaa.X
open Go Go.RowKit
set_option linter.unusedVariables false
set_option linter.unusedSimpArgs false
variable {P:Program} {B:Nat} {F:Nat→Prop} {G:Nat→Option Value} {m:Mem} {w:World} {C:RC} {R:Type} {r:R}
def guardOn (ops:Array Oper) (o:Oper) (t:List SV):Prop:=match o.guard with
  | none=>True
  | some (j,want)=>∃ d,(ops[j]?).bind (·.dst)=some d∧getT t d=.v (.bool want)
def guardOff (ops:Array Oper) (o:Oper) (t:List SV):Prop:=match o.guard with
  | none=>False
  | some (j,want)=>∃ d,(ops[j]?).bind (·.dst)=some d∧(getT t d=.v (.bool (!want))∨∃ x,getT t d=.v (.tuple x))
def Act1 (X:Ctx) (fid:FuncId) (ops:Array Oper) (base:Nat) (V W:Nat→List Nat) (i:Nat) (s s':St):Prop:=∃ o,ops[i]? = some o ∧
  ((guardOn ops o s.t∧opNames s.t o=V i∧opWrites s.t o=W i∧∃ v m',opx X none4 fid (some (base+i)) o ⟨s.t,mask (V i) (W i) s.m⟩ (fun v m=>some (v,m))=some (v,m')∧s'=⟨putT s.t o.dst v,merge ((base+i) :: W i) s.m m'⟩) ∨
   (guardOff ops o s.t∧s'=⟨putT s.t o.dst (.v undef),s.m⟩))
theorem guard_not {ops:Array Oper} {o:Oper} {t:List SV} (h:guardOn ops o t) (h':guardOff ops o t):False:=by
 unfold guardOn at h
 unfold guardOff at h'
 split at h
 ·rename_i e;simp [e] at h'
 ·rename_i j want e
  simp only [e] at h'
  obtain⟨d,h1,h2⟩:=h
  obtain⟨d',h3,h4⟩:=h'
  rw [h1] at h3
  obtain rfl:=Option.some.inj h3
  rw [h2] at h4
  rcases h4 with h4|⟨x,h4⟩
  ·cases want<;>simp at h4
  ·simp at h4
theorem Act1.det {X:Ctx} {fid:FuncId} {ops:Array Oper} {base:Nat} {V W:Nat→List Nat} (i:Nat) (s a b:St) (h:Act1 X fid ops base V W i s a) (h':Act1 X fid ops base V W i s b):a=b:=by
 obtain⟨o,ho,h⟩:=h
 obtain⟨o',ho',h'⟩:=h'
 rw [ho] at ho'
 obtain rfl:=Option.some.inj ho'
 rcases h with ⟨g,_,_,v,m',e,rfl⟩|⟨g,rfl⟩<;>rcases h' with ⟨g',_,_,v',m2,e',rfl⟩|⟨g',rfl⟩
 ·rw [e] at e'
  obtain⟨rfl,rfl⟩:=Prod.mk.inj (Option.some.inj e')
  rfl
 ·exact(guard_not g g').elim
 ·exact(guard_not g' g).elim
 ·rfl
theorem getT_put {t:List SV} {d:Option Nat} {v:SV} {n:Nat} (h:d≠some n):getT (putT t d v) n=getT t n:=by
 cases d with
 | none=>rfl
 | some d =>
  rw [getT_some,getT_some]
  simp only [putT]
  rw [List.getElem?_set_ne (fun e=>h (by rw [e]))]
theorem ev_put {t:List SV} {d:Option Nat} {v:SV} {x:Operand} (h:∀ n,d=some n→x≠.tmp n):ev (putT t d v) x=ev t x:=by
 cases x with
 | tmp n=>exact getT_put (fun e=>h n e rfl)
 | const v=>rfl
 | global g=>rfl
 | func f=>rfl
theorem evs_put {ops:Array Oper} {o:Oper} {t:List SV} {d:Option Nat} {v:SV} (h:∀ n,d=some n→n ∉ o.looksAt ops):∀ x ∈ o.op.operands,ev (putT t d v) x=ev t x:=by
 intro x hx
 refine ev_put fun n hn e=>h n hn ?_
 subst e
 exact List.mem_append_left _ (List.mem_filterMap.2 ⟨.tmp n,by simpa using hx,rfl⟩)
theorem looks_guard {ops:Array Oper} {o:Oper} {j d:Nat} {want:Bool} (hg:o.guard=some (j,want)) (hd:(ops[j]?).bind (·.dst)=some d):d ∈ o.looksAt ops:=by
 unfold Oper.looksAt
 refine List.mem_append_right _ ?_
 rw [hg]
 simp only [hd]
 simp
theorem on_put {ops:Array Oper} {o:Oper} {t:List SV} {d:Option Nat} {v:SV} (h:∀ n,d=some n→n ∉ o.looksAt ops):(guardOn ops o (putT t d v)↔guardOn ops o t)∧(guardOff ops o (putT t d v)↔guardOff ops o t):=by
 unfold guardOn guardOff
 cases hg:o.guard with
 | none=>simp
 | some x =>
  obtain⟨j,want⟩:=x
  simp only
  constructor
  ·refine⟨fun ⟨e,h1,h2⟩=>⟨e,h1,?_⟩,fun ⟨e,h1,h2⟩=>⟨e,h1,?_⟩⟩
   ·rwa [getT_put (fun e'=>h e e' (looks_guard hg h1))] at h2
   ·rwa [getT_put (fun e'=>h e e' (looks_guard hg h1))]
  ·refine⟨fun ⟨e,h1,h2⟩=>⟨e,h1,?_⟩,fun ⟨e,h1,h2⟩=>⟨e,h1,?_⟩⟩
   ·rwa [getT_put (fun e'=>h e e' (looks_guard hg h1))] at h2
   ·rwa [getT_put (fun e'=>h e e' (looks_guard hg h1))]
theorem putT_comm {t:List SV} {d e:Option Nat} {u v:SV} (h:∀ n,d=some n→e≠some n):putT (putT t d u) e v=putT (putT t e v) d u:=by
 cases d with
 | none=>rfl
 | some d =>
  cases e with
  | none=>rfl
  | some e =>
   simp only [putT]
   exact List.set_comm _ _ (fun e'=>h d rfl (by rw [e']))
structure Apart (ops:Array Oper) (base:Nat) (V W:Nat→List Nat) (i j:Nat):Prop where
  ap:∀ o o',ops[i]? = some o→ops[j]? = some o'→o.apart ops o'=true
  ij:∀ b,b ∈ (base+i) :: W i→b ∉ V j∧b ∉ W j
  ji:∀ b,b ∈ (base+j) :: W j→b ∉ V i∧b ∉ W i
  uu:∀ b,b ∈ (base+i) :: W i→b ∉ (base+j) :: W j
theorem Act1.comm {X:Ctx} {fid:FuncId} {ops:Array Oper} {base:Nat} {V W:Nat→List Nat} {i j:Nat} (hA:Apart ops base V W i j) (s a b:St) (h:Act1 X fid ops base V W i s a) (h':Act1 X fid ops base V W j a b) :
  ∃ a',Act1 X fid ops base V W j s a'∧Act1 X fid ops base V W i a' b:=by
 obtain⟨o,ho,h⟩:=h
 obtain⟨o',ho',h'⟩:=h'
 obtain⟨p1,p2,p3⟩:=Oper.apart_spec (hA.ap o o' ho ho')
 have swap:∀ u v,putT (putT s.t o.dst u) o'.dst v=putT (putT s.t o'.dst v) o.dst u:=fun u v=>putT_comm p2
 rcases h with ⟨g,hV,hW,v,m1,e,rfl⟩|⟨g,rfl⟩<;>rcases h' with ⟨g',hV',hW',v',m2,e',rfl⟩|⟨g',rfl⟩
 ·have e1:=evs_put (ops:=ops) (o:=o') (t:=s.t) (v:=v) p1
  have e2:=evs_put (ops:=ops) (o:=o) (t:=s.t) (v:=v') p3
  refine⟨⟨putT s.t o'.dst v',merge ((base+j) :: W j) s.m m2⟩,⟨o',ho',Or.inl ⟨(on_put p1).1.1 g',by rw [←hV',names_congr e1],by rw [←hW',writes_congr e1],v',m2,?_,rfl⟩⟩,⟨o,ho,Or.inl ⟨(on_put p3).1.2 g,by rw [names_congr e2,hV],by rw [writes_congr e2,hW],v,m1,?_,?_⟩⟩⟩
  ·simp only at e'
   rw [opx_congr _ e1,mask_merge hA.ij] at e'
   exact e'
  ·simp only
   rw [opx_congr _ e2,mask_merge hA.ji]
   exact e
  ·simp only [St.mk.injEq]
   exact⟨swap v v',merge_comm (fun b hb hb'=>hA.uu b hb' hb)⟩
 ·have e2:=evs_put (ops:=ops) (o:=o) (t:=s.t) (v:=.v undef) p3
  refine⟨⟨putT s.t o'.dst (.v undef),s.m⟩,⟨o',ho',Or.inr ⟨(on_put p1).2.1 g',rfl⟩⟩,⟨o,ho,Or.inl ⟨(on_put p3).1.2 g,by rw [names_congr e2,hV],by rw [writes_congr e2,hW],v,m1,?_,?_⟩⟩⟩
  ·simp only
   rw [opx_congr _ e2]
   exact e
  ·simp only [St.mk.injEq]
   exact⟨swap v (.v undef),trivial⟩
 ·have e1:=evs_put (ops:=ops) (o:=o') (t:=s.t) (v:=.v undef) p1
  refine⟨⟨putT s.t o'.dst v',merge ((base+j) :: W j) s.m m2⟩,⟨o',ho',Or.inl ⟨(on_put p1).1.1 g',by rw [←hV',names_congr e1],by rw [←hW',writes_congr e1],v',m2,?_,rfl⟩⟩,⟨o,ho,Or.inr ⟨(on_put p3).2.2 g,?_⟩⟩⟩
  ·simp only at e'
   rw [opx_congr _ e1] at e'
   exact e'
  ·simp only [St.mk.injEq]
   exact⟨swap (.v undef) v',trivial⟩
 ·refine⟨⟨putT s.t o'.dst (.v undef),s.m⟩,⟨o',ho',Or.inr ⟨(on_put p1).2.1 g',rfl⟩⟩,⟨o,ho,Or.inr ⟨(on_put p3).2.2 g,?_⟩⟩⟩
  simp only [St.mk.injEq]
  exact⟨swap (.v undef) (.v undef),trivial⟩
theorem none4_ok (P:Program):RecOk P (none4 (R:=R)):=fun _ _ _ _ _ h=>by cases h
theorem act_ok {X:Ctx} (hX:XOk P X) {fid:FuncId} {ops:Array Oper} {base:Nat} {V W:Nat→List Nat} {i:Nat} {s s':St} (h:Act1 X fid ops base V W i s s') {a:Act} {Q:Exit→Act→World→Prop} {next:Act→World→Prop}
  (hm:MInv B F G s.m w) (hf:base+i<s.m.length) (hfree:G (base+i)=none) (ht:SReps (rc F G s.m w) s.t a.tmps.toList)
  (hn:∀ (a':Act) w' G',After B F G s.m w G' s'.m w'→SReps (rc F G' s'.m w') s'.t a'.tmps.toList→a'.defers=a.defers→(∀ b,b≠base+i→G b=none→G' b=none)→next a' w'):wpOp P ops Q i next a w:=by
 obtain⟨o,ho,h⟩:=h
 unfold wpOp
 rw [ho]
 simp only
 rcases h with ⟨g,hV,hW,v,m',e,rfl⟩|⟨g,rfl⟩
 ·have hw:Region.wanted o (yielded ops a.tmps)=true:=by
   unfold guardOn at g
   unfold Region.wanted
   cases hg:o.guard with
   | none=>rfl
   | some x =>
    obtain⟨j,want⟩:=x
    rw [hg] at g
    obtain⟨d,h1,h2⟩:=g
    have hb:=getT_bool ht h2
    simp [yielded,h1,hb]
  rw [if_pos hw]
  refine Or.inl ?_
  have hmk:=mask_inv (V:=V i) (W:=W i) hm
  have ht':SReps (rc (hid F G s.m (mask (V i) (W i) s.m)) G (mask (V i) (W i) s.m) w) s.t a.tmps.toList:=by
   rw [rc,bad_mask];exact ht
  have hkeep:=opx_keeps e
  refine opx_ok (s:=⟨s.t,mask (V i) (W i) s.m⟩) (p:=some (base+i)) hX (none4_ok P) hmk ⟨by rw [mask_len];exact hf,hfree⟩ ht' e next Q fun v2 m2 U w' G' haf hv hk hg=>?_
  obtain⟨rfl,rfl⟩:=Prod.mk.inj (Option.some.inj hk)
  obtain⟨haf',hle⟩:=unmask hm hfree hkeep haf
  refine hn _ _ G' haf' (put_rep (ht.le haf'.le) (hv.le hle) o.dst) (put_defers _ _ _) (fun b hb hGb=>?_)
  rcases hg with hg|⟨f,as,K',h⟩
  ·rw [hg b hb];exact hGb
  ·cases h
 ·have hw:Region.wanted o (yielded ops a.tmps)=false:=by
   unfold guardOff at g
   unfold Region.wanted
   cases hg:o.guard with
   | none=>rw [hg] at g;exact g.elim
   | some x =>
    obtain⟨j,want⟩:=x
    rw [hg] at g
    obtain⟨d,h1,h2|⟨x,h2⟩⟩:=g
    ·have hb:=getT_bool ht h2
     cases want<;>simp [yielded,h1,hb]
    ·have hb:=getT_tuple ht h2
     simp [yielded,h1,hb]
  rw [if_neg (by rw [hw];simp)]
  exact hn _ _ G (After.refl hm) (put_rep ht (by simp only [SRep]) o.dst) (put_defers _ _ _) (fun _ _ h=>h)
end Go.Proofs.Ytkeedfiffjpnfaa.X
end
section
set_option linter.unusedVariables false
set_option linter.unusedSimpArgs false
namespace Go.Proofs.Ytkeedfiffjpnfaa.X
open Go Go.RowKit
set_option linter.unusedVariables false
set_option linter.unusedSimpArgs false
variable {P:Program} {B:Nat} {F:Nat→Prop} {G:Nat→Option Value} {m:Mem} {w:World} {C:RC} {R:Type} {r:R}
def Closed (ops:Array Oper) (D:Nat→Bool):Prop:=∀ j o,D j=true→ops[j]? = some o→∀ e ∈ o.after,Region.binds .any e=true→D e.on=true
theorem fold_bits {acc:List Nat} {i:Nat}:∀ {l:List Edge} {s:Nat},(l.foldl (fun s e=>if Region.binds .any e=true then s ||| (1 <<< e.on) ||| acc.getD e.on 0 else s) s).testBit i=true →
  s.testBit i=true∨∃ e ∈ l,Region.binds .any e=true∧(i=e.on∨(acc.getD e.on 0).testBit i=true):=by
 intro l
 induction l with
 | nil=>intro s h;exact Or.inl h
 | cons e l ih =>
  intro s h
  simp only [List.foldl_cons] at h
  rcases ih h with h1|⟨e',he',h2⟩
  ·by_cases hb:Region.binds .any e=true
   ·rw [if_pos hb,Nat.testBit_or,Nat.testBit_or,Bool.or_eq_true,Bool.or_eq_true] at h1
    rcases h1 with (h1|h1)|h1
    ·exact Or.inl h1
    ·refine Or.inr ⟨e,by simp,hb,Or.inl ?_⟩
     rw [Nat.one_shiftLeft,Nat.testBit_two_pow] at h1
     simpa using (of_decide_eq_true h1).symm
    ·exact Or.inr ⟨e,by simp,hb,Or.inr h1⟩
   ·rw [if_neg hb] at h1;exact Or.inl h1
  ·exact Or.inr ⟨e',by simp [he'],h2⟩
def BitsOk (ops:Array Oper) (acc:List Nat):Prop:=∀ j i,(acc.getD j 0).testBit i=true→∀ o,ops[j]? = some o→∀ D,Closed ops D→(∀ e ∈ o.after,Region.binds .any e=true→D e.on=true)→D i=true
theorem bitsL_ok {ops:Array Oper}:∀ {l:List Oper} {acc:List Nat},ops.toList.drop acc.length=l→BitsOk ops acc→BitsOk ops (bitsL l acc):=by
 intro l
 induction l with
 | nil=>intro acc _ h;exact h
 | cons o l ih =>
  intro acc hl h
  simp only [bitsL]
  have hoi:ops[acc.length]? = some o:=by
   have:(ops.toList.drop acc.length)[0]? = some o:=by rw [hl];rfl
   simpa using this
  refine ih ?_ ?_
  ·have:=congrArg List.tail hl
   simpa [List.tail_drop] using this
  ·intro j i hb o' ho' D hD he
   rcases Nat.lt_trichotomy j acc.length with hj|hj|hj
   ·rw [List.getD_eq_getElem?_getD,List.getElem?_append_left hj] at hb
    exact h j i (by rw [List.getD_eq_getElem?_getD];exact hb) o' ho' D hD he
   ·subst hj
    rw [hoi] at ho'
    obtain rfl:=Option.some.inj ho'
    rw [List.getD_eq_getElem?_getD,List.getElem?_append_right (Nat.le_refl _)] at hb
    simp only [Nat.sub_self,List.getElem?_cons_zero,Option.getD_some] at hb
    unfold bitsOf at hb
    rcases fold_bits hb with h1|⟨e,he1,hbi,h1⟩
    ·simp at h1
    ·have hin:e ∈ o.after:=by simpa using he1
     have hDe:=he e hin hbi
     rcases h1 with rfl|h1
     ·exact hDe
     ·cases hoe:ops[e.on]? with
      | none =>
       have hge:acc.length≤e.on:=by
        rcases Nat.lt_or_ge e.on acc.length with h2|h2
        ·have h3:ops.size≤e.on:=by simpa using hoe
         have h4:acc.length<ops.size:=(Array.getElem?_eq_some_iff.1 hoi).1
         omega
        ·exact h2
       rw [List.getD_eq_getElem?_getD,List.getElem?_eq_none hge] at h1
       simp at h1
      | some oe=>exact h e.on i h1 oe hoe D hD (fun e' he' hb'=>hD e.on oe hDe hoe e' he' hb')
   ·rw [List.getD_eq_getElem?_getD,List.getElem?_eq_none (by simp;omega)] at hb
    simp at hb
theorem backOk_at:∀ {l:List Oper} {k:Nat},backOk l k=true→∀ {i:Nat} {o:Oper},l[i]? = some o→∀ e ∈ o.after,Region.binds .any e=true→e.on<k+i:=by
 intro l
 induction l with
 | nil=>intro k _ i o h;simp at h
 | cons x l ih =>
  intro k h i o hi e he hb
  simp only [backOk,Bool.and_eq_true,List.all_eq_true] at h
  cases i with
  | zero =>
   simp at hi
   subst hi
   have:=h.1 e (by simpa using he)
   simpa [hb] using this
  | succ i =>
   simp at hi
   have:=ih h.2 hi e he hb
   omega
theorem set_same:∀ {t:List SV} {d:Nat} {s:SV},getT t d=s→s≠.junk→t.set d s=t:=by
 intro t d s h hs
 apply List.ext_getElem?
 intro i
 rw [List.getElem?_set]
 split
 ·rename_i e
  subst e
  rw [getT_some] at h
  cases ht:t[d]? with
  | none=>rw [ht] at h;exact absurd h.symm hs
  | some x =>
   rw [ht] at h
   simp only [Option.getD_some] at h
   subst h
   have hlt:=(List.getElem?_eq_some_iff.1 ht).1
   simp [hlt]
 ·rfl
theorem opd_act {X:Ctx} {fid:FuncId} {ops:Array Oper} {base i:Nat} {o:Oper} {s:St} {K:List Nat→List Nat→St→Option R} (ho:ops[i]? = some o) (h:opd X fid (base+i) ops o s K=some r) :
  ∃ V W s',K V W s'=some r∧∀ VV WW:Nat→List Nat,VV i=V→WW i=W→Act1 X fid ops base VV WW i s s':=by
 unfold opd at h
 split at h
 ·rename_i hg
  obtain⟨v,hk,hD⟩:=opx_nat h
  refine⟨_,_,_,hk,fun VV WW hV hW=>⟨o,ho,Or.inl ⟨by simp [guardOn,hg],hV.symm,hW.symm,v.1,v.2,?_,by rw [hW]⟩⟩⟩
  rw [hV,hW]
  exact hD _ _
 ·rename_i j want hg
  split at h
  ·rename_i d hd
   split at h
   ·rename_i c hc
    cases hcw:eqB c want with
    | true =>
     rw [hcw] at h
     simp only [cond_true] at h
     have e:c=want:=by cases c<;>cases want<;>first|rfl|cases hcw
     subst e
     rw [set_same hc (by simp)] at h
     obtain⟨v,hk,hD⟩:=opx_nat h
     refine⟨_,_,_,hk,fun VV WW hV hW=>⟨o,ho,Or.inl ⟨by simp only [guardOn,hg];exact⟨d,hd,hc⟩,hV.symm,hW.symm,v.1,v.2,?_,by rw [hW]⟩⟩⟩
     rw [hV,hW]
     exact hD _ _
    | false =>
     rw [hcw] at h
     simp only [cond_false] at h
     have e:c=!want:=by cases c<;>cases want<;>first|rfl|cases hcw
     subst e
     rw [set_same hc (by simp)] at h
     exact⟨_,_,_,h,fun VV WW hV hW=>⟨o,ho,Or.inr ⟨by simp only [guardOff,hg];exact⟨d,hd,Or.inl hc⟩,rfl⟩⟩⟩
   ·rename_i x hc
    exact⟨_,_,_,h,fun VV WW hV hW=>⟨o,ho,Or.inr ⟨by simp only [guardOff,hg];exact⟨d,hd,Or.inr ⟨x,hc⟩⟩,rfl⟩⟩⟩
   ·cases h
  ·cases h
theorem drawGo_chain {X:Ctx} {fid:FuncId} {ops:Array Oper} {base:Nat}:∀ {l:List Oper} {i:Nat} {ds:List Dr} {s:St} {K:List Dr→St→Option R},ops.toList.drop i=l→drawGo X fid ops base i l ds s K=some r →
  ∃ (new:List Dr) (s':St),K (ds++new) s'=some r∧new.length=l.length∧(∀ (k:Nat) d,new[k]? = some d→d.i=i+k) ∧
   ∀ V W:Nat→List Nat,(∀ (k:Nat) d,new[k]? = some d→V (i+k)=d.V∧W (i+k)=d.W)→Chain (Act1 X fid ops base V W) (List.range' i l.length) s s':=by
 intro l
 induction l with
 | nil =>
  intro i ds s K _ h
  simp only [drawGo] at h
  exact⟨[],s,by simpa using h,rfl,by simp,fun V W _=>rfl⟩
 | cons o l ih =>
  intro i ds s K hl h
  have hoi:ops[i]? = some o:=by
   have:(ops.toList.drop i)[0]? = some o:=by rw [hl];rfl
   simpa using this
  simp only [drawGo] at h
  obtain⟨V0,W0,s1,hk,hact⟩:=opd_act hoi h
  obtain⟨new,s',h1,h2,h3,h4⟩:=ih (by have:=congrArg List.tail hl;simpa [List.tail_drop] using this) hk
  refine⟨⟨i,V0,W0⟩ :: new,s',by simpa using h1,by simp [h2],fun k d hd=>?_,fun V W hVW=>?_⟩
  ·cases k with
   | zero=>simp at hd;subst hd;rfl
   | succ k=>simp at hd;have:=h3 k d hd;omega
  ·simp only [List.length_cons,List.range'_succ]
   have h0:=hVW 0 ⟨i,V0,W0⟩ rfl
   refine⟨s1,hact V W h0.1 h0.2,h4 V W fun k d hd=>?_⟩
   have:=hVW (k+1) d (by simpa using hd)
   rw [show i+1+k=i+(k+1) by omega]
   exact this
theorem disj_iff {a b:List Nat} (h:disj a b=true):∀ x,x ∈ a→x ∉ b:=by
 intro x hx hb
 unfold disj at h
 rw [List.all_eq_true] at h
 have:=h x hx
 rw [hasN_iff.2 hb] at this
 cases this
theorem apart_of {ops:Array Oper} {base:Nat} {ds:List Dr} {V W:Nat→List Nat} (h:drawsOk ops base ds=true) (hds:∀ i d,ds[i]? = some d→d.i=i∧V i=d.V∧W i=d.W) (hl:ds.length=ops.size) {i j:Nat} (hij:i<j) (hj:j<ops.size)
  {D:Nat→Bool} (hD:Closed ops D) (hi:D i=false) (hjr:∀ o,ops[j]? = some o→∀ e ∈ o.after,Region.binds .any e=true→D e.on=true):Apart ops base V W i j:=by
 unfold drawsOk at h
 simp only [Bool.and_eq_true,List.all_eq_true] at h
 obtain⟨hb,h⟩:=h
 obtain⟨x,hx⟩:∃ x,ds[i]? = some x:=⟨ds[i]'(by omega),by simp [show i<ds.length by omega]⟩
 obtain⟨y,hy⟩:∃ y,ds[j]? = some y:=⟨ds[j]'(by omega),by simp [show j<ds.length by omega]⟩
 obtain⟨ex,vx,wx⟩:=hds i x hx
 obtain⟨ey,vy,wy⟩:=hds j y hy
 have hm:=h y (List.mem_of_getElem? hy) x (List.mem_of_getElem? hx)
 unfold meetOk at hm
 rw [ex,ey,decide_eq_true hij] at hm
 simp only [Bool.true_and,Bool.not_true,Bool.or_false,Bool.or_eq_true] at hm
 obtain⟨oj,hoj⟩:∃ o,ops[j]? = some o:=⟨ops[j],by simp [hj]⟩
 obtain⟨oi,hoi⟩:∃ o,ops[i]? = some o:=⟨ops[i]'(by omega),by simp [show i<ops.size by omega]⟩
 have hbits:BitsOk ops (bitsL ops.toList []):=bitsL_ok (by simp) (by intro j i h;simp at h)
 rcases hm with hm|hm
 ·have:=hbits j i hm oj hoj D hD (hjr oj hoj)
  rw [hi] at this;cases this
 ·rw [hoi,hoj] at hm
  simp only [Bool.and_eq_true] at hm
  obtain⟨⟨⟨h1,h2⟩,h3⟩,h4⟩:=hm
  have d2:=disj_iff h2
  have d3:=disj_iff h3
  have d4:=disj_iff h4
  rw [←wx,←vy,←wy] at d2
  rw [←wy,←vx,←wx] at d3
  rw [←wx,←wy] at d4
  refine⟨fun o o' e1 e2=>?_,fun b hb'=>?_,fun b hb'=>?_,d4⟩
  ·rw [hoi] at e1;rw [hoj] at e2
   obtain rfl:=Option.some.inj e1
   obtain rfl:=Option.some.inj e2
   exact h1
  ·have:=d2 b hb'
   simp only [List.mem_append,not_or] at this
   exact this
  ·have:=d3 b hb'
   simp only [List.mem_append,not_or] at this
   exact this
theorem pad_inv {n:Nat} (hm:MInv B F G m w):After B F G m w G (m++List.replicate n none) w:=by
 have look:∀ (b:Nat) (x:Bool × Blk),(m++List.replicate n none)[b]? = some (some x)→m[b]? = some (some x):=by
  intro b x h
  rcases Nat.lt_or_ge b m.length with hlt|hge
  ·rwa [List.getElem?_append_left hlt] at h
  ·rw [List.getElem?_append_right hge,List.getElem?_replicate] at h
   split at h<;>cases h
 have back:∀ (b:Nat) (x:Bool × Blk),m[b]? = some (some x)→(m++List.replicate n none)[b]? = some (some x):=by
  intro b x h
  rw [List.getElem?_append_left (List.getElem?_eq_some_iff.1 h).1];exact h
 have hbad:badOf F G (m++List.replicate n none)=badOf F G m:=by
  funext g
  apply propext
  constructor
  ·rintro(h|⟨b,r,k,V,h1,h2,h3⟩)
   ·exact Or.inl h
   ·exact Or.inr ⟨b,r,k,V,look _ _ h1,h2,h3⟩
  ·rintro(h|⟨b,r,k,V,h1,h2,h3⟩)
   ·exact Or.inl h
   ·exact Or.inr ⟨b,r,k,V,back _ _ h1,h2,h3⟩
 refine⟨⟨hm.sz,hm.fr,fun b r k V g h=>hm.fo b r k V g (look _ _ h),fun b hb=>hm.len b (by simp at hb;omega),fun b r k h=>?_,fun b r k b' r' k' V V' g h1 h2=>hm.inj _ _ _ _ _ _ _ _ _ (look _ _ h1) (look _ _ h2),fun b r k V g h=>hm.ge b r k V g (look _ _ h)⟩,fun _ _ h=>h,Grow.refl _ _,fun g _ h=>by rw [hbad];exact h,?_⟩
 ·obtain⟨V,hV,hr⟩:=hm.blk _ _ _ (look _ _ h)
  exact⟨V,hV,by rw [rc,hbad];exact hr⟩
 ·rintro g _ ⟨b,k,V,h1,h2,h3⟩
  exact⟨b,k,V,look _ _ h1,h2,h3⟩
theorem count_zero {l:Array Bool} (h:l.toList.count false=0) (j:Nat) (hj:j<l.size):l.getD j false=true:=by
 have:=List.count_eq_zero.1 h
 have h2:l.toList[j]'(by simpa using hj)≠false:=fun e=>this (e▸List.getElem_mem _)
 simp only [Array.getElem_toList] at h2
 rw [Array.getD_eq_getD_getElem?,Array.getElem?_eq_getElem hj]
 simpa using h2
theorem count_set {l:Array Bool} {i:Nat} (hi:i<l.size) (h:l[i]=false):(l.setIfInBounds i true).toList.count false+1=l.toList.count false:=by
 rw [Array.toList_setIfInBounds,List.count_set (by simpa using hi)]
 have hpos:0<l.toList.count false:=List.count_pos_iff.2 (by rw [←h];exact Array.getElem_mem_toList hi)
 have e1:(l.toList[i]'(by simpa using hi) == false)=true:=by rw [Array.getElem_toList,h];rfl
 rw [if_pos e1,if_neg (by decide)]
 omega
theorem drawx_ok {X:Ctx} (hX:XOk P X) {fid:FuncId} {id:Nat} {ops:Array Oper} {s:St} {K:St→Option R} {a:Act} {Q:Exit→Act→World→Prop} (hm:MInv B F G s.m w) (ht:SReps (rc F G s.m w) s.t a.tmps.toList)
  (h:drawx X fid ops s K=some r) (hn:∀ (s':St) (a':Act) w' G',After B F G s.m w G' s'.m w'→SReps (rc F G' s'.m w') s'.t a'.tmps.toList→a'.defers=a.defers→K s'=some r→Q .normal a' w') :
  (Code.region id ops true).wp P Q a w:=by
 refine wp_region_any hX.mixed ?_
 unfold drawx at h
 obtain⟨new,sn,h1,h2,h3,h4⟩:=drawGo_chain (by simp) h
 simp only [List.nil_append] at h1
 split at h1
 ·rename_i hok
  let V:Nat→List Nat:=fun i=>((new[i]?).map (·.V)).getD []
  let W:Nat→List Nat:=fun i=>((new[i]?).map (·.W)).getD []
  have hVW:∀ (i:Nat) d,new[i]? = some d→d.i=i∧V i=d.V∧W i=d.W:=fun i d hd=>⟨by have:=h3 i d hd;omega,by simp [V,hd],by simp [W,hd]⟩
  have full:=h4 V W fun k d hd=>by rw [Nat.zero_add];exact(hVW k d hd).2
  have hlen:new.length=ops.size:=by rw [h2];simp
  rw [←List.range_eq_range'] at full
  simp only [Array.length_toList] at full
  have back:∀ i o,ops[i]? = some o→∀ e ∈ o.after,Region.binds .any e=true→e.on<i:=by
   intro i o hi e he hb
   have hbk:backOk ops.toList 0=true:=by
    unfold drawsOk at hok
    simp only [Bool.and_eq_true] at hok
    exact hok.1
   have:=backOk_at hbk (i:=i) (o:=o) (by simpa using hi) e he hb
   omega
  have main:∀ (fuel:Nat) (listed:Array Bool) (a':Act) (w':World) (s':St) (G':Nat→Option Value),listed.size=ops.size→listed.toList.count false≤fuel →
    Closed ops (fun j=>listed.getD j false)→Chain (Act1 X fid ops s.m.length V W) ((List.range ops.size).filter fun j=>listed.getD j false) ⟨s.t,s.m++List.replicate ops.size none⟩ s' →
    After B F G s.m w G' s'.m w'→SReps (rc F G' s'.m w') s'.t a'.tmps.toList→a'.defers=a.defers→s'.m.length=s.m.length+ops.size→(∀ j,j<ops.size→listed.getD j false=false→G' (s.m.length+j)=none) →
    wpAny P .any ops Q fuel listed a' w':=by
   intro fuel
   have last:∀ (listed:Array Bool) (a':Act) (w':World) (s':St) (G':Nat→Option Value),listed.size=ops.size→Region.ready .any ops listed=[]→Chain (Act1 X fid ops s.m.length V W) ((List.range ops.size).filter fun j=>listed.getD j false) ⟨s.t,s.m++List.replicate ops.size none⟩ s' →
     After B F G s.m w G' s'.m w'→SReps (rc F G' s'.m w') s'.t a'.tmps.toList→a'.defers=a.defers→Q .normal a' w':=by
    intro listed a' w' s' G' hsz hr hc haf ht' hd
    have hall:∀ j,j<ops.size→listed.getD j false=true:=by
     intro j
     induction j using Nat.strongRecOn with
     | _ j ih =>
      intro hj
      cases hv:listed.getD j false with
      | true=>rfl
      | false =>
       exfalso
       have:j ∈ Region.ready .any ops listed:=by
        refine mem_ready.2 ⟨?_,ops[j],by simp [hj],fun e he hb=>?_⟩
        ·rw [Array.getD_eq_getD_getElem?,Array.getElem?_eq_getElem (by omega)] at hv ⊢
         simpa using hv
        ·have:=back j ops[j] (by simp [hj]) e he hb
         exact ih e.on this (by omega)
       rw [hr] at this;cases this
    have hf:((List.range ops.size).filter fun j=>listed.getD j false)=List.range ops.size:=by
     rw [List.filter_eq_self]
     intro j hj
     exact hall j (by simpa using hj)
    rw [hf] at hc
    obtain rfl:=Chain.det (fun i=>Act1.det i) hc full
    exact hn _ _ _ _ haf ht' hd h1
   induction fuel with
   | zero =>
    intro listed a' w' s' G' hsz hcnt hcl hc haf ht' hd hlm hfree
    have hr:Region.ready .any ops listed=[]:=by
     rw [List.eq_nil_iff_forall_not_mem]
     intro j hj
     obtain⟨h5,o,h6,_⟩:=mem_ready.1 hj
     have hj':j<listed.size:=by rw [hsz];exact(Array.getElem?_eq_some_iff.1 h6).1
     have h7:=count_zero (by omega) j hj'
     rw [Array.getD_eq_getD_getElem?,Array.getElem?_eq_getElem hj'] at h5 h7
     simp at h5 h7
     rw [h5] at h7;cases h7
    exact⟨hr,last listed a' w' s' G' hsz hr hc haf ht' hd⟩
   | succ fuel ih =>
    intro listed a' w' s' G' hsz hcnt hcl hc haf ht' hd hlm hfree
    refine⟨fun hr=>last listed a' w' s' G' hsz hr hc haf ht' hd,fun i hi=>?_⟩
    obtain⟨h5,o,h6,h7⟩:=mem_ready.1 hi
    have hin:i<ops.size:=(Array.getElem?_eq_some_iff.1 h6).1
    have hil:i<listed.size:=by omega
    have hli:listed[i]=false:=by
     rw [Array.getD_eq_getD_getElem?,Array.getElem?_eq_getElem hil] at h5
     simpa using h5
    have hDi:listed.getD i false=false:=by
     rw [Array.getD_eq_getD_getElem?,Array.getElem?_eq_getElem hil]
     simpa using hli
    have hcl2:Closed ops (fun j=>listed.getD j false || j == i):=by
     intro j oj hj hoj e he hb
     simp only [Bool.or_eq_true,beq_iff_eq] at hj ⊢
     rcases hj with hj|rfl
     ·exact Or.inl (hcl j oj hj hoj e he hb)
     ·rw [h6] at hoj
      obtain rfl:=Option.some.inj hoj
      exact Or.inl (h7 e he hb)
    obtain⟨s2,hact,hc2⟩:=Chain.next (fun i=>Act1.det i) full (fun j=>listed.getD j false) i hin hDi hc
     (fun x y hxy hy hx hyD s x1 y1 e1 e2=>Act1.comm (apart_of hok hVW hlen hxy hy hcl2 hx (fun oy hoy e he hb=>hcl2 y oy hyD hoy e he hb)) s x1 y1 e1 e2)
     (fun y hiy hy hyD s x1 y1 e1 e2=>Act1.comm (apart_of hok hVW hlen hiy hy hcl hDi (fun oy hoy e he hb=>hcl y oy hyD hoy e he hb)) s x1 y1 e1 e2)
    refine act_ok hX hact haf.minv (by rw [hlm];omega) (hfree i hin hDi) ht' fun a2 w2 G2 haf2 ht2 hd2 hg2=>?_
    have hset:∀ j,(listed.setIfInBounds i true).getD j false=(listed.getD j false || j == i):=by
     intro j
     by_cases e:i=j
     ·subst e;simp [hil]
     ·rw [getD_set_ne false e]
      have:(j == i)=false:=by simpa using fun e'=>e e'.symm
      rw [this,Bool.or_false]
    have hm2:s2.m.length=s'.m.length:=by
     obtain⟨o',_,⟨_,_,_,v,m',_,rfl⟩|⟨_,rfl⟩⟩:=hact
     ·exact merge_len _ _ _
     ·rfl
    refine ih (listed.setIfInBounds i true) a2 w2 s2 G2 (by simpa using hsz) (by have:=count_set hil hli;omega) ?_ ?_ (haf.trans haf2) ht2 (hd2.trans hd) (by rw [hm2,hlm]) ?_
    ·have:(fun j=>(listed.setIfInBounds i true).getD j false)=(fun j=>listed.getD j false || j == i):=funext hset
     rw [this];exact hcl2
    ·have:(fun j=>(listed.setIfInBounds i true).getD j false)=(fun j=>listed.getD j false || j == i):=funext hset
     rw [this];exact hc2
    ·intro j hj hjl
     rw [hset] at hjl
     simp only [Bool.or_eq_false_iff,beq_eq_false_iff_ne] at hjl
     exact hg2 _ (by omega) (hfree j hj hjl.1)
  have hdr:=after_foreign hm (grow_drew w _)
  have hpad:=pad_inv (n:=ops.size) hdr.minv
  have haf:=hdr.trans hpad
  have hnone:((List.range ops.size).filter fun j=>(Array.replicate ops.size false).getD j false)=[]:=by
   rw [List.filter_eq_nil_iff]
   intro j hj
   have:j<ops.size:=by simpa using hj
   simp [this]
  refine main ops.size (Array.replicate ops.size false) a w.drew ⟨s.t,s.m++List.replicate ops.size none⟩ G (by simp) (by simp) ?_ (by rw [hnone];rfl) haf (ht.le haf.le) rfl (by simp) (fun j hj _=>hm.len _ (by omega))
  intro j o hj ho
  have:j<ops.size:=(Array.getElem?_eq_some_iff.1 ho).1
  simp [this] at hj
 ·cases h1
end Go.Proofs.Ytkeedfiffjpnfaa.X
end
