/- Lemmas of the rows, laid by a program. -/
import Derived.Test.YtgmkppeghnlcmaaYM3
section
set_option linter.unusedVariables false
set_option linter.unusedSimpArgs false
namespace Go.Proofs.Ytgmkppeghnlcmaa.X
open Go Go.RowKit
set_option linter.unusedVariables false
set_option linter.unusedSimpArgs false
variable {P:Program} {B:Nat} {F:Nat→Prop} {G:Nat→Option Value} {m:Mem} {w:World} {C:RC} {R:Type}
theorem idx_some:∀ {l:List Nat} {b i:Nat},idx l b=some i→l[i]? = some b:=by
 intro l
 induction l with
 | nil=>intro b i h;simp [idx] at h
 | cons x l ih =>
  intro b i h
  simp only [idx] at h
  split at h
  ·rename_i e;obtain rfl:=Option.some.inj h;simp [e]
  ·split at h
   ·rename_i j hj
    obtain rfl:=Option.some.inj h
    simpa using ih hj
   ·cases h
theorem nodup_of:∀ {l:List Nat},nodupB l=true→l.Nodup:=by
 intro l
 induction l with
 | nil=>intro _;exact List.nodup_nil
 | cons x l ih =>
  intro h
  simp only [nodupB,Bool.and_eq_true,Bool.not_eq_true'] at h
  refine List.nodup_cons.2 ⟨?_,ih h.2⟩
  have:=h.1
  simpa using this
mutual
theorem ren_rep {C C':RC} {f:Nat→Option Nat} (hw:C'.w=C.w) (hG:∀ b i,f b=some i→C'.G i=C.G b) (hb:∀ g,g<C.w.heap.size→¬C.bad g→¬C'.bad g):∀ {s:SV} {V:Value},SRep C s V→SRep C' (ren f s) V
  | .v x,V,h=>by simpa only [ren,SRep] using h
  | .agg l,V,h=>by
    simp only [ren,SRep] at h ⊢
    obtain⟨vs,hv,hl⟩:=h
    exact⟨vs,hv,rens_rep hw hG hb hl⟩
  | .tup l,V,h=>by
    simp only [ren,SRep] at h ⊢
    obtain⟨vs,hv,hl⟩:=h
    exact⟨vs,hv,rens_rep hw hG hb hl⟩
  | .ptr b off,V,h=>by
    simp only [ren]
    cases hf:f b with
    | none=>simp only [SRep]
    | some i =>
      simp only [SRep] at h ⊢
      obtain⟨g,hg,hv⟩:=h
      exact⟨g,by rw [hG b i hf];exact hg,hv⟩
  | .seq K xs,V,h=>by
    simp only [ren]
    cases hnp:K.np with
    | false=>simp only [SRep]
    | true =>
      simp only [SRep] at h ⊢
      exact(h.np (K:=.sl K) (G':=C'.G) hnp).le (fun _ _ h=>h) (by rw [hw];exact Nat.le_refl _) (fun _ _ _=>by rw [hw]) hb
  | .own b,V,h=>by
    simp only [ren]
    cases hf:f b with
    | none=>simp only [SRep]
    | some i =>
      simp only [SRep] at h ⊢
      exact⟨by rw [hG b i hf];exact h.1,h.2⟩
  | .arr b off n c,V,h=>by
    simp only [ren]
    cases hf:f b with
    | none=>simp only [SRep]
    | some i =>
      simp only [SRep] at h ⊢
      obtain⟨g,hg,hv⟩:=h
      exact⟨g,by rw [hG b i hf];exact hg,hv⟩
  | .rptr K x off,V,h=>by
    simp only [ren]
    cases hnp:K.np with
    | false=>simp only [SRep]
    | true =>
      simp only [SRep] at h ⊢
      obtain⟨q,o,Us,hv,hlt,hnb,hc,hk⟩:=h
      exact⟨q,o,Us,hv,by rw [hw];exact hlt,hb _ hlt hnb,by rw [hw];exact hc,(hk.np (G':=C'.G) hnp).le (fun _ _ h=>h) (by rw [hw];exact Nat.le_refl _) (fun _ _ _=>by rw [hw]) hb⟩
  | .eptr b sz i o,V,h=>by
    simp only [ren]
    cases hf:f b with
    | none=>simp only [SRep]
    | some j =>
      simp only [SRep] at h ⊢
      obtain⟨g,n,c,hg,hv⟩:=h
      exact⟨g,n,c,by rw [hG b j hf];exact hg,hv⟩
  | .emp,V,h=>by simpa only [ren,SRep] using h
  | .fn g x y,V,h=>by
    simp only [ren,SRep] at h ⊢
    obtain⟨xs,ys,hv,h1,h2⟩:=h
    exact⟨xs,ys,hv,rens_rep hw hG hb h1,rens_rep hw hG hb h2⟩
  | .junk,V,h=>by simp only [ren,SRep]
theorem rens_rep {C C':RC} {f:Nat→Option Nat} (hw:C'.w=C.w) (hG:∀ b i,f b=some i→C'.G i=C.G b) (hb:∀ g,g<C.w.heap.size→¬C.bad g→¬C'.bad g):∀ {l:List SV} {vs:List Value},SReps C l vs→SReps C' (rens f l) vs
  | [],vs,h=>by simpa only [rens,SReps] using h
  | s :: l,vs,h=>by
    simp only [rens,SReps] at h ⊢
    obtain⟨v,vs',rfl,h1,h2⟩:=h
    exact⟨v,vs',rfl,ren_rep hw hG hb h1,rens_rep hw hG hb h2⟩
end
theorem Came.start (N:Nat) (F:Nat→Prop) (G:Nat→Option Value) (m:Mem) (w:World):Came N F G m w G m w:=⟨fun _ _ _ h=>h,Grow.refl _ _,fun _ _ h=>h,fun _ _ h=>h⟩
theorem Came.after {N:Nat} {G0 G':Nat→Option Value} {m0 m':Mem} {w0 w':World} (h:Came N F G0 m0 w0 G m w) (k:After B F G m w G' m' w'):Came N F G0 m0 w0 G' m' w' where
 gext:=fun b V hb e=>k.gext b V (h.gext b V hb e)
 grow:=⟨k.grow.os.trans h.grow.os,k.grow.tape.trans h.grow.tape,k.grow.output.trans h.grow.output,Nat.le_trans h.grow.size k.grow.size,
  fun g hg hn=>(k.grow.block g (Nat.lt_of_lt_of_le hg h.grow.size) (fun hw=>hn (h.ws g hg hw))).trans (h.grow.block g hg hn)⟩
 hb:=fun g hg hn=>k.hb g (Nat.lt_of_lt_of_le hg h.grow.size) (h.hb g hg hn)
 ws:=fun g hg hw=>h.ws g hg (k.ws g (Nat.lt_of_lt_of_le hg h.grow.size) hw)
theorem Came.aside {N:Nat} {G0:Nat→Option Value} {m0:Mem} {w0 w':World} (h:Came N F G0 m0 w0 G m w) (hA:Aside w0.heap.size w w'):Came N F G0 m0 w0 G m w' :=
 ⟨h.gext,⟨hA.os.trans h.grow.os,hA.tape.trans h.grow.tape,hA.output.trans h.grow.output,Nat.le_trans h.grow.size hA.size,fun g hg hn=>by
  have h1:=h.grow.block g hg hn
  have h2:w0.heap[g]? = some w0.heap[g]:=Array.getElem?_eq_getElem hg
  rw [h2] at h1 ⊢
  exact hA.same g _ h1 (Or.inl hg)⟩,h.hb,h.ws⟩
theorem Came.trans {N:Nat} {G0 G':Nat→Option Value} {m0 m':Mem} {w0 w':World} (h:Came N F G0 m0 w0 G m w) (hm:MInv B F G m w) (k:Came m.length F G m w G' m' w'):Came N F G0 m0 w0 G' m' w' where
 gext:=fun b V hb e=>by
  have h1:=h.gext b V hb e
  refine k.gext b V ?_ h1
  rcases Nat.lt_or_ge b m.length with h2|h2
  ·exact h2
  ·rw [hm.len b h2] at h1;cases h1
 grow:=⟨k.grow.os.trans h.grow.os,k.grow.tape.trans h.grow.tape,k.grow.output.trans h.grow.output,Nat.le_trans h.grow.size k.grow.size,
  fun g hg hn=>(k.grow.block g (Nat.lt_of_lt_of_le hg h.grow.size) (fun hw=>hn (h.ws g hg hw))).trans (h.grow.block g hg hn)⟩
 hb:=fun g hg hn=>k.hb g (Nat.lt_of_lt_of_le hg h.grow.size) (h.hb g hg hn)
 ws:=fun g hg hw=>h.ws g hg (k.ws g (Nat.lt_of_lt_of_le hg h.grow.size) hw)
theorem Came.le {G':Nat→Option Value} {m':Mem} {w':World} (hm:MInv B F G m w) (h:Came m.length F G m w G' m' w'):(rc F G m w).Le (rc F G' m' w') :=
 ⟨fun b V e=>h.gext b V (by
   rcases Nat.lt_or_ge b m.length with h2|h2
   ·exact h2
   ·have:=hm.len b h2
    have e':G b=some V:=e
    rw [this] at e';cases e') e,h.grow.size,fun g hg hn=>h.grow.block g hg (fun hw=>hn (wr_bad hw)),h.hb⟩
theorem Came.reflag {m1 m':Mem} {G':Nat→Option Value} {w':World} (hm:MInv B F G m w) (hm':MInv B F G' m' w') (hs:Sub m m1) (hold:∀ (b:Nat) (r:Bool) (k:Blk),m[b]? = some (some (r,k))→∃ r':Bool,m1[b]? = some (some (r',k))) (hw:∀ g,wrOf G m1 g→wrOf G m g)
  (h:Came m.length F G m1 w G' m' w'):Came m.length F G m w G' (reflag m m') w':=by
 have bad1:∀ g,badOf F G m g→badOf F G m1 g:=by
  rintro g (hF|⟨b,r,k,V,h1,h2,h3⟩)
  ·exact Or.inl hF
  ·obtain⟨r',h1'⟩:=hold b r k h1
   exact Or.inr ⟨b,r',k,V,h1',h2,h3⟩
 refine⟨h.gext,⟨h.grow.os,h.grow.tape,h.grow.output,h.grow.size,fun g hg hn=>h.grow.block g hg (fun hw1=>hn (hw g hw1))⟩,fun g hg hn hb=>h.hb g hg (fun hb1=>hn (sub_bad hs hb1)) (sub_bad reflag_sub hb),?_⟩
 rintro g hg ⟨b,k,V,h1,h2,h3⟩
 obtain⟨_,⟨k0,h4⟩|⟨h4,h5⟩⟩:=reflag_get m m' b true k h1
 ·obtain⟨V0,hV0,_⟩:=hm.blk b true k0 h4
  have hbl:b<m.length:=by
   rcases Nat.lt_or_ge b m.length with h2|h2
   ·exact h2
   ·rw [List.getElem?_eq_none h2] at h4;cases h4
  have:=h.gext b V0 hbl hV0
  rw [h2] at this
  obtain rfl:=Option.some.inj this
  exact⟨b,k0,V,h4,hV0,h3⟩
 ·exact hw g (h.ws g hg ⟨b,k,V,h5,h2,h3⟩)
theorem junk_rep:∀ {l:List SV} {vs:List Value} (d:Nat),SReps C l vs→SReps C (l.set d .junk) vs
 | [],vs,d,h=>by simpa using h
 | s :: l,vs,0,h=>by
  simp only [List.set_cons_zero,SReps] at h ⊢
  obtain⟨v,vs',rfl,h1,h2⟩:=h
  exact⟨v,vs',rfl,by simp only [SRep],h2⟩
 | s :: l,vs,d+1,h=>by
  simp only [List.set_cons_succ,SReps] at h ⊢
  obtain⟨v,vs',rfl,h1,h2⟩:=h
  exact⟨v,vs',rfl,h1,junk_rep d h2⟩
theorem clean_rep {vs:List Value}:∀ {dead:List Nat} {l:List SV},SReps C l vs→SReps C (clean dead l) vs:=by
 intro dead
 induction dead with
 | nil=>intro l h;exact h
 | cons d dead ih=>intro l h;exact ih (junk_rep d h)
theorem gc_good {B:Nat} {G0:Nat→Option Value} {m0:Mem} {w0:World} {s:St} {a:Act} {order:List Nat} (hn:nodupB order=true) (h:Good 0 B F G0 m0 w0 s a w):Good 0 B F G0 m0 w0 (gcWith order s) a w:=by
 obtain⟨G,hm,ht,hc,hd⟩:=h
 have hnd:=nodup_of hn
 have hidx:∀ b i,idx order b=some i→(order[i]?).bind G=G b:=fun b i h=>by rw [idx_some h];rfl
 have look:∀ (i:Nat) (r:Bool) (k:Blk),(gcWith order s).m[i]? = some (some (r,k))→∃ (b:Nat) (k':Blk),order[i]? = some b∧s.m[b]? = some (some (r,k'))∧k=(match k' with|Blk.cells cs=>Blk.cells (rens (idx order) cs)|Blk.row e K xs=>Blk.row e K xs)∧∀ E K xs,k'=Blk.row E K xs→K.np=true:=by
  intro i r k hi
  simp only [gcWith,List.getElem?_map,Option.map_eq_some_iff] at hi
  obtain⟨b,hb,he⟩:=hi
  split at he
  ·rename_i r' k' hbk
   cases k' with
   | cells cs =>
    simp only [Option.some.injEq,Prod.mk.injEq] at he
    exact⟨b,.cells cs,hb,by rw [hbk,he.1],he.2.symm,fun _ _ _ e=>by cases e⟩
   | row e K xs =>
    simp only at he
    cases hnp:K.np with
    | false=>rw [hnp] at he;cases he
    | true =>
     rw [hnp] at he
     simp only [Option.some.injEq,Prod.mk.injEq] at he
     refine⟨b,.row e K xs,hb,by rw [hbk,he.1],he.2.symm,fun E' K' xs' e'=>?_⟩
     injection e' with e1 e2 e3
     subst e2;exact hnp
  ·cases he
 have hbad:∀ g,badOf F (fun i=>(order[i]?).bind G) (gcWith order s).m g→badOf F G s.m g:=by
  rintro g (hF|⟨i,r,k,V,h1,h2,h3⟩)
  ·exact Or.inl hF
  ·obtain⟨b,k',hb,hbk,_⟩:=look i r k h1
   simp only [hb,Option.bind_some] at h2
   exact Or.inr ⟨b,r,k',V,hbk,h2,h3⟩
 have hre:∀ {l:List SV} {vs:List Value},SReps (rc F G s.m w) l vs→SReps (rc F (fun i=>(order[i]?).bind G) (gcWith order s).m w) (rens (idx order) l) vs :=
  fun h=>rens_rep (C:=rc F G s.m w) (C':=rc F (fun i=>(order[i]?).bind G) (gcWith order s).m w) rfl hidx (fun g _ hn hn'=>hn (hbad g hn')) h
 refine⟨fun i=>(order[i]?).bind G,⟨hm.sz,hm.fr,?_,?_,?_,?_,?_⟩,hre ht,⟨fun b V hb=>absurd hb (by omega),hc.grow,fun g hg hn hn'=>hc.hb g hg hn (hbad g hn'),?_⟩,hd⟩
 ·intro i r k V g h1 h2 h3
  obtain⟨b,k',hb,hbk,_⟩:=look i r k h1
  simp only [hb,Option.bind_some] at h2
  exact hm.fo _ _ _ _ _ hbk h2 h3
 ·intro i hi
  have:order[i]? = none:=List.getElem?_eq_none (by simpa [gcWith] using hi)
  simp [this]
 ·intro i r k h1
  obtain⟨b,k',hb,hbk,rfl,hnp⟩:=look i r k h1
  obtain⟨V,hV,hr⟩:=hm.blk _ _ _ hbk
  refine⟨V,by simp [hb,hV],?_⟩
  cases k' with
  | cells cs =>
   obtain⟨g,Vs,ty,rfl,hh,hcs⟩:=hr
   exact⟨g,Vs,ty,rfl,hh,hre hcs⟩
  | row E K xs =>
   obtain⟨Us,ho,hl,hk⟩:=hr
   exact⟨Us,ho,hl,fun i x U hx hU=>((hk i x U hx hU).np (hnp _ _ _ rfl)).le (fun _ _ h=>h) (Nat.le_refl _) (fun _ _ _=>rfl) (fun g _ hn hn'=>hn (hbad g hn'))⟩
 ·intro i r k i' r' k' V V' g h1 h2 h3 h4 h5 h6
  obtain⟨b,k1,hb,hbk,_⟩:=look i r k h1
  obtain⟨b',k1',hb',hbk',_⟩:=look i' r' k' h2
  simp only [hb,Option.bind_some] at h3
  simp only [hb',Option.bind_some] at h4
  have hbb:=hm.inj _ _ _ _ _ _ _ _ _ hbk hbk' h3 h4 h5 h6
  subst hbb
  have hi:=(List.getElem?_eq_some_iff.1 hb).1
  exact(List.getElem?_inj hi hnd).1 (hb.trans hb'.symm)
 ·intro i r k V g h1 h2 h3
  obtain⟨b,k',hb,hbk,_⟩:=look i r k h1
  simp only [hb,Option.bind_some] at h2
  exact hm.ge _ _ _ _ _ hbk h2 h3
 ·rintro g hg ⟨i,k,V,h1,h2,h3⟩
  obtain⟨b,k',hb,hbk,_⟩:=look i true k h1
  simp only [hb,Option.bind_some] at h2
  exact hc.ws g hg ⟨b,k',V,hbk,h2,h3⟩
theorem head_good {B:Nat} {G0:Nat→Option Value} {m0:Mem} {w0:World} {s s':St} {a:Act} {dead:List Nat} (h:headx dead s=some s') (hg:Good 0 B F G0 m0 w0 s a w):Good 0 B F G0 m0 w0 s' a w:=by
 unfold headx at h
 simp only at h
 split at h
 ·rename_i hn
  obtain rfl:=Option.some.inj h
  refine gc_good hn ?_
  obtain⟨G,hm,ht,hc,hd⟩:=hg
  exact⟨G,hm,clean_rep ht,hc,hd⟩
 ·cases h
section
variable {N:Nat} {G0:Nat→Option Value} {m0:Mem} {w0:World} {r:R}
theorem loopx_ok {c:Code} {body:St→(Ex→St→Option R)→Option R} {hd hx:St→Option St} (hb:BodyOk P none N B F G0 m0 w0 r c body) (hh:∀ s s' a w,hd s=some s'→Good N B F G0 m0 w0 s a w→Good N B F G0 m0 w0 s' a w)
  (hhx:∀ s s' a w,hx s=some s'→Good N B F G0 m0 w0 s a w→Good N B F G0 m0 w0 s' a w) (n:Nat) :
  BodyOk P none N B F G0 m0 w0 r (.loop c) (loopx body hd hx n):=by
 intro s K a w Q h hg hk
 have hk2:∀ e s' a' w',Good N B F G0 m0 w0 s' a' w'→K e s'=some r→Q (exOf e) a' w':=fun e s' a' w' h1 h2=>hk e s' a' w' h1 (fun h=>absurd rfl h) h2
 clear hk
 refine wpIn_loop_rounds n ?_
 induction n generalizing s a w with
 | zero=>simp [loopx] at h
 | succ n ih =>
  simp only [loopx] at h
  rw [roundsIn_succ]
  refine hb s _ a w _ h hg fun e s' a' w' hg' _ hk'=>?_
  cases e with
  | normal =>
   simp only at hk'
   split at hk'
   ·rename_i s2 hs2
    exact ih s2 a' w' hk' (hh _ _ _ _ hs2 hg')
   ·cases hk'
  | exit i =>
   simp only at hk'
   split at hk'
   ·rename_i s2 hs2
    exact hk2 (.exit i) _ _ _ (hhx _ _ _ _ hs2 hg') hk'
   ·cases hk'
  | ret =>
   simp only at hk'
   split at hk'
   ·rename_i s2 hs2
    exact hk2 .ret _ _ _ (hhx _ _ _ _ hs2 hg') hk'
   ·cases hk'
  | goto l =>
   simp only at hk'
   split at hk'
   ·rename_i s2 hs2
    exact hk2 (.goto l) _ _ _ (hhx _ _ _ _ hs2 hg') hk'
   ·cases hk'
theorem eval_bool {s:St} {a:Act} {c:Operand} {x:Bool} (hg:Good N B F G0 m0 w0 s a w) (h:ev s.t c=.v (.bool x)):a.eval c=.bool x:=by
 obtain⟨G,hm,ht,_⟩:=hg
 have:=ev_rep ht c
 rw [h] at this
 simpa only [SRep] using this
end
theorem rangeGo_nil {asg bod:St→(Ex→St→Option R)→Option R} {t:List SV} {p:Nat} {m:Mem} {K:Ex→St→Option R}:rangeGo asg bod t p [] m K=K .normal ⟨t,m⟩:=rfl
theorem range_ok {P:Program} {B:Nat} {F:Nat→Prop} {N:Nat} {G0:Nat→Option Value} {m0:Mem} {w0:World} {r:R} {g:Operand} {p:Tmp} {assign body:Code} {asg bod:St→(Ex→St→Option R)→Option R}
  (hasg:∀ (ro:Option Nat) (N:Nat) (G0:Nat→Option Value) (m0:Mem) (w0:World),BodyOk P ro N B F G0 m0 w0 r assign asg) (hbod:∀ (ro:Option Nat) (N:Nat) (G0:Nat→Option Value) (m0:Mem) (w0:World),BodyOk P ro N B F G0 m0 w0 r body bod)
  {gf:FuncId} {cap:List SV} {it:List SV→Mem→Option (List SV × List Nat)} (hit:IterOk P gf it) {s:St} {K:Ex→St→Option R} {a:Act} {w:World} {Q:Exit→Act→World→Prop} (hg:ev s.t g=.fn (.func gf) [] cap) {yl:List SV × List Nat} (hy:it cap s.m=some yl)
  (h:rangeGo asg bod s.t p yl.1 (lockM yl.2 s.m) (fun e s'=>K e ⟨s'.t,reflag s.m s'.m⟩)=some r) (hgood:Good N B F G0 m0 w0 s a w) (hk:∀ e s' a' w',Good N B F G0 m0 w0 s' a' w'→K e s'=some r→Q (exOf e) a' w') :
  (Code.rangeFunc g #[p] assign body).wpIn (FW none) 0 P Q a w:=by
 obtain⟨G,hm,ht,hc,hd⟩:=hgood
 have hgr:=ev_rep ht g
 rw [hg] at hgr
 simp only [SRep] at hgr
 obtain⟨xs,ys,hge,hx,hcap⟩:=hgr
 have hx0:xs=#[]:=by
  have:xs.toList=[]:=by simpa only [SReps] using hx
  simpa using this
 subst hx0
 obtain⟨Ys,hYs,hgives⟩:=hit.gives B F G s.m w cap ys.toList yl hm hcap hy
 have hYl:=hYs.len
 have hlk:=lock_sub yl.2 s.m
 have hml:=sub_minv hlk hm
 have htl:=sub_reps hlk ht
 have hYl2:=sub_reps hlk hYs
 have hlen:(lockM yl.2 s.m).length=s.m.length:=hlk.1
 have eg:∀ args w,(callFunc gf args).run P w=.ok (.enter gf args) w:=fun args w=>callFunc_run hit.enters args w
 let K':Ex→St→Option R:=fun e s'=>K e ⟨s'.t,reflag s.m s'.m⟩
 let St1:Mem→(Nat→Option Value)→World→Prop:=fun m' G' W=>MInv B F G' m' W∧Came (lockM yl.2 s.m).length F G (lockM yl.2 s.m) w G' m' W
 have aside1:∀ {m':Mem} {G':Nat→Option Value} {W W':World},St1 m' G' W→Aside w.heap.size W W'→St1 m' G' W':=fun h hA=>⟨minv_aside h.1 hA,h.2.aside hA⟩
 have back:∀ {m':Mem} {G':Nat→Option Value} {W:World} (e:Ex) (D:Nat),St1 m' G' W→w.heap.size≤D→W.heap[D]? = some (.deferred (some []))→K e ⟨s.t,reflag s.m m'⟩=some r→Q (exOf e) { a with defers:={ target:=.collected D,args:=#[] } :: a.defers } W:=by
  intro m' G' W e D h1 hD hDD hK
  have hsub:=reflag_sub (m:=s.m) (m':=m')
  have hc2:Came s.m.length F G s.m w G' (reflag s.m m') W:=Came.reflag hm h1.1 hlk (fun b r k hb=>lock_old hb) (fun g hg=>lock_wr hg) (by rw [←hlen];exact h1.2)
  refine hk e _ _ _ ⟨G',sub_minv hsub h1.1,sub_reps hsub ?_,hc.trans hm hc2,?_⟩ hK
  ·exact htl.le (h1.2.le hml)
  ·obtain⟨Ds,n1,n2,n3⟩:=hd
   refine⟨D :: Ds,List.nodup_cons.2 ⟨fun hin=>?_,n1⟩,by simp [n2],fun E hE=>?_⟩
   ·have:=(Array.getElem?_eq_some_iff.1 (n3 D hin).2).1
    omega
   ·rcases List.mem_cons.1 hE with rfl|hE
    ·exact⟨Nat.le_trans hc.grow.size hD,hDD⟩
    ·exact⟨(n3 E hE).1,not_cells_keep (Wr:=fun _=>False) hml h1.2.grow rfl (n3 E hE).2⟩
 refine range_wp hge eg hgives
  (fun k W=>∃ G' m',St1 m' G' W∧rangeGo asg bod s.t p (yl.1.drop k) m' K'=some r)
  (fun c W=>∃ e G' m',((e=Ex.ret∧c=.ret)∨∃ i,e=Ex.exit i∧c=.exit i)∧St1 m' G' W∧K e ⟨s.t,reflag s.m m'⟩=some r)
  (fun k a' W=>∃ (G':Nat→Option Value) (m':Mem) (t1:List SV),St1 m' G' W∧SReps (rc F G' m' W) t1 a'.tmps.toList∧a'.defers=[]∧bod ⟨t1,m'⟩ (fun e s2=>match e with
   | .normal=>rangeGo asg bod s.t p (yl.1.drop (k+1)) s2.m K'
   | .exit i=>K' (.exit i) ⟨s.t,s2.m⟩
   | .ret=>K' .ret ⟨s.t,s2.m⟩
   | .goto _=>none)=some r)
  ?_ ?_ ?_ ?_ ?_ ?_ ?_ ?_
 ·rintro k W W' ⟨G',m',h1,h2⟩ hA
  exact⟨G',m',aside1 h1 hA,h2⟩
 ·rintro c W W' ⟨e,G',m',hc',h1,h2⟩ hA
  exact⟨e,G',m',hc',aside1 h1 hA,h2⟩
 ·rintro k a' W W' ⟨G',m',t1,h1,h2,h3,h4⟩ hA
  exact⟨G',m',t1,aside1 h1 hA,reps_aside hA h2,h3,h4⟩
 ·exact⟨G,lockM yl.2 s.m,⟨hml,Came.start _ _ _ _ _⟩,by rw [List.drop_zero];exact h⟩
 ·
  rintro l k V W ⟨G',m',h1,h2⟩ hV
  have hk:k<Ys.length:=(List.getElem?_eq_some_iff.1 hV).1
  obtain⟨y,hyk⟩:∃ y,yl.1[k]? = some y:=⟨yl.1[k]'(by rw [hYl];exact hk),List.getElem?_eq_getElem (by rw [hYl];exact hk)⟩
  have hdrop:yl.1.drop k=y :: yl.1.drop (k+1):=by
   obtain⟨hk2,he⟩:=List.getElem?_eq_some_iff.1 hyk
   rw [List.drop_eq_getElem_cons hk2,he]
  rw [hdrop] at h2
  simp only [rangeGo] at h2
  obtain⟨V',hV',hyV⟩:=hYl2.get hyk
  rw [hV] at hV'
  obtain rfl:=Option.some.inj hV'
  have hle:=h1.2.le hml
  have hall:=lockAll_sub m'
  refine hasg (some l) (lockAll m').length G' (lockAll m') W ⟨s.t.set p y,lockAll m'⟩ _ { tmps:=a.tmps.setIfInBounds p V,defers:=[] } W _ h2
   ⟨G',sub_minv hall h1.1,?_,Came.start _ _ _ _ _,Marks.nil _ _⟩ ?_
  ·refine sub_reps hall ?_
   have:=SReps.set p (htl.le hle) (hyV.le hle)
   simpa using this
  ·rintro e s1 a1 W1 ⟨G1,m1,t1,c1,d1⟩ hdf hk1
   cases e with
   | normal =>
    simp only at hk1
    have hre:=Came.reflag h1.1 m1 (lockAll_sub m') (fun b r k hb=>by
     rw [lockAll_get,hb]
     exact⟨false,rfl⟩) (fun g hg=>(lockAll_wr hg).elim) (by rw [←lockAll_len m'];exact c1)
    have hsub:=reflag_sub (m:=m') (m':=s1.m)
    refine⟨⟨c1.grow.size,fun g o _ hgo ho=>not_cells_keep (Wr:=fun _=>False) (sub_minv hall h1.1) c1.grow ho hgo⟩,⟨c1.grow.os,c1.grow.tape,c1.grow.output,c1.grow.size,fun g hg' _=>c1.grow.block g (Nat.lt_of_lt_of_le hg' h1.2.grow.size) (fun hw=>lockAll_wr hw)⟩,
     G1,reflag m' s1.m,s1.t,⟨sub_minv hsub m1,h1.2.trans h1.1 hre⟩,sub_reps hsub t1,hdf (by simp),hk1⟩
   | exit i=>cases hk1
   | ret=>cases hk1
   | goto l=>cases hk1
 ·
  rintro l k a' W ⟨G',m',t1,h1,h2,h3,h4⟩ hk
  refine hbod (some l) m'.length G' m' W ⟨t1,m'⟩ _ a' W _ h4 ⟨G',h1.1,h2,Came.start _ _ _ _ _,by rw [h3];exact Marks.nil _ _⟩ ?_
  rintro e s2 a2 W2 ⟨G2,m2,t2,c2,d2⟩ hdf hk2
  have hst:St1 s2.m G2 W2:=⟨m2,h1.2.trans h1.1 c2⟩
  refine⟨⟨c2.grow.size,fun g o _ hgo ho=>not_cells_keep (Wr:=fun _=>False) h1.1 c2.grow ho hgo⟩,?_⟩
  cases e with
  | normal=>exact⟨⟨c2.grow.os,c2.grow.tape,c2.grow.output,c2.grow.size,fun g hg' hn=>c2.grow.block g (Nat.lt_of_lt_of_le hg' h1.2.grow.size) (fun hw=>hn (h1.2.ws g hg' hw))⟩,G2,s2.m,hst,hk2⟩
  | exit i=>exact⟨.exit i,G2,s2.m,Or.inr ⟨i,rfl,rfl⟩,hst,hk2⟩
  | ret=>exact⟨.ret,G2,s2.m,Or.inl ⟨rfl,rfl⟩,hst,hk2⟩
  | goto l=>cases hk2
 ·rintro D W hD ⟨G',m',h1,h2⟩ hDD
  rw [List.drop_eq_nil_of_le (by rw [hYl];exact Nat.le_refl _),rangeGo_nil] at h2
  exact back .normal D h1 hD hDD h2
 ·rintro D c W hD ⟨e,G',m',hc',h1,h2⟩ hDD
  rcases hc' with ⟨rfl,rfl⟩|⟨i,rfl,rfl⟩
  ·exact wpIn_ret (back .ret D h1 hD hDD h2)
  ·exact wpIn_exit (back (.exit i) D h1 hD hDD h2)
theorem plain_none:∀ {c:Code},plainC c=true→loopsOf c=[]∧scopesOf c=[]:=by
 intro c
 induction c with
 | seq a b iha ihb=>intro h;simp only [plainC,Bool.and_eq_true] at h;simp [loopsOf,scopesOf,iha h.1,ihb h.2]
 | cond x a b iha ihb=>intro h;simp only [plainC,Bool.and_eq_true] at h;simp [loopsOf,scopesOf,iha h.1,ihb h.2]
 | block id c ih=>intro h;simp only [plainC] at h;simp [loopsOf,scopesOf,ih h]
 | loop c ih=>intro h;cases h
 | scope c ih=>intro h;cases h
 | _=>intro _;exact⟨rfl,rfl⟩
theorem gotos_ok {P:Program} {R:Type} {r:R} {B:Nat} {F:Nat→Prop} {G0:Nat→Option Value} {m0:Mem} {w0:World} {rest:Code} {l:Nat} {body:St→(Ex→St→Option R)→Option R} {dead deadx:List Nat} (hb:BodyOk P none 0 B F G0 m0 w0 r rest body) :
  ∀ (n:Nat) (s:St) (K:Ex→St→Option R) (a:Act) (w:World) (Q:Exit→Act→World→Prop),loopx (gbody body l) (headx dead) (headx deadx) n s K=some r→Good 0 B F G0 m0 w0 s a w →
  (∀ e s' a' w',Good 0 B F G0 m0 w0 s' a' w'→K e s'=some r→Q (exOf e) a' w')→gotosIn (FW none) 0 P rest l Q n a w:=by
 intro n
 induction n with
 | zero=>intro s K a w Q h;simp [loopx] at h
 | succ n ih =>
  intro s K a w Q h hg hk
  simp only [loopx,gbody] at h
  simp only [gotosIn]
  refine hb s _ a w _ h hg fun e s' a' w' hg' _ hk'=>?_
  cases e with
  | normal=>cases hk'
  | exit i =>
   simp only at hk'
   split at hk'
   ·rename_i s2 hs2
    exact hk (.exit i) _ _ _ (head_good hs2 hg') hk'
   ·cases hk'
  | ret =>
   simp only at hk'
   split at hk'
   ·rename_i s2 hs2
    exact hk .ret _ _ _ (head_good hs2 hg') hk'
   ·cases hk'
  | goto l' =>
   simp only at hk'
   split at hk'
   ·rename_i e
    split at hk'
    ·rename_i s2 hs2
     simp only [exOf]
     exact⟨e,ih _ K a' w' Q hk' (head_good hs2 hg') hk⟩
    ·cases hk'
   ·cases hk'
theorem codex_ok {P:Program} {B:Nat} {F:Nat→Prop} {r:R} {X:Ctx} (hX:XOk P X) {lps:Lps R} {rec:Rec R} (hrec:RecOk P rec) {fid:FuncId} :
  ∀ (c:Code) {ro:Option Nat} {N:Nat} {G0:Nat→Option Value} {m0:Mem} {w0:World},(ro=none∨plainC c=true)→(∀ c' L,c' ∈ loopsOf c→lps fid (firstRid c')=some L→N=0∧∀ s K,L s K=some r→∃ n dead deadx s1,headx dead s=some s1∧loopx (codex X lps rec fid c') (headx dead) (headx deadx) n s1 K=some r)→(∀ c' l L,c' ∈ scopesOf c→lps fid (1000+l)=some L→∃ rest,findLabel c' l=some rest∧GotoOk P N B F G0 m0 w0 r rest l L) →
  BodyOk P ro N B F G0 m0 w0 r c (codex X lps rec fid c):=by
 intro c
 induction c with
 | skip =>
  intro ro N G0 m0 w0 hp _ hwi s K a w Q h hg hk
  simp only [codex] at h
  exact wpIn_skip (hk _ _ _ _ hg (fun _=>rfl) h)
 | region id ops draw =>
  intro ro N G0 m0 w0 hp _ hwi s K a w Q h hg hk
  obtain⟨G,hm,ht,hc,hd⟩:=hg
  cases draw with
  | false =>
   simp only [codex] at h
   refine wpIn_region ?_
   rw [List.range_eq_range']
   have:=opsx_ok (ro:=ro) (nd:=0) (Q:=Q) hX hrec ops.toList 0 s (K .normal) a w G rfl hm ht h fun s' a' w' G' haf ht' hd' hk'=>hk .normal s' a' w' ⟨G',haf.minv,ht',hc.after haf,by rw [hd'];exact hd.grow hm haf.grow⟩ (fun _=>hd') hk'
   simpa using this
  | true =>
   simp only [codex] at h
   exact drawx_ok hX hm ht h fun s' a' w' G' haf ht' hd' hk'=>hk .normal s' a' w' ⟨G',haf.minv,ht',hc.after haf,by rw [hd'];exact hd.grow hm haf.grow⟩ (fun _=>hd') hk'
 | seq x y ihx ihy =>
  intro ro N G0 m0 w0 hp hl hwi s K a w Q h hg hk
  have hpx:ro=none∨plainC x=true:=hp.imp id fun h=>by simp only [plainC,Bool.and_eq_true] at h;exact h.1
  have hpy:ro=none∨plainC y=true:=hp.imp id fun h=>by simp only [plainC,Bool.and_eq_true] at h;exact h.2
  simp only [codex] at h
  refine wpIn_seq (ihx hpx (fun c' L hc'=>hl c' L (by simp only [loopsOf];exact List.mem_append_left _ hc')) (fun c' l L hc'=>hwi c' l L (by simp only [scopesOf];exact List.mem_append_left _ hc')) s _ a w _ h hg fun e s' a' w' hg' hd' hk'=>?_)
  cases e with
  | normal=>exact ihy hpy (fun c' L hc'=>hl c' L (by simp only [loopsOf];exact List.mem_append_right _ hc')) (fun c' l L hc'=>hwi c' l L (by simp only [scopesOf];exact List.mem_append_right _ hc')) s' K a' w' Q hk' hg' fun e2 s2 a2 w2 hg2 hd2 hk2=>hk e2 s2 a2 w2 hg2 (fun hr=>(hd2 hr).trans (hd' hr)) hk2
  | exit i=>exact hk _ _ _ _ hg' hd' hk'
  | ret=>exact hk _ _ _ _ hg' hd' hk'
  | goto l=>exact hk _ _ _ _ hg' hd' hk'
 | cond x c1 c2 ih1 ih2 =>
  intro ro N G0 m0 w0 hp hl hwi s K a w Q h hg hk
  have hpx:ro=none∨plainC c1=true:=hp.imp id fun h=>by simp only [plainC,Bool.and_eq_true] at h;exact h.1
  have hpy:ro=none∨plainC c2=true:=hp.imp id fun h=>by simp only [plainC,Bool.and_eq_true] at h;exact h.2
  simp only [codex] at h
  split at h
  ·rename_i b hb
   have he:=eval_bool hg hb
   cases b with
   | true=>exact wpIn_cond_true he (ih1 hpx (fun c' L hc'=>hl c' L (by simp only [loopsOf];exact List.mem_append_left _ hc')) (fun c' l L hc'=>hwi c' l L (by simp only [scopesOf];exact List.mem_append_left _ hc')) s K a w Q h hg hk)
   | false=>exact wpIn_cond_false he (ih2 hpy (fun c' L hc'=>hl c' L (by simp only [loopsOf];exact List.mem_append_right _ hc')) (fun c' l L hc'=>hwi c' l L (by simp only [scopesOf];exact List.mem_append_right _ hc')) s K a w Q h hg hk)
  ·cases h
 | block id c ih =>
  intro ro N G0 m0 w0 hp hl hwi s K a w Q h hg hk
  simp only [codex] at h
  refine wpIn_block (ih (hp.imp (fun h=>h) fun h=>by simpa only [plainC] using h) (fun c' L hc'=>hl c' L (by simpa only [loopsOf] using hc')) (fun c' l L hc'=>hwi c' l L (by simpa only [scopesOf] using hc')) s _ a w _ h hg fun e s' a' w' hg' hd' hk'=>?_)
  cases e with
  | normal=>exact hk .normal _ _ _ hg' hd' hk'
  | exit i =>
   simp only [exOf,Exit.inBlock]
   simp only at hk'
   by_cases hi:i=id
   ·rw [if_pos hi] at hk' ⊢
    exact hk .normal _ _ _ hg' hd' hk'
   ·rw [if_neg hi] at hk' ⊢
    exact hk (.exit i) _ _ _ hg' hd' hk'
  | ret=>exact hk .ret _ _ _ hg' hd' hk'
  | goto l=>exact hk (.goto l) _ _ _ hg' hd' hk'
 | loop c ih =>
  intro ro N G0 m0 w0 hp hl hwi s K a w Q h hg hk
  rcases hp with rfl|hp
  ·have ihc:=fun N G0 m0 w0=>ih (ro:=none) (N:=N) (G0:=G0) (m0:=m0) (w0:=w0) (Or.inl rfl)
   simp only [codex] at h
   split at h
   ·exact loopx_ok (ihc _ _ _ _ (fun c' L hc'=>hl c' L (by simp only [loopsOf];exact List.mem_cons_of_mem _ hc')) (fun c' l L hc'=>hwi c' l L (by simpa only [scopesOf] using hc'))) (fun s s' a w he hg=>by obtain rfl:=Option.some.inj he;exact hg) (fun s s' a w he hg=>by obtain rfl:=Option.some.inj he;exact hg) 300 s K a w Q h hg hk
   ·rename_i L hL
    obtain⟨hN,hlaw⟩:=hl c L (by simp only [loopsOf];exact List.mem_cons_self) hL
    subst hN
    obtain⟨n,dead,deadx,s1,h1,hn⟩:=hlaw s K h
    exact loopx_ok (ihc _ _ _ _ (fun c' L hc'=>hl c' L (by simp only [loopsOf];exact List.mem_cons_of_mem _ hc')) (fun c' l L hc'=>hwi c' l L (by simpa only [scopesOf] using hc'))) (fun s s' a w he hg=>head_good he hg) (fun s s' a w he hg=>head_good he hg) n s1 K a w Q hn (head_good h1 hg) hk
  ·cases hp
 | exit id =>
  intro ro N G0 m0 w0 hp _ hwi s K a w Q h hg hk
  simp only [codex] at h
  exact wpIn_exit (hk (.exit id) _ _ _ hg (fun _=>rfl) h)
 | ret =>
  intro ro N G0 m0 w0 hp _ hwi s K a w Q h hg hk
  simp only [codex] at h
  exact wpIn_ret (hk .ret _ _ _ hg (fun _=>rfl) h)
 | rangeFunc c ps asg bod iha ihb =>
  intro ro N G0 m0 w0 hp hl hwi s K a w Q h hg hk
  rcases hp with rfl|hp
  ·simp only [codex] at h
   split at h
   ·rename_i g cap p hev hps
    split at h
    ·rename_i it hit
     split at h
     ·rename_i hpl
      simp only [Bool.and_eq_true] at hpl
      obtain⟨yl,hyl,h⟩:=Option.bind_eq_some_iff.1 h
      have hps':ps=#[p]:=by
       apply Array.ext'
       simpa using hps
      subst hps'
      exact range_ok (fun ro N G0 m0 w0=>iha (Or.inr hpl.1) (fun c' L hc'=>by rw [(plain_none hpl.1).1] at hc';cases hc') (fun c' l L hc'=>by rw [(plain_none hpl.1).2] at hc';cases hc')) (fun ro N G0 m0 w0=>ihb (Or.inr hpl.2) (fun c' L hc'=>by rw [(plain_none hpl.2).1] at hc';cases hc') (fun c' l L hc'=>by rw [(plain_none hpl.2).2] at hc';cases hc'))
       (hX.iter g it hit) hev hyl h hg (fun e s' a' w' h1 h2=>hk e s' a' w' h1 (fun hr=>absurd rfl hr) h2)
     ·cases h
    ·cases h
   ·cases h
  ·cases hp
 | scope c ih =>
  intro ro N G0 m0 w0 hp hl hwi s K a w Q h hg hk
  rcases hp with rfl|hp
  ·simp only [codex] at h
   refine wpIn_scope rfl (ih (Or.inl rfl) (fun c' L hc'=>hl c' L (by simpa only [loopsOf] using hc')) (fun c' l L hc'=>hwi c' l L (by simp only [scopesOf];exact List.mem_cons_of_mem _ hc')) s _ a w _ h hg fun e s' a' w' hg' hd' hk'=>?_)
   cases e with
   | normal=>exact hk .normal _ _ _ hg' hd' hk'
   | exit i=>exact hk (.exit i) _ _ _ hg' hd' hk'
   | ret=>exact hk .ret _ _ _ hg' hd' hk'
   | goto l =>
    simp only at hk'
    split at hk'
    ·rename_i L hL
     obtain⟨rest,hf,hlaw⟩:=hwi c l L (by simp only [scopesOf];exact List.mem_cons_self) hL
     exact⟨rest,hf,hlaw s' K a' w' Q hk' hg' fun e s2 a2 w2 h1 h2=>hk e s2 a2 w2 h1 (fun h=>absurd rfl h) h2⟩
    ·cases hk'
  ·cases hp
 | label l =>
  intro ro N G0 m0 w0 hp _ hwi s K a w Q h hg hk
  simp only [codex] at h
  exact wpIn_label (hk _ _ _ _ hg (fun _=>rfl) h)
 | goto l =>
  intro ro N G0 m0 w0 hp _ hwi s K a w Q h hg hk
  simp only [codex] at h
  exact wpIn_goto (hk (.goto l) _ _ _ hg (fun _=>rfl) h)
 | refuse=>intro ro N G0 m0 w0 _ _ _ s K a w Q h;simp [codex] at h
def resRun (tmps:Array Value):ResultVar→Sem Value
  | .tmp t=>pure (tmps.getD t undef)
  | .cell a t=>do loadVar t (←asAddr (tmps.getD a undef))
theorem results_is (fn:Func) (tmps:Array Value):results fn tmps=(do let vs ←fn.results.mapM (resRun tmps);pure (if h:vs.size=1 then vs[0] else .tuple vs)):=rfl
theorem res_ok {X:Ctx} (hX:XOk P X) {s:St} {a:Act} (hm:MInv B F G s.m w) (ht:SReps (rc F G s.m w) s.t a.tmps.toList):∀ (l:List ResultVar) (vs:List SV),resx X.T s l=some vs →
  ∃ Vs,(l.mapM (resRun a.tmps)).run P w=.ok Vs w∧SReps (rc F G s.m w) vs Vs:=by
 intro l
 induction l with
 | nil=>intro vs h;simp only [resx,Option.some.injEq] at h;subst h;exact⟨[],by simp,by simp [SReps]⟩
 | cons x l ih =>
  intro vs h
  cases x with
  | tmp t =>
   simp only [resx] at h
   split at h
   ·rename_i r hr
    obtain rfl:=Option.some.inj h
    obtain⟨Vs,h1,h2⟩:=ih r hr
    have hv:=getT_rep t ht undef
    refine⟨(a.tmps.toList[t]?).getD undef :: Vs,?_,?_⟩
    ·simp only [List.mapM_cons]
     simp [resRun,h1]
    ·simp only [SReps];exact⟨_,_,rfl,hv,h2⟩
   ·cases h
  | cell b t =>
   simp only [resx] at h
   split at h
   ·rename_i v r hv hr
    obtain rfl:=Option.some.inj h
    obtain⟨Vs,h1,h2⟩:=ih r hr
    have hb:=getT_rep b ht undef
    obtain⟨p,U,he,hrun,hu⟩:=ldvar_ok (P:=P) hX.T hm hb hv
    have he':a.tmps.getD b undef=.pointer (some p):=by simpa using he
    refine⟨U :: Vs,?_,?_⟩
    ·simp only [List.mapM_cons]
     simp only [resRun,he',asAddr,Sem.run_bind,Sem.run_pure,Result.andThen_ok,hrun,h1]
    ·simp only [SReps];exact⟨_,_,rfl,hu,h2⟩
   ·cases h
theorem ret_ok {X:Ctx} (hX:XOk P X) {fn:Func} {s:St} {a:Act} {K:SV→Mem→Option R} {r:R} (hm:MInv B F G s.m w) (ht:SReps (rc F G s.m w) s.t a.tmps.toList) (h:retx X.T fn s K=some r) :
  ∃ v V,(results fn a.tmps).run P w=.ok V w∧SRep (rc F G s.m w) v V∧K v s.m=some r:=by
 unfold retx at h
 split at h
 ·rename_i v hv
  obtain⟨Vs,h1,h2⟩:=res_ok (P:=P) hX hm ht _ _ hv
  simp only [SReps] at h2
  obtain⟨V,vs,rfl,hr,rfl⟩:=h2
  refine⟨v,V,?_,hr,h⟩
  simp only [results_is,Sem.run_bind,Array.mapM_eq_mapM_toList]
  simp [h1]
 ·rename_i l hne hl
  obtain⟨Vs,h1,h2⟩:=res_ok (P:=P) hX hm ht _ _ hl
  have hlen:=h2.len
  refine⟨.tup l,.tuple Vs.toArray,?_,by simp only [SRep];exact⟨_,rfl,by simpa using h2⟩,h⟩
  have hn1:Vs.length≠1:=by
   intro e
   rw [e] at hlen
   cases l with
   | nil=>cases hlen
   | cons x l =>
    cases l with
    | nil=>exact hne x rfl
    | cons y l=>simp at hlen
  simp only [results_is,Sem.run_bind,Array.mapM_eq_mapM_toList]
  simp [h1,hn1]
 ·cases h
theorem start_rep {fn:Func} {as:List SV} {vals:List Value} (h:SReps C as vals):SReps C (startx fn as m).t (vals.toArray++Array.replicate (fn.ntmps-vals.toArray.size) undef).toList:=by
 unfold startx
 have hl:=h.len
 simp only [Array.toList_append,Array.toList_replicate,List.size_toArray]
 rw [hl]
 refine h.app ?_
 have:=SReps.junk (C:=C) (List.replicate (fn.ntmps-vals.length) undef)
 simpa using this
theorem callN_ok {X:Ctx} (hX:XOk P X):∀ (d:Nat),RecOk P (callN (R:=R) X d):=by
 intro d
 induction d with
 | zero=>intro f as m K r h;simp [callN] at h
 | succ d ih =>
  intro f as m K r h B F G w vals hm has
  simp only [callN] at h
  split at h
  ·rename_i fn hfn
   split at h
   ·rename_i c hc
    obtain⟨h1,h2⟩:=hX.fns f fn hfn
    refine⟨⟨fn,c,h1,h2,hc⟩,(callsIn_wide (n:=0)).1 (callsIn_of_wp_marks (F:=FW none) h1 hc trivial ?_)⟩
    refine codex_ok (ro:=none) (N:=m.length) (B:=B) (F:=F) (G0:=G) (m0:=m) (w0:=w) hX ih c (Or.inl rfl) (fun _ _ _ he=>(by cases he)) (fun _ _ _ _ he=>(by cases he)) (startx fn as m) _ _ w _ h ⟨G,hm,start_rep has,Came.start _ _ _ _ _,Marks.nil _ _⟩ fun e s' a' w' hg _ hk=>?_
    obtain⟨G',hm',ht',hc',hd'⟩:=hg
    have fin:∀ {K':SV→Mem→Option R},retx X.T fn s' K=some r→LeavesInM (FW none) 0 P fn a'.tmps (Ends B F G m w K r) a'.defers .returning w':=by
     intro _ hk
     refine leaves_marks hd' fun w2 hA=>?_
     have hm2:=minv_aside hm' hA
     have hc2:=hc'.aside hA
     obtain⟨v,V,hr,hv,hk⟩:=ret_ok (P:=P) hX hm2 (reps_aside hA ht') hk
     refine⟨V,hr,v,s'.m,V,G',rfl,⟨hm2,fun b U hU=>?_,hc2.grow,hc2.hb,hc2.ws⟩,hv,hk⟩
     refine hc2.gext b U ?_ hU
     rcases Nat.lt_or_ge b m.length with hlt|hge
     ·exact hlt
     ·rw [hm.len b hge] at hU;cases hU
    cases e with
    | normal=>exact fin (K':=K) hk
    | ret=>exact fin (K':=K) hk
    | exit i=>cases hk
    | goto l=>cases hk
   ·cases h
  ·cases h
theorem runx_ok {X:Ctx} (hX:XOk P X) {lps:{R:Type}→Lps R} {f:FuncId} {as:List SV} {Rt:RD} (hl:∀ fn c,X.fns f=some fn→fn.body=some c→∀ c' L,c' ∈ loopsOf c→lps (R:=Rt.T) f (firstRid c')=some L →
  ∀ s K r,L s K=some r→∃ n dead deadx s1,headx dead s=some s1∧loopx (codex X lps (callN X 20) f c') (headx dead) (headx deadx) n s1 K=some r)
  (hs:∀ fn c,X.fns f=some fn→fn.body=some c→∀ c' l L,c' ∈ scopesOf c→lps (R:=Rt.T) f (1000+l)=some L→∃ rest,findLabel c' l=some rest∧loopsOf rest=[]∧scopesOf rest=[] ∧
   ∀ s K r,L s K=some r→∃ n dead deadx s1,headx dead s=some s1∧loopx (gbody (codex X lps (callN X 20) f rest) l) (headx dead) (headx deadx) n s1 K=some r)
  {r:Rt.T} (h:runx X lps f as Rt=some r) (hen:∃ fn c,X.fns f=some fn∧fn.body=some c) {Z:Nat→Prop} {w:World} {vals:List Value} (hZ:∀ g,Z g→g<w.heap.size) (hargs:SReps ⟨w,fun _=>none,Z⟩ as vals) :
  Calls P f vals.toArray w fun e w'=>∃ V,e=.returned V∧RRep ⟨w',fun _=>none,Z⟩ w.heap.size Rt r V∧Below w.heap.size w w':=by
 obtain⟨fn,c,hfn,hc⟩:=hen
 obtain⟨h1,h2⟩:=hX.fns f fn hfn
 unfold runx at h
 rw [hfn] at h
 simp only [hc] at h
 refine(callsIn_wide (n:=0)).1 (callsIn_of_wp_marks (F:=FW none) h1 hc trivial ?_)
 have hbad:badOf Z (fun _=>none) []=Z:=by
  funext g
  apply propext
  constructor
  ·rintro(h|⟨b,r,k,V,h1,_⟩)
   ·exact h
   ·simp at h1
  ·exact Or.inl
 have hm:MInv w.heap.size Z (fun _=>none) [] w:=⟨Nat.le_refl _,hZ,by simp,fun _ _=>rfl,by simp,by simp,by simp⟩
 have hgo:∀ c' l L,c' ∈ scopesOf c→lps (R:=Rt.T) f (1000+l)=some L→∃ rest,findLabel c' l=some rest∧GotoOk P 0 w.heap.size Z (fun _=>none) [] w r rest l L:=by
  intro c' l L hc' hL
  obtain⟨rest,hf,hlo,hsc,hlaw⟩:=hs fn c hfn hc c' l L hc' hL
  refine⟨rest,hf,fun s K a w1 Q h1 hg hk=>?_⟩
  obtain⟨n,dead,deadx,s1,e1,e2⟩:=hlaw s K r h1
  exact⟨n,gotos_ok (codex_ok hX (callN_ok hX 20) rest (Or.inl rfl) (fun c' L hc'=>by rw [hlo] at hc';cases hc') (fun c' l L hc'=>by rw [hsc] at hc';cases hc')) n s1 K a w1 Q e2 (head_good e1 hg) hk⟩
 refine codex_ok (ro:=none) (N:=0) (B:=w.heap.size) (F:=Z) (G0:=fun _=>none) (m0:=[]) (w0:=w) hX (callN_ok hX 20) c (Or.inl rfl) (fun c' L hc' hL=>⟨rfl,fun s K hs=>hl fn c hfn hc c' L hc' hL s K r hs⟩) hgo (startx fn as []) _ _ w _ h
  ⟨fun _=>none,hm,start_rep (by simp only [rc,startx,hbad];exact hargs),Came.start _ _ _ _ _,Marks.nil _ _⟩ fun e s' a' w' hgd _ hk=>?_
 obtain⟨G',hm',ht',hc',hd'⟩:=hgd
 have fin:retx X.T fn s' (fun v m=>Rt.parse m true v)=some r→LeavesInM (FW none) 0 P fn a'.tmps (fun e w'=>∃ V,e=.returned V∧RRep ⟨w',fun _=>none,Z⟩ w.heap.size Rt r V∧Below w.heap.size w w') a'.defers .returning w':=by
  intro hk
  refine leaves_marks hd' fun w2 hA=>?_
  have hm2:=minv_aside hm' hA
  have hc2:=hc'.aside hA
  obtain⟨v,V,hr,hv,hk⟩:=ret_ok (P:=P) hX hm2 (reps_aside hA ht') hk
  refine⟨V,hr,V,rfl,rd_parse_ok hm2 true Z (fun g hg hF=>hg (Or.inl hF)) (fun _=>own_notF hm2) hv hk,?_⟩
  refine⟨hc2.grow.os,hc2.grow.tape,hc2.grow.output,hc2.grow.size,fun g hg=>hc2.grow.block g hg ?_⟩
  rintro⟨b,k,V,h1,_⟩
  simp at h1
 cases e with
 | normal=>exact fin hk
 | ret=>exact fin hk
 | exit i=>cases hk
 | goto l=>cases hk
theorem fnx_ok {X:Ctx} (hX:XOk P X) {lps:{R:Type}→Lps R} {f:FuncId} {A:List DS} {Rt:RD} (hl:∀ fn c,X.fns f=some fn→fn.body=some c→∀ c' L,c' ∈ loopsOf c→lps (R:=Rt.T) f (firstRid c')=some L →
  ∀ s K r,L s K=some r→∃ n dead deadx s1,headx dead s=some s1∧loopx (codex X lps (callN X 20) f c') (headx dead) (headx deadx) n s1 K=some r)
  {g:DsT A→Option Rt.T} (hg:∀ x r,g x=some r→fnx X lps f A Rt x=some r) (hen:∃ fn c,X.fns f=some fn∧fn.body=some c)
  (hs:∀ fn c,X.fns f=some fn→fn.body=some c→∀ c' l L,c' ∈ scopesOf c→lps (R:=Rt.T) f (1000+l)=some L→∃ rest,findLabel c' l=some rest∧loopsOf rest=[]∧scopesOf rest=[] ∧
   ∀ s K r,L s K=some r→∃ n dead deadx s1,headx dead s=some s1∧loopx (gbody (codex X lps (callN X 20) f rest) l) (headx dead) (headx deadx) n s1 K=some r:=by (intros;contradiction)):SpecOk P f ⟨A,Rt,g⟩:=by
 obtain⟨fn,c,hfn,hc⟩:=hen
 obtain⟨h1,h2⟩:=hX.fns f fn hfn
 exact⟨⟨fn,c,h1,h2,hc⟩,fun Z w x vals r hZ hargs hr=>runx_ok hX hl hs (hg x r hr) ⟨fn,c,hfn,hc⟩ hZ hargs⟩
theorem clone_ok {X:Ctx} (hX:XOk P X) {f:FuncId} {E:TypeId} {K:Kd} {g:Nat→Bool} (hen:∃ fn c,X.fns f=some fn∧fn.body=some c)
  (h1:∀ c,runx X (fun _ _=>none) f [.v (.slice none 0 c)] (.row E K)=some ([]:List K.T))
  (h2:∀ p c,runx X (fun _ _=>none) f [.v (.slice (some p) 0 c)] (.row E K)=some ([]:List K.T))
  (h3:∀ (x:K.T) (l:List K.T),g (l.length+1)=true→runx X (fun _ _=>none) f [.seq K (x :: l)] (.row E K)=some (x :: l:List K.T)) :
  SpecOk P f ⟨[.sc (.sl K)],.row E K,fun x=>bif g (List.length (α:=K.T) x.1) then some x.1 else none⟩:=by
 obtain⟨fn,c,hfn,hc⟩:=hen
 obtain⟨n1,n2⟩:=hX.fns f fn hfn
 refine⟨⟨fn,c,n1,n2,hc⟩,fun Z w x vals r hZ hargs hr=>?_⟩
 obtain⟨xs,u⟩:=x
 have run:∀ (s:SV) (V:Value),vals=[V]→SRep ⟨w,fun _=>none,Z⟩ s V→runx X (fun _ _=>none) f [s] (.row E K)=some r→Calls P f vals.toArray w fun e w'=>∃ V,e=.returned V∧RRep ⟨w',fun _=>none,Z⟩ w.heap.size (.row E K) r V∧Below w.heap.size w w':=by
  rintro s V rfl hs hr
  exact runx_ok hX (fun _ _ _ _ _ _ _ h=>by cases h) (fun _ _ _ _ _ _ _ _ h=>by cases h) hr ⟨fn,c,hfn,hc⟩ hZ (by simp only [SReps];exact⟨V,[],rfl,hs,rfl⟩)
 have hargs':SReps ⟨w,fun _=>none,Z⟩ [.seq K xs] vals:=hargs
 simp only [SReps] at hargs'
 obtain⟨V,vs,rfl,hs,rfl⟩:=hargs'
 have hr':(bif g (List.length (α:=K.T) xs) then some xs else none:Option (List K.T))=some r:=hr
 have hs':=hs
 simp only [SRep] at hs'
 obtain⟨ad,cp,e',hcp,hel⟩:=hs'
 simp only [List.cons.injEq,and_true] at e'
 cases hxs:(show List K.T from xs) with
 | nil =>
  have hx0:xs=([]:List K.T):=hxs
  subst hx0
  have hr0:r=([]:List K.T):=by
   revert hr'
   cases g (List.length ([]:List K.T)) with
   | true=>intro h;exact(Option.some.inj h).symm
   | false=>intro h;cases h
  subst hr0
  subst e'
  cases ad with
  | none=>exact run (.v (.slice none 0 cp)) _ rfl (by simp only [SRep];rfl) (h1 cp)
  | some p=>exact run (.v (.slice (some p) 0 cp)) _ rfl (by simp only [SRep];rfl) (h2 p cp)
 | cons x0 l =>
  have hx0:xs=(x0 :: l:List K.T):=hxs
  subst hx0
  cases hgv:g (l.length+1) with
  | false =>
   have:(bif g (l.length+1) then some (x0 :: l) else none:Option (List K.T))=some r:=hr'
   rw [hgv] at this;cases this
  | true =>
   have:(bif g (l.length+1) then some (x0 :: l) else none:Option (List K.T))=some r:=hr'
   rw [hgv] at this
   obtain rfl:=Option.some.inj this
   exact run _ _ rfl hs (h3 x0 l hgv)
end Go.Proofs.Ytgmkppeghnlcmaa.X
end
section
set_option linter.unusedVariables false
set_option linter.unusedSimpArgs false
namespace Go.Proofs.Ytgmkppeghnlcmaa.X
open Go Go.RowKit
set_option linter.unusedVariables false
set_option linter.unusedSimpArgs false
inductive Sk where
  | lit (k:IntKind) (n:Int)
  | int (k:IntKind)
  | bool
  | nil
  | agg (l:List Sk)
  | tup (l:List Sk)
  | ptr (b off:Nat)
  | seq (K:Kd)
  | own (b:Nat)
  | arr (b off n c:Nat)
  | rptr (K:Kd) (off:Nat)
  | emp
  | junk
mutual
def Sk.T:Sk→Type
  | .int _=>Int
  | .bool=>Bool
  | .agg l=>Sk.Ts l
  | .tup l=>Sk.Ts l
  | .seq K=>List K.T
  | .rptr K _=>K.T
  | _=>Unit
def Sk.Ts:List Sk→Type
  | []=>Unit
  | s :: l=>s.T × Sk.Ts l
end
mutual
def Sk.fill:(s:Sk)→s.T→SV
  | .lit k n,_=>.v (.int k n)
  | .int k,x=>.v (.int k x)
  | .bool,x=>.v (.bool x)
  | .nil,_=>.v (.slice none 0 0)
  | .agg l,x=>.agg (Sk.fills l x)
  | .tup l,x=>.tup (Sk.fills l x)
  | .ptr b o,_=>.ptr b o
  | .seq K,x=>.seq K x
  | .own b,_=>.own b
  | .arr b o n c,_=>.arr b o n c
  | .rptr K o,x=>.rptr K x o
  | .emp,_=>.emp
  | .junk,_=>.junk
def Sk.fills:(l:List Sk)→Sk.Ts l→List SV
  | [],_=>[]
  | s :: l,x=>s.fill x.1 :: Sk.fills l x.2
end
inductive BSk where
  | cells (l:List Sk)
  | row (E:TypeId) (K:Kd)
def BSk.T:BSk→Type
  | .cells l=>Sk.Ts l
  | .row _ K=>List K.T
def BSk.fill:(b:BSk)→b.T→Blk
  | .cells l,x=>.cells (Sk.fills l x)
  | .row E K,x=>.row E K x
def MSk.T:List (Option BSk)→Type
  | []=>Unit
  | some b :: l=>b.T × MSk.T l
  | none :: l=>MSk.T l
def MSk.fill:(l:List (Option BSk))→MSk.T l→Mem
  | [],_=>[]
  | some b :: l,x=>some (true,b.fill x.1) :: MSk.fill l x.2
  | none :: l,x=>none :: MSk.fill l x
structure StSk where
  t:List Sk
  m:List (Option BSk)
def StSk.T (s:StSk):Type:=Sk.Ts s.t × MSk.T s.m
def StSk.fill (s:StSk) (x:s.T):St:=⟨Sk.fills s.t x.1,MSk.fill s.m x.2⟩
def unInt (k:IntKind):SV→Option Int
  | .v (.int k' x)=>if k'=k then some x else none
  | _=>none
def unLit (k:IntKind) (n:Int):SV→Option Unit
  | .v (.int k' x)=>if k'=k∧x=n then some () else none
  | _=>none
def unBool:SV→Option Bool
  | .v (.bool x)=>some x
  | _=>none
def unNil:SV→Option Unit
  | .v y=>if nilB y=true then some () else none
  | _=>none
def unAgg:SV→Option (List SV)
  | .agg l=>some l
  | _=>none
def unTup:SV→Option (List SV)
  | .tup l=>some l
  | _=>none
def unPtr (b o:Nat):SV→Option Unit
  | .ptr b' o'=>if b'=b∧o'=o then some () else none
  | _=>none
def unSeq (K:Kd):SV→Option (List K.T)
  | .seq K' x=>castL x
  | _=>none
def unOwn (b:Nat):SV→Option Unit
  | .own b'=>if b'=b then some () else none
  | _=>none
def unArr (b o n c:Nat):SV→Option Unit
  | .arr b' o' n' c'=>if b'=b∧o'=o∧n'=n∧c'=c then some () else none
  | _=>none
def unRptr (K:Kd) (o:Nat):SV→Option K.T
  | .rptr K' x o'=>if h:K'=K∧o'=o then some (h.1▸x) else none
  | _=>none
def unEmp:SV→Option Unit
  | .emp=>some ()
  | _=>none
def unJunk:SV→Option Unit
  | .junk=>some ()
  | _=>none
theorem unInt_ok {k:IntKind} {v:SV} {x:Int} (h:unInt k v=some x):v=.v (.int k x):=by
 unfold unInt at h
 split at h
 ·split at h
  ·rename_i e;subst e;obtain rfl:=Option.some.inj h;rfl
  ·cases h
 ·cases h
theorem unLit_ok {k:IntKind} {n:Int} {v:SV} {x:Unit} (h:unLit k n v=some x):v=.v (.int k n):=by
 unfold unLit at h
 split at h
 ·split at h
  ·rename_i e;rw [e.1,e.2]
  ·cases h
 ·cases h
theorem unBool_ok {v:SV} {x:Bool} (h:unBool v=some x):v=.v (.bool x):=by
 unfold unBool at h
 split at h
 ·obtain rfl:=Option.some.inj h;rfl
 ·cases h
theorem unNil_ok {v:SV} {x:Unit} (h:unNil v=some x):v=.v (.slice none 0 0):=by
 unfold unNil at h
 split at h
 ·split at h
  ·rename_i e;rw [nilB_ok e]
  ·cases h
 ·cases h
theorem unAgg_ok {v:SV} {x:List SV} (h:unAgg v=some x):v=.agg x:=by
 unfold unAgg at h
 split at h
 ·obtain rfl:=Option.some.inj h;rfl
 ·cases h
theorem unTup_ok {v:SV} {x:List SV} (h:unTup v=some x):v=.tup x:=by
 unfold unTup at h
 split at h
 ·obtain rfl:=Option.some.inj h;rfl
 ·cases h
theorem unPtr_ok {b o:Nat} {v:SV} {x:Unit} (h:unPtr b o v=some x):v=.ptr b o:=by
 unfold unPtr at h
 split at h
 ·split at h
  ·rename_i e;rw [e.1,e.2]
  ·cases h
 ·cases h
theorem unSeq_ok {K:Kd} {v:SV} {x:List K.T} (h:unSeq K v=some x):v=.seq K x:=by
 unfold unSeq at h
 split at h
 ·obtain⟨e,he⟩:=castL_some h
  subst e
  try simp only at he
  subst he
  rfl
 ·cases h
theorem unOwn_ok {b:Nat} {v:SV} {x:Unit} (h:unOwn b v=some x):v=.own b:=by
 unfold unOwn at h
 split at h
 ·split at h
  ·rename_i e;rw [e]
  ·cases h
 ·cases h
theorem unArr_ok {b o n c:Nat} {v:SV} {x:Unit} (h:unArr b o n c v=some x):v=.arr b o n c:=by
 unfold unArr at h
 split at h
 ·split at h
  ·rename_i e;obtain⟨rfl,rfl,rfl,rfl⟩:=e;rfl
  ·cases h
 ·cases h
theorem unRptr_ok {K:Kd} {o:Nat} {v:SV} {x:K.T} (h:unRptr K o v=some x):v=.rptr K x o:=by
 unfold unRptr at h
 split at h
 ·split at h
  ·rename_i e
   obtain⟨rfl,rfl⟩:=e
   obtain rfl:=Option.some.inj h
   rfl
  ·cases h
 ·cases h
theorem unEmp_ok {v:SV} {x:Unit} (h:unEmp v=some x):v=.emp:=by
 unfold unEmp at h
 split at h
 ·rfl
 ·cases h
theorem unJunk_ok {v:SV} {x:Unit} (h:unJunk v=some x):v=.junk:=by
 unfold unJunk at h
 split at h
 ·rfl
 ·cases h
mutual
def Sk.un:(s:Sk)→SV→Option s.T
  | .lit k n,v=>unLit k n v
  | .int k,v=>unInt k v
  | .bool,v=>unBool v
  | .nil,v=>unNil v
  | .agg l,v=>match unAgg v with|some l'=>Sk.uns l l'|none=>none
  | .tup l,v=>match unTup v with|some l'=>Sk.uns l l'|none=>none
  | .ptr b o,v=>unPtr b o v
  | .seq K,v=>unSeq K v
  | .own b,v=>unOwn b v
  | .arr b o n c,v=>unArr b o n c v
  | .rptr K o,v=>unRptr K o v
  | .emp,v=>unEmp v
  | .junk,v=>unJunk v
def Sk.uns:(l:List Sk)→List SV→Option (Sk.Ts l)
  | [],[]=>some ()
  | [],_ :: _=>none
  | _ :: _,[]=>none
  | s :: l,v :: vs=>match s.un v with
    | some x=>match Sk.uns l vs with
      | some y=>some (x,y)
      | none=>none
    | none=>none
end
def BSk.un:(b:BSk)→Blk→Option b.T
  | .cells l,.cells cs=>Sk.uns l cs
  | .row E K,.row E' K' xs=>if E'=E then castL (a:=K) xs else none
  | _,_=>none
def MSk.un:(l:List (Option BSk))→Mem→Option (MSk.T l)
  | [],[]=>some ()
  | some b :: l,some (true,k) :: m=>match b.un k with
    | some x=>match MSk.un l m with
      | some y=>some (x,y)
      | none=>none
    | none=>none
  | none :: l,none :: m=>MSk.un l m
  | _,_=>none
def StSk.un (s:StSk) (x:St):Option s.T:=match Sk.uns s.t x.t with
  | some a=>match MSk.un s.m x.m with
    | some b=>some (a,b)
    | none=>none
  | none=>none
mutual
theorem Sk.un_ok:∀ {s:Sk} {v:SV} {x:s.T},s.un v=some x→v=s.fill x
  | .lit k n,v,x,h=>unLit_ok (x:=x) h
  | .int k,v,x,h=>unInt_ok h
  | .bool,v,x,h=>unBool_ok h
  | .nil,v,x,h=>unNil_ok h
  | .agg l,v,x,h=>by
    have h':(match unAgg v with|some l'=>Sk.uns l l'|none=>none)=some x:=h
    split at h'
    · rename_i l' hl'
      rw [unAgg_ok hl',Sk.uns_ok h'];rfl
    · cases h'
  | .tup l,v,x,h=>by
    have h':(match unTup v with|some l'=>Sk.uns l l'|none=>none)=some x:=h
    split at h'
    · rename_i l' hl'
      rw [unTup_ok hl',Sk.uns_ok h'];rfl
    · cases h'
  | .ptr b o,v,x,h=>unPtr_ok (x:=x) h
  | .seq K,v,x,h=>unSeq_ok h
  | .own b,v,x,h=>unOwn_ok (x:=x) h
  | .arr b o n c,v,x,h=>unArr_ok (x:=x) h
  | .rptr K o,v,x,h=>unRptr_ok h
  | .emp,v,x,h=>unEmp_ok (x:=x) h
  | .junk,v,x,h=>unJunk_ok (x:=x) h
theorem Sk.uns_ok:∀ {l:List Sk} {vs:List SV} {x:Sk.Ts l},Sk.uns l vs=some x→vs=Sk.fills l x
  | [],[],x,h=>rfl
  | [],_ :: _,x,h=>by cases (show(none:Option Unit)=some x from h)
  | s :: l,[],x,h=>by cases (show(none:Option (Sk.Ts (s :: l)))=some x from h)
  | s :: l,v :: vs,x,h=>by
    have h':(match s.un v with|some x=>(match Sk.uns l vs with|some y=>some (x,y)|none=>none)|none=>none)=some x:=h
    split at h'
    · rename_i y hy
      split at h'
      · rename_i z hz
        obtain rfl:=Option.some.inj h'
        rw [Sk.un_ok hy,Sk.uns_ok hz]
        rfl
      · cases h'
    · cases h'
end
theorem BSk.un_ok {b:BSk} {k:Blk} {x:b.T} (h:b.un k=some x):k=b.fill x:=by
 cases b with
 | cells l =>
  cases k with
  | cells cs =>
   have h':Sk.uns l cs=some x:=h
   rw [Sk.uns_ok h'];rfl
  | row E K xs=>cases (show(none:Option (Sk.Ts l))=some x from h)
 | row E K =>
  cases k with
  | cells cs=>cases (show(none:Option (List K.T))=some x from h)
  | row E' K' xs =>
   have h':(if E'=E then castL (a:=K) xs else none)=some x:=h
   split at h'
   ·rename_i e
    subst e
    obtain⟨e,he⟩:=castL_some h'
    subst e
    try simp only at he
    subst he
    rfl
   ·cases h'
theorem MSk.un_ok:∀ {l:List (Option BSk)} {m:Mem} {x:MSk.T l},MSk.un l m=some x→m=MSk.fill l x
 | [],[],x,h=>rfl
 | [],_ :: _,x,h=>by cases (show(none:Option Unit)=some x from h)
 | some b :: l,[],x,h=>by cases (show(none:Option (MSk.T (some b :: l)))=some x from h)
 | some b :: l,none :: m,x,h=>by cases (show(none:Option (MSk.T (some b :: l)))=some x from h)
 | some b :: l,some (false,k) :: m,x,h=>by cases (show(none:Option (MSk.T (some b :: l)))=some x from h)
 | some b :: l,some (true,k) :: m,x,h=>by
  have h':(match b.un k with|some x=>(match MSk.un l m with|some y=>some (x,y)|none=>none)|none=>none)=some x:=h
  split at h'
  ·rename_i y hy
   split at h'
   ·rename_i z hz
    obtain rfl:=Option.some.inj h'
    rw [BSk.un_ok hy,MSk.un_ok hz]
    rfl
   ·cases h'
  ·cases h'
 | none :: l,[],x,h=>by cases (show(none:Option (MSk.T l))=some x from h)
 | none :: l,none :: m,x,h=>by
  have h':MSk.un l m=some x:=h
  rw [MSk.un_ok h'];rfl
 | none :: l,some y :: m,x,h=>by cases (show(none:Option (MSk.T l))=some x from h)
theorem StSk.un_ok {s:StSk} {v:St} {x:s.T} (h:s.un v=some x):v=s.fill x:=by
 unfold StSk.un at h
 split at h
 ·rename_i a ha
  split at h
  ·rename_i b hb
   obtain rfl:=Option.some.inj h
   obtain⟨t,m⟩:=v
   simp only at ha hb
   rw [Sk.uns_ok ha,MSk.un_ok hb]
   rfl
  ·cases h
 ·cases h
inductive Out (ex:List (Ex × StSk)) where
  | mk (i:Fin ex.length) (x:(ex[i].2).T)
def roundx {R:Type} (body:St→(Ex→St→Option R)→Option R) (hd hx:St→Option St) (s:St) (nx:Option St→Option R) (ex:Ex→Option St→Option R):Option R :=
  body s fun e s'=>match e with
    | .normal=>nx (hd s')
    | .exit i=>ex (.exit i) (hx s')
    | .ret=>ex .ret (hx s')
    | .goto l=>ex (.goto l) (hx s')
theorem loopx_round {R:Type} {body:St→(Ex→St→Option R)→Option R} {hd hx:St→Option St} (n:Nat) (s:St) (K:Ex→St→Option R) :
  loopx body hd hx (n+1) s K=roundx body hd hx s (fun o=>match o with|some s'=>loopx body hd hx n s' K|none=>none) (fun e o=>match o with|some s'=>K e s'|none=>none):=by
 simp only [loopx,roundx]
 congr 1
end Go.Proofs.Ytgmkppeghnlcmaa.X
end
section
set_option linter.unusedVariables false
set_option linter.unusedSimpArgs false
namespace Go.Proofs.Ytgmkppeghnlcmaa.X
open Go Go.RowKit
set_option linter.unusedVariables false
set_option linter.unusedSimpArgs false
variable {P:Program} {R:Type}
def iter {D:Type} (rnd:D→(D→Option R)→(Ex→St→Option R)→Option R):Nat→D→(Ex→St→Option R)→Option R
  | 0,_,_=>none
  | n+1,x,K=>rnd x (fun x'=>iter rnd n x' K) K
theorem loopx_iter {D:Type} {form:D→St} {body:St→(Ex→St→Option R)→Option R} {hd hx:St→Option St} {rnd:D→(D→Option R)→(Ex→St→Option R)→Option R}
  (hr:∀ x N E,roundx body hd hx (form x) N E=rnd x (fun x'=>N (some (form x'))) (fun e s=>E e (some s))):∀ n x K,loopx body hd hx n (form x) K=iter rnd n x K:=by
 intro n
 induction n with
 | zero=>intro x K;rfl
 | succ n ih =>
  intro x K
  rw [loopx_round,hr]
  simp only [iter,ih]
noncomputable def lpx (dead:List Nat) (sk:StSk) (res:sk.T→(Ex→St→Option R)→Option R):St→(Ex→St→Option R)→Option R:=fun s K=>match headx dead s with
  | some s1=>match sk.un s1 with
    | some x=>res x K
    | none=>none
  | none=>none
theorem lpx_ok {dead deadx:List Nat} {sk:StSk} {res:sk.T→(Ex→St→Option R)→Option R} {body:St→(Ex→St→Option R)→Option R} {rnd:sk.T→(sk.T→Option R)→(Ex→St→Option R)→Option R}
  (hr:∀ x N E,roundx body (headx dead) (headx deadx) (sk.fill x) N E=rnd x (fun x'=>N (some (sk.fill x'))) (fun e s=>E e (some s)))
  (hres:∀ x K r,res x K=some r→∃ n,iter rnd n x K=some r) {s:St} {K:Ex→St→Option R} {r:R} (h:lpx dead sk res s K=some r) :
  ∃ n dead deadx s1,headx dead s=some s1∧loopx body (headx dead) (headx deadx) n s1 K=some r:=by
 unfold lpx at h
 split at h
 ·rename_i s1 hs1
  split at h
  ·rename_i x hx
   obtain⟨n,hn⟩:=hres x K r h
   refine⟨n,dead,deadx,s1,hs1,?_⟩
   rw [StSk.un_ok hx,loopx_iter hr,hn]
  ·cases h
 ·cases h
noncomputable def lpd {D:Type} (dead:List Nat) (sk:StSk) (un:sk.T→D) (res:D→(Ex→St→Option R)→Option R):St→(Ex→St→Option R)→Option R:=fun s K=>match headx dead s with
  | some s1=>match sk.un s1 with
    | some x=>res (un x) K
    | none=>none
  | none=>none
theorem lpd_ok {D:Type} {dead deadx:List Nat} {sk:StSk} {un:sk.T→D} {form:D→St} {res:D→(Ex→St→Option R)→Option R} {body:St→(Ex→St→Option R)→Option R} {rnd:D→(D→Option R)→(Ex→St→Option R)→Option R}
  (hun:∀ x,sk.fill x=form (un x))
  (hr:∀ x N E,roundx body (headx dead) (headx deadx) (form x) N E=rnd x (fun x'=>N (some (form x'))) (fun e s=>E e (some s)))
  (hres:∀ x K r,res x K=some r→∃ n,iter rnd n x K=some r) {s:St} {K:Ex→St→Option R} {r:R} (h:lpd dead sk un res s K=some r) :
  ∃ n dead deadx s1,headx dead s=some s1∧loopx body (headx dead) (headx deadx) n s1 K=some r:=by
 unfold lpd at h
 split at h
 ·rename_i s1 hs1
  split at h
  ·rename_i x hx
   obtain⟨n,hn⟩:=hres (un x) K r h
   refine⟨n,dead,deadx,s1,hs1,?_⟩
   rw [StSk.un_ok hx,hun,loopx_iter hr,hn]
  ·cases h
 ·cases h
theorem iter_by {D:Type} {rnd:D→(D→Option R)→(Ex→St→Option R)→Option R} {K:Ex→St→Option R} {r:R} (meas:D→Nat) (res:D→Option R)
  (h:∀ x,res x=some r→(∃ x',meas x'<meas x∧res x'=some r∧∀ N,N x'=some r→rnd x N K=some r)∨(∀ N,rnd x N K=some r)):∀ x,res x=some r→∃ n,iter rnd n x K=some r:=by
 suffices ∀ k x,meas x<k→res x=some r→∃ n,iter rnd n x K=some r from fun x hx=>this _ x (Nat.lt_succ_self _) hx
 intro k
 induction k with
 | zero=>intro x hx;omega
 | succ k ih =>
  intro x hx hr
  rcases h x hr with ⟨x',h1,h2,h3⟩|h1
  ·obtain⟨n,hn⟩:=ih x' (by omega) h2
   exact⟨n+1,h3 _ hn⟩
  ·exact⟨1,h1 _⟩
def loopAt (X:Ctx) (f:FuncId) (k:Nat):Code:=(loopsOf (bodyOf X f)).getD k .skip
def LoopOk (X:Ctx) (R:Type) (L:Option (St→(Ex→St→Option R)→Option R)) (f:FuncId) (k:Nat) (lps:Lps R):Prop :=
  ∀ L',L=some L'→∀ s K r,L' s K=some r→∃ n dead deadx s1,headx dead s=some s1∧loopx (codex X lps (callN X 20) f (loopAt X f k)) (headx dead) (headx deadx) n s1 K=some r
theorem fnl_ok {X:Ctx} (hX:XOk P X) {lps:{R:Type}→Lps R} {f:FuncId} {A:List DS} {Rt:RD} (n:Nat) (hn:(loopsOf (bodyOf X f)).length=n)
  (hl:∀ k,k<n→LoopOk X Rt.T (lps f (firstRid (loopAt X f k))) f k lps)
  {g:DsT A→Option Rt.T} (hg:∀ x r,g x=some r→fnx X lps f A Rt x=some r) (hen:∃ fn c,X.fns f=some fn∧fn.body=some c) (hsc:scopesOf (bodyOf X f)=[]:=by kernel_rfl):SpecOk P f ⟨A,Rt,g⟩:=by
 refine fnx_ok hX (fun fn c hfn hc c' L hc' hL s K r hs=>?_) hg hen (fun fn c hfn hc c' l L hc'=>by
  have hb:bodyOf X f=c:=by simp [bodyOf,hfn,hc]
  rw [hb] at hsc
  rw [hsc] at hc'
  cases hc')
 have hb:bodyOf X f=c:=by simp [bodyOf,hfn,hc]
 obtain⟨k,hk,he⟩:=List.getElem_of_mem hc'
 have hk':k<n:=by rw [←hn,hb];exact hk
 have hat:loopAt X f k=c':=by simp [loopAt,hb,List.getD,hk,he]
 have:=hl k hk' L (by rw [hat];exact hL) s K r hs
 rwa [hat] at this
theorem fng_ok {X:Ctx} (hX:XOk P X) {lps:{R:Type}→Lps R} {f:FuncId} {A:List DS} {Rt:RD} {c rest:Code} (l:Nat) (hlo:loopsOf (bodyOf X f)=[]) (hsc:scopesOf (bodyOf X f)=[c]) (hf:findLabel c l=some rest) (h1:loopsOf rest=[]) (h2:scopesOf rest=[]) (hone:∀ k,k≠l→lps (R:=Rt.T) f (1000+k)=none)
  (hL:∀ L',lps (R:=Rt.T) f (1000+l)=some L'→∀ s K r,L' s K=some r→∃ n dead deadx s1,headx dead s=some s1∧loopx (gbody (codex X lps (callN X 20) f rest) l) (headx dead) (headx deadx) n s1 K=some r)
  {g:DsT A→Option Rt.T} (hg:∀ x r,g x=some r→fnx X lps f A Rt x=some r) (hen:∃ fn c,X.fns f=some fn∧fn.body=some c):SpecOk P f ⟨A,Rt,g⟩:=by
 refine fnx_ok hX (fun fn c' hfn hc d L hd=>?_) hg hen (fun fn c' hfn hc d k L hd hk=>?_)
 ·have hb:bodyOf X f=c':=by simp [bodyOf,hfn,hc]
  rw [←hb,hlo] at hd
  cases hd
 ·have hb:bodyOf X f=c':=by simp [bodyOf,hfn,hc]
  rw [←hb,hsc] at hd
  obtain rfl:d=c:=by simpa using hd
  by_cases e:k=l
  ·subst e
   exact⟨rest,hf,h1,h2,fun s K r hs=>hL L hk s K r hs⟩
  ·rw [hone k e] at hk;cases hk
end Go.Proofs.Ytgmkppeghnlcmaa.X
end
