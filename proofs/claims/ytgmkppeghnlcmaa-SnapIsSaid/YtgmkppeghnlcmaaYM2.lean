/- Lemmas of the rows, laid by a program. -/
import Derived.Test.YtgmkppeghnlcmaaYM1
import Derived.RangeFuncNested
section
set_option linter.unusedVariables false
set_option linter.unusedSimpArgs false
namespace Go.Proofs.Ytgmkppeghnlcmaa.X
open Go Go.RowKit
set_option linter.unusedVariables false
set_option linter.unusedSimpArgs false
variable {P:Program}
abbrev FW (ro:Option Nat):Fence:={ Fence.wide with round:=ro }
theorem wpIn_fuel {ro:Option Nat} {c:Code} {Q:Exit→Act→World→Prop} {a:Act} {w:World} {n m:Nat} (h:c.wpIn (FW ro) n P Q a w):c.wpIn (FW ro) m P Q a w :=
 fun b k cs hro hb _=>h b k cs hro hb (fun d hd=>by cases hd)
structure Aside (B:Nat) (W W':World):Prop where
  os:W'.os=W.os
  tape:W'.tape=W.tape
  output:W'.output=W.output
  size:W.heap.size≤W'.heap.size
  same:∀ (g:Nat) (o:Obj),W.heap[g]? = some o→(g<B∨o.isCells=true)→W'.heap[g]? = some o
theorem Aside.put {B:Nat} {W:World} {l:Nat} {o:Obj} (o':Obj) (hB:B≤l) (hl:W.heap[l]? = some o) (ho:o.isCells=false):Aside B W (W.putObj l o') :=
 ⟨rfl,rfl,rfl,by simp,fun g x hx h=>by
  rw [World.putObj_heap_other]
  ·exact hx
  ·rintro rfl
   rw [hl] at hx
   obtain rfl:=Option.some.inj hx
   rcases h with h|h
   ·omega
   ·rw [ho] at h;cases h⟩
theorem Aside.grown {B:Nat} {W W':World} (h:W.grownBy W' none):Aside B W W' :=
 ⟨h.os,h.tape,h.output,h.size,fun g o hg _=>(h.block g (Array.getElem?_eq_some_iff.1 hg).1 (by simp)).trans hg⟩
theorem Aside.trans {B:Nat} {W W' W'':World} (h:Aside B W W') (k:Aside B W' W''):Aside B W W'' :=
 ⟨k.os.trans h.os,k.tape.trans h.tape,k.output.trans h.output,Nat.le_trans h.size k.size,fun g o hg hx=>k.same g o (h.same g o hg hx) hx⟩
structure Kpt (B:Nat) (Wr:Nat→Prop) (A C:World):Prop where
  os:C.os=A.os
  tape:C.tape=A.tape
  output:C.output=A.output
  size:A.heap.size≤C.heap.size
  same:∀ g,g<B→¬Wr g→C.heap[g]? = A.heap[g]?
theorem Kpt.refl (B:Nat) (Wr:Nat→Prop) (A:World):Kpt B Wr A A:=⟨rfl,rfl,rfl,Nat.le_refl _,fun _ _ _=>rfl⟩
theorem Kpt.trans {B:Nat} {Wr:Nat→Prop} {A C D:World} (h:Kpt B Wr A C) (k:Kpt B Wr C D):Kpt B Wr A D :=
 ⟨k.os.trans h.os,k.tape.trans h.tape,k.output.trans h.output,Nat.le_trans h.size k.size,fun g hg hn=>(k.same g hg hn).trans (h.same g hg hn)⟩
theorem Kpt.put {B:Nat} {Wr:Nat→Prop} {W:World} {l:Nat} (o:Obj) (hB:B≤l):Kpt B Wr W (W.putObj l o) :=
 ⟨rfl,rfl,rfl,by simp,fun g hg _=>World.putObj_heap_other (by omega)⟩
theorem Kpt.grown {B:Nat} {Wr:Nat→Prop} {W W':World} (h:W.grownBy W' none) (hB:B≤W.heap.size):Kpt B Wr W W' :=
 ⟨h.os,h.tape,h.output,h.size,fun g hg _=>h.block g (by omega) (by simp)⟩
def Gives (P:Program) (g:Nat) (lb:Array Value) (Ys:List Value) (Kp:World→World→Prop) (w:World):Prop :=
  ∀ (l:Nat) (J Jx:Nat→World→Prop) (W:World),Kp w W→w.heap.size≤W.heap.size →
    (∀ k W W',J k W→W.grownBy W' none→J k W')→(∀ k W W',Jx k W→W.grownBy W' none→Jx k W') →
    (∀ k V W1,J k W1→Ys[k]? = some V→YieldAt (FW none) 2 P l #[V] W1 fun e W'=>(e=.returned (.bool true)∧J (k+1) W'∧Kp W1 W')∨(e=.returned (.bool false)∧Jx k W')) →
    J 0 W→CallsIn (FW none) 3 P g (#[.func (.yield l) #[] #[]]++lb) W fun e W'=>(∃ v,e=.returned v)∧(J Ys.length W'∨∃ k,Jx k W')
theorem range_wp {g:Operand} {p:Tmp} {assign body:Code} {Q:Exit→Act→World→Prop} {a:Act} {w:World} {gf:Nat} {lb:Array Value} (hg:a.eval g=.func (.func gf) #[] lb)
  (eg:∀ args w,(callFunc gf args).run P w=.ok (.enter gf args) w) {Ys:List Value} {Wr:Nat→Prop} (hgives:Gives P gf lb Ys (Kpt w.heap.size Wr) w)
  (I:Nat→World→Prop) (Ix:Code→World→Prop) (Ax:Nat→Act→World→Prop)
  (hI:∀ k W W',I k W→Aside w.heap.size W W'→I k W') (hIx:∀ c W W',Ix c W→Aside w.heap.size W W'→Ix c W') (hAx:∀ k a' W W',Ax k a' W→Aside w.heap.size W W'→Ax k a' W')
  (h0:I 0 w)
  (hassign:∀ l k V W,I k W→Ys[k]? = some V→assign.wpIn (FW (some l)) 0 P (Exit.then (fun a' W'=>KeepsFrom w.heap.size W W'∧Kpt w.heap.size Wr W W'∧Ax k a' W') (fun _ _ _=>False)) { tmps:=a.tmps.setIfInBounds p V,defers:=[] } W)
  (hbody:∀ l k a' W,Ax k a' W→k<Ys.length→body.wpIn (FW (some l)) 0 P (fun e _ W'=>KeepsFrom w.heap.size W W'∧match e with
   | .normal=>Kpt w.heap.size Wr W W'∧I (k+1) W'
   | .ret=>Ix .ret W'
   | .exit id=>Ix (.exit id) W'
   | _=>False) a' W)
  (hdone:∀ D W,w.heap.size≤D→I Ys.length W→W.heap[D]? = some (.deferred (some []))→Q .normal { a with defers:={ target:=.collected D,args:=#[] } :: a.defers } W)
  (hstop:∀ D c W,w.heap.size≤D→Ix c W→W.heap[D]? = some (.deferred (some []))→c.wpIn (FW none) 0 P Q { a with defers:={ target:=.collected D,args:=#[] } :: a.defers } W) :
  (Code.rangeFunc g #[p] assign body).wpIn (FW none) 0 P Q a w:=by
 refine wpIn_fuel (n:=4) (wpIn_rangeFunc ?_)
 intro fn hfn
 let rc:LoopState→Option Code→Loop:=fun st pe=>{ state:=st,pending:=pe,fn,tmps:=a.tmps,params:=#[p],assign,body,defers:=w.heap.size }
 let L:=w.heap.size+1
 have hsz:(w.alloc (.deferred (some []))).heap.size=w.heap.size+1:=by simp
 obtain⟨W1,hW1⟩:∃ W1,(w.alloc (.deferred (some []))).alloc (.loop (rc .ready none))=W1:=⟨_,rfl⟩
 have g1:w.grownBy (w.alloc (.deferred (some []))) none:=World.grownBy_alloc w _ none
 have g2:(w.alloc (.deferred (some []))).grownBy W1 none:=by rw [←hW1];exact World.grownBy_alloc _ _ none
 have hL1:W1.heap[L]? = some (.loop (rc .ready none)):=by
  rw [←hW1]
  have:=World.alloc_heap_new (w.alloc (.deferred (some []))) (.loop (rc .ready none))
  rwa [hsz] at this
 have hD1:W1.heap[w.heap.size]? = some (.deferred (some [])) :=
  (g2.block w.heap.size (by rw [hsz];omega) (by simp)).trans (World.alloc_heap_new w _)
 have as1:Aside w.heap.size w W1:=(Aside.grown g1).trans (Aside.grown g2)
 refine⟨L,[{ target:=.collected w.heap.size,args:=#[] }],W1,{ target:=.fn (.func gf) lb,args:=#[.func (.yield L) #[] #[]] },W1,gf,#[.func (.yield L) #[] #[]]++lb,W1,?_,?_,?_,?_,fun h=>(by cases h),?_⟩
 ·rw [←hW1];exact run_enterLoop_outer _ _ _ _ _
 ·simp only [resolve,hg]
  simp [go_sem]
 ·intro f' hf';trivial
 ·simp [invoke,go_sem,eg]
 ·refine(hgives L (fun k W=>I k W∧W.heap[L]? = some (.loop (rc .ready none))∧W.heap[w.heap.size]? = some (.deferred (some [])))
   (fun _ W=>∃ c,Ix c W∧W.heap[L]? = some (.loop (rc .done (some c)))∧W.heap[w.heap.size]? = some (.deferred (some []))) W1
   ((Kpt.grown g1 (Nat.le_refl _)).trans (Kpt.grown g2 (by rw [hsz];omega))) as1.size ?_ ?_ ?_ ⟨hI _ _ _ h0 as1,hL1,hD1⟩).mono ?_
  ·rintro k W W' ⟨h1,h2,h3⟩ hgr
   exact⟨hI _ _ _ h1 (Aside.grown hgr),(hgr.block _ (Array.getElem?_eq_some_iff.1 h2).1 (by simp)).trans h2,(hgr.block _ (Array.getElem?_eq_some_iff.1 h3).1 (by simp)).trans h3⟩
  ·rintro k W W' ⟨c,h1,h2,h3⟩ hgr
   exact⟨c,hIx _ _ _ h1 (Aside.grown hgr),(hgr.block _ (Array.getElem?_eq_some_iff.1 h2).1 (by simp)).trans h2,(hgr.block _ (Array.getElem?_eq_some_iff.1 h3).1 (by simp)).trans h3⟩
  ·rintro k V W ⟨hi,hl,hd⟩ hV
   have hk:k<Ys.length:=(List.getElem?_eq_some_iff.1 hV).1
   have hy:=run_yield (P:=P) (args:=#[V]) hl rfl
   refine⟨fn,_,assign,body,hy,roundIn_of_wpIn hfn ?_⟩
   refine wpIn_fuel (ro:=some L) (n:=0) ?_
   have e:((rc .ready none).params.zip #[V]).foldl (fun tmps (t,a)=>tmps.setIfInBounds t a) (rc .ready none).tmps=a.tmps.setIfInBounds p V:=by simp [rc]
   rw [e]
   refine wpIn_mono (hassign L k V W hi hV) ?_
   rintro e a' W2 hq
   cases e with
   | normal =>
    obtain⟨hkf,hkp,hax⟩:=hq
    have hl2:=hkf.same L _ (by show w.heap.size≤w.heap.size+1;omega) hl rfl
    have hd2:=hkf.same w.heap.size _ (Nat.le_refl _) hd rfl
    have hlt2:L<W2.heap.size:=(Array.getElem?_eq_some_iff.1 hl2).1
    have hne:w.heap.size≠L:=by show w.heap.size≠w.heap.size+1;omega
    have hLB:w.heap.size≤L:=by show w.heap.size≤w.heap.size+1;omega
    refine⟨_,run_beginRound hl2 rfl,?_⟩
    refine wpIn_fuel (ro:=some L) (n:=0) ?_
    have hl3:(W2.putObj L (.loop { rc .ready none with state:=.busy })).heap[L]? = some (.loop { rc .ready none with state:=.busy }):=World.putObj_heap_same hlt2
    have hd3:(W2.putObj L (.loop { rc .ready none with state:=.busy })).heap[w.heap.size]? = some (.deferred (some [])):=(World.putObj_heap_other hne).trans hd2
    refine wpIn_mono (hbody L k a' _ (hAx _ _ _ _ hax (Aside.put _ hLB hl2 rfl)) hk) ?_
    rintro e a3 W3 ⟨hkf3,hq3⟩
    have hl4:=hkf3.same L _ hLB hl3 rfl
    have hd4:=hkf3.same w.heap.size _ (Nat.le_refl _) hd3 rfl
    have hlt4:L<W3.heap.size:=(Array.getElem?_eq_some_iff.1 hl4).1
    cases e with
    | normal =>
     obtain⟨hk3,hi3⟩:=hq3
     refine⟨_,_,run_endRound none hl4,Or.inl ⟨rfl,⟨hI _ _ _ hi3 (Aside.put _ hLB hl4 rfl),World.putObj_heap_same hlt4,(World.putObj_heap_other hne).trans hd4⟩,?_⟩⟩
     exact hkp.trans ((Kpt.put _ hLB).trans (hk3.trans (Kpt.put _ hLB)))
    | ret=>exact⟨_,_,run_endRound (some .ret) hl4,Or.inr ⟨rfl,.ret,hIx _ _ _ hq3 (Aside.put _ hLB hl4 rfl),World.putObj_heap_same hlt4,(World.putObj_heap_other hne).trans hd4⟩⟩
    | exit id=>exact⟨_,_,run_endRound (some (.exit id)) hl4,Or.inr ⟨rfl,.exit id,hIx _ _ _ hq3 (Aside.put _ hLB hl4 rfl),World.putObj_heap_same hlt4,(World.putObj_heap_other hne).trans hd4⟩⟩
    | goto t=>exact hq3.elim
    | panic ch=>exact hq3.elim
    | outgrown=>exact hq3.elim
   | exit id=>exact hq.elim
   | goto t=>exact hq.elim
   | ret=>exact hq.elim
   | panic ch=>exact hq.elim
   | outgrown=>exact hq.elim
  ·have hLB:w.heap.size≤L:=by show w.heap.size≤w.heap.size+1;omega
   have hne:w.heap.size≠L:=by show w.heap.size≠w.heap.size+1;omega
   rintro e W2 ⟨⟨v,rfl⟩,⟨hi,hl,hd⟩|⟨k,c,hi,hl,hd⟩⟩
   ·exact⟨none,_,run_endLoop hl (by simp [rc]),hdone _ _ (Nat.le_refl _) (hI _ _ _ hi (Aside.put _ hLB hl rfl)) ((World.putObj_heap_other hne).trans hd)⟩
   ·exact⟨some c,_,run_endLoop hl (by simp [rc]),wpIn_fuel (hstop _ c _ (Nat.le_refl _) (hIx _ _ _ hi (Aside.put _ hLB hl rfl)) ((World.putObj_heap_other hne).trans hd))⟩
structure IterOk (P:Program) (g:FuncId) (it:List SV→Mem→Option (List SV × List Nat)):Prop where
  enters:∃ fn c,P.funcs[g]? = some fn∧(fn.name == "runtime.NumGoroutine")=false∧fn.body=some c
  gives:∀ (B:Nat) (F:Nat→Prop) (G:Nat→Option Value) (m:Mem) (w:World) (caps:List SV) (vals:List Value) (yl:List SV × List Nat),MInv B F G m w→SReps (rc F G m w) caps vals→it caps m=some yl →
    ∃ Ys,SReps (rc F G m w) yl.1 Ys∧Gives P g vals.toArray Ys (Kpt w.heap.size (wrOf G (lockM yl.2 m))) w
end Go.Proofs.Ytgmkppeghnlcmaa.X
end
section
set_option linter.unusedVariables false
set_option linter.unusedSimpArgs false
namespace Go.Proofs.Ytgmkppeghnlcmaa.X
open Go Go.RowKit
set_option linter.unusedVariables false
set_option linter.unusedSimpArgs false
variable {P:Program} {B:Nat} {F:Nat→Prop} {G:Nat→Option Value} {m:Mem} {w:World} {C:RC} {R:Type}
def Marks (B0:Nat) (ds:List Deferred) (w:World):Prop:=∃ Ds:List Nat,Ds.Nodup∧ds=Ds.map (fun D=>{ target:=.collected D,args:=#[] })∧∀ D ∈ Ds,B0≤D∧w.heap[D]? = some (.deferred (some []))
structure Came (N:Nat) (F:Nat→Prop) (G0:Nat→Option Value) (m0:Mem) (w0:World) (G:Nat→Option Value) (m:Mem) (w:World):Prop where
  gext:∀ b V,b<N→G0 b=some V→G b=some V
  grow:Grow w0 w (wrOf G0 m0)
  hb:∀ g,g<w0.heap.size→¬badOf F G0 m0 g→¬badOf F G m g
  ws:∀ g,g<w0.heap.size→wrOf G m g→wrOf G0 m0 g
def Good (N B:Nat) (F:Nat→Prop) (G0:Nat→Option Value) (m0:Mem) (w0:World) (s:St) (a:Act) (w:World):Prop :=
  ∃ G,MInv B F G s.m w∧SReps (rc F G s.m w) s.t a.tmps.toList∧Came N F G0 m0 w0 G s.m w∧Marks w0.heap.size a.defers w
def exOf:Ex→Exit
  | .normal=>.normal
  | .exit i=>.exit i
  | .ret=>.ret
  | .goto l=>.goto l
def BodyOk (P:Program) (ro:Option Nat) (N B:Nat) (F:Nat→Prop) (G0:Nat→Option Value) (m0:Mem) (w0:World) (r:R) (c:Code) (f:St→(Ex→St→Option R)→Option R):Prop :=
  ∀ s K a w Q,f s K=some r→Good N B F G0 m0 w0 s a w→(∀ e s' a' w',Good N B F G0 m0 w0 s' a' w'→(ro≠none→a'.defers=a.defers)→K e s'=some r→Q (exOf e) a' w')→c.wpIn (FW ro) 0 P Q a w
def gotosIn (F:Fence) (n:Nat) (P:Program) (rest:Code) (l:Nat) (Q:Exit→Act→World→Prop):Nat→Act→World→Prop
  | 0,_,_=>False
  | m+1,a,w=>rest.wpIn F n P (fun e a w=>match e with|.goto l'=>l'=l∧gotosIn F n P rest l Q m a w|e=>Q e a w) a w
theorem stepR_scope {b:Frame} {a:Act} {k:List Item} {cs:List Frame} {c:Code}:step P (lone (b.atR a (.code (.scope c) :: k)) cs w)=.next (lone (b.atR a (.code c :: .inScope c :: k)) cs w) :=
 step_lone_go (by simp [stepG,stepG.exec,Frame.atR])
theorem stepR_inScope {b:Frame} {a:Act} {k:List Item} {cs:List Frame} {c:Code}:step P (lone (b.atR a (.inScope c :: k)) cs w)=.next (lone (b.atR a k) cs w) :=
 step_lone_go (by simp [stepG,stepG.exec,Frame.atR])
theorem wpIn_scope {F:Fence} {n:Nat} {c:Code} {a:Act} {Q:Exit→Act→World→Prop} (hro:F.round=none)
  (h:c.wpIn F n P (fun e a w=>match e with|.goto l=>∃ rest,findLabel c l=some rest∧∃ m,gotosIn F n P rest l Q m a w|e=>Q e a w) a w):(Code.scope c).wpIn F n P Q a w:=by
 intro b k cs hbr hb hr
 have hbn:b.roundOf=none:=hbr.trans hro
 have nor:∀ {p:Prop},b.roundOf.isSome=true→p:=fun h=>by rw [hbn] at h;cases h
 have key:∀ (l:Nat) (rest:Code),findLabel c l=some rest→∀ (m:Nat) (a:Act) (w:World),gotosIn F n P rest l Q m a w →
   ∃ e a' w',Q e a' w'∧ArrivesIn (Machine.fenced P F) P (lone (b.atR a (.code rest :: .inScope c :: k)) cs w) b k cs e a' w':=by
  intro l rest hf
  have hg:gotoIn l (.inScope c :: k)=some (.code rest :: .inScope c :: k):=by simp [gotoIn,hf]
  intro m
  induction m with
  | zero=>intro a w h;exact h.elim
  | succ m ih =>
   intro a w h
   obtain⟨e,a₁,w₁,hq,harr⟩:=h b (.inScope c :: k) cs hbr hb hr
   cases e with
   | normal=>exact⟨.normal,a₁,w₁,hq,StepsIn.trans harr (.one (fenced_calm hb hr rfl) stepR_inScope)⟩
   | exit id=>exact⟨.exit id,a₁,w₁,hq,fun k' hk=>harr.1 k' (by simp [exitTo,hk]),fun h=>nor h⟩
   | goto l' =>
    obtain⟨rfl,hJ⟩:=hq
    obtain⟨e₂,a₂,w₂,hq₂,harr₂⟩:=ih a₁ w₁ hJ
    exact⟨e₂,a₂,w₂,hq₂,.of_steps (harr.1 _ hg) harr₂⟩
   | ret=>exact⟨_,a₁,w₁,hq,harr.1,fun h=>nor h⟩
   | panic ch=>exact⟨_,a₁,w₁,hq,harr⟩
   | outgrown=>exact⟨_,a₁,w₁,hq,harr⟩
 have h0:(lone (b.atR a (.code (.scope c) :: k)) cs w).fenced P F:=fenced_calm hb hr rfl
 obtain⟨e,a₁,w₁,hq,harr⟩:=h b (.inScope c :: k) cs hbr hb hr
 cases e with
 | normal=>exact⟨.normal,a₁,w₁,hq,.head h0 stepR_scope (StepsIn.trans harr (.one (fenced_calm hb hr rfl) stepR_inScope))⟩
 | exit id=>exact⟨.exit id,a₁,w₁,hq,fun k' hk=>.head h0 stepR_scope (harr.1 k' (by simp [exitTo,hk])),fun h=>nor h⟩
 | goto l =>
  obtain⟨rest,hf,m,hJ⟩:=hq
  obtain⟨e₂,a₂,w₂,hq₂,harr₂⟩:=key l rest hf m a₁ w₁ hJ
  have hg:gotoIn l (.inScope c :: k)=some (.code rest :: .inScope c :: k):=by simp [gotoIn,hf]
  exact⟨e₂,a₂,w₂,hq₂,.of_steps (.head h0 stepR_scope (harr.1 _ hg)) harr₂⟩
 | ret=>exact⟨_,a₁,w₁,hq,.of_steps (.one h0 stepR_scope) ⟨harr.1,fun h=>nor h⟩⟩
 | panic ch=>exact⟨_,a₁,w₁,hq,.of_steps (.one h0 stepR_scope) harr⟩
 | outgrown=>exact⟨_,a₁,w₁,hq,.of_steps (.one h0 stepR_scope) harr⟩
def GotoOk (P:Program) (N B:Nat) (F:Nat→Prop) (G0:Nat→Option Value) (m0:Mem) (w0:World) (r:R) (rest:Code) (l:Nat) (f:St→(Ex→St→Option R)→Option R):Prop :=
  ∀ s K a w Q,f s K=some r→Good N B F G0 m0 w0 s a w→(∀ e s' a' w',Good N B F G0 m0 w0 s' a' w'→K e s'=some r→Q (exOf e) a' w')→∃ m,gotosIn (FW none) 0 P rest l Q m a w
end Go.Proofs.Ytgmkppeghnlcmaa.X
end
section
set_option linter.unusedVariables false
set_option linter.unusedSimpArgs false
namespace Go.Proofs.Ytgmkppeghnlcmaa.X
open Go Go.RowKit
set_option linter.unusedVariables false
set_option linter.unusedSimpArgs false
variable {P:Program} {B:Nat} {F:Nat→Prop} {G:Nat→Option Value} {m:Mem} {w:World} {C:RC} {R:Type}
def Enters (P:Program) (f:FuncId):Prop:=∃ fn c,P.funcs[f]? = some fn∧(fn.name == "runtime.NumGoroutine")=false∧fn.body=some c
def RRep (C:RC) (B:Nat):(R:RD)→R.T→Value→Prop
  | .row E K,xs,V=>K.flat=true∧BRep C B V (.row E K xs)∧∃ a n c,V=.slice a n c
  | .one d,x,V=>SRep C (d.sv x) V
  | .many l,x,V=>SRep C (.tup (svs l x)) V
theorem flat_k {w w':World} {G G':Nat→Option Value} {bad bad':Nat→Prop}:∀ {K:Kd} (_:K.flat=true) {x:K.T} {Vs:List Value},KRep w G bad K x Vs→KRep w' G' bad' K x Vs
 | .int _,_,_,_,h=>h
 | .bool,_,_,_,h=>h
 | .nil,_,_,_,h=>h
 | .cons a b,hf,x,Vs,h=>by
  have hf':(a.flat && b.flat)=true:=hf
  rw [Bool.and_eq_true] at hf'
  obtain⟨V1,V2,e,h1,h2⟩:=h
  exact⟨V1,V2,e,flat_k hf'.1 h1,flat_k hf'.2 h2⟩
 | .sl a,hf,_,_,_=>nomatch hf
 | .ptr,hf,_,_,_=>nomatch hf
structure SpecOk (P:Program) (f:FuncId) (sp:Spec):Prop where
  enters:Enters P f
  calls:∀ (Z:Nat→Prop) (w:World) (x:DsT sp.A) (vals:List Value) (r:sp.R.T),(∀ g,Z g→g<w.heap.size)→SReps ⟨w,fun _=>none,Z⟩ (svs sp.A x) vals→sp.f x=some r →
    Calls P f vals.toArray w fun e w'=>∃ V,e=.returned V∧RRep ⟨w',fun _=>none,Z⟩ w.heap.size sp.R r V∧Below w.heap.size w w'
structure XOk (P:Program) (X:Ctx):Prop where
  mixed:P.follows .mixedOrders=true
  T:TOk P X.T
  fns:∀ f fn,X.fns f=some fn→P.funcs[f]? = some fn∧(fn.name == "runtime.NumGoroutine")=false
  spec:∀ f sp,X.spec f=some sp→SpecOk P f sp
  alt:∀ f al,X.alt f=some al→SpecOk P f ⟨al.A,al.R,fun x=>(al.f x).opt⟩
  iter:∀ g it,X.iter g=some it→IterOk P g it
theorem Fk.go_some {A R:Type} {K:A→Option R} {r:R}:∀ {t:Fk A},t.go K=some r→∃ a,t.opt=some a∧K a=some r∧∀ (B:Type) (D:A→Option B),t.go D=D a
 | .no,h=>by cases h
 | .yes a,h=>⟨a,rfl,h,fun _ _=>rfl⟩
 | .fk b x y,h=>by
  simp only [Fk.go,Fk.opt] at h ⊢
  cases b with
  | true=>exact Fk.go_some h
  | false=>exact Fk.go_some h
def Ends (B:Nat) (F:Nat→Prop) (G:Nat→Option Value) (m:Mem) (w:World) (K:SV→Mem→Option R) (r:R):Ending→World→Prop :=
  fun e w'=>∃ v m' V G',e=.returned V∧After B F G m w G' m' w'∧SRep (rc F G' m' w') v V∧K v m'=some r
def RecOk (P:Program) (rec:Rec R):Prop:=∀ f as m K r,rec f as m K=some r→∀ B F G w vals,MInv B F G m w→SReps (rc F G m w) as vals→Enters P f∧Calls P f vals.toArray w (Ends B F G m w K r)
theorem ds_parse_ok (hm:MInv B F G m w) (al:Bool) (Z:Nat→Prop) (hz:∀ g,¬badOf F G m g→¬Z g)
  (ho:al=true→∀ (b:Nat) (r:Bool) (k:Blk) V g,m[b]? = some (some (r,k))→G b=some V→blkOf V=some g→¬Z g) {d:DS} {s:SV} {V:Value} {x:d.T} (hs:SRep (rc F G m w) s V) (h:d.parse m al s=some x) :
  SRep ⟨w,fun _=>none,Z⟩ (d.sv x) V:=by
 cases d with
 | sc K =>
  simp only [DS.parse] at h
  split at h
  ·rename_i y hnp he
   obtain rfl:=Option.some.inj h
   obtain⟨V1,V2,e,hk,h2⟩:=parse_ok hm al Z hz ho [s] [V] y [] (by simp only [SReps];exact⟨V,[],rfl,hs,rfl⟩) he
   simp only [SReps] at h2
   subst h2
   rw [List.append_nil] at e
   subst e
   have hc:=cells_rep (hk.np (G':=fun _=>none) hnp)
   have hl:=hc.len
   simp only [DS.sv]
   cases hcs:K.cells y with
   | nil=>rw [hcs] at hl;simp at hl
   | cons c cs =>
    cases cs with
    | nil =>
     rw [hcs] at hc
     simp only [SReps] at hc
     obtain⟨v,vs,e,h1,h2⟩:=hc
     simp only [List.cons.injEq] at e
     obtain⟨rfl,rfl⟩:=e
     exact h1
    | cons c' cs=>rw [hcs] at hl;simp at hl
  ·cases h
 | ag K =>
  cases s<;>simp only [DS.parse] at h<;>try cases h
  rename_i l
  split at h
  ·rename_i y hnp he
   obtain rfl:=Option.some.inj h
   simp only [SRep] at hs
   obtain⟨vs,rfl,hs⟩:=hs
   obtain⟨V1,V2,e,hk,h2⟩:=parse_ok hm al Z hz ho l vs.toList y [] hs he
   simp only [SReps] at h2
   subst h2
   rw [List.append_nil] at e
   simp only [DS.sv,SRep]
   exact⟨vs,rfl,by rw [e];exact cells_rep (hk.np hnp)⟩
  ·cases h
theorem parses_ok (hm:MInv B F G m w) (al:Bool) (Z:Nat→Prop) (hz:∀ g,¬badOf F G m g→¬Z g)
  (ho:al=true→∀ (b:Nat) (r:Bool) (k:Blk) V g,m[b]? = some (some (r,k))→G b=some V→blkOf V=some g→¬Z g):∀ {A:List DS} {as:List SV} {vals:List Value} {x:DsT A},SReps (rc F G m w) as vals→parses m al A as=some x →
  SReps ⟨w,fun _=>none,Z⟩ (svs A x) vals:=by
 intro A
 induction A with
 | nil =>
  intro as vals x hs h
  cases as with
  | nil=>simpa only [svs,SReps] using hs
  | cons s as=>simp [parses] at h
 | cons d A ih =>
  intro as vals x hs h
  cases as with
  | nil=>simp [parses] at h
  | cons s as =>
   simp only [parses] at h
   split at h
   ·rename_i y hy
    split at h
    ·rename_i z hz'
     obtain rfl:=Option.some.inj h
     simp only [SReps] at hs
     obtain⟨v,vs,rfl,h1,h2⟩:=hs
     simp only [svs,SReps]
     exact⟨v,vs,rfl,ds_parse_ok hm al Z hz ho h1 hy,ih h2 hz'⟩
    ·cases h
   ·cases h
theorem row_parse_ok (hm:MInv B F G m w) (Z:Nat→Prop) {E:TypeId} {K:Kd} {s:SV} {V:Value} {x:List K.T} (hs:SRep (rc F G m w) s V) (h:rowOf m E K s=some x) :
  RRep ⟨w,fun _=>none,Z⟩ B (.row E K) x V:=by
 unfold rowOf at h
 split at h
 ·rename_i b
  split at h
  ·rename_i r e K' xs hb
   split at h
   ·rename_i he
    obtain⟨rfl,hf⟩:=he
    obtain⟨rfl,rfl⟩:=castL_some h
    simp only [SRep] at hs
    obtain⟨hG,hsl⟩:=hs
    obtain⟨V',hV',hr⟩:=hm.blk _ _ _ hb
    rw [hG] at hV'
    obtain rfl:=Option.some.inj hV'
    obtain⟨Us,ho,hl,hk⟩:=hr
    exact⟨hf,⟨Us,ho,hl,fun i x U hx hU=>flat_k hf (hk i x U hx hU)⟩,hsl⟩
   ·cases h
  ·cases h
 ·rename_i y
  split at h
  ·rename_i he
   obtain⟨hn,hf⟩:=he
   simp only [SRep] at hs
   subst hs
   obtain rfl:=Option.some.inj h
   have hy:V=.slice none 0 0:=by
    unfold nilB at hn
    split at hn
    ·rfl
    ·cases hn
   subst hy
   exact⟨hf,⟨[],World.ownsRow_nil _ _ _ _,rfl,by simp⟩,_,_,_,rfl⟩
  ·cases h
 ·cases h
theorem rd_parse_ok (hm:MInv B F G m w) (al:Bool) (Z:Nat→Prop) (hz:∀ g,¬badOf F G m g→¬Z g)
  (ho:al=true→∀ (b:Nat) (r:Bool) (k:Blk) V g,m[b]? = some (some (r,k))→G b=some V→blkOf V=some g→¬Z g) {d:RD} {s:SV} {V:Value} {x:d.T} (hs:SRep (rc F G m w) s V) (h:d.parse m al s=some x) :
  RRep ⟨w,fun _=>none,Z⟩ B d x V:=by
 cases d with
 | one d =>
  have h':d.parse m al s=some x:=h
  have h2:=ds_parse_ok hm al Z hz ho (d:=d) (x:=x) hs h'
  exact h2
 | many l =>
  cases s with
  | tup ss =>
   have h':parses m al l ss=some x:=h
   simp only [SRep] at hs
   obtain⟨vs,rfl,hs⟩:=hs
   have h2:=parses_ok hm al Z hz ho hs h'
   show SRep _ (.tup (svs l x)) _
   simp only [SRep]
   exact⟨vs,rfl,h2⟩
  | _=>exact absurd (show(none:Option (RD.many l).T)=some x from h) (by simp)
 | row E K =>
  have h':rowOf m E K s=some x:=h
  exact row_parse_ok hm Z hs h'
theorem cells_v:∀ {K:Kd} (hf:K.flat=true) (x:K.T) (s:SV),s ∈ K.cells x→∃ v,s=.v v
 | .int k,_,x,s,h=>⟨_,List.mem_singleton.1 h⟩
 | .bool,_,x,s,h=>⟨_,List.mem_singleton.1 h⟩
 | .nil,_,x,s,h=>nomatch h
 | .cons a b,hf,x,s,h=>by
  have hf':(a.flat && b.flat)=true:=hf
  rw [Bool.and_eq_true] at hf'
  rcases List.mem_append.1 (show s ∈ a.cells x.1++b.cells x.2 from h) with h|h
  ·exact cells_v hf'.1 x.1 s h
  ·exact cells_v hf'.2 x.2 s h
 | .sl a,hf,x,s,h=>by cases hf
 | .ptr,hf,x,s,h=>by cases hf
theorem reps_v {C C':RC}:∀ {l:List SV} {vs:List Value},(∀ s ∈ l,∃ v,s=.v v)→SReps C l vs→SReps C' l vs
 | [],vs,_,h=>by simp only [SReps] at h ⊢;exact h
 | s :: l,vs,hv,h=>by
  simp only [SReps] at h ⊢
  obtain⟨v,vs',rfl,h1,h2⟩:=h
  obtain⟨x,rfl⟩:=hv s (by simp)
  simp only [SRep] at h1
  subst h1
  exact⟨_,vs',rfl,by simp only [SRep],reps_v (fun s hs=>hv s (by simp [hs])) h2⟩
theorem flat_cells {C C':RC} {K:Kd} (hf:K.flat=true) (x:K.T) {vs:List Value} (h:SReps C (K.cells x) vs):SReps C' (K.cells x) vs:=reps_v (cells_v hf x) h
theorem flat_ds {C C':RC} {d:DS} (hf:d.flat=true) (x:d.T) {V:Value} (h:SRep C (d.sv x) V):SRep C' (d.sv x) V:=by
 cases d with
 | sc K =>
  simp only [DS.sv] at h ⊢
  cases hcs:K.cells x with
  | nil=>simp [SRep]
  | cons c cs =>
   cases cs with
   | nil =>
    rw [hcs] at h
    have h1:SReps C (K.cells x) [V]:=by rw [hcs];simp only [SReps];exact⟨V,[],rfl,h,rfl⟩
    have h2:=flat_cells (C':=C') hf x h1
    rw [hcs] at h2
    simp only [SReps] at h2
    obtain⟨v,vs,e,h3,_⟩:=h2
    simp only [List.cons.injEq] at e
    rw [e.1]
    exact h3
   | cons c' cs=>simp [SRep]
 | ag K =>
  simp only [DS.sv,SRep] at h ⊢
  obtain⟨vs,rfl,h⟩:=h
  exact⟨vs,rfl,flat_cells hf x h⟩
theorem flat_svs {C C':RC}:∀ {A:List DS} (hf:A.all (·.flat)=true) (x:DsT A) {vs:List Value},SReps C (svs A x) vs→SReps C' (svs A x) vs:=by
 intro A
 induction A with
 | nil=>intro _ x vs h;simpa only [svs,SReps] using h
 | cons d A ih =>
  intro hf x vs h
  simp only [List.all_cons,Bool.and_eq_true] at hf
  simp only [svs,SReps] at h ⊢
  obtain⟨v,vs',rfl,h1,h2⟩:=h
  exact⟨v,vs',rfl,flat_ds hf.1 x.1 h1,ih hf.2 x.2 h2⟩
theorem give_ok (hm:MInv B F G m w) {p:Option Nat} (hf:memFree p G m) {Z:Nat→Prop} {w':World} {d:RD} (hz:d.flat=false→Z=badOf F G m) {x:d.T} {V:Value} (h:RRep ⟨w',fun _=>none,Z⟩ w.heap.size d x V) (hb:Below w.heap.size w w') :
  ∃ G',After B F G m w G' (d.give p m x).2 w'∧SRep (rc F G' (d.give p m x).2 w') (d.give p m x).1 V∧∀ b,b≠memNew p m→G' b=G b:=by
 cases d with
 | one d =>
  refine⟨G,after_foreign hm (grow_below hb),?_,fun _ _=>rfl⟩
  cases hfl:d.flat with
  | true=>exact flat_ds hfl x h
  | false =>
   obtain rfl:=hz hfl
   exact SRep.le (C:=⟨w',fun _=>none,badOf F G m⟩) (C':=rc F G m w') ⟨fun b V h=>(by cases h),Nat.le_refl _,fun _ _ _=>rfl,fun _ _ h=>h⟩ h
 | many l =>
  refine⟨G,after_foreign hm (grow_below hb),?_,fun _ _=>rfl⟩
  cases hfl:(RD.many l).flat with
  | true =>
   have h':SRep ⟨w',fun _=>none,Z⟩ (.tup (svs l x)) V:=h
   show SRep _ (.tup (svs l x)) V
   simp only [SRep] at h' ⊢
   obtain⟨vs,rfl,h'⟩:=h'
   exact⟨vs,rfl,flat_svs hfl x h'⟩
  | false =>
   obtain rfl:=hz hfl
   exact SRep.le (C:=⟨w',fun _=>none,badOf F G m⟩) (C':=rc F G m w') ⟨fun b V h=>(by cases h),Nat.le_refl _,fun _ _ _=>rfl,fun _ _ h=>h⟩ h
 | row E K =>
  obtain⟨hfl,⟨Us,ho,hl,hk⟩,a,n,c,rfl⟩:=h
  refine⟨upd G (memNew p m) (.slice a n c),after_new hm hf (fun _ _ h=>h) rfl ?_ ?_ ?_ ?_,own_rep,fun b hb=>upd_ne hb⟩
  ·exact⟨hb.os,hb.tape,hb.output,hb.size,fun g hg _=>hb.block g hg⟩
  ·intro b r k V' g h1 h2 h3
   exact hb.block g (hm.ge _ _ _ _ _ h1 h2 h3).2
  ·intro g hg
   rcases ho.2 with ⟨e,_⟩|⟨g',cap,cur,e,hge,hh,_⟩
   ·rw [e] at hg;simp [blkOf] at hg
   ·rw [e] at hg
    simp only [blkOf,Option.some.injEq] at hg
    subst hg
    refine⟨Nat.le_trans hm.sz hge,?_,fun h=>absurd h (Nat.not_lt.2 hge),fun b r k V' h1 h2 h3=>?_⟩
    ·rcases Nat.lt_or_ge g' w'.heap.size with h1|h1
     ·exact h1
     ·have hh':w'.heap[g']? = none:=Array.getElem?_eq_none h1
      rw [hh'] at hh;cases hh
    ·have:=(hm.ge _ _ _ _ _ h1 h2 h3).2
     omega
  ·intro bad hbad hle
   refine⟨Us,⟨ho.1,?_⟩,hl,fun i x U hx hU=>flat_k hfl (hk i x U hx hU)⟩
   rcases ho.2 with h|⟨g',cap,cur,e,hge,r⟩
   ·exact .inl h
   ·exact .inr ⟨g',cap,cur,e,Nat.le_trans hm.sz hge,r⟩
theorem own_notF (hm:MInv B F G m w) (b:Nat) (r:Bool) (k:Blk) (V:Value) (g:Nat) (h1:m[b]? = some (some (r,k))) (h2:G b=some V) (h3:blkOf V=some g):¬F g:=hm.fo b r k V g h1 h2 h3
theorem callx0_ok {X:Ctx} (hX:XOk P X) {rec:Rec R} (hrec:RecOk P rec) (hm:MInv B F G m w) {p:Option Nat} (hf:memFree p G m) {f:FuncId} {as:List SV} {vals:List Value} (has:SReps (rc F G m w) as vals) {K:SV→Mem→Option R} {r:R}
  (h:callx0 X rec f as p m K=some r):Enters P f∧Calls P f vals.toArray w (fun e w'=>∃ v m' V G',e=.returned V∧After B F G m w G' m' w'∧SRep (rc F G' m' w') v V∧K v m'=some r∧((∀ b,b≠memNew p m→G' b=G b)∨∃ f as K',rec f as m K'=some r)):=by
 unfold callx0 at h
 split at h
 ·rename_i sp hsp
  have hok:=hX.spec f sp hsp
  refine⟨hok.enters,?_⟩
  split at h
  ·rename_i x hx
   obtain⟨y,hy,h⟩:=Option.bind_eq_some_iff.1 h
   cases hfl:sp.R.flat with
   | true =>
    rw [hfl] at hx
    have hargs:=parses_ok hm true F (fun g hg hF=>hg (Or.inl hF)) (fun _=>own_notF hm) has hx
    refine(hok.calls F w x vals y (fun g hg=>hm.fr g hg) hargs hy).mono ?_
    rintro e w' ⟨V,rfl,hV,hb⟩
    obtain⟨G',h1,h2,h3⟩:=give_ok hm hf (fun h=>by rw [hfl] at h;cases h) hV hb
    exact⟨_,_,V,G',rfl,h1,h2,h,Or.inl h3⟩
   | false =>
    rw [hfl] at hx
    have hargs:=parses_ok hm false (badOf F G m) (fun g hg=>hg) (by simp) has hx
    have hlt:∀ g,badOf F G m g→g<w.heap.size:=by
     rintro g (hF|⟨b,r,k,V,h1,h2,h3⟩)
     ·exact hm.fr g hF
     ·exact(hm.ge _ _ _ _ _ h1 h2 h3).2
    refine(hok.calls (badOf F G m) w x vals y hlt hargs hy).mono ?_
    rintro e w' ⟨V,rfl,hV,hb⟩
    obtain⟨G',h1,h2,h3⟩:=give_ok hm hf (fun _=>rfl) hV hb
    exact⟨_,_,V,G',rfl,h1,h2,h,Or.inl h3⟩
  ·cases h
 ·split at h
  ·obtain⟨h1,h2⟩:=hrec f as m K r h B F G w vals hm has
   refine⟨h1,h2.mono ?_⟩
   rintro e w' ⟨v,m',V,G',e1,e2,e3,e4⟩
   exact⟨v,m',V,G',e1,e2,e3,e4,Or.inr ⟨f,as,K,h⟩⟩
  ·cases h
theorem callx_ok {X:Ctx} (hX:XOk P X) {rec:Rec R} (hrec:RecOk P rec) (hm:MInv B F G m w) {p:Option Nat} (hf:memFree p G m) {f:FuncId} {as:List SV} {vals:List Value} (has:SReps (rc F G m w) as vals) {K:SV→Mem→Option R} {r:R}
  (h:callx X rec f as p m K=some r):Enters P f∧Calls P f vals.toArray w (fun e w'=>∃ v m' V G',e=.returned V∧After B F G m w G' m' w'∧SRep (rc F G' m' w') v V∧K v m'=some r∧((∀ b,b≠memNew p m→G' b=G b)∨∃ f as K',rec f as m K'=some r)):=by
 unfold callx at h
 split at h
 ·rename_i al hal
  have hok:=hX.alt f al hal
  refine⟨hok.enters,?_⟩
  split at h
  ·rename_i x hx
   obtain⟨y,hy,h,_⟩:=Fk.go_some h
   cases hfl:al.R.flat with
   | true =>
    rw [hfl] at hx
    have hargs:=parses_ok hm true F (fun g hg hF=>hg (Or.inl hF)) (fun _=>own_notF hm) has hx
    refine(hok.calls F w x vals y (fun g hg=>hm.fr g hg) hargs hy).mono ?_
    rintro e w' ⟨V,rfl,hV,hb⟩
    obtain⟨G',h1,h2,h3⟩:=give_ok hm hf (fun h=>by rw [hfl] at h;cases h) hV hb
    exact⟨_,_,V,G',rfl,h1,h2,h,Or.inl h3⟩
   | false =>
    rw [hfl] at hx
    have hargs:=parses_ok hm false (badOf F G m) (fun g hg=>hg) (by simp) has hx
    have hlt:∀ g,badOf F G m g→g<w.heap.size:=by
     rintro g (hF|⟨b,r,k,V,h1,h2,h3⟩)
     ·exact hm.fr g hF
     ·exact(hm.ge _ _ _ _ _ h1 h2 h3).2
    refine(hok.calls (badOf F G m) w x vals y hlt hargs hy).mono ?_
    rintro e w' ⟨V,rfl,hV,hb⟩
    obtain⟨G',h1,h2,h3⟩:=give_ok hm hf (fun _=>rfl) hV hb
    exact⟨_,_,V,G',rfl,h1,h2,h,Or.inl h3⟩
  ·cases h
 ·exact callx0_ok hX hrec hm hf has h
theorem callFunc_run {f:FuncId} (h:Enters P f) (args:Array Value) (w:World):(callFunc f args).run P w=.ok (.enter f args) w:=by
 obtain⟨fn,c,h1,h2,h3⟩:=h
 have h2':¬fn.name = "runtime.NumGoroutine" := by simpa using h2
 simp [callFunc,run_program,h1,h2',h3]
theorem wp_val {ro:Option Nat} {nd:Nat} {o:Oper} {a:Act} {next:Act→World→Prop} {Q:Exit→Act→World→Prop} {V:Value} {w':World} (h:(execOp a.eval o).run P w=.ok (.value V) w') (hn:next (a.put o.dst V) w')
  (hd:∀ c,o.op≠.defer c:=by intro c hc;first|exact absurd (hop.symm.trans hc) (by simp)|simp_all):o.wpIn (FW ro) nd P a w next Q:=by
 refine⟨fun _ _=>trivial,?_⟩
 rw [Oper.semAt_eq _ _ _ hd,h]
 exact hn
theorem reps_map {t:List SV} {a:Act} (ht:SReps C t a.tmps.toList):∀ (l:List Operand),SReps C (l.map (ev t)) (l.map a.eval)
 | []=>by simp [SReps]
 | x :: l=>by
  simp only [List.map_cons,SReps]
  exact⟨_,_,rfl,ev_rep ht x,reps_map ht l⟩
theorem orep_map {t:List SV} {a:Act} (ht:SReps C t a.tmps.toList) (x:Option Operand):ORep C (x.map (ev t)) (x.map a.eval):=by
 cases x with
 | none=>rfl
 | some x=>exact⟨_,rfl,ev_rep ht x⟩
end Go.Proofs.Ytgmkppeghnlcmaa.X
end
section
set_option linter.unusedVariables false
set_option linter.unusedSimpArgs false
namespace Go.Proofs.Ytgmkppeghnlcmaa.X
open Go Go.RowKit
set_option linter.unusedVariables false
set_option linter.unusedSimpArgs false
variable {P:Program} {B:Nat} {F:Nat→Prop} {G:Nat→Option Value} {m:Mem} {w:World} {C:RC} {R:Type}
theorem run_v {S:Sem Value} {V:Value} {w':World} (h:S.run P w=.ok V w'):(do pure (Next.value (←S)):Sem Next).run P w=.ok (.value V) w':=by
 simp [Sem.run_bind,h]
theorem s2a_run {T:List TI} (hT:TOk P T) {t:TypeId} {x v:SV} {X:Value} (hx:SRep C x X) (h:s2ax T t x=some v):∃ U,(Instr.arrayAt t X).run P w=.ok U w∧SRep C v U:=by
 unfold s2ax at h
 split at h
 ·rename_i n e b off l c hd
  split at h
  ·rename_i hn
   obtain rfl:=Option.some.inj h
   obtain⟨i,D,z,hi,hu,hz,hg⟩:=hT.ty (t:=t) (by simp [okT,hd])
   rw [hg] at hd
   cases D<;>simp only [tdOf] at hd<;>try cases hd
   simp only [SRep] at hx
   obtain⟨g,hG,rfl⟩:=hx
   refine⟨.pointer (some ⟨g,off,none⟩),?_,by simp only [SRep];exact⟨g,hG,rfl⟩⟩
   simp [Instr.arrayAt,run_underlying hu,Sem.run_bind,Nat.not_lt.2 hn]
  ·cases h
 ·cases h
set_option maxHeartbeats 1000000 in
theorem opx_ok {ro:Option Nat} {nd:Nat} {X:Ctx} (hX:XOk P X) {rec:Rec R} (hrec:RecOk P rec) {fid:FuncId} {p:Option Nat} {o:Oper} {s:St} {K:SV→Mem→Option R} {r:R} {a:Act} (hm:MInv B F G s.m w) (hf:memFree p G s.m)
  (ht:SReps (rc F G s.m w) s.t a.tmps.toList) (h:opx X rec fid p o s K=some r) (next:Act→World→Prop) (Q:Exit→Act→World→Prop)
  (hn:∀ v m' V w' G',After B F G s.m w G' m' w'→SRep (rc F G' m' w') v V→K v m'=some r→((∀ b,b≠memNew p s.m→G' b=G b)∨∃ f as K',rec f as s.m K'=some r)→next (a.put o.dst V) w'):o.wpIn (FW ro) nd P a w next Q:=by
 have hr:=After.refl hm
 have hs:(∀ b,b≠memNew p s.m→G b=G b)∨∃ f as K',rec f as s.m K'=some r:=Or.inl fun _ _=>rfl
 unfold opx at h
 simp only at h
 split at h
 ·rename_i x hop
  exact wp_val (by simp [execOp,hop]) (hn _ _ _ _ _ hr (ev_rep ht x) h hs)
 ·rename_i x hop
  exact wp_val (by simp [execOp,hop]) (hn _ _ _ _ _ hr (ev_rep ht x) h hs)
 ·rename_i c x y hop
  split at h
  ·rename_i cb hc
   have hcv:=ev_rep ht c
   rw [hc] at hcv
   simp only [SRep] at hcv
   split at h
   ·rename_i b1 b2 h1 h2
    have e1:=ev_rep ht x
    have e2:=ev_rep ht y
    rw [h1] at e1
    rw [h2] at e2
    simp only [SRep] at e1 e2
    refine wp_val (V:=.bool (bif cb then b1 else b2)) ?_ (hn _ _ _ _ _ hr (by simp only [SRep]) h hs)
    cases cb<;>simp [execOp,hop,hcv,asBool,e1,e2]
   ·cases cb
    ·exact wp_val (by simp [execOp,hop,hcv,asBool]) (hn _ _ _ _ _ hr (ev_rep ht y) h hs)
    ·exact wp_val (by simp [execOp,hop,hcv,asBool]) (hn _ _ _ _ _ hr (ev_rep ht x) h hs)
  ·cases h
 ·rename_i t hop
  split at h
  ·rename_i z hz
   obtain⟨zv,hzr,hzs,_⟩:=zero_ok hX.T hz w (rc F G s.m w)
   obtain⟨w',G',hrun,haf,hsr,hg⟩:=var_ok (P:=P) hm hf (t:=t) hzs
   refine wp_val ?_ (hn _ _ _ _ _ haf hsr h (Or.inl hg))
   simp only [execOp,hop]
   refine run_v ?_
   simp only [Instr.alloc,Sem.run_bind,hzr,Result.andThen_ok]
   simpa [Sem.run_bind] using hrun
  ·cases h
 ·rename_i t x hop
  split at h
  ·rename_i hl
   obtain⟨hcs,_⟩:=svCells_rep (ev_rep ht x) hl
   obtain⟨w',G',hrun,haf,hsr,hg⟩:=var_ok (P:=P) hm hf (t:=t) hcs
   refine wp_val ?_ (hn _ _ _ _ _ haf hsr h (Or.inl hg))
   simp only [execOp,hop]
   exact run_v hrun
  ·cases h
 ·rename_i t parts hop
  split at h
  ·rename_i v hv
   have hp:=prep_ok ht parts.toList
   obtain⟨V,hrun,hsr⟩:=build_ok (P:=P) (w:=w) (parts':=parts.map fun (i,x)=>(i,a.eval x)) hX.T (by simpa using hp) hv
   refine wp_val ?_ (hn _ _ _ _ _ hr hsr h hs)
   simp only [execOp,hop]
   exact run_v hrun
  ·cases h
 ·rename_i t n parts hop
  have hp:=prep_ok ht parts.toList
  obtain⟨v,m',V,w',G',hrun,haf,hsr,hk,hg⟩:=bsl_ok (P:=P) (parts':=parts.map fun (i,x)=>(i,a.eval x)) hX.T hm hf (by simpa using hp) h
  refine wp_val ?_ (hn _ _ _ _ _ haf hsr hk (Or.inl hg))
  simp only [execOp,hop]
  exact run_v hrun
 ·rename_i x hop
  split at h
  ·rename_i b off hv
   have hx:=ev_rep ht x
   rw [hv] at hx
   have hx':=hx
   simp only [SRep] at hx'
   obtain⟨g,hg,he⟩:=hx'
   refine wp_val ?_ (hn _ _ _ _ _ hr hx h hs)
   simp only [execOp,hop,he]
   rfl
  ·cases h
 ·rename_i t x hop
  split at h
  ·rename_i v hv
   obtain⟨U,hrun,hsr⟩:=ld_ok (P:=P) hX.T hm (ev_rep ht x) hv
   refine wp_val ?_ (hn _ _ _ _ _ hr hsr h hs)
   simp only [execOp,hop]
   exact run_v hrun
  ·cases h
 ·rename_i t x y hop
  split at h
  ·rename_i m' hv
   obtain⟨w',hrun,haf⟩:=st_ok (P:=P) hX.T hm (ev_rep ht x) (ev_rep ht y) hv
   have hnn:=hn .junk m' undef w' G haf (by simp only [SRep]) h (Or.inl fun _ _=>rfl)
   have:(execOp a.eval o).run P w=.ok .skip w':=by
    simp only [execOp,hop,Sem.run_bind,hrun,Result.andThen_ok,Sem.run_pure]
   refine⟨fun _ _=>trivial,?_⟩
   rw [Oper.semAt_eq _ _ _ (by intro c' hc';rw [hop] at hc';cases hc'),this]
   exact hnn
  ·cases h
 ·rename_i op t x y ty hop
  obtain⟨v,V,hrun,hsr,hk⟩:=bin_ok (P:=P) (w:=w) hX.T (ev_rep ht x) (ev_rep ht y) h x y
  refine wp_val ?_ (hn _ _ _ _ _ hr hsr hk hs)
  simp only [execOp,hop]
  exact run_v hrun
 ·rename_i op t x hop
  obtain⟨v,V,hrun,hsr,hk⟩:=un_ok (P:=P) (w:=w) (ev_rep ht x) h
  refine wp_val ?_ (hn _ _ _ _ _ hr hsr hk hs)
  simp only [execOp,hop]
  exact run_v hrun
 ·rename_i src dst x hop
  obtain⟨v,V,hrun,hsr,hk⟩:=cv_ok (P:=P) (w:=w) hX.T (ev_rep ht x) h
  refine wp_val ?_ (hn _ _ _ _ _ hr hsr hk hs)
  simp only [execOp,hop]
  exact run_v hrun
 ·rename_i t x hop
  split at h
  ·rename_i v hv
   obtain⟨U,hrun,hsr⟩:=s2a_run (P:=P) (w:=w) hX.T (ev_rep ht x) hv
   refine wp_val ?_ (hn _ _ _ _ _ hr hsr h hs)
   simp only [execOp,hop]
   exact run_v hrun
  ·cases h
 ·rename_i t x lo hi mx hop
  obtain⟨v,V,hrun,hsr,hk⟩:=sl_ok (P:=P) hX.T (ev_rep ht x) (orep_map ht lo) (orep_map ht hi) (orep_map ht mx) h
  refine wp_val ?_ (hn _ _ _ _ _ hr hsr hk hs)
  simp only [execOp,hop]
  exact run_v hrun
 ·rename_i t x f hop
  split at h
  ·rename_i o' ty n hfo
   split at h
   ·rename_i v hv
    obtain⟨U,hrun,hsr⟩:=faddr_run (P:=P) (w:=w) hX.T (ev_rep ht x) hfo hv
    refine wp_val ?_ (hn _ _ _ _ _ hr hsr h hs)
    simp only [execOp,hop]
    exact run_v hrun
   ·cases h
  ·cases h
 ·rename_i t x f hop
  split at h
  ·rename_i o' ty n l hfo hx
   split at h
   ·rename_i v hv
    have hxr:=ev_rep ht x
    rw [hx] at hxr
    obtain⟨U,hrun,hsr⟩:=field_run (P:=P) (w:=w) hX.T hxr hfo hv
    refine wp_val ?_ (hn _ _ _ _ _ hr hsr h hs)
    simp only [execOp,hop]
    exact run_v hrun
   ·cases h
  ·cases h
 ·rename_i t x i hop
  split at h
  ·rename_i k n hi
   have hir:=ev_rep ht i
   rw [hi] at hir
   simp only [SRep] at hir
   obtain⟨v,V,hrun,hsr,hk⟩:=iaddr_ok (P:=P) (k:=k) hX.T hm (ev_rep ht x) h
   refine wp_val ?_ (hn _ _ _ _ _ hr hsr hk hs)
   simp only [execOp,hop,hir]
   exact run_v hrun
  ·cases h
 ·rename_i t x i hop
  split at h
  ·rename_i k n hi
   have hir:=ev_rep ht i
   rw [hi] at hir
   simp only [SRep] at hir
   obtain⟨v,V,hrun,hsr,hk⟩:=ix_ok (P:=P) (w:=w) (k:=k) hX.T (ev_rep ht x) h
   refine wp_val ?_ (hn _ _ _ _ _ hr hsr hk hs)
   simp only [execOp,hop,hir]
   exact run_v hrun
  ·cases h
 ·rename_i t i hop
  split at h
  ·rename_i l hl
   split at h
   ·rename_i v hv
    have htr:=ev_rep ht t
    rw [hl] at htr
    simp only [SRep] at htr
    obtain⟨vs,hvs,hrs⟩:=htr
    obtain⟨u,hu,hur⟩:=hrs.get hv
    refine wp_val (V:=u) ?_ (hn _ _ _ _ _ hr hur h hs)
    have hu':vs[i]? = some u:=by simpa using hu
    simp [execOp,hop,hvs,Instr.extract,hu']
   ·cases h
  ·cases h
 ·rename_i f x y hop
  refine wp_val (V:=.func f (x.map a.eval) (y.map a.eval)) ?_ (hn _ _ _ _ _ hr ?_ h hs)
  ·simp [execOp,hop,Instr.makeFunc]
  ·simp only [SRep]
   exact⟨_,_,rfl,by simpa using reps_map ht x.toList,by simpa using reps_map ht y.toList⟩
 ·rename_i c hop
  split at h
  ·rename_i b hcal
   unfold bix at h
   have hargs:=reps_map ht c.args.toList
   split at h
   ·rename_i t ts s0 ss hts has
    split at h
    ·rename_i n hnl
     have hr0:∃ X0,c.args.toList.map a.eval=X0 :: (c.args.toList.map a.eval).tail∧SRep (rc F G s.m w) s0 X0:=by
      rw [has] at hargs
      simp only [SReps] at hargs
      obtain⟨v,vs,e,h1,h2⟩:=hargs
      exact⟨v,by rw [e];rfl,h1⟩
     obtain⟨X0,e0,hx0⟩:=hr0
     have ha0:(c.args.map a.eval)[0]? = some X0:=by
      rw [←Array.getElem?_toList,Array.toList_map,e0];rfl
     have ht0:c.argTypes[0]? = some t:=by
      rw [←Array.getElem?_toList,hts];rfl
     have hrun:=len_ok (P:=P) hX.T hm hx0 hnl c.argTypes o.type (c.args.map a.eval) ht0 ha0
     refine wp_val ?_ (hn _ _ _ _ _ hr (by simp only [SRep];rfl) h hs)
     simp only [execOp,hop,resolve,hcal,Sem.run_bind,Sem.run_pure,Result.andThen_ok,invoke,builtin]
     rw [hrun];rfl
    ·cases h
   ·rename_i t t' s0 x0 hts has
    split at h
    ·rename_i e
     subst e
     rw [has] at hargs
     simp only [SReps] at hargs
     obtain⟨S0,vs,e0,h1,X0,vs',e1,h2,e2⟩:=hargs
     subst e2
     subst e1
     obtain⟨v,m',V,w',G',hrun,haf,hsr,hk,hg⟩:=app_ok (P:=P) hX.T hm hf h1 h2 h o.type
     refine wp_val ?_ (hn _ _ _ _ _ haf hsr hk (Or.inl hg))
     have ha0:c.args.map a.eval=#[S0,X0]:=by
      apply Array.ext'
      rw [Array.toList_map,e0]
     have ht0:c.argTypes=#[t',t']:=by
      apply Array.ext'
      rw [hts]
     simp only [execOp,hop,resolve,hcal,Sem.run_bind,Sem.run_pure,Result.andThen_ok,invoke,builtin,ha0,ht0]
     rw [hrun];rfl
    ·cases h
   ·split at h
    ·rename_i v hv
     obtain⟨V,hrun,hsr⟩:=minmax_ok (P:=P) (w:=w) hv hargs c.argTypes o.type
     refine wp_val ?_ (hn _ _ _ _ _ hr hsr h hs)
     have ha0:(c.args.toList.map a.eval).toArray=c.args.map a.eval:=by
      apply Array.ext'
      rw [Array.toList_map]
     rw [ha0] at hrun
     simp only [Bool.false_eq_true,if_true,if_false] at hrun
     simp only [execOp,hop,resolve,hcal,Sem.run_bind,Sem.run_pure,Result.andThen_ok,invoke,builtin]
     rw [hrun];rfl
    ·cases h
   ·split at h
    ·rename_i v hv
     obtain⟨V,hrun,hsr⟩:=minmax_ok (P:=P) (w:=w) hv hargs c.argTypes o.type
     refine wp_val ?_ (hn _ _ _ _ _ hr hsr h hs)
     have ha0:(c.args.toList.map a.eval).toArray=c.args.map a.eval:=by
      apply Array.ext'
      rw [Array.toList_map]
     rw [ha0] at hrun
     simp only [Bool.false_eq_true,if_true,if_false] at hrun
     simp only [execOp,hop,resolve,hcal,Sem.run_bind,Sem.run_pure,Result.andThen_ok,invoke,builtin]
     rw [hrun];rfl
    ·cases h
   ·cases h
  ·rename_i f hcal
   split at h
   ·rename_i fi first cap hfv
    have hfr:=ev_rep ht f
    rw [hfv] at hfr
    simp only [SRep] at hfr
    obtain⟨xs,ys,hfe,hx,hy⟩:=hfr
    have hargs:=(hx.app (reps_map ht c.args.toList)).app hy
    obtain⟨hent,hcalls⟩:=callx_ok (P:=P) hX hrec hm hf hargs h
    have hrun:(execOp a.eval o).run P w=.ok (.enter fi (xs++c.args.map a.eval++ys)) w:=by
     simp only [execOp,hop,resolve,hcal,hfe,Deferred.ofValue,Sem.run_bind,Sem.run_pure,Result.andThen_ok,invoke]
     exact callFunc_run hent _ w
    refine⟨fun _ _=>trivial,?_⟩
    rw [Oper.semAt_eq _ _ _ (by intro c' hc';rw [hop] at hc';cases hc'),hrun]
    have he:(xs.toList++c.args.toList.map a.eval++ys.toList).toArray=xs++c.args.map a.eval++ys:=by
     apply Array.ext'
     simp
    rw [he] at hcalls
    refine⟨fun h=>(by cases h),callsIn_wide.2 (hcalls.mono ?_)⟩
    rintro e w' ⟨v,m',V,G',rfl,haf,hsr,hk,hg⟩
    exact hn _ _ _ _ _ haf hsr hk hg
   ·cases h
  ·cases h
 ·cases h
end Go.Proofs.Ytgmkppeghnlcmaa.X
end
section
set_option linter.unusedVariables false
set_option linter.unusedSimpArgs false
namespace Go.Proofs.Ytgmkppeghnlcmaa.X
open Go Go.RowKit
set_option linter.unusedVariables false
set_option linter.unusedSimpArgs false
variable {P:Program} {B:Nat} {F:Nat→Prop} {G:Nat→Option Value} {m:Mem} {w:World} {C:RC} {R:Type}
theorem put_defers (a:Act) (d:Option Tmp) (v:Value):(a.put d v).defers=a.defers:=by cases d<;>rfl
theorem getT_bool {t:List SV} {a:Act} {d:Nat} {c:Bool} (ht:SReps C t a.tmps.toList) (h:getT t d=.v (.bool c)):a.tmps[d]? = some (.bool c):=by
 rw [getT_some] at h
 cases e:t[d]? with
 | none=>rw [e] at h;simp at h
 | some s =>
  rw [e] at h
  simp only [Option.getD_some] at h
  subst h
  obtain⟨v,hv,hr⟩:=ht.get e
  simp only [SRep] at hr
  subst hr
  simpa using hv
theorem getT_tuple {t:List SV} {a:Act} {d:Nat} {x:Array Value} (ht:SReps C t a.tmps.toList) (h:getT t d=.v (.tuple x)):a.tmps[d]? = some (.tuple x):=by
 rw [getT_some] at h
 cases e:t[d]? with
 | none=>rw [e] at h;simp at h
 | some s =>
  rw [e] at h
  simp only [Option.getD_some] at h
  subst h
  obtain⟨v,hv,hr⟩:=ht.get e
  simp only [SRep] at hr
  subst hr
  simpa using hv
theorem set_bool {t:List SV} {a:Act} {d:Nat} {c:Bool} (ht:SReps C t a.tmps.toList) (h:a.tmps[d]? = some (.bool c)):SReps C (t.set d (.v (.bool c))) a.tmps.toList:=by
 have h2:=ht.set d (s:=.v (.bool c)) (v:=.bool c) (by simp only [SRep])
 have:a.tmps.toList.set d (.bool c)=a.tmps.toList:=by
  apply List.ext_getElem?
  intro i
  rw [List.getElem?_set]
  split
  ·rename_i e
   subst e
   have:a.tmps.toList[d]? = some (.bool c):=by simpa using h
   rw [this]
   split
   ·rfl
   ·rename_i hn;rw [List.getElem?_eq_none (by omega)] at this;cases this
  ·rfl
 rwa [this] at h2
theorem opg_ok {ro:Option Nat} {nd:Nat} {X:Ctx} (hX:XOk P X) {rec:Rec R} (hrec:RecOk P rec) {fid:FuncId} {p:Option Nat} {ops:Array Oper} {o:Oper} {s:St} {K:St→Option R} {r:R} {a:Act} (hm:MInv B F G s.m w) (hf:memFree p G s.m)
  (ht:SReps (rc F G s.m w) s.t a.tmps.toList) (h:opg X rec fid p ops o s K=some r) (next:Act→World→Prop) (Q:Exit→Act→World→Prop)
  (hn:∀ (s':St) (a':Act) w' G',After B F G s.m w G' s'.m w'→SReps (rc F G' s'.m w') s'.t a'.tmps.toList→a'.defers=a.defers→K s'=some r→next a' w') :
  if Region.wanted o (yielded ops a.tmps) then o.wpIn (FW ro) nd P a w next Q else (∀ f,o.about P w a.eval=some f→(FW ro).fn f)∧next (a.put o.dst undef) w:=by
 unfold opg at h
 split at h
 ·rename_i hg
  have hw:Region.wanted o (yielded ops a.tmps)=true:=by simp [Region.wanted,hg]
  rw [if_pos hw]
  refine opx_ok hX hrec hm hf ht h next Q fun v m' V w' G' haf hv hk _=>?_
  exact hn _ _ _ _ haf (put_rep (ht.le haf.le) hv o.dst) (put_defers _ _ _) hk
 ·rename_i j want hg
  split at h
  ·rename_i d hd
   split at h
   ·rename_i c hc
    have hb:=getT_bool ht hc
    have hy:yielded ops a.tmps j=some c:=by
     unfold yielded
     rw [hd]
     simp [hb]
    cases hcw:eqB c want with
    | true =>
     rw [hcw] at h
     simp only [cond_true] at h
     have e:c=want:=by cases c<;>cases want<;>first|rfl|cases hcw
     subst e
     have hw:Region.wanted o (yielded ops a.tmps)=true:=by simp [Region.wanted,hg,hy]
     rw [if_pos hw]
     have ht':=set_bool ht hb
     refine opx_ok (s:=⟨s.t.set d (.v (.bool c)),s.m⟩) hX hrec hm hf ht' h next Q fun v m' V w' G' haf hv hk _=>?_
     exact hn _ _ _ _ haf (put_rep (ht'.le haf.le) hv o.dst) (put_defers _ _ _) hk
    | false =>
     rw [hcw] at h
     simp only [cond_false] at h
     have e:c=!want:=by cases c<;>cases want<;>first|rfl|cases hcw
     subst e
     have hw:Region.wanted o (yielded ops a.tmps)=false:=by simp [Region.wanted,hg,hy]
     rw [if_neg (by rw [hw];simp)]
     exact⟨fun _ _=>trivial,hn ⟨putT (s.t.set d (.v (.bool (!want)))) o.dst (.v undef),s.m⟩ _ _ _ (After.refl hm) (put_rep (set_bool ht hb) (by simp only [SRep]) o.dst) (put_defers _ _ _) h⟩
   ·rename_i x hc
    have hb:=getT_tuple ht hc
    have hy:yielded ops a.tmps j=none:=by
     unfold yielded
     rw [hd]
     simp [hb]
    have hw:Region.wanted o (yielded ops a.tmps)=false:=by simp [Region.wanted,hg,hy]
    rw [if_neg (by rw [hw];simp)]
    exact⟨fun _ _=>trivial,hn ⟨putT s.t o.dst (.v undef),s.m⟩ _ _ _ (After.refl hm) (put_rep ht (by simp only [SRep]) o.dst) (put_defers _ _ _) h⟩
   ·cases h
  ·cases h
theorem opsx_ok {ro:Option Nat} {nd:Nat} {X:Ctx} (hX:XOk P X) {rec:Rec R} (hrec:RecOk P rec) {fid:FuncId} {ops:Array Oper} {Q:Exit→Act→World→Prop} {r:R} :
  ∀ (l:List Oper) (i:Nat) (s:St) (K:St→Option R) (a:Act) (w:World) (G:Nat→Option Value),ops.toList.drop i=l→MInv B F G s.m w→SReps (rc F G s.m w) s.t a.tmps.toList→opsx X rec fid ops l s K=some r →
  (∀ (s':St) (a':Act) w' G',After B F G s.m w G' s'.m w'→SReps (rc F G' s'.m w') s'.t a'.tmps.toList→a'.defers=a.defers→K s'=some r→Q .normal a' w')→wpOpsIn (FW ro) nd P ops Q (List.range' i (ops.size-i)) a w:=by
 intro l
 induction l with
 | nil =>
  intro i s K a w G hl hm ht h hn
  have:ops.size-i=0:=by
   have:=congrArg List.length hl
   simpa using this
  rw [this]
  simp only [List.range'_zero,wpOpsIn]
  exact hn s a w G (After.refl hm) ht rfl h
 | cons o l ih =>
  intro i s K a w G hl hm ht h hn
  have hlt:i<ops.size:=by
   have:=congrArg List.length hl
   simp at this
   omega
  obtain⟨n,hsz⟩:∃ n,ops.size-i=n+1:=⟨ops.size-i-1,by omega⟩
  have hoi:ops[i]? = some o:=by
   have:(ops.toList.drop i)[0]? = some o:=by rw [hl];rfl
   simpa using this
  rw [hsz,List.range'_succ]
  simp only [opsx] at h
  simp only [wpOpsIn,hoi]
  have hl':ops.toList.drop (i+1)=l:=by
   have:=congrArg List.tail hl
   simpa [List.tail_drop] using this
  refine opg_ok (p:=none) hX hrec hm trivial ht h (wpOpsIn (FW ro) nd P ops Q (List.range' (i+1) n)) Q fun s' a' w' G' haf ht' hd hk=>?_
  have hn1:n=ops.size-(i+1):=by omega
  rw [hn1]
  exact ih (i+1) s' K a' w' G' hl' haf.minv ht' hk fun s2 a2 w2 G2 haf2 ht2 hd2 hk2=>hn s2 a2 w2 G2 (haf.trans haf2) ht2 (hd2.trans hd) hk2
end Go.Proofs.Ytgmkppeghnlcmaa.X
end
section
set_option linter.unusedVariables false
set_option linter.unusedSimpArgs false
namespace Go.Proofs.Ytgmkppeghnlcmaa.X
open Go Go.RowKit
set_option linter.unusedVariables false
set_option linter.unusedSimpArgs false
section
variable {S:Type} (Act:Nat→S→S→Prop)
def Chain:List Nat→S→S→Prop
  | [],s,s'=>s=s'
  | i :: l,s,s'=>∃ a,Act i s a∧Chain l a s'
variable {Act}
theorem Chain.app:∀ {l l':List Nat} {s a s':S},Chain Act l s a→Chain Act l' a s'→Chain Act (l++l') s s'
 | [],l',s,a,s',h,h'=>by obtain rfl:=h;exact h'
 | i :: l,l',s,a,s',h,h'=>by
  obtain⟨b,h1,h2⟩:=h
  exact⟨b,h1,Chain.app h2 h'⟩
theorem Chain.det (hd:∀ i s a b,Act i s a→Act i s b→a=b):∀ {l:List Nat} {s a b:S},Chain Act l s a→Chain Act l s b→a=b
 | [],s,a,b,h,h'=>by obtain rfl:=h;exact h'
 | i :: l,s,a,b,h,h'=>by
  obtain⟨x,h1,h2⟩:=h
  obtain⟨y,h3,h4⟩:=h'
  obtain rfl:=hd i s x y h1 h3
  exact Chain.det hd h2 h4
theorem Chain.pass {i:Nat}:∀ {l:List Nat} {s a m:S},(∀ j ∈ l,∀ s a b,Act i s a→Act j a b→∃ a',Act j s a'∧Act i a' b)→Act i s a→Chain Act l a m→∃ a',Chain Act l s a'∧Act i a' m
 | [],s,a,m,hc,h,h'=>by obtain rfl:=h';exact⟨s,rfl,h⟩
 | j :: l,s,a,m,hc,h,h'=>by
  obtain⟨b,h1,h2⟩:=h'
  obtain⟨a',h3,h4⟩:=hc j (by simp) s a b h h1
  obtain⟨a2,h5,h6⟩:=Chain.pass (fun k hk=>hc k (by simp [hk])) h4 h2
  exact⟨a2,⟨a',h3,h5⟩,h6⟩
theorem Chain.split (D:Nat→Bool):∀ {l:List Nat} {s s':S},l.Pairwise (fun i j=>D i=false→D j=true→∀ s a b,Act i s a→Act j a b→∃ a',Act j s a'∧Act i a' b)→Chain Act l s s' →
  ∃ m,Chain Act (l.filter D) s m∧Chain Act (l.filter fun i=>!D i) m s'
 | [],s,s',_,h=>by obtain rfl:=h;exact⟨s,rfl,rfl⟩
 | i :: l,s,s',hp,h=>by
  obtain⟨a,h1,h2⟩:=h
  obtain⟨hi,hp⟩:=List.pairwise_cons.1 hp
  obtain⟨m,h3,h4⟩:=Chain.split D hp h2
  cases hD:D i with
  | true =>
   refine⟨m,?_,?_⟩
   ·rw [List.filter_cons_of_pos (by simpa using hD)];exact⟨a,h1,h3⟩
   ·rw [List.filter_cons_of_neg (by simp [hD])];exact h4
  | false =>
   obtain⟨a',h5,h6⟩:=Chain.pass (fun j hj=>hi j (List.mem_filter.1 hj).1 hD (List.mem_filter.1 hj).2) h1 h3
   refine⟨a',?_,?_⟩
   ·rw [List.filter_cons_of_neg (by simp [hD])];exact h5
   ·rw [List.filter_cons_of_pos (by simp [hD])];exact⟨m,h6,h4⟩
end
theorem range_filter_one {n i:Nat} {D:Nat→Bool} (hi:i<n) (hD:D i=true):((List.range n).filter D).filter (fun j=>!(j != i))=[i]:=by
 rw [List.filter_filter]
 have:(fun a=>(!(a != i)) && D a)=(fun a=>a == i):=by
  funext a
  by_cases e:a=i
  ·subst e;simp [hD]
  ·have h:(a == i)=false:=by simpa using e
   simp only [bne,h,Bool.not_false,Bool.not_true,Bool.false_and]
 rw [this]
 clear this
 induction n with
 | zero=>omega
 | succ n ih =>
  rw [List.range_succ,List.filter_append]
  by_cases h:i<n
  ·rw [ih h]
   simp
   omega
  ·have:i=n:=by omega
   subst this
   have:(List.range i).filter (fun a=>a == i)=[]:=by
    rw [List.filter_eq_nil_iff]
    intro a ha
    simp at ha
    simp;omega
   rw [this]
   simp
theorem Chain.next {S:Type} {Act:Nat→S→S→Prop} (hd:∀ i s a b,Act i s a→Act i s b→a=b) {n:Nat} {s0 sn s:S} (full:Chain Act (List.range n) s0 sn) (D:Nat→Bool) (i:Nat) (hi:i<n) (hDi:D i=false)
  (hs:Chain Act ((List.range n).filter D) s0 s)
  (h1:∀ a b,a<b→b<n→(D a || a == i)=false→(D b || b == i)=true→∀ s x y,Act a s x→Act b x y→∃ x',Act b s x'∧Act a x' y)
  (h2:∀ b,i<b→b<n→D b=true→∀ s x y,Act i s x→Act b x y→∃ x',Act b s x'∧Act i x' y) :
  ∃ s',Act i s s'∧Chain Act ((List.range n).filter fun j=>D j || j == i) s0 s':=by
 obtain⟨s',hs',_⟩:=Chain.split (fun j=>D j || j == i) (by
  rw [List.pairwise_iff_getElem]
  intro a b ha hb hab hDa hDb
  simp only [List.getElem_range] at hDa hDb ⊢
  simp only [List.length_range] at hb
  exact h1 a b hab hb hDa hDb) full
 refine⟨s',?_,hs'⟩
 have hp:((List.range n).filter fun j=>D j || j == i).Pairwise (fun a b=>(a != i)=false→(b != i)=true→∀ s x y,Act a s x→Act b x y→∃ x',Act b s x'∧Act a x' y):=by
  have hlt:((List.range n).filter fun j=>D j || j == i).Pairwise (·<·):=List.Pairwise.filter _ List.pairwise_lt_range
  refine List.Pairwise.imp_of_mem ?_ hlt
  intro a b ha hb hab hai hbi
  have hai':a=i:=by simpa using hai
  subst hai'
  obtain⟨hb1,hb2⟩:=List.mem_filter.1 hb
  have hbn:b<n:=by simpa using hb1
  have hbi':b≠a:=by simpa using hbi
  have hDb:D b=true:=by
   simp only [Bool.or_eq_true,beq_iff_eq] at hb2
   exact hb2.resolve_right hbi'
  exact h2 b hab hbn hDb
 obtain⟨m,hm1,hm2⟩:=Chain.split (fun j=>j != i) hp hs'
 rw [range_filter_one hi (by simp)] at hm2
 obtain⟨x,hx,rfl⟩:=hm2
 have he:(((List.range n).filter fun j=>D j || j == i).filter fun j=>j != i)=(List.range n).filter D:=by
  rw [List.filter_filter]
  congr 1
  funext j
  by_cases e:j=i
  ·subst e;simp [hDi]
  ·have h:(j == i)=false:=by simpa using e
   simp only [bne,h,Bool.not_false,Bool.true_and,Bool.or_false]
 rw [he] at hm1
 obtain rfl:=Chain.det hd hm1 hs
 exact hx
end Go.Proofs.Ytgmkppeghnlcmaa.X
end
section
set_option linter.unusedVariables false
set_option linter.unusedSimpArgs false
namespace Go.Proofs.Ytgmkppeghnlcmaa.X
open Go Go.RowKit
set_option linter.unusedVariables false
set_option linter.unusedSimpArgs false
variable {R:Type} {r:R}
section
variable {V:Type} {DT:Type→Type} {E:V→(A:Type)→DT A→Option A} {Q:V→Prop} {x:Option R} {y:(A:Type)→DT A→Option A}
theorem nat_if {c:Bool} (h:(bif c then x else none)=some r) (hk:x=some r→∃ v,Q v∧∀ A D,y A D=E v A D):∃ v,Q v∧∀ A D,(bif c then y A D else none)=E v A D:=by
 cases c
 ·cases h
 ·exact hk h
theorem nat_unless {c:Bool} (h:(bif c then none else x)=some r) (hk:x=some r→∃ v,Q v∧∀ A D,y A D=E v A D):∃ v,Q v∧∀ A D,(bif c then none else y A D)=E v A D:=by
 cases c
 ·exact hk h
 ·cases h
theorem nat_ite {c:Prop} [Decidable c] (h:(if c then x else none)=some r) (hk:x=some r→∃ v,Q v∧∀ A D,y A D=E v A D):∃ v,Q v∧∀ A D,(if c then y A D else none)=E v A D:=by
 by_cases hc:c
 ·simp only [if_pos hc] at h ⊢;exact hk h
 ·rw [if_neg hc] at h;cases h
theorem split_nat {i:Int}:∀ {n:Nat} {k:Nat→Option R} {k':(A:Type)→DT A→Nat→Option A},splitIdx i n k=some r→(∀ j,k j=some r→∃ v,Q v∧∀ A D,k' A D j=E v A D)→∃ v,Q v∧∀ A D,splitIdx i n (k' A D)=E v A D:=by
 intro n
 induction n with
 | zero=>intro k k' h;simp [splitIdx] at h
 | succ n ih =>
  intro k k' h hk
  simp only [splitIdx] at h ⊢
  cases hc:decide (i=(n:Int)) with
  | true=>rw [hc] at h;exact hk n h
  | false=>rw [hc] at h;exact ih h hk
end
theorem intx_nat {op:BinOp} {k k':IntKind} {x y:Int} {K:SV→Option R} (h:intx op k x k' y K=some r):∃ v,K v=some r∧∀ (A:Type) (D:SV→Option A),intx op k x k' y D=D v:=by
 cases op<;>simp only [intx] at h ⊢
 case shl=>exact nat_unless h fun h=>⟨_,h,fun _ _=>rfl⟩
 case shr=>exact nat_unless h fun h=>⟨_,h,fun _ _=>rfl⟩
 case quo=>exact nat_ite h fun h=>nat_unless h fun h=>⟨_,h,fun _ _=>rfl⟩
 case rem=>exact nat_ite h fun h=>nat_unless h fun h=>⟨_,h,fun _ _=>rfl⟩
 all_goals exact nat_ite h fun h=>⟨_,h,fun _ _=>rfl⟩
theorem binx_nat {T:List TI} {op:BinOp} {t:TypeId} {a b:SV} {K:SV→Option R} (h:binx T op t a b K=some r):∃ v,K v=some r∧∀ (A:Type) (D:SV→Option A),binx T op t a b D=D v:=by
 unfold binx at h ⊢
 split at h
 ·rename_i h1 h2
  (try simp only [h1,h2])
  exact intx_nat h
 ·rename_i hne
  have hm:∀ (Z:IntKind→Int→IntKind→Int→Option SV) (D:Option SV),(match isInt a,isInt b with|some (k,x),some (k',y)=>Z k x k' y|_,_=>D)=D:=by
   intro Z D
   split
   ·rename_i h1 h2;exact absurd h2 (hne _ _ _ _ h1)
   ·rfl
  split at h
  ·split at h
   ·rename_i hq
    split at h
    ·rename_i hok
     refine⟨_,h,fun _ _=>?_⟩
     simp_all
    ·cases h
   ·cases h
  ·split at h
   ·rename_i hq
    split at h
    ·rename_i hok
     refine⟨_,h,fun _ _=>?_⟩
     simp_all
    ·cases h
   ·cases h
  ·cases h
theorem unx_nat {op:UnOp} {a:SV} {K:SV→Option R} (h:unx op a K=some r):∃ v,K v=some r∧∀ (A:Type) (D:SV→Option A),unx op a D=D v:=by
 unfold unx at h ⊢
 split at h<;>first
  | exact⟨_,h,fun _ _=>rfl⟩
  | cases h
theorem cvx_nat {T:List TI} {src dst:TypeId} {a:SV} {K:SV→Option R} (h:cvx T src dst a K=some r):∃ v,K v=some r∧∀ (A:Type) (D:SV→Option A),cvx T src dst a D=D v:=by
 unfold cvx at h ⊢
 split at h
 ·first
   | exact⟨_,h,fun _ _=>rfl⟩
   | (refine⟨_,h,fun _ _=>?_⟩;simp_all)
 ·cases h
theorem opt_case {A:Type} {o:Option A}:o=none∨∃ a,o=some a:=by cases o<;>simp
theorem iaddr_nat {T:List TI} {m:Mem} {t:TypeId} {x:SV} {i:Int} {K:SV→Option R} (h:iaddr T m t x i K=some r):∃ v,K v=some r∧∀ (A:Type) (D:SV→Option A),iaddr T m t x i D=D v:=by
 unfold iaddr at h ⊢
 cases hd:(getI T t).d<;>simp only [hd] at h ⊢<;>try cases h
 case array n e =>
  refine nat_ite h ?_
  clear h
  intro h
  split at h
  ·exact split_nat h fun j h=>⟨_,h,fun _ _=>rfl⟩
  ·cases h
 case slice e =>
  refine nat_ite h ?_
  clear h
  intro h
  cases x<;>simp only at h ⊢<;>try cases h
  case seq=>exact nat_ite h fun h=>nat_if h fun h=>⟨_,h,fun _ _=>rfl⟩
  case own b =>
   cases hb:m[b]? with
   | none=>rw [hb] at h;cases h
   | some y =>
    cases y with
    | none=>rw [hb] at h;cases h
    | some y =>
     obtain⟨r0,k⟩:=y
     cases k with
     | cells cs=>rw [hb] at h;cases h
     | row E Kd xs=>rw [hb] at h;exact nat_ite h fun h=>nat_if h fun h=>⟨_,h,fun _ _=>rfl⟩
  case arr=>exact split_nat h fun j h=>⟨_,h,fun _ _=>rfl⟩
theorem ixx_nat {T:List TI} {t:TypeId} {x:SV} {i:Int} {K:SV→Option R} (h:ixx T t x i K=some r):∃ v,K v=some r∧∀ (A:Type) (D:SV→Option A),ixx T t x i D=D v:=by
 unfold ixx at h ⊢
 cases hd:(getI T t).d<;>simp only [hd] at h ⊢<;>try cases h
 case array n e =>
  cases x<;>simp only at h ⊢<;>try cases h
  case agg l =>
   refine nat_ite h ?_
   clear h
   intro h
   refine split_nat h ?_
   clear h
   intro j h
   split at h
   ·rename_i c hc
    exact⟨c,h,fun _ _=>by (try simp only [hc])⟩
   ·cases h
theorem slx_nat {T:List TI} {m:Mem} {t:TypeId} {x:SV} {lo hi mx:Option SV} {K:SV→Option R} (h:slx T m t x lo hi mx K=some r):∃ v,K v=some r∧∀ (A:Type) (D:SV→Option A),slx T m t x lo hi mx D=D v:=by
 unfold slx at h ⊢
 cases hd:(getI T t).d<;>simp only [hd] at h ⊢<;>try cases h
 case array n e =>
  cases x<;>simp only at h ⊢<;>try cases h
  case ptr b off =>
   cases mx with
   | some y=>split at h<;>first|cases h|(rename_i h3;cases h3)
   | none =>
    cases h1:bnd lo 0 with
    | none=>rw [h1] at h;cases h
    | some l =>
     cases h2:bnd hi n with
     | none=>rw [h1,h2] at h;cases h
     | some hh =>
      rw [h1,h2] at h
      exact nat_ite h fun h=>split_nat h fun j h=>split_nat h fun j h=>nat_ite h fun h=>⟨_,h,fun _ _=>rfl⟩
 case slice e =>
  cases x<;>simp only at h ⊢<;>try cases h
  case seq Kd xs =>
   cases mx with
   | none =>
    simp only at h ⊢
    cases h1:bnd lo 0 with
    | none=>rw [h1] at h;cases h
    | some l =>
     cases h2:bnd hi xs.length with
     | none=>rw [h1,h2] at h;cases h
     | some hh =>
      rw [h1,h2] at h
      exact nat_ite h fun h=>nat_if h fun h=>⟨_,h,fun _ _=>rfl⟩
   | some y =>
    split at h
    ·rename_i e';cases e'
    ·rename_i n0 e'
     obtain rfl:=Option.some.inj e'
     (try simp only at h ⊢)
     cases h1:bnd lo 0 with
     | none=>rw [h1] at h;cases h
     | some l =>
      rw [h1] at h
      split at h
      ·exact nat_ite h fun h=>nat_if h fun h=>⟨_,h,fun _ _=>rfl⟩
      ·cases h
    ·cases h
  case arr b off n c =>
   cases mx with
   | some y=>cases h
   | none =>
    simp only at h ⊢
    cases h1:bnd lo 0 with
    | none=>rw [h1] at h;cases h
    | some l =>
     cases h2:bnd hi n with
     | none=>rw [h1,h2] at h;cases h
     | some hh =>
      rw [h1,h2] at h
      exact nat_ite h fun h=>split_nat h fun j h=>split_nat h fun j h=>nat_ite h fun h=>⟨_,h,fun _ _=>rfl⟩
theorem bslx_nat {T:List TI} {p:Option Nat} {m:Mem} {t:TypeId} {len:Nat} {parts:List (Nat × SV)} {K:SV→Mem→Option R} (h:bslx T p m t len parts K=some r) :
  ∃ v:SV × Mem,K v.1 v.2=some r∧∀ (A:Type) (D:SV→Mem→Option A),bslx T p m t len parts D=D v.1 v.2:=by
 unfold bslx at h ⊢
 cases hd:(getI T t).d<;>simp only [hd] at h ⊢<;>try cases h
 case slice e =>
  cases h1:zeroCells T e with
  | none=>rw [h1] at h;cases h
  | some z =>
   cases h2:kindOf T 20 e with
   | none=>rw [h1,h2] at h;cases h
   | some Kd =>
    rw [h1,h2] at h
    refine nat_ite h ?_
    clear h
    intro h
    cases h3:fillx (fun i=>some (i*szOf T e,szOf T e)) (repl len z) parts with
    | none=>rw [h3] at h;cases h
    | some l =>
     rw [h3] at h
     refine nat_ite h ?_
     clear h
     intro h
     cases h4:parseN (parse m false Kd) len l with
     | none=>rw [h4] at h;cases h
     | some xs=>rw [h4] at h;exact⟨(_,_),h,fun _ _=>rfl⟩
theorem appx_nat {T:List TI} {p:Option Nat} {m:Mem} {t:TypeId} {s x:SV} {K:SV→Mem→Option R} (h:appx T p m t s x K=some r) :
  ∃ v:SV × Mem,K v.1 v.2=some r∧∀ (A:Type) (D:SV→Mem→Option A),appx T p m t s x D=D v.1 v.2:=by
 unfold appx at h ⊢
 cases hd:(getI T t).d<;>simp only [hd] at h ⊢<;>try cases h
 case slice e =>
  cases h2:kindOf T 20 e with
  | none=>rw [h2] at h;cases h
  | some Kd =>
   rw [h2] at h
   refine nat_ite h ?_
   clear h
   intro h
   cases h3:elems m Kd x with
   | none=>rw [h3] at h;cases h
   | some ys =>
    rw [h3] at h
    cases s<;>simp only at h ⊢<;>try cases h
    case v=>exact nat_ite h fun h=>nat_if h fun h=>⟨(_,_),h,fun _ _=>rfl⟩
    case emp=>exact nat_if h fun h=>⟨(_,_),h,fun _ _=>rfl⟩
    case own b =>
     cases hb:m[b]? with
     | none=>rw [hb] at h;cases h
     | some y =>
      cases y with
      | none=>rw [hb] at h;cases h
      | some y =>
       obtain⟨r0,k⟩:=y
       cases r0 with
       | false=>rw [hb] at h;cases k<;>cases h
       | true =>
        cases k with
        | cells cs=>rw [hb] at h;cases h
        | row E K' xs =>
         rw [hb] at h
         simp only at h ⊢
         cases hc:castL (a:=Kd) xs with
         | none=>rw [hc] at h;cases h
         | some zs=>rw [hc] at h;exact nat_ite h fun h=>nat_if h fun h=>⟨(_,_),h,fun _ _=>rfl⟩
    case arr b off n c =>
     refine nat_ite h ?_
     clear h
     intro h
     cases h4:elems m Kd (.arr b off n c) with
     | none=>rw [h4] at h;cases h
     | some zs=>rw [h4] at h;exact nat_if h fun h=>⟨(_,_),h,fun _ _=>rfl⟩
theorem bix_nat {T:List TI} {p:Option Nat} {b:Builtin} {ts:List TypeId} {m:Mem} {av:List SV} {K:SV→Mem→Option R} (h:bix T p b ts m av K=some r) :
  ∃ v:SV × Mem,K v.1 v.2=some r∧∀ (A:Type) (D:SV→Mem→Option A),bix T p b ts m av D=D v.1 v.2:=by
 unfold bix at h ⊢
 split at h
 ·rename_i t _ s _
  cases h1:lenx T m t s with
  | none=>rw [h1] at h;cases h
  | some n=>rw [h1] at h;exact⟨(_,_),h,fun _ _=>rfl⟩
 ·exact nat_ite h fun h=>appx_nat h
 ·split at h
  ·rename_i s hs
   first
    | exact⟨(s,m),h,fun _ _=>rfl⟩
    | exact⟨(s,m),h,fun _ _=>by simp only [hs]⟩
  ·cases h
 ·split at h
  ·rename_i s hs
   first
    | exact⟨(s,m),h,fun _ _=>rfl⟩
    | exact⟨(s,m),h,fun _ _=>by simp only [hs]⟩
  ·cases h
 ·cases h
theorem callx0_nat {X:Ctx} {f:FuncId} {av:List SV} {p:Option Nat} {m:Mem} {K:SV→Mem→Option R} (h:callx0 X none4 f av p m K=some r):∃ v:SV × Mem,K v.1 v.2=some r∧∀ (A:Type) (D:SV→Mem→Option A),callx0 X none4 f av p m D=D v.1 v.2:=by
 unfold callx0 at h ⊢
 cases hs:X.spec f with
 | none =>
  rw [hs] at h
  simp only at h
  split at h<;>cases h
 | some sp =>
  rw [hs] at h
  simp only at h ⊢
  cases hx:parses m sp.R.flat sp.A av with
  | none=>rw [hx] at h;cases h
  | some x =>
   rw [hx] at h
   obtain⟨y,hy,h⟩:=Option.bind_eq_some_iff.1 h
   exact⟨sp.R.give p m y,h,fun _ _=>by simp only [hy,Option.bind_some]⟩
theorem callx_nat {X:Ctx} {f:FuncId} {av:List SV} {p:Option Nat} {m:Mem} {K:SV→Mem→Option R} (h:callx X none4 f av p m K=some r):∃ v:SV × Mem,K v.1 v.2=some r∧∀ (A:Type) (D:SV→Mem→Option A),callx X none4 f av p m D=D v.1 v.2:=by
 unfold callx at h ⊢
 cases hs:X.alt f with
 | none =>
  rw [hs] at h
  simp only at h ⊢
  exact callx0_nat h
 | some al =>
  rw [hs] at h
  simp only at h ⊢
  cases hx:parses m al.R.flat al.A av with
  | none=>rw [hx] at h;cases h
  | some x =>
   rw [hx] at h
   obtain⟨y,hy,h,hD⟩:=Fk.go_some h
   exact⟨al.R.give p m y,h,fun _ D=>hD _ _⟩
theorem nat_mem {m:Mem} {K:SV→Mem→Option R} {F:(A:Type)→(SV→Option A)→Option A} (h:∃ v,K v m=some r∧∀ (A:Type) (D:SV→Option A),F A D=D v) :
  ∃ v:SV × Mem,K v.1 v.2=some r∧∀ (A:Type) (D:SV→Mem→Option A),F A (fun v=>D v m)=D v.1 v.2:=by
 obtain⟨v,h1,h2⟩:=h
 exact⟨(v,m),h1,fun A D=>h2 A _⟩
theorem opx_nat {X:Ctx} {fid:FuncId} {p:Option Nat} {o:Oper} {s:St} {K:SV→Mem→Option R} (h:opx X none4 fid p o s K=some r) :
  ∃ v:SV × Mem,K v.1 v.2=some r∧∀ (A:Type) (D:SV→Mem→Option A),opx X none4 fid p o s D=D v.1 v.2:=by
 cases hop:o.op<;>simp only [opx,hop] at h ⊢<;>try cases h
 case move x=>exact⟨(_,_),h,fun _ _=>rfl⟩
 case assign x=>exact⟨(_,_),h,fun _ _=>rfl⟩
 case pick c x y =>
  cases hc:ev s.t c<;>rw [hc] at h<;>(try cases h)
  rename_i cv
  cases cv<;>(try cases h)
  rename_i b
  simp only at h ⊢
  have two:(bif b then K (ev s.t x) s.m else K (ev s.t y) s.m)=some r→∃ v:SV × Mem,K v.1 v.2=some r∧∀ (A:Type) (D:SV→Mem→Option A),(bif b then D (ev s.t x) s.m else D (ev s.t y) s.m)=D v.1 v.2:=by
   intro h
   cases b
   ·exact⟨(_,_),h,fun _ _=>rfl⟩
   ·exact⟨(_,_),h,fun _ _=>rfl⟩
  split at h
  ·exact⟨(_,_),h,fun _ _=>rfl⟩
  ·exact two h
 case alloc t =>
  cases hz:zeroCells X.T t with
  | none=>rw [hz] at h;cases h
  | some z=>rw [hz] at h;exact⟨(_,_),h,fun _ _=>rfl⟩
 case box t x=>exact nat_ite h fun h=>⟨(_,_),h,fun _ _=>rfl⟩
 case build t parts =>
  cases hz:buildx X.T t (mapSV (ev s.t) parts.toList) with
  | none=>rw [hz] at h;cases h
  | some z=>rw [hz] at h;exact⟨(_,_),h,fun _ _=>rfl⟩
 case buildSlice t n parts=>exact bslx_nat h
 case nilCheck x =>
  cases hz:ev s.t x<;>rw [hz] at h<;>(try cases h)
  exact⟨(_,_),h,fun _ _=>rfl⟩
 case load t x =>
  cases hz:ldx X.T s.m t (ev s.t x) with
  | none=>rw [hz] at h;cases h
  | some z=>rw [hz] at h;exact⟨(_,_),h,fun _ _=>rfl⟩
 case store t x y =>
  cases hz:stx X.T s.m t (ev s.t x) (ev s.t y) with
  | none=>rw [hz] at h;cases h
  | some z=>rw [hz] at h;exact⟨(_,_),h,fun _ _=>rfl⟩
 case binOp op t x y ty=>exact nat_mem (F:=fun A D=>binx X.T op t (ev s.t x) (ev s.t y) D) (binx_nat h)
 case unOp op t x=>exact nat_mem (F:=fun A D=>unx op (ev s.t x) D) (unx_nat h)
 case convert src dst x=>exact nat_mem (F:=fun A D=>cvx X.T src dst (ev s.t x) D) (cvx_nat h)
 case slice t x lo hi mx=>exact nat_mem (F:=fun A D=>slx X.T s.m t (ev s.t x) (lo.map (ev s.t)) (hi.map (ev s.t)) (mx.map (ev s.t)) D) (slx_nat h)
 case sliceToArrayPointer t x =>
  cases hz:s2ax X.T t (ev s.t x) with
  | none=>rw [hz] at h;cases h
  | some z=>rw [hz] at h;exact⟨(_,_),h,fun _ _=>rfl⟩
 case fieldAddr t x f =>
  cases hf:fieldOf X.T t f with
  | none=>rw [hf] at h;cases h
  | some q =>
   obtain⟨q1,q2,q3⟩:=q
   rw [hf] at h
   simp only at h ⊢
   cases hz:faddr (ev s.t x) q1 with
   | none=>rw [hz] at h;cases h
   | some z=>rw [hz] at h;exact⟨(_,_),h,fun _ _=>rfl⟩
 case field t x f =>
  cases hf:fieldOf X.T t f with
  | none=>rw [hf] at h;cases h
  | some q =>
   obtain⟨q1,q2,q3⟩:=q
   rw [hf] at h
   cases hx:ev s.t x<;>rw [hx] at h<;>(try cases h)
   simp only at h ⊢
   rename_i l
   cases hz:partx X.T q2 l q1 q3 with
   | none=>rw [hz] at h;cases h
   | some z=>rw [hz] at h;exact⟨(_,_),h,fun _ _=>rfl⟩
 case indexAddr t x i =>
  cases hi:ev s.t i<;>rw [hi] at h<;>(try cases h)
  rename_i iv
  cases iv<;>(try cases h)
  exact nat_mem (F:=fun A D=>iaddr X.T s.m t (ev s.t x) _ D) (iaddr_nat h)
 case index t x i =>
  cases hi:ev s.t i<;>rw [hi] at h<;>(try cases h)
  rename_i iv
  cases iv<;>(try cases h)
  exact nat_mem (F:=fun A D=>ixx X.T t (ev s.t x) _ D) (ixx_nat h)
 case extract t i =>
  cases ht:ev s.t t<;>rw [ht] at h<;>(try cases h)
  simp only at h ⊢
  rename_i l
  cases hz:l[i]? with
  | none=>rw [hz] at h;cases h
  | some z=>rw [hz] at h;exact⟨(_,_),h,fun _ _=>rfl⟩
 case makeFunc f x y=>exact⟨(_,_),h,fun _ _=>rfl⟩
 case call c =>
  cases hc:c.callee<;>rw [hc] at h<;>(try cases h)
  case builtin b=>exact bix_nat h
  case value f =>
   simp only at h ⊢
   cases hf:ev s.t f<;>rw [hf] at h<;>(try cases h)
   rename_i fn a b
   cases fn<;>(try cases h)
   exact callx_nat h
end Go.Proofs.Ytgmkppeghnlcmaa.X
end
section
set_option linter.unusedVariables false
set_option linter.unusedSimpArgs false
namespace Go.Proofs.Ytgmkppeghnlcmaa.X
open Go Go.RowKit
set_option linter.unusedVariables false
set_option linter.unusedSimpArgs false
variable {R:Type} {r:R}
theorem mapSV_congr {e e':Operand→SV}:∀ {l:List (Nat × Operand)},(∀ x ∈ l.map (·.2),e x=e' x)→mapSV e l=mapSV e' l
 | [],_=>rfl
 | (i,x) :: l,h=>by
  simp only [mapSV]
  rw [h x (by simp),mapSV_congr (fun y hy=>h y (by simp at hy ⊢;exact Or.inr hy))]
theorem opx_congr {X:Ctx} {rec:Rec R} {fid:FuncId} {p:Option Nat} {o:Oper} {t t':List SV} {m:Mem} (K:SV→Mem→Option R) (h:∀ x ∈ o.op.operands,ev t x=ev t' x) :
  opx X rec fid p o ⟨t,m⟩ K=opx X rec fid p o ⟨t',m⟩ K:=by
 cases hop:o.op<;>rw [hop] at h<;>simp only [Op.operands] at h<;>simp only [opx,hop]
 case move x=>rw [h x (by simp)]
 case assign x=>rw [h x (by simp)]
 case pick c x y=>rw [h c (by simp),h x (by simp),h y (by simp)]
 case box ty x=>rw [h x (by simp)]
 case build ty parts=>rw [mapSV_congr (fun x hx=>h x (by simpa using hx))]
 case buildSlice ty n parts=>rw [mapSV_congr (fun x hx=>h x (by simpa using hx))]
 case nilCheck x=>rw [h x (by simp)]
 case load ty x=>rw [h x (by simp)]
 case store ty x y=>rw [h x (by simp),h y (by simp)]
 case binOp op ty x y ty'=>rw [h x (by simp),h y (by simp)]
 case unOp op ty x=>rw [h x (by simp)]
 case convert src dst x=>rw [h x (by simp)]
 case slice ty x lo hi mx =>
  rw [h x (by simp)]
  have hl:lo.map (ev t)=lo.map (ev t'):=by cases lo<;>simp;exact h _ (by simp)
  have hh:hi.map (ev t)=hi.map (ev t'):=by cases hi<;>simp;exact h _ (by simp)
  have hm:mx.map (ev t)=mx.map (ev t'):=by cases mx<;>simp;exact h _ (by simp)
  rw [hl,hh,hm]
 case sliceToArrayPointer ty x=>rw [h x (by simp)]
 case fieldAddr ty x f=>rw [h x (by simp)]
 case field ty x f=>rw [h x (by simp)]
 case indexAddr ty x i=>rw [h x (by simp),h i (by simp)]
 case index ty x i=>rw [h x (by simp),h i (by simp)]
 case extract x i=>rw [h x (by simp)]
 case makeFunc f x y =>
  have hx:x.toList.map (ev t)=x.toList.map (ev t'):=List.map_congr_left fun z hz=>h z (by simp;exact Or.inl (by simpa using hz))
  have hy:y.toList.map (ev t)=y.toList.map (ev t'):=List.map_congr_left fun z hz=>h z (by simp;exact Or.inr (by simpa using hz))
  rw [hx,hy]
 case call c =>
  have ha:c.args.toList.map (ev t)=c.args.toList.map (ev t'):=List.map_congr_left fun z hz=>h z (by simp only [Call.operands];exact Array.mem_append.2 (Or.inr (by simpa using hz)))
  rw [ha]
  cases hc:c.callee with
  | value f =>
   have hf:ev t f=ev t' f:=h f (by simp [Call.operands,hc])
   simp only [hf]
  | invoke x y=>rfl
  | builtin b=>rfl
theorem names_congr {o:Oper} {t t':List SV} (h:∀ x ∈ o.op.operands,ev t x=ev t' x):opNames t o=opNames t' o:=by
 unfold opNames
 rw [List.map_congr_left fun z hz=>h z (by simpa using hz)]
theorem writes_congr {o:Oper} {t t':List SV} (h:∀ x ∈ o.op.operands,ev t x=ev t' x):opWrites t o=opWrites t' o:=by
 unfold opWrites
 cases hop:o.op<;>rw [hop] at h<;>simp only [Op.operands] at h<;>simp only
 case store ty x y=>rw [h x (by simp)]
 case call c =>
  cases hc:c.callee<;>(try simp only)<;>(try rfl)
  rename_i b
  cases b<;>(try simp only)
  cases hl:c.args.toList with
  | nil=>rfl
  | cons s l =>
   simp only
   rw [h s (by
    simp only [Call.operands]
    refine Array.mem_append.2 (Or.inr ?_)
    have:s ∈ c.args.toList:=by rw [hl];simp
    simpa using this)]
theorem hasN_iff {l:List Nat} {n:Nat}:hasN l n=true↔n ∈ l:=by
 induction l with
 | nil=>simp [hasN]
 | cons x l ih =>
  simp only [hasN,Bool.or_eq_true,ih,List.mem_cons]
  rw [show(Nat.beq x n=true)↔n=x by rw [Nat.beq_eq];exact eq_comm]
theorem maskF_get (V W:List Nat):∀ (m:Mem) (i b:Nat),(maskF V W i m)[b]? = (m[b]?).map (seen V W (i+b))
 | [],i,b=>by simp [maskF]
 | x :: m,i,0=>by simp [maskF]
 | x :: m,i,b+1=>by
  simp only [maskF,List.getElem?_cons_succ,maskF_get V W m (i+1) b]
  rw [show i+1+b=i+(b+1) by omega]
theorem mask_get (V W:List Nat) (m:Mem) (b:Nat):(mask V W m)[b]? = (m[b]?).map (seen V W b):=by
 unfold mask;rw [maskF_get,Nat.zero_add]
theorem maskF_len (V W:List Nat):∀ (m:Mem) (i:Nat),(maskF V W i m).length=m.length
 | [],i=>rfl
 | x :: m,i=>by simp [maskF,maskF_len V W m (i+1)]
theorem mask_len (V W:List Nat) (m:Mem):(mask V W m).length=m.length:=maskF_len V W m 0
theorem mergeF_get (U:List Nat):∀ (m m':Mem) (i b:Nat),(mergeF U i m m')[b]? = (m[b]?).map (fun x=>made U (i+b) x (m'[b]?))
 | [],m',i,b=>by simp [mergeF]
 | x :: m,[],i,0=>by simp [mergeF]
 | x :: m,[],i,b+1=>by
  simp only [mergeF,List.getElem?_cons_succ,mergeF_get U m [] (i+1) b]
  rw [show i+1+b=i+(b+1) by omega]
  simp
 | x :: m,y :: m',i,0=>by
  simp [mergeF]
 | x :: m,y :: m',i,b+1=>by
  simp only [mergeF,List.getElem?_cons_succ,mergeF_get U m m' (i+1) b]
  rw [show i+1+b=i+(b+1) by omega]
theorem merge_get (U:List Nat) (m m':Mem) (b:Nat):(merge U m m')[b]? = (m[b]?).map (fun x=>made U b x (m'[b]?)):=by
 unfold merge;rw [mergeF_get,Nat.zero_add]
theorem mergeF_len (U:List Nat):∀ (m m':Mem) (i:Nat),(mergeF U i m m').length=m.length
 | [],m',i=>rfl
 | x :: m,[],i=>by simp [mergeF,mergeF_len U m [] (i+1)]
 | x :: m,y :: m',i=>by simp [mergeF,mergeF_len U m m' (i+1)]
theorem merge_len (U:List Nat) (m m':Mem):(merge U m m').length=m.length:=mergeF_len U m m' 0
theorem mask_merge {V W U:List Nat} {m m':Mem} (h:∀ b,b ∈ U→b ∉ V∧b ∉ W):mask V W (merge U m m')=mask V W m:=by
 apply List.ext_getElem?
 intro b
 rw [mask_get,mask_get,merge_get]
 cases m[b]? with
 | none=>rfl
 | some x =>
  simp only [Option.map_some,Option.some.injEq]
  unfold made
  cases hU:hasN U b with
  | false=>rfl
  | true =>
   obtain⟨h1,h2⟩:=h b (hasN_iff.1 hU)
   have hV:hasN V b=false:=by
    cases e:hasN V b with
    | false=>rfl
    | true=>exact absurd (hasN_iff.1 e) h1
   have hW:hasN W b=false:=by
    cases e:hasN W b with
    | false=>rfl
    | true=>exact absurd (hasN_iff.1 e) h2
   simp only [seen,hV,hW,cond_false]
theorem merge_comm {U U':List Nat} {m m1 m2:Mem} (h:∀ b,b ∈ U→b ∉ U'):merge U (merge U' m m2) m1=merge U' (merge U m m1) m2:=by
 apply List.ext_getElem?
 intro b
 simp only [merge_get]
 cases m[b]? with
 | none=>rfl
 | some x =>
  simp only [Option.map_some,Option.some.injEq]
  unfold made
  cases hU:hasN U b with
  | false=>rfl
  | true =>
   have hU':hasN U' b=false:=by
    cases e:hasN U' b with
    | false=>rfl
    | true=>exact absurd (hasN_iff.1 e) (h b (hasN_iff.1 hU))
   simp only [hU',cond_false,cond_true]
end Go.Proofs.Ytgmkppeghnlcmaa.X
end
section
set_option linter.unusedVariables false
set_option linter.unusedSimpArgs false
namespace Go.Proofs.Ytgmkppeghnlcmaa.X
open Go Go.RowKit
set_option linter.unusedVariables false
set_option linter.unusedSimpArgs false
variable {P:Program} {B:Nat} {F:Nat→Prop} {G:Nat→Option Value} {m:Mem} {w:World} {C:RC} {R:Type} {r:R}
def Keeps (p:Nat) (m m':Mem):Prop:=m'.length=m.length∧∀ (b:Nat) k,m[b]? = some (some (false,k))→b≠p→m'[b]? = m[b]?
theorem Keeps.refl (p:Nat) (m:Mem):Keeps p m m:=⟨rfl,fun _ _ _ _=>rfl⟩
theorem Keeps.put (p:Nat) (m:Mem) (k:Blk):Keeps p m (memPut (some p) m k):=⟨by simp [memPut],fun b k h hb=>by simp only [memPut];rw [List.getElem?_set_ne (fun e=>hb e.symm)]⟩
theorem Keeps.set {p b:Nat} {m:Mem} {k:Blk} (x:Option (Bool × Blk)) (h:m[b]? = some (some (true,k))):Keeps p m (m.set b x):=⟨by simp,fun c k' hc hcp=>by
 by_cases e:b=c
 ·subst e;rw [h] at hc;cases hc
 ·rw [List.getElem?_set_ne e]⟩
theorem Keeps.trans {p:Nat} {a b c:Mem} (h:Keeps p a b) (k:Keeps p b c):Keeps p a c :=
 ⟨k.1.trans h.1,fun x y hx hp=>(k.2 x y ((h.2 x y hx hp).trans hx) hp).trans (h.2 x y hx hp)⟩
theorem stx_keeps {T:List TI} {p:Nat} {m m':Mem} {t:TypeId} {x y:SV} (h:stx T m t x y=some m'):Keeps p m m':=by
 unfold stx at h
 simp only at h
 split at h
 ·split at h
  ·split at h
   ·rename_i cs hb
    split at h
    ·obtain rfl:=Option.some.inj h
     exact Keeps.set _ hb
    ·cases h
   ·cases h
  ·split at h
   ·rename_i E K xs hb
    split at h
    ·split at h
     ·obtain rfl:=Option.some.inj h
      exact Keeps.set _ hb
     ·cases h
    ·cases h
   ·cases h
  ·cases h
 ·cases h
theorem bslx_keeps {T:List TI} {p:Nat} {m m':Mem} {t:TypeId} {len:Nat} {parts:List (Nat × SV)} {v:SV} (h:bslx T (some p) m t len parts (fun v m=>some (v,m))=some (v,m')):Keeps p m m':=by
 unfold bslx at h
 repeat' split at h
 all_goals first
  | (obtain⟨rfl,rfl⟩:=Prod.mk.inj (Option.some.inj h);exact Keeps.put _ _ _)
  | cases h
theorem give_keeps {p:Nat} {m m':Mem} {d:RD} {x:d.T} {v:SV} (h:(some ((d.give (some p) m x).1,(d.give (some p) m x).2):Option (SV × Mem))=some (v,m')):Keeps p m m':=by
 obtain⟨_,rfl⟩:=Prod.mk.inj (Option.some.inj h)
 cases d with
 | one d=>exact Keeps.refl _ _
 | many l=>exact Keeps.refl _ _
 | row E K=>exact Keeps.put _ _ _
theorem appx_keeps {T:List TI} {p:Nat} {m m':Mem} {t:TypeId} {x y:SV} {v:SV} (h:appx T (some p) m t x y (fun v m=>some (v,m))=some (v,m')):Keeps p m m':=by
 unfold appx at h
 split at h
 ·split at h
  ·split at h
   ·split at h
    ·split at h
     ·split at h
      ·obtain⟨_,h⟩:=of_cond' h
       obtain⟨rfl,rfl⟩:=Prod.mk.inj (Option.some.inj h)
       exact Keeps.put _ _ _
      ·cases h
     ·obtain⟨_,h⟩:=of_cond' h
      obtain⟨rfl,rfl⟩:=Prod.mk.inj (Option.some.inj h)
      exact Keeps.put _ _ _
     ·split at h
      ·rename_i hb
       split at h
       ·split at h
        ·obtain⟨_,h⟩:=of_cond' h
         obtain⟨rfl,rfl⟩:=Prod.mk.inj (Option.some.inj h)
         exact(Keeps.set _ hb).trans (Keeps.put _ _ _)
        ·cases h
       ·cases h
      ·cases h
     ·split at h
      ·split at h
       ·obtain⟨_,h⟩:=of_cond' h
        obtain⟨rfl,rfl⟩:=Prod.mk.inj (Option.some.inj h)
        exact Keeps.put _ _ _
       ·cases h
      ·cases h
     ·cases h
    ·cases h
   ·cases h
  ·cases h
 ·cases h
theorem nat_keeps {p:Nat} {m m':Mem} {v:SV} {F:(A:Type)→(SV→Option A)→Option A} (hn:∀ {r:SV × Mem},F _ (fun v=>some (v,m))=some r→∃ u,(some (u,m):Option (SV × Mem))=some r∧∀ (A:Type) (D:SV→Option A),F A D=D u)
  (h:F _ (fun v=>some (v,m))=some (v,m')):Keeps p m m':=by
 obtain⟨u,hu,_⟩:=hn h
 obtain⟨rfl,rfl⟩:=Prod.mk.inj (Option.some.inj hu)
 exact Keeps.refl _ _
theorem opx_keeps {X:Ctx} {fid:FuncId} {p:Nat} {o:Oper} {s:St} {v:SV} {m':Mem} (h:opx X none4 fid (some p) o s (fun v m=>some (v,m))=some (v,m')):Keeps p s.m m':=by
 have same:∀ {v':SV},(some (v',s.m):Option (SV × Mem))=some (v,m')→Keeps p s.m m':=fun h=>by
  obtain⟨rfl,rfl⟩:=Prod.mk.inj (Option.some.inj h)
  exact Keeps.refl _ _
 cases hop:o.op<;>simp only [opx,hop] at h<;>try cases h
 case move.refl x=>exact Keeps.refl _ _
 case assign.refl x=>exact Keeps.refl _ _
 case pick c x y =>
  cases hc:ev s.t c<;>rw [hc] at h<;>(try cases h)
  rename_i cv
  cases cv<;>(try cases h)
  rename_i b
  simp only at h
  split at h
  ·exact same h
  ·cases b<;>exact same h
 case alloc t =>
  cases hz:zeroCells X.T t with
  | none=>rw [hz] at h;cases h
  | some z=>rw [hz] at h;obtain⟨rfl,rfl⟩:=Prod.mk.inj (Option.some.inj h);exact Keeps.put _ _ _
 case box t x =>
  split at h
  ·obtain⟨rfl,rfl⟩:=Prod.mk.inj (Option.some.inj h);exact Keeps.put _ _ _
  ·cases h
 case build t parts =>
  cases hz:buildx X.T t (mapSV (ev s.t) parts.toList) with
  | none=>rw [hz] at h;cases h
  | some z=>rw [hz] at h;exact same h
 case buildSlice t n parts=>exact bslx_keeps h
 case nilCheck x =>
  split at h
  ·exact same h
  ·cases h
 case load t x =>
  cases hz:ldx X.T s.m t (ev s.t x) with
  | none=>rw [hz] at h;cases h
  | some z=>rw [hz] at h;exact same h
 case store t x y =>
  cases hz:stx X.T s.m t (ev s.t x) (ev s.t y) with
  | none=>rw [hz] at h;cases h
  | some z=>rw [hz] at h;obtain⟨rfl,rfl⟩:=Prod.mk.inj (Option.some.inj h);exact stx_keeps hz
 case binOp op t x y ty=>exact nat_keeps (F:=fun A D=>binx X.T op t (ev s.t x) (ev s.t y) D) (fun h=>binx_nat h) h
 case unOp op t x=>exact nat_keeps (F:=fun A D=>unx op (ev s.t x) D) (fun h=>unx_nat h) h
 case convert src dst x=>exact nat_keeps (F:=fun A D=>cvx X.T src dst (ev s.t x) D) (fun h=>cvx_nat h) h
 case slice t x lo hi mx=>exact nat_keeps (F:=fun A D=>slx X.T s.m t (ev s.t x) (lo.map (ev s.t)) (hi.map (ev s.t)) (mx.map (ev s.t)) D) (fun h=>slx_nat h) h
 case sliceToArrayPointer t x =>
  split at h
  ·exact same h
  ·cases h
 case fieldAddr t x f =>
  split at h
  ·split at h
   ·exact same h
   ·cases h
  ·cases h
 case field t x f =>
  split at h
  ·split at h
   ·exact same h
   ·cases h
  ·cases h
 case indexAddr t x i =>
  split at h
  ·exact nat_keeps (F:=fun A D=>iaddr X.T s.m t (ev s.t x) _ D) (fun h=>iaddr_nat h) h
  ·cases h
 case index t x i =>
  split at h
  ·exact nat_keeps (F:=fun A D=>ixx X.T t (ev s.t x) _ D) (fun h=>ixx_nat h) h
  ·cases h
 case extract t i =>
  split at h
  ·split at h
   ·exact same h
   ·cases h
  ·cases h
 case makeFunc.refl f x y=>exact Keeps.refl _ _
 case call c =>
  split at h
  ·unfold bix at h
   split at h
   ·split at h
    ·exact same h
    ·cases h
   ·split at h
    ·exact appx_keeps h
    ·cases h
   ·split at h
    ·exact same h
    ·cases h
   ·split at h
    ·exact same h
    ·cases h
   ·cases h
  ·split at h
   ·unfold callx at h
    split at h
    ·split at h
     ·obtain⟨y,hy,h,_⟩:=Fk.go_some h
      exact give_keeps h
     ·cases h
    ·unfold callx0 at h
     split at h
     ·split at h
      ·obtain⟨y,hy,h⟩:=Option.bind_eq_some_iff.1 h
       exact give_keeps h
      ·cases h
     ·split at h<;>cases h
   ·cases h
  ·cases h
end Go.Proofs.Ytgmkppeghnlcmaa.X
end
