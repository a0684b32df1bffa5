/- Lemmas of the rows, laid by a program. -/
import Derived.Test.YtgmkppeghnlcmaaZM6
section
set_option linter.unusedVariables false
set_option linter.unusedSimpArgs false
namespace Go.Proofs.Ytgmkppeghnlcmaa.X
open Go Go.Proofs Go.RowKit
set_option maxRecDepth 100000
noncomputable def cloList (X:Ctx) (f:FuncId) (fc:List SV) (m:Mem):Nat→Nat→Option (List SV)
  | _,0=>some []
  | k,n+1=>match callx X (callN X 20) f (.v (.int .i64 k) :: fc) none m (fun v _=>some v) with
    | some v=>match cloList X f fc m (k+1) n with
      | some ys=>some (v :: ys)
      | none=>none
    | none=>none
theorem cloList_ok {X:Ctx} {f:FuncId} {fc:List SV} {m:Mem}:∀ {n k:Nat} {ys:List SV},cloList X f fc m k n=some ys→ys.length=n∧∀ i,i<n→callx X (callN X 20) f (.v (.int .i64 (k+i:Nat)) :: fc) none m (fun v _=>some v)=ys[i]?:=by
 intro n
 induction n with
 | zero=>intro k ys h;simp only [cloList,Option.some.injEq] at h;subst h;exact⟨rfl,fun i hi=>absurd hi (by omega)⟩
 | succ n ih =>
  intro k ys h
  simp only [cloList] at h
  split at h
  ·rename_i v hv
   split at h
   ·rename_i ys' hys
    obtain rfl:=Option.some.inj h
    obtain⟨h1,h2⟩:=ih hys
    refine⟨by simp [h1],fun i hi=>?_⟩
    cases i with
    | zero=>simpa using hv
    | succ i =>
     have:=h2 i (by omega)
     rw [show k+1+i=k+(i+1) by omega] at this
     simpa using this
   ·cases h
  ·cases h
def liveB (m:Mem) (l:List Nat):Bool:=l.all fun b=>match m[b]? with|some (some _)=>true|_=>false
def bare (s:SV):Bool:=fixd s && light s && (names s).isEmpty
mutual
theorem bare_ex {C:RC}:∀ {s:SV},fixd s=true→names s=[]→∃ V,SRep C s V
  | .v x,_,_=>⟨x,by simp only [SRep]⟩
  | .agg l,h,hn=>by
    obtain⟨vs,hv⟩:=bares_ex (C:=C) (l:=l) (by simpa only [fixd] using h) (by simpa only [names] using hn)
    exact⟨.agg vs.toArray,by simp only [SRep];exact⟨_,rfl,hv⟩⟩
  | .tup l,h,_=>by simp only [fixd] at h;cases h
  | .ptr b o,_,hn=>by simp only [names] at hn;cases hn
  | .seq K xs,h,_=>by simp only [fixd] at h;cases h
  | .own b,_,hn=>by simp only [names] at hn;cases hn
  | .arr b o n c,_,hn=>by simp only [names] at hn;cases hn
  | .rptr K x o,h,_=>by simp only [fixd] at h;cases h
  | .eptr b sz i o,h,_=>by simp only [fixd] at h;cases h
  | .emp,h,_=>by simp only [fixd] at h;cases h
  | .fn f x y,h,_=>by simp only [fixd] at h;cases h
  | .junk,h,_=>by simp only [fixd] at h;cases h
theorem bares_ex {C:RC}:∀ {l:List SV},fixds l=true→namesL l=[]→∃ vs,SReps C l vs
  | [],_,_=>⟨[],by simp only [SReps]⟩
  | s :: l,h,hn=>by
    simp only [fixds,Bool.and_eq_true] at h
    simp only [namesL,List.append_eq_nil_iff] at hn
    obtain⟨v,hv⟩:=bare_ex (C:=C) h.1 hn.1
    obtain⟨vs,hvs⟩:=bares_ex (C:=C) h.2 hn.2
    exact⟨v :: vs,by simp only [SReps];exact⟨v,vs,rfl,hv,hvs⟩⟩
end
theorem bareL_ex {C:RC}:∀ {l:List SV},l.all bare=true→∃ vs,SReps C l vs:=by
 intro l
 induction l with
 | nil=>intro _;exact⟨[],by simp only [SReps]⟩
 | cons s l ih =>
  intro h
  simp only [List.all_cons,Bool.and_eq_true,bare,List.isEmpty_iff] at h
  obtain⟨v,hv⟩:=bare_ex (C:=C) h.1.1.1 h.1.2
  obtain⟨vs,hvs⟩:=ih (by simpa [bare] using h.2)
  exact⟨v :: vs,by simp only [SReps];exact⟨v,vs,rfl,hv,hvs⟩⟩
noncomputable def itEach (X:Ctx):List SV→Mem→Option (List SV × List Nat)
  | [.ptr bn 0,.ptr bf 0],m=>match (onlyM (reachx m 200 [bn,bf] []) m)[bn]?,(onlyM (reachx m 200 [bn,bf] []) m)[bf]? with
    | some (some (false,.cells [.v (.int .i64 n)])),some (some (false,.cells [.fn (.func f) [] fc])) =>
      if (decide (0≤n) && decide (n≤1024) && lights fc && liveB (onlyM (reachx m 200 [bn,bf] []) m) (namesL fc))=true then
        match cloList X f fc (onlyM (reachx m 200 [bn,bf] []) m) 0 n.toNat with
        | some ys=>if ys.all bare=true then some (ys,reachx m 200 [bn,bf] []) else none
        | none=>none
      else none
    | _,_=>none
  | _,_=>none
theorem itEach_ok {X:Ctx} {B:Nat} {F:Nat→Prop} {G:Nat→Option Value} {m:Mem} {w:World} {caps:List SV} {vals:List Value} {yl:List SV × List Nat} (hm:MInv B F G m w) (hcaps:SReps (rc F G m w) caps vals) (h:itEach X caps m=some yl) :
  ∃ (bn bf f n:Nat) (fc:List SV) (y:Nat→SV) (M:Nat→Mem) (Ys:List Value),caps=[.ptr bn 0,.ptr bf 0]∧n≤1024∧(onlyM yl.2 m)[bn]? = some (some (false,.cells [.v (.int .i64 n)]))∧(onlyM yl.2 m)[bf]? = some (some (false,.cells [.fn (.func f) [] fc]))∧lights fc=true∧(∀ b,b ∈ namesL fc→∃ V,G b=some V) ∧
   (∀ k,k<n→light (y k)=true∧fixd (y k)=true∧(∀ b,b ∈ names (y k)→∃ V,G b=some V)∧∀ K:SV→Mem→Option St,callx X (callN X 20) f (.v (.int .i64 k) :: fc) none (onlyM yl.2 m) K=K (y k) (M k))∧yl.1=(List.range n).map y∧SReps (rc F G m w) yl.1 Ys:=by
 unfold itEach at h
 split at h
 ·rename_i bn bf
  split at h
  ·rename_i n f fc hb hf
   split at h
   ·rename_i hc
    simp only [Bool.and_eq_true,decide_eq_true_eq] at hc
    obtain⟨⟨⟨h0,h1⟩,h2⟩,h3⟩:=hc
    split at h
    ·rename_i ys hys
     split at h
     ·rename_i hall
      obtain rfl:=Option.some.inj h
      obtain⟨hl,hcl2⟩:=cloList_ok hys
      have hn:n=(n.toNat:Int):=by omega
      obtain⟨Ys,hYs⟩:=bareL_ex (C:=rc F G m w) hall
      have one:∀ k,k<n.toNat→∃ Mk:Mem,∀ K:SV→Mem→Option St,callx X (callN X 20) f (.v (.int .i64 k) :: fc) none (onlyM (reachx m 200 [bn,bf] []) m) K=K ((ys[k]?).getD .junk) Mk:=by
       intro k hk
       have hk1:=hcl2 k hk
       rw [Nat.zero_add] at hk1
       have hk2:ys[k]? = some (ys[k]'(by omega)):=List.getElem?_eq_getElem (by omega)
       rw [hk2] at hk1
       obtain⟨v,q1,q2⟩:=callx_natr (callN_nat X 20) hk1
       refine⟨v.2,fun K=>?_⟩
       rw [hk2,Option.getD_some,←Option.some.inj q1]
       exact q2 St K
      refine⟨bn,bf,f,n.toNat,fc,fun k=>(ys[k]?).getD .junk,fun k=>open Classical in if hk:k<n.toNat then Classical.choose (one k hk) else [],Ys,rfl,by omega,by rw [←hn];exact hb,hf,h2,?_,?_,?_,hYs⟩
      ·intro b hb'
       have:=List.all_eq_true.1 h3 b hb'
       split at this
       ·rename_i x hx
        obtain⟨_,_,r1,hm1⟩:=only_of (r:=x.1) (k:=x.2) hx
        obtain⟨V,hV,_⟩:=hm.blk _ _ _ hm1
        exact⟨V,hV⟩
       ·cases this
      ·intro k hk
       have hk2:ys[k]? = some (ys[k]'(by omega)):=List.getElem?_eq_getElem (by omega)
       have hba:=List.all_eq_true.1 hall (ys[k]'(by omega)) (List.getElem_mem _)
       simp only [bare,Bool.and_eq_true,List.isEmpty_iff] at hba
       refine⟨by simp only [hk2,Option.getD_some];exact hba.1.2,by simp only [hk2,Option.getD_some];exact hba.1.1,by (simp only [hk2,Option.getD_some,hba.2];exact fun b hb'=>nomatch hb'),?_⟩
       simp only [hk,dif_pos]
       exact Classical.choose_spec (one k hk)
      ·apply List.ext_getElem?
       intro i
       rw [List.getElem?_map]
       rcases Nat.lt_or_ge i n.toNat with hi|hi
       ·rw [List.getElem?_range hi]
        have:ys[i]? = some (ys[i]'(by omega)):=List.getElem?_eq_getElem (by omega)
        simp [this]
       ·rw [List.getElem?_eq_none (show ys.length≤i by omega),List.getElem?_eq_none (by simp only [List.length_range];omega)]
        rfl
     ·cases h
    ·cases h
   ·cases h
  ·cases h
 ·cases h
theorem it80_ok {X:Ctx} (hX:XOk Try.prog X) (hT:X.T=tis):IterOk Try.prog 80 (itEach X) where
 enters:=⟨_,_,g80,by kernel_rfl,b80⟩
 gives:=fun B F G m w caps vals yl hm hcaps h=>by
  obtain⟨bn,bf,f,n,fc,y,M,Ys,rfl,h1,h2,h3,h4,h5,h6,h7,h8⟩:=itEach_ok hm hcaps h
  exact⟨Ys,h8,it80_core hX hT hm (by omega) h2 h3 h4 h5 h6 hcaps (h7▸h8)⟩
theorem it81_ok {X:Ctx} (hX:XOk Try.prog X) (hT:X.T=tis):IterOk Try.prog 81 (itEach X) where
 enters:=⟨_,_,g81,by kernel_rfl,b81⟩
 gives:=fun B F G m w caps vals yl hm hcaps h=>by
  obtain⟨bn,bf,f,n,fc,y,M,Ys,rfl,h1,h2,h3,h4,h5,h6,h7,h8⟩:=itEach_ok hm hcaps h
  exact⟨Ys,h8,it81_core hX hT hm (by omega) h2 h3 h4 h5 h6 hcaps (h7▸h8)⟩
end Go.Proofs.Ytgmkppeghnlcmaa.X
end
section
set_option linter.unusedVariables false
set_option linter.unusedSimpArgs false
namespace Go.Proofs.Ytgmkppeghnlcmaa.X
open Go Go.RowKit
set_option linter.unusedVariables false
set_option linter.unusedSimpArgs false
noncomputable abbrev nol:{R:Type}→Lps R:=fun _ _=>none
def tab:List (FuncId × Spec)→FuncId→Option Spec
  | [],_=>none
  | (g,s) :: l,f=>bif Nat.beq f g then some s else tab l f
def TabOk (P:Program):List (FuncId × Spec)→Prop
  | []=>True
  | (g,s) :: l=>SpecOk P g s∧TabOk P l
theorem tab_ok {P:Program}:∀ {l:List (FuncId × Spec)},TabOk P l→∀ f s,tab l f=some s→SpecOk P f s:=by
 intro l
 induction l with
 | nil=>intro _ f s h;cases h
 | cons x l ih =>
  obtain⟨g,t⟩:=x
  intro hl f s h
  simp only [tab] at h
  cases hb:Nat.beq f g with
  | true =>
   rw [hb] at h
   obtain rfl:=Option.some.inj h
   rw [Nat.eq_of_beq_eq_true hb]
   exact hl.1
  | false =>
   rw [hb] at h
   exact ih hl.2 f s h
theorem spec_run {P:Program} {X:Ctx} (hX:XOk P X) {f:FuncId} {A:List DS} {R:RD} {g:DsT A→R.T} (h:∀ x,fnx X nol f A R x=some (g x)) (hen:∃ fn c,X.fns f=some fn∧fn.body=some c):SpecOk P f ⟨A,R,fun x=>some (g x)⟩ :=
 fnx_ok hX (lps:=nol) (fun _ _ _ _ _ _ _ h=>nomatch h) (fun x r hr=>by rw [←hr];exact h x) hen
theorem spec_opt {P:Program} {X:Ctx} (hX:XOk P X) {f:FuncId} {A:List DS} {R:RD} {g:DsT A→Option R.T} (h:∀ x r,g x=some r→fnx X nol f A R x=some r) (hen:∃ fn c,X.fns f=some fn∧fn.body=some c):SpecOk P f ⟨A,R,g⟩ :=
 fnx_ok hX (lps:=nol) (fun _ _ _ _ _ _ _ h=>nomatch h) h hen
theorem SpecOk.get {P:Program} {f:FuncId} {A:List DS} {R:RD} {g g':DsT A→Option R.T} (h:SpecOk P f ⟨A,R,g⟩) (e:∀ x r,g' x=some r→g x=some r):SpecOk P f ⟨A,R,g'⟩ :=
 ⟨h.enters,fun Z w x vals r hZ ha hr=>h.calls Z w x vals r hZ ha (e x r hr)⟩
end Go.Proofs.Ytgmkppeghnlcmaa.X
end
