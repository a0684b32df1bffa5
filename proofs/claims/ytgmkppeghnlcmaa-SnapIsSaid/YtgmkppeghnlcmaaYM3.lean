/- Lemmas of the rows, laid by a program. -/
import Derived.Test.YtgmkppeghnlcmaaYM2
section
set_option linter.unusedVariables false
set_option linter.unusedSimpArgs false
namespace Go.Proofs.Ytgmkppeghnlcmaa.X
open Go Go.RowKit
set_option linter.unusedVariables false
set_option linter.unusedSimpArgs false
variable {P:Program} {B:Nat} {F:Nat→Prop} {G:Nat→Option Value} {m:Mem} {w:World} {C:RC} {R:Type} {r:R}
def hid (F:Nat→Prop) (G:Nat→Option Value) (m m1:Mem):Nat→Prop:=fun g=>F g∨∃ b r k V,m[b]? = some (some (r,k))∧(∀ y,m1[b]?≠some (some y))∧G b=some V∧blkOf V=some g
theorem mask_live {V W:List Nat} {b:Nat} {r0:Bool} {k:Blk} (h:(mask V W m)[b]? = some (some (r0,k))):∃ r1,m[b]? = some (some (r1,k))∧((b ∈ W∧r0=r1)∨(b ∉ W∧b ∈ V∧r0=false)):=by
 rw [mask_get] at h
 cases hb:m[b]? with
 | none=>rw [hb] at h;cases h
 | some x =>
  rw [hb] at h
  simp only [Option.map_some,Option.some.injEq] at h
  unfold seen at h
  cases hW:hasN W b with
  | true =>
   rw [hW] at h
   simp only [cond_true] at h
   subst h
   exact⟨r0,rfl,Or.inl ⟨hasN_iff.1 hW,rfl⟩⟩
  | false =>
   rw [hW] at h
   simp only [cond_false] at h
   have hW':b ∉ W:=fun e=>by rw [hasN_iff.2 e] at hW;cases hW
   cases hV:hasN V b with
   | false=>rw [hV] at h;cases h
   | true =>
    rw [hV] at h
    simp only [cond_true] at h
    cases x with
    | none=>cases h
    | some y =>
     obtain⟨r1,k1⟩:=y
     simp only [Option.some.injEq,Prod.mk.injEq] at h
     obtain⟨h1,rfl⟩:=h
     exact⟨r1,rfl,Or.inr ⟨hW',hasN_iff.1 hV,h1.symm⟩⟩
theorem mask_of {V W:List Nat} {b:Nat} {r1:Bool} {k:Blk} (h:m[b]? = some (some (r1,k))):(b ∈ W→(mask V W m)[b]? = some (some (r1,k)))∧(b ∉ W→b ∈ V→(mask V W m)[b]? = some (some (false,k)))∧(b ∉ W→b ∉ V→(mask V W m)[b]? = some none):=by
 rw [mask_get,h]
 simp only [Option.map_some]
 unfold seen
 refine⟨fun hW=>?_,fun hW hV=>?_,fun hW hV=>?_⟩
 ·rw [hasN_iff.2 hW];rfl
 ·have:hasN W b=false:=by
   cases e:hasN W b with
   | false=>rfl
   | true=>exact absurd (hasN_iff.1 e) hW
  rw [this,hasN_iff.2 hV];rfl
 ·have h1:hasN W b=false:=by
   cases e:hasN W b with
   | false=>rfl
   | true=>exact absurd (hasN_iff.1 e) hW
  have h2:hasN V b=false:=by
   cases e:hasN V b with
   | false=>rfl
   | true=>exact absurd (hasN_iff.1 e) hV
  rw [h1,h2];rfl
theorem bad_mask {V W:List Nat}:badOf (hid F G m (mask V W m)) G (mask V W m)=badOf F G m:=by
 funext g
 apply propext
 constructor
 ·rintro((hF|⟨b,r0,k,U,h1,h2,h3,h4⟩)|⟨b,r0,k,U,h1,h3,h4⟩)
  ·exact Or.inl hF
  ·exact Or.inr ⟨b,r0,k,U,h1,h3,h4⟩
  ·obtain⟨r1,h5,_⟩:=mask_live h1
   exact Or.inr ⟨b,r1,k,U,h5,h3,h4⟩
 ·rintro(hF|⟨b,r0,k,U,h1,h3,h4⟩)
  ·exact Or.inl (Or.inl hF)
  ·obtain⟨e1,e2,e3⟩:=mask_of (V:=V) (W:=W) h1
   by_cases hW:b ∈ W
   ·exact Or.inr ⟨b,r0,k,U,e1 hW,h3,h4⟩
   ·by_cases hV:b ∈ V
    ·exact Or.inr ⟨b,false,k,U,e2 hW hV,h3,h4⟩
    ·exact Or.inl (Or.inr ⟨b,r0,k,U,h1,fun y hy=>(by rw [e3 hW hV] at hy;cases hy),h3,h4⟩)
theorem mask_inv {V W:List Nat} (hm:MInv B F G m w):MInv B (hid F G m (mask V W m)) G (mask V W m) w where
 sz:=hm.sz
 fr:=by
  rintro g (hF|⟨b,r0,k,U,h1,h2,h3,h4⟩)
  ·exact hm.fr g hF
  ·exact(hm.ge _ _ _ _ _ h1 h3 h4).2
 fo:=by
  rintro b r0 k U g h1 h2 h3 (hF|⟨b',r',k',U',h4,h5,h6,h7⟩)
  ·obtain⟨r1,h8,_⟩:=mask_live h1
   exact hm.fo _ _ _ _ _ h8 h2 h3 hF
  ·obtain⟨r1,h8,_⟩:=mask_live h1
   have:=hm.inj _ _ _ _ _ _ _ _ _ h8 h4 h2 h6 h3 h7
   subst this
   exact h5 _ h1
 len:=fun b hb=>hm.len b (by rwa [mask_len] at hb)
 blk:=fun b r0 k h1=>by
  obtain⟨r1,h8,_⟩:=mask_live h1
  obtain⟨U,hU,hr⟩:=hm.blk _ _ _ h8
  exact⟨U,hU,by rw [rc,bad_mask];exact hr⟩
 inj:=fun b r0 k b' r' k' U U' g h1 h2 h3 h4 h5 h6=>by
  obtain⟨r1,h8,_⟩:=mask_live h1
  obtain⟨r2,h9,_⟩:=mask_live h2
  exact hm.inj _ _ _ _ _ _ _ _ _ h8 h9 h3 h4 h5 h6
 ge:=fun b r0 k U g h1 h2 h3=>by
  obtain⟨r1,h8,_⟩:=mask_live h1
  exact hm.ge _ _ _ _ _ h8 h2 h3
theorem merge_live {U:List Nat} {m':Mem} {b:Nat} {r0:Bool} {k:Blk} (h:(merge U m m')[b]? = some (some (r0,k))):(b ∈ U∧r0=true∧m'[b]? = some (some (true,k)))∨(b ∉ U∧m[b]? = some (some (r0,k))):=by
 rw [merge_get] at h
 cases hb:m[b]? with
 | none=>rw [hb] at h;cases h
 | some x =>
  rw [hb] at h
  simp only [Option.map_some,Option.some.injEq] at h
  unfold made at h
  cases hU:hasN U b with
  | true =>
   rw [hU] at h
   simp only [cond_true] at h
   split at h
   ·rename_i k' hk'
    obtain⟨rfl,rfl⟩:=Prod.mk.inj (Option.some.inj h)
    exact Or.inl ⟨hasN_iff.1 hU,rfl,hk'⟩
   ·cases h
  | false =>
   rw [hU] at h
   simp only [cond_false] at h
   subst h
   exact Or.inr ⟨fun e=>(by rw [hasN_iff.2 e] at hU;cases hU),rfl⟩
theorem unmask {V W:List Nat} {p:Nat} (hm:MInv B F G m w) (hp:G p=none) {G':Nat→Option Value} {m1:Mem} {w':World} (hk:Keeps p (mask V W m) m1)
  (h:After B (hid F G m (mask V W m)) G (mask V W m) w G' m1 w'):After B F G m w G' (merge (p :: W) m m1) w'∧(rc (hid F G m (mask V W m)) G' m1 w').Le (rc F G' (merge (p :: W) m m1) w'):=by
 have notp:∀ {b r0 k},m[b]? = some (some (r0,k))→b≠p:=fun {b r0 k} h1 e=>by
  obtain⟨U,hU,_⟩:=hm.blk _ _ _ h1
  rw [e,hp] at hU;cases hU
 have hwr:∀ g,wrOf G (mask V W m) g→∃ b k U,b ∈ W∧m[b]? = some (some (true,k))∧G b=some U∧blkOf U=some g:=by
  rintro g ⟨b,k,U,h1,h2,h3⟩
  obtain⟨r1,h8,h9|h9⟩:=mask_live h1
  ·obtain⟨hW,rfl⟩:=h9
   exact⟨b,k,U,hW,h8,h2,h3⟩
  ·cases h9.2.2
 have hbad:∀ g,badOf F G' (merge (p :: W) m m1) g→badOf (hid F G m (mask V W m)) G' m1 g:=by
  rintro g (hF|⟨b,r0,k,U,h1,h2,h3⟩)
  ·exact Or.inl (Or.inl hF)
  ·rcases merge_live h1 with ⟨hb,rfl,h4⟩|⟨hb,h4⟩
   ·exact Or.inr ⟨b,true,k,U,h4,h2,h3⟩
   ·have hW:b ∉ W:=fun e=>hb (List.mem_cons_of_mem _ e)
    obtain⟨e1,e2,e3⟩:=mask_of (V:=V) (W:=W) h4
    by_cases hV:b ∈ V
    ·have h5:=hk.2 b k (e2 hW hV) (notp h4)
     exact Or.inr ⟨b,false,k,U,h5.trans (e2 hW hV),h2,h3⟩
    ·obtain⟨U0,hU0,_⟩:=hm.blk _ _ _ h4
     have:=h.gext b U0 hU0
     rw [h2] at this
     obtain rfl:=Option.some.inj this
     exact Or.inl (Or.inr ⟨b,r0,k,U,h4,fun y hy=>(by rw [e3 hW hV] at hy;cases hy),hU0,h3⟩)
 have hle:(rc (hid F G m (mask V W m)) G' m1 w').Le (rc F G' (merge (p :: W) m m1) w'):=⟨fun _ _ h=>h,Nat.le_refl _,fun _ _ _=>rfl,fun g _ hn hn'=>hn (hbad g hn')⟩
 have old:∀ {b r0 k U},m[b]? = some (some (r0,k))→G' b=some U→G b=some U:=fun {b r0 k U} h1 h2=>by
  obtain⟨U0,hU0,_⟩:=hm.blk _ _ _ h1
  have:=h.gext b U0 hU0
  rw [h2] at this
  rw [hU0,Option.some.inj this]
 have heap:∀ {b r0 k U g},m[b]? = some (some (r0,k))→b ∉ W→G b=some U→blkOf U=some g→w'.heap[g]? = w.heap[g]?:=fun {b r0 k U g} h1 hW h2 h3=>by
  refine h.grow.block g (hm.ge _ _ _ _ _ h1 h2 h3).2 (fun hw=>?_)
  obtain⟨c,k',U',hc,h4,h5,h6⟩:=hwr g hw
  have:=hm.inj _ _ _ _ _ _ _ _ _ h1 h4 h2 h5 h3 h6
  subst this
  exact hW hc
 have hbm:∀ g,g<w.heap.size→¬badOf F G m g→¬badOf F G' (merge (p :: W) m m1) g:=fun g hg hn hn'=>by
  have h1:=hbad g hn'
  rw [←bad_mask (V:=V) (W:=W)] at hn
  exact h.hb g hg hn h1
 have hle2:(rc F G m w).Le (rc F G' (merge (p :: W) m m1) w'):=⟨h.gext,h.grow.size,fun g hg hn=>h.grow.block g hg (fun hw=>by
  obtain⟨c,k',U',hc,h4,h5,h6⟩:=hwr g hw
  exact hn (Or.inr ⟨c,true,k',U',h4,h5,h6⟩)),hbm⟩
 refine⟨⟨⟨Nat.le_trans hm.sz h.grow.size,fun g hF=>Nat.lt_of_lt_of_le (hm.fr g hF) h.grow.size,?_,?_,?_,?_,?_⟩,h.gext,?_,hbm,?_⟩,hle⟩
 ·intro b r0 k U g h1 h2 h3 hF
  rcases merge_live h1 with ⟨hb,rfl,h4⟩|⟨hb,h4⟩
  ·exact h.minv.fo _ _ _ _ _ h4 h2 h3 (Or.inl hF)
  ·exact hm.fo _ _ _ _ _ h4 (old h4 h2) h3 hF
 ·intro b hb
  rw [merge_len] at hb
  exact h.minv.len b (by rw [hk.1,mask_len];exact hb)
 ·intro b r0 k h1
  rcases merge_live h1 with ⟨hb,rfl,h4⟩|⟨hb,h4⟩
  ·obtain⟨U,hU,hr⟩:=h.minv.blk _ _ _ h4
   exact⟨U,hU,hr.le hle fun _ _=>rfl⟩
  ·obtain⟨U,hU,hr⟩:=hm.blk _ _ _ h4
   exact⟨U,h.gext b U hU,hr.le hle2 fun g hg=>heap h4 (fun e=>hb (List.mem_cons_of_mem _ e)) hU hg⟩
 ·intro b r0 k b' r' k' U U' g h1 h2 h3 h4 h5 h6
  have mixed:∀ {b b' k k' r' U U'},m1[b]? = some (some (true,k))→b' ∉ p :: W→m[b']? = some (some (r',k'))→G' b=some U→G' b'=some U'→blkOf U=some g→blkOf U'=some g→False:=by
   intro b b' k k' r' U U' e1 e2 e3 e4 e5 e6 e7
   have e8:=old e3 e5
   have hlt:=(hm.ge _ _ _ _ _ e3 e8 e7).2
   obtain⟨c,kc,Uc,hc,f1,f2,f3⟩:=hwr g (h.ws g hlt ⟨b,k,U,e1,e4,e6⟩)
   have:=hm.inj _ _ _ _ _ _ _ _ _ e3 f1 e8 f2 e7 f3
   subst this
   exact e2 (List.mem_cons_of_mem _ hc)
  rcases merge_live h1 with ⟨hb,rfl,e1⟩|⟨hb,e1⟩<;>rcases merge_live h2 with ⟨hb',rfl,e2⟩|⟨hb',e2⟩
  ·exact h.minv.inj _ _ _ _ _ _ _ _ _ e1 e2 h3 h4 h5 h6
  ·exact(mixed e1 hb' e2 h3 h4 h5 h6).elim
  ·exact(mixed e2 hb e1 h4 h3 h6 h5).elim
  ·exact hm.inj _ _ _ _ _ _ _ _ _ e1 e2 (old e1 h3) (old e2 h4) h5 h6
 ·intro b r0 k U g h1 h2 h3
  rcases merge_live h1 with ⟨hb,rfl,h4⟩|⟨hb,h4⟩
  ·exact h.minv.ge _ _ _ _ _ h4 h2 h3
  ·have:=hm.ge _ _ _ _ _ h4 (old h4 h2) h3
   exact⟨this.1,Nat.lt_of_lt_of_le this.2 h.grow.size⟩
 ·refine⟨h.grow.os,h.grow.tape,h.grow.output,h.grow.size,fun g hg hn=>h.grow.block g hg (fun hw=>hn ?_)⟩
  obtain⟨c,k',U',hc,h4,h5,h6⟩:=hwr g hw
  exact⟨c,k',U',h4,h5,h6⟩
 ·rintro g hg ⟨b,k,U,h1,h2,h3⟩
  rcases merge_live h1 with ⟨hb,_,h4⟩|⟨hb,h4⟩
  ·obtain⟨c,k',U',hc,f1,f2,f3⟩:=hwr g (h.ws g hg ⟨b,k,U,h4,h2,h3⟩)
   exact⟨c,k',U',f1,f2,f3⟩
  ·exact⟨b,k,U,h4,old h4 h2,h3⟩
end Go.Proofs.Ytgmkppeghnlcmaa.X
end
section
set_option linter.unusedVariables false
set_option linter.unusedSimpArgs false
namespace Go.Proofs.Ytgmkppeghnlcmaa.X
open Go Go.RowKit
set_option linter.unusedVariables false
set_option linter.unusedSimpArgs false
variable {P:Program} {B:Nat} {F:Nat→Prop} {G:Nat→Option Value} {m:Mem} {w:World} {C:RC} {R:Type} {r:R}
def guardOn (ops:Array Oper) (o:Oper) (t:List SV):Prop:=match o.guard with
  | none=>True
  | some (j,want)=>∃ d,(ops[j]?).bind (·.dst)=some d∧getT t d=.v (.bool want)
def guardOff (ops:Array Oper) (o:Oper) (t:List SV):Prop:=match o.guard with
  | none=>False
  | some (j,want)=>∃ d,(ops[j]?).bind (·.dst)=some d∧(getT t d=.v (.bool (!want))∨∃ x,getT t d=.v (.tuple x))
def Act1 (X:Ctx) (fid:FuncId) (ops:Array Oper) (base:Nat) (V W:Nat→List Nat) (i:Nat) (s s':St):Prop:=∃ o,ops[i]? = some o ∧
  ((guardOn ops o s.t∧opNames s.t o=V i∧opWrites s.t o=W i∧∃ v m',opx X none4 fid (some (base+i)) o ⟨s.t,mask (V i) (W i) s.m⟩ (fun v m=>some (v,m))=some (v,m')∧s'=⟨putT s.t o.dst v,merge ((base+i) :: W i) s.m m'⟩) ∨
   (guardOff ops o s.t∧s'=⟨putT s.t o.dst (.v undef),s.m⟩))
theorem guard_not {ops:Array Oper} {o:Oper} {t:List SV} (h:guardOn ops o t) (h':guardOff ops o t):False:=by
 unfold guardOn at h
 unfold guardOff at h'
 split at h
 ·rename_i e;simp [e] at h'
 ·rename_i j want e
  simp only [e] at h'
  obtain⟨d,h1,h2⟩:=h
  obtain⟨d',h3,h4⟩:=h'
  rw [h1] at h3
  obtain rfl:=Option.some.inj h3
  rw [h2] at h4
  rcases h4 with h4|⟨x,h4⟩
  ·cases want<;>simp at h4
  ·simp at h4
theorem Act1.det {X:Ctx} {fid:FuncId} {ops:Array Oper} {base:Nat} {V W:Nat→List Nat} (i:Nat) (s a b:St) (h:Act1 X fid ops base V W i s a) (h':Act1 X fid ops base V W i s b):a=b:=by
 obtain⟨o,ho,h⟩:=h
 obtain⟨o',ho',h'⟩:=h'
 rw [ho] at ho'
 obtain rfl:=Option.some.inj ho'
 rcases h with ⟨g,_,_,v,m',e,rfl⟩|⟨g,rfl⟩<;>rcases h' with ⟨g',_,_,v',m2,e',rfl⟩|⟨g',rfl⟩
 ·rw [e] at e'
  obtain⟨rfl,rfl⟩:=Prod.mk.inj (Option.some.inj e')
  rfl
 ·exact(guard_not g g').elim
 ·exact(guard_not g' g).elim
 ·rfl
theorem getT_put {t:List SV} {d:Option Nat} {v:SV} {n:Nat} (h:d≠some n):getT (putT t d v) n=getT t n:=by
 cases d with
 | none=>rfl
 | some d =>
  rw [getT_some,getT_some]
  simp only [putT]
  rw [List.getElem?_set_ne (fun e=>h (by rw [e]))]
theorem ev_put {t:List SV} {d:Option Nat} {v:SV} {x:Operand} (h:∀ n,d=some n→x≠.tmp n):ev (putT t d v) x=ev t x:=by
 cases x with
 | tmp n=>exact getT_put (fun e=>h n e rfl)
 | const v=>rfl
 | global g=>rfl
 | func f=>rfl
theorem evs_put {ops:Array Oper} {o:Oper} {t:List SV} {d:Option Nat} {v:SV} (h:∀ n,d=some n→n ∉ o.looksAt ops):∀ x ∈ o.op.operands,ev (putT t d v) x=ev t x:=by
 intro x hx
 refine ev_put fun n hn e=>h n hn ?_
 subst e
 exact List.mem_append_left _ (List.mem_filterMap.2 ⟨.tmp n,by simpa using hx,rfl⟩)
theorem looks_guard {ops:Array Oper} {o:Oper} {j d:Nat} {want:Bool} (hg:o.guard=some (j,want)) (hd:(ops[j]?).bind (·.dst)=some d):d ∈ o.looksAt ops:=by
 unfold Oper.looksAt
 refine List.mem_append_right _ ?_
 rw [hg]
 simp only [hd]
 simp
theorem on_put {ops:Array Oper} {o:Oper} {t:List SV} {d:Option Nat} {v:SV} (h:∀ n,d=some n→n ∉ o.looksAt ops):(guardOn ops o (putT t d v)↔guardOn ops o t)∧(guardOff ops o (putT t d v)↔guardOff ops o t):=by
 unfold guardOn guardOff
 cases hg:o.guard with
 | none=>simp
 | some x =>
  obtain⟨j,want⟩:=x
  simp only
  constructor
  ·refine⟨fun ⟨e,h1,h2⟩=>⟨e,h1,?_⟩,fun ⟨e,h1,h2⟩=>⟨e,h1,?_⟩⟩
   ·rwa [getT_put (fun e'=>h e e' (looks_guard hg h1))] at h2
   ·rwa [getT_put (fun e'=>h e e' (looks_guard hg h1))]
  ·refine⟨fun ⟨e,h1,h2⟩=>⟨e,h1,?_⟩,fun ⟨e,h1,h2⟩=>⟨e,h1,?_⟩⟩
   ·rwa [getT_put (fun e'=>h e e' (looks_guard hg h1))] at h2
   ·rwa [getT_put (fun e'=>h e e' (looks_guard hg h1))]
theorem putT_comm {t:List SV} {d e:Option Nat} {u v:SV} (h:∀ n,d=some n→e≠some n):putT (putT t d u) e v=putT (putT t e v) d u:=by
 cases d with
 | none=>rfl
 | some d =>
  cases e with
  | none=>rfl
  | some e =>
   simp only [putT]
   exact List.set_comm _ _ (fun e'=>h d rfl (by rw [e']))
structure Apart (ops:Array Oper) (base:Nat) (V W:Nat→List Nat) (i j:Nat):Prop where
  ap:∀ o o',ops[i]? = some o→ops[j]? = some o'→o.apart ops o'=true
  ij:∀ b,b ∈ (base+i) :: W i→b ∉ V j∧b ∉ W j
  ji:∀ b,b ∈ (base+j) :: W j→b ∉ V i∧b ∉ W i
  uu:∀ b,b ∈ (base+i) :: W i→b ∉ (base+j) :: W j
theorem Act1.comm {X:Ctx} {fid:FuncId} {ops:Array Oper} {base:Nat} {V W:Nat→List Nat} {i j:Nat} (hA:Apart ops base V W i j) (s a b:St) (h:Act1 X fid ops base V W i s a) (h':Act1 X fid ops base V W j a b) :
  ∃ a',Act1 X fid ops base V W j s a'∧Act1 X fid ops base V W i a' b:=by
 obtain⟨o,ho,h⟩:=h
 obtain⟨o',ho',h'⟩:=h'
 obtain⟨p1,p2,p3⟩:=Oper.apart_spec (hA.ap o o' ho ho')
 have swap:∀ u v,putT (putT s.t o.dst u) o'.dst v=putT (putT s.t o'.dst v) o.dst u:=fun u v=>putT_comm p2
 rcases h with ⟨g,hV,hW,v,m1,e,rfl⟩|⟨g,rfl⟩<;>rcases h' with ⟨g',hV',hW',v',m2,e',rfl⟩|⟨g',rfl⟩
 ·have e1:=evs_put (ops:=ops) (o:=o') (t:=s.t) (v:=v) p1
  have e2:=evs_put (ops:=ops) (o:=o) (t:=s.t) (v:=v') p3
  refine⟨⟨putT s.t o'.dst v',merge ((base+j) :: W j) s.m m2⟩,⟨o',ho',Or.inl ⟨(on_put p1).1.1 g',by rw [←hV',names_congr e1],by rw [←hW',writes_congr e1],v',m2,?_,rfl⟩⟩,⟨o,ho,Or.inl ⟨(on_put p3).1.2 g,by rw [names_congr e2,hV],by rw [writes_congr e2,hW],v,m1,?_,?_⟩⟩⟩
  ·simp only at e'
   rw [opx_congr _ e1,mask_merge hA.ij] at e'
   exact e'
  ·simp only
   rw [opx_congr _ e2,mask_merge hA.ji]
   exact e
  ·simp only [St.mk.injEq]
   exact⟨swap v v',merge_comm (fun b hb hb'=>hA.uu b hb' hb)⟩
 ·have e2:=evs_put (ops:=ops) (o:=o) (t:=s.t) (v:=.v undef) p3
  refine⟨⟨putT s.t o'.dst (.v undef),s.m⟩,⟨o',ho',Or.inr ⟨(on_put p1).2.1 g',rfl⟩⟩,⟨o,ho,Or.inl ⟨(on_put p3).1.2 g,by rw [names_congr e2,hV],by rw [writes_congr e2,hW],v,m1,?_,?_⟩⟩⟩
  ·simp only
   rw [opx_congr _ e2]
   exact e
  ·simp only [St.mk.injEq]
   exact⟨swap v (.v undef),trivial⟩
 ·have e1:=evs_put (ops:=ops) (o:=o') (t:=s.t) (v:=.v undef) p1
  refine⟨⟨putT s.t o'.dst v',merge ((base+j) :: W j) s.m m2⟩,⟨o',ho',Or.inl ⟨(on_put p1).1.1 g',by rw [←hV',names_congr e1],by rw [←hW',writes_congr e1],v',m2,?_,rfl⟩⟩,⟨o,ho,Or.inr ⟨(on_put p3).2.2 g,?_⟩⟩⟩
  ·simp only at e'
   rw [opx_congr _ e1] at e'
   exact e'
  ·simp only [St.mk.injEq]
   exact⟨swap (.v undef) v',trivial⟩
 ·refine⟨⟨putT s.t o'.dst (.v undef),s.m⟩,⟨o',ho',Or.inr ⟨(on_put p1).2.1 g',rfl⟩⟩,⟨o,ho,Or.inr ⟨(on_put p3).2.2 g,?_⟩⟩⟩
  simp only [St.mk.injEq]
  exact⟨swap (.v undef) (.v undef),trivial⟩
theorem none4_ok (P:Program):RecOk P (none4 (R:=R)):=fun _ _ _ _ _ h=>by cases h
theorem act_ok {ro:Option Nat} {nd:Nat} {X:Ctx} (hX:XOk P X) {fid:FuncId} {ops:Array Oper} {base:Nat} {V W:Nat→List Nat} {i:Nat} {s s':St} (h:Act1 X fid ops base V W i s s') {a:Act} {Q:Exit→Act→World→Prop} {next:Act→World→Prop}
  (hm:MInv B F G s.m w) (hf:base+i<s.m.length) (hfree:G (base+i)=none) (ht:SReps (rc F G s.m w) s.t a.tmps.toList)
  (hn:∀ (a':Act) w' G',After B F G s.m w G' s'.m w'→SReps (rc F G' s'.m w') s'.t a'.tmps.toList→a'.defers=a.defers→(∀ b,b≠base+i→G b=none→G' b=none)→next a' w'):wpOpIn (FW ro) nd P ops Q i next a w:=by
 obtain⟨o,ho,h⟩:=h
 unfold wpOpIn
 rw [ho]
 simp only
 rcases h with ⟨g,hV,hW,v,m',e,rfl⟩|⟨g,rfl⟩
 ·have hw:Region.wanted o (yielded ops a.tmps)=true:=by
   unfold guardOn at g
   unfold Region.wanted
   cases hg:o.guard with
   | none=>rfl
   | some x =>
    obtain⟨j,want⟩:=x
    rw [hg] at g
    obtain⟨d,h1,h2⟩:=g
    have hb:=getT_bool ht h2
    simp [yielded,h1,hb]
  rw [if_pos hw]
  have hmk:=mask_inv (V:=V i) (W:=W i) hm
  have ht':SReps (rc (hid F G s.m (mask (V i) (W i) s.m)) G (mask (V i) (W i) s.m) w) s.t a.tmps.toList:=by
   rw [rc,bad_mask];exact ht
  have hkeep:=opx_keeps e
  refine opx_ok (s:=⟨s.t,mask (V i) (W i) s.m⟩) (p:=some (base+i)) hX (none4_ok P) hmk ⟨by rw [mask_len];exact hf,hfree⟩ ht' e next Q fun v2 m2 U w' G' haf hv hk hg=>?_
  obtain⟨rfl,rfl⟩:=Prod.mk.inj (Option.some.inj hk)
  obtain⟨haf',hle⟩:=unmask hm hfree hkeep haf
  refine hn _ _ G' haf' (put_rep (ht.le haf'.le) (hv.le hle) o.dst) (put_defers _ _ _) (fun b hb hGb=>?_)
  rcases hg with hg|⟨f,as,K',h⟩
  ·rw [hg b hb];exact hGb
  ·cases h
 ·have hw:Region.wanted o (yielded ops a.tmps)=false:=by
   unfold guardOff at g
   unfold Region.wanted
   cases hg:o.guard with
   | none=>rw [hg] at g;exact g.elim
   | some x =>
    obtain⟨j,want⟩:=x
    rw [hg] at g
    obtain⟨d,h1,h2|⟨x,h2⟩⟩:=g
    ·have hb:=getT_bool ht h2
     cases want<;>simp [yielded,h1,hb]
    ·have hb:=getT_tuple ht h2
     simp [yielded,h1,hb]
  rw [if_neg (by rw [hw];simp)]
  exact⟨fun _ _=>trivial,hn _ _ G (After.refl hm) (put_rep ht (by simp only [SRep]) o.dst) (put_defers _ _ _) (fun _ _ h=>h)⟩
end Go.Proofs.Ytgmkppeghnlcmaa.X
end
section
set_option linter.unusedVariables false
set_option linter.unusedSimpArgs false
namespace Go.Proofs.Ytgmkppeghnlcmaa.X
open Go Go.RowKit
set_option linter.unusedVariables false
set_option linter.unusedSimpArgs false
variable {P:Program} {B:Nat} {F:Nat→Prop} {G:Nat→Option Value} {m:Mem} {w:World} {C:RC} {R:Type} {r:R}
def Closed (ops:Array Oper) (D:Nat→Bool):Prop:=∀ j o,D j=true→ops[j]? = some o→∀ e ∈ o.after,Region.binds .any e=true→D e.on=true
theorem fold_bits {acc:List Nat} {i:Nat}:∀ {l:List Edge} {s:Nat},(l.foldl (fun s e=>if Region.binds .any e=true then s ||| (1 <<< e.on) ||| acc.getD e.on 0 else s) s).testBit i=true →
  s.testBit i=true∨∃ e ∈ l,Region.binds .any e=true∧(i=e.on∨(acc.getD e.on 0).testBit i=true):=by
 intro l
 induction l with
 | nil=>intro s h;exact Or.inl h
 | cons e l ih =>
  intro s h
  simp only [List.foldl_cons] at h
  rcases ih h with h1|⟨e',he',h2⟩
  ·by_cases hb:Region.binds .any e=true
   ·rw [if_pos hb,Nat.testBit_or,Nat.testBit_or,Bool.or_eq_true,Bool.or_eq_true] at h1
    rcases h1 with (h1|h1)|h1
    ·exact Or.inl h1
    ·refine Or.inr ⟨e,by simp,hb,Or.inl ?_⟩
     rw [Nat.one_shiftLeft,Nat.testBit_two_pow] at h1
     simpa using (of_decide_eq_true h1).symm
    ·exact Or.inr ⟨e,by simp,hb,Or.inr h1⟩
   ·rw [if_neg hb] at h1;exact Or.inl h1
  ·exact Or.inr ⟨e',by simp [he'],h2⟩
def BitsOk (ops:Array Oper) (acc:List Nat):Prop:=∀ j i,(acc.getD j 0).testBit i=true→∀ o,ops[j]? = some o→∀ D,Closed ops D→(∀ e ∈ o.after,Region.binds .any e=true→D e.on=true)→D i=true
theorem bitsL_ok {ops:Array Oper}:∀ {l:List Oper} {acc:List Nat},ops.toList.drop acc.length=l→BitsOk ops acc→BitsOk ops (bitsL l acc):=by
 intro l
 induction l with
 | nil=>intro acc _ h;exact h
 | cons o l ih =>
  intro acc hl h
  simp only [bitsL]
  have hoi:ops[acc.length]? = some o:=by
   have:(ops.toList.drop acc.length)[0]? = some o:=by rw [hl];rfl
   simpa using this
  refine ih ?_ ?_
  ·have:=congrArg List.tail hl
   simpa [List.tail_drop] using this
  ·intro j i hb o' ho' D hD he
   rcases Nat.lt_trichotomy j acc.length with hj|hj|hj
   ·rw [List.getD_eq_getElem?_getD,List.getElem?_append_left hj] at hb
    exact h j i (by rw [List.getD_eq_getElem?_getD];exact hb) o' ho' D hD he
   ·subst hj
    rw [hoi] at ho'
    obtain rfl:=Option.some.inj ho'
    rw [List.getD_eq_getElem?_getD,List.getElem?_append_right (Nat.le_refl _)] at hb
    simp only [Nat.sub_self,List.getElem?_cons_zero,Option.getD_some] at hb
    unfold bitsOf at hb
    rcases fold_bits hb with h1|⟨e,he1,hbi,h1⟩
    ·simp at h1
    ·have hin:e ∈ o.after:=by simpa using he1
     have hDe:=he e hin hbi
     rcases h1 with rfl|h1
     ·exact hDe
     ·cases hoe:ops[e.on]? with
      | none =>
       have hge:acc.length≤e.on:=by
        rcases Nat.lt_or_ge e.on acc.length with h2|h2
        ·have h3:ops.size≤e.on:=by simpa using hoe
         have h4:acc.length<ops.size:=(Array.getElem?_eq_some_iff.1 hoi).1
         omega
        ·exact h2
       rw [List.getD_eq_getElem?_getD,List.getElem?_eq_none hge] at h1
       simp at h1
      | some oe=>exact h e.on i h1 oe hoe D hD (fun e' he' hb'=>hD e.on oe hDe hoe e' he' hb')
   ·rw [List.getD_eq_getElem?_getD,List.getElem?_eq_none (by simp;omega)] at hb
    simp at hb
theorem backOk_at:∀ {l:List Oper} {k:Nat},backOk l k=true→∀ {i:Nat} {o:Oper},l[i]? = some o→∀ e ∈ o.after,Region.binds .any e=true→e.on<k+i:=by
 intro l
 induction l with
 | nil=>intro k _ i o h;simp at h
 | cons x l ih =>
  intro k h i o hi e he hb
  simp only [backOk,Bool.and_eq_true,List.all_eq_true] at h
  cases i with
  | zero =>
   simp at hi
   subst hi
   have:=h.1 e (by simpa using he)
   simpa [hb] using this
  | succ i =>
   simp at hi
   have:=ih h.2 hi e he hb
   omega
theorem set_same:∀ {t:List SV} {d:Nat} {s:SV},getT t d=s→s≠.junk→t.set d s=t:=by
 intro t d s h hs
 apply List.ext_getElem?
 intro i
 rw [List.getElem?_set]
 split
 ·rename_i e
  subst e
  rw [getT_some] at h
  cases ht:t[d]? with
  | none=>rw [ht] at h;exact absurd h.symm hs
  | some x =>
   rw [ht] at h
   simp only [Option.getD_some] at h
   subst h
   have hlt:=(List.getElem?_eq_some_iff.1 ht).1
   simp [hlt]
 ·rfl
theorem opd_act {X:Ctx} {fid:FuncId} {ops:Array Oper} {base i:Nat} {o:Oper} {s:St} {K:List Nat→List Nat→St→Option R} (ho:ops[i]? = some o) (h:opd X fid (base+i) ops o s K=some r) :
  ∃ V W s',K V W s'=some r∧∀ VV WW:Nat→List Nat,VV i=V→WW i=W→Act1 X fid ops base VV WW i s s':=by
 unfold opd at h
 split at h
 ·rename_i hg
  obtain⟨v,hk,hD⟩:=opx_nat h
  refine⟨_,_,_,hk,fun VV WW hV hW=>⟨o,ho,Or.inl ⟨by simp [guardOn,hg],hV.symm,hW.symm,v.1,v.2,?_,by rw [hW]⟩⟩⟩
  rw [hV,hW]
  exact hD _ _
 ·rename_i j want hg
  split at h
  ·rename_i d hd
   split at h
   ·rename_i c hc
    cases hcw:eqB c want with
    | true =>
     rw [hcw] at h
     simp only [cond_true] at h
     have e:c=want:=by cases c<;>cases want<;>first|rfl|cases hcw
     subst e
     rw [set_same hc (by simp)] at h
     obtain⟨v,hk,hD⟩:=opx_nat h
     refine⟨_,_,_,hk,fun VV WW hV hW=>⟨o,ho,Or.inl ⟨by simp only [guardOn,hg];exact⟨d,hd,hc⟩,hV.symm,hW.symm,v.1,v.2,?_,by rw [hW]⟩⟩⟩
     rw [hV,hW]
     exact hD _ _
    | false =>
     rw [hcw] at h
     simp only [cond_false] at h
     have e:c=!want:=by cases c<;>cases want<;>first|rfl|cases hcw
     subst e
     rw [set_same hc (by simp)] at h
     exact⟨_,_,_,h,fun VV WW hV hW=>⟨o,ho,Or.inr ⟨by simp only [guardOff,hg];exact⟨d,hd,Or.inl hc⟩,rfl⟩⟩⟩
   ·rename_i x hc
    exact⟨_,_,_,h,fun VV WW hV hW=>⟨o,ho,Or.inr ⟨by simp only [guardOff,hg];exact⟨d,hd,Or.inr ⟨x,hc⟩⟩,rfl⟩⟩⟩
   ·cases h
  ·cases h
theorem drawGo_chain {X:Ctx} {fid:FuncId} {ops:Array Oper} {base:Nat}:∀ {l:List Oper} {i:Nat} {ds:List Dr} {s:St} {K:List Dr→St→Option R},ops.toList.drop i=l→drawGo X fid ops base i l ds s K=some r →
  ∃ (new:List Dr) (s':St),K (ds++new) s'=some r∧new.length=l.length∧(∀ (k:Nat) d,new[k]? = some d→d.i=i+k) ∧
   ∀ V W:Nat→List Nat,(∀ (k:Nat) d,new[k]? = some d→V (i+k)=d.V∧W (i+k)=d.W)→Chain (Act1 X fid ops base V W) (List.range' i l.length) s s':=by
 intro l
 induction l with
 | nil =>
  intro i ds s K _ h
  simp only [drawGo] at h
  exact⟨[],s,by simpa using h,rfl,by simp,fun V W _=>rfl⟩
 | cons o l ih =>
  intro i ds s K hl h
  have hoi:ops[i]? = some o:=by
   have:(ops.toList.drop i)[0]? = some o:=by rw [hl];rfl
   simpa using this
  simp only [drawGo] at h
  obtain⟨V0,W0,s1,hk,hact⟩:=opd_act hoi h
  obtain⟨new,s',h1,h2,h3,h4⟩:=ih (by have:=congrArg List.tail hl;simpa [List.tail_drop] using this) hk
  refine⟨⟨i,V0,W0⟩ :: new,s',by simpa using h1,by simp [h2],fun k d hd=>?_,fun V W hVW=>?_⟩
  ·cases k with
   | zero=>simp at hd;subst hd;rfl
   | succ k=>simp at hd;have:=h3 k d hd;omega
  ·simp only [List.length_cons,List.range'_succ]
   have h0:=hVW 0 ⟨i,V0,W0⟩ rfl
   refine⟨s1,hact V W h0.1 h0.2,h4 V W fun k d hd=>?_⟩
   have:=hVW (k+1) d (by simpa using hd)
   rw [show i+1+k=i+(k+1) by omega]
   exact this
theorem disj_iff {a b:List Nat} (h:disj a b=true):∀ x,x ∈ a→x ∉ b:=by
 intro x hx hb
 unfold disj at h
 rw [List.all_eq_true] at h
 have:=h x hx
 rw [hasN_iff.2 hb] at this
 cases this
theorem apart_of {ops:Array Oper} {base:Nat} {ds:List Dr} {V W:Nat→List Nat} (h:drawsOk ops base ds=true) (hds:∀ i d,ds[i]? = some d→d.i=i∧V i=d.V∧W i=d.W) (hl:ds.length=ops.size) {i j:Nat} (hij:i<j) (hj:j<ops.size)
  {D:Nat→Bool} (hD:Closed ops D) (hi:D i=false) (hjr:∀ o,ops[j]? = some o→∀ e ∈ o.after,Region.binds .any e=true→D e.on=true):Apart ops base V W i j:=by
 unfold drawsOk at h
 simp only [Bool.and_eq_true,List.all_eq_true] at h
 obtain⟨hb,h⟩:=h
 obtain⟨x,hx⟩:∃ x,ds[i]? = some x:=⟨ds[i]'(by omega),by simp [show i<ds.length by omega]⟩
 obtain⟨y,hy⟩:∃ y,ds[j]? = some y:=⟨ds[j]'(by omega),by simp [show j<ds.length by omega]⟩
 obtain⟨ex,vx,wx⟩:=hds i x hx
 obtain⟨ey,vy,wy⟩:=hds j y hy
 have hm:=h y (List.mem_of_getElem? hy) x (List.mem_of_getElem? hx)
 unfold meetOk at hm
 rw [ex,ey,decide_eq_true hij] at hm
 simp only [Bool.true_and,Bool.not_true,Bool.or_false,Bool.or_eq_true] at hm
 obtain⟨oj,hoj⟩:∃ o,ops[j]? = some o:=⟨ops[j],by simp [hj]⟩
 obtain⟨oi,hoi⟩:∃ o,ops[i]? = some o:=⟨ops[i]'(by omega),by simp [show i<ops.size by omega]⟩
 have hbits:BitsOk ops (bitsL ops.toList []):=bitsL_ok (by simp) (by intro j i h;simp at h)
 rcases hm with hm|hm
 ·have:=hbits j i hm oj hoj D hD (hjr oj hoj)
  rw [hi] at this;cases this
 ·rw [hoi,hoj] at hm
  simp only [Bool.and_eq_true] at hm
  obtain⟨⟨⟨h1,h2⟩,h3⟩,h4⟩:=hm
  have d2:=disj_iff h2
  have d3:=disj_iff h3
  have d4:=disj_iff h4
  rw [←wx,←vy,←wy] at d2
  rw [←wy,←vx,←wx] at d3
  rw [←wx,←wy] at d4
  refine⟨fun o o' e1 e2=>?_,fun b hb'=>?_,fun b hb'=>?_,d4⟩
  ·rw [hoi] at e1;rw [hoj] at e2
   obtain rfl:=Option.some.inj e1
   obtain rfl:=Option.some.inj e2
   exact h1
  ·have:=d2 b hb'
   simp only [List.mem_append,not_or] at this
   exact this
  ·have:=d3 b hb'
   simp only [List.mem_append,not_or] at this
   exact this
theorem pad_inv {n:Nat} (hm:MInv B F G m w):After B F G m w G (m++List.replicate n none) w:=by
 have look:∀ (b:Nat) (x:Bool × Blk),(m++List.replicate n none)[b]? = some (some x)→m[b]? = some (some x):=by
  intro b x h
  rcases Nat.lt_or_ge b m.length with hlt|hge
  ·rwa [List.getElem?_append_left hlt] at h
  ·rw [List.getElem?_append_right hge,List.getElem?_replicate] at h
   split at h<;>cases h
 have back:∀ (b:Nat) (x:Bool × Blk),m[b]? = some (some x)→(m++List.replicate n none)[b]? = some (some x):=by
  intro b x h
  rw [List.getElem?_append_left (List.getElem?_eq_some_iff.1 h).1];exact h
 have hbad:badOf F G (m++List.replicate n none)=badOf F G m:=by
  funext g
  apply propext
  constructor
  ·rintro(h|⟨b,r,k,V,h1,h2,h3⟩)
   ·exact Or.inl h
   ·exact Or.inr ⟨b,r,k,V,look _ _ h1,h2,h3⟩
  ·rintro(h|⟨b,r,k,V,h1,h2,h3⟩)
   ·exact Or.inl h
   ·exact Or.inr ⟨b,r,k,V,back _ _ h1,h2,h3⟩
 refine⟨⟨hm.sz,hm.fr,fun b r k V g h=>hm.fo b r k V g (look _ _ h),fun b hb=>hm.len b (by simp at hb;omega),fun b r k h=>?_,fun b r k b' r' k' V V' g h1 h2=>hm.inj _ _ _ _ _ _ _ _ _ (look _ _ h1) (look _ _ h2),fun b r k V g h=>hm.ge b r k V g (look _ _ h)⟩,fun _ _ h=>h,Grow.refl _ _,fun g _ h=>by rw [hbad];exact h,?_⟩
 ·obtain⟨V,hV,hr⟩:=hm.blk _ _ _ (look _ _ h)
  exact⟨V,hV,by rw [rc,hbad];exact hr⟩
 ·rintro g _ ⟨b,k,V,h1,h2,h3⟩
  exact⟨b,k,V,look _ _ h1,h2,h3⟩
theorem count_zero {l:Array Bool} (h:l.toList.count false=0) (j:Nat) (hj:j<l.size):l.getD j false=true:=by
 have:=List.count_eq_zero.1 h
 have h2:l.toList[j]'(by simpa using hj)≠false:=fun e=>this (e▸List.getElem_mem _)
 simp only [Array.getElem_toList] at h2
 rw [Array.getD_eq_getD_getElem?,Array.getElem?_eq_getElem hj]
 simpa using h2
theorem count_set {l:Array Bool} {i:Nat} (hi:i<l.size) (h:l[i]=false):(l.setIfInBounds i true).toList.count false+1=l.toList.count false:=by
 rw [Array.toList_setIfInBounds,List.count_set (by simpa using hi)]
 have hpos:0<l.toList.count false:=List.count_pos_iff.2 (by rw [←h];exact Array.getElem_mem_toList hi)
 have e1:(l.toList[i]'(by simpa using hi) == false)=true:=by rw [Array.getElem_toList,h];rfl
 rw [if_pos e1,if_neg (by decide)]
 omega
theorem drawx_ok {ro:Option Nat} {nd:Nat} {X:Ctx} (hX:XOk P X) {fid:FuncId} {id:Nat} {ops:Array Oper} {s:St} {K:St→Option R} {a:Act} {Q:Exit→Act→World→Prop} (hm:MInv B F G s.m w) (ht:SReps (rc F G s.m w) s.t a.tmps.toList)
  (h:drawx X fid ops s K=some r) (hn:∀ (s':St) (a':Act) w' G',After B F G s.m w G' s'.m w'→SReps (rc F G' s'.m w') s'.t a'.tmps.toList→a'.defers=a.defers→K s'=some r→Q .normal a' w') :
  (Code.region id ops true).wpIn (FW ro) nd P Q a w:=by
 refine wpIn_region_any hX.mixed ?_
 unfold drawx at h
 obtain⟨new,sn,h1,h2,h3,h4⟩:=drawGo_chain (by simp) h
 simp only [List.nil_append] at h1
 split at h1
 ·rename_i hok
  let V:Nat→List Nat:=fun i=>((new[i]?).map (·.V)).getD []
  let W:Nat→List Nat:=fun i=>((new[i]?).map (·.W)).getD []
  have hVW:∀ (i:Nat) d,new[i]? = some d→d.i=i∧V i=d.V∧W i=d.W:=fun i d hd=>⟨by have:=h3 i d hd;omega,by simp [V,hd],by simp [W,hd]⟩
  have full:=h4 V W fun k d hd=>by rw [Nat.zero_add];exact(hVW k d hd).2
  have hlen:new.length=ops.size:=by rw [h2];simp
  rw [←List.range_eq_range'] at full
  simp only [Array.length_toList] at full
  have back:∀ i o,ops[i]? = some o→∀ e ∈ o.after,Region.binds .any e=true→e.on<i:=by
   intro i o hi e he hb
   have hbk:backOk ops.toList 0=true:=by
    unfold drawsOk at hok
    simp only [Bool.and_eq_true] at hok
    exact hok.1
   have:=backOk_at hbk (i:=i) (o:=o) (by simpa using hi) e he hb
   omega
  have main:∀ (fuel:Nat) (listed:Array Bool) (a':Act) (w':World) (s':St) (G':Nat→Option Value),listed.size=ops.size→listed.toList.count false≤fuel →
    Closed ops (fun j=>listed.getD j false)→Chain (Act1 X fid ops s.m.length V W) ((List.range ops.size).filter fun j=>listed.getD j false) ⟨s.t,s.m++List.replicate ops.size none⟩ s' →
    After B F G s.m w G' s'.m w'→SReps (rc F G' s'.m w') s'.t a'.tmps.toList→a'.defers=a.defers→s'.m.length=s.m.length+ops.size→(∀ j,j<ops.size→listed.getD j false=false→G' (s.m.length+j)=none) →
    wpAnyIn (FW ro) nd P .any ops Q fuel listed a' w':=by
   intro fuel
   have last:∀ (listed:Array Bool) (a':Act) (w':World) (s':St) (G':Nat→Option Value),listed.size=ops.size→Region.ready .any ops listed=[]→Chain (Act1 X fid ops s.m.length V W) ((List.range ops.size).filter fun j=>listed.getD j false) ⟨s.t,s.m++List.replicate ops.size none⟩ s' →
     After B F G s.m w G' s'.m w'→SReps (rc F G' s'.m w') s'.t a'.tmps.toList→a'.defers=a.defers→Q .normal a' w':=by
    intro listed a' w' s' G' hsz hr hc haf ht' hd
    have hall:∀ j,j<ops.size→listed.getD j false=true:=by
     intro j
     induction j using Nat.strongRecOn with
     | _ j ih =>
      intro hj
      cases hv:listed.getD j false with
      | true=>rfl
      | false =>
       exfalso
       have:j ∈ Region.ready .any ops listed:=by
        refine mem_ready.2 ⟨?_,ops[j],by simp [hj],fun e he hb=>?_⟩
        ·rw [Array.getD_eq_getD_getElem?,Array.getElem?_eq_getElem (by omega)] at hv ⊢
         simpa using hv
        ·have:=back j ops[j] (by simp [hj]) e he hb
         exact ih e.on this (by omega)
       rw [hr] at this;cases this
    have hf:((List.range ops.size).filter fun j=>listed.getD j false)=List.range ops.size:=by
     rw [List.filter_eq_self]
     intro j hj
     exact hall j (by simpa using hj)
    rw [hf] at hc
    obtain rfl:=Chain.det (fun i=>Act1.det i) hc full
    exact hn _ _ _ _ haf ht' hd h1
   induction fuel with
   | zero =>
    intro listed a' w' s' G' hsz hcnt hcl hc haf ht' hd hlm hfree
    have hr:Region.ready .any ops listed=[]:=by
     rw [List.eq_nil_iff_forall_not_mem]
     intro j hj
     obtain⟨h5,o,h6,_⟩:=mem_ready.1 hj
     have hj':j<listed.size:=by rw [hsz];exact(Array.getElem?_eq_some_iff.1 h6).1
     have h7:=count_zero (by omega) j hj'
     rw [Array.getD_eq_getD_getElem?,Array.getElem?_eq_getElem hj'] at h5 h7
     simp at h5 h7
     rw [h5] at h7;cases h7
    exact⟨hr,last listed a' w' s' G' hsz hr hc haf ht' hd⟩
   | succ fuel ih =>
    intro listed a' w' s' G' hsz hcnt hcl hc haf ht' hd hlm hfree
    refine⟨fun hr=>last listed a' w' s' G' hsz hr hc haf ht' hd,fun i hi=>?_⟩
    obtain⟨h5,o,h6,h7⟩:=mem_ready.1 hi
    have hin:i<ops.size:=(Array.getElem?_eq_some_iff.1 h6).1
    have hil:i<listed.size:=by omega
    have hli:listed[i]=false:=by
     rw [Array.getD_eq_getD_getElem?,Array.getElem?_eq_getElem hil] at h5
     simpa using h5
    have hDi:listed.getD i false=false:=by
     rw [Array.getD_eq_getD_getElem?,Array.getElem?_eq_getElem hil]
     simpa using hli
    have hcl2:Closed ops (fun j=>listed.getD j false || j == i):=by
     intro j oj hj hoj e he hb
     simp only [Bool.or_eq_true,beq_iff_eq] at hj ⊢
     rcases hj with hj|rfl
     ·exact Or.inl (hcl j oj hj hoj e he hb)
     ·rw [h6] at hoj
      obtain rfl:=Option.some.inj hoj
      exact Or.inl (h7 e he hb)
    obtain⟨s2,hact,hc2⟩:=Chain.next (fun i=>Act1.det i) full (fun j=>listed.getD j false) i hin hDi hc
     (fun x y hxy hy hx hyD s x1 y1 e1 e2=>Act1.comm (apart_of hok hVW hlen hxy hy hcl2 hx (fun oy hoy e he hb=>hcl2 y oy hyD hoy e he hb)) s x1 y1 e1 e2)
     (fun y hiy hy hyD s x1 y1 e1 e2=>Act1.comm (apart_of hok hVW hlen hiy hy hcl hDi (fun oy hoy e he hb=>hcl y oy hyD hoy e he hb)) s x1 y1 e1 e2)
    refine act_ok hX hact haf.minv (by rw [hlm];omega) (hfree i hin hDi) ht' fun a2 w2 G2 haf2 ht2 hd2 hg2=>?_
    have hset:∀ j,(listed.setIfInBounds i true).getD j false=(listed.getD j false || j == i):=by
     intro j
     by_cases e:i=j
     ·subst e;simp [hil]
     ·rw [getD_set_ne false e]
      have:(j == i)=false:=by simpa using fun e'=>e e'.symm
      rw [this,Bool.or_false]
    have hm2:s2.m.length=s'.m.length:=by
     obtain⟨o',_,⟨_,_,_,v,m',_,rfl⟩|⟨_,rfl⟩⟩:=hact
     ·exact merge_len _ _ _
     ·rfl
    refine ih (listed.setIfInBounds i true) a2 w2 s2 G2 (by simpa using hsz) (by have:=count_set hil hli;omega) ?_ ?_ (haf.trans haf2) ht2 (hd2.trans hd) (by rw [hm2,hlm]) ?_
    ·have:(fun j=>(listed.setIfInBounds i true).getD j false)=(fun j=>listed.getD j false || j == i):=funext hset
     rw [this];exact hcl2
    ·have:(fun j=>(listed.setIfInBounds i true).getD j false)=(fun j=>listed.getD j false || j == i):=funext hset
     rw [this];exact hc2
    ·intro j hj hjl
     rw [hset] at hjl
     simp only [Bool.or_eq_false_iff,beq_eq_false_iff_ne] at hjl
     exact hg2 _ (by omega) (hfree j hj hjl.1)
  have hdr:=after_foreign hm (grow_drew w _)
  have hpad:=pad_inv (n:=ops.size) hdr.minv
  have haf:=hdr.trans hpad
  have hnone:((List.range ops.size).filter fun j=>(Array.replicate ops.size false).getD j false)=[]:=by
   rw [List.filter_eq_nil_iff]
   intro j hj
   have:j<ops.size:=by simpa using hj
   simp [this]
  refine main ops.size (Array.replicate ops.size false) a w.drew ⟨s.t,s.m++List.replicate ops.size none⟩ G (by simp) (by simp) ?_ (by rw [hnone];rfl) haf (ht.le haf.le) rfl (by simp) (fun j hj _=>hm.len _ (by omega))
  intro j o hj ho
  have:j<ops.size:=(Array.getElem?_eq_some_iff.1 ho).1
  simp [this] at hj
 ·cases h1
end Go.Proofs.Ytgmkppeghnlcmaa.X
end
section
set_option linter.unusedVariables false
set_option linter.unusedSimpArgs false
namespace Go.Proofs.Ytgmkppeghnlcmaa.X
open Go Go.RowKit
set_option linter.unusedVariables false
set_option linter.unusedSimpArgs false
variable {P:Program} {B:Nat} {F:Nat→Prop} {G:Nat→Option Value} {m:Mem} {w w':World} {C:RC}
theorem CellsAt.leC {p:Addr} {o:Nat} {Us:List Value} (h:CellsAt w p o Us) (hw:∀ x,w.heap[p.block]? = some x→x.isCells=true→w'.heap[p.block]? = some x):CellsAt w' p o Us:=by
 intro j u hu
 have hc:=h j u hu
 obtain⟨x,hx,hcx⟩:=cells_of_cell hc
 rw [World.cell?_of_block (w:=w)]
 ·exact hc
 ·rw [Addr.add_block] at hx ⊢
  exact(hw x hx hcx).trans hx.symm
theorem KRep.leC {G:Nat→Option Value} {bad:Nat→Prop} (hs:w.heap.size≤w'.heap.size) (hw:∀ g x,¬bad g→w.heap[g]? = some x→x.isCells=true→w'.heap[g]? = some x):∀ {K:Kd} {x:K.T} {Vs:List Value},KRep w G bad K x Vs→KRep w' G bad K x Vs:=by
 intro K
 induction K with
 | int k=>intro x Vs h;exact h
 | bool=>intro x Vs h;exact h
 | nil=>intro x Vs h;exact h
 | cons a b iha ihb =>
  intro x Vs h
  obtain⟨V1,V2,rfl,h1,h2⟩:=h
  exact⟨V1,V2,rfl,iha h1,ihb h2⟩
 | sl a ih =>
  intro x Vs h
  obtain⟨ad,c,rfl,hc0,h⟩:=h
  refine⟨ad,c,rfl,hc0,fun i y hy=>?_⟩
  obtain⟨p,Us,hp,hlt,hnb,hc,hk⟩:=h i y hy
  exact⟨p,Us,hp,Nat.lt_of_lt_of_le hlt hs,hnb,hc.leC (fun x=>hw _ x hnb),ih hk⟩
 | ptr=>intro x Vs h;exact h
mutual
theorem SRep.leC (hs:C.w.heap.size≤w'.heap.size) (hw:∀ g x,¬C.bad g→C.w.heap[g]? = some x→x.isCells=true→w'.heap[g]? = some x):∀ {s:SV} {V:Value},SRep C s V→SRep ⟨w',C.G,C.bad⟩ s V
  | .v x,V,h=>by simpa only [SRep] using h
  | .agg l,V,h=>by
    simp only [SRep] at h ⊢
    obtain⟨vs,hv,hl⟩:=h
    exact⟨vs,hv,SReps.leC hs hw hl⟩
  | .tup l,V,h=>by
    simp only [SRep] at h ⊢
    obtain⟨vs,hv,hl⟩:=h
    exact⟨vs,hv,SReps.leC hs hw hl⟩
  | .ptr b off,V,h=>by simpa only [SRep] using h
  | .seq K xs,V,h=>by
    simp only [SRep] at h ⊢
    exact h.leC hs hw
  | .own b,V,h=>by simpa only [SRep] using h
  | .arr b off n c,V,h=>by simpa only [SRep] using h
  | .rptr K x off,V,h=>by
    simp only [SRep] at h ⊢
    obtain⟨q,o,Us,hv,hlt,hnb,hc,hk⟩:=h
    exact⟨q,o,Us,hv,Nat.lt_of_lt_of_le hlt hs,hnb,hc.leC (fun x=>hw _ x hnb),hk.leC hs hw⟩
  | .eptr b sz i o,V,h=>by simpa only [SRep] using h
  | .emp,V,h=>by simpa only [SRep] using h
  | .fn f x y,V,h=>by
    simp only [SRep] at h ⊢
    obtain⟨xs,ys,hv,h1,h2⟩:=h
    exact⟨xs,ys,hv,SReps.leC hs hw h1,SReps.leC hs hw h2⟩
  | .junk,V,h=>by simp only [SRep]
theorem SReps.leC (hs:C.w.heap.size≤w'.heap.size) (hw:∀ g x,¬C.bad g→C.w.heap[g]? = some x→x.isCells=true→w'.heap[g]? = some x):∀ {l:List SV} {vs:List Value},SReps C l vs→SReps ⟨w',C.G,C.bad⟩ l vs
  | [],vs,h=>by simpa only [SReps] using h
  | s :: l,vs,h=>by
    simp only [SReps] at h ⊢
    obtain⟨v,vs',rfl,h1,h2⟩:=h
    exact⟨v,vs',rfl,SRep.leC hs hw h1,SReps.leC hs hw h2⟩
end
theorem reps_aside {B0:Nat} (hA:Aside B0 w w') {l:List SV} {vs:List Value} (h:SReps (rc F G m w) l vs):SReps (rc F G m w') l vs :=
 SReps.leC (C:=rc F G m w) hA.size (fun g x _ hx hc=>hA.same g x hx (Or.inr hc)) h
theorem own_cells {b:Nat} {r:Bool} {k:Blk} {V:Value} {g:Nat} (h:MInv B F G m w) (hb:m[b]? = some (some (r,k))) (hG:G b=some V) (hg:blkOf V=some g):∃ x,w.heap[g]? = some x∧x.isCells=true:=by
 obtain⟨V',hV',hr⟩:=h.blk b r k hb
 rw [hG] at hV'
 obtain rfl:=Option.some.inj hV'
 cases k with
 | cells cs =>
  obtain⟨g',Vs,ty,rfl,hh,_⟩:=hr
  obtain rfl:g'=g:=by simpa [blkOf] using hg
  exact⟨_,hh,rfl⟩
 | row E K xs =>
  obtain⟨Us,ho,_⟩:=hr
  rcases ho.2 with ⟨rfl,_⟩|⟨g',cap,cur,rfl,_,hh,_⟩
  ·simp [blkOf] at hg
  ·obtain rfl:g'=g:=by simpa [blkOf] using hg
   exact⟨_,hh,rfl⟩
theorem wr_cells {g:Nat} (h:MInv B F G m w) (hg:wrOf G m g):∃ x,w.heap[g]? = some x∧x.isCells=true:=by
 obtain⟨b,k,V,h1,h2,h3⟩:=hg
 exact own_cells h h1 h2 h3
theorem minv_aside {B0:Nat} (h:MInv B F G m w) (hA:Aside B0 w w'):MInv B F G m w':=by
 refine⟨Nat.le_trans h.sz hA.size,fun g hF=>Nat.lt_of_lt_of_le (h.fr g hF) hA.size,h.fo,h.len,fun b r k hb=>?_,h.inj,fun b r k V g h1 h2 h3=>?_⟩
 ·obtain⟨V,hV,hr⟩:=h.blk b r k hb
  refine⟨V,hV,?_⟩
  cases k with
  | cells cs =>
   obtain⟨g,Vs,ty,rfl,hh,hc⟩:=hr
   exact⟨g,Vs,ty,rfl,hA.same g _ hh (Or.inr rfl),reps_aside hA hc⟩
  | row E K xs =>
   obtain⟨Us,ho,hl,hk⟩:=hr
   refine⟨Us,⟨ho.1,?_⟩,hl,fun i x U hx hU=>(hk i x U hx hU).leC hA.size (fun g x _ hx hc=>hA.same g x hx (Or.inr hc))⟩
   rcases ho.2 with h0|⟨g,cap,cur,rfl,hb,hh,rest⟩
   ·exact Or.inl h0
   ·exact Or.inr ⟨g,cap,cur,rfl,hb,hA.same g _ hh (Or.inr rfl),rest⟩
 ·have:=h.ge _ _ _ _ _ h1 h2 h3
  exact⟨this.1,Nat.lt_of_lt_of_le this.2 hA.size⟩
def Sub (m m':Mem):Prop:=m'.length=m.length∧∀ (b:Nat) (r:Bool) (k:Blk),m'[b]? = some (some (r,k))→∃ r0:Bool,m[b]? = some (some (r0,k))
theorem Sub.refl (m:Mem):Sub m m:=⟨rfl,fun b r k h=>⟨r,h⟩⟩
theorem sub_bad {m m':Mem} (h:Sub m m') {g:Nat} (hb:badOf F G m' g):badOf F G m g:=by
 rcases hb with hF|⟨b,r,k,V,h1,h2,h3⟩
 ·exact Or.inl hF
 ·obtain⟨r0,h0⟩:=h.2 b r k h1
  exact Or.inr ⟨b,r0,k,V,h0,h2,h3⟩
theorem sub_reps {m m':Mem} (h:Sub m m') {l:List SV} {vs:List Value} (hr:SReps (rc F G m w) l vs):SReps (rc F G m' w) l vs :=
 SReps.le (C:=rc F G m w) (C':=rc F G m' w) ⟨fun _ _ h=>h,Nat.le_refl _,fun _ _ _=>rfl,fun g _ hn hb=>hn (sub_bad h hb)⟩ hr
theorem sub_minv {m m':Mem} (hs:Sub m m') (h:MInv B F G m w):MInv B F G m' w:=by
 refine⟨h.sz,h.fr,fun b r k V g h1 h2 h3=>?_,fun b hb=>h.len b (by rw [←hs.1];exact hb),fun b r k hb=>?_,fun b r k b' r' k' V V' g h1 h2 h3 h4 h5 h6=>?_,fun b r k V g h1 h2 h3=>?_⟩
 ·obtain⟨r0,h0⟩:=hs.2 b r k h1
  exact h.fo _ _ _ _ _ h0 h2 h3
 ·obtain⟨r0,h0⟩:=hs.2 b r k hb
  obtain⟨V,hV,hr⟩:=h.blk b r0 k h0
  refine⟨V,hV,?_⟩
  exact BRep.le (C:=rc F G m w) (C':=rc F G m' w) ⟨fun _ _ h=>h,Nat.le_refl _,fun _ _ _=>rfl,fun g _ hn hb=>hn (sub_bad hs hb)⟩ (fun _ _=>rfl) hr
 ·obtain⟨r0,h0⟩:=hs.2 b r k h1
  obtain⟨r1,h1'⟩:=hs.2 b' r' k' h2
  exact h.inj _ _ _ _ _ _ _ _ _ h0 h1' h3 h4 h5 h6
 ·obtain⟨r0,h0⟩:=hs.2 b r k h1
  exact h.ge _ _ _ _ _ h0 h2 h3
theorem lockF_get (L:List Nat):∀ (m:Mem) (i b:Nat),(lockF L i m)[b]? = (m[b]?).map fun x=>bif hasN L (i+b) then (match x with|some (_,k)=>some (false,k)|none=>none) else x:=by
 intro m
 induction m with
 | nil=>intro i b;simp [lockF]
 | cons x m ih =>
  intro i b
  cases b with
  | zero =>
   simp only [lockF,List.getElem?_cons_zero,Option.map_some,Nat.add_zero]
   cases x<;>rfl
  | succ b=>simp only [lockF,List.getElem?_cons_succ,ih,show i+1+b=i+(b+1) by omega]
theorem lockF_len (L:List Nat):∀ (m:Mem) (i:Nat),(lockF L i m).length=m.length:=by
 intro m
 induction m with
 | nil=>intro i;rfl
 | cons x m ih=>intro i;simp [lockF,ih]
theorem lock_sub (L:List Nat) (m:Mem):Sub m (lockM L m):=by
 refine⟨lockF_len L m 0,fun b r k h=>?_⟩
 unfold lockM at h
 rw [lockF_get] at h
 obtain⟨x,hx,he⟩:=Option.map_eq_some_iff.1 h
 cases hh:hasN L (0+b) with
 | true =>
  rw [hh] at he
  cases x with
  | none=>cases he
  | some y =>
   obtain⟨f,k'⟩:=y
   simp only [cond_true,Option.some.injEq,Prod.mk.injEq] at he
   exact⟨f,by rw [hx,he.2]⟩
 | false =>
  rw [hh] at he
  simp only [cond_false] at he
  exact⟨r,by rw [hx,he]⟩
theorem lock_wr {L:List Nat} {m:Mem} {g:Nat} (h:wrOf G (lockM L m) g):wrOf G m g:=by
 obtain⟨b,k,V,h1,h2,h3⟩:=h
 unfold lockM at h1
 rw [lockF_get] at h1
 obtain⟨x,hx,he⟩:=Option.map_eq_some_iff.1 h1
 cases hh:hasN L (0+b) with
 | true =>
  rw [hh] at he
  cases x with
  | none=>cases he
  | some y=>simp at he
 | false =>
  rw [hh] at he
  simp only [cond_false] at he
  exact⟨b,k,V,by rw [hx,he],h2,h3⟩
theorem lock_old {L:List Nat} {m:Mem} {b:Nat} {r:Bool} {k:Blk} (h:m[b]? = some (some (r,k))):∃ r',(lockM L m)[b]? = some (some (r',k)):=by
 unfold lockM
 rw [lockF_get,h]
 cases hh:hasN L (0+b) with
 | true=>exact⟨false,rfl⟩
 | false=>exact⟨r,rfl⟩
theorem lock_not {L:List Nat} {m:Mem} {b:Nat} {r:Bool} {k:Blk} (hb:b ∈ L) (h:(lockM L m)[b]? = some (some (r,k))):r=false:=by
 unfold lockM at h
 rw [lockF_get] at h
 have hh:hasN L (0+b)=true:=by
  rw [Nat.zero_add]
  clear h
  induction L with
  | nil=>cases hb
  | cons x L ih =>
   simp only [hasN,Bool.or_eq_true]
   rcases List.mem_cons.1 hb with rfl|hb
   ·exact Or.inl (by simp)
   ·exact Or.inr (ih hb)
 obtain⟨x,hx,he⟩:=Option.map_eq_some_iff.1 h
 rw [hh] at he
 cases x with
 | none=>cases he
 | some y=>simp at he;exact he.1
theorem lockAll_get:∀ (m:Mem) (b:Nat),(lockAll m)[b]? = (m[b]?).map fun x=>match x with|some (_,k)=>some (false,k)|none=>none:=by
 intro m
 induction m with
 | nil=>intro b;simp [lockAll]
 | cons x m ih =>
  intro b
  cases b with
  | zero =>
   simp only [lockAll,List.getElem?_cons_zero,Option.map_some]
   cases x<;>rfl
  | succ b=>simp only [lockAll,List.getElem?_cons_succ,ih]
theorem lockAll_len:∀ (m:Mem),(lockAll m).length=m.length:=by
 intro m
 induction m with
 | nil=>rfl
 | cons x m ih=>simp [lockAll,ih]
theorem lockAll_sub (m:Mem):Sub m (lockAll m):=by
 refine⟨lockAll_len m,fun b r k h=>?_⟩
 rw [lockAll_get] at h
 obtain⟨x,hx,he⟩:=Option.map_eq_some_iff.1 h
 cases x with
 | none=>cases he
 | some y =>
  obtain⟨f,k'⟩:=y
  simp only [Option.some.injEq,Prod.mk.injEq] at he
  exact⟨f,by rw [hx,he.2]⟩
theorem lockAll_wr {m:Mem} {g:Nat} (h:wrOf G (lockAll m) g):False:=by
 obtain⟨b,k,V,h1,_⟩:=h
 rw [lockAll_get] at h1
 obtain⟨x,hx,he⟩:=Option.map_eq_some_iff.1 h1
 cases x with
 | none=>cases he
 | some y=>simp at he
theorem reflag_len:∀ (m m':Mem),(reflag m m').length=m'.length:=by
 intro m
 induction m with
 | nil=>intro m';rfl
 | cons x m ih =>
  intro m'
  cases m' with
  | nil=>rfl
  | cons y m'=>simp only [reflag,List.length_cons,Nat.add_right_cancel_iff];exact ih m'
theorem reflag_get:∀ (m m':Mem) (b:Nat) (r:Bool) (k:Blk),(reflag m m')[b]? = some (some (r,k)) →
  (∃ r',m'[b]? = some (some (r',k)))∧((∃ k0,m[b]? = some (some (r,k0)))∨(m.length≤b∧m'[b]? = some (some (r,k)))):=by
 intro m
 induction m with
 | nil=>intro m' b r k h;exact⟨⟨r,h⟩,Or.inr ⟨Nat.zero_le _,h⟩⟩
 | cons x m ih =>
  intro m' b r k h
  cases m' with
  | nil=>simp [reflag] at h
  | cons y m' =>
   cases b with
   | zero =>
    simp only [reflag,List.getElem?_cons_zero,Option.some.injEq] at h ⊢
    cases x with
    | none=>cases h
    | some p =>
     cases y with
     | none=>cases h
     | some q =>
      obtain⟨f,k0⟩:=p
      obtain⟨f',k1⟩:=q
      simp only [Option.some.injEq,Prod.mk.injEq] at h
      obtain⟨rfl,rfl⟩:=h
      exact⟨⟨f',rfl⟩,Or.inl ⟨k0,rfl⟩⟩
   | succ b =>
    simp only [reflag,List.getElem?_cons_succ,List.length_cons] at h ⊢
    obtain⟨h1,h2⟩:=ih m' b r k h
    refine⟨h1,?_⟩
    rcases h2 with h2|⟨h2,h3⟩
    ·exact Or.inl h2
    ·exact Or.inr ⟨by omega,h3⟩
theorem reflag_sub {m m':Mem}:Sub m' (reflag m m'):=⟨reflag_len m m',fun b r k hb=>(reflag_get m m' b r k hb).1⟩
theorem Marks.nil (B0:Nat) (w:World):Marks B0 [] w:=⟨[],List.nodup_nil,rfl,fun _ h=>nomatch h⟩
theorem Marks.keep {B0:Nat} {ds:List Deferred} (h:Marks B0 ds w) (hk:∀ D:Nat,w.heap[D]? = some (Obj.deferred (some []))→w'.heap[D]? = some (Obj.deferred (some []))):Marks B0 ds w':=by
 obtain⟨Ds,h1,h2,h3⟩:=h
 exact⟨Ds,h1,h2,fun D hD=>⟨(h3 D hD).1,hk D (h3 D hD).2⟩⟩
theorem not_cells_keep {Wr:Nat→Prop} (hm:MInv B F G m w) (hg:Grow w w' (wrOf G m)) {D:Nat} {o:Obj} (ho:o.isCells=false) (h:w.heap[D]? = some o):w'.heap[D]? = some o:=by
 refine(hg.block D (Array.getElem?_eq_some_iff.1 h).1 fun hw=>?_).trans h
 obtain⟨x,hx,hc⟩:=wr_cells hm hw
 rw [h] at hx
 obtain rfl:=Option.some.inj hx
 rw [ho] at hc;cases hc
theorem Marks.grow {B0:Nat} {ds:List Deferred} (h:Marks B0 ds w) (hm:MInv B F G m w) (hg:Grow w w' (wrOf G m)):Marks B0 ds w' :=
 h.keep fun D hD=>not_cells_keep (Wr:=fun _=>False) hm hg rfl hD
theorem leaves_marks {fn:Func} {tmps:Array Value} {R:Ending→World→Prop} {B0:Nat}:∀ {ds:List Deferred} {w:World},Marks B0 ds w →
  (∀ w',Aside B0 w w'→∃ v,(results fn tmps).run P w'=.ok v w'∧R (.returned v) w')→LeavesInM (FW none) 0 P fn tmps R ds .returning w:=by
 intro ds
 induction ds with
 | nil =>
  intro w _ h
  exact h w ⟨rfl,rfl,rfl,Nat.le_refl _,fun _ _ h _=>h⟩
 | cons d ds ih =>
  intro w hM h
  obtain⟨Ds,h1,h2,h3⟩:=hM
  cases Ds with
  | nil=>cases h2
  | cons D Ds =>
   simp only [List.map_cons,List.cons.injEq] at h2
   obtain⟨rfl,rfl⟩:=h2
   obtain⟨hn,hnd⟩:=List.nodup_cons.1 h1
   obtain⟨hB,hD⟩:=h3 D (by simp)
   refine⟨by simp,Or.inl ⟨D,_,rfl,run_takeDeferred hD,?_⟩⟩
   refine ih ⟨Ds,hnd,rfl,fun E hE=>⟨(h3 E (by simp [hE])).1,?_⟩⟩ fun w' hA=>h w' ((Aside.put _ hB hD rfl).trans hA)
   rw [World.putObj_heap_other (fun e=>hn (by rw [←e];exact hE))]
   exact(h3 E (by simp [hE])).2
end Go.Proofs.Ytgmkppeghnlcmaa.X
end
