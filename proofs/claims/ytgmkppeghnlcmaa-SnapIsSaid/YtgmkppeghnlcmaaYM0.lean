/- Lemmas of the rows, laid by a program. -/
import Derived.Calls
import Derived.Orders
import Derived.LoopN
import Derived.LoopNIn
import Derived.OrdersIn
import Derived.Below
import Derived.KernelRfl
import Derived.Laws.AppendOwn
import Derived.Deep.MidRow
import Derived.Lib.SliceRun
section
set_option linter.unusedVariables false
set_option linter.unusedSimpArgs false
namespace Go.Proofs.Ytgmkppeghnlcmaa.X
open Go Go.RowKit
set_option linter.unusedVariables false
set_option linter.unusedSimpArgs false
inductive Kd where
  | int (k:IntKind)
  | bool
  | nil
  | cons (a b:Kd)
  | sl (a:Kd)
  | ptr
  deriving DecidableEq
def Kd.T:Kd→Type
  | .int _=>Int
  | .bool=>Bool
  | .nil=>Unit
  | .cons a b=>a.T × b.T
  | .sl a=>List a.T
  | .ptr=>Option (Nat × Nat)
def Kd.size:Kd→Nat
  | .int _=>1
  | .bool=>1
  | .nil=>0
  | .cons a b=>a.size+b.size
  | .sl _=>1
  | .ptr=>1
def Kd.dflt:(K:Kd)→K.T
  | .int _=>(0:Int)
  | .bool=>false
  | .nil=>()
  | .cons a b=>(a.dflt,b.dflt)
  | .sl _=>[]
  | .ptr=>none
def Kd.flat:Kd→Bool
  | .int _=>true
  | .bool=>true
  | .nil=>true
  | .cons a b=>a.flat && b.flat
  | .sl _=>false
  | .ptr=>false
def Kd.np:Kd→Bool
  | .int _=>true
  | .bool=>true
  | .nil=>true
  | .cons a b=>a.np && b.np
  | .sl a=>a.np
  | .ptr=>false
inductive SV where
  | v (x:Value)
  | agg (l:List SV)
  | tup (l:List SV)
  | ptr (b off:Nat)
  | seq (K:Kd) (xs:List K.T)
  | own (b:Nat)
  | arr (b off n c:Nat)
  | rptr (K:Kd) (x:K.T) (off:Nat)
  | eptr (b sz i o:Nat)
  | emp
  | fn (f:Fn) (first cap:List SV)
  | junk
inductive Blk where
  | cells (cs:List SV)
  | row (E:TypeId) (K:Kd) (xs:List K.T)
abbrev Mem:=List (Option (Bool × Blk))
structure St where
  t:List SV
  m:Mem
def CellsAt (w:World) (p:Addr) (o:Nat) (Us:List Value):Prop:=∀ (j:Nat) (u:Value),Us[j]? = some u→w.cell? (p.add (o+j))=some u
def KRep (w:World) (G:Nat→Option Value) (bad:Nat→Prop):(K:Kd)→K.T→List Value→Prop
  | .int k,x,Vs=>Vs=[.int k x]
  | .bool,x,Vs=>Vs=[.bool x]
  | .nil,_,Vs=>Vs=[]
  | .cons a b,x,Vs=>∃ V1 V2,Vs=V1++V2∧KRep w G bad a x.1 V1∧KRep w G bad b x.2 V2
  | .sl a,xs,Vs=>∃ ad c,Vs=[.slice ad (List.length (α:=a.T) xs) c]∧List.length (α:=a.T) xs≤c∧∀ (i:Nat) (x:a.T),(show List a.T from xs)[i]? = some x →
      ∃ p Us,ad=some p∧p.block<w.heap.size∧¬bad p.block∧CellsAt w p (i*a.size) Us∧KRep w G bad a x Us
  | .ptr,x,Vs=>match (show Option (Nat × Nat) from x) with
    | none=>Vs=[.pointer none]
    | some (b,o)=>∃ g,G b=some (.pointer (some ⟨g,0,none⟩))∧Vs=[.pointer (some ⟨g,o,none⟩)]
theorem KRep.len {w:World} {G:Nat→Option Value} {bad:Nat→Prop}:∀ {K:Kd} {x:K.T} {Vs:List Value},KRep w G bad K x Vs→Vs.length=K.size:=by
 intro K
 induction K with
 | int k=>intro x Vs h;simp only [KRep] at h;subst h;rfl
 | bool=>intro x Vs h;simp only [KRep] at h;subst h;rfl
 | nil=>intro x Vs h;simp only [KRep] at h;subst h;rfl
 | cons a b iha ihb =>
  intro x Vs h
  obtain⟨V1,V2,rfl,h1,h2⟩:=h
  simp only [List.length_append,iha h1,ihb h2,Kd.size]
 | sl a ih =>
  intro x Vs h
  obtain⟨ad,c,rfl,_⟩:=h
  rfl
 | ptr =>
  intro x Vs h
  cases x with
  | none=>simp only [KRep] at h;subst h;rfl
  | some x=>obtain⟨g,_,rfl⟩:=h;rfl
theorem KRep.one {w:World} {G:Nat→Option Value} {bad:Nat→Prop}:∀ {K:Kd} {x:K.T} {Vs:List Value},KRep w G bad K x Vs→∀ u ∈ Vs,u.oneCell'=true:=by
 intro K
 induction K with
 | int k=>intro x Vs h u hu;simp only [KRep] at h;subst h;simp at hu;subst hu;rfl
 | bool=>intro x Vs h u hu;simp only [KRep] at h;subst h;simp at hu;subst hu;rfl
 | nil=>intro x Vs h u hu;simp only [KRep] at h;subst h;simp at hu
 | cons a b iha ihb =>
  intro x Vs h u hu
  obtain⟨V1,V2,rfl,h1,h2⟩:=h
  rcases List.mem_append.1 hu with hu|hu
  ·exact iha h1 u hu
  ·exact ihb h2 u hu
 | sl a ih =>
  intro x Vs h u hu
  obtain⟨ad,c,rfl,_⟩:=h
  simp at hu;subst hu;rfl
 | ptr =>
  intro x Vs h u hu
  cases x with
  | none=>simp only [KRep] at h;subst h;simp at hu;subst hu;rfl
  | some x=>obtain⟨g,_,rfl⟩:=h;simp at hu;subst hu;rfl
theorem KRep.np {w:World} {G G':Nat→Option Value} {bad:Nat→Prop}:∀ {K:Kd} {x:K.T} {Vs:List Value},K.np=true→KRep w G bad K x Vs→KRep w G' bad K x Vs:=by
 intro K
 induction K with
 | int k=>intro x Vs _ h;exact h
 | bool=>intro x Vs _ h;exact h
 | nil=>intro x Vs _ h;exact h
 | cons a b iha ihb =>
  intro x Vs hn h
  simp only [Kd.np,Bool.and_eq_true] at hn
  obtain⟨V1,V2,rfl,h1,h2⟩:=h
  exact⟨V1,V2,rfl,iha hn.1 h1,ihb hn.2 h2⟩
 | sl a ih =>
  intro x Vs hn h
  obtain⟨ad,c,rfl,hc0,h⟩:=h
  refine⟨ad,c,rfl,hc0,fun i y hy=>?_⟩
  obtain⟨p,Us,hp,hlt,hnb,hc,hk⟩:=h i y hy
  exact⟨p,Us,hp,hlt,hnb,hc,ih hn hk⟩
 | ptr=>intro x Vs hn;cases hn
structure RC where
  w:World
  G:Nat→Option Value
  bad:Nat→Prop
mutual
def SRep (C:RC):SV→Value→Prop
  | .v x,V=>V=x
  | .agg l,V=>∃ vs:Array Value,V=.agg vs∧SReps C l vs.toList
  | .tup l,V=>∃ vs:Array Value,V=.tuple vs∧SReps C l vs.toList
  | .ptr b off,V=>∃ g,C.G b=some (.pointer (some ⟨g,0,none⟩))∧V=.pointer (some ⟨g,off,none⟩)
  | .seq K xs,V=>KRep C.w C.G C.bad (.sl K) xs [V]
  | .own b,V=>C.G b=some V∧∃ a n c,V=.slice a n c
  | .arr b off n c,V=>∃ g,C.G b=some (.pointer (some ⟨g,0,none⟩))∧V=.slice (some ⟨g,off,none⟩) n c
  | .rptr K x off,V=>∃ (q:Addr) (o:Nat) (Us:List Value),V=.pointer (some (q.add (o+off)))∧q.block<C.w.heap.size∧¬C.bad q.block∧CellsAt C.w q o Us∧KRep C.w C.G C.bad K x Us
  | .eptr b sz i o,V=>∃ g n c,C.G b=some (.slice (some ⟨g,0,none⟩) n c)∧i<n∧V=.pointer (some ⟨g,i*sz+o,none⟩)
  | .emp,V=>∃ a,V=.slice a 0 0
  | .fn f x y,V=>∃ xs ys:Array Value,V=.func f xs ys∧SReps C x xs.toList∧SReps C y ys.toList
  | .junk,_=>True
def SReps (C:RC):List SV→List Value→Prop
  | [],vs=>vs=[]
  | s :: l,vs=>∃ v vs',vs=v :: vs'∧SRep C s v∧SReps C l vs'
end
def blkOf:Value→Option Nat
  | .pointer (some a)=>some a.block
  | .slice (some a) _ _=>some a.block
  | _=>none
def BRep (C:RC) (B:Nat) (V:Value):Blk→Prop
  | .cells cs=>∃ g Vs ty,V=.pointer (some ⟨g,0,none⟩)∧C.w.heap[g]? = some (.cells Vs ty (0,0))∧SReps C cs Vs.toList
  | .row E K xs=>∃ Us:List (List Value),C.w.ownsRow B E K.size V xs.length Us.flatten∧Us.length=xs.length ∧
      ∀ (i:Nat) (x:K.T) (U:List Value),xs[i]? = some x→Us[i]? = some U→KRep C.w C.G C.bad K x U
structure RC.Le (C C':RC):Prop where
  hG:∀ b V,C.G b=some V→C'.G b=some V
  hs:C.w.heap.size≤C'.w.heap.size
  hw:∀ g,g<C.w.heap.size→¬C.bad g→C'.w.heap[g]? = C.w.heap[g]?
  hb:∀ g,g<C.w.heap.size→¬C.bad g→¬C'.bad g
theorem RC.Le.refl (C:RC):C.Le C:=⟨fun _ _ h=>h,Nat.le_refl _,fun _ _ _=>rfl,fun _ _ h=>h⟩
theorem RC.Le.trans {A B C:RC} (h:A.Le B) (k:B.Le C):A.Le C :=
 ⟨fun b V e=>k.hG b V (h.hG b V e),Nat.le_trans h.hs k.hs,fun g hg hn=>(k.hw g (Nat.lt_of_lt_of_le hg h.hs) (h.hb g hg hn)).trans (h.hw g hg hn),fun g hg hn=>k.hb g (Nat.lt_of_lt_of_le hg h.hs) (h.hb g hg hn)⟩
theorem cell_lt {w:World} {a:Addr} {v:Value} (h:w.cell? a=some v):a.block<w.heap.size:=block_lt_of_cell h
theorem Addr.add_block (a:Addr) (n:Nat):(a.add n).block=a.block:=by unfold Addr.add;split<;>rfl
theorem Addr.add_add (a:Addr) (m n:Nat):(a.add m).add n=a.add (m+n):=by
 unfold Addr.add
 by_cases hm:m=0
 ·subst hm;simp
 ·by_cases hn:n=0
  ·subst hn;simp
  ·simp [hm,hn,Nat.add_assoc]
theorem CellsAt.le {w w':World} {p:Addr} {o:Nat} {Us:List Value} (h:CellsAt w p o Us) (hw:w'.heap[p.block]? = w.heap[p.block]?):CellsAt w' p o Us:=by
 intro j u hu
 rw [World.cell?_of_block (w:=w)]
 ·exact h j u hu
 ·rw [Addr.add_block];exact hw
theorem KRep.le {w w':World} {G G':Nat→Option Value} {bad bad':Nat→Prop} (hG:∀ b V,G b=some V→G' b=some V) (hs:w.heap.size≤w'.heap.size) (hw:∀ g,g<w.heap.size→¬bad g→w'.heap[g]? = w.heap[g]?)
  (hb:∀ g,g<w.heap.size→¬bad g→¬bad' g):∀ {K:Kd} {x:K.T} {Vs:List Value},KRep w G bad K x Vs→KRep w' G' bad' K x Vs:=by
 intro K
 induction K with
 | int k=>intro x Vs h;exact h
 | bool=>intro x Vs h;exact h
 | nil=>intro x Vs h;exact h
 | cons a b iha ihb =>
  intro x Vs h
  obtain⟨V1,V2,rfl,h1,h2⟩:=h
  exact⟨V1,V2,rfl,iha h1,ihb h2⟩
 | sl a ih =>
  intro x Vs h
  obtain⟨ad,c,rfl,hc0,h⟩:=h
  refine⟨ad,c,rfl,hc0,fun i y hy=>?_⟩
  obtain⟨p,Us,hp,hlt,hnb,hc,hk⟩:=h i y hy
  exact⟨p,Us,hp,Nat.lt_of_lt_of_le hlt hs,hb _ hlt hnb,hc.le (hw _ hlt hnb),ih hk⟩
 | ptr =>
  intro x Vs h
  cases x with
  | none=>exact h
  | some x=>obtain⟨g,hg,rfl⟩:=h;exact⟨g,hG _ _ hg,rfl⟩
mutual
theorem SRep.le {C C':RC} (hC:C.Le C'):∀ {s:SV} {V:Value},SRep C s V→SRep C' s V
  | .v x,V,h=>by simpa only [SRep] using h
  | .agg l,V,h=>by
    simp only [SRep] at h ⊢
    obtain⟨vs,hv,hl⟩:=h
    exact⟨vs,hv,SReps.le hC hl⟩
  | .tup l,V,h=>by
    simp only [SRep] at h ⊢
    obtain⟨vs,hv,hl⟩:=h
    exact⟨vs,hv,SReps.le hC hl⟩
  | .ptr b off,V,h=>by
    simp only [SRep] at h ⊢
    obtain⟨g,hg,hv⟩:=h
    exact⟨g,hC.hG _ _ hg,hv⟩
  | .seq K xs,V,h=>by
    simp only [SRep] at h ⊢
    exact h.le hC.hG hC.hs hC.hw hC.hb
  | .own b,V,h=>by
    simp only [SRep] at h ⊢
    exact⟨hC.hG _ _ h.1,h.2⟩
  | .arr b off n c,V,h=>by
    simp only [SRep] at h ⊢
    obtain⟨g,hg,hv⟩:=h
    exact⟨g,hC.hG _ _ hg,hv⟩
  | .rptr K x off,V,h=>by
    simp only [SRep] at h ⊢
    obtain⟨q,o,Us,hv,hlt,hnb,hc,hk⟩:=h
    exact⟨q,o,Us,hv,Nat.lt_of_lt_of_le hlt hC.hs,hC.hb _ hlt hnb,hc.le (hC.hw _ hlt hnb),hk.le hC.hG hC.hs hC.hw hC.hb⟩
  | .eptr b sz i o,V,h=>by
    simp only [SRep] at h ⊢
    obtain⟨g,n,c,hg,hv⟩:=h
    exact⟨g,n,c,hC.hG _ _ hg,hv⟩
  | .emp,V,h=>by simpa only [SRep] using h
  | .fn f x y,V,h=>by
    simp only [SRep] at h ⊢
    obtain⟨xs,ys,hv,h1,h2⟩:=h
    exact⟨xs,ys,hv,SReps.le hC h1,SReps.le hC h2⟩
  | .junk,V,h=>by simp only [SRep]
theorem SReps.le {C C':RC} (hC:C.Le C'):∀ {l:List SV} {vs:List Value},SReps C l vs→SReps C' l vs
  | [],vs,h=>by simpa only [SReps] using h
  | s :: l,vs,h=>by
    simp only [SReps] at h ⊢
    obtain⟨v,vs',rfl,h1,h2⟩:=h
    exact⟨v,vs',rfl,SRep.le hC h1,SReps.le hC h2⟩
end
theorem BRep.le {C C':RC} (hC:C.Le C') {B:Nat} {V:Value} {k:Blk} (hg:∀ g,blkOf V=some g→C'.w.heap[g]? = C.w.heap[g]?) (h:BRep C B V k):BRep C' B V k:=by
 cases k with
 | cells cs =>
  obtain⟨g,Vs,ty,rfl,hh,hc⟩:=h
  exact⟨g,Vs,ty,rfl,(hg g rfl).trans hh,hc.le hC⟩
 | row E K xs =>
  obtain⟨Us,ho,hl,hk⟩:=h
  refine⟨Us,?_,hl,fun i x U hx hU=>(hk i x U hx hU).le hC.hG hC.hs hC.hw hC.hb⟩
  refine⟨ho.1,?_⟩
  rcases ho.2 with ho2|⟨g,cap,cur,rfl,hb,hh,r⟩
  ·exact Or.inl ho2
  ·exact Or.inr ⟨g,cap,cur,rfl,hb,(hg g rfl).trans hh,r⟩
def wrOf (G:Nat→Option Value) (m:Mem):Nat→Prop:=fun g=>∃ b k V,m[b]? = some (some (true,k))∧G b=some V∧blkOf V=some g
def badOf (F:Nat→Prop) (G:Nat→Option Value) (m:Mem):Nat→Prop:=fun g=>F g∨∃ b r k V,m[b]? = some (some (r,k))∧G b=some V∧blkOf V=some g
abbrev rc (F:Nat→Prop) (G:Nat→Option Value) (m:Mem) (w:World):RC:=⟨w,G,badOf F G m⟩
structure MInv (B:Nat) (F:Nat→Prop) (G:Nat→Option Value) (m:Mem) (w:World):Prop where
  sz:B≤w.heap.size
  fr:∀ g,F g→g<w.heap.size
  fo:∀ b r k V g,m[b]? = some (some (r,k))→G b=some V→blkOf V=some g→¬F g
  len:∀ b,m.length≤b→G b=none
  blk:∀ b r k,m[b]? = some (some (r,k))→∃ V,G b=some V∧BRep (rc F G m w) B V k
  inj:∀ b r k b' r' k' V V' g,m[b]? = some (some (r,k))→m[b']? = some (some (r',k'))→G b=some V→G b'=some V'→blkOf V=some g→blkOf V'=some g→b=b'
  ge:∀ b r k V g,m[b]? = some (some (r,k))→G b=some V→blkOf V=some g→B≤g∧g<w.heap.size
structure Grow (w w':World) (W:Nat→Prop):Prop where
  os:w'.os=w.os
  tape:w'.tape=w.tape
  output:w'.output=w.output
  size:w.heap.size≤w'.heap.size
  block:∀ g,g<w.heap.size→¬W g→w'.heap[g]? = w.heap[g]?
theorem Grow.refl (w:World) (W:Nat→Prop):Grow w w W:=⟨rfl,rfl,rfl,Nat.le_refl _,fun _ _ _=>rfl⟩
structure After (B:Nat) (F:Nat→Prop) (G:Nat→Option Value) (m:Mem) (w:World) (G':Nat→Option Value) (m':Mem) (w':World):Prop where
  minv:MInv B F G' m' w'
  gext:∀ b V,G b=some V→G' b=some V
  grow:Grow w w' (wrOf G m)
  hb:∀ g,g<w.heap.size→¬badOf F G m g→¬badOf F G' m' g
  ws:∀ g,g<w.heap.size→wrOf G' m' g→wrOf G m g
theorem wr_bad {F:Nat→Prop} {G:Nat→Option Value} {m:Mem} {g:Nat} (h:wrOf G m g):badOf F G m g:=by
 obtain⟨b,k,V,h1,h2,h3⟩:=h
 exact Or.inr ⟨b,true,k,V,h1,h2,h3⟩
theorem After.le {B:Nat} {F:Nat→Prop} {G G':Nat→Option Value} {m m':Mem} {w w':World} (h:After B F G m w G' m' w'):(rc F G m w).Le (rc F G' m' w') :=
 ⟨h.gext,h.grow.size,fun g hg hn=>h.grow.block g hg (fun hw=>hn (wr_bad hw)),h.hb⟩
theorem After.refl {B:Nat} {F:Nat→Prop} {G:Nat→Option Value} {m:Mem} {w:World} (h:MInv B F G m w):After B F G m w G m w :=
 ⟨h,fun _ _ h=>h,Grow.refl _ _,fun _ _ h=>h,fun _ _ h=>h⟩
theorem After.trans {B:Nat} {F:Nat→Prop} {G G' G'':Nat→Option Value} {m m' m'':Mem} {w w' w'':World} (h:After B F G m w G' m' w') (k:After B F G' m' w' G'' m'' w''):After B F G m w G'' m'' w'' where
 minv:=k.minv
 gext:=fun b V e=>k.gext b V (h.gext b V e)
 grow:=⟨k.grow.os.trans h.grow.os,k.grow.tape.trans h.grow.tape,k.grow.output.trans h.grow.output,Nat.le_trans h.grow.size k.grow.size,
  fun g hg hn=>(k.grow.block g (Nat.lt_of_lt_of_le hg h.grow.size) (fun hw=>hn (h.ws g hg hw))).trans (h.grow.block g hg hn)⟩
 hb:=fun g hg hn=>k.hb g (Nat.lt_of_lt_of_le hg h.grow.size) (h.hb g hg hn)
 ws:=fun g hg hw=>h.ws g hg (k.ws g (Nat.lt_of_lt_of_le hg h.grow.size) hw)
theorem MInv.wr_ge {B:Nat} {F:Nat→Prop} {G:Nat→Option Value} {m:Mem} {w:World} (h:MInv B F G m w) {g:Nat} (hg:wrOf G m g):B≤g:=by
 obtain⟨b,k,V,h1,h2,h3⟩:=hg
 exact(h.ge _ _ _ _ _ h1 h2 h3).1
theorem After.below {B:Nat} {F:Nat→Prop} {G G':Nat→Option Value} {m m':Mem} {w w':World} (hm:MInv B F G m w) (h:After B F G m w G' m' w'):Below B w w' :=
 ⟨h.grow.os,h.grow.tape,h.grow.output,h.grow.size,fun g hg=>h.grow.block g (Nat.lt_of_lt_of_le hg hm.sz) (fun hw=>by have:=hm.wr_ge hw;omega)⟩
theorem after_foreign {B:Nat} {F:Nat→Prop} {G:Nat→Option Value} {m:Mem} {w w':World} (h:MInv B F G m w) (hg:Grow w w' (fun _=>False)):After B F G m w G m w':=by
 have hle:(rc F G m w).Le (rc F G m w'):=⟨fun _ _ h=>h,hg.size,fun g hlt _=>hg.block g hlt (fun h=>h),fun _ _ h=>h⟩
 refine⟨⟨Nat.le_trans h.sz hg.size,fun g hF=>Nat.lt_of_lt_of_le (h.fr g hF) hg.size,h.fo,h.len,fun b r k hb=>?_,h.inj,fun b r k V g h1 h2 h3=>?_⟩,fun _ _ h=>h,⟨hg.os,hg.tape,hg.output,hg.size,fun g hlt _=>hg.block g hlt (fun h=>h)⟩,fun _ _ h=>h,fun _ _ h=>h⟩
 ·obtain⟨V,hV,hr⟩:=h.blk b r k hb
  exact⟨V,hV,hr.le hle fun g e=>hg.block g (h.ge _ _ _ _ _ hb hV e).2 (fun h=>h)⟩
 ·have:=h.ge _ _ _ _ _ h1 h2 h3
  exact⟨this.1,Nat.lt_of_lt_of_le this.2 hg.size⟩
theorem grow_below {w w':World} (h:Below w.heap.size w w'):Grow w w' (fun _=>False):=⟨h.os,h.tape,h.output,h.size,fun g hg _=>h.block g hg⟩
theorem grow_drew (w:World) (W:Nat→Prop):Grow w w.drew W:=⟨rfl,rfl,rfl,Nat.le_refl _,fun _ _ _=>rfl⟩
def memPut (p:Option Nat) (m:Mem) (k:Blk):Mem:=match p with|none=>m++[some (true,k)]|some p=>m.set p (some (true,k))
def memNew (p:Option Nat) (m:Mem):Nat:=match p with|none=>m.length|some p=>p
def memFree (p:Option Nat) (G:Nat→Option Value) (m:Mem):Prop:=match p with|none=>True|some p=>p<m.length∧G p=none
theorem memPut_new {p:Option Nat} {G:Nat→Option Value} {m:Mem} {k:Blk} (h:memFree p G m):(memPut p m k)[memNew p m]? = some (some (true,k)):=by
 cases p with
 | none=>simp [memPut,memNew]
 | some p=>simp [memPut,memNew,h.1]
theorem memPut_old {p:Option Nat} {m:Mem} {k:Blk} {b:Nat} (h:b≠memNew p m):(memPut p m k)[b]? = m[b]?:=by
 cases p with
 | none =>
  simp only [memPut,memNew] at *
  rcases Nat.lt_or_ge b m.length with h1|h1
  ·rw [List.getElem?_append_left h1]
  ·rw [List.getElem?_eq_none (by simp;omega),List.getElem?_eq_none h1]
 | some p =>
  simp only [memPut,memNew] at *
  rw [List.getElem?_set_ne (fun e=>h e.symm)]
theorem memPut_len {p:Option Nat} {m:Mem} {k:Blk}:m.length≤(memPut p m k).length:=by
 cases p<;>simp [memPut]
theorem memNew_lt {p:Option Nat} {G:Nat→Option Value} {m:Mem} {k:Blk} (h:memFree p G m):memNew p m<(memPut p m k).length:=by
 cases p with
 | none=>simp [memPut,memNew]
 | some p=>simpa [memPut,memNew] using h.1
theorem free_none {B:Nat} {F:Nat→Prop} {p:Option Nat} {G:Nat→Option Value} {m:Mem} {w:World} (hm:MInv B F G m w) (h:memFree p G m):G (memNew p m)=none:=by
 cases p with
 | none=>exact hm.len _ (Nat.le_refl _)
 | some p=>exact h.2
def upd (G:Nat→Option Value) (b:Nat) (V:Value):Nat→Option Value:=fun n=>if n=b then some V else G n
theorem upd_same (G:Nat→Option Value) (b:Nat) (V:Value):upd G b V b=some V:=by simp [upd]
theorem upd_ne {G:Nat→Option Value} {b n:Nat} {V:Value} (h:n≠b):upd G b V n=G n:=by simp [upd,h]
theorem upd_ext {G:Nat→Option Value} {b:Nat} {V:Value} (h:G b=none):∀ n U,G n=some U→upd G b V n=some U:=by
 intro n U hn
 by_cases e:n=b
 ·subst e;rw [h] at hn;cases hn
 ·rw [upd_ne e];exact hn
theorem after_new {B:Nat} {F:Nat→Prop} {G:Nat→Option Value} {m m1:Mem} {w w':World} {p:Option Nat} {k:Blk} {V:Value} (h:MInv B F G m w) (hf:memFree p G m)
  (hm1:∀ (b:Nat) (x:Bool × Blk),m1[b]? = some (some x)→m[b]? = some (some x)) (hl1:m1.length=m.length)
  (hg:Grow w w' (wrOf G m))
  (hkeep:∀ b r k V g,m1[b]? = some (some (r,k))→G b=some V→blkOf V=some g→w'.heap[g]? = w.heap[g]?)
  (hV:∀ g,blkOf V=some g→B≤g∧g<w'.heap.size∧(g<w.heap.size→wrOf G m g)∧∀ b r k V',m1[b]? = some (some (r,k))→G b=some V'→blkOf V'≠some g)
  (hk:∀ bad:Nat→Prop,(∀ g,bad g→badOf F G m g∨w.heap.size≤g)→(RC.mk w' (upd G (memNew p m) V) bad |> fun C=>(rc F G m w).Le C→BRep C B V k)) :
  After B F G m w (upd G (memNew p m) V) (memPut p m1 k) w':=by
 have hfree:=free_none h hf
 have hn1:memNew p m1=memNew p m:=by cases p<;>simp [memNew,hl1]
 have hf1:memFree p G m1:=by cases p with
  | none=>trivial
  | some p=>exact⟨by rw [hl1];exact hf.1,hf.2⟩
 have look:∀ b r k',(memPut p m1 k)[b]? = some (some (r,k'))→(b=memNew p m∧r=true∧k'=k)∨(b≠memNew p m∧m1[b]? = some (some (r,k'))):=by
  intro b r k' hb
  by_cases e:b=memNew p m
  ·subst e
   rw [←hn1,memPut_new hf1] at hb
   simp only [Option.some.injEq,Prod.mk.injEq] at hb
   exact Or.inl ⟨rfl,hb.1.symm,hb.2.symm⟩
  ·rw [memPut_old (by rw [hn1];exact e)] at hb
   exact Or.inr ⟨e,hb⟩
 have hbad:∀ g,badOf F (upd G (memNew p m) V) (memPut p m1 k) g→badOf F G m g∨w.heap.size≤g:=by
  rintro g (hF|⟨b,r,k',V',h1,h2,h3⟩)
  ·exact Or.inl (Or.inl hF)
  ·rcases look b r k' h1 with ⟨rfl,rfl,rfl⟩|⟨hne,h1'⟩
   ·rw [upd_same] at h2
    obtain rfl:=Option.some.inj h2
    obtain⟨_,_,c,_⟩:=hV g h3
    rcases Nat.lt_or_ge g w.heap.size with hlt|hge
    ·exact Or.inl (wr_bad (c hlt))
    ·exact Or.inr hge
   ·rw [upd_ne hne] at h2
    exact Or.inl (Or.inr ⟨b,r,k',V',hm1 _ _ h1',h2,h3⟩)
 have hle:(rc F G m w).Le (rc F (upd G (memNew p m) V) (memPut p m1 k) w') :=
  ⟨upd_ext hfree,hg.size,fun g hlt hn=>hg.block g hlt (fun hw=>hn (wr_bad hw)),fun g hlt hn hn'=>by
   rcases hbad g hn' with h'|h'
   ·exact hn h'
   ·exact absurd hlt (Nat.not_lt.2 h')⟩
 refine⟨⟨Nat.le_trans h.sz hg.size,fun g hF=>Nat.lt_of_lt_of_le (h.fr g hF) hg.size,fun b r k' V' g h1 h2 h3 hF=>?_,fun b hb=>?_,fun b r k' hb=>?_,?_,?_⟩,upd_ext hfree,hg,fun g hlt hn hn'=>?_,?_⟩
 ·rcases look b r k' h1 with ⟨rfl,rfl,rfl⟩|⟨hne,h1'⟩
  ·rw [upd_same] at h2
   obtain rfl:=Option.some.inj h2
   obtain⟨c,y,U,e1,e2,e3⟩:=(hV g h3).2.2.1 (h.fr g hF)
   exact h.fo _ _ _ _ _ e1 e2 e3 hF
  ·rw [upd_ne hne] at h2
   exact h.fo _ _ _ _ _ (hm1 _ _ h1') h2 h3 hF
 ·have h1:=memNew_lt (k:=k) hf1
  have h2:=memPut_len (p:=p) (m:=m1) (k:=k)
  rw [hn1] at h1
  rw [upd_ne (by omega)]
  exact h.len b (by omega)
 ·rcases look b r k' hb with ⟨rfl,rfl,rfl⟩|⟨hne,hb'⟩
  ·exact⟨V,upd_same _ _ _,hk _ hbad hle⟩
  ·obtain⟨V',hV',hr⟩:=h.blk b r k' (hm1 _ _ hb')
   exact⟨V',by rw [upd_ne hne];exact hV',hr.le hle fun g e=>hkeep _ _ _ _ _ hb' hV' e⟩
 ·intro b r k1 b' r' k1' V1 V1' g h1 h2 h3 h4 h5 h6
  rcases look b r k1 h1 with ⟨rfl,rfl,rfl⟩|⟨hne,h1'⟩
  ·rcases look b' r' k1' h2 with ⟨rfl,rfl,rfl⟩|⟨hne',h2'⟩
   ·rfl
   ·rw [upd_same] at h3
    obtain rfl:=Option.some.inj h3
    rw [upd_ne hne'] at h4
    exact absurd h6 ((hV g h5).2.2.2 _ _ _ _ h2' h4)
  ·rcases look b' r' k1' h2 with ⟨rfl,rfl,rfl⟩|⟨hne',h2'⟩
   ·rw [upd_same] at h4
    obtain rfl:=Option.some.inj h4
    rw [upd_ne hne] at h3
    exact absurd h5 ((hV g h6).2.2.2 _ _ _ _ h1' h3)
   ·rw [upd_ne hne] at h3
    rw [upd_ne hne'] at h4
    exact h.inj _ _ _ _ _ _ _ _ _ (hm1 _ _ h1') (hm1 _ _ h2') h3 h4 h5 h6
 ·intro b r k' V' g h1 h2 h3
  rcases look b r k' h1 with ⟨rfl,rfl,rfl⟩|⟨hne,h1'⟩
  ·rw [upd_same] at h2
   obtain rfl:=Option.some.inj h2
   exact⟨(hV g h3).1,(hV g h3).2.1⟩
  ·rw [upd_ne hne] at h2
   have:=h.ge _ _ _ _ _ (hm1 _ _ h1') h2 h3
   exact⟨this.1,Nat.lt_of_lt_of_le this.2 hg.size⟩
 ·rcases hbad g hn' with h'|h'
  ·exact hn h'
  ·omega
 ·rintro g hlt ⟨b,k',V',h1,h2,h3⟩
  rcases look b true k' h1 with ⟨rfl,_,rfl⟩|⟨hne,h1'⟩
  ·rw [upd_same] at h2
   obtain rfl:=Option.some.inj h2
   exact(hV g h3).2.2.1 hlt
  ·rw [upd_ne hne] at h2
   exact⟨b,k',V',hm1 _ _ h1',h2,h3⟩
theorem after_set {B:Nat} {F:Nat→Prop} {G:Nat→Option Value} {m:Mem} {w w':World} {b:Nat} {k k':Blk} {V:Value} {g:Nat} (h:MInv B F G m w)
  (hb:m[b]? = some (some (true,k))) (hG:G b=some V) (hbl:blkOf V=some g) (hg:Grow w w' (fun x=>x=g))
  (hk:(rc F G m w).Le (rc F G m w')→BRep (rc F G m w') B V k'):After B F G m w G (m.set b (some (true,k'))) w':=by
 have hlt:b<m.length:=by
  rcases Nat.lt_or_ge b m.length with h1|h1
  ·exact h1
  ·rw [List.getElem?_eq_none h1] at hb;cases hb
 have hwr:wrOf G m g:=⟨b,k,V,hb,hG,hbl⟩
 have hg':Grow w w' (wrOf G m):=⟨hg.os,hg.tape,hg.output,hg.size,fun x hx hn=>hg.block x hx (fun e=>hn (e▸hwr))⟩
 have look:∀ (c:Nat) (r:Bool) (x:Blk),(m.set b (some (true,k')))[c]? = some (some (r,x))→(c=b∧r=true∧x=k')∨(c≠b∧m[c]? = some (some (r,x))):=by
  intro c r x hc
  by_cases e:c=b
  ·subst e
   rw [List.getElem?_set_self hlt] at hc
   simp only [Option.some.injEq,Prod.mk.injEq] at hc
   exact Or.inl ⟨rfl,hc.1.symm,hc.2.symm⟩
  ·rw [List.getElem?_set_ne (fun e'=>e e'.symm)] at hc
   exact Or.inr ⟨e,hc⟩
 have old:∀ (c:Nat) (r:Bool) (x:Blk),(m.set b (some (true,k')))[c]? = some (some (r,x))→∃ y,m[c]? = some (some (r,y)):=by
  intro c r x hc
  rcases look c r x hc with ⟨rfl,rfl,rfl⟩|⟨_,h1⟩
  ·exact⟨k,hb⟩
  ·exact⟨x,h1⟩
 have new:∀ (c:Nat) (r:Bool) (y:Blk),m[c]? = some (some (r,y))→∃ x,(m.set b (some (true,k')))[c]? = some (some (r,x)):=by
  intro c r y hc
  by_cases e:c=b
  ·subst e
   rw [hb] at hc
   simp only [Option.some.injEq,Prod.mk.injEq] at hc
   exact⟨k',by rw [List.getElem?_set_self hlt,hc.1]⟩
  ·exact⟨y,by rw [List.getElem?_set_ne (fun e'=>e e'.symm)];exact hc⟩
 have badeq:badOf F G (m.set b (some (true,k')))=badOf F G m:=by
  funext x
  apply propext
  constructor
  ·rintro(hF|⟨c,r,y,U,h1,h2,h3⟩)
   ·exact Or.inl hF
   ·obtain⟨z,hz⟩:=old c r y h1
    exact Or.inr ⟨c,r,z,U,hz,h2,h3⟩
  ·rintro(hF|⟨c,r,y,U,h1,h2,h3⟩)
   ·exact Or.inl hF
   ·obtain⟨z,hz⟩:=new c r y h1
    exact Or.inr ⟨c,r,z,U,hz,h2,h3⟩
 have hle:(rc F G m w).Le (rc F G m w'):=⟨fun _ _ h=>h,hg.size,fun x hx hn=>hg'.block x hx (fun hw=>hn (wr_bad hw)),fun _ _ h=>h⟩
 refine⟨⟨Nat.le_trans h.sz hg.size,fun x hF=>Nat.lt_of_lt_of_le (h.fr x hF) hg.size,fun c r x U y h1 h2 h3=>(by obtain⟨z,hz⟩:=old c r x h1;exact h.fo _ _ _ _ _ hz h2 h3),fun c hc=>h.len c (by simpa using hc),fun c r x hc=>?_,?_,?_⟩,fun _ _ h=>h,hg',fun x _ hn=>by rw [badeq];exact hn,?_⟩
 ·rw [rc,badeq]
  rcases look c r x hc with ⟨rfl,rfl,rfl⟩|⟨hne,h1⟩
  ·exact⟨V,hG,hk hle⟩
  ·obtain⟨U,hU,hr⟩:=h.blk c r x h1
   refine⟨U,hU,hr.le hle fun y e=>hg.block y (h.ge _ _ _ _ _ h1 hU e).2 (fun e'=>hne ?_)⟩
   subst e'
   exact h.inj _ _ _ _ _ _ _ _ _ h1 hb hU hG e hbl
 ·intro c r x c' r' x' U U' y h1 h2 h3 h4 h5 h6
  obtain⟨z,hz⟩:=old c r x h1
  obtain⟨z',hz'⟩:=old c' r' x' h2
  exact h.inj _ _ _ _ _ _ _ _ _ hz hz' h3 h4 h5 h6
 ·intro c r x U y h1 h2 h3
  obtain⟨z,hz⟩:=old c r x h1
  have:=h.ge _ _ _ _ _ hz h2 h3
  exact⟨this.1,Nat.lt_of_lt_of_le this.2 hg.size⟩
 ·rintro y hy ⟨c,x,U,h1,h2,h3⟩
  obtain⟨z,hz⟩:=old c true x h1
  exact⟨c,z,U,hz,h2,h3⟩
theorem after_hide {B:Nat} {F:Nat→Prop} {G:Nat→Option Value} {m m1:Mem} {w:World} (h:MInv B F G m w) (hl:m1.length=m.length) (hm1:∀ (b:Nat) (x:Bool × Blk),m1[b]? = some (some x)→m[b]? = some (some x)):After B F G m w G m1 w:=by
 have hbad:∀ g,badOf F G m1 g→badOf F G m g:=by
  rintro g (hF|⟨b,r,k,V,h1,h2,h3⟩)
  ·exact Or.inl hF
  ·exact Or.inr ⟨b,r,k,V,hm1 _ _ h1,h2,h3⟩
 have hle:(rc F G m w).Le (rc F G m1 w):=⟨fun _ _ h=>h,Nat.le_refl _,fun _ _ _=>rfl,fun g _ hn hn'=>hn (hbad g hn')⟩
 refine⟨⟨h.sz,h.fr,fun b r k V g h1=>h.fo _ _ _ _ _ (hm1 _ _ h1),fun b hb=>h.len b (by omega),fun b r k hb=>?_,fun b r k b' r' k' V V' g h1 h2=>h.inj _ _ _ _ _ _ _ _ _ (hm1 _ _ h1) (hm1 _ _ h2),fun b r k V g h1=>h.ge _ _ _ _ _ (hm1 _ _ h1)⟩,fun _ _ h=>h,Grow.refl _ _,fun g _ hn hn'=>hn (hbad g hn'),?_⟩
 ·obtain⟨V,hV,hr⟩:=h.blk b r k (hm1 _ _ hb)
  exact⟨V,hV,hr.le hle fun _ _=>rfl⟩
 ·rintro g _ ⟨b,k,V,h1,h2,h3⟩
  exact⟨b,k,V,hm1 _ _ h1,h2,h3⟩
end Go.Proofs.Ytgmkppeghnlcmaa.X
end
section
set_option linter.unusedVariables false
set_option linter.unusedSimpArgs false
namespace Go.Proofs.Ytgmkppeghnlcmaa.X
open Go Go.RowKit
set_option linter.unusedVariables false
set_option linter.unusedSimpArgs false
def Kd.cells:(K:Kd)→K.T→List SV
  | .int k,x=>[.v (.int k x)]
  | .bool,x=>[.v (.bool x)]
  | .nil,_=>[]
  | .cons a b,x=>a.cells x.1++b.cells x.2
  | .sl a,xs=>[.seq a xs]
  | .ptr,x=>match (show Option (Nat × Nat) from x) with|none=>[.v (.pointer none)]|some (b,o)=>[.ptr b o]
def rd (K:Kd) (xs:List K.T) (i:Nat):K.T:=(xs[i]?).getD K.dflt
def castL {K a:Kd} (xs:List K.T):Option (List a.T):=if h:K=a then some (h▸xs) else none
def getT:List SV→Nat→SV
  | [],_=>.junk
  | s :: _,0=>s
  | _ :: l,n+1=>getT l n
def putT (l:List SV) (d:Option Nat) (s:SV):List SV:=match d with|none=>l|some d=>l.set d s
def ev (t:List SV):Operand→SV
  | .tmp n=>getT t n
  | .const v=>.v v
  | .global _=>.junk
  | .func f=>.fn (.func f) [] []
def svCells:SV→List SV
  | .agg l=>l
  | s=>[s]
def leafB:SV→Bool
  | .v x=>x.oneCell'
  | .ptr ..=>true
  | .seq ..=>true
  | .own _=>true
  | .arr ..=>true
  | .rptr ..=>true
  | .eptr ..=>true
  | .emp=>true
  | .fn ..=>true
  | _=>false
def parseN {T:Type} (f:List SV→Option (T × List SV)):Nat→List SV→Option (List T)
  | 0,_=>some []
  | n+1,l=>match f l with
    | some (x,r)=>match parseN f n r with
      | some xs=>some (x :: xs)
      | none=>none
    | none=>none
def parse (m:Mem) (al:Bool):(K:Kd)→List SV→Option (K.T × List SV)
  | .int k,.v (.int k' n) :: r=>if k'=k then some (n,r) else none
  | .bool,.v (.bool b) :: r=>some (b,r)
  | .nil,r=>some ((),r)
  | .cons a b,l=>match parse m al a l with
    | some (x,r)=>match parse m al b r with
      | some (y,r')=>some ((x,y),r')
      | none=>none
    | none=>none
  | .sl a,.seq K xs :: r=>match castL (a:=a) xs with|some ys=>some (ys,r)|none=>none
  | .sl a,.emp :: r=>some (([]:List a.T),r)
  | .sl a,.v (.slice none 0 0) :: r=>some (([]:List a.T),r)
  | .sl a,.own b :: r=>match al with
    | true=>match m[b]? with
      | some (some (_,.row _ K xs))=>match castL (a:=a) xs with|some ys=>some (ys,r)|none=>none
      | _=>none
    | false=>none
  | .sl a,.arr b off n c :: r=>match al with
    | true=>match m[b]? with
      | some (some (_,.cells cs))=>if off+n*a.size≤cs.length∧n≤c then match parseN (parse m false a) n (cs.drop off) with|some ys=>some (ys,r)|none=>none else none
      | _=>none
    | false=>none
  | .ptr,.ptr b o :: r=>some ((show Kd.ptr.T from (some (b,o):Option (Nat × Nat))),r)
  | .ptr,.v (.pointer none) :: r=>some ((show Kd.ptr.T from (none:Option (Nat × Nat))),r)
  | _,_=>none
inductive DS where
  | sc (K:Kd)
  | ag (K:Kd)
def DS.T:DS→Type
  | .sc K=>K.T
  | .ag K=>K.T
def DS.sv:(d:DS)→d.T→SV
  | .sc K,x=>match K.cells x with|[s]=>s|_=>.junk
  | .ag K,x=>.agg (K.cells x)
def DS.flat:DS→Bool
  | .sc K=>K.flat
  | .ag K=>K.flat
def DS.parse (m:Mem) (al:Bool):(d:DS)→SV→Option d.T
  | .sc K,s=>match K.np,X.parse m al K [s] with|true,some (x,[])=>some x|_,_=>none
  | .ag K,.agg l=>match K.np,X.parse m al K l with|true,some (x,[])=>some x|_,_=>none
  | _,_=>none
def DsT:List DS→Type
  | []=>Unit
  | d :: l=>d.T × DsT l
def svs:(l:List DS)→DsT l→List SV
  | [],_=>[]
  | d :: l,x=>d.sv x.1 :: svs l x.2
def parses (m:Mem) (al:Bool):(l:List DS)→List SV→Option (DsT l)
  | [],[]=>some ()
  | d :: l,s :: ss=>match d.parse m al s with
    | some x=>match parses m al l ss with
      | some y=>some (x,y)
      | none=>none
    | none=>none
  | _,_=>none
inductive RD where
  | one (d:DS)
  | many (l:List DS)
  | row (E:TypeId) (K:Kd)
def RD.T:RD→Type
  | .one d=>d.T
  | .many l=>DsT l
  | .row _ K=>List K.T
def RD.sv:(r:RD)→r.T→SV
  | .one d,x=>d.sv x
  | .many l,x=>.tup (svs l x)
  | .row _ _,_=>.junk
def RD.flat:RD→Bool
  | .one d=>d.flat
  | .many l=>l.all (·.flat)
  | .row _ _=>true
def nilB:Value→Bool
  | .slice none 0 0=>true
  | _=>false
def rowOf (m:Mem) (E:TypeId) (K:Kd):SV→Option (List K.T)
  | .own b=>match m[b]? with
    | some (some (_,.row e K' xs))=>if e=E∧K.flat=true then castL (a:=K) xs else none
    | _=>none
  | .v x=>if nilB x=true∧K.flat=true then some [] else none
  | _=>none
def RD.parse (m:Mem) (al:Bool):(r:RD)→SV→Option r.T
  | .one d,s=>d.parse m al s
  | .many l,.tup ss=>parses m al l ss
  | .row E K,s=>rowOf m E K s
  | _,_=>none
inductive TD where
  | int (k:IntKind)
  | bool
  | slice (e:Nat)
  | array (n e:Nat)
  | struct (fs:List (Nat × Nat))
  | ptr
  | other
  | bad
structure TI where
  size:Nat
  bytes:Nat
  zero:List Value
  cmp:Bool
  d:TD
structure Spec where
  A:List DS
  R:RD
  f:DsT A→Option R.T
inductive Fk (A:Type) where
  | no
  | yes (a:A)
  | fk (b:Bool) (x y:Fk A)
def Fk.opt {A:Type}:Fk A→Option A
  | .no=>none
  | .yes a=>some a
  | .fk b x y=>bif b then x.opt else y.opt
def Fk.go {A R:Type} (K:A→Option R):Fk A→Option R
  | .no=>none
  | .yes a=>K a
  | .fk b x y=>bif b then x.go K else y.go K
structure Alt where
  A:List DS
  R:RD
  f:DsT A→Fk R.T
inductive Ex where
  | normal
  | exit (id:Nat)
  | ret
  | goto (l:Nat)
structure Ctx where
  spec:FuncId→Option Spec
  alt:FuncId→Option Alt:=fun _=>none
  iter:FuncId→Option (List SV→Mem→Option (List SV × List Nat)):=fun _=>none
  inl:FuncId→Bool
  T:List TI
  fns:FuncId→Option Func
  sym:FuncId→Nat→Bool
noncomputable section
variable {R:Type}
def splitIdx (i:Int):Nat→(Nat→Option R)→Option R
  | 0,_=>none
  | n+1,k=>bif decide (i=(n:Int)) then k n else splitIdx i n k
def tdOf:TypeDesc→TD
  | .int k=>.int k
  | .bool=>.bool
  | .slice e=>.slice e
  | .array n e=>.array n e
  | .struct fs=>.struct (fs.toList.map fun f=>(f.offset,f.type))
  | .pointer _=>.ptr
  | _=>.other
def cmpOf (P:Program) (t:TypeId):TypeDesc→Bool
  | .struct fs=>!P.stoodInHeld t && !P.eqGuardType P.depth t && fs.all fun f=>f.name != "_"
  | .array _ _=>!P.eqGuardType P.depth t
  | _=>false
def tiOf (P:Program) (t:TypeId):TI:=match P.info? t,P.underlying t with
  | some i,some d=>match i.zero with
    | some z=>⟨i.size,i.bytes,z.cells.toList,cmpOf P t d,tdOf d⟩
    | none=>⟨i.size,i.bytes,[],false,.bad⟩
  | _,_=>⟨0,0,[],false,.bad⟩
def getI:List TI→Nat→TI
  | [],_=>⟨0,0,[],false,.bad⟩
  | x :: _,0=>x
  | _ :: l,n+1=>getI l n
def szOf (T:List TI) (t:TypeId):Nat:=(getI T t).size
def aggB (T:List TI) (t:TypeId):Bool:=match (getI T t).d with
  | .struct _=>true
  | .array _ _=>true
  | _=>false
def ldCells (m:Mem) (s:SV) (n:Nat):Option (List SV):=match s with
  | .ptr b off=>match m[b]? with
    | some (some (_,.cells cs))=>if off+n≤cs.length then some ((cs.drop off).take n) else none
    | _=>none
  | .rptr K x off=>if off+n≤K.size then some (((K.cells x).drop off).take n) else none
  | .eptr b sz i o=>match m[b]? with
    | some (some (_,.row _ K xs))=>if K.size=sz∧o+n≤sz then some (((K.cells (rd K xs i)).drop o).take n) else none
    | _=>none
  | _=>none
def okT (T:List TI) (t:TypeId):Bool:=match (getI T t).d with|.bad=>false|_=>true
def ldx (T:List TI) (m:Mem) (t:TypeId) (s:SV):Option SV:=match aggB T t with
  | true=>match ldCells m s (szOf T t) with|some l=>some (.agg l)|none=>none
  | false=>if okT T t=true then match ldCells m s 1 with|some [c]=>some c|_=>none else none
def splice (cs:List SV) (off:Nat) (l:List SV):List SV:=cs.take off++l++cs.drop (off+l.length)
def stx (T:List TI) (m:Mem) (t:TypeId) (p s:SV):Option Mem :=
  let l:=svCells s
  let n:=szOf T t
  if okT T t=true∧l.length=n∧l.all leafB=true then match p with
    | .ptr b off=>match m[b]? with
      | some (some (true,.cells cs))=>if off+n≤cs.length then some (m.set b (some (true,.cells (splice cs off l)))) else none
      | _=>none
    | .eptr b sz i o=>match m[b]? with
      | some (some (true,.row E K xs))=>if K.size=sz∧o+n≤sz then match parse m false K (splice (K.cells (rd K xs i)) o l) with
        | some (x,[])=>some (m.set b (some (true,.row E K (xs.set i x))))
        | _=>none else none
      | _=>none
    | _=>none else none
def partx (T:List TI) (t:TypeId) (l:List SV) (o n:Nat):Option SV:=match aggB T t with
  | true=>if o+n≤l.length then some (.agg ((l.drop o).take n)) else none
  | false=>match l[o]? with|some c=>some c|none=>none
def eqFs (T:List TI) (f:TypeId→SV→SV→Option Bool) (l l':List SV):List (Nat × Nat)→Option Bool
  | []=>some true
  | (o,t) :: r=>match partx T t l o (szOf T t),partx T t l' o (szOf T t) with
    | some a,some b=>match f t a b,eqFs T f l l' r with
      | some p,some q=>if okT T t=true then some (p && q) else none
      | _,_=>none
    | _,_=>none
def eqT (T:List TI):Nat→TypeId→SV→SV→Option Bool
  | 0,_,_,_=>none
  | d+1,t,x,y=>match (getI T t).d,x,y with
    | .int _,.v (.int k a),.v (.int k' b)=>if k=k' then some (a == b) else none
    | .bool,.v (.bool a),.v (.bool b)=>some (a == b)
    | .struct fs,.agg l,.agg l'=>if (getI T t).cmp=true then eqFs T (eqT T d) l l' fs else none
    | .array n e,.agg l,.agg l'=>if (getI T t).cmp=true∧okT T e=true then eqFs T (eqT T d) l l' ((List.range n).map fun i=>(i*szOf T e,e)) else none
    | _,_,_=>none
def intx (op:BinOp) (k:IntKind) (x:Int) (k':IntKind) (y:Int) (K:SV→Option R):Option R:=match op with
  | .shl=>bif decide (y<0) then none else K (.v (.int k (k.wrap (x*2^min y.toNat k.bits))))
  | .shr=>bif decide (y<0) then none else K (.v (.int k (x.fdiv (2^min y.toNat k.bits))))
  | .quo=>if k=k' then bif decide (y=0) then none else K (.v (.int k (k.wrap (x.tdiv y)))) else none
  | .rem=>if k=k' then bif decide (y=0) then none else K (.v (.int k (x.tmod y))) else none
  | .add=>if k=k' then K (.v (.int k (k.wrap (x+y)))) else none
  | .sub=>if k=k' then K (.v (.int k (k.wrap (x-y)))) else none
  | .mul=>if k=k' then K (.v (.int k (k.wrap (x*y)))) else none
  | .and=>if k=k' then K (.v (.int k (k.wrap (BitVec.ofInt k.bits x &&& BitVec.ofInt k.bits y).toNat))) else none
  | .or=>if k=k' then K (.v (.int k (k.wrap (BitVec.ofInt k.bits x ||| BitVec.ofInt k.bits y).toNat))) else none
  | .xor=>if k=k' then K (.v (.int k (k.wrap (BitVec.ofInt k.bits x ^^^ BitVec.ofInt k.bits y).toNat))) else none
  | .andNot=>if k=k' then K (.v (.int k (k.wrap (BitVec.ofInt k.bits x &&& ~~~BitVec.ofInt k.bits y).toNat))) else none
  | .eql=>if k=k' then K (.v (.bool (x == y))) else none
  | .neq=>if k=k' then K (.v (.bool (x != y))) else none
  | .lss=>if k=k' then K (.v (.bool (decide (x<y)))) else none
  | .leq=>if k=k' then K (.v (.bool (decide (x≤y)))) else none
  | .gtr=>if k=k' then K (.v (.bool (decide (x > y)))) else none
  | .geq=>if k=k' then K (.v (.bool (decide (x ≥ y)))) else none
def isInt:SV→Option (IntKind × Int)
  | .v (.int k x)=>some (k,x)
  | _=>none
def nilEq (T:List TI) (t:TypeId) (a b:SV):Option Bool:=match (getI T t).d,a,b with
  | .slice _,.seq _ (_ :: _),.v (.slice none _ _)=>some false
  | .slice _,.v (.slice (some _) _ _),.v (.slice none _ _)=>some false
  | .slice _,.v (.slice none _ _),.v (.slice none _ _)=>some true
  | .ptr,.ptr _ _,.v (.pointer none)=>some false
  | .ptr,.v (.pointer none),.v (.pointer none)=>some true
  | _,_,_=>none
def eqAny (T:List TI) (t:TypeId) (a b:SV):Option Bool:=match nilEq T t a b with
  | some r=>some r
  | none=>eqT T 12 t a b
def binx (T:List TI) (op:BinOp) (t:TypeId) (a b:SV) (K:SV→Option R):Option R:=match isInt a,isInt b with
  | some (k,x),some (k',y)=>intx op k x k' y K
  | _,_=>match op with
    | .eql=>match eqAny T t a b with|some r=>if okT T t=true then K (.v (.bool r)) else none|none=>none
    | .neq=>match eqAny T t a b with|some r=>if okT T t=true then K (.v (.bool (!r))) else none|none=>none
    | _=>none
def unx (op:UnOp) (a:SV) (K:SV→Option R):Option R:=match op,a with
  | .not,.v (.bool b)=>K (.v (.bool (!b)))
  | .neg,.v (.int k n)=>K (.v (.int k (k.wrap (0-n))))
  | .xor,.v (.int k n)=>K (.v (.int k (k.wrap (BitVec.ofInt k.bits (if k.signed then -1 else k.max) ^^^ BitVec.ofInt k.bits n).toNat)))
  | _,_=>none
def cvx (T:List TI) (src dst:TypeId) (a:SV) (K:SV→Option R):Option R:=match (getI T src).d,(getI T dst).d,a with
  | .int _,.int k,.v (.int _ n)=>K (.v (.int k (k.wrap n)))
  | _,_,_=>none
def s2ax (T:List TI) (t:TypeId) (s:SV):Option SV:=match (getI T t).d,s with
  | .array n _,.arr b off l _=>if n≤l then some (.ptr b off) else none
  | _,_=>none
def fieldOf (T:List TI) (t:TypeId) (f:Nat):Option (Nat × TypeId × Nat):=match (getI T t).d with
  | .struct fs=>match fs[f]? with
    | some (o,ty)=>if okT T ty=true∧0<szOf T ty then some (o,ty,szOf T ty) else none
    | none=>none
  | _=>none
def faddr (s:SV) (o:Nat):Option SV:=match s with
  | .ptr b off=>some (.ptr b (off+o))
  | .rptr K x off=>some (.rptr K x (off+o))
  | .eptr b sz i off=>some (.eptr b sz i (off+o))
  | _=>none
def inB (i:Int) (n:Nat):Bool:=decide (0≤i) && decide (i<(n:Int))
def iaddr (T:List TI) (m:Mem) (t:TypeId) (x:SV) (i:Int) (K:SV→Option R):Option R:=match (getI T t).d with
  | .array n e=>if okT T e=true then match x with
    | .ptr b off=>splitIdx i n fun j=>K (.ptr b (off+j*szOf T e))
    | _=>none else none
  | .slice e=>if okT T e=true then match x with
    | .seq Kd xs=>if Kd.size=szOf T e then bif inB i xs.length then K (.rptr Kd (rd Kd xs i.toNat) 0) else none else none
    | .own b=>match m[b]? with
      | some (some (_,.row _ Kd xs))=>if Kd.size=szOf T e then bif inB i xs.length then K (.eptr b (szOf T e) i.toNat 0) else none else none
      | _=>none
    | .arr b off n c=>splitIdx i n fun j=>K (.ptr b (off+j*szOf T e))
    | _=>none else none
  | _=>none
def ixx (T:List TI) (t:TypeId) (x:SV) (i:Int) (K:SV→Option R):Option R:=match (getI T t).d,x with
  | .array n e,.agg l=>if okT T e=true then splitIdx i n fun j=>match partx T e l (j*szOf T e) (szOf T e) with|some c=>K c|none=>none else none
  | _,_=>none
def kindN (n:Nat) (K:Kd):Kd:=match n with|0=>.nil|n+1=>.cons K (kindN n K)
def kinds (f:TypeId→Option Kd):List (Nat × Nat)→Option Kd
  | []=>some .nil
  | (_,t) :: l=>match f t,kinds f l with|some a,some b=>some (.cons a b)|_,_=>none
def kindOf (T:List TI):Nat→TypeId→Option Kd
  | 0,_=>none
  | d+1,t=>match (getI T t).d with
    | .int k=>some (.int k)
    | .bool=>some .bool
    | .slice e=>match kindOf T d e with|some a=>some (.sl a)|none=>none
    | .array n e=>match kindOf T d e with|some a=>some (kindN n a)|none=>none
    | .struct fs=>kinds (kindOf T d) fs
    | .ptr=>some .ptr
    | .other=>none
    | .bad=>none
def zeroCells (T:List TI) (t:TypeId):Option (List SV):=if okT T t=true then some ((getI T t).zero.map SV.v) else none
def fillx (place:Nat→Option (Nat × Nat)) (cells:List SV):List (Nat × SV)→Option (List SV)
  | []=>some cells
  | (i,s) :: rest=>match place i with
    | none=>none
    | some (off,size)=>let l:=svCells s
      if l.length=size∧off+l.length≤cells.length∧l.all leafB=true then fillx place (splice cells off l) rest else none
def buildx (T:List TI) (t:TypeId) (parts:List (Nat × SV)):Option SV:=match zeroCells T t,(getI T t).d with
  | some z,.struct fs=>match fillx (fun i=>match fs[i]? with|some f=>some (f.1,szOf T f.2)|none=>none) z parts with
    | some l=>if fs.all (fun f=>okT T f.2)=true then some (.agg l) else none
    | none=>none
  | some z,.array _ e=>match fillx (fun i=>some (i*szOf T e,szOf T e)) z parts with|some l=>if okT T e=true then some (.agg l) else none|none=>none
  | _,_=>none
def repl {T:Type}:Nat→List T→List T
  | 0,_=>[]
  | n+1,l=>l++repl n l
def bslx (T:List TI) (p:Option Nat) (m:Mem) (t:TypeId) (len:Nat) (parts:List (Nat × SV)) (K:SV→Mem→Option R):Option R:=match (getI T t).d with
  | .slice e=>match zeroCells T e,kindOf T 20 e with
    | some z,some Kd=>if 0<szOf T e∧z.length=szOf T e∧Kd.size=szOf T e∧len*szOf T e≤2^24 then
        match fillx (fun i=>some (i*szOf T e,szOf T e)) (repl len z) parts with
        | some l=>if l.length=len*szOf T e then match parseN (parse m false Kd) len l with
          | some xs=>K (.own (memNew p m)) (memPut p m (.row e Kd xs))
          | none=>none else none
        | none=>none
      else none
    | _,_=>none
  | _=>none
def roomB:Nat:=140737488355328
def zerB:Value→Bool
  | .slice _ 0 _=>true
  | _=>false
def elems (m:Mem) (a:Kd):SV→Option (List a.T)
  | .seq K xs=>castL xs
  | .emp=>some []
  | .v x=>if zerB x=true then some [] else none
  | .own b=>match m[b]? with
    | some (some (_,.row _ K xs))=>castL xs
    | _=>none
  | .arr b off n c=>match m[b]? with
    | some (some (_,.cells cs))=>if n≤c then parseN (parse m false a) n (cs.drop off) else none
    | _=>none
  | _=>none
def room (T:List TI) (e:TypeId) (n:Nat):Bool:=decide (n*(getI T e).bytes≤roomB)
def appx (T:List TI) (p:Option Nat) (m:Mem) (t:TypeId) (s x:SV) (K:SV→Mem→Option R):Option R:=match (getI T t).d with
  | .slice e=>match kindOf T 20 e with
    | some Kd=>if 0<szOf T e∧Kd.size=szOf T e∧(getI T e).zero.length=szOf T e∧0<(getI T e).bytes∧okT T e=true then
        match elems m Kd x with
        | some ys=>match s with
          | .v x=>if nilB x=true then bif room T e ys.length then K (.own (memNew p m)) (memPut p m (.row e Kd ys)) else none else none
          | .emp=>bif decide (0<ys.length) && room T e ys.length then K (.own (memNew p m)) (memPut p m (.row e Kd ys)) else none
          | .own b=>match m[b]? with
            | some (some (true,.row e' K' xs))=>match castL (a:=Kd) xs with
              | some zs=>if e'=e then bif room T e (zs.length+ys.length) then K (.own (memNew p m)) (memPut p (m.set b none) (.row e Kd (zs++ys))) else none else none
              | none=>none
            | _=>none
          | .arr b off n c=>if n=c then match elems m Kd s with
            | some zs=>bif decide (0<ys.length) && room T e (zs.length+ys.length) then K (.own (memNew p m)) (memPut p m (.row e Kd (zs++ys))) else none
            | none=>none else none
          | _=>none
        | none=>none
      else none
    | _=>none
  | _=>none
def lenx (T:List TI) (m:Mem) (t:TypeId) (s:SV):Option Int:=match (getI T t).d,s with
  | .slice _,.seq _ xs=>some xs.length
  | .slice _,.own b=>match m[b]? with
    | some (some (_,.row _ _ xs))=>some xs.length
    | _=>none
  | .slice _,.emp=>some 0
  | .slice _,.v (.slice _ n _)=>some n
  | .slice _,.arr _ _ n _=>some n
  | .array n _,_=>some n
  | _,_=>none
def bnd (s:Option SV) (d:Int):Option Int:=match s with|none=>some d|some (.v (.int _ n))=>some n|_=>none
def slx (T:List TI) (m:Mem) (t:TypeId) (x:SV) (lo hi mx:Option SV) (K:SV→Option R):Option R:=match (getI T t).d,x with
  | .array n e,.ptr b off=>match bnd lo 0,bnd hi n,mx with
    | some l,some h,none=>if okT T e=true then splitIdx l (n+1) fun l=>splitIdx h (n+1) fun h=>if l≤h∧l<n then K (.arr b (off+l*szOf T e) (h-l) (n-l)) else none else none
    | _,_,_=>none
  | .slice e,.seq Kd xs=>match mx with
    | none=>match bnd lo 0,bnd hi xs.length with
      | some l,some h=>if Kd.size=szOf T e∧okT T e=true then bif decide (0≤l) && (decide (l≤h) && decide (h≤xs.length)) then K (.seq Kd ((xs.take h.toNat).drop l.toNat)) else none else none
      | _,_=>none
    | some (.v (.int _ n))=>match bnd lo 0,hi with
      | some l,some (.v (.int _ h))=>if okT T e=true then bif decide (n=0) && (decide (l=0) && decide (h=0)) then K .emp else none else none
      | _,_=>none
    | _=>none
  | .slice e,.arr b off n c=>match mx with
    | none=>match bnd lo 0,bnd hi n with
      | some l,some h=>if okT T e=true∧n≤c then splitIdx l (n+1) fun l=>splitIdx h (n+1) fun h=>if l≤h∧l<c then K (.arr b (off+l*szOf T e) (h-l) (c-l)) else none else none
      | _,_=>none
    | some _=>none
  | _,_=>none
def minmaxF (mx:Bool) (k:IntKind):Int→List SV→Option SV
  | x,[]=>some (.v (.int k x))
  | x,.v (.int k' y) :: l=>if k'=k then minmaxF mx k (match mx with|true=>if x<y then y else x|false=>if y<x then y else x) l else none
  | _,_=>none
def minmax (mx:Bool):List SV→Option SV
  | .v (.int k a) :: l=>minmaxF mx k a l
  | _=>none
def bix (T:List TI) (p:Option Nat) (b:Builtin) (ts:List TypeId) (m:Mem) (as:List SV) (K:SV→Mem→Option R):Option R:=match b,ts,as with
  | .len,t :: _,s :: _=>match lenx T m t s with|some n=>K (.v (.int .i64 n)) m|none=>none
  | .append,[t,t'],[s,x]=>if t'=t then appx T p m t s x K else none
  | .max,_,as=>match minmax true as with|some s=>K s m|none=>none
  | .min,_,as=>match minmax false as with|some s=>K s m|none=>none
  | _,_,_=>none
abbrev Rec (R:Type):=FuncId→List SV→Mem→(SV→Mem→Option R)→Option R
def RD.give (p:Option Nat) (m:Mem):(R:RD)→R.T→SV × Mem
  | .row E K,xs=>(.own (memNew p m),memPut p m (.row E K xs))
  | .one d,x=>(d.sv x,m)
  | .many l,x=>(.tup (svs l x),m)
def callx0 (X:Ctx) (rec:Rec R) (f:FuncId) (as:List SV) (p:Option Nat) (m:Mem) (K:SV→Mem→Option R):Option R:=match X.spec f with
  | some sp=>match parses m sp.R.flat sp.A as with
    | some x=>(sp.f x).bind fun r=>K (sp.R.give p m r).1 (sp.R.give p m r).2
    | none=>none
  | none=>if X.inl f then rec f as m K else none
def callx (X:Ctx) (rec:Rec R) (f:FuncId) (as:List SV) (p:Option Nat) (m:Mem) (K:SV→Mem→Option R):Option R:=match X.alt f with
  | some al=>match parses m al.R.flat al.A as with
    | some x=>(al.f x).go fun r=>K (al.R.give p m r).1 (al.R.give p m r).2
    | none=>none
  | none=>callx0 X rec f as p m K
def mapSV (e:Operand→SV):List (Nat × Operand)→List (Nat × SV)
  | []=>[]
  | (i,x) :: l=>(i,e x) :: mapSV e l
def opx (X:Ctx) (rec:Rec R) (fid:FuncId) (p:Option Nat) (o:Oper) (s:St) (K:SV→Mem→Option R):Option R :=
  let e:=ev s.t
  match o.op with
  | .move x=>K (e x) s.m
  | .assign x=>K (e x) s.m
  | .pick c a b=>match e c with
    | .v (.bool c)=>match e a,e b with
      | .v (.bool x),.v (.bool y)=>K (.v (.bool (bif c then x else y))) s.m
      | _,_=>bif c then K (e a) s.m else K (e b) s.m
    | _=>none
  | .alloc t=>match zeroCells X.T t with|some z=>K (.ptr (memNew p s.m) 0) (memPut p s.m (.cells z))|none=>none
  | .box t x=>if (svCells (e x)).all leafB=true then K (.ptr (memNew p s.m) 0) (memPut p s.m (.cells (svCells (e x)))) else none
  | .build t parts=>match buildx X.T t (mapSV e parts.toList) with|some v=>K v s.m|none=>none
  | .buildSlice t n parts=>bslx X.T p s.m t n (mapSV e parts.toList) K
  | .nilCheck x=>match e x with
    | .ptr b o=>K (.ptr b o) s.m
    | _=>none
  | .load t a=>match ldx X.T s.m t (e a) with|some v=>K v s.m|none=>none
  | .store t a x=>match stx X.T s.m t (e a) (e x) with|some m=>K .junk m|none=>none
  | .binOp op t x y _=>binx X.T op t (e x) (e y) fun v=>K v s.m
  | .unOp op _ x=>unx op (e x) fun v=>K v s.m
  | .convert src dst x=>cvx X.T src dst (e x) fun v=>K v s.m
  | .sliceToArrayPointer t x=>match s2ax X.T t (e x) with|some v=>K v s.m|none=>none
  | .slice t x lo hi mx=>slx X.T s.m t (e x) (lo.map e) (hi.map e) (mx.map e) fun v=>K v s.m
  | .fieldAddr t x f=>match fieldOf X.T t f with
    | some (o,_,_)=>match faddr (e x) o with|some v=>K v s.m|none=>none
    | none=>none
  | .field t x f=>match fieldOf X.T t f,e x with
    | some (o,ty,n),.agg l=>match partx X.T ty l o n with|some v=>K v s.m|none=>none
    | _,_=>none
  | .indexAddr t x i=>match e i with|.v (.int _ n)=>iaddr X.T s.m t (e x) n fun v=>K v s.m|_=>none
  | .index t x i=>match e i with|.v (.int _ n)=>ixx X.T t (e x) n fun v=>K v s.m|_=>none
  | .extract t i=>match e t with|.tup l=>(match l[i]? with|some v=>K v s.m|none=>none)|_=>none
  | .makeFunc f a b=>K (.fn f (a.toList.map e) (b.toList.map e)) s.m
  | .call c=>match c.callee with
    | .builtin b=>bix X.T p b c.argTypes.toList s.m (c.args.toList.map e) K
    | .value f=>match e f with
      | .fn (.func f) first cap=>callx X rec f (first++c.args.toList.map e++cap) p s.m K
      | _=>none
    | _=>none
  | _=>none
def eqB (c want:Bool):Bool:=match want with|true=>c|false=>!c
mutual
def names:SV→List Nat
  | .agg l=>namesL l
  | .tup l=>namesL l
  | .ptr b _=>[b]
  | .own b=>[b]
  | .arr b _ _ _=>[b]
  | .eptr b _ _ _=>[b]
  | .fn _ x y=>namesL x++namesL y
  | _=>[]
def namesL:List SV→List Nat
  | []=>[]
  | s :: l=>names s++namesL l
end
def opg (X:Ctx) (rec:Rec R) (fid:FuncId) (p:Option Nat) (ops:Array Oper) (o:Oper) (s:St) (K:St→Option R):Option R:=match o.guard with
  | none=>opx X rec fid p o s fun v m=>K ⟨putT s.t o.dst v,m⟩
  | some (j,want)=>match (ops[j]?).bind (·.dst) with
    | some d=>match getT s.t d with
      | .v (.bool c)=>bif eqB c want
        then opx X rec fid p o ⟨s.t.set d (.v (.bool want)),s.m⟩ fun v m=>K ⟨putT (s.t.set d (.v (.bool want))) o.dst v,m⟩
        else K ⟨putT (s.t.set d (.v (.bool (!want)))) o.dst (.v undef),s.m⟩
      | .v (.tuple _)=>K ⟨putT s.t o.dst (.v undef),s.m⟩
      | _=>none
    | none=>none
def opsx (X:Ctx) (rec:Rec R) (fid:FuncId) (ops:Array Oper):List Oper→St→(St→Option R)→Option R
  | [],s,K=>K s
  | o :: l,s,K=>opg X rec fid none ops o s fun s'=>opsx X rec fid ops l s' K
def opNames (t:List SV) (o:Oper):List Nat:=namesL (o.op.operands.toList.map (ev t))
def opWrites (t:List SV) (o:Oper):List Nat:=match o.op with
  | .store _ a _=>match ev t a with
    | .ptr b _=>[b]
    | .eptr b _ _ _=>[b]
    | _=>[]
  | .call c=>match c.callee with
    | .builtin .append=>match c.args.toList with
      | s :: _=>match ev t s with
        | .own b=>[b]
        | _=>[]
      | _=>[]
    | _=>[]
  | _=>[]
def hasN:List Nat→Nat→Bool
  | [],_=>false
  | x :: l,n=>Nat.beq x n || hasN l n
def seen (V W:List Nat) (b:Nat) (x:Option (Bool × Blk)):Option (Bool × Blk) :=
  bif hasN W b then x else bif hasN V b then (match x with|some (_,k)=>some (false,k)|none=>none) else none
def made (U:List Nat) (b:Nat) (x:Option (Bool × Blk)) (y:Option (Option (Bool × Blk))):Option (Bool × Blk) :=
  bif hasN U b then (match y with|some (some (true,k))=>some (true,k)|_=>none) else x
def maskF (V W:List Nat):Nat→Mem→Mem
  | _,[]=>[]
  | i,x :: l=>seen V W i x :: maskF V W (i+1) l
def mask (V W:List Nat) (m:Mem):Mem:=maskF V W 0 m
def mergeF (U:List Nat):Nat→Mem→Mem→Mem
  | _,[],_=>[]
  | i,x :: l,[]=>made U i x none :: mergeF U (i+1) l []
  | i,x :: l,y :: l'=>made U i x (some y) :: mergeF U (i+1) l l'
def merge (U:List Nat) (m m':Mem):Mem:=mergeF U 0 m m'
def bitsOf (o:Oper) (acc:List Nat):Nat:=o.after.toList.foldl (fun s e=>if Region.binds .any e=true then s ||| (1 <<< e.on) ||| acc.getD e.on 0 else s) 0
def bitsL:List Oper→List Nat→List Nat
  | [],acc=>acc
  | o :: l,acc=>bitsL l (acc++[bitsOf o acc])
def disj (a b:List Nat):Bool:=a.all fun x=>!hasN b x
structure Dr where
  i:Nat
  V:List Nat
  W:List Nat
def meetOk (ops:Array Oper) (bits:List Nat) (base:Nat) (x y:Dr):Bool :=
  (decide (x.i<y.i) && ((bits.getD y.i 0).testBit x.i || (match ops[x.i]?,ops[y.i]? with
    | some o,some o'=>o.apart ops o' && disj ((base+x.i) :: x.W) (y.V++y.W) && disj ((base+y.i) :: y.W) (x.V++x.W) && disj ((base+x.i) :: x.W) ((base+y.i) :: y.W)
    | _,_=>false))) || !decide (x.i<y.i)
def backOk:List Oper→Nat→Bool
  | [],_=>true
  | o :: l,i=>o.after.toList.all (fun e=>!Region.binds .any e || decide (e.on<i)) && backOk l (i+1)
def drawsOk (ops:Array Oper) (base:Nat) (ds:List Dr):Bool :=
  let bits:=bitsL ops.toList []
  backOk ops.toList 0 && ds.all fun y=>ds.all fun x=>meetOk ops bits base x y
def none4:Rec R:=fun _ _ _ _=>none
def opd (X:Ctx) (fid:FuncId) (p:Nat) (ops:Array Oper) (o:Oper) (s:St) (K:List Nat→List Nat→St→Option R):Option R:=match o.guard with
  | none=>opx X none4 fid (some p) o ⟨s.t,mask (opNames s.t o) (opWrites s.t o) s.m⟩ fun v m=>K (opNames s.t o) (opWrites s.t o) ⟨putT s.t o.dst v,merge (p :: opWrites s.t o) s.m m⟩
  | some (j,want)=>match (ops[j]?).bind (·.dst) with
    | some d=>match getT s.t d with
      | .v (.bool c)=>bif eqB c want
        then opx X none4 fid (some p) o ⟨s.t.set d (.v (.bool want)),mask (opNames s.t o) (opWrites s.t o) s.m⟩ fun v m=>K (opNames s.t o) (opWrites s.t o) ⟨putT (s.t.set d (.v (.bool want))) o.dst v,merge (p :: opWrites s.t o) s.m m⟩
        else K [] [] ⟨putT (s.t.set d (.v (.bool (!want)))) o.dst (.v undef),s.m⟩
      | .v (.tuple _)=>K [] [] ⟨putT s.t o.dst (.v undef),s.m⟩
      | _=>none
    | none=>none
def drawGo (X:Ctx) (fid:FuncId) (ops:Array Oper) (base:Nat):Nat→List Oper→List Dr→St→(List Dr→St→Option R)→Option R
  | _,[],ds,s,K=>K ds s
  | i,o :: l,ds,s,K=>opd X fid (base+i) ops o s fun V W s'=>drawGo X fid ops base (i+1) l (ds++[⟨i,V,W⟩]) s' K
def drawx (X:Ctx) (fid:FuncId) (ops:Array Oper) (s:St) (K:St→Option R):Option R :=
  drawGo X fid ops s.m.length 0 ops.toList [] ⟨s.t,s.m++List.replicate ops.size none⟩ fun ds s'=>if drawsOk ops s.m.length ds=true then K s' else none
def reachx (m:Mem):Nat→List Nat→List Nat→List Nat
  | 0,_,acc=>acc.reverse
  | _,[],acc=>acc.reverse
  | n+1,b :: todo,acc=>if acc.contains b then reachx m n todo acc else match m[b]? with
    | some (some (_,.cells cs))=>reachx m n (todo++namesL cs) (b :: acc)
    | some (some (_,.row ..))=>reachx m n todo (b :: acc)
    | _=>reachx m n todo acc
def idx (l:List Nat) (b:Nat):Option Nat:=match l with
  | []=>none
  | x :: l=>if x=b then some 0 else match idx l b with|some i=>some (i+1)|none=>none
mutual
def ren (f:Nat→Option Nat):SV→SV
  | .agg l=>.agg (rens f l)
  | .tup l=>.tup (rens f l)
  | .ptr b o=>match f b with|some i=>.ptr i o|none=>.junk
  | .own b=>match f b with|some i=>.own i|none=>.junk
  | .arr b o n c=>match f b with|some i=>.arr i o n c|none=>.junk
  | .eptr b sz i o=>match f b with|some j=>.eptr j sz i o|none=>.junk
  | .seq K xs=>match K.np with|true=>.seq K xs|false=>.junk
  | .rptr K x o=>match K.np with|true=>.rptr K x o|false=>.junk
  | .fn g x y=>.fn g (rens f x) (rens f y)
  | s=>s
def rens (f:Nat→Option Nat):List SV→List SV
  | []=>[]
  | s :: l=>ren f s :: rens f l
end
def nodupB:List Nat→Bool
  | []=>true
  | x :: l=>!l.contains x && nodupB l
def gcWith (order:List Nat) (s:St):St :=
  ⟨rens (idx order) s.t,order.map fun b=>match s.m[b]? with
    | some (some (r,k))=>(match k with
      | Blk.cells cs=>some (r,Blk.cells (rens (idx order) cs))
      | Blk.row e K xs=>(match K.np with|true=>some (r,Blk.row e K xs)|false=>none))
    | _=>none⟩
def clean (dead:List Nat) (t:List SV):List SV:=dead.foldl (fun t d=>t.set d .junk) t
def headx (dead:List Nat) (s:St):Option St :=
  let t:=clean dead s.t
  let order:=reachx s.m 200 (namesL t) []
  if nodupB order=true then some (gcWith order ⟨t,s.m⟩) else none
def loopx (body:St→(Ex→St→Option R)→Option R) (hd hx:St→Option St):Nat→St→(Ex→St→Option R)→Option R
  | 0,_,_=>none
  | n+1,s,K=>body s fun e s'=>match e with
    | .normal=>match hd s' with|some s'=>loopx body hd hx n s' K|none=>none
    | .exit i=>match hx s' with|some s'=>K (.exit i) s'|none=>none
    | .ret=>match hx s' with|some s'=>K .ret s'|none=>none
    | .goto l=>match hx s' with|some s'=>K (.goto l) s'|none=>none
def firstRid:Code→Nat
  | .region id _ _=>id
  | .seq a _=>firstRid a
  | .block _ c=>firstRid c
  | .loop c=>firstRid c
  | _=>0
abbrev Lps (R:Type):=FuncId→Nat→Option (St→(Ex→St→Option R)→Option R)
def plainC:Code→Bool
  | .skip=>true
  | .region ..=>true
  | .seq a b=>plainC a && plainC b
  | .cond _ a b=>plainC a && plainC b
  | .block _ c=>plainC c
  | .exit _=>true
  | .ret=>true
  | _=>false
def lockF (L:List Nat):Nat→Mem→Mem
  | _,[]=>[]
  | i,x :: l=>(bif hasN L i then (match x with|some (_,k)=>some (false,k)|none=>none) else x) :: lockF L (i+1) l
def lockM (L:List Nat) (m:Mem):Mem:=lockF L 0 m
def lockAll:Mem→Mem
  | []=>[]
  | x :: l=>(match x with|some (_,k)=>some (false,k)|none=>none) :: lockAll l
def reflag:Mem→Mem→Mem
  | x :: l,y :: m=>(match x,y with|some (f,_),some (_,k)=>some (f,k)|_,_=>none) :: reflag l m
  | [],m=>m
  | _ :: _,[]=>[]
def rangeGo (asg bod:St→(Ex→St→Option R)→Option R) (t:List SV) (p:Nat):List SV→Mem→(Ex→St→Option R)→Option R
  | [],m,K=>K .normal ⟨t,m⟩
  | y :: ys,m,K=>asg ⟨t.set p y,lockAll m⟩ fun e s1=>match e with
    | .normal=>bod ⟨s1.t,reflag m s1.m⟩ fun e s2=>match e with
      | .normal=>rangeGo asg bod t p ys s2.m K
      | .exit i=>K (.exit i) ⟨t,s2.m⟩
      | .ret=>K .ret ⟨t,s2.m⟩
      | .goto _=>none
    | _=>none
def codex (X:Ctx) (lps:Lps R) (rec:Rec R) (fid:FuncId):Code→St→(Ex→St→Option R)→Option R
  | .skip,s,K=>K .normal s
  | .region _ ops false,s,K=>opsx X rec fid ops ops.toList s (K .normal)
  | .region _ ops true,s,K=>drawx X fid ops s (K .normal)
  | .seq a b,s,K=>codex X lps rec fid a s fun e s'=>match e with
    | .normal=>codex X lps rec fid b s' K
    | .exit i=>K (.exit i) s'
    | .ret=>K .ret s'
    | .goto l=>K (.goto l) s'
  | .cond c a b,s,K=>match ev s.t c with
    | .v (.bool x)=>bif x then codex X lps rec fid a s K else codex X lps rec fid b s K
    | _=>none
  | .block id c,s,K=>codex X lps rec fid c s fun e s'=>match e with
    | .exit i=>if i=id then K .normal s' else K (.exit i) s'
    | .normal=>K .normal s'
    | .ret=>K .ret s'
    | .goto l=>K (.goto l) s'
  | .loop c,s,K=>match lps fid (firstRid c) with
    | none=>loopx (codex X lps rec fid c) some some 300 s K
    | some L=>L s K
  | .scope c,s,K=>codex X lps rec fid c s fun e s'=>match e with
    | .normal=>K .normal s'
    | .exit i=>K (.exit i) s'
    | .ret=>K .ret s'
    | .goto l=>match lps fid (1000+l) with
      | some L=>L s' K
      | none=>none
  | .label _,s,K=>K .normal s
  | .goto l,s,K=>K (.goto l) s
  | .rangeFunc c ps asg bod,s,K=>match ev s.t c,ps.toList with
    | .fn (.func g) [] cap,[p]=>match X.iter g with
      | some it=>if plainC asg && plainC bod then (it cap s.m).bind fun yl=>rangeGo (codex X lps rec fid asg) (codex X lps rec fid bod) s.t p yl.1 (lockM yl.2 s.m) fun e s'=>K e ⟨s'.t,reflag s.m s'.m⟩ else none
      | none=>none
    | _,_=>none
  | .exit id,s,K=>K (.exit id) s
  | .ret,s,K=>K .ret s
  | _,_,_=>none
def resx (T:List TI) (s:St):List ResultVar→Option (List SV)
  | []=>some []
  | .tmp t :: l=>match resx T s l with|some r=>some (getT s.t t :: r)|none=>none
  | .cell a t :: l=>match ldx T s.m t (getT s.t a),resx T s l with|some v,some r=>some (v :: r)|_,_=>none
def retx (T:List TI) (fn:Func) (s:St) (K:SV→Mem→Option R):Option R:=match resx T s fn.results.toList with
  | some [v]=>K v s.m
  | some l=>K (.tup l) s.m
  | none=>none
def endx (T:List TI) (fn:Func) (K:SV→Mem→Option R):Ex→St→Option R:=fun e s=>match e with
  | .normal=>retx T fn s K
  | .ret=>retx T fn s K
  | .exit _=>none
  | .goto _=>none
def startx (fn:Func) (as:List SV) (m:Mem):St:=⟨as++List.replicate (fn.ntmps-as.length) .junk,m⟩
def callN (X:Ctx):Nat→Rec R
  | 0=>fun _ _ _ _=>none
  | d+1=>fun f as m K=>match X.fns f with
    | some fn=>match fn.body with
      | some c=>codex X (fun _ _=>none) (callN X d) f c (startx fn as m) (endx X.T fn K)
      | none=>none
    | none=>none
end
noncomputable def runx (X:Ctx) (lps:{R:Type}→Lps R) (f:FuncId) (as:List SV) (Rt:RD):Option Rt.T:=match X.fns f with
  | some fn=>match fn.body with
    | some c=>codex X lps (callN X 20) f c (startx fn as []) (endx X.T fn fun v m=>Rt.parse m true v)
    | none=>none
  | none=>none
noncomputable def fnx (X:Ctx) (lps:{R:Type}→Lps R) (f:FuncId) (A:List DS) (Rt:RD) (x:DsT A):Option Rt.T:=runx X lps f (svs A x) Rt
def loopsOf:Code→List Code
  | .seq a b=>loopsOf a++loopsOf b
  | .cond _ a b=>loopsOf a++loopsOf b
  | .block _ c=>loopsOf c
  | .loop c=>c :: loopsOf c
  | .scope c=>loopsOf c
  | _=>[]
def scopesOf:Code→List Code
  | .seq a b=>scopesOf a++scopesOf b
  | .cond _ a b=>scopesOf a++scopesOf b
  | .block _ c=>scopesOf c
  | .loop c=>scopesOf c
  | .scope c=>c :: scopesOf c
  | _=>[]
def bodyOf (X:Ctx) (f:FuncId):Code:=((X.fns f).bind (·.body)).getD .skip
def gbody {R:Type} (body:St→(Ex→St→Option R)→Option R) (l:Nat):St→(Ex→St→Option R)→Option R:=fun s K=>body s fun e s'=>match e with
  | .goto l'=>if l'=l then K .normal s' else none
  | .normal=>none
  | .exit i=>K (.exit i) s'
  | .ret=>K .ret s'
end Go.Proofs.Ytgmkppeghnlcmaa.X
end
section
set_option linter.unusedVariables false
set_option linter.unusedSimpArgs false
namespace Go.Proofs.Ytgmkppeghnlcmaa.X
open Go Go.RowKit
set_option linter.unusedVariables false
set_option linter.unusedSimpArgs false
theorem SReps.len {C:RC}:∀ {l:List SV} {vs:List Value},SReps C l vs→l.length=vs.length
 | [],vs,h=>by simp only [SReps] at h;subst h;rfl
 | s :: l,vs,h=>by
  simp only [SReps] at h
  obtain⟨v,vs',rfl,_,h2⟩:=h
  simp [SReps.len h2]
theorem SReps.get {C:RC}:∀ {l:List SV} {vs:List Value} {i:Nat} {s:SV},SReps C l vs→l[i]? = some s→∃ v,vs[i]? = some v∧SRep C s v
 | [],vs,i,s,h,hi=>by simp at hi
 | x :: l,vs,i,s,h,hi=>by
  simp only [SReps] at h
  obtain⟨v,vs',rfl,h1,h2⟩:=h
  cases i with
  | zero=>simp at hi;subst hi;exact⟨v,by simp,h1⟩
  | succ i=>simp at hi;obtain⟨u,hu,hr⟩:=SReps.get h2 hi;exact⟨u,by simpa using hu,hr⟩
theorem SReps.app {C:RC}:∀ {l l':List SV} {vs vs':List Value},SReps C l vs→SReps C l' vs'→SReps C (l++l') (vs++vs')
 | [],l',vs,vs',h,h'=>by simp only [SReps] at h;subst h;exact h'
 | s :: l,l',vs,vs',h,h'=>by
  simp only [SReps] at h
  obtain⟨v,us,rfl,h1,h2⟩:=h
  simp only [List.cons_append,SReps]
  exact⟨v,us++vs',rfl,h1,SReps.app h2 h'⟩
theorem SReps.drop {C:RC}:∀ {l:List SV} {vs:List Value} (n:Nat),SReps C l vs→SReps C (l.drop n) (vs.drop n)
 | [],vs,n,h=>by simp only [SReps] at h;subst h;simp [SReps]
 | s :: l,vs,0,h=>h
 | s :: l,vs,n+1,h=>by
  simp only [SReps] at h
  obtain⟨v,us,rfl,h1,h2⟩:=h
  simpa using SReps.drop n h2
theorem SReps.take {C:RC}:∀ {l:List SV} {vs:List Value} (n:Nat),SReps C l vs→SReps C (l.take n) (vs.take n)
 | [],vs,n,h=>by simp only [SReps] at h;subst h;simp [SReps]
 | s :: l,vs,0,h=>by simp [SReps]
 | s :: l,vs,n+1,h=>by
  simp only [SReps] at h
  obtain⟨v,us,rfl,h1,h2⟩:=h
  simp only [List.take_succ_cons,SReps]
  exact⟨v,us.take n,rfl,h1,SReps.take n h2⟩
theorem SReps.set {C:RC}:∀ {l:List SV} {vs:List Value} (i:Nat) {s:SV} {v:Value},SReps C l vs→SRep C s v→SReps C (l.set i s) (vs.set i v)
 | [],vs,i,s,v,h,hs=>by simp only [SReps] at h;subst h;simp [SReps]
 | x :: l,vs,i,s,v,h,hs=>by
  simp only [SReps] at h
  obtain⟨u,us,rfl,h1,h2⟩:=h
  cases i with
  | zero=>simp only [List.set_cons_zero,SReps];exact⟨v,us,rfl,hs,h2⟩
  | succ i=>simp only [List.set_cons_succ,SReps];exact⟨u,us.set i v,rfl,h1,SReps.set i h2 hs⟩
theorem SReps.junk {C:RC} (vs:List Value):SReps C (List.replicate vs.length .junk) vs:=by
 induction vs with
 | nil=>simp [SReps]
 | cons v vs ih=>simp only [List.length_cons,List.replicate_succ,SReps];exact⟨v,vs,rfl,by simp only [SRep],ih⟩
theorem SReps.nil_iff {C:RC} {vs:List Value}:SReps C [] vs↔vs=[]:=by simp only [SReps]
theorem SReps.cons_iff {C:RC} {s:SV} {l:List SV} {vs:List Value}:SReps C (s :: l) vs↔∃ v vs',vs=v :: vs'∧SRep C s v∧SReps C l vs':=by simp only [SReps]
theorem getT_some:∀ (l:List SV) (n:Nat),getT l n=(l[n]?).getD .junk
 | [],n=>by simp [getT]
 | s :: l,0=>by simp [getT]
 | s :: l,n+1=>by simp [getT,getT_some l n]
theorem getT_rep {C:RC} {l:List SV} {vs:List Value} (n:Nat) (h:SReps C l vs) (d:Value):SRep C (getT l n) ((vs[n]?).getD d):=by
 rw [getT_some]
 cases e:l[n]? with
 | none=>simp [SRep]
 | some s =>
  obtain⟨v,hv,hr⟩:=h.get e
  simpa [hv] using hr
theorem ev_rep {C:RC} {t:List SV} {a:Act} (h:SReps C t a.tmps.toList) (x:Operand):SRep C (ev t x) (a.eval x):=by
 cases x with
 | tmp n =>
  have:=getT_rep n h undef
  simpa [ev,Act.eval] using this
 | const v=>simp [ev,Act.eval,SRep]
 | global g=>simp [ev,SRep]
 | func f=>simp [ev,Act.eval,SRep,SReps]
theorem put_rep {C:RC} {t:List SV} {a:Act} {s:SV} {v:Value} (h:SReps C t a.tmps.toList) (hs:SRep C s v) (d:Option Nat):SReps C (putT t d s) (a.put d v).tmps.toList:=by
 cases d with
 | none=>exact h
 | some d=>simpa [putT,Act.put] using h.set d hs
theorem svCells_rep {C:RC} {s:SV} {V:Value} (h:SRep C s V) (hl:(svCells s).all leafB=true):SReps C (svCells s) V.cells.toList∧∀ u ∈ V.cells.toList,u.oneCell'=true:=by
 have one:∀ {s:SV} {V:Value},SRep C s V→leafB s=true→V.oneCell'=true:=by
  intro s V h hl
  cases s<;>simp only [SRep] at h<;>simp only [leafB] at hl
  case v x=>subst h;exact hl
  case agg l=>cases hl
  case tup l=>cases hl
  case ptr b off=>obtain⟨g,_,rfl⟩:=h;rfl
  case seq K xs=>obtain⟨ad,c,e,_⟩:=h;simp at e;subst e;rfl
  case own b=>obtain⟨_,a,n,c,rfl⟩:=h;rfl
  case arr b off n c=>obtain⟨g,_,rfl⟩:=h;rfl
  case rptr K x off=>obtain⟨q,o,Us,rfl,_⟩:=h;rfl
  case eptr b sz i o=>obtain⟨g,n,c,_,_,rfl⟩:=h;rfl
  case emp=>obtain⟨a,rfl⟩:=h;rfl
  case fn f x y=>obtain⟨xs,ys,rfl,_⟩:=h;rfl
  case junk=>cases hl
 have all:∀ {l:List SV} {vs:List Value},SReps C l vs→l.all leafB=true→∀ u ∈ vs,u.oneCell'=true:=by
  intro l
  induction l with
  | nil=>intro vs h _ u hu;simp only [SReps] at h;subst h;cases hu
  | cons s l ih =>
   intro vs h hl u hu
   simp only [SReps] at h
   obtain⟨v,us,rfl,h1,h2⟩:=h
   simp only [List.all_cons,Bool.and_eq_true] at hl
   rcases List.mem_cons.1 hu with rfl|hu
   ·exact one h1 hl.1
   ·exact ih h2 hl.2 u hu
 have hc:SReps C (svCells s) V.cells.toList:=by
  cases s with
  | agg l =>
   simp only [SRep] at h
   obtain⟨vs,rfl,h⟩:=h
   exact h
  | _ =>
   simp only [svCells,List.all_cons,List.all_nil,Bool.and_true] at hl ⊢
   have h1:=one h hl
   have hv:V.cells=#[V]:=by cases V<;>first|rfl|cases h1
   rw [hv]
   simp only [SReps]
   exact⟨V,[],rfl,h,rfl⟩
 exact⟨hc,all hc hl⟩
theorem cells_rep {w:World} {G:Nat→Option Value} {bad:Nat→Prop}:∀ {K:Kd} {x:K.T} {Us:List Value},KRep w G bad K x Us→SReps ⟨w,G,bad⟩ (K.cells x) Us:=by
 intro K
 induction K with
 | int k=>intro x Us h;simp only [KRep] at h;subst h;simp [Kd.cells,SReps,SRep]
 | bool=>intro x Us h;simp only [KRep] at h;subst h;simp [Kd.cells,SReps,SRep]
 | nil=>intro x Us h;simp only [KRep] at h;subst h;simp [Kd.cells,SReps]
 | cons a b iha ihb =>
  intro x Us h
  obtain⟨V1,V2,rfl,h1,h2⟩:=h
  exact(iha h1).app (ihb h2)
 | sl a ih =>
  intro x Us h
  have h':=h
  obtain⟨ad,c,rfl,_⟩:=h'
  simp only [Kd.cells,SReps,SRep]
  exact⟨_,[],rfl,h,rfl⟩
 | ptr =>
  intro x Us h
  cases x with
  | none=>simp only [KRep] at h;subst h;simp [Kd.cells,SReps,SRep]
  | some x=>obtain⟨g,hg,rfl⟩:=h;simp only [Kd.cells,SReps,SRep];exact⟨_,[],rfl,⟨g,hg,rfl⟩,rfl⟩
theorem cells_len:∀ (K:Kd) (x:K.T),(K.cells x).length=K.size:=by
 intro K
 induction K with
 | int k=>intro x;rfl
 | bool=>intro x;rfl
 | nil=>intro x;rfl
 | cons a b iha ihb=>intro x;simp only [Kd.cells,List.length_append,iha,ihb,Kd.size]
 | sl a ih=>intro x;rfl
 | ptr=>intro x;cases x<;>rfl
theorem flatten_get {n:Nat}:∀ {Us:List (List Value)} {i:Nat} {U:List Value},(∀ U ∈ Us,U.length=n)→Us[i]? = some U→∀ (j:Nat) (u:Value),U[j]? = some u→Us.flatten[i*n+j]? = some u:=by
 intro Us
 induction Us with
 | nil=>intro i U _ h;simp at h
 | cons V Us ih =>
  intro i U hn hi j u hu
  have hV:=hn V (by simp)
  cases i with
  | zero =>
   simp at hi;subst hi
   have hj:j<V.length:=(List.getElem?_eq_some_iff.1 hu).1
   simp only [List.flatten_cons,Nat.zero_mul,Nat.zero_add]
   rw [List.getElem?_append_left hj];exact hu
  | succ i =>
   simp at hi
   simp only [List.flatten_cons]
   rw [List.getElem?_append_right (by rw [hV,Nat.succ_mul];omega)]
   have:(i+1)*n+j-V.length=i*n+j:=by rw [hV,Nat.succ_mul];omega
   rw [this]
   exact ih (fun U hU=>hn U (by simp [hU])) hi j u hu
theorem flatten_len {n:Nat}:∀ {Us:List (List Value)},(∀ U ∈ Us,U.length=n)→Us.flatten.length=Us.length*n:=by
 intro Us
 induction Us with
 | nil=>intro _;simp
 | cons V Us ih=>intro h;simp only [List.flatten_cons,List.length_append,List.length_cons,h V (by simp),ih (fun U hU=>h U (by simp [hU])),Nat.succ_mul];omega
theorem row_sl {w:World} {B:Nat} {E:TypeId} {K:Kd} {xs:List K.T} {V:Value} {Us:List (List Value)} {G:Nat→Option Value} {bad Z:Nat→Prop} (ho:w.ownsRow B E K.size V xs.length Us.flatten) (hl:Us.length=xs.length)
  (hk:∀ (i:Nat) (x:K.T) (U:List Value),xs[i]? = some x→Us[i]? = some U→KRep w G bad K x U) (hz:∀ g,¬bad g→¬Z g) (hV:∀ g,blkOf V=some g→¬Z g):KRep w G Z (.sl K) xs [V]:=by
 have hlen:∀ U ∈ Us,U.length=K.size:=by
  intro U hU
  obtain⟨i,hi⟩:=List.mem_iff_getElem?.1 hU
  have hlt:i<xs.length:=by rw [←hl];exact(List.getElem?_eq_some_iff.1 hi).1
  exact(hk i xs[i] U (by simp [hlt]) hi).len
 rcases ho.2 with ⟨rfl,h0⟩|⟨g,cap,cur,rfl,hb,hh,hn,hc,hs,ht⟩
 ·refine⟨none,0,by rw [h0],by omega,fun i x hx=>?_⟩
  have hlt:i<xs.length:=(List.getElem?_eq_some_iff.1 hx).1
  omega
 ·refine⟨_,_,rfl,hn,fun i x hx=>?_⟩
  have hx':xs[i]? = some x:=hx
  have hlt:i<xs.length:=(List.getElem?_eq_some_iff.1 hx').1
  obtain⟨U,hU⟩:∃ U,Us[i]? = some U:=⟨Us[i]'(by omega),by simp [show i<Us.length by omega]⟩
  have hg:g<w.heap.size:=(Array.getElem?_eq_some_iff.1 hh).1
  refine⟨⟨g,0,none⟩,U,rfl,hg,hV g rfl,fun j u hu=>?_,(hk i x U hx' hU).le (fun _ _ h=>h) (Nat.le_refl _) (fun _ _ _=>rfl) (fun g _ h=>hz g h)⟩
  have h1:=flatten_get hlen hU j u hu
  rw [←ht,List.getElem?_take] at h1
  rw [Addr.add_mid,cell_of_row w g _ cur E (0,0) hh,Nat.zero_add]
  split at h1
  ·simpa using h1
  ·cases h1
theorem castL_some {K a:Kd} {xs:List K.T} {ys:List a.T} (h:castL (a:=a) xs=some ys):∃ e:K=a,e▸xs=ys:=by
 unfold castL at h
 split at h
 ·rename_i e;exact⟨e,Option.some.inj h⟩
 ·cases h
theorem parseN_ok {T:Type} {C:RC} {f:List SV→Option (T × List SV)} {Rl:T→List Value→Prop}
  (hf:∀ l Vs x r,SReps C l Vs→f l=some (x,r)→∃ V1 V2,Vs=V1++V2∧Rl x V1∧SReps C r V2):∀ (n:Nat) (l:List SV) (Vs:List Value) (xs:List T),SReps C l Vs→parseN f n l=some xs →
  ∃ (Us:List (List Value)) (V2:List Value),Vs=Us.flatten++V2∧Us.length=n∧xs.length=n∧∀ (i:Nat) (x:T) (U:List Value),xs[i]? = some x→Us[i]? = some U→Rl x U:=by
 intro n
 induction n with
 | zero=>intro l Vs xs h hp;simp [parseN] at hp;subst hp;exact⟨[],Vs,by simp,rfl,rfl,by simp⟩
 | succ n ih =>
  intro l Vs xs h hp
  simp only [parseN] at hp
  split at hp
  ·rename_i x r he
   split at hp
   ·rename_i ys hys
    obtain rfl:=Option.some.inj hp
    obtain⟨V1,V2,rfl,hx,hr⟩:=hf l Vs x r h he
    obtain⟨Us,V3,rfl,h1,h2,h3⟩:=ih r V2 ys hr hys
    refine⟨V1 :: Us,V3,by simp,by simp [h1],by simp [h2],fun i y U hy hU=>?_⟩
    cases i with
    | zero=>simp at hy hU;subst hy;subst hU;exact hx
    | succ i=>simp at hy hU;exact h3 i y U hy hU
   ·cases hp
  ·cases hp
theorem parse_ok {B:Nat} {F:Nat→Prop} {G:Nat→Option Value} {m:Mem} {w:World} (hm:MInv B F G m w):∀ {K:Kd} (al:Bool) (Z:Nat→Prop),(∀ g,¬badOf F G m g→¬Z g) →
  (al=true→∀ (b:Nat) (r:Bool) (k:Blk) V g,m[b]? = some (some (r,k))→G b=some V→blkOf V=some g→¬Z g) →
  ∀ (l:List SV) (Vs:List Value) (x:K.T) (r:List SV),SReps (rc F G m w) l Vs→parse m al K l=some (x,r)→∃ V1 V2,Vs=V1++V2∧KRep w G Z K x V1∧SReps (rc F G m w) r V2:=by
 intro K
 induction K with
 | int k =>
  intro al Z hz ho l Vs x r h hp
  cases l with
  | nil=>simp [parse] at hp
  | cons s l =>
   cases s<;>(first|simp only [parse] at hp|(unfold parse at hp))<;>try cases hp
   rename_i y
   cases y<;>(first|simp only [parse] at hp|(unfold parse at hp))<;>try cases hp
   rename_i k' n
   split at hp
   ·rename_i e;subst e
    obtain⟨rfl,rfl⟩:=Prod.mk.inj (Option.some.inj hp)
    simp only [SReps,SRep] at h
    obtain⟨v,vs,rfl,rfl,h2⟩:=h
    exact⟨[_],vs,rfl,rfl,h2⟩
   ·cases hp
 | bool =>
  intro al Z hz ho l Vs x r h hp
  cases l with
  | nil=>simp [parse] at hp
  | cons s l =>
   cases s<;>(first|simp only [parse] at hp|(unfold parse at hp))<;>try cases hp
   rename_i y
   cases y<;>(first|simp only [parse] at hp|(unfold parse at hp))<;>try cases hp
   simp only [SReps,SRep] at h
   obtain⟨v,vs,rfl,rfl,h2⟩:=h
   exact⟨[_],vs,rfl,rfl,h2⟩
 | nil =>
  intro al Z hz ho l Vs x r h hp
  simp only [parse] at hp
  obtain⟨rfl,rfl⟩:=Prod.mk.inj (Option.some.inj hp)
  exact⟨[],Vs,rfl,rfl,h⟩
 | cons a b iha ihb =>
  intro al Z hz ho l Vs x r h hp
  simp only [parse] at hp
  split at hp
  ·rename_i y r1 he
   split at hp
   ·rename_i z r2 he2
    obtain⟨rfl,rfl⟩:=Prod.mk.inj (Option.some.inj hp)
    obtain⟨V1,V2,rfl,h1,h2⟩:=iha al Z hz ho _ _ _ _ h he
    obtain⟨V3,V4,rfl,h3,h4⟩:=ihb al Z hz ho _ _ _ _ h2 he2
    exact⟨V1++V3,V4,by simp,⟨V1,V3,rfl,h1,h3⟩,h4⟩
   ·cases hp
  ·cases hp
 | sl a ih =>
  intro al Z hz ho l Vs x r h hp
  cases l with
  | nil=>simp [parse] at hp
  | cons s l =>
   simp only [SReps] at h
   obtain⟨v,vs,rfl,hs,h2⟩:=h
   have fin:KRep w G Z (.sl a) x [v]→r=l→∃ V1 V2,v :: vs=V1++V2∧KRep w G Z (.sl a) x V1∧SReps (rc F G m w) r V2:=fun hk e=>⟨[v],vs,rfl,hk,e▸h2⟩
   cases s<;>(first|simp only [parse] at hp|(unfold parse at hp))<;>try cases hp
   case v y =>
    cases y<;>(first|simp only [parse] at hp|(unfold parse at hp))<;>try cases hp
    rename_i ad n c
    cases ad<;>(first|simp only [parse] at hp|(unfold parse at hp))<;>try cases hp
    cases n<;>(first|simp only [parse] at hp|(unfold parse at hp))<;>try cases hp
    cases c<;>(first|simp only [parse] at hp|(unfold parse at hp))<;>try cases hp
    simp only [SRep] at hs
    subst hs
    exact fin ⟨none,0,rfl,by simp,fun i x hx=>by simp at hx⟩ rfl
   case seq K xs =>
    split at hp
    ·rename_i ys he
     obtain⟨rfl,rfl⟩:=Prod.mk.inj (Option.some.inj hp)
     obtain⟨e,he⟩:=castL_some he
     subst e
     try simp only at he
     subst he
     simp only [SRep] at hs
     exact fin (hs.le (fun _ _ h=>h) (Nat.le_refl _) (fun _ _ _=>rfl) (fun g _ h=>hz g h)) rfl
    ·cases hp
   case own b =>
    cases al with
    | false=>cases hp
    | true =>
     try simp only at hp
     split at hp
     ·rename_i r' E K xs hb
      split at hp
      ·rename_i ys he
       obtain⟨rfl,rfl⟩:=Prod.mk.inj (Option.some.inj hp)
       obtain⟨e,he⟩:=castL_some he
       subst e
       try simp only at he
       subst he
       simp only [SRep] at hs
       obtain⟨V,hV,Us,hr⟩:=hm.blk _ _ _ hb
       obtain rfl:V=v:=by rw [hs.1] at hV;exact(Option.some.inj hV).symm
       exact fin (row_sl hr.1 hr.2.1 hr.2.2 hz (fun g hg=>ho rfl _ _ _ _ g hb hs.1 hg)) rfl
      ·cases hp
     ·cases hp
   case arr b off n c =>
    cases al with
    | false=>cases hp
    | true =>
     try simp only at hp
     split at hp
     ·rename_i r' cs hb
      split at hp
      ·rename_i hle
       split at hp
       ·rename_i ys he
        obtain⟨rfl,rfl⟩:=Prod.mk.inj (Option.some.inj hp)
        simp only [SRep] at hs
        obtain⟨g,hG,rfl⟩:=hs
        obtain⟨V,hV,g',Vs',ty,rfl,hh,hcs⟩:=hm.blk _ _ _ hb
        obtain rfl:g'=g:=by rw [hG] at hV;simpa using (Option.some.inj hV).symm
        obtain⟨Us,V2,hsp,hul,hxl,hel⟩:=parseN_ok (Rl:=fun x U=>KRep w G (badOf F G m) a x U)
         (fun l Vs x r hl hp=>ih false (badOf F G m) (fun g h=>h) (by simp) l Vs x r hl hp) n (cs.drop off) (Vs'.toList.drop off) ys (hcs.drop off) he
        have hlen:∀ U ∈ Us,U.length=a.size:=by
         intro U hU
         obtain⟨i,hi⟩:=List.mem_iff_getElem?.1 hU
         have hlt:i<ys.length:=by rw [hxl,←hul];exact(List.getElem?_eq_some_iff.1 hi).1
         exact(hel i ys[i] U (by simp [hlt]) hi).len
        refine fin ⟨_,c,by rw [show ys.length=n from hxl],by rw [show List.length ys=n from hxl];exact hle.2,fun i x hx=>?_⟩ rfl
        have hx':ys[i]? = some x:=hx
        have hlt:i<ys.length:=(List.getElem?_eq_some_iff.1 hx').1
        obtain⟨U,hU⟩:∃ U,Us[i]? = some U:=⟨Us[i]'(by omega),by simp [show i<Us.length by omega]⟩
        have hg:g'<w.heap.size:=(Array.getElem?_eq_some_iff.1 hh).1
        refine⟨⟨g',off,none⟩,U,rfl,hg,ho rfl _ _ _ _ g' hb hG rfl,fun j u hu=>?_,(hel i x U hx' hU).le (fun _ _ h=>h) (Nat.le_refl _) (fun _ _ _=>rfl) (fun g _ h=>hz g h)⟩
        have h1:=flatten_get hlen hU j u hu
        have h3:(Vs'.toList.drop off)[i*a.size+j]? = some u:=by
         rw [hsp,List.getElem?_append_left ((List.getElem?_eq_some_iff.1 h1).1)];exact h1
        rw [Addr.add_mid,cell_of_row w g' _ Vs' ty (0,0) hh]
        simpa using h3
       ·cases hp
      ·cases hp
     ·cases hp
   case emp.refl =>
    simp only [SRep] at hs
    obtain⟨ad,rfl⟩:=hs
    exact fin ⟨ad,0,rfl,by simp,fun i x hx=>by simp at hx⟩ rfl
 | ptr =>
  intro al Z hz ho l Vs x r h hp
  cases l with
  | nil=>simp [parse] at hp
  | cons s l =>
   simp only [SReps] at h
   obtain⟨v,vs,rfl,hs,h2⟩:=h
   cases s<;>(first|simp only [parse] at hp|(unfold parse at hp))<;>try cases hp
   case v y =>
    cases y<;>(first|simp only [parse] at hp|(unfold parse at hp))<;>try cases hp
    rename_i ad
    cases ad<;>(first|simp only [parse] at hp|(unfold parse at hp))<;>try cases hp
    simp only [SRep] at hs
    subst hs
    exact⟨[_],vs,rfl,rfl,h2⟩
   case ptr.refl b o =>
    simp only [SRep] at hs
    obtain⟨g,hg,rfl⟩:=hs
    exact⟨[_],vs,rfl,⟨g,hg,rfl⟩,h2⟩
end Go.Proofs.Ytgmkppeghnlcmaa.X
end
