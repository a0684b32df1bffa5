/- Lemmas of the rows, laid by a program. -/
import Derived.Test.YtgmkppeghnlcmaaYM4
import Derived.Deep.Slices
import Derived.WideShapes
import Derived.ProofKit
import Derived.OpenShut
section
set_option linter.unusedVariables false
set_option linter.unusedSimpArgs false
namespace Go.Proofs.Ytgmkppeghnlcmaa.X
open Go Go.RowKit Go.ChangeShapes Go.WideShapes
set_option linter.unusedVariables false
set_option linter.unusedSimpArgs false
def wfK:(K:Kd)→K.T→Prop
  | .int k,n=>(Lit.int k n).wf=true
  | .bool,_=>True
  | .nil,_=>True
  | .cons a b,x=>wfK a x.1∧wfK b x.2
  | .sl a,xs=>List.length (α:=a.T) xs≤maxLen∧∀ x:a.T,x ∈ (show List a.T from xs)→wfK a x
  | .ptr,_=>True
def kindsC (T:List TI) (f:TypeId→Option Kd):Nat→Nat→List (Nat × Nat)→Option Kd
  | off,tot,[]=>if off=tot then some .nil else none
  | off,tot,(o,t) :: l=>if o=off then match f t,kindsC T f (off+szOf T t) tot l with
    | some a,some b=>some (.cons a b)
    | _,_=>none else none
def kindC (T:List TI):Nat→TypeId→Option Kd
  | 0,_=>none
  | d+1,t=>match (getI T t).d with
    | .int k=>if szOf T t=1 then some (.int k) else none
    | .bool=>if szOf T t=1 then some .bool else none
    | .slice e=>if szOf T t=1∧0<szOf T e then match kindC T d e with|some a=>some (.sl a)|none=>none else none
    | .array n e=>if szOf T t=n*szOf T e then match kindC T d e with|some a=>some (kindN n a)|none=>none else none
    | .struct fs=>kindsC T (kindC T d) 0 (szOf T t) fs
    | _=>none
theorem kindN_size (n:Nat) (a:Kd):(kindN n a).size=n*a.size:=by
 induction n with
 | zero=>simp [kindN,Kd.size]
 | succ n ih=>simp only [kindN,Kd.size,ih,Nat.succ_mul];omega
theorem kindsC_size {T:List TI} {f:TypeId→Option Kd} (hf:∀ t K,f t=some K→K.size=szOf T t):∀ (l:List (Nat × Nat)) (off tot:Nat) (K:Kd),kindsC T f off tot l=some K→off+K.size=tot:=by
 intro l
 induction l with
 | nil =>
  intro off tot K h
  simp only [kindsC] at h
  split at h
  ·rename_i e
   obtain rfl:=Option.some.inj h
   simpa [Kd.size] using e
  ·cases h
 | cons x l ih =>
  intro off tot K h
  obtain⟨o,t⟩:=x
  simp only [kindsC] at h
  split at h
  ·split at h
   ·rename_i a b ha hb
    obtain rfl:=Option.some.inj h
    have:=ih _ _ _ hb
    have:=hf _ _ ha
    simp only [Kd.size];omega
   ·cases h
  ·cases h
theorem kindC_size {T:List TI}:∀ (d:Nat) (t:TypeId) (K:Kd),kindC T d t=some K→K.size=szOf T t:=by
 intro d
 induction d with
 | zero=>intro t K h;simp [kindC] at h
 | succ d ih =>
  intro t K h
  simp only [kindC] at h
  split at h
  ·split at h
   ·rename_i e;obtain rfl:=Option.some.inj h;simp [Kd.size,e]
   ·cases h
  ·split at h
   ·rename_i e;obtain rfl:=Option.some.inj h;simp [Kd.size,e]
   ·cases h
  ·split at h
   ·rename_i e
    split at h
    ·obtain rfl:=Option.some.inj h;simp [Kd.size,e.1]
    ·cases h
   ·cases h
  ·split at h
   ·rename_i e
    split at h
    ·rename_i a ha;obtain rfl:=Option.some.inj h;rw [kindN_size,ih _ _ ha,e]
    ·cases h
   ·cases h
  ·have:=kindsC_size ih _ _ _ _ h;omega
  ·cases h
section
variable {H:Type} {enc:TypeId × Value→H} {P:Program} {w:World} {base:Nat} {spare:Nat→Bool} {held:Bool} {T:List TI}
theorem cellsOf_sz (hT:TOk P T) {t:TypeId} (ht:okT T t=true):P.cellsOf t=szOf T t:=by
 obtain⟨i,d,z,hi,hu,hz,hg⟩:=hT.ty ht
 simp [Program.cellsOf,hi,szOf,hg]
theorem kindC_ok {d:Nat} {t:TypeId} {K:Kd} (h:kindC T d t=some K):okT T t=true:=by
 cases d with
 | zero=>simp [kindC] at h
 | succ d =>
  unfold okT
  simp only [kindC] at h
  split at h<;>simp_all
abbrev noBad:Nat→Prop:=fun _=>False
theorem krepN {a:Kd}:∀ (n:Nat) (cs:List Value),cs.length=n*a.size→(∀ i,i<n→∃ y:a.T,KRep w (fun _=>none) noBad a y ((cs.drop (i*a.size)).take a.size)∧wfK a y)→∃ y,KRep w (fun _=>none) noBad (kindN n a) y cs∧wfK (kindN n a) y:=by
 intro n
 induction n with
 | zero=>intro cs hl _;exact⟨(),by simpa [kindN,KRep] using hl,trivial⟩
 | succ n ih =>
  intro cs hl h
  obtain⟨y,hy,hw⟩:=h 0 (by omega)
  simp only [Nat.zero_mul,List.drop_zero] at hy
  obtain⟨z,hz,hw'⟩:=ih (cs.drop a.size) (by rw [List.length_drop,hl,Nat.succ_mul];omega) (fun i hi=>by
   obtain⟨x,h1,h2⟩:=h (i+1) (by omega)
   refine⟨x,?_,h2⟩
   rw [List.drop_drop,show a.size+i*a.size=(i+1)*a.size by rw [Nat.succ_mul];omega]
   exact h1)
  exact⟨(y,z),⟨_,_,(List.take_append_drop a.size cs).symm,hy,hz⟩,hw,hw'⟩
theorem krepF (hT:TOk P T) {f:TypeId→Option Kd} (hs:∀ t K,f t=some K→K.size=szOf T t):∀ (l:List (Nat × Nat)) (off tot:Nat) (K:Kd) (cs:List Value),kindsC T f off tot l=some K→cs.length=tot →
  (∀ o t a,(o,t) ∈ l→f t=some a→∃ y:a.T,KRep w (fun _=>none) noBad a y ((cs.drop o).take a.size)∧wfK a y)→∃ y,KRep w (fun _=>none) noBad K y (cs.drop off)∧wfK K y:=by
 intro l
 induction l with
 | nil =>
  intro off tot K cs h hl _
  simp only [kindsC] at h
  split at h
  ·rename_i e
   obtain rfl:=Option.some.inj h
   exact⟨(),by simp [KRep];omega,trivial⟩
  ·cases h
 | cons x l ih =>
  intro off tot K cs h hl hy
  obtain⟨o,t⟩:=x
  simp only [kindsC] at h
  split at h
  ·rename_i e
   subst e
   split at h
   ·rename_i a b ha hb
    obtain rfl:=Option.some.inj h
    obtain⟨y,h1,h2⟩:=hy o t a (by simp) ha
    obtain⟨z,h3,h4⟩:=ih _ _ _ _ hb hl (fun o t a hm=>hy o t a (by simp [hm]))
    refine⟨(y,z),⟨_,_,?_,h1,h3⟩,h2,h4⟩
    have:=hs _ _ ha
    rw [this,←List.drop_drop,List.take_append_drop]
   ·cases h
  ·cases h
theorem trod_kd (hT:TOk P T):∀ (d:Nat) (t:TypeId) (K:Kd),kindC T d t=some K→∀ (fuel:Nat) (cs:List Value) (x:DataW H × List MemPlace),DataW.trod enc P w base spare held fuel t cs=some x→∃ y,KRep w (fun _=>none) noBad K y cs∧wfK K y:=by
 intro d
 induction d with
 | zero=>intro t K h;simp [kindC] at h
 | succ d ih =>
  intro t K h fuel cs x hx
  have hok:=kindC_ok h
  obtain⟨i,td,z,hi,hu,hz,hg⟩:=hT.ty hok
  have hsz:P.cellsOf t=szOf T t:=cellsOf_sz hT hok
  simp only [kindC,hg] at h
  cases td with
  | int k =>
   simp only [tdOf] at h
   split at h
   ·obtain rfl:=Option.some.inj h
    obtain⟨n,rfl,_,hw⟩:=DataW.trod_int hu hx
    exact⟨n,by simp [KRep],hw⟩
   ·cases h
  | bool =>
   simp only [tdOf] at h
   split at h
   ·obtain rfl:=Option.some.inj h
    obtain⟨b,rfl,_⟩:=DataW.trod_bool hu hx
    exact⟨b,by simp [KRep],trivial⟩
   ·cases h
  | slice e =>
   simp only [tdOf] at h
   split at h
   ·rename_i hpos
    split at h
    ·rename_i a ha
     obtain rfl:=Option.some.inj h
     have hce:P.cellsOf e=a.size:=by rw [cellsOf_sz hT (kindC_ok ha),kindC_size _ _ _ ha]
     have hap:0<a.size:=by rw [kindC_size _ _ _ ha];exact hpos.2
     rcases Go.Deep.open_slice hu hx with ⟨rfl,_⟩|⟨p,len,cap,m,n,D,Pl,rfl,_,hl,hm,hmm,_,hel⟩
     ·exact⟨([]:List a.T),⟨none,0,rfl,Nat.le_refl _,fun i x hx=>by cases hx⟩,by simp,by simp⟩
     ·have hlm:len≤m:=by rw [hmm];split<;>omega
      have each:∀ i,i<len→∃ q:a.T × List Value,CellsAt w p (i*a.size) q.2∧KRep w (fun _=>none) noBad a q.1 q.2∧wfK a q.1∧p.block<w.heap.size:=by
       intro i hi
       obtain⟨cs',h1,h2⟩:=hel i (by omega)
       rw [hce] at h1
       obtain⟨_,hlen,hcell⟩:=World.cells?_some h1
       obtain⟨y,hk,hw⟩:=ih e a ha _ _ _ h2
       have hc:CellsAt w p (i*a.size) cs':=fun j u hu=>by
        have hj:j<cs'.length:=(List.getElem?_eq_some_iff.1 hu).1
        have h3:=hcell j (by omega)
        rw [Go.Deep.add_add] at h3
        rw [h3,hu]
       refine⟨(y,cs'),hc,hk,hw,?_⟩
       have h0:0<cs'.length:=by omega
       have h4:=cell_lt (hc 0 cs'[0] (List.getElem?_eq_getElem h0))
       rwa [Addr.add_block] at h4
      have:Inhabited (a.T × List Value):=⟨(a.dflt,[])⟩
      obtain⟨f,hf⟩:=Go.Deep.choose_lt each
      have hlen:((List.range len).map fun i=>(f i).1).length=len:=by simp
      refine⟨((List.range len).map fun i=>(f i).1:List a.T),⟨some p,cap,by rw [hlen],by rw [hlen];exact hl,fun i y hy=>?_⟩,by rw [hlen];omega,fun y hy=>?_⟩
      ·have hil:i<len:=by
        have:=(List.getElem?_eq_some_iff.1 hy).1
        simpa using this
       have hy':((List.range len).map fun i=>(f i).1)[i]? = some y:=hy
       rw [List.getElem?_map,List.getElem?_range hil] at hy'
       obtain rfl:(f i).1=y:=Option.some.inj hy'
       obtain⟨h1,h2,h3,h4⟩:=hf i hil
       exact⟨p,(f i).2,rfl,h4,fun h=>h,h1,h2⟩
      ·have hy':y ∈ ((List.range len).map fun i=>(f i).1):=hy
       obtain⟨j,hj,rfl⟩:=List.mem_map.1 hy'
       exact(hf j (List.mem_range.1 hj)).2.2.1
    ·cases h
   ·cases h
  | array n e =>
   simp only [tdOf] at h
   split at h
   ·rename_i htot
    split at h
    ·rename_i a ha
     obtain rfl:=Option.some.inj h
     have hce:P.cellsOf e=a.size:=by rw [cellsOf_sz hT (kindC_ok ha),kindC_size _ _ _ ha]
     cases fuel with
     | zero=>simp [DataW.trod] at hx
     | succ fuel =>
      unfold DataW.trod at hx
      rw [hu] at hx
      simp only at hx
      split at hx
      ·rename_i hlen
       obtain⟨xs,hxs,_⟩:=Option.map_eq_some_iff.1 hx
       refine krepN n cs (by rw [hlen,hsz,htot,kindC_size _ _ _ ha]) fun i hi=>?_
       have h1:=mapM_some_get hxs i i (by simp [hi])
       have hl:=mapM_some_length hxs
       simp only [List.length_range] at hl
       rw [List.getElem?_eq_getElem (by omega),hce] at h1
       exact ih e a ha _ _ _ h1
      ·cases hx
    ·cases h
   ·cases h
  | struct fs =>
   simp only [tdOf] at h
   obtain⟨xs,n,rfl,_,hlen,hxl,hxs⟩:=DataW.trod_struct hu hx
   obtain⟨y,h1,h2⟩:=krepF (w:=w) hT (fun t K=>kindC_size d t K) _ _ _ _ cs h (by rw [hlen,hsz]) (fun o t' a hm ha=>by
    obtain⟨fd,hfd,he⟩:=List.mem_map.1 hm
    obtain⟨k,hk,hke⟩:=List.getElem_of_mem hfd
    simp only [Prod.mk.injEq] at he
    obtain⟨rfl,rfl⟩:=he
    have h1:=hxs k fd (by rw [←hke,←Array.getElem?_toList,List.getElem?_eq_getElem hk])
    rw [List.getElem?_eq_getElem (by rw [hxl];simpa using hk)] at h1
    have hce:P.cellsOf fd.type=a.size:=by rw [cellsOf_sz hT (kindC_ok ha),kindC_size _ _ _ ha]
    rw [hce] at h1
    exact ih fd.type a ha _ _ _ h1)
   exact⟨y,by simpa using h1,h2⟩
  | _=>simp [tdOf] at h
def dsC (T:List TI) (t:TypeId):Option DS:=match kindC T 20 t with
  | some K=>match (getI T t).d with
    | .int _=>some (.sc K)
    | .bool=>some (.sc K)
    | .slice _=>some (.sc K)
    | .struct _=>some (.ag K)
    | .array _ _=>some (.ag K)
    | _=>none
  | none=>none
def wfD:(d:DS)→d.T→Prop
  | .sc K,x=>wfK K x
  | .ag K,x=>wfK K x
def wfDs:(l:List DS)→DsT l→Prop
  | [],_=>True
  | d :: l,x=>wfD d x.1∧wfDs l x.2
theorem arg_rep (hT:TOk P T) {t:TypeId} {D:DS} (h:dsC T t=some D) {r:Reach} {b0:Nat} {v:Value} {dd:DataW H} {p:List MemPlace} (hv:Value.okWide P w r b0 t v)
  (ht:DataW.Trod enc P w base spare held t v dd p):∃ y:D.T,SRep ⟨w,fun _=>none,noBad⟩ (D.sv y) v∧wfD D y:=by
 unfold dsC at h
 split at h
 ·rename_i K hK
  have hok:=kindC_ok hK
  obtain⟨i,td,z,hi,hu,hz,hg⟩:=hT.ty hok
  obtain⟨fuel,hf⟩:=ht
  rw [hg] at h
  obtain⟨y,hy,hw⟩:=trod_kd hT 20 t K hK _ _ _ hf
  have ag:∀ cs,v=.agg cs→SRep ⟨w,fun _=>none,noBad⟩ (.agg (K.cells y)) v:=by
   rintro cs rfl
   simp only [SRep]
   exact⟨cs,rfl,cells_rep (by simpa [Value.cells] using hy)⟩
  have kc:=hK
  obtain⟨d19,hd19⟩:∃ d,(20:Nat)=d+1:=⟨19,rfl⟩
  rw [hd19] at kc
  simp only [kindC,hg] at kc
  cases td with
  | int k =>
   simp only [tdOf] at h kc
   obtain rfl:=Option.some.inj h
   split at kc
   ·obtain rfl:=Option.some.inj kc
    obtain⟨n,rfl⟩:=okWide_int hu hv
    refine⟨y,?_,hw⟩
    have:[Value.int k n]=[Value.int k y]:=by simpa [KRep,Value.cells] using hy
    simp only [DS.sv,Kd.cells,SRep]
    exact(List.cons.inj this).1
   ·cases kc
  | bool =>
   simp only [tdOf] at h kc
   obtain rfl:=Option.some.inj h
   split at kc
   ·obtain rfl:=Option.some.inj kc
    obtain⟨n,rfl⟩:=okWide_bool hu hv
    refine⟨y,?_,hw⟩
    have:[Value.bool n]=[Value.bool y]:=by simpa [KRep,Value.cells] using hy
    simp only [DS.sv,Kd.cells,SRep]
    exact(List.cons.inj this).1
   ·cases kc
  | slice e =>
   simp only [tdOf] at h kc
   obtain rfl:=Option.some.inj h
   split at kc
   ·split at kc
    ·obtain rfl:=Option.some.inj kc
     obtain⟨a,len,cap,rfl⟩:=okWide_slice hu hv
     refine⟨y,?_,hw⟩
     simp only [DS.sv,Kd.cells,SRep]
     simpa [Value.cells] using hy
    ·cases kc
   ·cases kc
  | struct fs =>
   simp only [tdOf] at h
   obtain rfl:=Option.some.inj h
   obtain⟨cs,hc,_⟩:=okWide_struct hu hv
   exact⟨y,ag cs hc,hw⟩
  | array n e =>
   simp only [tdOf] at h
   obtain rfl:=Option.some.inj h
   simp only [Value.okWide,hu] at hv
   obtain⟨cs,hc,_⟩:=hv
   exact⟨y,ag cs hc,hw⟩
  | _=>simp only [tdOf] at h;cases h
 ·cases h
end
end Go.Proofs.Ytgmkppeghnlcmaa.X
end
