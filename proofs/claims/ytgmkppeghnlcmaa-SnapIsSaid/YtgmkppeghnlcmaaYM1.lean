/- Lemmas of the rows, laid by a program. -/
import Derived.Test.YtgmkppeghnlcmaaYM0
import Derived.Laws.Pointers
import Derived.Laws.StructEq
import Derived.ChangeKeysEq
import Derived.Great.BuildSlice
section
set_option linter.unusedVariables false
set_option linter.unusedSimpArgs false
namespace Go.Proofs.Ytgmkppeghnlcmaa.X
open Go Go.RowKit
set_option linter.unusedVariables false
set_option linter.unusedSimpArgs false
structure TOk (P:Program) (T:List TI):Prop where
  ok:∀ t,okT T t=true→getI T t=tiOf P t
theorem TOk.ty {P:Program} {T:List TI} (h:TOk P T) {t:TypeId} (ht:okT T t=true) :
  ∃ i d z,P.info? t=some i∧P.underlying t=some d∧i.zero=some z∧getI T t=⟨i.size,i.bytes,z.cells.toList,cmpOf P t d,tdOf d⟩:=by
 have h1:=h.ok t ht
 unfold okT at ht
 rw [h1] at ht ⊢
 unfold tiOf at ht ⊢
 cases hi:P.info? t with
 | none=>simp [hi] at ht
 | some i =>
  cases hu:P.underlying t with
  | none=>simp [hi,hu] at ht
  | some d =>
   cases hz:i.zero with
   | none=>simp [hi,hu,hz] at ht
   | some z=>exact⟨i,d,z,rfl,rfl,hz,by simp [hz]⟩
theorem getI_range (P:Program) (n t:Nat) (k:Nat):getI ((List.range' k n).map (tiOf P)) t=if t<n then tiOf P (k+t) else ⟨0,0,[],false,.bad⟩:=by
 induction n generalizing k t with
 | zero=>simp [getI]
 | succ n ih =>
  cases t with
  | zero=>simp [List.range'_succ,getI]
  | succ t =>
   simp only [List.range'_succ,List.map_cons,getI,ih]
   by_cases h:t<n
   ·rw [if_pos h,if_pos (by omega),show k+1+t=k+(t+1) by omega]
   ·rw [if_neg h,if_neg (by omega)]
theorem TOk.of_range {P:Program} {T:List TI} {n:Nat} (h:T=(List.range n).map (tiOf P)):TOk P T:=by
 refine⟨fun t ht=>?_⟩
 rw [h,List.range_eq_range'] at ht ⊢
 unfold okT at ht
 rw [getI_range] at ht ⊢
 by_cases hlt:t<n
 ·simp only [if_pos hlt,Nat.zero_add]
 ·simp [if_neg hlt] at ht
theorem agg_run {P:Program} {T:List TI} (hT:TOk P T) {t:TypeId} (ht:okT T t=true) (w:World):(isAgg t).run P w=.ok (aggB T t) w:=by
 obtain⟨i,d,z,hi,hu,hz,hg⟩:=hT.ty ht
 unfold isAgg aggB
 rw [Sem.run_bind,run_underlying hu w,hg]
 cases d<;>simp [tdOf]
theorem size_run {P:Program} {T:List TI} (hT:TOk P T) {t:TypeId} (ht:okT T t=true) (w:World):(sizeOf t).run P w=.ok (szOf T t) w:=by
 obtain⟨i,d,z,hi,hu,hz,hg⟩:=hT.ty ht
 simp [sizeOf,typeInfo,hi,szOf,hg]
theorem agg_ok {T:List TI} {t:TypeId} (h:aggB T t=true):okT T t=true:=by
 unfold aggB at h
 unfold okT
 cases hd:(getI T t).d<;>simp [hd] at h ⊢
variable {P:Program} {T:List TI} {B:Nat} {F:Nat→Prop} {G:Nat→Option Value} {m:Mem} {w:World}
theorem row_elem (hm:MInv B F G m w) {b:Nat} {r:Bool} {E:TypeId} {K:Kd} {xs:List K.T} {g n c i:Nat} (hb:m[b]? = some (some (r,.row E K xs)))
  (hG:G b=some (.slice (some ⟨g,0,none⟩) n c)) (hi:i<n):n=xs.length∧xs[i]? = some (rd K xs i)∧∃ U,KRep w G (badOf F G m) K (rd K xs i) U∧∀ (j:Nat) u,U[j]? = some u→w.cell? ⟨g,i*K.size+j,none⟩=some u:=by
 obtain⟨V,hV,Us,ho,hl,hk⟩:=hm.blk _ _ _ hb
 obtain rfl:V=.slice (some ⟨g,0,none⟩) n c:=by rw [hG] at hV;exact(Option.some.inj hV).symm
 have hn:n=xs.length:=by
  rcases ho.2 with ⟨e,_⟩|⟨g',cap,cur,e,_⟩
  ·cases e
  ·simp only [Value.slice.injEq] at e;exact e.2.1
 subst hn
 have hx:xs[i]? = some (rd K xs i):=by simp [rd,hi]
 have hsl:=row_sl (Z:=fun _=>False) ho hl hk (fun _ _ h=>h) (fun _ _ h=>h)
 obtain⟨ad,c',e,he⟩:=hsl
 obtain⟨U,hU⟩:∃ U,Us[i]? = some U:=⟨Us[i]'(by omega),by simp [show i<Us.length by omega]⟩
 have hlen:∀ U ∈ Us,U.length=K.size:=by
  intro U hU
  obtain⟨i,hi⟩:=List.mem_iff_getElem?.1 hU
  have hlt:i<xs.length:=by rw [←hl];exact(List.getElem?_eq_some_iff.1 hi).1
  exact(hk i xs[i] U (by simp [hlt]) hi).len
 refine⟨rfl,hx,U,hk i _ U hx hU,fun j u hu=>?_⟩
 have h1:=flatten_get hlen hU j u hu
 have:=ho.cells (g:=g) rfl _ _ h1
 rwa [Addr.add_mid,Nat.zero_add] at this
theorem ldCells_ok (hm:MInv B F G m w) {s:SV} {V:Value} (hs:SRep (rc F G m w) s V) {n:Nat} {l:List SV} (h:ldCells m s n=some l) :
  ∃ p Us,V=.pointer (some p)∧(∀ (j:Nat) u,Us[j]? = some u→w.cell? (p.add j)=some u)∧SReps (rc F G m w) l Us∧l.length=n:=by
 cases s<;>simp only [ldCells] at h<;>try cases h
 case ptr b off =>
  split at h
  ·rename_i r cs hb
   split at h
   ·rename_i hle
    obtain rfl:=Option.some.inj h
    simp only [SRep] at hs
    obtain⟨g,hG,rfl⟩:=hs
    obtain⟨V,hV,g',Vs,ty,rfl,hh,hcs⟩:=hm.blk _ _ _ hb
    obtain rfl:g'=g:=by rw [hG] at hV;simpa using (Option.some.inj hV).symm
    refine⟨_,(Vs.toList.drop off).take n,rfl,fun j u hu=>?_,(hcs.drop off).take n,?_⟩
    ·rw [Addr.add_mid,cell_of_row w g' _ Vs ty (0,0) hh]
     rw [List.getElem?_take] at hu
     split at hu
     ·simpa using hu
     ·cases hu
    ·simp only [List.length_take,List.length_drop];omega
   ·cases h
  ·cases h
 case rptr K x off =>
  split at h
  ·rename_i hle
   obtain rfl:=Option.some.inj h
   simp only [SRep] at hs
   obtain⟨q,o,Us,rfl,hlt,hnb,hc,hk⟩:=hs
   have hl:=hk.len
   refine⟨_,(Us.drop off).take n,rfl,fun j u hu=>?_,((cells_rep hk).drop off).take n,?_⟩
   ·rw [Addr.add_add]
    rw [List.getElem?_take] at hu
    split at hu
    ·have:=hc (off+j) u (by simpa using hu)
     rw [show o+off+j=o+(off+j) by omega];exact this
    ·cases hu
   ·simp only [List.length_take,List.length_drop,cells_len];omega
  ·cases h
 case eptr b sz i o =>
  split at h
  ·rename_i r E K xs hb
   split at h
   ·rename_i hle
    obtain rfl:=Option.some.inj h
    obtain⟨rfl,hle⟩:=hle
    simp only [SRep] at hs
    obtain⟨g,n',c,hG,hi,rfl⟩:=hs
    obtain⟨rfl,hx,U,hk,hc⟩:=row_elem hm hb hG hi
    have hl:=hk.len
    refine⟨_,(U.drop o).take n,rfl,fun j u hu=>?_,((cells_rep hk).drop o).take n,?_⟩
    ·rw [Addr.add_mid]
     rw [List.getElem?_take] at hu
     split at hu
     ·have:=hc (o+j) u (by simpa using hu)
      rwa [←Nat.add_assoc] at this
     ·cases hu
    ·simp only [List.length_take,List.length_drop,cells_len];omega
   ·cases h
  ·cases h
theorem ldvar_ok (hT:TOk P T) (hm:MInv B F G m w) {t:TypeId} {s v:SV} {V:Value} (hs:SRep (rc F G m w) s V) (h:ldx T m t s=some v) :
  ∃ p U,V=.pointer (some p)∧(loadVar t p).run P w=.ok U w∧SRep (rc F G m w) v U:=by
 unfold ldx at h
 cases ha:aggB T t with
 | true =>
  simp only [ha] at h
  split at h
  ·rename_i l hl
   obtain rfl:=Option.some.inj h
   obtain⟨p,Us,rfl,hc,hr,hn⟩:=ldCells_ok hm hs hl
   have hok:=agg_ok ha
   have hlen:=hr.len
   refine⟨p,.agg Us.toArray,rfl,?_,by simp only [SRep];exact⟨Us.toArray,rfl,by simpa using hr⟩⟩
   have hl2:=run_loadCells_list (P:=P) w p Us hc
   rw [←hlen,hn] at hl2
   simp [loadVar,agg_run hT hok,ha,size_run hT hok,hl2]
  ·cases h
 | false =>
  simp only [ha] at h
  split at h
  ·rename_i hok
   split at h
   ·rename_i c hl
    obtain rfl:=Option.some.inj h
    obtain⟨p,Us,rfl,hc,hr,hn⟩:=ldCells_ok hm hs hl
    simp only [SReps] at hr
    obtain⟨u,us,rfl,hu,rfl⟩:=hr
    have hcell:=hc 0 u (by simp)
    refine⟨p,u,rfl,?_,hu⟩
    have h0:p.add 0=p:=by simp [Addr.add]
    rw [h0] at hcell
    simp [loadVar,agg_run hT hok,ha,load,Sem.run,hcell]
   ·cases h
  ·cases h
theorem ld_ok (hT:TOk P T) (hm:MInv B F G m w) {t:TypeId} {s v:SV} {V:Value} (hs:SRep (rc F G m w) s V) (h:ldx T m t s=some v) :
  ∃ U,(Instr.loadAt t V).run P w=.ok U w∧SRep (rc F G m w) v U:=by
 obtain⟨p,U,rfl,hr,hv⟩:=ldvar_ok (P:=P) hT hm hs h
 exact⟨U,by simp [Instr.loadAt,Instr.sureAddr,hr],hv⟩
theorem splice_rep {C:RC} {cs l:List SV} {vs us:List Value} (h:SReps C cs vs) (h':SReps C l us) (off:Nat):SReps C (splice cs off l) (vs.take off++us++vs.drop (off+us.length)):=by
 unfold splice
 rw [h'.len]
 exact((h.take off).app h').app (h.drop _)
theorem cells_size {T:List TI} {P:Program} (hT:TOk P T) {t:TypeId} (ht:okT T t=true) {V:Value} {l:List SV} {C:RC} (h:SReps C l V.cells.toList) (hn:l.length=szOf T t) (p:Addr) (w:World) :
  (storeVar t p V).run P w=(storeCells p V.cells.toList).run P w:=by
 have h1:V.cells.size=szOf T t:=by rw [←hn,h.len];simp
 simp [storeVar,size_run hT ht,h1]
theorem uniform0 {w:World} {G:Nat→Option Value} {bad:Nat→Prop} {K:Kd} {xs:List K.T} {Us:List (List Value)} (hl:Us.length=xs.length) (hk:∀ (i:Nat) (x:K.T) (U:List Value),xs[i]? = some x→Us[i]? = some U→KRep w G bad K x U):∀ U ∈ Us,U.length=K.size:=by
 intro U hU
 obtain⟨i,hi⟩:=List.mem_iff_getElem?.1 hU
 have hlt:i<xs.length:=by rw [←hl];exact(List.getElem?_eq_some_iff.1 hi).1
 exact(hk i xs[i] U (by simp [hlt]) hi).len
theorem st_ok (hT:TOk P T) (hm:MInv B F G m w) {t:TypeId} {p s:SV} {Vp Vs:Value} {m':Mem} (hp:SRep (rc F G m w) p Vp) (hs:SRep (rc F G m w) s Vs) (h:stx T m t p s=some m') :
  ∃ w',(Instr.storeAt t Vp Vs).run P w=.ok () w'∧After B F G m w G m' w':=by
 unfold stx at h
 simp only at h
 split at h
 ·rename_i hok
  obtain⟨hok,hlen,hleaf⟩:=hok
  obtain⟨hcs,hone⟩:=svCells_rep hs hleaf
  have hul:Vs.cells.toList.length=szOf T t:=by rw [←hlen,hcs.len]
  cases p<;>simp only at h<;>try cases h
  case ptr b off =>
   split at h
   ·rename_i cs hb
    split at h
    ·rename_i hle
     obtain rfl:=Option.some.inj h
     simp only [SRep] at hp
     obtain⟨g,hG,rfl⟩:=hp
     obtain⟨V,hV,g',cur,ty,rfl,hh,hc⟩:=hm.blk _ _ _ hb
     obtain rfl:g'=g:=by rw [hG] at hV;simpa using (Option.some.inj hV).symm
     have hcl:=hc.len
     have hcl':cs.length=cur.size:=by rw [hcl];simp
     have hrun:=run_storeCells_at P g' off ty Vs.cells.toList 0 cur w hh (by rw [Nat.add_zero,hul];omega) hone
     refine⟨w.setRow g' (cur.toList.take (off+0)++Vs.cells.toList++cur.toList.drop (off+0+Vs.cells.toList.length)).toArray,?_,after_set hm hb hG rfl ⟨rfl,rfl,rfl,by simp,fun x hx hne=>setRow_other w g' x _ hne⟩ (fun hle'=>?_)⟩
     ·simp only [Instr.storeAt,Instr.sureAddr,Sem.run_bind,Sem.run_pure,Result.andThen_ok,cells_size hT hok hcs hlen,hrun]
     ·refine⟨g',_,ty,rfl,setRow_heap w g' cur _ ty (0,0) hh,?_⟩
      simpa using splice_rep (hc.le hle') (hcs.le hle') off
    ·cases h
   ·cases h
  case eptr b sz i o =>
   split at h
   ·rename_i E K xs hb
    split at h
    ·rename_i hle
     split at h
     ·rename_i x hx
      obtain rfl:=Option.some.inj h
      obtain⟨rfl,hle⟩:=hle
      simp only [SRep] at hp
      obtain⟨g,n,c,hG,hi,rfl⟩:=hp
      obtain⟨V,hV,Us,ho,hl,hk⟩:=hm.blk _ _ _ hb
      obtain rfl:V=.slice (some ⟨g,0,none⟩) n c:=by rw [hG] at hV;exact(Option.some.inj hV).symm
      obtain⟨ho1,ho2⟩:=ho
      rcases ho2 with ⟨e,_⟩|⟨g',cap,cur,e,hB,hh,hn1,hn2,hcz,hct⟩
      ·cases e
      ·simp only [Value.slice.injEq,Option.some.injEq,Addr.mk.injEq,and_true] at e
       obtain⟨rfl,rfl,rfl⟩:=e
       have hun:=uniform0 hl hk
       obtain⟨A,U,D,rfl,hA⟩:∃ A U D,Us=A++U :: D∧A.length=i:=by
        refine⟨Us.take i,Us[i]'(by omega),Us.drop (i+1),?_,?_⟩
        ·rw [←List.drop_eq_getElem_cons (by omega),List.take_append_drop]
        ·simp only [List.length_take];omega
       subst hA
       have hUi:(A++U :: D)[A.length]? = some U:=by simp
       have hx0:xs[A.length]? = some (rd K xs A.length):=by simp [rd,hi]
       have hKU:=hk _ _ _ hx0 hUi
       have hUl:=hKU.len
       have hsp:=splice_rep (cells_rep hKU) hcs o
       obtain⟨V1,V2,e1,hK1,hr⟩:=parse_ok hm false (badOf F G m) (fun _ h=>h) (fun h=>by cases h) _ _ _ _ hsp hx
       simp only [SReps] at hr
       subst hr
       rw [List.append_nil] at e1
       have hAf:A.flatten.length=A.length*K.size:=flatten_len (fun W hW=>hun W (by simp [hW]))
       have hfl:(A++U :: D).flatten=A.flatten++(U++D.flatten):=by simp
       obtain⟨tl,hcur⟩:∃ tl,cur.toList=A.flatten++(U++(D.flatten++tl)):=by
        refine⟨cur.toList.drop (xs.length*K.size),?_⟩
        have:=List.take_append_drop (xs.length*K.size) cur.toList
        rw [hct,hfl] at this
        refine this.symm.trans ?_
        simp
       have hV1:V1=U.take o++Vs.cells.toList++U.drop (o+Vs.cells.toList.length):=e1.symm
       have hV1l:V1.length=K.size:=hK1.len
       have hcl:cur.size=cur.toList.length:=by simp
       have hrun:=run_storeCells_at P g (A.length*K.size+o) E Vs.cells.toList 0 cur w hh (by
        rw [Nat.add_zero,hul,hcl,hcur]
        simp only [List.length_append,hAf,hUl]
        omega) hone
       have hnew:cur.toList.take (A.length*K.size+o+0)++Vs.cells.toList++cur.toList.drop (A.length*K.size+o+0+Vs.cells.toList.length)=A.flatten++(V1++(D.flatten++tl)):=by
        have ol:o≤U.length:=by omega
        have ol2:o+Vs.cells.toList.length≤U.length:=by omega
        rw [hcur,hV1,Nat.add_zero,←hAf,Nat.add_assoc (A.flatten.length),List.take_append,List.drop_append]
        simp only [Nat.add_sub_cancel_left,List.take_of_length_le (show A.flatten.length≤A.flatten.length+o by omega),List.drop_eq_nil_of_le (show A.flatten.length≤A.flatten.length+(o+Vs.cells.toList.length) by omega),List.nil_append]
        rw [List.take_append_of_le_length ol,List.drop_append_of_le_length ol2]
        simp
       refine⟨w.setRow g (A.flatten++(V1++(D.flatten++tl))).toArray,?_,after_set hm hb hG rfl ⟨rfl,rfl,rfl,by simp,fun x hx hne=>setRow_other w g x _ hne⟩ (fun hle'=>?_)⟩
       ·rw [hnew] at hrun
        simp only [Instr.storeAt,Instr.sureAddr,Sem.run_bind,Sem.run_pure,Result.andThen_ok,cells_size hT hok hcs hlen,hrun]
       ·have hset:(A++U :: D).set A.length V1=A++V1 :: D:=by simp
        refine⟨A++V1 :: D,⟨?_,Or.inr ⟨g,c,_,?_,hB,setRow_heap w g cur _ E (0,0) hh,?_,hn2,?_,?_⟩⟩,?_,fun j y W hy hW=>?_⟩
        ·rw [flatten_len (n:=K.size) (fun W hW=>by
          simp only [List.mem_append,List.mem_cons] at hW
          rcases hW with hW|rfl|hW
          ·exact hun W (by simp [hW])
          ·exact hV1l
          ·exact hun W (by simp [hW])),List.length_set,←hl]
         simp
        ·rw [List.length_set]
        ·rw [List.length_set];exact hn1
        ·rw [←hcz,hcl,hcur]
         simp only [List.size_toArray,List.length_append,hUl,hV1l]
        ·have h1:(A.flatten++(V1++D.flatten)).length=xs.length*K.size:=by
          rw [←ho1,hfl]
          simp only [List.length_append,hUl,hV1l]
         have h2:(A.flatten++(V1++(D.flatten++tl))).toArray.toList=(A.flatten++(V1++D.flatten))++tl:=by simp
         rw [h2,List.length_set,←h1,List.take_left]
         simp
        ·rw [List.length_set,←hl];simp
        ·by_cases e:j=A.length
         ·subst e
          rw [List.getElem?_set_self (by rw [←hl];simp)] at hy
          obtain rfl:=Option.some.inj hy
          have:W=V1:=by simpa using hW.symm
          subst this
          exact hK1.le hle'.hG hle'.hs hle'.hw hle'.hb
         ·rw [List.getElem?_set_ne (fun e'=>e e'.symm)] at hy
          have hW':(A++U :: D)[j]? = some W:=by
           rw [←hset,List.getElem?_set_ne (fun e'=>e e'.symm)] at hW
           exact hW
          exact(hk j y W hy hW').le hle'.hG hle'.hs hle'.hw hle'.hb
     ·cases h
    ·cases h
   ·cases h
 ·cases h
theorem zero_ok (hT:TOk P T) {t:TypeId} {l:List SV} (h:zeroCells T t=some l) (w:World) (C:RC):∃ z,(zeroValue t).run P w=.ok z w∧SReps C l z.cells.toList∧l.length=(getI T t).zero.length:=by
 unfold zeroCells at h
 split at h
 ·rename_i hok
  obtain rfl:=Option.some.inj h
  obtain⟨i,d,z,hi,hu,hz,hg⟩:=hT.ty hok
  refine⟨z,by simp [zeroValue,typeInfo,hi,hz],?_,by simp⟩
  rw [hg]
  generalize z.cells.toList=vs
  induction vs with
  | nil=>simp [SReps]
  | cons v vs ih=>simp only [List.map_cons,SReps];exact⟨v,_,rfl,by simp only [SRep],ih⟩
 ·cases h
theorem var_ok (hm:MInv B F G m w) {p:Option Nat} (hf:memFree p G m) {t:TypeId} {V:Value} {l:List SV} (h:SReps (rc F G m w) l V.cells.toList) :
  ∃ w' G',(do pure (Value.pointer (some (←newVar t V))):Sem Value).run P w=.ok (.pointer (some ⟨w.heap.size,0,none⟩)) w'∧After B F G m w G' (memPut p m (.cells l)) w' ∧
   SRep (rc F G' (memPut p m (.cells l)) w') (.ptr (memNew p m) 0) (.pointer (some ⟨w.heap.size,0,none⟩))∧∀ b,b≠memNew p m→G' b=G b:=by
 refine⟨w.alloc (.cells V.cells t),upd G (memNew p m) (.pointer (some ⟨w.heap.size,0,none⟩)),?_,?_,?_,fun b hb=>upd_ne hb⟩
 ·have h1:(newObj (.cells V.cells t)).run P w=.ok w.heap.size (w.alloc (.cells V.cells t)):=rfl
  simp only [newVar,newRow,Sem.run_bind,h1,Result.andThen_ok,Sem.run_pure]
 ·refine after_new hm hf (fun _ _ h=>h) rfl ⟨rfl,rfl,rfl,by simp,fun g hg _=>heap_alloc_old w _ g hg⟩ (fun b r k V' g h1 h2 h3=>heap_alloc_old w _ g (hm.ge _ _ _ _ _ h1 h2 h3).2) ?_ ?_
  ·intro g hg
   simp only [blkOf,Option.some.injEq] at hg
   subst hg
   refine⟨hm.sz,by simp,fun h=>absurd h (Nat.lt_irrefl _),fun b r k V' h1 h2 h3=>?_⟩
   have:=(hm.ge _ _ _ _ _ h1 h2 h3).2
   omega
  ·intro bad hbad hle
   exact⟨w.heap.size,V.cells,t,rfl,heap_alloc_new w _,h.le hle⟩
 ·simp only [SRep]
  exact⟨w.heap.size,upd_same _ _ _,rfl⟩
end Go.Proofs.Ytgmkppeghnlcmaa.X
end
section
set_option linter.unusedVariables false
set_option linter.unusedSimpArgs false
namespace Go.Proofs.Ytgmkppeghnlcmaa.X
open Go Go.RowKit
set_option linter.unusedVariables false
set_option linter.unusedSimpArgs false
variable {P:Program} {T:List TI} {B:Nat} {F:Nat→Prop} {G:Nat→Option Value} {m:Mem} {w:World} {C:RC} {R:Type}
theorem part_ok (hT:TOk P T) {t:TypeId} (ht:okT T t=true) {l:List SV} {vs:Array Value} {o:Nat} {v:SV} (hl:SReps C l vs.toList) (h:partx T t l o (szOf T t)=some v) :
  ∃ U,(part t vs o).run P w=.ok U w∧SRep C v U:=by
 unfold partx at h
 have ha:=agg_run hT ht w
 cases hb:aggB T t with
 | true =>
  simp only [hb] at h ha
  split at h
  ·rename_i hle
   obtain rfl:=Option.some.inj h
   have hlen:=hl.len
   refine⟨.agg (vs.extract o (o+szOf T t)),by simp [part,ha,size_run hT ht],?_⟩
   simp only [SRep]
   refine⟨_,rfl,?_⟩
   have:=(hl.drop o).take (szOf T t)
   simpa [List.extract] using this
  ·cases h
 | false =>
  simp only [hb] at h ha
  split at h
  ·rename_i c hc
   obtain rfl:=Option.some.inj h
   obtain⟨u,hu,hr⟩:=hl.get hc
   have hu':vs[o]? = some u:=by simpa using hu
   refine⟨u,?_,hr⟩
   simp [part,ha,hu']
  ·cases h
theorem eqFs_struct (hT:TOk P T) {f:TypeId→SV→SV→Option Bool} {d:Nat}
  (hf:∀ t x y X Y r,okT T t=true→SRep C x X→SRep C y Y→f t x y=some r→(Op.equalIn d t X Y).run P w=.ok r w) {l l':List SV} {xs ys:Array Value} (hl:SReps C l xs.toList) (hl':SReps C l' ys.toList) :
  ∀ (fs:List Field) (r:Bool),(∀ f ∈ fs,(f.name != "_")=true)→eqFs T f l l' (fs.map fun f=>(f.offset,f.type))=some r→(Op.eqFields d xs ys fs).run P w=.ok r w:=by
 intro fs
 induction fs with
 | nil=>intro r _ h;simp [eqFs] at h;subst h;simp [Op.eqFields]
 | cons x fs ih =>
  intro r hn h
  simp only [List.map_cons,eqFs] at h
  split at h
  ·rename_i a b ha hb
   split at h
   ·rename_i p q hp hq
    split at h
    ·rename_i hok
     obtain rfl:=Option.some.inj h
     obtain⟨A,hA,ra⟩:=part_ok hT (w:=w) hok hl ha
     obtain⟨B',hB,rb⟩:=part_ok hT (w:=w) hok hl' hb
     have he:=hf _ _ _ _ _ _ hok ra rb hp
     have hn':x.name ≠ "_" := by simpa using hn x (by simp)
     have hr:=ih q (fun f hf=>hn f (by simp [hf])) hq
     rw [Op.eqFields]
     simp only [if_pos hn',Sem.run_bind,hA,hB,he,Result.andThen_ok]
     cases p
     ·simp
     ·simpa using hr
    ·cases h
   ·cases h
  ·cases h
theorem eqFs_array (hT:TOk P T) {f:TypeId→SV→SV→Option Bool} {d:Nat} {e:TypeId}
  (hf:∀ t x y X Y r,okT T t=true→SRep C x X→SRep C y Y→f t x y=some r→(Op.equalIn d t X Y).run P w=.ok r w) {l l':List SV} {xs ys:Array Value} (hl:SReps C l xs.toList) (hl':SReps C l' ys.toList) :
  ∀ (is:List Nat) (r:Bool),eqFs T f l l' (is.map fun i=>(i*szOf T e,e))=some r→(Op.eqItems d e (szOf T e) xs ys is).run P w=.ok r w:=by
 intro is
 induction is with
 | nil=>intro r h;simp [eqFs] at h;subst h;simp [Op.eqItems]
 | cons x is ih =>
  intro r h
  simp only [List.map_cons,eqFs] at h
  split at h
  ·rename_i a b ha hb
   split at h
   ·rename_i p q hp hq
    split at h
    ·rename_i hok
     obtain rfl:=Option.some.inj h
     obtain⟨A,hA,ra⟩:=part_ok hT (w:=w) hok hl ha
     obtain⟨B',hB,rb⟩:=part_ok hT (w:=w) hok hl' hb
     have he:=hf _ _ _ _ _ _ hok ra rb hp
     have hr:=ih q hq
     rw [Op.eqItems]
     simp only [Sem.run_bind,hA,hB,he,Result.andThen_ok]
     cases p
     ·simp
     ·simpa using hr
    ·cases h
   ·cases h
  ·cases h
theorem eqT_ok (hT:TOk P T):∀ (n d:Nat),n≤d→∀ (t:TypeId) (x y:SV) (X Y:Value) (r:Bool),okT T t=true→SRep C x X→SRep C y Y→eqT T n t x y=some r→(Op.equalIn d t X Y).run P w=.ok r w:=by
 intro n
 induction n with
 | zero=>intro d _ t x y X Y r _ _ _ h;simp [eqT] at h
 | succ n ih =>
  intro d hd t x y X Y r ht hx hy h
  obtain⟨d,rfl⟩:∃ e,d=e+1:=⟨d-1,by omega⟩
  obtain⟨i,D,z,hi,hu,hz,hg⟩:=hT.ty ht
  simp only [eqT,hg] at h
  split at h
  ·rename_i k0 k a k' b hD
   split at h
   ·rename_i e;subst e
    obtain rfl:=Option.some.inj h
    simp only [SRep] at hx hy
    subst hx;subst hy
    cases D<;>simp only [tdOf] at hD<;>try cases hD
    exact run_equalIn_int w d t _ _ _ _ hu
   ·cases h
  ·rename_i a b hD
   obtain rfl:=Option.some.inj h
   simp only [SRep] at hx hy
   subst hx;subst hy
   cases D<;>simp only [tdOf] at hD<;>try cases hD
   exact run_equalIn_bool' w d t _ _ hu
  ·rename_i fs l l' hD
   split at h
   ·rename_i hc
    simp only [SRep] at hx hy
    obtain⟨xs,rfl,hx⟩:=hx
    obtain⟨ys,rfl,hy⟩:=hy
    cases D<;>simp only [tdOf] at hD<;>try cases hD
    rename_i fs0
    simp only [cmpOf,Bool.and_eq_true,Bool.not_eq_true'] at hc
    have hfo:P.fieldsOf t=fs0:=by simp [Program.fieldsOf,hu]
    rw [run_equalIn_struct w d t xs ys (by rw [hfo];exact hu) hc.1.1,hfo]
    exact eqFs_struct hT (fun t x y X Y r h1 h2 h3 h4=>ih d (by omega) t x y X Y r h1 h2 h3 h4) hx hy _ _ (fun f hf=>by have:=hc.2;rw [Array.all_eq_true_iff_forall_mem] at this;exact this f (by simpa using hf)) h
   ·cases h
  ·rename_i n0 e l l' hD
   split at h
   ·rename_i hc
    simp only [SRep] at hx hy
    obtain⟨xs,rfl,hx⟩:=hx
    obtain⟨ys,rfl,hy⟩:=hy
    cases D<;>simp only [tdOf] at hD<;>try cases hD
    obtain⟨i',d',z',hi',hu',hz',hg'⟩:=hT.ty hc.2
    rw [run_equalIn_array w d xs ys hu hi']
    have hcs:P.cellsOf e=szOf T e:=by simp [Program.cellsOf,hi',szOf,hg']
    rw [hcs]
    exact eqFs_array hT (fun t x y X Y r h1 h2 h3 h4=>ih d (by omega) t x y X Y r h1 h2 h3 h4) hx hy _ _ h
   ·cases h
  ·cases h
theorem guard_int (op:BinOp) (t:TypeId) (x y:Operand) (k k':IntKind) (a b:Int):(eqGuard op t x y (.int k a) (.int k' b)).run P w=.ok () w:=by
 cases op<;>simp [eqGuard]
theorem of_cond {c:Bool} {K:Option R} {r:R} (h:(bif c then none else K)=some r):c=false∧K=some r:=by
 cases c
 ·exact⟨rfl,h⟩
 ·cases h
theorem of_cond' {c:Bool} {K:Option R} {r:R} (h:(bif c then K else none)=some r):c=true∧K=some r:=by
 cases c
 ·cases h
 ·exact⟨rfl,h⟩
theorem leafv {S:Sem Value} {V:Value} {K:SV→Option R} {r:R} (h:K (.v V)=some r) (hr:S.run P w=.ok V w):∃ v V,S.run P w=.ok V w∧SRep C v V∧K v=some r :=
 ⟨.v V,V,hr,by simp only [SRep],h⟩
theorem eql_run (hT:TOk P T) {n:Nat} (hn:n+1≤Op.maxDepth) {t:TypeId} {x y:SV} {X Y:Value} {r:Bool} (ht:okT T t=true) (hx:SRep C x X) (hy:SRep C y Y) (h:eqT T (n+1) t x y=some r) (ox oy:Operand) :
  (do eqGuard .eql t ox oy X Y;binOp .eql t X Y:Sem Value).run P w=.ok (.bool r) w∧(do eqGuard .neq t ox oy X Y;binOp .neq t X Y:Sem Value).run P w=.ok (.bool (!r)) w:=by
 have he:=eqT_ok (P:=P) (w:=w) hT (n+1) Op.maxDepth hn t x y X Y r ht hx hy h
 obtain⟨i,D,z,hi,hu,hz,hg⟩:=hT.ty ht
 simp only [eqT,hg] at h
 split at h
 ·rename_i k0 k a k' b hD
  split at h
  ·rename_i e;subst e
   obtain rfl:=Option.some.inj h
   simp only [SRep] at hx hy
   subst hx;subst hy
   simp [guard_int,binOp,Op.intCmp,bne]
  ·cases h
 ·rename_i a b hD
  simp only [SRep] at hx hy
  subst hx;subst hy
  constructor<;>simp [eqGuard,binOp,Op.equal,he]
 ·rename_i fs l l' hD
  split at h
  ·rename_i hc
   simp only [SRep] at hx hy
   obtain⟨xs,rfl,hx⟩:=hx
   obtain⟨ys,rfl,hy⟩:=hy
   cases D<;>simp only [tdOf] at hD<;>try cases hD
   simp only [cmpOf,Bool.and_eq_true,Bool.not_eq_true'] at hc
   have he':(Op.equalIn 10000 t (.agg xs) (.agg ys)).run P w=.ok r w:=he
   constructor
   ·simp only [Sem.run_bind,run_eqGuard_agg w _ t ox oy xs ys hc.1.2,Result.andThen_ok,run_eql_struct,he']
   ·simp only [Sem.run_bind,run_eqGuard_agg w _ t ox oy xs ys hc.1.2,Result.andThen_ok,run_neq_struct,he']
  ·cases h
 ·rename_i n0 e l l' hD
  split at h
  ·rename_i hc
   simp only [SRep] at hx hy
   obtain⟨xs,rfl,hx⟩:=hx
   obtain⟨ys,rfl,hy⟩:=hy
   cases D<;>simp only [tdOf] at hD<;>try cases hD
   simp only [cmpOf,Bool.and_eq_true,Bool.not_eq_true'] at hc
   have he':(Op.equalIn 10000 t (.agg xs) (.agg ys)).run P w=.ok r w:=he
   constructor
   ·simp only [Sem.run_bind,run_eqGuard_agg w _ t ox oy xs ys hc.1,Result.andThen_ok,run_eql_struct,he']
   ·simp only [Sem.run_bind,run_eqGuard_agg w _ t ox oy xs ys hc.1,Result.andThen_ok,run_neq_struct,he']
  ·cases h
 ·cases h
theorem isInt_ok {s:SV} {V:Value} {k:IntKind} {x:Int} (h:isInt s=some (k,x)) (hs:SRep C s V):V=.int k x:=by
 unfold isInt at h
 split at h
 ·obtain⟨rfl,rfl⟩:=Prod.mk.inj (Option.some.inj h)
  simpa only [SRep] using hs
 ·cases h
theorem int_ok {op:BinOp} {t:TypeId} {k k':IntKind} {x y:Int} {K:SV→Option R} {r:R} (h:intx op k x k' y K=some r) (ox oy:Operand) :
  ∃ v V,(do eqGuard op t ox oy (.int k x) (.int k' y);binOp op t (.int k x) (.int k' y):Sem Value).run P w=.ok V w∧SRep C v V∧K v=some r:=by
 cases op<;>simp only [intx] at h
 case shl =>
  obtain⟨hc,h⟩:=of_cond h
  rw [decide_eq_false_iff_not] at hc
  exact leafv h (by simp [guard_int,binOp,Op.shift,hc])
 case shr =>
  obtain⟨hc,h⟩:=of_cond h
  rw [decide_eq_false_iff_not] at hc
  exact leafv h (by simp [guard_int,binOp,Op.shift,hc])
 case quo =>
  split at h
  ·rename_i e;subst e
   obtain⟨hc,h⟩:=of_cond h
   rw [decide_eq_false_iff_not] at hc
   exact leafv h (by simp [guard_int,binOp,Op.intDiv,hc])
  ·cases h
 case rem =>
  split at h
  ·rename_i e;subst e
   obtain⟨hc,h⟩:=of_cond h
   rw [decide_eq_false_iff_not] at hc
   exact leafv h (by simp [guard_int,binOp,Op.intDiv,hc])
  ·cases h
 all_goals
  split at h
  ·rename_i e;subst e
   exact leafv h (by simp [guard_int,binOp,Op.intArith,Op.intBits,Op.intCmp])
  ·cases h
theorem nilEq_run (hT:TOk P T) {t:TypeId} {x y:SV} {X Y:Value} {r:Bool} (ht:okT T t=true) (hx:SRep C x X) (hy:SRep C y Y) (h:nilEq T t x y=some r) (ox oy:Operand) :
  (do eqGuard .eql t ox oy X Y;binOp .eql t X Y:Sem Value).run P w=.ok (.bool r) w∧(do eqGuard .neq t ox oy X Y;binOp .neq t X Y:Sem Value).run P w=.ok (.bool (!r)) w:=by
 obtain⟨i,D,z,hi,hu,hz,hg⟩:=hT.ty ht
 simp only [nilEq,hg] at h
 split at h
 ·rename_i e K x0 xs n c hD
  obtain rfl:=Option.some.inj h
  cases D<;>simp only [tdOf] at hD<;>try cases hD
  simp only [SRep] at hx hy
  subst hy
  obtain⟨ad,c0,e',hc,hel⟩:=hx
  simp only [List.cons.injEq,and_true] at e'
  obtain⟨q,_,hq,_⟩:=hel 0 x0 (by simp)
  subst hq;subst e'
  have h2:=Lib.run_equalIn_slice_nil w 9999 t _ (some q) (x0 :: xs).length c0 n c hu
  generalize List.length (x0 :: xs)=z at h2 ⊢
  constructor<;>simp [eqGuard,binOp,Op.equal,Op.maxDepth,h2]
 ·rename_i e q n0 c0 n c hD
  obtain rfl:=Option.some.inj h
  cases D<;>simp only [tdOf] at hD<;>try cases hD
  simp only [SRep] at hx hy
  subst hx;subst hy
  constructor<;>simp [eqGuard,binOp,Op.equal,Op.maxDepth,Lib.run_equalIn_slice_nil w 9999 t _ (some q) n0 c0 n c hu]
 ·rename_i e n0 c0 n c hD
  obtain rfl:=Option.some.inj h
  cases D<;>simp only [tdOf] at hD<;>try cases hD
  simp only [SRep] at hx hy
  subst hx;subst hy
  constructor<;>simp [eqGuard,binOp,Op.equal,Op.maxDepth,Lib.run_equalIn_slice_nil w 9999 t _ none n0 c0 n c hu]
 ·rename_i b o hD
  obtain rfl:=Option.some.inj h
  cases D<;>simp only [tdOf] at hD<;>try cases hD
  simp only [SRep] at hx hy
  obtain⟨g,hg,rfl⟩:=hx
  subst hy
  have hu':P.underlying t=some (.pointer (P.pointee t)):=by rw [hu];simp [Program.pointee,hu]
  constructor<;>simp [eqGuard,binOp,Op.equal,Op.maxDepth,run_equalIn_pointer_nil w 9999 t _ hu']
 ·rename_i hD
  obtain rfl:=Option.some.inj h
  cases D<;>simp only [tdOf] at hD<;>try cases hD
  simp only [SRep] at hx hy
  subst hx;subst hy
  have hu':P.underlying t=some (.pointer (P.pointee t)):=by rw [hu];simp [Program.pointee,hu]
  constructor<;>simp [eqGuard,binOp,Op.equal,Op.maxDepth,run_equalIn_pointer_nil w 9999 t _ hu']
 ·cases h
theorem eqAny_run (hT:TOk P T) {t:TypeId} {x y:SV} {X Y:Value} {r:Bool} (ht:okT T t=true) (hx:SRep C x X) (hy:SRep C y Y) (h:eqAny T t x y=some r) (ox oy:Operand) :
  (do eqGuard .eql t ox oy X Y;binOp .eql t X Y:Sem Value).run P w=.ok (.bool r) w∧(do eqGuard .neq t ox oy X Y;binOp .neq t X Y:Sem Value).run P w=.ok (.bool (!r)) w:=by
 unfold eqAny at h
 split at h
 ·rename_i r' hr
  obtain rfl:=Option.some.inj h
  exact nilEq_run hT ht hx hy hr ox oy
 ·exact eql_run (n:=11) hT (by decide) ht hx hy h ox oy
theorem bin_ok (hT:TOk P T) {op:BinOp} {t:TypeId} {x y:SV} {X Y:Value} {K:SV→Option R} {r:R} (hx:SRep C x X) (hy:SRep C y Y) (h:binx T op t x y K=some r) (ox oy:Operand) :
  ∃ v V,(do eqGuard op t ox oy X Y;binOp op t X Y:Sem Value).run P w=.ok V w∧SRep C v V∧K v=some r:=by
 unfold binx at h
 split at h
 ·rename_i k a k' b h1 h2
  obtain rfl:=isInt_ok h1 hx
  obtain rfl:=isInt_ok h2 hy
  exact int_ok h ox oy
 ·split at h
  ·split at h
   ·rename_i b hb
    split at h
    ·rename_i hok
     exact⟨_,_,(eqAny_run hT hok hx hy hb ox oy).1,by simp only [SRep],h⟩
    ·cases h
   ·cases h
  ·split at h
   ·rename_i b hb
    split at h
    ·rename_i hok
     exact⟨_,_,(eqAny_run hT hok hx hy hb ox oy).2,by simp only [SRep],h⟩
    ·cases h
   ·cases h
  ·cases h
theorem un_ok {op:UnOp} {x:SV} {X:Value} {K:SV→Option R} {r:R} (hx:SRep C x X) (h:unx op x K=some r):∃ v V,(Op.unary op X).run P w=.ok V w∧SRep C v V∧K v=some r:=by
 unfold unx at h
 split at h
 ·simp only [SRep] at hx;subst hx
  exact leafv h (by simp [Op.unary])
 ·simp only [SRep] at hx;subst hx
  exact leafv h (by simp [Op.unary,Op.intArith])
 ·simp only [SRep] at hx;subst hx
  exact leafv h (by simp [Op.unary,Op.intBits])
 ·cases h
theorem cv_ok (hT:TOk P T) {src dst:TypeId} {x:SV} {X:Value} {K:SV→Option R} {r:R} (hx:SRep C x X) (h:cvx T src dst x K=some r):∃ v V,(convert src dst X).run P w=.ok V w∧SRep C v V∧K v=some r:=by
 unfold cvx at h
 split at h
 ·rename_i k1 k k2 n hs hd
  simp only [SRep] at hx;subst hx
  obtain⟨i,D,z,hi,hu,hz,hg⟩:=hT.ty (t:=src) (by simp [okT,hs])
  obtain⟨i',D',z',hi',hu',hz',hg'⟩:=hT.ty (t:=dst) (by simp [okT,hd])
  rw [hg] at hs
  rw [hg'] at hd
  cases D<;>simp only [tdOf] at hs<;>try cases hs
  cases D'<;>simp only [tdOf] at hd<;>try cases hd
  exact leafv h (by simp [convert,run_underlying hu,run_underlying hu',Conv.intToInt])
 ·cases h
end Go.Proofs.Ytgmkppeghnlcmaa.X
end
section
set_option linter.unusedVariables false
set_option linter.unusedSimpArgs false
namespace Go.Proofs.Ytgmkppeghnlcmaa.X
open Go Go.RowKit
set_option linter.unusedVariables false
set_option linter.unusedSimpArgs false
variable {P:Program} {T:List TI} {B:Nat} {F:Nat→Prop} {G:Nat→Option Value} {m:Mem} {w:World} {C:RC} {R:Type}
theorem splitIdx_ok {i:Int} {r:R}:∀ {n:Nat} {k:Nat→Option R},splitIdx i n k=some r→∃ j,j<n∧i=(j:Int)∧k j=some r:=by
 intro n
 induction n with
 | zero=>intro k h;simp [splitIdx] at h
 | succ n ih =>
  intro k h
  simp only [splitIdx] at h
  cases hc:decide (i=(n:Int)) with
  | true=>rw [hc] at h;exact⟨n,Nat.lt_succ_self n,by simpa using hc,h⟩
  | false =>
   rw [hc] at h
   obtain⟨j,h1,h2,h3⟩:=ih h
   exact⟨j,Nat.lt_succ_of_lt h1,h2,h3⟩
theorem faddr_ok {s v:SV} {V:Value} {o:Nat} (hs:SRep C s V) (h:faddr s o=some v):∃ a,V=.pointer (some a)∧SRep C v (.pointer (some (a.add o))):=by
 cases s<;>simp only [faddr] at h<;>try cases h
 case ptr.refl b off =>
  simp only [SRep] at hs ⊢
  obtain⟨g,hg,rfl⟩:=hs
  exact⟨_,rfl,g,hg,by rw [Addr.add_mid]⟩
 case rptr.refl K x off =>
  simp only [SRep] at hs ⊢
  obtain⟨q,o',Us,rfl,h1,h2,h3,h4⟩:=hs
  exact⟨_,rfl,q,o',Us,by rw [Addr.add_add,Nat.add_assoc],h1,h2,h3,h4⟩
 case eptr.refl b sz i off =>
  simp only [SRep] at hs ⊢
  obtain⟨g,n,c,hg,hi,rfl⟩:=hs
  exact⟨_,rfl,g,n,c,hg,hi,by rw [Addr.add_mid,Nat.add_assoc]⟩
theorem fieldOf_ok (hT:TOk P T) {t:TypeId} {f o n:Nat} {ty:TypeId} (h:fieldOf T t f=some (o,ty,n)) :
  ∃ fs fl,P.underlying t=some (.struct fs)∧fs[f]? = some fl∧fl.offset=o∧fl.type=ty∧okT T ty=true∧n=szOf T ty∧0<n:=by
 unfold fieldOf at h
 split at h
 ·rename_i fs hd
  split at h
  ·rename_i o' ty' hf
   split at h
   ·rename_i hok
    simp only [Option.some.injEq,Prod.mk.injEq] at h
    obtain⟨rfl,rfl,rfl⟩:=h
    obtain⟨i,D,z,hi,hu,hz,hg⟩:=hT.ty (t:=t) (by simp [okT,hd])
    rw [hg] at hd
    cases D<;>simp only [tdOf] at hd<;>try cases hd
    rename_i fs0
    simp only [List.getElem?_map,Option.map_eq_some_iff,Prod.mk.injEq] at hf
    obtain⟨fl,hfl,h1,h2⟩:=hf
    exact⟨fs0,fl,hu,by simpa using hfl,h1,h2,hok.1,rfl,hok.2⟩
   ·cases h
  ·cases h
 ·cases h
theorem faddr_run (hT:TOk P T) {t:TypeId} {f o n:Nat} {ty:TypeId} {s v:SV} {V:Value} (hs:SRep C s V) (hf:fieldOf T t f=some (o,ty,n)) (h:faddr s o=some v) :
  ∃ U,(Instr.fieldAt t V f).run P w=.ok U w∧SRep C v U:=by
 obtain⟨fs,fl,hu,hfl,rfl,rfl,hok,rfl,hn⟩:=fieldOf_ok hT hf
 obtain⟨a,rfl,hv⟩:=faddr_ok hs h
 refine⟨_,?_,hv⟩
 have hne:¬szOf T fl.type=0:=by omega
 simp [Instr.fieldAt,run_underlying hu,hfl,Instr.sureAddr,fieldPlace,size_run hT hok,hne]
theorem field_run (hT:TOk P T) {t:TypeId} {f o n:Nat} {ty:TypeId} {l:List SV} {v:SV} {V:Value} (hs:SRep C (.agg l) V) (hf:fieldOf T t f=some (o,ty,n)) (h:partx T ty l o n=some v) :
  ∃ U,(Instr.field t V f).run P w=.ok U w∧SRep C v U:=by
 obtain⟨fs,fl,hu,hfl,rfl,rfl,hok,rfl,hn⟩:=fieldOf_ok hT hf
 simp only [SRep] at hs
 obtain⟨vs,rfl,hs⟩:=hs
 obtain⟨U,hU,hr⟩:=part_ok (P:=P) (w:=w) hT hok hs h
 exact⟨U,by simp [Instr.field,run_underlying hu,hfl,asAgg,hU],hr⟩
theorem ix_ok (hT:TOk P T) {t:TypeId} {x:SV} {X:Value} {k:IntKind} {i:Int} {K:SV→Option R} {r:R} (hx:SRep C x X) (h:ixx T t x i K=some r) :
  ∃ v V,(Instr.index t X (.int k i)).run P w=.ok V w∧SRep C v V∧K v=some r:=by
 unfold ixx at h
 split at h
 ·rename_i n e l hd
  split at h
  ·rename_i hok
   obtain⟨j,hj,rfl,h2⟩:=splitIdx_ok h;replace h:=h2
   split at h
   ·rename_i c hc
    simp only [SRep] at hx
    obtain⟨vs,rfl,hx⟩:=hx
    obtain⟨U,hU,hr⟩:=part_ok (P:=P) (w:=w) hT hok hx hc
    obtain⟨i,D,z,hi,hu,hz,hg⟩:=hT.ty (t:=t) (by simp [okT,hd])
    rw [hg] at hd
    cases D<;>simp only [tdOf] at hd<;>try cases hd
    refine⟨c,U,?_,hr,h⟩
    simp [Instr.index,asIntOf,run_underlying hu,size_run hT hok,hj,hU]
   ·cases h
  ·cases h
 ·cases h
theorem inB_ok {i:Int} {n:Nat} (h:inB i n=true):0≤i∧i<(n:Int):=by simpa [inB] using h
theorem iaddr_ok (hT:TOk P T) (hm:MInv B F G m w) {t:TypeId} {x:SV} {X:Value} {k:IntKind} {i:Int} {K:SV→Option R} {r:R} (hx:SRep (rc F G m w) x X) (h:iaddr T m t x i K=some r) :
  ∃ v V,(Instr.indexAt t X (.int k i)).run P w=.ok V w∧SRep (rc F G m w) v V∧K v=some r:=by
 unfold iaddr at h
 split at h
 ·rename_i n e hd
  split at h
  ·rename_i hok
   obtain⟨ti,D,z,hi,hu,hz,hg⟩:=hT.ty (t:=t) (by simp [okT,hd])
   rw [hg] at hd
   cases D<;>simp only [tdOf] at hd<;>try cases hd
   split at h
   ·rename_i b off
    obtain⟨j,hj,rfl,h2⟩:=splitIdx_ok h;replace h:=h2
    simp only [SRep] at hx
    obtain⟨g,hG,rfl⟩:=hx
    refine⟨_,.pointer (some ((⟨g,off,none⟩:Addr).add (j*szOf T e))),?_,?_,h⟩
    ·simp [Instr.indexAt,asIntOf,run_underlying hu,Instr.sureAddr,size_run hT hok,hj]
    ·simp only [SRep];exact⟨g,hG,by rw [Addr.add_mid]⟩
   ·cases h
  ·cases h
 ·rename_i e hd
  split at h
  ·rename_i hok
   obtain⟨ti,D,z,hi,hu,hz,hg⟩:=hT.ty (t:=t) (by simp [okT,hd])
   rw [hg] at hd
   cases D<;>simp only [tdOf] at hd<;>try cases hd
   split at h
   ·rename_i Kd xs
    split at h
    ·rename_i hsz
     obtain⟨hb,h⟩:=of_cond' h
     obtain⟨h0,h1⟩:=inB_ok hb
     simp only [SRep] at hx
     obtain⟨ad,c,e',hc,hel⟩:=hx
     simp only [List.cons.injEq,and_true] at e'
     subst e'
     have hlt:i.toNat<xs.length:=by omega
     obtain⟨p,Us,rfl,hp,hnb,hcs,hk⟩:=hel i.toNat (rd Kd xs i.toNat) (by simp [rd,hlt])
     refine⟨_,.pointer (some (p.add (i.toNat*szOf T e))),?_,?_,h⟩
     ·have h1':i<((List.length xs:Nat):Int):=h1
      simp [Instr.indexAt,asIntOf,run_underlying hu,size_run hT hok,h0,h1']
     ·simp only [SRep]
      exact⟨p,i.toNat*Kd.size,Us,by rw [hsz,Nat.add_zero],hp,hnb,hcs,hk⟩
    ·cases h
   ·split at h
    ·rename_i r' E Kd xs hb
     split at h
     ·rename_i hsz
      obtain⟨hbb,h⟩:=of_cond' h
      obtain⟨h0,h1⟩:=inB_ok hbb
      simp only [SRep] at hx
      obtain⟨hG,ad,n,c,rfl⟩:=hx
      obtain⟨V,hV,Us,ho,hl,hk⟩:=hm.blk _ _ _ hb
      obtain rfl:V=.slice ad n c:=by rw [hG] at hV;exact(Option.some.inj hV).symm
      rcases ho.2 with ⟨e',hn0⟩|⟨g,cap,cur,e',hbg,hh,hnc,hcm,hcs,htk⟩
      ·simp only [hn0] at h1;omega
      ·simp only [Value.slice.injEq] at e'
       obtain⟨rfl,rfl,rfl⟩:=e'
       refine⟨_,.pointer (some ((⟨g,0,none⟩:Addr).add (i.toNat*szOf T e))),?_,?_,h⟩
       ·have h1':i<((List.length xs:Nat):Int):=h1
        simp [Instr.indexAt,asIntOf,run_underlying hu,size_run hT hok,h0,h1']
       ·simp only [SRep]
        exact⟨g,_,_,hG,by omega,by rw [Addr.add_mid,Nat.zero_add,Nat.add_zero]⟩
     ·cases h
    ·cases h
   ·rename_i b off n c
    obtain⟨j,hj,rfl,h2⟩:=splitIdx_ok h;replace h:=h2
    simp only [SRep] at hx
    obtain⟨g,hG,rfl⟩:=hx
    refine⟨_,.pointer (some ((⟨g,off,none⟩:Addr).add (j*szOf T e))),?_,?_,h⟩
    ·simp [Instr.indexAt,asIntOf,run_underlying hu,size_run hT hok,hj]
    ·simp only [SRep];exact⟨g,hG,by rw [Addr.add_mid]⟩
   ·cases h
  ·cases h
 ·cases h
theorem len_ok (hT:TOk P T) (hm:MInv B F G m w) {t:TypeId} {x:SV} {X:Value} {n:Int} (hx:SRep (rc F G m w) x X) (h:lenx T m t x=some n) (ts:Array TypeId) (ty:TypeId) (as:Array Value) (hts:ts[0]? = some t) (has:as[0]? = some X) :
  (Builtin.len_ ts ty as).run P w=.ok (.int .i64 n) w:=by
 unfold lenx at h
 have main:∀ (d:TypeDesc),P.underlying t=some d→tdOf d=(getI T t).d→(Builtin.len_ ts ty as).run P w=.ok (.int .i64 n) w:=by
  intro d hu hd
  rw [←hd] at h
  split at h
  ·rename_i e K xs hD
   obtain rfl:=Option.some.inj h
   cases d<;>simp only [tdOf] at hD<;>try cases hD
   simp only [SRep] at hx
   obtain⟨ad,c,e',_⟩:=hx
   simp only [List.cons.injEq,and_true] at e'
   subst e'
   simp [Builtin.len_,hts,has,run_underlying hu,goInt]
  ·rename_i e b hD
   cases d<;>simp only [tdOf] at hD<;>try cases hD
   split at h
   ·rename_i r E K xs hb
    obtain rfl:=Option.some.inj h
    simp only [SRep] at hx
    obtain⟨hG,ad,n,c,rfl⟩:=hx
    obtain⟨V,hV,Us,ho,hl,hk⟩:=hm.blk _ _ _ hb
    obtain rfl:V=.slice ad n c:=by rw [hG] at hV;exact(Option.some.inj hV).symm
    have hn:n=xs.length:=by
     rcases ho.2 with ⟨e',hn0⟩|⟨g,cap,cur,e',_⟩
     ·simp only [Value.slice.injEq] at e';omega
     ·simp only [Value.slice.injEq] at e';exact e'.2.1
    subst hn
    simp [Builtin.len_,hts,has,run_underlying hu,goInt]
   ·cases h
  ·rename_i e hD
   obtain rfl:=Option.some.inj h
   cases d<;>simp only [tdOf] at hD<;>try cases hD
   simp only [SRep] at hx
   obtain⟨a,rfl⟩:=hx
   simp [Builtin.len_,hts,has,run_underlying hu,goInt]
  ·rename_i e a n' c hD
   obtain rfl:=Option.some.inj h
   cases d<;>simp only [tdOf] at hD<;>try cases hD
   simp only [SRep] at hx
   subst hx
   simp [Builtin.len_,hts,has,run_underlying hu,goInt]
  ·rename_i e b off n' c hD
   obtain rfl:=Option.some.inj h
   cases d<;>simp only [tdOf] at hD<;>try cases hD
   simp only [SRep] at hx
   obtain⟨g,_,rfl⟩:=hx
   simp [Builtin.len_,hts,has,run_underlying hu,goInt]
  ·rename_i n' e hD
   obtain rfl:=Option.some.inj h
   cases d<;>simp only [tdOf] at hD<;>try cases hD
   simp [Builtin.len_,hts,has,run_underlying hu,goInt]
  ·cases h
 have hok:okT T t=true:=by
  unfold okT
  split at h<;>simp_all
 obtain⟨i,D,z,hi,hu,hz,hg⟩:=hT.ty hok
 exact main D hu (by rw [hg])
end Go.Proofs.Ytgmkppeghnlcmaa.X
end
section
set_option linter.unusedVariables false
set_option linter.unusedSimpArgs false
namespace Go.Proofs.Ytgmkppeghnlcmaa.X
open Go Go.RowKit
set_option linter.unusedVariables false
set_option linter.unusedSimpArgs false
variable {P:Program} {T:List TI} {B:Nat} {F:Nat→Prop} {G:Nat→Option Value} {m:Mem} {w:World} {C:RC} {R:Type}
theorem fold_set (off:Nat) (l:List Value) (cs:Array Value) (h:off+l.length≤cs.size) :
  (l.zipIdx.foldl (fun cs (x:Value × Nat)=>cs.setIfInBounds (off+x.2) x.1) cs).toList=cs.toList.take off++l++cs.toList.drop (off+l.length):=by
 obtain⟨h1,h2⟩:=Go.Great.foldl_set off l 0 cs
 apply List.ext_getElem?
 intro k
 rw [Array.getElem?_toList,h2 k]
 simp only [Nat.add_zero]
 by_cases hk:off≤k∧k<off+l.length∧k<cs.size
 ·rw [if_pos hk,List.append_assoc,List.getElem?_append_right (by simp;omega),List.getElem?_append_left (by simp;omega)]
  congr 1
  simp;omega
 ·rw [if_neg hk]
  by_cases hlt:k<off
  ·rw [List.append_assoc,List.getElem?_append_left (by simp;omega),List.getElem?_take,if_pos hlt]
   simp
  ·rw [List.getElem?_append_right (by simp;omega)]
   simp only [List.length_append,List.length_take,Array.length_toList,List.getElem?_drop]
   rw [←Array.getElem?_toList]
   congr 1
   omega
def PRep (C:RC):List (Nat × SV)→List (Nat × Value)→Prop
  | [],l=>l=[]
  | (i,s) :: r,l=>∃ V l',l=(i,V) :: l'∧SRep C s V∧PRep C r l'
theorem prep_ok {t:List SV} {a:Act} (h:SReps C t a.tmps.toList):∀ (l:List (Nat × Operand)),PRep C (mapSV (ev t) l) (l.map fun x=>(x.1,a.eval x.2))
 | []=>by simp [mapSV,PRep]
 | (i,x) :: l=>by
  simp only [mapSV,PRep,List.map_cons]
  exact⟨_,_,rfl,ev_rep h x,prep_ok h l⟩
theorem fill_ok {place place':Nat→Option (Nat × Nat)} (hpl:∀ i,place i=place' i):∀ (parts:List (Nat × SV)) (parts':List (Nat × Value)) (cells l:List SV) (vs:Array Value),PRep C parts parts'→SReps C cells vs.toList→fillx place cells parts=some l →
  ∃ us:Array Value,Instr.fill place' vs parts'=some us∧SReps C l us.toList:=by
 intro parts
 induction parts with
 | nil =>
  intro parts' cells l vs hp hc h
  simp only [PRep] at hp
  subst hp
  simp only [fillx,Option.some.injEq] at h
  subst h
  exact⟨vs,by simp [Instr.fill],hc⟩
 | cons x parts ih =>
  intro parts' cells l vs hp hc h
  obtain⟨i,s⟩:=x
  simp only [PRep] at hp
  obtain⟨V,l',rfl,hs,hp⟩:=hp
  simp only [fillx] at h
  rw [hpl] at h
  split at h
  ·cases h
  ·rename_i off size he
   split at h
   ·rename_i hok
    obtain⟨h1,h2,h3⟩:=hok
    obtain⟨hcs,hone⟩:=svCells_rep hs h3
    have hl1:=hcs.len
    have hl2:=hc.len
    have hsz:V.cells.size=(svCells s).length:=by rw [hl1];simp
    have hf:=fold_set off V.cells.toList vs (by simp only [Array.length_toList] at hl1 hl2 ⊢;omega)
    obtain⟨us,hu1,hu2⟩:=ih l' (splice cells off (svCells s)) l (V.cells.zipIdx.foldl (fun cs (x:Value × Nat)=>cs.setIfInBounds (off+x.2) x.1) vs) hp (by
     have:=splice_rep hc hcs off
     rw [←hf] at this
     rw [←Array.foldl_toList,Array.toList_zipIdx]
     exact this) h
    refine⟨us,?_,hu2⟩
    simp only [Instr.fill,he]
    rw [if_neg]
    ·exact hu1
    ·simp only [Array.length_toList] at hl2
     simp only [Bool.or_eq_true,decide_eq_true_eq,not_or]
     omega
   ·cases h
theorem build_ok (hT:TOk P T) {t:TypeId} {parts:List (Nat × SV)} {parts':Array (Nat × Value)} {v:SV} (hp:PRep C parts parts'.toList) (h:buildx T t parts=some v) :
  ∃ V,(Instr.build t parts').run P w=.ok V w∧SRep C v V:=by
 unfold buildx at h
 split at h
 ·rename_i z fs hz hd
  split at h
  ·rename_i l hl
   split at h
   ·rename_i hoks
    obtain rfl:=Option.some.inj h
    obtain⟨zv,hzr,hzs,_⟩:=zero_ok hT hz w C
    obtain⟨ti,D,z0,hi,hu,hz0,hg⟩:=hT.ty (t:=t) (by simp [okT,hd])
    rw [hg] at hd
    cases D<;>simp only [tdOf] at hd<;>try cases hd
    rename_i fs0
    have hoks':∀ f ∈ fs0.toList,okT T f.type=true:=fun f hf=>List.all_eq_true.1 hoks (f.offset,f.type) (List.mem_map.2 ⟨f,hf,rfl⟩)
    have hplaces:fs0.toList.mapM (fun f=>(P.info? f.type).map fun i=>(f.offset,i.size))=some (fs0.toList.map fun f=>(f.offset,szOf T f.type)):=by
     generalize fs0.toList=l0 at hoks'
     induction l0 with
     | nil=>rfl
     | cons f l0 ih =>
      obtain⟨fi,fd,fz,h1,h2,h3,h4⟩:=hT.ty (hoks' f (by simp))
      simp only [List.mapM_cons,h1,Option.map_some,Option.bind_eq_bind,Option.bind_some,ih (fun g hg=>hoks' g (by simp [hg])),List.map_cons,szOf,h4]
      rfl
    obtain⟨us,hus,hur⟩:=fill_ok (C:=C) (place':=fun i=>Option.map (fun f=>(f.offset,szOf T f.type)) fs0[i]?) (fun i=>by
     simp only [List.getElem?_map,Array.getElem?_toList]
     cases fs0[i]?<;>simp) parts parts'.toList z l zv.cells hp hzs hl
    refine⟨.agg us,?_,by simp only [SRep];exact⟨us,rfl,hur⟩⟩
    have hzr':(zeroValue t).run P w=.ok zv w:=hzr
    simp only [Instr.build,Sem.run_bind,hzr',Result.andThen_ok,run_underlying hu,Array.mapM_eq_mapM_toList]
    have hpl:=run_places (P:=P) w fs0.toList _ hplaces
    simp [hpl,hus]
   ·cases h
  ·cases h
 ·rename_i z n e hz hd
  split at h
  ·rename_i l hl
   split at h
   ·rename_i hok
    obtain rfl:=Option.some.inj h
    obtain⟨zv,hzr,hzs,_⟩:=zero_ok hT hz w C
    obtain⟨ti,D,z0,hi,hu,hz0,hg⟩:=hT.ty (t:=t) (by simp [okT,hd])
    rw [hg] at hd
    cases D<;>simp only [tdOf] at hd<;>try cases hd
    obtain⟨us,hus,hur⟩:=fill_ok (C:=C) (place':=fun i=>some (i*szOf T e,szOf T e)) (fun i=>rfl) parts parts'.toList z l zv.cells hp hzs hl
    refine⟨.agg us,?_,by simp only [SRep];exact⟨us,rfl,hur⟩⟩
    simp [Instr.build,hzr,run_underlying hu,size_run hT hok,hus]
   ·cases h
  ·cases h
 ·cases h
end Go.Proofs.Ytgmkppeghnlcmaa.X
end
section
set_option linter.unusedVariables false
set_option linter.unusedSimpArgs false
namespace Go.Proofs.Ytgmkppeghnlcmaa.X
open Go Go.RowKit
set_option linter.unusedVariables false
set_option linter.unusedSimpArgs false
variable {P:Program} {T:List TI} {B:Nat} {F:Nat→Prop} {G:Nat→Option Value} {m:Mem} {w:World} {C:RC} {R:Type}
theorem list_of {α β:Type}:∀ {ys:List α} {Q:Nat→α→β→Prop},(∀ i y,ys[i]? = some y→∃ U,Q i y U)→∃ Us:List β,Us.length=ys.length∧∀ i y U,ys[i]? = some y→Us[i]? = some U→Q i y U:=by
 intro ys
 induction ys with
 | nil=>intro Q _;exact⟨[],rfl,by simp⟩
 | cons y ys ih =>
  intro Q h
  obtain⟨U,hU⟩:=h 0 y rfl
  obtain⟨Us,hl,hUs⟩:=ih (Q:=fun i=>Q (i+1)) (fun i z hz=>h (i+1) z (by simpa using hz))
  refine⟨U :: Us,by simp [hl],fun i z V hz hV=>?_⟩
  cases i with
  | zero=>simp at hz hV;subst hz;subst hV;exact hU
  | succ i=>simp at hz hV;exact hUs i z V hz hV
theorem flatten_inv {n:Nat} (hn:0<n):∀ {Us:List (List Value)},(∀ U ∈ Us,U.length=n)→∀ {j:Nat} {u:Value},Us.flatten[j]? = some u→∃ U,Us[j/n]? = some U∧U[j%n]? = some u:=by
 intro Us
 induction Us with
 | nil=>intro _ j u h;simp at h
 | cons V Us ih =>
  intro hlen j u h
  have hV:=hlen V (by simp)
  simp only [List.flatten_cons] at h
  by_cases hj:j<n
  ·rw [List.getElem?_append_left (by omega)] at h
   refine⟨V,by rw [Nat.div_eq_of_lt hj];rfl,by rw [Nat.mod_eq_of_lt hj];exact h⟩
  ·rw [List.getElem?_append_right (by omega),hV] at h
   obtain⟨U,h1,h2⟩:=ih (fun U hU=>hlen U (by simp [hU])) h
   have e1:j/n=(j-n)/n+1:=by rw [Nat.div_eq_sub_div hn (by omega)]
   have e2:j%n=(j-n)%n:=by rw [Nat.mod_eq_sub_mod (by omega)]
   exact⟨U,by rw [e1];simpa using h1,by rw [e2];exact h2⟩
theorem uniform {w:World} {G:Nat→Option Value} {bad:Nat→Prop} {K:Kd} {xs:List K.T} {Us:List (List Value)} (hl:Us.length=xs.length) (hk:∀ (i:Nat) (x:K.T) (U:List Value),xs[i]? = some x→Us[i]? = some U→KRep w G bad K x U):∀ U ∈ Us,U.length=K.size:=by
 intro U hU
 obtain⟨i,hi⟩:=List.mem_iff_getElem?.1 hU
 have hlt:i<xs.length:=by rw [←hl];exact(List.getElem?_eq_some_iff.1 hi).1
 exact(hk i xs[i] U (by simp [hlt]) hi).len
theorem ones {w:World} {G:Nat→Option Value} {bad:Nat→Prop} {K:Kd} {xs:List K.T} {Us:List (List Value)} (hl:Us.length=xs.length) (hk:∀ (i:Nat) (x:K.T) (U:List Value),xs[i]? = some x→Us[i]? = some U→KRep w G bad K x U):∀ u ∈ Us.flatten,u.oneCell'=true:=by
 intro u hu
 obtain⟨U,hU,hu⟩:=List.mem_flatten.1 hu
 obtain⟨i,hi⟩:=List.mem_iff_getElem?.1 hU
 have hlt:i<xs.length:=by rw [←hl];exact(List.getElem?_eq_some_iff.1 hi).1
 exact(hk i xs[i] U (by simp [hlt]) hi).one u hu
theorem nilB_ok {x:Value} (h:nilB x=true):x=.slice none 0 0:=by
 unfold nilB at h
 split at h
 ·rfl
 ·cases h
theorem zerB_ok {x:Value} (h:zerB x=true):∃ ad c,x=.slice ad 0 c:=by
 unfold zerB at h
 split at h
 ·exact⟨_,_,rfl⟩
 ·cases h
theorem elems_ok (hm:MInv B F G m w) {a:Kd} {s:SV} {X:Value} {ys:List a.T} (hs:SRep (rc F G m w) s X) (h:elems m a s=some ys) :
  ∃ ad c,∃ Us:List (List Value),X=.slice ad ys.length c∧ys.length≤c∧Us.length=ys.length∧(∀ (i:Nat) (x:a.T) (U:List Value),ys[i]? = some x→Us[i]? = some U→KRep w G (badOf F G m) a x U) ∧
   (∀ (j:Nat) u,Us.flatten[j]? = some u→∃ p,ad=some p∧w.cell? (p.add j)=some u):=by
 cases s<;>simp only [elems] at h<;>try cases h
 case v x =>
  split at h
  ·rename_i hx
   obtain rfl:=Option.some.inj h
   obtain⟨ad,c,rfl⟩:=zerB_ok hx
   simp only [SRep] at hs
   subst hs
   exact⟨ad,c,[],rfl,Nat.zero_le _,rfl,by simp,by simp⟩
  ·cases h
 case seq K xs =>
  obtain⟨e,he⟩:=castL_some h
  subst e
  try simp only at he
  subst he
  simp only [SRep] at hs
  obtain⟨ad,c,e',hc,hel⟩:=hs
  simp only [List.cons.injEq,and_true] at e'
  obtain⟨Us,hl,hUs⟩:=list_of (ys:=(xs:List K.T)) (Q:=fun i x U=>∃ p,ad=some p∧CellsAt w p (i*K.size) U∧KRep w G (badOf F G m) K x U) (fun i x hx=>by
   obtain⟨p,U,h1,_,_,h2,h3⟩:=hel i x hx
   exact⟨U,p,h1,h2,h3⟩)
  have hk:∀ (i:Nat) (x:K.T) (U:List Value),xs[i]? = some x→Us[i]? = some U→KRep w G (badOf F G m) K x U:=fun i x U hx hU=>by
   obtain⟨p,_,_,h⟩:=hUs i x U hx hU
   exact h
  refine⟨ad,c,Us,e',hc,hl,hk,fun j u hj=>?_⟩
  by_cases h0:K.size=0
  ·have:Us.flatten=[]:=by
    apply List.eq_nil_of_length_eq_zero
    rw [flatten_len (uniform hl hk),h0,Nat.mul_zero]
   rw [this] at hj;simp at hj
  ·obtain⟨U,h1,h2⟩:=flatten_inv (Nat.pos_of_ne_zero h0) (uniform hl hk) hj
   have hlt:j/K.size<xs.length:=by rw [←hl];exact(List.getElem?_eq_some_iff.1 h1).1
   obtain⟨p,hp,hc,_⟩:=hUs (j/K.size) xs[j/K.size] U (by simp [hlt]) h1
   refine⟨p,hp,?_⟩
   have:=hc _ _ h2
   rwa [Nat.mul_comm,Nat.div_add_mod] at this
 case own b =>
  split at h
  ·rename_i r E K xs hb
   obtain⟨e,he⟩:=castL_some h
   subst e
   try simp only at he
   subst he
   simp only [SRep] at hs
   obtain⟨hG,ad,n,c,rfl⟩:=hs
   obtain⟨V,hV,Us,ho,hl,hk⟩:=hm.blk _ _ _ hb
   obtain rfl:V=.slice ad n c:=by rw [hG] at hV;exact(Option.some.inj hV).symm
   rcases ho.2 with ⟨e',hn0⟩|⟨g,cap,cur,e',hbg,hh,hnc,hcm,hcs,htk⟩
   ·simp only [Value.slice.injEq] at e'
    obtain⟨rfl,rfl,rfl⟩:=e'
    refine⟨none,0,Us,by rw [hn0],by omega,hl,hk,fun j u hj=>?_⟩
    have:Us=[]:=List.eq_nil_of_length_eq_zero (by omega)
    subst this;simp at hj
   ·simp only [Value.slice.injEq] at e'
    obtain⟨rfl,rfl,rfl⟩:=e'
    exact⟨_,_,Us,rfl,hnc,hl,hk,fun j u hj=>⟨_,rfl,ho.cells (g:=g) rfl j u hj⟩⟩
  ·cases h
 case arr b off n c =>
  split at h
  ·rename_i r cs hb
   split at h
   ·rename_i hle
    simp only [SRep] at hs
    obtain⟨g,hG,rfl⟩:=hs
    obtain⟨V,hV,g',Vs',ty,rfl,hh,hcs⟩:=hm.blk _ _ _ hb
    obtain rfl:g'=g:=by rw [hG] at hV;simpa using (Option.some.inj hV).symm
    obtain⟨Us,V2,hsp,hul,hxl,hel⟩:=parseN_ok (Rl:=fun x U=>KRep w G (badOf F G m) a x U)
     (fun l Vs x r hl hp=>parse_ok hm false (badOf F G m) (fun g h=>h) (by simp) l Vs x r hl hp) n (cs.drop off) (Vs'.toList.drop off) ys (hcs.drop off) h
    refine⟨_,c,Us,by rw [hxl],by omega,by omega,hel,fun j u hj=>⟨_,rfl,?_⟩⟩
    have h3:(Vs'.toList.drop off)[j]? = some u:=by
     rw [hsp,List.getElem?_append_left ((List.getElem?_eq_some_iff.1 hj).1)];exact hj
    rw [Addr.add_mid,cell_of_row w g' _ Vs' ty (0,0) hh]
    simpa using h3
   ·cases h
  ·cases h
 case emp.refl =>
  simp only [SRep] at hs
  obtain⟨ad,rfl⟩:=hs
  exact⟨ad,0,[],rfl,Nat.le_refl _,rfl,by simp,by simp⟩
theorem newrow_ok (hm:MInv B F G m w) {p:Option Nat} (hf:memFree p G m) {m1:Mem} (hm1:∀ (b:Nat) (x:Bool × Blk),m1[b]? = some (some x)→m[b]? = some (some x)) (hl1:m1.length=m.length)
  {w0:World} (h0:w0.heap=w.heap) (h1:w0.os=w.os) (h2:w0.tape=w.tape) (h3:w0.output=w.output) {cur:Array Value} {E:TypeId} {cap:Nat} {K:Kd} {xs:List K.T} {Us:List (List Value)}
  (hn:xs.length≤cap) (hc:cap≤maxLen) (hcs:cur.size=cap*K.size) (ht:cur.toList.take (xs.length*K.size)=Us.flatten) (hl:Us.length=xs.length)
  (hk:∀ (i:Nat) (x:K.T) (U:List Value),xs[i]? = some x→Us[i]? = some U→KRep w G (badOf F G m) K x U) :
  After B F G m w (upd G (memNew p m) (.slice (some ⟨w.heap.size,0,none⟩) xs.length cap)) (memPut p m1 (.row E K xs)) (w0.alloc (.cells cur E)):=by
 have hsz:w0.heap.size=w.heap.size:=by rw [h0]
 refine after_new hm hf hm1 hl1 ⟨h1,h2,h3,by simp [hsz],fun g hg _=>?_⟩ (fun b r k V' g a b' c=>?_) ?_ ?_
 ·rw [heap_alloc_old w0 _ g (by omega),h0]
 ·have:=(hm.ge _ _ _ _ _ (hm1 _ _ a) b' c).2
  rw [heap_alloc_old w0 _ g (by omega),h0]
 ·intro g hg
  simp only [blkOf,Option.some.injEq] at hg
  subst hg
  refine⟨hm.sz,by simp [hsz],fun h=>absurd h (Nat.lt_irrefl _),fun b r k V' a b' c=>?_⟩
  have:=(hm.ge _ _ _ _ _ (hm1 _ _ a) b' c).2
  omega
 ·intro bad hbad hle
  refine⟨Us,⟨?_,.inr ⟨w.heap.size,cap,cur,rfl,hm.sz,?_,hn,hc,hcs,ht⟩⟩,hl,fun i x U hx hU=>(hk i x U hx hU).le hle.hG hle.hs hle.hw hle.hb⟩
  ·rw [flatten_len (uniform hl hk),hl]
  ·have:=heap_alloc_new w0 (.cells cur E)
   rwa [hsz] at this
theorem own_rep {p:Option Nat} {F':Nat→Prop} {m':Mem} {w':World} {a:Option Addr} {n c:Nat}:SRep (rc F' (upd G (memNew p m) (.slice a n c)) m' w') (.own (memNew p m)) (.slice a n c):=by
 simp only [SRep]
 exact⟨upd_same _ _ _,a,n,c,rfl⟩
theorem repl_get {α:Type} {n:Nat} (hn:0<n) (l:List α) (hl:l.length=n):∀ (len k:Nat),k<len*n→(repl len l)[k]? = l[k%n]?:=by
 intro len
 induction len with
 | zero=>intro k h;omega
 | succ len ih =>
  intro k h
  simp only [repl]
  by_cases hk:k<n
  ·rw [List.getElem?_append_left (by omega),Nat.mod_eq_of_lt hk]
  ·rw [List.getElem?_append_right (by omega),hl,ih (k-n) (by rw [Nat.succ_mul] at h;omega)]
   rw [Nat.mod_eq_sub_mod (a:=k) (by omega)]
theorem repl_len {α:Type} (l:List α):∀ (len:Nat),(repl len l).length=len*l.length:=by
 intro len
 induction len with
 | zero=>simp [repl]
 | succ len ih=>simp only [repl,List.length_append,ih,Nat.succ_mul];omega
theorem repl_rep {l:List SV} {vs:List Value} (h:SReps C l vs):∀ (len:Nat),SReps C (repl len l) (repl len vs):=by
 intro len
 induction len with
 | zero=>simp [repl,SReps]
 | succ len ih=>exact h.app ih
theorem range_cells (z:Array Value) (len:Nat) (hz:0<z.size):((Array.range (len*z.size)).map (z[·%z.size]!)).toList=repl len z.toList:=by
 apply List.ext_getElem?
 intro k
 by_cases hk:k<len*z.size
 ·rw [repl_get hz z.toList (by simp) len k hk]
  have hm:k%z.size<z.size:=Nat.mod_lt _ hz
  simp [hk,hm]
 ·rw [List.getElem?_eq_none (by simp;omega),List.getElem?_eq_none (by rw [repl_len];simp;omega)]
theorem bsl_ok (hT:TOk P T) (hm:MInv B F G m w) {p:Option Nat} (hf:memFree p G m) {t:TypeId} {len:Nat} {parts:List (Nat × SV)} {parts':Array (Nat × Value)} {K:SV→Mem→Option R} {r:R}
  (hp:PRep (rc F G m w) parts parts'.toList) (h:bslx T p m t len parts K=some r) :
  ∃ v m' V w' G',(Instr.buildSlice t len parts').run P w=.ok V w'∧After B F G m w G' m' w'∧SRep (rc F G' m' w') v V∧K v m'=some r∧∀ b,b≠memNew p m→G' b=G b:=by
 unfold bslx at h
 split at h
 ·rename_i e hd
  split at h
  ·rename_i z Kd hz hk
   split at h
   ·rename_i hok
    obtain⟨hs0,hzl,hks,h24⟩:=hok
    split at h
    ·rename_i l hl
     split at h
     ·rename_i hll
      split at h
      ·rename_i xs hxs
       obtain⟨zv,hzr,hzs,hzl2⟩:=zero_ok hT hz w (rc F G m w)
       have hoke:okT T e=true:=by
        unfold zeroCells at hz
        split at hz
        ·assumption
        ·cases hz
       obtain⟨ti,D,z0,hi,hu,hz0,hg⟩:=hT.ty (t:=t) (by simp [okT,hd])
       rw [hg] at hd
       cases D<;>simp only [tdOf] at hd<;>try cases hd
       obtain⟨ie,De,ze,hie,hue,hze,hge⟩:=hT.ty hoke
       have hzv:zv=ze:=by
        have:(zeroValue e).run P w=.ok ze w:=by simp [zeroValue,typeInfo,hie,hze]
        rw [this] at hzr
        exact(Result.ok.inj hzr).1.symm
       subst hzv
       have hsz:szOf T e=ie.size:=by simp [szOf,hge]
       have hzc:zv.cells.size=ie.size:=by
        have:=hzs.len
        rw [hzl,hsz] at this
        simpa using this.symm
       have hrl:SReps (rc F G m w) (repl len z) ((Array.range (len*ie.size)).map (zv.cells[·%zv.cells.size]!)).toList:=by
        have:=range_cells zv.cells len (by omega)
        rw [hzc] at this ⊢
        rw [this]
        exact repl_rep hzs len
       obtain⟨us,hus,hur⟩:=fill_ok (C:=rc F G m w) (place':=fun i=>some (i*ie.size,ie.size)) (fun i=>by rw [hsz]) parts parts'.toList (repl len z) l _ hp hrl hl
       obtain⟨Us,V2,hsp,hul,hxl,hel⟩:=parseN_ok (Rl:=fun x U=>KRep w G (badOf F G m) Kd x U)
        (fun l Vs x r hl hp=>parse_ok hm false (badOf F G m) (fun g h=>h) (by simp) l Vs x r hl hp) len l us.toList xs hur hxs
       have hus':us.size=len*ie.size:=by
        have:=hur.len
        rw [hll,hsz] at this
        simpa using this.symm
       have hkl:Kd.size=ie.size:=by rw [hks,hsz]
       have haf:=newrow_ok (w0:=w) (E:=e) (cap:=xs.length) (cur:=us) hm hf (fun _ _ h=>h) rfl rfl rfl rfl rfl (Nat.le_refl _)
        (by rw [hxl];unfold maxLen;have:len≤len*szOf T e:=Nat.le_mul_of_pos_right _ hs0;omega) (by rw [hus',hxl,hkl]) (by
         rw [hsp,hxl]
         have:=flatten_len (uniform (by rw [hul,hxl]) hel)
         rw [hul] at this
         rw [←this,List.take_left']
         rfl) (by rw [hul,hxl]) hel
       refine⟨_,_,.slice (some ⟨w.heap.size,0,none⟩) len len,w.alloc (.cells us e),_,?_,haf,by rw [hxl];exact own_rep,h,fun b hb=>upd_ne hb⟩
       by_cases h0:len*ie.size=0
       ·have h24':¬(len*ie.size > 2^24):=by omega
        have he:((Array.range (len*ie.size)).map (zv.cells[·%zv.cells.size]!))=#[]:=by rw [h0];simp
        rw [he] at hus
        have hr0:Array.range 0=#[]:=by simp
        have hn1:∀ (cells:Array Value),(newObj (.cells cells e)).run P w=.ok w.heap.size (w.alloc (.cells cells e)):=fun _=>rfl
        simp [Instr.buildSlice,run_underlying hu,sizeOf,typeInfo,hie,h0,hr0,hus,newRow,hn1]
       ·exact run_buildSlice w t e len parts' us ie zv hu hie hze (by rw [hsz] at h24;omega) h0 hus
      ·cases h
     ·cases h
    ·cases h
   ·cases h
  ·cases h
 ·cases h
end Go.Proofs.Ytgmkppeghnlcmaa.X
end
section
set_option linter.unusedVariables false
set_option linter.unusedSimpArgs false
namespace Go.Proofs.Ytgmkppeghnlcmaa.X
open Go Go.RowKit
set_option linter.unusedVariables false
set_option linter.unusedSimpArgs false
variable {P:Program} {T:List TI} {B:Nat} {F:Nat→Prop} {G:Nat→Option Value} {m:Mem} {w:World} {C:RC} {R:Type}
theorem run_append_zero (t ty e:TypeId) (i:TypeInfo) (ht:P.underlying t=some (.slice e)) (hi:P.info? e=some i) (base:Option Addr) (n cap:Nat) (hn:n≤cap) (ad:Option Addr) (c:Nat) :
  (Builtin.append_ #[t,t] ty #[.slice base n cap,.slice ad 0 c]).run P w=.ok (.slice base n cap) w:=by
 cases base<;>cases ad<;>simp [Builtin.append_,run_underlying ht,sizeOf,typeInfo,hi,Builtin.lenOf,hn,Builtin.firstCells,loadCells,loadCellsFrom,storeCells]
theorem set_none {m:Mem} {b c:Nat} {x:Bool × Blk} (h:(m.set b none)[c]? = some (some x)):c≠b∧m[c]? = some (some x):=by
 by_cases e:c=b
 ·subst e
  rcases Nat.lt_or_ge c m.length with hlt|hge
  ·rw [List.getElem?_set_self hlt] at h;cases h
  ·rw [List.getElem?_eq_none (by simpa using hge)] at h;cases h
 ·exact⟨e,by rwa [List.getElem?_set_ne (fun e'=>e e'.symm)] at h⟩
theorem samerow_ok (hm:MInv B F G m w) {p:Option Nat} (hf:memFree p G m) {b:Nat} {E:TypeId} {K:Kd} {xs:List K.T} {V:Value} {k:Blk} (hb:m[b]? = some (some (true,k))) (hG:G b=some V)
  (hk:BRep (rc F G m w) B V (.row E K xs)):After B F G m w (upd G (memNew p m) V) (memPut p (m.set b none) (.row E K xs)) w:=by
 have hm1:∀ (c:Nat) (x:Bool × Blk),(m.set b none)[c]? = some (some x)→c≠b∧m[c]? = some (some x):=fun c x hc=>set_none hc
 refine after_new hm hf (fun c x hc=>(hm1 c x hc).2) (by simp) (Grow.refl _ _) (fun _ _ _ _ _ _ _ _=>rfl) (fun g hg=>?_) (fun bad hbad hle=>hk.le hle fun _ _=>rfl)
 obtain⟨h1,h2⟩:=hm.ge _ _ _ _ _ hb hG hg
 refine⟨h1,h2,fun _=>⟨b,k,V,hb,hG,hg⟩,fun c r x V' hc hV' hg'=>?_⟩
 obtain⟨hne,hc'⟩:=hm1 c _ hc
 exact hne (hm.inj _ _ _ _ _ _ _ _ _ hc' hb hV' hG hg' hg)
theorem nilrow_ok (hm:MInv B F G m w) {p:Option Nat} (hf:memFree p G m) (E:TypeId) (K:Kd):After B F G m w (upd G (memNew p m) (.slice none 0 0)) (memPut p m (.row E K [])) w:=by
 refine after_new hm hf (fun c x hc=>hc) rfl (Grow.refl _ _) (fun _ _ _ _ _ _ _ _=>rfl) (fun g hg=>by simp [blkOf] at hg) (fun bad hbad hle=>?_)
 exact⟨[],World.ownsRow_nil _ _ _ _,rfl,by simp⟩
theorem grown_ok (hm:MInv B F G m w) {p:Option Nat} (hf:memFree p G m) {m1:Mem} (hm1:∀ (b:Nat) (x:Bool × Blk),m1[b]? = some (some x)→m[b]? = some (some x)) (hl1:m1.length=m.length)
  {E:TypeId} {cap:Nat} {K:Kd} {xs ys:List K.T} {Us Ws:List (List Value)} {z:Array Value} (hz:z.size=K.size)
  (hn:xs.length+ys.length≤cap) (hc:cap≤maxLen) (hl:Us.length=xs.length) (hl':Ws.length=ys.length)
  (hk:∀ (i:Nat) (x:K.T) (U:List Value),xs[i]? = some x→Us[i]? = some U→KRep w G (badOf F G m) K x U) (hk':∀ (i:Nat) (x:K.T) (U:List Value),ys[i]? = some x→Ws[i]? = some U→KRep w G (badOf F G m) K x U) :
  After B F G m w (upd G (memNew p m) (.slice (some ⟨w.heap.size,0,none⟩) (xs.length+ys.length) cap)) (memPut p m1 (.row E K (xs++ys)))
   (w.drew.alloc (.cells (Us.flatten.toArray++Ws.flatten.toArray++Builtin.zeroCells z (cap-(xs.length+ys.length))) E)):=by
 have h1:=flatten_len (uniform hl hk)
 have h2:=flatten_len (uniform hl' hk')
 have:=newrow_ok (w0:=w.drew) (E:=E) (cap:=cap) (K:=K) (xs:=xs++ys) (Us:=Us++Ws) (cur:=Us.flatten.toArray++Ws.flatten.toArray++Builtin.zeroCells z (cap-(xs.length+ys.length))) hm hf hm1 hl1 rfl rfl rfl rfl (by simpa using hn) hc
  (by
   simp only [Array.size_append,List.size_toArray,size_zeroCells,hz,h1,h2,hl,hl',←Nat.add_mul]
   congr 1
   omega)
  (by
   simp only [Array.toList_append,List.length_append,Nat.add_mul,List.flatten_append]
   rw [List.take_left']
   simp [h1,h2,hl,hl'])
  (by simp [hl,hl'])
  (fun i x U hx hU=>by
   rcases Nat.lt_or_ge i xs.length with hlt|hge
   ·rw [List.getElem?_append_left hlt] at hx
    rw [List.getElem?_append_left (by omega)] at hU
    exact hk i x U hx hU
   ·rw [List.getElem?_append_right hge] at hx
    rw [List.getElem?_append_right (by omega)] at hU
    exact hk' _ x U hx (by rw [←hl];exact hU))
 rw [List.length_append] at this
 exact this
theorem setRow_grow {g:Nat} {cs:Array Value}:Grow w (w.setRow g cs) (fun x=>x=g):=⟨rfl,rfl,rfl,by simp,fun x _ hne=>setRow_other w g x _ hne⟩
theorem app_ok (hT:TOk P T) (hm:MInv B F G m w) {p:Option Nat} (hf:memFree p G m) {t:TypeId} {s x:SV} {S X:Value} {K:SV→Mem→Option R} {r:R}
  (hs:SRep (rc F G m w) s S) (hx:SRep (rc F G m w) x X) (h:appx T p m t s x K=some r) (ty:TypeId) :
  ∃ v m' V w' G',(Builtin.append_ #[t,t] ty #[S,X]).run P w=.ok V w'∧After B F G m w G' m' w'∧SRep (rc F G' m' w') v V∧K v m'=some r∧∀ b,b≠memNew p m→G' b=G b:=by
 unfold appx at h
 split at h
 ·rename_i e hd
  split at h
  ·rename_i Kd hk
   split at h
   ·rename_i hok
    obtain⟨hs0,hks,hzl,hby,hoke⟩:=hok
    split at h
    ·rename_i ys hys
     obtain⟨ti,D,z0,hi,hu,hz0,hg⟩:=hT.ty (t:=t) (by simp [okT,hd])
     rw [hg] at hd
     cases D<;>simp only [tdOf] at hd<;>try cases hd
     obtain⟨ie,De,ze,hie,hue,hze,hge⟩:=hT.ty hoke
     have hsz:szOf T e=ie.size:=by simp [szOf,hge]
     have hbt:(getI T e).bytes=ie.bytes:=by rw [hge]
     have hzc:ze.cells.size=Kd.size:=by
      rw [hge] at hzl
      rw [hks,←hzl]
      simp
     have hki:Kd.size=ie.size:=by rw [hks,hsz]
     obtain⟨ad,c,Ws,rfl,hc,hwl,hwk,hwc⟩:=elems_ok hm hx hys
     have hw2:=flatten_len (uniform hwl hwk)
     have hroom:∀ n,room T e n=true→n≤maxLen∧n*ie.bytes≤140737488355328:=by
      intro n hr
      simp only [room,roomB,decide_eq_true_eq,hbt] at hr
      rw [hbt] at hby
      have:n≤n*ie.bytes:=Nat.le_mul_of_pos_right _ hby
      unfold maxLen
      omega
     have hsome:0<ys.length→∃ a,ad=some a:=by
      intro h0
      have hlt:0<Ws.flatten.length:=by rw [hw2,hwl];exact Nat.mul_pos h0 (by omega)
      obtain⟨q,hq,_⟩:=hwc 0 Ws.flatten[0] (by simp [hlt])
      exact⟨q,hq⟩
     have fromNil:∀ (k:Option R),(bif room T e ys.length then K (.own (memNew p m)) (memPut p m (.row e Kd ys)) else none)=some r →
       ∀ (a0:Option Addr),(0<ys.length∨a0=none)→∃ v m' V w' G',(Builtin.append_ #[t,t] ty #[.slice a0 0 0,.slice ad ys.length c]).run P w=.ok V w'∧After B F G m w G' m' w'∧SRep (rc F G' m' w') v V∧K v m'=some r∧∀ b,b≠memNew p m→G' b=G b:=by
      intro _ h a0 ha0
      obtain⟨hr,h⟩:=of_cond' h
      obtain⟨hr1,hr2⟩:=hroom _ hr
      rcases Nat.eq_zero_or_pos ys.length with h0|h0
      ·have hnil:ys=[]:=List.eq_nil_of_length_eq_zero h0
       subst hnil
       obtain rfl:a0=none:=ha0.resolve_left (by simp)
       exact⟨_,_,_,_,_,run_append_zero t ty e ie hu hie none 0 0 (Nat.le_refl _) ad c,nilrow_ok hm hf e Kd,own_rep (G:=G),h,fun b hb=>upd_ne hb⟩
      ·obtain⟨a,rfl⟩:=hsome h0
       have hnews:∀ (j:Nat) v,Ws.flatten[j]? = some v→w.cell? (a.add j)=some v:=fun j v hj=>by
        obtain⟨q,hq,hc⟩:=hwc j v hj
        obtain rfl:=Option.some.inj hq
        exact hc
       have hgr:=grown_ok (E:=e) (cap:=grownCap w ys.length 0 e) (xs:=([]:List Kd.T)) (Us:=[]) (ys:=ys) (Ws:=Ws) (z:=ze.cells) hm hf (fun _ _ h=>h) rfl hzc (by simpa using grownCap_ge w ys.length 0 e)
        (grownCap_le_maxLen w ys.length 0 e hr1) rfl hwl (by simp) hwk
       simp only [List.length_nil,Nat.zero_add,List.nil_append,List.flatten_nil] at hgr
       have hbig:((ys.length:Nat):Int)≤9223372036854775807:=by unfold maxLen at hr1;omega
       cases a0 with
       | none =>
        have hrun:=run_append_nil (P:=P) (w:=w) t ty e ie ze hu hie hze a ys.length c Ws.flatten (by rw [hw2,hwl,hki]) hnews h0 hbig (by omega)
        refine⟨_,_,_,_,_,hrun,?_,own_rep (G:=G),h,fun b hb=>upd_ne hb⟩
        simpa using hgr
       | some a1 =>
        have hrun:=run_append_grow (P:=P) w t ty e ie ze hu hie hze a1 0 0 [] (by simp) (by simp) a ys.length c Ws.flatten (by rw [hw2,hwl,hki]) hnews (by omega) (by rw [Nat.zero_add];exact hbig) (by rw [Nat.zero_add];exact growslice_fits h0 hr2)
        simp only [Nat.zero_add] at hrun
        refine⟨_,_,_,_,_,hrun,?_,own_rep (G:=G),h,fun b hb=>upd_ne hb⟩
        simpa using hgr
     split at h
     ·split at h
      ·rename_i hnb
       obtain rfl:=nilB_ok hnb
       simp only [SRep] at hs
       subst hs
       exact fromNil none h none (Or.inr rfl)
      ·cases h
     ·simp only [SRep] at hs
      obtain⟨a0,rfl⟩:=hs
      obtain⟨hb,h2⟩:=of_cond' h
      simp only [Bool.and_eq_true,decide_eq_true_eq] at hb
      exact fromNil none (by rw [hb.2];exact h2) a0 (Or.inl hb.1)
     ·rename_i b
      split at h
      ·rename_i e' K' xs hb
       split at h
       ·rename_i zs hzs
        split at h
        ·rename_i he
         subst he
         obtain⟨ee,he⟩:=castL_some hzs
         subst ee
         try simp only at he
         subst he
         obtain⟨hr,h2⟩:=of_cond' h
         replace h:=h2
         obtain⟨hr1,hr2⟩:=hroom _ hr
         simp only [SRep] at hs
         obtain⟨hG,ad0,n,cp,rfl⟩:=hs
         obtain⟨V,hV,hB⟩:=hm.blk _ _ _ hb
         obtain rfl:V=.slice ad0 n cp:=by rw [hG] at hV;exact(Option.some.inj hV).symm
         have hB0:=hB
         obtain⟨Us,ho,hul,huk⟩:=hB
         have hm1:∀ (c:Nat) (x:Bool × Blk),(m.set b none)[c]? = some (some x)→m[c]? = some (some x):=fun c x hc=>(set_none hc).2
         have hu2:=flatten_len (uniform hul huk)
         have hbig:((xs.length+ys.length:Nat):Int)≤9223372036854775807:=by unfold maxLen at hr1;omega
         rcases Nat.eq_zero_or_pos ys.length with h0|h0
         ·have hnil:ys=[]:=List.eq_nil_of_length_eq_zero h0
          subst hnil
          rw [List.append_nil] at h
          have hncp:n≤cp:=by
           rcases ho.2 with ⟨e',hn0⟩|⟨g,cap,cur,e',hbg,hh,hnc,_⟩
           ·simp only [Value.slice.injEq] at e';omega
           ·simp only [Value.slice.injEq] at e';omega
          exact⟨_,_,_,_,_,run_append_zero t ty e' ie hu hie ad0 n cp hncp ad c,samerow_ok hm hf hb hG hB0,own_rep (G:=G),h,fun b hb=>upd_ne hb⟩
         ·obtain⟨a,rfl⟩:=hsome h0
          have hnews:∀ (j:Nat) v,Ws.flatten[j]? = some v→w.cell? (a.add j)=some v:=fun j v hj=>by
           obtain⟨q,hq,hc⟩:=hwc j v hj
           obtain rfl:=Option.some.inj hq
           exact hc
          rcases ho.2 with ⟨e',hn0⟩|⟨g,cap,cur,e',hbg,hh,hnc,hcm,hcs,htk⟩
          ·simp only [Value.slice.injEq] at e'
           obtain⟨rfl,rfl,rfl⟩:=e'
           have hxn:xs=[]:=List.eq_nil_of_length_eq_zero hn0
           subst hxn
           have hgr:=grown_ok (E:=e') (cap:=grownCap w ys.length 0 e') (xs:=([]:List K'.T)) (Us:=[]) (ys:=ys) (Ws:=Ws) (z:=ze.cells) hm hf hm1 (by simp) hzc (by simpa using grownCap_ge w ys.length 0 e')
            (grownCap_le_maxLen w ys.length 0 e' (by simpa using hr1)) rfl hwl (by simp) hwk
           simp only [List.length_nil,Nat.zero_add,List.nil_append,List.flatten_nil] at hgr
           have hrun:=run_append_nil (P:=P) (w:=w) t ty e' ie ze hu hie hze a ys.length c Ws.flatten (by rw [hw2,hwl,hki]) hnews h0 (by simpa using hbig) (by simp only [List.length_nil,Nat.zero_add] at hr2;omega)
           refine⟨_,_,_,_,_,hrun,?_,own_rep (G:=G),h,fun b hb=>upd_ne hb⟩
           simpa using hgr
          ·simp only [Value.slice.injEq] at e'
           obtain⟨rfl,rfl,rfl⟩:=e'
           by_cases hrm:xs.length+ys.length≤cp
           ·have hfit:xs.length*ie.size+Ws.flatten.length≤cur.size:=by rw [hw2,hwl,hcs,hki,←Nat.add_mul];exact Nat.mul_le_mul_right _ hrm
            have hrun:=run_append_room (P:=P) w t ty e' ie hu hie g xs.length cp cur hh a ys.length c Ws.flatten (by rw [hw2,hwl,hki]) hnews (ones hwl hwk) hrm hfit
            have htk':cur.toList.take (xs.length*ie.size)=Us.flatten:=by rw [←hki];exact htk
            rw [htk'] at hrun
            refine⟨_,_,_,_,_,hrun,?_,own_rep (G:=G),h,fun b hb=>upd_ne hb⟩
            have hwr:wrOf G m g:=⟨b,_,_,hb,hG,rfl⟩
            refine after_new hm hf hm1 (by simp) ⟨rfl,rfl,rfl,by simp,fun y hy hne=>setRow_other w g y _ (fun e=>hne (e▸hwr))⟩ (fun b' r' k' V' y h1 h2 h3=>?_) (fun y hy=>?_) (fun bad hbad hle=>?_)
            ·refine setRow_other w g y _ (fun e=>?_)
             subst e
             have hbb:=hm.inj _ _ _ _ _ _ _ _ _ (hm1 _ _ h1) hb h2 hG h3 rfl
             subst hbb
             exact(set_none h1).1 rfl
            ·simp only [blkOf,Option.some.injEq] at hy
             subst hy
             refine⟨hbg,by simpa using (Array.getElem?_eq_some_iff.1 hh).1,fun _=>hwr,fun b' r' k' V' h1 h2 h3=>?_⟩
             have hbb:=hm.inj _ _ _ _ _ _ _ _ _ (hm1 _ _ h1) hb h2 hG h3 rfl
             subst hbb
             exact(set_none h1).1 rfl
            ·refine⟨Us++Ws,⟨?_,.inr ⟨g,cp,_,by rw [List.length_append],hbg,setRow_heap w g cur _ e' (0,0) hh,by simpa using hrm,hcm,?_,?_⟩⟩,by simp [hul,hwl],fun i y U hy hU=>?_⟩
             ·simp only [List.flatten_append,List.length_append,hu2,hw2,hul,hwl,Nat.add_mul]
             ·simp only [List.size_toArray,List.length_append,List.length_drop,Array.length_toList]
              rw [hu2,hul,hki]
              rw [hki] at hcs
              omega
             ·simp only [List.flatten_append,List.length_append]
              rw [List.take_left']
              simp [hu2,hw2,hul,hwl,Nat.add_mul]
             ·rcases Nat.lt_or_ge i xs.length with hlt|hge
              ·rw [List.getElem?_append_left hlt] at hy
               rw [List.getElem?_append_left (by omega)] at hU
               exact(huk i y U hy hU).le hle.hG hle.hs hle.hw hle.hb
              ·rw [List.getElem?_append_right hge] at hy
               rw [List.getElem?_append_right (by omega)] at hU
               exact(hwk _ y U hy (by rw [←hul];exact hU)).le hle.hG hle.hs hle.hw hle.hb
           ·have holds:∀ (j:Nat) u,Us.flatten[j]? = some u→w.cell? ((⟨g,0,none⟩:Addr).add j)=some u:=ho.cells (g:=g) rfl
            have hrun:=run_append_grow (P:=P) w t ty e' ie ze hu hie hze ⟨g,0,none⟩ xs.length cp Us.flatten (by rw [hu2,hul,hki]) holds a ys.length c Ws.flatten (by rw [hw2,hwl,hki]) hnews (by omega) hbig (growslice_fits (by omega) hr2)
            refine⟨_,_,_,_,_,hrun,?_,own_rep (G:=G),h,fun b hb=>upd_ne hb⟩
            exact grown_ok (E:=e') (xs:=xs) (Us:=Us) (ys:=ys) (Ws:=Ws) (z:=ze.cells) hm hf hm1 (by simp) hzc (grownCap_ge w _ cp e') (grownCap_le_maxLen w _ cp e' hr1) hul hwl huk hwk
        ·cases h
       ·cases h
      ·cases h
     ·rename_i b off n c0
      split at h
      ·rename_i hnc
       subst hnc
       split at h
       ·rename_i zs hzs
        obtain⟨hb,h2⟩:=of_cond' h
        replace h:=h2
        simp only [Bool.and_eq_true,decide_eq_true_eq] at hb
        obtain⟨h0,hr⟩:=hb
        obtain⟨hr1,hr2⟩:=hroom _ hr
        obtain⟨a,rfl⟩:=hsome h0
        have hnews:∀ (j:Nat) v,Ws.flatten[j]? = some v→w.cell? (a.add j)=some v:=fun j v hj=>by
         obtain⟨q,hq,hc⟩:=hwc j v hj
         obtain rfl:=Option.some.inj hq
         exact hc
        obtain⟨ad1,c1,Us,e1,hc1,hul,huk,huc⟩:=elems_ok hm hs hzs
        have hs':=hs
        simp only [SRep] at hs'
        obtain⟨g,hG,hS⟩:=hs'
        rw [hS] at e1
        simp only [Value.slice.injEq] at e1
        obtain⟨rfl,hnz,rfl⟩:=e1
        have hu2:=flatten_len (uniform hul huk)
        have holds:∀ (j:Nat) u,Us.flatten[j]? = some u→w.cell? ((⟨g,off,none⟩:Addr).add j)=some u:=fun j v hj=>by
         obtain⟨q,hq,hc⟩:=huc j v hj
         obtain rfl:=Option.some.inj hq
         exact hc
        have hbig:((zs.length+ys.length:Nat):Int)≤9223372036854775807:=by unfold maxLen at hr1;omega
        have hrun:=run_append_grow (P:=P) w t ty e ie ze hu hie hze ⟨g,off,none⟩ zs.length n Us.flatten (by rw [hu2,hul,hki]) holds a ys.length c Ws.flatten (by rw [hw2,hwl,hki]) hnews (by omega) hbig (growslice_fits (by omega) hr2)
        rw [hS,hnz]
        rw [hnz] at hrun
        refine⟨_,_,_,_,_,hrun,?_,own_rep (G:=G),h,fun b hb=>upd_ne hb⟩
        exact grown_ok (E:=e) (xs:=zs) (Us:=Us) (ys:=ys) (Ws:=Ws) (z:=ze.cells) hm hf (fun _ _ h=>h) rfl hzc (grownCap_ge w _ _ e) (grownCap_le_maxLen w _ _ e hr1) hul hwl huk hwk
       ·cases h
      ·cases h
     ·cases h
    ·cases h
   ·cases h
  ·cases h
 ·cases h
end Go.Proofs.Ytgmkppeghnlcmaa.X
end
section
set_option linter.unusedVariables false
set_option linter.unusedSimpArgs false
namespace Go.Proofs.Ytgmkppeghnlcmaa.X
open Go Go.RowKit
set_option linter.unusedVariables false
set_option linter.unusedSimpArgs false
variable {P:Program} {T:List TI} {B:Nat} {F:Nat→Prop} {G:Nat→Option Value} {m:Mem} {w:World} {C:RC} {R:Type}
def ORep (C:RC):Option SV→Option Value→Prop
  | none,v=>v=none
  | some s,v=>∃ V,v=some V∧SRep C s V
theorem bound_run {k:IntKind} {n:Int} {y:Nat} {code:BoundsCode} (h0:0≤n) (h1:n≤y):(Instr.sliceBound (.int k n) y code).run P w=.ok n.toNat w:=by
 simp [Instr.sliceBound,asIntOf,h0,h1]
theorem bounds_run {isS:Bool} {len cap:Nat} {lo hi:Option SV} {lo' hi':Option Value} {l h:Int} (hlo:ORep C lo lo') (hhi:ORep C hi hi') (hl:bnd lo 0=some l) (hh:bnd hi len=some h) (h0:0≤l) (h1:l≤h) (h2:h≤cap) :
  (Instr.sliceBounds isS len cap lo' hi' none).run P w=.ok (l.toNat,h.toNat,cap) w:=by
 have hhe:(hi'=none∧h=len)∨∃ k,hi'=some (.int k h):=by
  unfold bnd at hh
  split at hh
  ·simp only [ORep] at hhi;exact Or.inl ⟨hhi,(Option.some.inj hh).symm⟩
  ·simp only [ORep,SRep] at hhi;obtain⟨V,h3,rfl⟩:=hhi;obtain rfl:=Option.some.inj hh;exact Or.inr ⟨_,h3⟩
  ·cases hh
 have hle:(lo'=none∧l=0)∨∃ k,lo'=some (.int k l):=by
  unfold bnd at hl
  split at hl
  ·simp only [ORep] at hlo;exact Or.inl ⟨hlo,(Option.some.inj hl).symm⟩
  ·simp only [ORep,SRep] at hlo;obtain⟨V,h3,rfl⟩:=hlo;obtain rfl:=Option.some.inj hl;exact Or.inr ⟨_,h3⟩
  ·cases hl
 have hln:l≤((h.toNat:Nat):Int):=by omega
 rcases hhe with ⟨rfl,rfl⟩|⟨k,rfl⟩<;>rcases hle with ⟨rfl,rfl⟩|⟨k',rfl⟩
 ·simp [Instr.sliceBounds]
 ·have:=bound_run (P:=P) (w:=w) (k:=k') (n:=l) (y:=len) (code:=.sliceB) h0 (by omega)
  simp [Instr.sliceBounds,this]
 ·have:=fun c=>bound_run (P:=P) (w:=w) (k:=k) (n:=h) (y:=cap) (code:=c) (by omega) h2
  simp [Instr.sliceBounds,this]
 ·have h3:=fun c=>bound_run (P:=P) (w:=w) (k:=k) (n:=h) (y:=cap) (code:=c) (by omega) h2
  have h4:=bound_run (P:=P) (w:=w) (k:=k') (n:=l) (y:=h.toNat) (code:=.sliceB) h0 hln
  simp [Instr.sliceBounds,h3,h4]
theorem sl_ok (hT:TOk P T) {t:TypeId} {x:SV} {X:Value} {lo hi mx:Option SV} {lo' hi' mx':Option Value} {K:SV→Option R} {r:R}
  (hx:SRep (rc F G m w) x X) (hlo:ORep (rc F G m w) lo lo') (hhi:ORep (rc F G m w) hi hi') (hmx:ORep (rc F G m w) mx mx') (h:slx T m t x lo hi mx K=some r) :
  ∃ v V,(Instr.sliceAt t X lo' hi' mx').run P w=.ok V w∧SRep (rc F G m w) v V∧K v=some r:=by
 unfold slx at h
 split at h
 ·rename_i n e b off hd
  obtain⟨ti,D,z0,hi0,hu,hz0,hg⟩:=hT.ty (t:=t) (by simp [okT,hd])
  rw [hg] at hd
  cases D<;>simp only [tdOf] at hd<;>try cases hd
  split at h
  ·rename_i l hh hl hhb
   split at h
   ·rename_i hok
    obtain⟨l1,hl1,rfl,h2⟩:=splitIdx_ok h;replace h:=h2
    obtain⟨h1,hh1,rfl,h3⟩:=splitIdx_ok h;replace h:=h3
    split at h
    ·rename_i hle
     simp only [SRep] at hx
     obtain⟨g,hG,rfl⟩:=hx
     simp only [ORep] at hmx
     subst hmx
     have hb:=bounds_run (P:=P) (w:=w) (isS:=false) (len:=n) (cap:=n) hlo hhi hl hhb (by omega) (by omega) (by omega)
     refine⟨_,.slice (some ((⟨g,off,none⟩:Addr).add (l1*szOf T e))) (h1-l1) (n-l1),?_,?_,h⟩
     ·have hne:¬n=l1:=by omega
      simp [Instr.sliceAt,run_underlying hu,Instr.sureAddr,hb,size_run hT hok,hne]
     ·simp only [SRep];exact⟨g,hG,by rw [Addr.add_mid]⟩
    ·cases h
   ·cases h
  ·cases h
 ·rename_i e Kd xs hd
  obtain⟨ti,D,z0,hi0,hu,hz0,hg⟩:=hT.ty (t:=t) (by simp [okT,hd])
  rw [hg] at hd
  cases D<;>simp only [tdOf] at hd<;>try cases hd
  simp only [SRep] at hx
  obtain⟨ad,c,e',hc,hel⟩:=hx
  simp only [List.cons.injEq,and_true] at e'
  subst e'
  split at h
  ·simp only [ORep] at hmx
   subst hmx
   split at h
   ·rename_i l hh hl hhb
    split at h
    ·rename_i hok
     obtain⟨hb,h2⟩:=of_cond' h
     replace h:=h2
     simp only [Bool.and_eq_true,decide_eq_true_eq] at hb
     obtain⟨b0,b1,b2⟩:=hb
     have hcc:((List.length xs:Nat):Int)≤c:=by exact_mod_cast hc
     have hbd:=bounds_run (P:=P) (w:=w) (isS:=true) (len:=xs.length) (cap:=c) hlo hhi hl hhb b0 b1 (by omega)
     refine⟨_,.slice (if c=l.toNat then ad else ad.map (·.add (l.toNat*szOf T e))) (hh.toNat-l.toNat) (c-l.toNat),?_,?_,h⟩
     ·have hbd':(Instr.sliceBounds true (List.length (α:=Kd.T) xs) c lo' hi' none).run P w=.ok (l.toNat,hh.toNat,c) w:=hbd
      simp [Instr.sliceAt,Instr.slice,run_underlying hu,hbd',size_run hT hok.2]
     ·simp only [SRep]
      have hlen:((xs.take hh.toNat).drop l.toNat).length=hh.toNat-l.toNat:=by
       have:hh.toNat≤xs.length:=by omega
       simp only [List.length_drop,List.length_take];omega
      refine⟨_,_,by rw [hlen],by rw [hlen];omega,fun i y hy=>?_⟩
      have hy':((xs.take hh.toNat).drop l.toNat)[i]? = some y:=hy
      have hi:i<hh.toNat-l.toNat:=by rw [←hlen];exact(List.getElem?_eq_some_iff.1 hy').1
      rw [List.getElem?_drop,List.getElem?_take,if_pos (by omega)] at hy'
      obtain⟨p,Us,rfl,hp,hnb,hcs,hk⟩:=hel (l.toNat+i) y hy'
      rw [if_neg (by omega)]
      refine⟨p.add (l.toNat*szOf T e),Us,rfl,by rw [Addr.add_block];exact hp,by rw [Addr.add_block];exact hnb,fun j u hu=>?_,hk⟩
      rw [Addr.add_add]
      have:=hcs j u hu
      rw [Nat.add_mul] at this
      rw [←hok.1,←Nat.add_assoc];exact this
    ·cases h
   ·cases h
  ·simp only [ORep,SRep] at hmx
   obtain⟨V,rfl,rfl⟩:=hmx
   split at h
   ·rename_i l k hh hl
    split at h
    ·rename_i hok
     obtain⟨hb,h2⟩:=of_cond' h
     replace h:=h2
     simp only [Bool.and_eq_true,decide_eq_true_eq] at hb
     obtain⟨rfl,rfl,rfl⟩:=hb
     simp only [ORep,SRep] at hhi
     obtain⟨V,rfl,rfl⟩:=hhi
     have hle:(lo'=none)∨∃ k,lo'=some (.int k 0):=by
      unfold bnd at hl
      split at hl
      ·simp only [ORep] at hlo;exact Or.inl hlo
      ·simp only [ORep,SRep] at hlo;obtain⟨V,h3,rfl⟩:=hlo;obtain rfl:=Option.some.inj hl;exact Or.inr ⟨_,h3⟩
      ·cases hl
     refine⟨_,.slice ad 0 0,?_,by simp only [SRep];exact⟨ad,rfl⟩,h⟩
     rcases hle with rfl|⟨k',rfl⟩
     ·simp [Instr.sliceAt,Instr.slice,run_underlying hu,size_run hT hok,Instr.sliceBounds,Instr.sliceBound,asIntOf]
     ·simp [Instr.sliceAt,Instr.slice,run_underlying hu,size_run hT hok,Instr.sliceBounds,Instr.sliceBound,asIntOf]
    ·cases h
   ·cases h
  ·cases h
 ·rename_i e b off n c hd
  obtain⟨ti,D,z0,hi0,hu,hz0,hg⟩:=hT.ty (t:=t) (by simp [okT,hd])
  rw [hg] at hd
  cases D<;>simp only [tdOf] at hd<;>try cases hd
  simp only [SRep] at hx
  obtain⟨g,hG,rfl⟩:=hx
  split at h
  ·simp only [ORep] at hmx
   subst hmx
   split at h
   ·rename_i l hh hl hhb
    split at h
    ·rename_i hok
     obtain⟨l1,hl1,rfl,h2⟩:=splitIdx_ok h;replace h:=h2
     obtain⟨h1,hh1,rfl,h3⟩:=splitIdx_ok h;replace h:=h3
     split at h
     ·rename_i hle
      have hnc:=hok.2
      have hb:=bounds_run (P:=P) (w:=w) (isS:=true) (len:=n) (cap:=c) hlo hhi hl hhb (by omega) (by omega) (by omega)
      refine⟨_,.slice (some ((⟨g,off,none⟩:Addr).add (l1*szOf T e))) (h1-l1) (c-l1),?_,?_,h⟩
      ·have hne:¬c=l1:=by omega
       have hb':(Instr.sliceBounds true n c lo' hi' none).run P w=.ok (l1,h1,c) w:=by simpa using hb
       simp [Instr.sliceAt,Instr.slice,run_underlying hu,hb',size_run hT hok.1,hne]
      ·simp only [SRep];exact⟨g,hG,by rw [Addr.add_mid]⟩
     ·cases h
    ·cases h
   ·cases h
  ·cases h
 ·cases h
theorem minmaxF_ok {k:IntKind} {ts:Array TypeId} {ty:TypeId} {mx:Bool}:∀ {l:List SV} {x:Int} {vs:List Value} {v:SV},minmaxF mx k x l=some v→SReps C l vs →
  ∃ V,((vs.foldlM (if mx then Builtin.max2 else Builtin.min2) (.int k x)):Sem Value).run P w=.ok V w∧SRep C v V:=by
 intro l
 induction l with
 | nil =>
  intro x vs v h hl
  simp only [SReps] at hl
  subst hl
  simp only [minmaxF,Option.some.injEq] at h
  subst h
  exact⟨_,by simp;rfl,by simp only [SRep]⟩
 | cons s l ih =>
  intro x vs v h hl
  simp only [SReps] at hl
  obtain⟨u,us,rfl,hs,hl⟩:=hl
  cases s<;>(first|simp only [minmaxF] at h|unfold minmaxF at h)<;>try cases h
  rename_i y
  cases y<;>(first|simp only [minmaxF] at h|unfold minmaxF at h)<;>try cases h
  rename_i k' y
  split at h
  ·rename_i e
   subst e
   simp only [SRep] at hs
   subst hs
   obtain⟨V,hV,hr⟩:=ih h hl
   refine⟨V,?_,hr⟩
   cases mx
   ·simp only [List.foldlM_cons,Bool.false_eq_true,if_false,Builtin.min2] at hV ⊢
    simpa using hV
   ·simp only [List.foldlM_cons,if_true,Builtin.max2] at hV ⊢
    simpa using hV
  ·cases h
theorem minmax_ok {mx:Bool} {l:List SV} {vs:List Value} {v:SV} (h:minmax mx l=some v) (hl:SReps C l vs) (ts:Array TypeId) (ty:TypeId) :
  ∃ V,((if mx then Builtin.max_ ts ty vs.toArray else Builtin.min_ ts ty vs.toArray):Sem Value).run P w=.ok V w∧SRep C v V:=by
 unfold minmax at h
 split at h
 ·rename_i k a l
  simp only [SReps,SRep] at hl
  obtain⟨u,us,rfl,rfl,hl⟩:=hl
  obtain⟨V,hV,hr⟩:=minmaxF_ok (P:=P) (w:=w) (ts:=ts) (ty:=ty) h hl
  refine⟨V,?_,hr⟩
  cases mx
  ·simpa [Builtin.min_] using hV
  ·simpa [Builtin.max_] using hV
 ·cases h
end Go.Proofs.Ytgmkppeghnlcmaa.X
end
