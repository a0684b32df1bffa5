/- Lemmas of the rows, laid by a program. -/
import Derived.Test.YtgmkppeghnlcmaaYM5
import Derived.Test.YtgmkppeghnlcmaaProg
import Derived.RangeFuncSeq
section
set_option linter.unusedVariables false
set_option linter.unusedSimpArgs false
namespace Go.Proofs.Ytgmkppeghnlcmaa.X
open Go Go.RowKit
theorem ret_bool {C:RC} {B:Nat} {b:Bool} {V:Value} (h:RRep C B (.one (.sc .bool)) b V):V=.bool b:=by
 have h':SRep C (.v (.bool b)) V:=h
 simpa only [SRep] using h'
end Go.Proofs.Ytgmkppeghnlcmaa.X
end
section
set_option linter.unusedVariables false
set_option linter.unusedSimpArgs false
namespace Go.Proofs.Ytgmkppeghnlcmaa.X
open Go Go.RowKit
set_option maxRecDepth 100000
def tis:List TI :=
  [⟨1,0,[.tuple #[]],false,.other⟩,
  ⟨1,8,[.nilFunc],false,.other⟩,
  ⟨1,8,[.int .i64 (0)],false,.int .i64⟩,
  ⟨1,8,[.int .i64 (0)],false,.int .i64⟩,
  ⟨1,1,[.bool false],false,.bool⟩,
  ⟨1,1,[.int .u8 (0)],false,.int .u8⟩,
  ⟨1,1,[.int .u8 (0)],false,.int .u8⟩,
  ⟨4,24,[.int .i64 (0),.int .i64 (0),.bool false,.int .u8 (0)],true,.struct [(0,2),(1,3),(2,4),(3,6)]⟩,
  ⟨4,24,[.int .i64 (0),.int .i64 (0),.bool false,.int .u8 (0)],true,.struct [(0,2),(1,3),(2,4),(3,6)]⟩,
  ⟨1,16,[.string ⟨#[]⟩],false,.other⟩,
  ⟨1,16,[.string ⟨#[]⟩],false,.other⟩,
  ⟨1,16,[.string ⟨#[]⟩],false,.other⟩,
  ⟨1,8,[.int .u64 (0)],false,.int .u64⟩,
  ⟨2,24,[.string ⟨#[]⟩,.int .u64 (0)],false,.struct [(0,9),(1,12)]⟩,
  ⟨2,24,[.string ⟨#[]⟩,.int .u64 (0)],false,.struct [(0,9),(1,12)]⟩,
  ⟨1,8,[.pointer none],false,.ptr⟩,
  ⟨1,8,[.pointer none],false,.ptr⟩,
  ⟨1,8,[.pointer none],false,.ptr⟩,
  ⟨1,8,[.pointer none],false,.struct [(0,17)]⟩,
  ⟨1,8,[.pointer none],false,.struct [(0,17)]⟩,
  ⟨1,16,[.nilIface],false,.other⟩,
  ⟨1,4,[.int .i32 (0)],false,.int .i32⟩,
  ⟨4,32,[.int .i64 (0),.int .i64 (0),.int .i64 (0),.int .i64 (0)],true,.array 4 3⟩,
  ⟨3,24,[.int .i64 (0),.int .i64 (0),.int .i64 (0)],true,.array 3 3⟩,
  ⟨8,64,[.int .i64 (0),.int .i64 (0),.int .i64 (0),.int .i64 (0),.int .i64 (0),.int .i64 (0),.int .i64 (0),.bool false],true,.struct [(0,22),(4,23),(7,4)]⟩,
  ⟨8,64,[.int .i64 (0),.int .i64 (0),.int .i64 (0),.int .i64 (0),.int .i64 (0),.int .i64 (0),.int .i64 (0),.bool false],true,.struct [(0,22),(4,23),(7,4)]⟩,
  ⟨6,48,[.int .i64 (0),.int .i64 (0),.int .i64 (0),.int .i64 (0),.int .i64 (0),.bool false],true,.struct [(0,3),(1,3),(2,3),(3,3),(4,3),(5,4)]⟩,
  ⟨6,48,[.int .i64 (0),.int .i64 (0),.int .i64 (0),.int .i64 (0),.int .i64 (0),.bool false],true,.struct [(0,3),(1,3),(2,3),(3,3),(4,3),(5,4)]⟩,
  ⟨18,144,[.int .i64 (0),.int .i64 (0),.int .i64 (0),.int .i64 (0),.int .i64 (0),.bool false,.int .i64 (0),.int .i64 (0),.int .i64 (0),.int .i64 (0),.int .i64 (0),.bool false,.int .i64 (0),.int .i64 (0),.int .i64 (0),.int .i64 (0),.int .i64 (0),.bool false],true,.array 3 27⟩,
  ⟨29,232,[.int .i64 (0),.int .i64 (0),.int .i64 (0),.int .i64 (0),.int .i64 (0),.int .i64 (0),.int .i64 (0),.int .i64 (0),.int .i64 (0),.int .i64 (0),.bool false,.int .i64 (0),.int .i64 (0),.int .i64 (0),.int .i64 (0),.int .i64 (0),.bool false,.int .i64 (0),.int .i64 (0),.int .i64 (0),.int .i64 (0),.int .i64 (0),.bool false,.int .i64 (0),.int .i64 (0),.int .i64 (0),.int .i64 (0),.int .i64 (0),.bool false],true,.struct [(0,3),(1,3),(2,3),(3,25),(11,28)]⟩,
  ⟨29,232,[.int .i64 (0),.int .i64 (0),.int .i64 (0),.int .i64 (0),.int .i64 (0),.int .i64 (0),.int .i64 (0),.int .i64 (0),.int .i64 (0),.int .i64 (0),.bool false,.int .i64 (0),.int .i64 (0),.int .i64 (0),.int .i64 (0),.int .i64 (0),.bool false,.int .i64 (0),.int .i64 (0),.int .i64 (0),.int .i64 (0),.int .i64 (0),.bool false,.int .i64 (0),.int .i64 (0),.int .i64 (0),.int .i64 (0),.int .i64 (0),.bool false],true,.struct [(0,3),(1,3),(2,3),(3,25),(11,28)]⟩,
  ⟨1,24,[.slice none 0 0],false,.slice 40⟩,
  ⟨1,8,[.nilFunc],false,.other⟩,
  ⟨1,8,[.int .i64 (0)],false,.int .i64⟩,
  ⟨1,0,[.tuple { toList:=[.agg { toList:=[.int .i64 (0),.int .i64 (0),.int .i64 (0),.int .i64 (0),.int .i64 (0),.int .i64 (0),.int .i64 (0),.int .i64 (0),.int .i64 (0),.int .i64 (0),.bool false,.int .i64 (0),.int .i64 (0),.int .i64 (0),.int .i64 (0),.int .i64 (0),.bool false,.int .i64 (0),.int .i64 (0),.int .i64 (0),.int .i64 (0),.int .i64 (0),.bool false,.int .i64 (0),.int .i64 (0),.int .i64 (0),.int .i64 (0),.int .i64 (0),.bool false] },.int .i64 (0)] }],false,.other⟩,
  ⟨1,8,[.nilFunc],false,.other⟩,
  ⟨1,8,[.nilFunc],false,.other⟩,
  ⟨1,8,[.nilFunc],false,.other⟩,
  ⟨1,8,[.nilFunc],false,.other⟩,
  ⟨1,8,[.nilFunc],false,.other⟩,
  ⟨1,8,[.int .u64 (0)],false,.int .u64⟩,
  ⟨1,8,[.nilFunc],false,.other⟩,
  ⟨1,8,[.nilFunc],false,.other⟩,
  ⟨1,8,[.nilFunc],false,.other⟩,
  ⟨1,8,[.nilFunc],false,.other⟩,
  ⟨1,8,[.nilFunc],false,.other⟩,
  ⟨1,8,[.nilFunc],false,.other⟩,
  ⟨1,8,[.nilFunc],false,.other⟩,
  ⟨1,8,[.nilFunc],false,.other⟩,
  ⟨1,8,[.pointer none],false,.ptr⟩,
  ⟨1,8,[.pointer none],false,.ptr⟩,
  ⟨1,8,[.int .u64 (0)],false,.int .u64⟩,
  ⟨1,8,[.pointer none],false,.ptr⟩,
  ⟨4,32,[.pointer none,.pointer none,.pointer none,.pointer none],true,.array 4 52⟩,
  ⟨1,8,[.nilFunc],false,.other⟩,
  ⟨1,8,[.nilFunc],false,.other⟩,
  ⟨1,24,[.slice none 0 0],false,.slice 3⟩,
  ⟨1,8,[.nilFunc],false,.other⟩,
  ⟨1,8,[.nilFunc],false,.other⟩,
  ⟨1,8,[.nilFunc],false,.other⟩,
  ⟨1,8,[.nilFunc],false,.other⟩,
  ⟨1,24,[.slice none 0 0],false,.slice 27⟩,
  ⟨1,8,[.nilFunc],false,.other⟩,
  ⟨1,8,[.nilFunc],false,.other⟩,
  ⟨1,24,[.slice none 0 0],false,.slice 50⟩,
  ⟨1,8,[.pointer none],false,.ptr⟩,
  ⟨1,8,[.nilFunc],false,.other⟩,
  ⟨1,0,[.tuple { toList:=[.int .i64 (0),.bool false] }],false,.other⟩,
  ⟨1,8,[.nilFunc],false,.other⟩,
  ⟨1,8,[.nilFunc],false,.other⟩,
  ⟨1,8,[.nilFunc],false,.other⟩,
  ⟨1,8,[.nilFunc],false,.other⟩,
  ⟨1,8,[.nilFunc],false,.other⟩,
  ⟨1,8,[.nilFunc],false,.other⟩,
  ⟨1,8,[.nilFunc],false,.other⟩,
  ⟨1,8,[.nilFunc],false,.other⟩,
  ⟨1,8,[.nilFunc],false,.other⟩,
  ⟨1,8,[.nilFunc],false,.other⟩,
  ⟨1,8,[.nilFunc],false,.other⟩,
  ⟨2,16,[.int .i64 (0),.int .i64 (0)],true,.struct [(0,3),(1,3)]⟩,
  ⟨2,16,[.int .i64 (0),.int .i64 (0)],true,.struct [(0,3),(1,3)]⟩,
  ⟨1,8,[.nilFunc],false,.other⟩,
  ⟨1,8,[.nilFunc],false,.other⟩,
  ⟨1,8,[.nilFunc],false,.other⟩,
  ⟨1,8,[.nilFunc],false,.other⟩,
  ⟨1,8,[.nilFunc],false,.other⟩,
  ⟨1,8,[.nilFunc],false,.other⟩,
  ⟨1,0,[.tuple { toList:=[.slice none 0 0,.bool false] }],false,.other⟩,
  ⟨1,8,[.nilFunc],false,.other⟩,
  ⟨1,8,[.nilFunc],false,.other⟩,
  ⟨1,8,[.nilFunc],false,.other⟩,
  ⟨1,8,[.nilFunc],false,.other⟩,
  ⟨1,8,[.nilFunc],false,.other⟩,
  ⟨1,0,[.tuple { toList:=[.agg { toList:=[.int .i64 (0),.int .i64 (0)] },.bool false] }],false,.other⟩,
  ⟨1,8,[.nilFunc],false,.other⟩,
  ⟨1,8,[.nilFunc],false,.other⟩,
  ⟨1,8,[.nilFunc],false,.other⟩,
  ⟨1,8,[.nilFunc],false,.other⟩,
  ⟨1,8,[.nilFunc],false,.other⟩,
  ⟨1,8,[.nilFunc],false,.other⟩,
  ⟨1,8,[.nilFunc],false,.other⟩,
  ⟨1,8,[.nilFunc],false,.other⟩,
  ⟨1,8,[.nilFunc],false,.other⟩,
  ⟨1,8,[.nilFunc],false,.other⟩,
  ⟨1,0,[.tuple { toList:=[.int .u64 (0),.int .u64 (0)] }],false,.other⟩,
  ⟨1,8,[.nilFunc],false,.other⟩,
  ⟨1,8,[.nilFunc],false,.other⟩,
  ⟨1,8,[.nilFunc],false,.other⟩,
  ⟨1,8,[.nilFunc],false,.other⟩,
  ⟨4,40,[.pointer none,.pointer none,.pointer none,.string ⟨#[]⟩],false,.struct [(0,17),(1,17),(2,17),(3,9)]⟩,
  ⟨4,40,[.pointer none,.pointer none,.pointer none,.string ⟨#[]⟩],false,.struct [(0,17),(1,17),(2,17),(3,9)]⟩,
  ⟨0,0,[],true,.array 0 16⟩,
  ⟨0,0,[],false,.struct [(0,111)]⟩,
  ⟨0,0,[],false,.struct [(0,111)]⟩,
  ⟨1,8,[.nilFunc],false,.other⟩,
  ⟨1,4,[.int .u32 (0)],false,.int .u32⟩,
  ⟨1,1,[.int .u8 (0)],false,.int .u8⟩,
  ⟨1,1,[.int .u8 (0)],false,.int .u8⟩,
  ⟨1,8,[.nilFunc],false,.other⟩,
  ⟨1,8,[.pointer none],false,.ptr⟩,
  ⟨1,4,[.int .i32 (0)],false,.int .i32⟩,
  ⟨1,4,[.int .i32 (0)],false,.int .i32⟩,
  ⟨11,48,[.int .u64 (0),.int .u64 (0),.int .u32 (0),.int .u8 (0),.int .u8 (0),.int .u8 (0),.int .u8 (0),.nilFunc,.pointer none,.int .i32 (0),.int .i32 (0)],false,.struct [(0,12),(1,12),(2,115),(3,116),(4,5),(5,5),(6,117),(7,118),(8,119),(9,120),(10,121)]⟩,
  ⟨11,48,[.int .u64 (0),.int .u64 (0),.int .u32 (0),.int .u8 (0),.int .u8 (0),.int .u8 (0),.int .u8 (0),.nilFunc,.pointer none,.int .i32 (0),.int .i32 (0)],false,.struct [(0,12),(1,12),(2,115),(3,116),(4,5),(5,5),(6,117),(7,118),(8,119),(9,120),(10,121)]⟩,
  ⟨1,8,[.pointer none],false,.other⟩]
theorem tis_ok:tis=(List.range 125).map (tiOf Try.prog):=by kernel_rfl
theorem names_ok:(Try.prog.funcs.toList.all fun fn=>!(fn.name == "runtime.NumGoroutine"))=true:=by kernel_rfl
noncomputable def mk (sp:FuncId→Option Spec):Ctx:={ spec:=sp,inl:=fun _=>true,T:=tis,fns:=fun f=>Try.prog.funcs[f]?,sym:=fun _ _=>false }
theorem mk_ok {sp:FuncId→Option Spec} (h:∀ f s,sp f=some s→SpecOk Try.prog f s):XOk Try.prog (mk sp) where
 mixed:=by kernel_rfl
 T:=TOk.of_range tis_ok
 fns:=fun f fn hf=>⟨hf,by
  have h1:=List.all_eq_true.1 names_ok fn (by
   have:Try.prog.funcs[f]? = some fn:=hf
   simpa using Array.mem_of_getElem? this)
  simpa using h1⟩
 spec:=h
 alt:=fun _ _ h=>nomatch h
 iter:=fun _ _ h=>nomatch h
noncomputable def mka (sp:FuncId→Option Spec) (al:FuncId→Option Alt):Ctx:={ spec:=sp,alt:=al,inl:=fun _=>true,T:=tis,fns:=fun f=>Try.prog.funcs[f]?,sym:=fun _ _=>false }
theorem mka_ok {sp:FuncId→Option Spec} {al:FuncId→Option Alt} (h:XOk Try.prog (mk sp)) (ha:∀ f a,al f=some a→SpecOk Try.prog f ⟨a.A,a.R,fun x=>(a.f x).opt⟩):XOk Try.prog (mka sp al) where
 mixed:=h.mixed
 T:=h.T
 fns:=h.fns
 spec:=h.spec
 alt:=ha
 iter:=fun _ _ h=>nomatch h
noncomputable def mki (sp:FuncId→Option Spec) (al:FuncId→Option Alt) (it:FuncId→Option (List SV→Mem→Option (List SV × List Nat))):Ctx:={ spec:=sp,alt:=al,iter:=it,inl:=fun _=>true,T:=tis,fns:=fun f=>Try.prog.funcs[f]?,sym:=fun _ _=>false }
theorem mki_ok {sp:FuncId→Option Spec} {al:FuncId→Option Alt} {it:FuncId→Option (List SV→Mem→Option (List SV × List Nat))} (h:XOk Try.prog (mk sp)) (ha:∀ f a,al f=some a→SpecOk Try.prog f ⟨a.A,a.R,fun x=>(a.f x).opt⟩) (hi:∀ g i,it g=some i→IterOk Try.prog g i):XOk Try.prog (mki sp al it) where
 mixed:=h.mixed
 T:=h.T
 fns:=h.fns
 spec:=h.spec
 alt:=ha
 iter:=hi
end Go.Proofs.Ytgmkppeghnlcmaa.X
end
section
set_option linter.unusedVariables false
set_option linter.unusedSimpArgs false
namespace Go.Proofs.Ytgmkppeghnlcmaa.X
open Go Go.RowKit
set_option linter.unusedVariables false
set_option linter.unusedSimpArgs false
variable {P:Program} {B:Nat} {F:Nat→Prop} {G:Nat→Option Value} {m:Mem} {w:World} {R:Type}
mutual
def light:SV→Bool
  | .v _=>true
  | .ptr ..=>true
  | .own _=>true
  | .arr ..=>true
  | .eptr ..=>true
  | .junk=>true
  | .fn _ x y=>lights x && lights y
  | .agg l=>lights l
  | .tup l=>lights l
  | _=>false
def lights:List SV→Bool
  | []=>true
  | s :: l=>light s && lights l
end
mutual
theorem light_rep {C C':RC} (hG:∀ b V,C.G b=some V→C'.G b=some V):∀ {s:SV} {V:Value},light s=true→SRep C s V→SRep C' s V
  | .v x,V,_,h=>by simpa only [SRep] using h
  | .agg l,V,hl,h=>by
    simp only [SRep] at h ⊢
    obtain⟨vs,hv,h⟩:=h
    exact⟨vs,hv,lights_rep hG (by simpa only [light] using hl) h⟩
  | .tup l,V,hl,h=>by
    simp only [SRep] at h ⊢
    obtain⟨vs,hv,h⟩:=h
    exact⟨vs,hv,lights_rep hG (by simpa only [light] using hl) h⟩
  | .ptr b off,V,_,h=>by
    simp only [SRep] at h ⊢
    obtain⟨g,hg,hv⟩:=h
    exact⟨g,hG _ _ hg,hv⟩
  | .seq K xs,V,hl,h=>by simp only [light] at hl;cases hl
  | .own b,V,_,h=>by
    simp only [SRep] at h ⊢
    exact⟨hG _ _ h.1,h.2⟩
  | .arr b off n c,V,_,h=>by
    simp only [SRep] at h ⊢
    obtain⟨g,hg,hv⟩:=h
    exact⟨g,hG _ _ hg,hv⟩
  | .rptr K x off,V,hl,h=>by simp only [light] at hl;cases hl
  | .eptr b sz i o,V,_,h=>by
    simp only [SRep] at h ⊢
    obtain⟨g,n,c,hg,hv⟩:=h
    exact⟨g,n,c,hG _ _ hg,hv⟩
  | .emp,V,hl,h=>by simp only [light] at hl;cases hl
  | .fn f x y,V,hl,h=>by
    simp only [light,Bool.and_eq_true] at hl
    simp only [SRep] at h ⊢
    obtain⟨xs,ys,hv,h1,h2⟩:=h
    exact⟨xs,ys,hv,lights_rep hG hl.1 h1,lights_rep hG hl.2 h2⟩
  | .junk,V,_,h=>by simp only [SRep]
theorem lights_rep {C C':RC} (hG:∀ b V,C.G b=some V→C'.G b=some V):∀ {l:List SV} {vs:List Value},lights l=true→SReps C l vs→SReps C' l vs
  | [],vs,_,h=>by simpa only [SReps] using h
  | s :: l,vs,hl,h=>by
    simp only [lights,Bool.and_eq_true] at hl
    simp only [SReps] at h ⊢
    obtain⟨v,vs',rfl,h1,h2⟩:=h
    exact⟨v,vs',rfl,light_rep hG hl.1 h1,lights_rep hG hl.2 h2⟩
end
mutual
def fixd:SV→Bool
  | .v _=>true
  | .ptr ..=>true
  | .own _=>true
  | .arr ..=>true
  | .agg l=>fixds l
  | _=>false
def fixds:List SV→Bool
  | []=>true
  | s :: l=>fixd s && fixds l
end
mutual
theorem fixd_eq {C C':RC} (hG:∀ b V,C.G b=some V→C'.G b=some V):∀ {s:SV} {V V':Value},fixd s=true→SRep C s V→SRep C' s V'→V=V'
  | .v x,V,V',_,h,h'=>by simp only [SRep] at h h';rw [h,h']
  | .agg l,V,V',hl,h,h'=>by
    simp only [SRep] at h h'
    obtain⟨vs,rfl,h⟩:=h
    obtain⟨vs',rfl,h'⟩:=h'
    have:=fixds_eq hG (by simpa only [fixd] using hl) h h'
    rw [Array.toList_inj.1 this]
  | .tup l,V,V',hl,h,h'=>by simp only [fixd] at hl;cases hl
  | .ptr b off,V,V',_,h,h'=>by
    simp only [SRep] at h h'
    obtain⟨g,hg,rfl⟩:=h
    obtain⟨g',hg',rfl⟩:=h'
    have:=(hG _ _ hg).symm.trans hg'
    simp at this;rw [this]
  | .seq K xs,V,V',hl,h,h'=>by simp only [fixd] at hl;cases hl
  | .own b,V,V',_,h,h'=>by
    simp only [SRep] at h h'
    exact Option.some.inj ((hG _ _ h.1).symm.trans h'.1)
  | .arr b off n c,V,V',_,h,h'=>by
    simp only [SRep] at h h'
    obtain⟨g,hg,rfl⟩:=h
    obtain⟨g',hg',rfl⟩:=h'
    have:=(hG _ _ hg).symm.trans hg'
    simp at this;rw [this]
  | .rptr K x off,V,V',hl,h,h'=>by simp only [fixd] at hl;cases hl
  | .eptr b sz i o,V,V',hl,h,h'=>by simp only [fixd] at hl;cases hl
  | .emp,V,V',hl,h,h'=>by simp only [fixd] at hl;cases hl
  | .fn f x y,V,V',hl,h,h'=>by simp only [fixd] at hl;cases hl
  | .junk,V,V',hl,h,h'=>by simp only [fixd] at hl;cases hl
theorem fixds_eq {C C':RC} (hG:∀ b V,C.G b=some V→C'.G b=some V):∀ {l:List SV} {vs vs':List Value},fixds l=true→SReps C l vs→SReps C' l vs'→vs=vs'
  | [],vs,vs',_,h,h'=>by simp only [SReps] at h h';rw [h,h']
  | s :: l,vs,vs',hl,h,h'=>by
    simp only [fixds,Bool.and_eq_true] at hl
    simp only [SReps] at h h'
    obtain⟨v,us,rfl,h1,h2⟩:=h
    obtain⟨v',us',rfl,h1',h2'⟩:=h'
    rw [fixd_eq hG hl.1 h1 h1',fixds_eq hG hl.2 h2 h2']
end
abbrev onlyM (L:List Nat) (m:Mem):Mem:=mask L [] m
theorem only_of {L:List Nat} {b:Nat} {r:Bool} {k:Blk} (h:(onlyM L m)[b]? = some (some (r,k))):b ∈ L∧r=false∧∃ r1,m[b]? = some (some (r1,k)):=by
 obtain⟨r1,h1,h2⟩:=mask_live h
 rcases h2 with ⟨h2,_⟩|⟨_,h2,h3⟩
 ·cases h2
 ·exact⟨h2,h3,r1,h1⟩
def ownOf (G:Nat→Option Value) (m:Mem) (g:Nat):Prop:=∃ b r k V,m[b]? = some (some (r,k))∧G b=some V∧blkOf V=some g
def offOf (F:Nat→Prop) (G:Nat→Option Value) (m m1:Mem) (g:Nat):Prop:=badOf F G m g∧¬ownOf G m1 g
theorem off_bad {L:List Nat} (g:Nat):badOf (offOf F G m (onlyM L m)) G (onlyM L m) g↔badOf F G m g:=by
 constructor
 ·rintro(h|⟨b,r,k,V,h1,h2,h3⟩)
  ·exact h.1
  ·obtain⟨_,_,r1,h4⟩:=only_of h1
   exact Or.inr ⟨b,r1,k,V,h4,h2,h3⟩
 ·intro h
  by_cases ho:ownOf G (onlyM L m) g
  ·exact Or.inr ho
  ·exact Or.inl ⟨h,ho⟩
theorem kpt_le (hm:MInv B F G m w) {L:List Nat} {W:World} (hk:Kpt w.heap.size (wrOf G (lockM L m)) w W):(rc F G m w).Le (rc (offOf F G m (onlyM L m)) G (onlyM L m) W) :=
 ⟨fun _ _ h=>h,hk.size,fun g hg hn=>hk.same g hg (fun hw=>hn (wr_bad (lock_wr hw))),fun g _ hn hb=>hn ((off_bad g).1 hb)⟩
theorem minv_kpt (hm:MInv B F G m w) {L:List Nat} {W:World} (hk:Kpt w.heap.size (wrOf G (lockM L m)) w W):MInv B (offOf F G m (onlyM L m)) G (onlyM L m) W where
 sz:=Nat.le_trans hm.sz hk.size
 fr:=by
  rintro g ⟨hF|⟨b,r,k,V,h1,h2,h3⟩,_⟩
  ·exact Nat.lt_of_lt_of_le (hm.fr g hF) hk.size
  ·exact Nat.lt_of_lt_of_le (hm.ge _ _ _ _ _ h1 h2 h3).2 hk.size
 fo:=fun b r k V g h1 h2 h3 hF=>hF.2 ⟨b,r,k,V,h1,h2,h3⟩
 len:=fun b hb=>hm.len b (by simpa [mask_len] using hb)
 blk:=fun b r k hb=>by
  obtain⟨hL,_,r1,h1⟩:=only_of hb
  obtain⟨V,hV,hr⟩:=hm.blk _ _ _ h1
  refine⟨V,hV,hr.le (kpt_le hm hk) fun g hg=>hk.same g (hm.ge _ _ _ _ _ h1 hV hg).2 ?_⟩
  rintro⟨b',k',V',h2,h3,h4⟩
  obtain⟨r2,h5⟩:=(lock_sub L m).2 _ _ _ h2
  obtain rfl:=hm.inj _ _ _ _ _ _ _ _ _ h1 h5 hV h3 hg h4
  have:=lock_not hL h2
  cases this
 inj:=fun b r k b' r' k' V V' g h1 h2 h3 h4 h5 h6=>by
  obtain⟨_,_,r1,h1⟩:=only_of h1
  obtain⟨_,_,r2,h2⟩:=only_of h2
  exact hm.inj _ _ _ _ _ _ _ _ _ h1 h2 h3 h4 h5 h6
 ge:=fun b r k V g h1 h2 h3=>by
  obtain⟨_,_,r1,h1⟩:=only_of h1
  have:=hm.ge _ _ _ _ _ h1 h2 h3
  exact⟨this.1,Nat.lt_of_lt_of_le this.2 hk.size⟩
theorem minv_more {G':Nat→Option Value} {W1:World} (h:MInv B F G m w) (h1:MInv B F G' m W1) (hG:∀ b V,G b=some V→G' b=some V):MInv B F G' m w:=by
 have live:∀ b r k V,m[b]? = some (some (r,k))→G' b=some V→G b=some V:=by
  intro b r k V hb hV
  obtain⟨U,hU,_⟩:=h.blk b r k hb
  rw [hG _ _ hU] at hV
  rw [←hV];exact hU
 have hle:(rc F G m w).Le (rc F G' m w):=⟨hG,Nat.le_refl _,fun _ _ _=>rfl,fun g _ hn hb=>hn (by
  rcases hb with hF|⟨b,r,k,V,h1,h2,h3⟩
  ·exact Or.inl hF
  ·exact Or.inr ⟨b,r,k,V,h1,live _ _ _ _ h1 h2,h3⟩)⟩
 refine⟨h.sz,h.fr,fun b r k V g e1 e2 e3=>h.fo _ _ _ _ _ e1 (live _ _ _ _ e1 e2) e3,h1.len,fun b r k hb=>?_,fun b r k b' r' k' V V' g e1 e2 e3 e4=>h.inj _ _ _ _ _ _ _ _ _ e1 e2 (live _ _ _ _ e1 e3) (live _ _ _ _ e2 e4),fun b r k V g e1 e2=>h.ge _ _ _ _ _ e1 (live _ _ _ _ e1 e2)⟩
 obtain⟨V,hV,hr⟩:=h.blk b r k hb
 exact⟨V,hG _ _ hV,hr.le hle fun _ _=>rfl⟩
theorem only_wr {L:List Nat} {G':Nat→Option Value} (g:Nat):¬wrOf G' (onlyM L m) g:=by
 rintro⟨b,k,V,h1,_⟩
 have:=(only_of h1).2.1
 cases this
theorem yield_wp {o:Oper} {c:Call} {f x:Operand} {l:Nat} {V:Value} {a:Act} {next:Act→World→Prop} {Q:Exit→Act→World→Prop} (hop:o.op=.call c) (hc:c.callee=.value f) (hx:c.args=#[x])
  (hf:a.eval f=.func (.yield l) #[] #[]) (hV:a.eval x=V) {Rr:Ending→World→Prop} (hY:YieldAt (FW none) 2 P l #[V] w Rr)
  (hn:∀ e w',Rr e w'→∃ v,e=.returned v∧next (a.put o.dst v) w'):o.wpIn (FW none) 3 P a w next Q:=by
 obtain⟨fn,tmps,assign,body,hy,hR⟩:=hY
 refine⟨fun _ _=>trivial,?_⟩
 have hs:(o.semAt (FW none).round a.eval).run P w=.ok (.round l fn tmps assign body) w:=by
  generalize a.eval=ρ at hf hV ⊢
  simp [Oper.semAt,hop,execOp,resolve,hc,hx,hf,hV,invoke,Sem.run_bind,Deferred.ofValue,go_sem,hy]
 rw [hs,Oper.uponIn_round]
 refine⟨fun _=>by decide,hR.mono ?_⟩
 rintro e w' hr
 obtain⟨v,rfl,h⟩:=hn e w' hr
 exact h
theorem opsx_pre {ro:Option Nat} {nd:Nat} {X:Ctx} (hX:XOk P X) {rec:Rec R} (hrec:RecOk P rec) {fid:FuncId} {ops:Array Oper} {Q:Exit→Act→World→Prop} {r:R} {l':List Oper} :
  ∀ (l:List Oper) (i:Nat) (s:St) (K:St→Option R) (a:Act) (w:World) (G:Nat→Option Value),ops.toList.drop i=l++l'→MInv B F G s.m w→SReps (rc F G s.m w) s.t a.tmps.toList→opsx X rec fid ops l s K=some r →
  (∀ (s':St) (a':Act) w' G' j,After B F G s.m w G' s'.m w'→SReps (rc F G' s'.m w') s'.t a'.tmps.toList→a'.defers=a.defers→K s'=some r→ops.toList.drop j=l'→wpOpsIn (FW ro) nd P ops Q (List.range' j (ops.size-j)) a' w')→wpOpsIn (FW ro) nd P ops Q (List.range' i (ops.size-i)) a w:=by
 intro l
 induction l with
 | nil =>
  intro i s K a w G hl hm ht h hn
  exact hn s a w G i (After.refl hm) ht rfl h hl
 | cons o l ih =>
  intro i s K a w G hl hm ht h hn
  have hlt:i<ops.size:=by
   have:=congrArg List.length hl
   simp at this
   omega
  obtain⟨n,hsz⟩:∃ n,ops.size-i=n+1:=⟨ops.size-i-1,by omega⟩
  have hoi:ops[i]? = some o:=by
   have:(ops.toList.drop i)[0]? = some o:=by rw [hl];rfl
   simpa using this
  rw [hsz,List.range'_succ]
  simp only [opsx] at h
  simp only [wpOpsIn,hoi]
  have hl2:ops.toList.drop (i+1)=l++l':=by
   have:=congrArg List.tail hl
   simpa [List.tail_drop] using this
  refine opg_ok (p:=none) hX hrec hm trivial ht h (wpOpsIn (FW ro) nd P ops Q (List.range' (i+1) n)) Q fun s' a' w' G' haf ht' hd hk=>?_
  have hn1:n=ops.size-(i+1):=by omega
  rw [hn1]
  exact ih (i+1) s' K a' w' G' hl2 haf.minv ht' hk fun s2 a2 w2 G2 j haf2 ht2 hd2 hk2 hj=>hn s2 a2 w2 G2 j (haf.trans haf2) ht2 (hd2.trans hd) hk2 hj
mutual
theorem light_back {C C':RC} {lv:Nat→Prop} (hG:∀ b V,lv b→C.G b=some V→C'.G b=some V):∀ {s:SV} {V:Value},light s=true→(∀ b,b ∈ names s→lv b)→SRep C s V→SRep C' s V
  | .v x,V,_,_,h=>by simpa only [SRep] using h
  | .agg l,V,hl,hn,h=>by
    simp only [SRep] at h ⊢
    obtain⟨vs,hv,h⟩:=h
    exact⟨vs,hv,lights_back hG (by simpa only [light] using hl) (fun b hb=>hn b (by simpa only [names] using hb)) h⟩
  | .tup l,V,hl,hn,h=>by
    simp only [SRep] at h ⊢
    obtain⟨vs,hv,h⟩:=h
    exact⟨vs,hv,lights_back hG (by simpa only [light] using hl) (fun b hb=>hn b (by simpa only [names] using hb)) h⟩
  | .ptr b off,V,_,hn,h=>by
    simp only [SRep] at h ⊢
    obtain⟨g,hg,hv⟩:=h
    exact⟨g,hG _ _ (hn b (by simp [names])) hg,hv⟩
  | .seq K xs,V,hl,_,h=>by simp only [light] at hl;cases hl
  | .own b,V,_,hn,h=>by
    simp only [SRep] at h ⊢
    exact⟨hG _ _ (hn b (by simp [names])) h.1,h.2⟩
  | .arr b off n c,V,_,hn,h=>by
    simp only [SRep] at h ⊢
    obtain⟨g,hg,hv⟩:=h
    exact⟨g,hG _ _ (hn b (by simp [names])) hg,hv⟩
  | .rptr K x off,V,hl,_,h=>by simp only [light] at hl;cases hl
  | .eptr b sz i o,V,_,hn,h=>by
    simp only [SRep] at h ⊢
    obtain⟨g,n,c,hg,hv⟩:=h
    exact⟨g,n,c,hG _ _ (hn b (by simp [names])) hg,hv⟩
  | .emp,V,hl,_,h=>by simp only [light] at hl;cases hl
  | .fn f x y,V,hl,hn,h=>by
    simp only [light,Bool.and_eq_true] at hl
    simp only [SRep] at h ⊢
    obtain⟨xs,ys,hv,h1,h2⟩:=h
    exact⟨xs,ys,hv,lights_back hG hl.1 (fun b hb=>hn b (by simp only [names,List.mem_append];exact Or.inl hb)) h1,lights_back hG hl.2 (fun b hb=>hn b (by simp only [names,List.mem_append];exact Or.inr hb)) h2⟩
  | .junk,V,_,_,h=>by simp only [SRep]
theorem lights_back {C C':RC} {lv:Nat→Prop} (hG:∀ b V,lv b→C.G b=some V→C'.G b=some V):∀ {l:List SV} {vs:List Value},lights l=true→(∀ b,b ∈ namesL l→lv b)→SReps C l vs→SReps C' l vs
  | [],vs,_,_,h=>by simpa only [SReps] using h
  | s :: l,vs,hl,hn,h=>by
    simp only [lights,Bool.and_eq_true] at hl
    simp only [SReps] at h ⊢
    obtain⟨v,vs',rfl,h1,h2⟩:=h
    exact⟨v,vs',rfl,light_back hG hl.1 (fun b hb=>hn b (by simp only [namesL,List.mem_append];exact Or.inl hb)) h1,lights_back hG hl.2 (fun b hb=>hn b (by simp only [namesL,List.mem_append];exact Or.inr hb)) h2⟩
end
theorem gc_inv {s:St} {order:List Nat} (hn:nodupB order=true) (hm:MInv B F G s.m w):MInv B F (fun i=>(order[i]?).bind G) (gcWith order s).m w∧∀ {l:List SV} {vs:List Value},SReps (rc F G s.m w) l vs→SReps (rc F (fun i=>(order[i]?).bind G) (gcWith order s).m w) (rens (idx order) l) vs:=by
 have hnd:=nodup_of hn
 have hidx:∀ b i,idx order b=some i→(order[i]?).bind G=G b:=fun b i h=>by rw [idx_some h];rfl
 have look:∀ (i:Nat) (r:Bool) (k:Blk),(gcWith order s).m[i]? = some (some (r,k))→∃ (b:Nat) (k':Blk),order[i]? = some b∧s.m[b]? = some (some (r,k'))∧k=(match k' with|Blk.cells cs=>Blk.cells (rens (idx order) cs)|Blk.row e K xs=>Blk.row e K xs)∧∀ E K xs,k'=Blk.row E K xs→K.np=true:=by
  intro i r k hi
  simp only [gcWith,List.getElem?_map,Option.map_eq_some_iff] at hi
  obtain⟨b,hb,he⟩:=hi
  split at he
  ·rename_i r' k' hbk
   cases k' with
   | cells cs =>
    simp only [Option.some.injEq,Prod.mk.injEq] at he
    exact⟨b,.cells cs,hb,by rw [hbk,he.1],he.2.symm,fun _ _ _ e=>by cases e⟩
   | row e K xs =>
    simp only at he
    cases hnp:K.np with
    | false=>rw [hnp] at he;cases he
    | true =>
     rw [hnp] at he
     simp only [Option.some.injEq,Prod.mk.injEq] at he
     refine⟨b,.row e K xs,hb,by rw [hbk,he.1],he.2.symm,fun E' K' xs' e'=>?_⟩
     injection e' with e1 e2 e3
     subst e2;exact hnp
  ·cases he
 have hbad:∀ g,badOf F (fun i=>(order[i]?).bind G) (gcWith order s).m g→badOf F G s.m g:=by
  rintro g (hF|⟨i,r,k,V,h1,h2,h3⟩)
  ·exact Or.inl hF
  ·obtain⟨b,k',hb,hbk,_⟩:=look i r k h1
   simp only [hb,Option.bind_some] at h2
   exact Or.inr ⟨b,r,k',V,hbk,h2,h3⟩
 have hre:∀ {l:List SV} {vs:List Value},SReps (rc F G s.m w) l vs→SReps (rc F (fun i=>(order[i]?).bind G) (gcWith order s).m w) (rens (idx order) l) vs :=
  fun h=>rens_rep (C:=rc F G s.m w) (C':=rc F (fun i=>(order[i]?).bind G) (gcWith order s).m w) rfl hidx (fun g _ hn hn'=>hn (hbad g hn')) h
 refine⟨⟨hm.sz,hm.fr,?_,?_,?_,?_,?_⟩,fun h=>hre h⟩
 ·intro i r k V g h1 h2 h3
  obtain⟨b,k',hb,hbk,_⟩:=look i r k h1
  simp only [hb,Option.bind_some] at h2
  exact hm.fo _ _ _ _ _ hbk h2 h3
 ·intro i hi
  have:order[i]? = none:=List.getElem?_eq_none (by simpa [gcWith] using hi)
  simp [this]
 ·intro i r k h1
  obtain⟨b,k',hb,hbk,rfl,hnp⟩:=look i r k h1
  obtain⟨V,hV,hr⟩:=hm.blk _ _ _ hbk
  refine⟨V,by simp [hb,hV],?_⟩
  cases k' with
  | cells cs =>
   obtain⟨g,Vs,ty,rfl,hh,hcs⟩:=hr
   exact⟨g,Vs,ty,rfl,hh,hre hcs⟩
  | row E K xs =>
   obtain⟨Us,ho,hl,hk⟩:=hr
   exact⟨Us,ho,hl,fun i x U hx hU=>((hk i x U hx hU).np (hnp _ _ _ rfl)).le (fun _ _ h=>h) (Nat.le_refl _) (fun _ _ _=>rfl) (fun g _ hn hn'=>hn (hbad g hn'))⟩
 ·intro i r k i' r' k' V V' g h1 h2 h3 h4 h5 h6
  obtain⟨b,k1,hb,hbk,_⟩:=look i r k h1
  obtain⟨b',k1',hb',hbk',_⟩:=look i' r' k' h2
  simp only [hb,Option.bind_some] at h3
  simp only [hb',Option.bind_some] at h4
  have hbb:=hm.inj _ _ _ _ _ _ _ _ _ hbk hbk' h3 h4 h5 h6
  subst hbb
  have hi:=(List.getElem?_eq_some_iff.1 hb).1
  exact(List.getElem?_inj hi hnd).1 (hb.trans hb'.symm)
 ·intro i r k V g h1 h2 h3
  obtain⟨b,k',hb,hbk,_⟩:=look i r k h1
  simp only [hb,Option.bind_some] at h2
  exact hm.ge _ _ _ _ _ hbk h2 h3
abbrev litM (L:List Nat) (caps:List SV) (m:Mem):St:=gcWith L ⟨caps,onlyM L m⟩
theorem lit_base (hm:MInv B F G m w) {L:List Nat} (hL:nodupB L=true) {caps:List SV} {vals:List Value} (hcaps:SReps (rc F G m w) caps vals):∀ W,Kpt w.heap.size (wrOf G (lockM L m)) w W →
  MInv B (offOf F G m (onlyM L m)) (fun i=>(L[i]?).bind G) (litM L caps m).m W∧SReps (rc (offOf F G m (onlyM L m)) (fun i=>(L[i]?).bind G) (litM L caps m).m W) (litM L caps m).t vals:=by
 intro W hk
 obtain⟨h1,h2⟩:=gc_inv (s:=⟨caps,onlyM L m⟩) hL (minv_kpt hm hk)
 exact⟨h1,h2 (hcaps.le (kpt_le hm hk))⟩
theorem lit_lock {L:List Nat} {caps:List SV} (G':Nat→Option Value) (g:Nat):¬wrOf G' (litM L caps m).m g:=by
 rintro⟨b,k,V,h1,_⟩
 simp only [gcWith,List.getElem?_map,Option.map_eq_some_iff] at h1
 obtain⟨c,_,h2⟩:=h1
 split at h2
 ·rename_i r kk hc
  have hr:=(only_of hc).2.1
  subst hr
  cases kk with
  | cells cs=>simp at h2
  | row e K xs =>
   simp only at h2
   cases hnp:K.np with
   | true=>rw [hnp] at h2;simp at h2
   | false=>rw [hnp] at h2;cases h2
 ·cases h2
theorem iter_gives0 {X:Ctx} (hX:XOk P X) {g:FuncId} {fn:Func} (hfn:P.funcs[g]? = some fn) {r0 r1 r2 r3 r4 i0 i1:Nat} {o0 o1 o2 o3 o4:Array Oper} {oA:List Oper} {oY oN:Oper} {c1 c2:Operand} {cy:Call} {f x:Operand}
  (hb:fn.body=some (.seq (.region r0 o0 false) (.block i0 (.loop (.seq (.region r1 o1 false) (.seq (.cond c1 .skip (.exit i0)) (.seq (.block i1 (.seq (.region r2 o2 false) (.seq (.region r3 o3 false) (.cond c2 .ret .skip)))) (.region r4 o4 false))))))))
  (hres:fn.results=#[]) (ho3:o3.toList=oA++[oY,oN]) (hyg:oY.guard=none) (hyop:oY.op=.call cy) (hyc:cy.callee=.value f) (hya:cy.args=#[x]) {dy dn:Nat} {tn:TypeId} (hyd:oY.dst=some dy) (hng:oN.guard=none) (hnd:oN.dst=some dn) (hnop:oN.op=.unOp .not tn (.tmp dy)) (hc2:c2=.tmp dn)
  {Wr:Nat→Prop} {F1:Nat→Prop} {m1:Mem} {caps:List SV} {vals:List Value} (hbase:∀ W,Kpt w.heap.size Wr w W→MInv B F1 G m1 W∧SReps (rc F1 G m1 W) caps vals) (hlock:∀ (G':Nat→Option Value) g,¬wrOf G' m1 g) (ys:List SV) {Ys:List Value} {Cy:RC} (hCy:Cy.G=G) (hYs:SReps Cy ys Ys)
  (dead:List Nat) (T0:Nat→List SV) (S S1 S2 S3 T4:Nat→Nat→List SV) (S4:Nat→Nat→Bool→List SV) (M3:Nat→Nat→Mem) (hT0:∀ l,clean dead (T0 l)=S l 0) (hT4:∀ l k,clean dead (T4 l k)=S l (k+1))
  (h0:∀ l,opsx (R:=St) X (callN X 20) g o0 o0.toList (startx fn (.fn (.yield l) [] [] :: caps) (m1)) some=some ⟨T0 l,m1⟩)
  (h1:∀ l k,k≤ys.length→opsx (R:=St) X (callN X 20) g o1 o1.toList ⟨S l k,m1⟩ some=some ⟨S1 l k,m1⟩∧ev (S1 l k) c1=.v (.bool (decide (k<ys.length))))
  (h2:∀ l k y,ys[k]? = some y→opsx (R:=St) X (callN X 20) g o2 o2.toList ⟨S1 l k,m1⟩ some=some ⟨S2 l k,m1⟩ ∧
   opsx (R:=St) X (callN X 20) g o3 oA ⟨S2 l k,m1⟩ some=some ⟨S3 l k,M3 l k⟩∧ev (S3 l k) f=.fn (.yield l) [] []∧ev (S3 l k) x=y∧fixd y=true∧lights (S3 l k)=true∧(∀ b,b ∈ namesL (S3 l k)→∃ V,G b=some V)∧dy<(S3 l k).length∧dn<(S3 l k).length ∧
   (∀ b,opsx (R:=St) X (callN X 20) g o3 [oN] ⟨putT (S3 l k) oY.dst (.v (.bool b)),m1⟩ some=some ⟨S4 l k b,m1⟩∧ev (S4 l k b) c2=.v (.bool (!b))) ∧
   opsx (R:=St) X (callN X 20) g o4 o4.toList ⟨S4 l k true,m1⟩ some=some ⟨T4 l k,m1⟩) :
  Gives P g vals.toArray Ys (Kpt w.heap.size Wr) w:=by
 intro l J Jx W hKp hsz hJ hJx hY hJ0
 have hrec:=callN_ok (R:=St) hX 20
 have hlen:=hYs.len
 let Inv:Nat→List SV→Act→World→Prop:=fun k t a W'=>∃ G',MInv B F1 G' (m1) W'∧SReps (rc F1 G' (m1) W') t a.tmps.toList∧(∀ b V,G b=some V→G' b=some V)∧Kpt w.heap.size Wr w W'∧a.defers=[]∧J k W'
 have later:∀ {k:Nat} {W1 W2:World} {G1 G2:Nat→Option Value} {m2:Mem},Kpt w.heap.size Wr w W1→J k W1→After B F1 G1 (m1) W1 G2 m2 W2→Kpt w.heap.size Wr w W2∧J k W2:=by
  intro k W1 W2 G1 G2 m2 hk hj haf
  have hgr:W1.grownBy W2 none:=⟨haf.grow.os,haf.grow.tape,haf.grow.output,haf.grow.size,fun g hg _=>haf.grow.block g hg (hlock _ g)⟩
  exact⟨hk.trans ⟨haf.grow.os,haf.grow.tape,haf.grow.output,haf.grow.size,fun g hg _=>haf.grow.block g (Nat.lt_of_lt_of_le hg hk.size) (hlock _ g)⟩,hJ _ _ _ hj hgr⟩
 have step:∀ (k:Nat) (o:Array Oper) (rid:Nat) (t t':List SV) (a:Act) (W':World) (Q:Exit→Act→World→Prop),opsx (R:=St) X (callN X 20) g o o.toList ⟨t,m1⟩ some=some ⟨t',m1⟩ →
   Inv k t a W'→(∀ a' W'',Inv k t' a' W''→Q .normal a' W'')→(Code.region rid o false).wpIn (FW none) 3 P Q a W':=by
  rintro k o rid t t' a W' Q h ⟨G',e1,e2,e3,e4,e5,e6⟩ hQ
  refine wpIn_region ?_
  rw [List.range_eq_range']
  have:=opsx_ok (ro:=none) (nd:=3) (Q:=Q) hX hrec o.toList 0 ⟨t,m1⟩ some a W' G' rfl e1 e2 h (fun s' a' w' G2 haf ht hd hk=>by
   obtain rfl:=Option.some.inj hk
   obtain⟨q1,q2⟩:=later e4 e6 haf
   exact hQ a' w' ⟨G2,haf.minv,ht,fun b V hb=>haf.gext _ _ (e3 _ _ hb),q1,hd.trans e5,q2⟩)
  simpa using this
 have cleaned:∀ {k:Nat} {t:List SV} {a:Act} {W':World},Inv k t a W'→Inv k (clean dead t) a W':=by
  rintro k t a W' ⟨G',e1,e2,e3⟩
  exact⟨G',e1,clean_rep e2,e3⟩
 have start:Inv 0 (startx fn (.fn (.yield l) [] [] :: caps) (m1)).t { tmps:=(#[Value.func (.yield l) #[] #[]]++vals.toArray)++Array.replicate (fn.ntmps-(#[Value.func (.yield l) #[] #[]]++vals.toArray).size) undef,defers:=[] } W:=by
  refine⟨G,(hbase _ hKp).1,?_,fun _ _ h=>h,hKp,rfl,hJ0⟩
  have hc:SReps (rc F1 G (m1) W) (.fn (.yield l) [] [] :: caps) (.func (.yield l) #[] #[] :: vals):=by
   simp only [SReps]
   exact⟨_,_,rfl,by simp only [SRep];exact⟨#[],#[],rfl,by simp only [SReps],by simp only [SReps]⟩,(hbase _ hKp).2⟩
  have:=start_rep (m:=m1) (fn:=fn) hc
  simpa using this
 refine callsIn_of_wp_marks (F:=FW none) hfn hb trivial ?_
 have fin:∀ (a:Act) (W':World),a.defers=[]→(J Ys.length W'∨∃ k,Jx k W')→LeavesInM (FW none) 3 P fn a.tmps (fun e W'=>(∃ v,e=.returned v)∧(J Ys.length W'∨∃ k,Jx k W')) a.defers .returning W':=by
  intro a W' hd h
  rw [hd]
  exact⟨_,results_none hres _ _ _,⟨_,rfl⟩,h⟩
 refine wpIn_seq (step 0 o0 r0 _ _ _ _ _ (h0 l) start fun a1 W1 hi1=>?_)
 have hi1:=cleaned hi1
 rw [hT0] at hi1
 refine wpIn_block (wpIn_loop_rounds (ys.length+1) ?_)
 suffices key:∀ (d k:Nat),k+d=ys.length→∀ (a:Act) (W':World),Inv k (S l k) a W'→Code.roundsIn (FW none) 3 P _ _ (d+1) a W' from key ys.length 0 (by omega) a1 W1 hi1
 intro d
 induction d with
 | zero =>
  intro k hkd a W' hi
  rw [roundsIn_succ]
  obtain⟨q1,q2⟩:=h1 l k (by omega)
  refine wpIn_seq (step k o1 r1 _ _ _ _ _ q1 hi fun a2 W2 hi2=>?_)
  obtain⟨G',e1,e2,e3,e4,e5,e6⟩:=hi2
  have hc:=ev_rep e2 c1
  rw [q2] at hc
  simp only [SRep] at hc
  refine wpIn_seq (wpIn_cond_false (by rw [hc,decide_eq_false (by omega)]) (wpIn_exit ?_))
  show Exit.inBlock i0 _ (.exit i0) a2 W2
  simp only [Exit.inBlock,if_pos]
  refine fin a2 W2 e5 (Or.inl ?_)
  rw [←hlen,←hkd];exact e6
 | succ d ih =>
  intro k hkd a W' hi
  rw [roundsIn_succ]
  obtain⟨q1,q2⟩:=h1 l k (by omega)
  have hklt:k<ys.length:=by omega
  obtain⟨p1,p2,p3,p4,p5,p6,p6',s1,s2,p7,p8⟩:=h2 l k ys[k] (List.getElem?_eq_getElem hklt)
  refine wpIn_seq (step k o1 r1 _ _ _ _ _ q1 hi fun a2 W2 hi2=>?_)
  have hi2':=hi2
  obtain⟨G',e1,e2,e3,e4,e5,e6⟩:=hi2'
  have hc:=ev_rep e2 c1
  rw [q2] at hc
  simp only [SRep] at hc
  refine wpIn_seq (wpIn_cond_true (by rw [hc,decide_eq_true hklt]) (wpIn_skip ?_))
  refine wpIn_seq (wpIn_block (wpIn_seq (step k o2 r2 _ _ _ _ _ p1 hi2 fun a3 W3 hi3=>?_)))
  refine wpIn_seq (wpIn_region ?_)
  obtain⟨G3,f1,f2,f3,f4,f5,f6⟩:=hi3
  rw [List.range_eq_range']
  refine opsx_pre (ro:=none) (nd:=3) (l':=[oY,oN]) (ops:=o3) hX hrec oA 0 ⟨S2 l k,m1⟩ some a3 W3 G3 (by rw [List.drop_zero];exact ho3) f1 f2 p2 (fun s' a4 W4 G4 j haf ht hd hk hj=>?_)
  obtain rfl:=Option.some.inj hk
  obtain⟨u1,u2⟩:=later f4 f6 haf
  have hgx:∀ b V,G b=some V→G4 b=some V:=fun b V hb=>haf.gext _ _ (f3 _ _ hb)
  have hlt:j<o3.size:=by
   have:=congrArg List.length hj
   simp at this
   omega
  obtain⟨n1,hn1⟩:∃ n1,o3.size-j=n1+1:=⟨o3.size-j-1,by omega⟩
  have hoj:o3[j]? = some oY:=by
   have:(o3.toList.drop j)[0]? = some oY:=by rw [hj];rfl
   simpa using this
  rw [hn1,List.range'_succ]
  simp only [wpOpsIn,hoj]
  rw [if_pos (by simp [Region.wanted,hyg])]
  have hfv:=ev_rep ht f
  rw [p3] at hfv
  simp only [SRep,SReps] at hfv
  obtain⟨xs,zs,hfv,hx1,hx2⟩:=hfv
  have hx1:xs=#[]:=by simpa using hx1
  have hx2:zs=#[]:=by simpa using hx2
  subst hx1;subst hx2
  have hyv:=ev_rep ht x
  rw [p4] at hyv
  obtain⟨V,hV,hVr⟩:=hYs.get (List.getElem?_eq_getElem hklt)
  have hVe:V=a4.eval x:=fixd_eq (C:=Cy) (C':=rc F1 G4 (M3 l k) W4) (by rw [hCy];exact hgx) p5 hVr hyv
  refine yield_wp hyop hyc hya hfv rfl (hY k (a4.eval x) W4 u2 (by rw [←hVe];exact hV)) ?_
  have hlj:o3.toList.drop (j+1)=[oN]:=by
   have:=congrArg List.tail hj
   simpa [List.tail_drop] using this
  have hn2:n1=o3.size-(j+1):=by omega
  have after:∀ (b:Bool) (W5:World) (Q:Exit→Act→World→Prop),Kpt w.heap.size Wr w W5→(∀ (a6:Act) (W6:World) (G6:Nat→Option Value),After B F1 G (m1) W5 G6 (m1) W6→SReps (rc F1 G6 (m1) W6) (S4 l k b) a6.tmps.toList→a6.defers=[]→Q .normal a6 W6) →
    wpOpsIn (FW none) 3 P o3 Q (List.range' (j+1) n1) (a4.put oY.dst (.bool b)) W5:=by
   intro b W5 Q hk5 hQ
   have hm5:=(hbase _ hk5).1
   have ht4:SReps (rc F1 G (m1) W5) (S3 l k) a4.tmps.toList:=lights_back (C:=rc F1 G4 (M3 l k) W4) (C':=rc F1 G (m1) W5) (lv:=fun b=>∃ V,G b=some V) (fun b V hb hV=>by
    obtain⟨U,hU⟩:=hb
    have h1:=hgx _ _ hU
    have hV':G4 b=some V:=hV
    rw [hV'] at h1
    obtain rfl:=Option.some.inj h1
    exact hU) p6 p6' ht
   have ht5:SReps (rc F1 G (m1) W5) (putT (S3 l k) oY.dst (.v (.bool b))) (a4.put oY.dst (.bool b)).tmps.toList:=put_rep ht4 (by simp only [SRep]) _
   rw [hn2]
   exact opsx_ok (ro:=none) (nd:=3) hX hrec [oN] (j+1) ⟨_,m1⟩ some _ W5 G hlj hm5 ht5 (p7 b).1 (fun s' a6 W6 G6 haf6 ht6 hd6 hk6=>by
    obtain rfl:=Option.some.inj hk6
    exact hQ a6 W6 G6 haf6 ht6 (hd6.trans ((put_defers _ _ _).trans (hd.trans f5))))
  rintro e W5 (⟨rfl,hj5,hk5⟩|⟨rfl,hj5⟩)
  ·refine⟨_,rfl,?_⟩
   have hk5':=u1.trans hk5
   refine after true W5 _ hk5' fun a6 W6 G6 haf6 ht6 hd6=>?_
   obtain⟨z1,z2⟩:=later hk5' hj5 haf6
   have hc2:=ev_rep ht6 c2
   rw [(p7 true).2] at hc2
   simp only [SRep] at hc2
   refine wpIn_cond_false hc2 (wpIn_skip ?_)
   show Code.wpIn _ _ _ _ _ _ _
   refine step (k+1) o4 r4 _ _ _ _ _ p8 ⟨G6,haf6.minv,ht6,fun b V hb=>haf6.gext _ _ hb,z1,hd6,z2⟩ fun a7 W7 hi7=>?_
   have hi7:=cleaned hi7
   rw [hT4] at hi7
   exact ih (k+1) (by omega) a7 W7 hi7
  ·refine⟨_,rfl,?_⟩
   have hsz4:a4.tmps.size=(S3 l k).length:=by
    have:=ht.len
    simpa using this.symm
   have hoj2:o3[j+1]? = some oN:=by
    have:(o3.toList.drop (j+1))[0]? = some oN:=by rw [hlj];rfl
    simpa using this
   have hn3:n1=1:=by
    have:=congrArg List.length hlj
    simp at this
    omega
   rw [hn3]
   simp only [List.range'_succ,List.range'_zero,wpOpsIn,hoj2]
   rw [if_pos (by simp [Region.wanted,hng])]
   have ev1:(a4.put oY.dst (.bool false)).eval (.tmp dy)=.bool false:=by
    rw [hyd]
    simp [Act.put,Act.eval,hsz4,s1]
   refine wp_val (V:=.bool true) (w':=W5) ?_ ?_ ?_
   ·simp [execOp,hnop,ev1,Op.unary]
   ·show Code.wpIn _ _ _ _ _ _ _
    refine wpIn_cond_true ?_ (wpIn_ret ?_)
    ·rw [hnd,hc2]
     simp [Act.put,Act.eval,hsz4,s2,hyd]
    ·refine fin _ W5 ?_ (Or.inr ⟨k,hj5⟩)
     rw [put_defers,put_defers];exact hd.trans f5
   ·intro c hc;rw [hnop] at hc;cases hc
theorem iter_gives {X:Ctx} (hX:XOk P X) {g:FuncId} {fn:Func} (hfn:P.funcs[g]? = some fn) {r0 r1 r2 r3 r4 i0 i1:Nat} {o0 o1 o2 o3 o4:Array Oper} {oA:List Oper} {oY oN:Oper} {c1 c2:Operand} {cy:Call} {f x:Operand}
  (hb:fn.body=some (.seq (.region r0 o0 false) (.block i0 (.loop (.seq (.region r1 o1 false) (.seq (.cond c1 .skip (.exit i0)) (.seq (.block i1 (.seq (.region r2 o2 false) (.seq (.region r3 o3 false) (.cond c2 .ret .skip)))) (.region r4 o4 false))))))))
  (hres:fn.results=#[]) (ho3:o3.toList=oA++[oY,oN]) (hyg:oY.guard=none) (hyop:oY.op=.call cy) (hyc:cy.callee=.value f) (hya:cy.args=#[x]) {dy dn:Nat} {tn:TypeId} (hyd:oY.dst=some dy) (hng:oN.guard=none) (hnd:oN.dst=some dn) (hnop:oN.op=.unOp .not tn (.tmp dy)) (hc2:c2=.tmp dn)
  (hm:MInv B F G m w) (L:List Nat) {caps:List SV} {vals:List Value} (hcaps:SReps (rc F G m w) caps vals) (ys:List SV) {Ys:List Value} (hYs:SReps (rc F G m w) ys Ys)
  (dead:List Nat) (T0:Nat→List SV) (S S1 S2 S3 T4:Nat→Nat→List SV) (S4:Nat→Nat→Bool→List SV) (M3:Nat→Nat→Mem) (hT0:∀ l,clean dead (T0 l)=S l 0) (hT4:∀ l k,clean dead (T4 l k)=S l (k+1))
  (h0:∀ l,opsx (R:=St) X (callN X 20) g o0 o0.toList (startx fn (.fn (.yield l) [] [] :: caps) (onlyM L m)) some=some ⟨T0 l,onlyM L m⟩)
  (h1:∀ l k,k≤ys.length→opsx (R:=St) X (callN X 20) g o1 o1.toList ⟨S l k,onlyM L m⟩ some=some ⟨S1 l k,onlyM L m⟩∧ev (S1 l k) c1=.v (.bool (decide (k<ys.length))))
  (h2:∀ l k y,ys[k]? = some y→opsx (R:=St) X (callN X 20) g o2 o2.toList ⟨S1 l k,onlyM L m⟩ some=some ⟨S2 l k,onlyM L m⟩ ∧
   opsx (R:=St) X (callN X 20) g o3 oA ⟨S2 l k,onlyM L m⟩ some=some ⟨S3 l k,M3 l k⟩∧ev (S3 l k) f=.fn (.yield l) [] []∧ev (S3 l k) x=y∧fixd y=true∧lights (S3 l k)=true∧(∀ b,b ∈ namesL (S3 l k)→∃ V,G b=some V)∧dy<(S3 l k).length∧dn<(S3 l k).length ∧
   (∀ b,opsx (R:=St) X (callN X 20) g o3 [oN] ⟨putT (S3 l k) oY.dst (.v (.bool b)),onlyM L m⟩ some=some ⟨S4 l k b,onlyM L m⟩∧ev (S4 l k b) c2=.v (.bool (!b))) ∧
   opsx (R:=St) X (callN X 20) g o4 o4.toList ⟨S4 l k true,onlyM L m⟩ some=some ⟨T4 l k,onlyM L m⟩) :
  Gives P g vals.toArray Ys (Kpt w.heap.size (wrOf G (lockM L m))) w :=
 iter_gives0 hX hfn hb hres ho3 hyg hyop hyc hya hyd hng hnd hnop hc2 (fun W hk=>⟨minv_kpt hm hk,hcaps.le (kpt_le hm hk)⟩) (fun _ g=>only_wr g) ys (Cy:=rc F G m w) rfl hYs dead T0 S S1 S2 S3 T4 S4 M3 hT0 hT4 h0 h1 h2
end Go.Proofs.Ytgmkppeghnlcmaa.X
end
section
set_option linter.unusedVariables false
set_option linter.unusedSimpArgs false
namespace Go.Proofs.Ytgmkppeghnlcmaa.X
open Go Go.RowKit
set_option linter.unusedVariables false
set_option linter.unusedSimpArgs false
variable {R:Type} {r:R}
def RecNat (rec:{R:Type}→Rec R):Prop:=∀ {R:Type} {r:R} (f:FuncId) (av:List SV) (m:Mem) (K:SV→Mem→Option R),rec f av m K=some r→∃ v:SV × Mem,K v.1 v.2=some r∧∀ (A:Type) (D:SV→Mem→Option A),rec f av m D=D v.1 v.2
section
variable {rec:{R:Type}→Rec R} (hn:RecNat rec) {X:Ctx}
include hn
theorem callx_natr {f:FuncId} {av:List SV} {p:Option Nat} {m:Mem} {K:SV→Mem→Option R} (h:callx X rec f av p m K=some r):∃ v:SV × Mem,K v.1 v.2=some r∧∀ (A:Type) (D:SV→Mem→Option A),callx X rec f av p m D=D v.1 v.2:=by
 cases ha:X.alt f with
 | some al =>
  have e:∀ (A:Type) (D:SV→Mem→Option A),callx X rec f av p m D=callx X none4 f av p m D:=fun A D=>by simp only [callx,ha]
  obtain⟨v,h1,h2⟩:=callx_nat (X:=X) (f:=f) (av:=av) (p:=p) (m:=m) (K:=K) (by rw [←e];exact h)
  exact⟨v,h1,fun A D=>(e A D).trans (h2 A D)⟩
 | none =>
  cases hs:X.spec f with
  | some sp =>
   have e:∀ (A:Type) (D:SV→Mem→Option A),callx X rec f av p m D=callx X none4 f av p m D:=fun A D=>by simp only [callx,ha,callx0,hs]
   obtain⟨v,h1,h2⟩:=callx_nat (X:=X) (f:=f) (av:=av) (p:=p) (m:=m) (K:=K) (by rw [←e];exact h)
   exact⟨v,h1,fun A D=>(e A D).trans (h2 A D)⟩
  | none =>
   simp only [callx,ha,callx0,hs] at h ⊢
   cases hi:X.inl f with
   | false=>rw [hi] at h;cases h
   | true =>
    rw [hi] at h
    obtain⟨v,h1,h2⟩:=hn f av m K h
    exact⟨v,h1,fun A D=>by simp only [if_true];exact h2 A D⟩
theorem opx_natr {fid:FuncId} {p:Option Nat} {o:Oper} {s:St} {K:SV→Mem→Option R} (h:opx X rec fid p o s K=some r) :
  ∃ v:SV × Mem,K v.1 v.2=some r∧∀ (A:Type) (D:SV→Mem→Option A),opx X rec fid p o s D=D v.1 v.2:=by
 have other:(∀ (A:Type) (D:SV→Mem→Option A),opx X rec fid p o s D=opx X none4 fid p o s D)→∃ v:SV × Mem,K v.1 v.2=some r∧∀ (A:Type) (D:SV→Mem→Option A),opx X rec fid p o s D=D v.1 v.2:=by
  intro e
  obtain⟨v,h1,h2⟩:=opx_nat (by rw [←e];exact h)
  exact⟨v,h1,fun A D=>(e A D).trans (h2 A D)⟩
 cases hop:o.op
 case call c =>
  cases hc:c.callee
  case value f =>
   simp only [opx,hop,hc] at h ⊢
   cases hf:ev s.t f<;>rw [hf] at h<;>(try cases h)
   rename_i fn a b
   cases fn<;>(try cases h)
   exact callx_natr hn h
  all_goals exact other fun A D=>by simp only [opx,hop,hc]
 all_goals exact other fun A D=>by simp only [opx,hop]
theorem opg_natr {fid:FuncId} {p:Option Nat} {ops:Array Oper} {o:Oper} {s:St} {K:St→Option R} (h:opg X rec fid p ops o s K=some r) :
  ∃ s':St,K s'=some r∧∀ (A:Type) (D:St→Option A),opg X rec fid p ops o s D=D s':=by
 unfold opg at h ⊢
 split at h
 ·rename_i hg
  obtain⟨v,h1,h2⟩:=opx_natr hn h
  exact⟨_,h1,fun A D=>h2 A _⟩
 ·rename_i j want hg
  split at h
  ·rename_i d hd
   split at h
   ·rename_i c hc
    cases e:eqB c want with
    | true =>
     simp only [e,cond_true,hd] at h ⊢
     obtain⟨v,h1,h2⟩:=opx_natr hn h
     exact⟨_,h1,fun A D=>h2 A _⟩
    | false =>
     simp only [e,cond_false,hd] at h ⊢
     exact⟨_,h,fun A D=>rfl⟩
   ·rename_i c hc
    exact⟨_,h,fun A D=>rfl⟩
   ·cases h
  ·cases h
theorem opsx_natr {fid:FuncId} {ops:Array Oper}:∀ {l:List Oper} {s:St} {K:St→Option R},opsx X rec fid ops l s K=some r→∃ s':St,K s'=some r∧∀ (A:Type) (D:St→Option A),opsx X rec fid ops l s D=D s':=by
 intro l
 induction l with
 | nil=>intro s K h;exact⟨s,h,fun _ _=>rfl⟩
 | cons o l ih =>
  intro s K h
  simp only [opsx] at h ⊢
  obtain⟨s1,h1,h2⟩:=opg_natr hn h
  obtain⟨s2,h3,h4⟩:=ih h1
  exact⟨s2,h3,fun A D=>(h2 A _).trans (h4 A D)⟩
end
section
variable {X:Ctx}
theorem opd_natr {fid:FuncId} {p:Nat} {ops:Array Oper} {o:Oper} {s:St} {K:List Nat→List Nat→St→Option R} (h:opd X fid p ops o s K=some r) :
  ∃ (V W:List Nat) (s':St),K V W s'=some r∧∀ (A:Type) (D:List Nat→List Nat→St→Option A),opd X fid p ops o s D=D V W s':=by
 unfold opd at h ⊢
 split at h
 ·rename_i hg
  obtain⟨v,h1,h2⟩:=opx_nat h
  exact⟨_,_,_,h1,fun A D=>h2 A _⟩
 ·rename_i j want hg
  split at h
  ·rename_i d hd
   split at h
   ·rename_i c hc
    cases e:eqB c want with
    | true =>
     simp only [e,cond_true,hd] at h ⊢
     obtain⟨v,h1,h2⟩:=opx_nat h
     exact⟨_,_,_,h1,fun A D=>h2 A _⟩
    | false =>
     simp only [e,cond_false,hd] at h ⊢
     exact⟨_,_,_,h,fun A D=>rfl⟩
   ·rename_i c hc
    exact⟨_,_,_,h,fun A D=>rfl⟩
   ·cases h
  ·cases h
theorem drawGo_natr {fid:FuncId} {ops:Array Oper} {base:Nat}:∀ {l:List Oper} {i:Nat} {ds:List Dr} {s:St} {K:List Dr→St→Option R},drawGo X fid ops base i l ds s K=some r →
  ∃ (ds':List Dr) (s':St),K ds' s'=some r∧∀ (A:Type) (D:List Dr→St→Option A),drawGo X fid ops base i l ds s D=D ds' s':=by
 intro l
 induction l with
 | nil=>intro i ds s K h;exact⟨ds,s,h,fun _ _=>rfl⟩
 | cons o l ih =>
  intro i ds s K h
  simp only [drawGo] at h ⊢
  obtain⟨V,W,s1,h1,h2⟩:=opd_natr h
  obtain⟨ds2,s2,h3,h4⟩:=ih h1
  exact⟨ds2,s2,h3,fun A D=>(h2 A _).trans (h4 A D)⟩
theorem drawx_natr {fid:FuncId} {ops:Array Oper} {s:St} {K:St→Option R} (h:drawx X fid ops s K=some r):∃ s':St,K s'=some r∧∀ (A:Type) (D:St→Option A),drawx X fid ops s D=D s':=by
 unfold drawx at h ⊢
 obtain⟨ds,s1,h1,h2⟩:=drawGo_natr h
 split at h1
 ·rename_i hd
  exact⟨s1,h1,fun A D=>(h2 A _).trans (if_pos hd)⟩
 ·cases h1
end
def BodyNat (f:{R:Type}→St→(Ex→St→Option R)→Option R):Prop:=∀ {R:Type} {r:R} (s:St) (K:Ex→St→Option R),f s K=some r→∃ (e:Ex) (s':St),K e s'=some r∧∀ (A:Type) (D:Ex→St→Option A),f s D=D e s'
theorem loopx_natr {body:{R:Type}→St→(Ex→St→Option R)→Option R} (hb:BodyNat body) {hd hx:St→Option St} (n:Nat):BodyNat (loopx body hd hx n):=by
 intro R r s K h
 induction n generalizing s with
 | zero=>simp [loopx] at h
 | succ n ih =>
  simp only [loopx] at h ⊢
  obtain⟨e,s1,h1,h2⟩:=hb s _ h
  cases e with
  | normal =>
   simp only at h1
   cases hs:hd s1 with
   | none=>rw [hs] at h1;cases h1
   | some s2 =>
    rw [hs] at h1
    obtain⟨e3,s3,h3,h4⟩:=ih s2 h1
    exact⟨e3,s3,h3,fun A D=>(h2 A _).trans (by simp only [hs];exact h4 A D)⟩
  | exit i =>
   simp only at h1
   cases hs:hx s1 with
   | none=>rw [hs] at h1;cases h1
   | some s2=>rw [hs] at h1;exact⟨.exit i,s2,h1,fun A D=>(h2 A _).trans (by simp only [hs])⟩
  | ret =>
   simp only at h1
   cases hs:hx s1 with
   | none=>rw [hs] at h1;cases h1
   | some s2=>rw [hs] at h1;exact⟨.ret,s2,h1,fun A D=>(h2 A _).trans (by simp only [hs])⟩
  | goto l =>
   simp only at h1
   cases hs:hx s1 with
   | none=>rw [hs] at h1;cases h1
   | some s2=>rw [hs] at h1;exact⟨.goto l,s2,h1,fun A D=>(h2 A _).trans (by simp only [hs])⟩
theorem range_natr {asg bod:{R:Type}→St→(Ex→St→Option R)→Option R} (ha:BodyNat asg) (hb:BodyNat bod) {t:List SV} {p:Nat}:∀ {ys:List SV} {m:Mem} {R:Type} {r:R} {K:Ex→St→Option R},rangeGo asg bod t p ys m K=some r →
  ∃ (e:Ex) (s':St),K e s'=some r∧∀ (A:Type) (D:Ex→St→Option A),rangeGo asg bod t p ys m D=D e s':=by
 intro ys
 induction ys with
 | nil=>intro m R r K h;exact⟨.normal,⟨t,m⟩,h,fun _ _=>rfl⟩
 | cons y ys ih =>
  intro m R r K h
  simp only [rangeGo] at h ⊢
  obtain⟨e,s1,h1,h2⟩:=ha _ _ h
  cases e with
  | normal =>
   simp only at h1
   obtain⟨e2,s2,h3,h4⟩:=hb _ _ h1
   cases e2 with
   | normal =>
    simp only at h3
    obtain⟨e5,s5,h5,h6⟩:=ih h3
    exact⟨e5,s5,h5,fun A D=>(h2 A _).trans ((h4 A _).trans (h6 A D))⟩
   | exit i=>exact⟨_,_,h3,fun A D=>(h2 A _).trans (h4 A _)⟩
   | ret=>exact⟨_,_,h3,fun A D=>(h2 A _).trans (h4 A _)⟩
   | goto l=>cases h3
  | exit i=>cases h1
  | ret=>cases h1
  | goto l=>cases h1
theorem codex_natr {X:Ctx} {rec:{R:Type}→Rec R} (hn:RecNat rec) {fid:FuncId}:∀ (c:Code),BodyNat (fun {R} s K=>codex (R:=R) X (fun _ _=>none) rec fid c s K):=by
 intro c
 induction c with
 | skip=>intro R r s K h;exact⟨_,_,h,fun _ _=>rfl⟩
 | region id ops draw =>
  intro R r s K h
  cases draw with
  | false =>
   simp only [codex] at h ⊢
   obtain⟨s1,h1,h2⟩:=opsx_natr hn h
   exact⟨_,s1,h1,fun A D=>h2 A _⟩
  | true =>
   simp only [codex] at h ⊢
   obtain⟨s1,h1,h2⟩:=drawx_natr h
   exact⟨_,s1,h1,fun A D=>h2 A _⟩
 | seq a b iha ihb =>
  intro R r s K h
  simp only [codex] at h ⊢
  obtain⟨e,s1,h1,h2⟩:=iha s _ h
  cases e with
  | normal =>
   obtain⟨e2,s2,h3,h4⟩:=ihb s1 _ h1
   exact⟨e2,s2,h3,fun A D=>(h2 A _).trans (h4 A D)⟩
  | exit i=>exact⟨_,_,h1,fun A D=>h2 A _⟩
  | ret=>exact⟨_,_,h1,fun A D=>h2 A _⟩
  | goto l=>exact⟨_,_,h1,fun A D=>h2 A _⟩
 | cond x a b iha ihb =>
  intro R r s K h
  simp only [codex] at h ⊢
  split at h
  ·rename_i b hb
   cases b with
   | true=>obtain⟨e,s1,h1,h2⟩:=iha s _ h;exact⟨e,s1,h1,fun A D=>h2 A D⟩
   | false=>obtain⟨e,s1,h1,h2⟩:=ihb s _ h;exact⟨e,s1,h1,fun A D=>h2 A D⟩
  ·cases h
 | block id c ih =>
  intro R r s K h
  simp only [codex] at h ⊢
  obtain⟨e,s1,h1,h2⟩:=ih s _ h
  cases e with
  | normal=>exact⟨_,_,h1,fun A D=>h2 A _⟩
  | exit i =>
   simp only at h1
   by_cases hi:i=id
   ·rw [if_pos hi] at h1
    exact⟨_,_,h1,fun A D=>(h2 A _).trans (if_pos hi)⟩
   ·rw [if_neg hi] at h1
    exact⟨_,_,h1,fun A D=>(h2 A _).trans (if_neg hi)⟩
  | ret=>exact⟨_,_,h1,fun A D=>h2 A _⟩
  | goto l=>exact⟨_,_,h1,fun A D=>h2 A _⟩
 | loop c ih =>
  intro R r s K h
  simp only [codex] at h ⊢
  exact loopx_natr ih 300 s K h
 | rangeFunc c ps asg bod iha ihb =>
  intro R r s K h
  simp only [codex] at h ⊢
  split at h
  ·rename_i g cap p hev hps
   split at h
   ·rename_i it hit
    split at h
    ·rename_i hpl
     cases hy:it cap s.m with
     | none=>rw [hy] at h;cases h
     | some yl =>
      rw [hy] at h
      simp only [Option.bind_some] at h
      obtain⟨e,s1,h1,h2⟩:=range_natr iha ihb h
      exact⟨e,_,h1,fun A D=>by simp only [hpl,if_true,Option.bind_some];exact h2 A _⟩
    ·cases h
   ·cases h
  ·cases h
 | exit id=>intro R r s K h;exact⟨_,_,h,fun _ _=>rfl⟩
 | ret=>intro R r s K h;exact⟨_,_,h,fun _ _=>rfl⟩
 | scope c ih =>
  intro R r s K h
  simp only [codex] at h ⊢
  obtain⟨e,s1,h1,h2⟩:=ih s _ h
  cases e with
  | normal=>exact⟨_,_,h1,fun A D=>h2 A _⟩
  | exit i=>exact⟨_,_,h1,fun A D=>h2 A _⟩
  | ret=>exact⟨_,_,h1,fun A D=>h2 A _⟩
  | goto l=>cases h1
 | label=>intro R r s K h;exact⟨_,_,h,fun _ _=>rfl⟩
 | goto=>intro R r s K h;exact⟨_,_,h,fun _ _=>rfl⟩
 | refuse=>intro R r s K h;simp [codex] at h
theorem callN_nat (X:Ctx):∀ d:Nat,RecNat (fun {R}=>callN (R:=R) X d):=by
 intro d
 induction d with
 | zero=>intro R r f av m K h;simp [callN] at h
 | succ d ih =>
  intro R r f av m K h
  simp only [callN] at h ⊢
  split at h
  ·rename_i fn hfn
   split at h
   ·rename_i c hc
    obtain⟨e,s1,h1,h2⟩:=codex_natr ih c _ _ h
    have one:∀ {R:Type} {r:R} {K:SV→Mem→Option R},retx X.T fn s1 K=some r→∃ v:SV × Mem,K v.1 v.2=some r∧∀ (A:Type) (D:SV→Mem→Option A),retx X.T fn s1 D=D v.1 v.2:=by
     intro R r K h
     unfold retx at h ⊢
     split at h
     ·exact⟨(_,_),h,fun _ _=>rfl⟩
     ·exact⟨(_,_),h,fun _ _=>rfl⟩
     ·cases h
    cases e with
    | normal =>
     obtain⟨v,q1,q2⟩:=one h1
     exact⟨v,q1,fun A D=>(h2 A _).trans (q2 A D)⟩
    | ret =>
     obtain⟨v,q1,q2⟩:=one h1
     exact⟨v,q1,fun A D=>(h2 A _).trans (q2 A D)⟩
    | exit i=>cases h1
    | goto l=>cases h1
   ·cases h
  ·cases h
end Go.Proofs.Ytgmkppeghnlcmaa.X
end
section
set_option linter.unusedVariables false
set_option linter.unusedSimpArgs false
namespace Go.Proofs.Ytgmkppeghnlcmaa.X
open Go Go.RowKit
set_option linter.unusedVariables false
set_option linter.unusedSimpArgs false
noncomputable abbrev nol:{R:Type}→Lps R:=fun _ _=>none
def tab:List (FuncId × Spec)→FuncId→Option Spec
  | [],_=>none
  | (g,s) :: l,f=>bif Nat.beq f g then some s else tab l f
def TabOk (P:Program):List (FuncId × Spec)→Prop
  | []=>True
  | (g,s) :: l=>SpecOk P g s∧TabOk P l
theorem tab_ok {P:Program}:∀ {l:List (FuncId × Spec)},TabOk P l→∀ f s,tab l f=some s→SpecOk P f s:=by
 intro l
 induction l with
 | nil=>intro _ f s h;cases h
 | cons x l ih =>
  obtain⟨g,t⟩:=x
  intro hl f s h
  simp only [tab] at h
  cases hb:Nat.beq f g with
  | true =>
   rw [hb] at h
   obtain rfl:=Option.some.inj h
   rw [Nat.eq_of_beq_eq_true hb]
   exact hl.1
  | false =>
   rw [hb] at h
   exact ih hl.2 f s h
theorem spec_run {P:Program} {X:Ctx} (hX:XOk P X) {f:FuncId} {A:List DS} {R:RD} {g:DsT A→R.T} (h:∀ x,fnx X nol f A R x=some (g x)) (hen:∃ fn c,X.fns f=some fn∧fn.body=some c):SpecOk P f ⟨A,R,fun x=>some (g x)⟩ :=
 fnx_ok hX (lps:=nol) (fun _ _ _ _ _ _ _ h=>nomatch h) (fun x r hr=>by rw [←hr];exact h x) hen
theorem spec_opt {P:Program} {X:Ctx} (hX:XOk P X) {f:FuncId} {A:List DS} {R:RD} {g:DsT A→Option R.T} (h:∀ x r,g x=some r→fnx X nol f A R x=some r) (hen:∃ fn c,X.fns f=some fn∧fn.body=some c):SpecOk P f ⟨A,R,g⟩ :=
 fnx_ok hX (lps:=nol) (fun _ _ _ _ _ _ _ h=>nomatch h) h hen
theorem SpecOk.get {P:Program} {f:FuncId} {A:List DS} {R:RD} {g g':DsT A→Option R.T} (h:SpecOk P f ⟨A,R,g⟩) (e:∀ x r,g' x=some r→g x=some r):SpecOk P f ⟨A,R,g'⟩ :=
 ⟨h.enters,fun Z w x vals r hZ ha hr=>h.calls Z w x vals r hZ ha (e x r hr)⟩
end Go.Proofs.Ytgmkppeghnlcmaa.X
end
