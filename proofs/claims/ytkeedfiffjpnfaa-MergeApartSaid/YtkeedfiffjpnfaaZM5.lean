/- Lemmas of the rows, laid by a program. -/
import Derived.Test.YtkeedfiffjpnfaaZM4
import Derived.Test.YtkeedfiffjpnfaaProg
section
set_option linter.unusedVariables false
set_option linter.unusedSimpArgs false
namespace Go.Proofs.Ytkeedfiffjpnfaa.X
open Go Go.RowKit
theorem ret_bool {C:RC} {B:Nat} {b:Bool} {V:Value} (h:RRep C B (.one (.sc .bool)) b V):V=.bool b:=by
 have h':SRep C (.v (.bool b)) V:=h
 simpa only [SRep] using h'
end Go.Proofs.Ytkeedfiffjpnfaa.X
end
section
set_option linter.unusedVariables false
set_option linter.unusedSimpArgs false
namespace Go.Proofs.Ytkeedfiffjpnfaa.X
open Go Go.RowKit
set_option maxRecDepth 100000
def tis:List TI :=
  [⟨1,0,[.tuple #[]],false,.other⟩,
  ⟨1,8,[.nilFunc],false,.other⟩,
  ⟨1,8,[.int .i64 (0)],false,.int .i64⟩,
  ⟨1,8,[.int .i64 (0)],false,.int .i64⟩,
  ⟨1,1,[.bool false],false,.bool⟩,
  ⟨1,1,[.int .u8 (0)],false,.int .u8⟩,
  ⟨1,1,[.int .u8 (0)],false,.int .u8⟩,
  ⟨4,24,[.int .i64 (0),.int .i64 (0),.bool false,.int .u8 (0)],true,.struct [(0,2),(1,3),(2,4),(3,6)]⟩,
  ⟨4,24,[.int .i64 (0),.int .i64 (0),.bool false,.int .u8 (0)],true,.struct [(0,2),(1,3),(2,4),(3,6)]⟩,
  ⟨1,16,[.string ⟨#[]⟩],false,.other⟩,
  ⟨1,16,[.string ⟨#[]⟩],false,.other⟩,
  ⟨1,16,[.string ⟨#[]⟩],false,.other⟩,
  ⟨1,8,[.int .u64 (0)],false,.int .u64⟩,
  ⟨2,24,[.string ⟨#[]⟩,.int .u64 (0)],false,.struct [(0,9),(1,12)]⟩,
  ⟨2,24,[.string ⟨#[]⟩,.int .u64 (0)],false,.struct [(0,9),(1,12)]⟩,
  ⟨1,8,[.pointer none],false,.other⟩,
  ⟨1,8,[.pointer none],false,.other⟩,
  ⟨1,8,[.pointer none],false,.other⟩,
  ⟨1,8,[.pointer none],false,.struct [(0,17)]⟩,
  ⟨1,8,[.pointer none],false,.struct [(0,17)]⟩,
  ⟨1,16,[.nilIface],false,.other⟩,
  ⟨1,4,[.int .i32 (0)],false,.int .i32⟩,
  ⟨3,24,[.int .i64 (0),.int .i64 (0),.int .i64 (0)],true,.array 3 3⟩,
  ⟨5,40,[.int .i64 (0),.int .i64 (0),.int .i64 (0),.int .i64 (0),.int .i64 (0)],true,.struct [(0,3),(1,3),(2,22)]⟩,
  ⟨5,40,[.int .i64 (0),.int .i64 (0),.int .i64 (0),.int .i64 (0),.int .i64 (0)],true,.struct [(0,3),(1,3),(2,22)]⟩,
  ⟨1,24,[.slice none 0 0],false,.slice 24⟩,
  ⟨4,96,[.slice none 0 0,.slice none 0 0,.slice none 0 0,.slice none 0 0],true,.array 4 25⟩,
  ⟨7,56,[.int .i64 (0),.int .i64 (0),.int .i64 (0),.int .i64 (0),.int .i64 (0),.int .i64 (0),.int .i64 (0)],true,.array 7 3⟩,
  ⟨19,216,[.int .i64 (0),.bool false,.int .i64 (0),.int .i64 (0),.int .i64 (0),.int .i64 (0),.int .i64 (0),.slice none 0 0,.slice none 0 0,.slice none 0 0,.slice none 0 0,.int .i64 (0),.int .i64 (0),.int .i64 (0),.int .i64 (0),.int .i64 (0),.int .i64 (0),.int .i64 (0),.int .i64 (0)],true,.struct [(0,3),(1,4),(2,24),(7,26),(11,27),(18,3)]⟩,
  ⟨19,216,[.int .i64 (0),.bool false,.int .i64 (0),.int .i64 (0),.int .i64 (0),.int .i64 (0),.int .i64 (0),.slice none 0 0,.slice none 0 0,.slice none 0 0,.slice none 0 0,.int .i64 (0),.int .i64 (0),.int .i64 (0),.int .i64 (0),.int .i64 (0),.int .i64 (0),.int .i64 (0),.int .i64 (0)],true,.struct [(0,3),(1,4),(2,24),(7,26),(11,27),(18,3)]⟩,
  ⟨1,8,[.nilFunc],false,.other⟩,
  ⟨1,8,[.nilFunc],false,.other⟩,
  ⟨1,0,[.tuple { toList:=[.agg { toList:=[.int .i64 (0),.bool false,.int .i64 (0),.int .i64 (0),.int .i64 (0),.int .i64 (0),.int .i64 (0),.slice none 0 0,.slice none 0 0,.slice none 0 0,.slice none 0 0,.int .i64 (0),.int .i64 (0),.int .i64 (0),.int .i64 (0),.int .i64 (0),.int .i64 (0),.int .i64 (0),.int .i64 (0)] },.slice none 0 0] }],false,.other⟩,
  ⟨1,8,[.nilFunc],false,.other⟩,
  ⟨1,8,[.nilFunc],false,.other⟩,
  ⟨1,0,[.tuple { toList:=[.agg { toList:=[.int .i64 (0),.bool false,.int .i64 (0),.int .i64 (0),.int .i64 (0),.int .i64 (0),.int .i64 (0),.slice none 0 0,.slice none 0 0,.slice none 0 0,.slice none 0 0,.int .i64 (0),.int .i64 (0),.int .i64 (0),.int .i64 (0),.int .i64 (0),.int .i64 (0),.int .i64 (0),.int .i64 (0)] },.agg { toList:=[.int .i64 (0),.int .i64 (0),.int .i64 (0),.int .i64 (0),.int .i64 (0)] },.bool false] }],false,.other⟩,
  ⟨1,8,[.nilFunc],false,.other⟩,
  ⟨1,8,[.nilFunc],false,.other⟩,
  ⟨1,24,[.slice none 0 0],false,.slice 3⟩,
  ⟨1,24,[.slice none 0 0],false,.slice 40⟩,
  ⟨1,24,[.slice none 0 0],false,.slice 63⟩,
  ⟨1,8,[.int .i64 (0)],false,.int .i64⟩,
  ⟨1,0,[.tuple { toList:=[.agg { toList:=[.int .i64 (0),.bool false,.int .i64 (0),.int .i64 (0),.int .i64 (0),.int .i64 (0),.int .i64 (0),.slice none 0 0,.slice none 0 0,.slice none 0 0,.slice none 0 0,.int .i64 (0),.int .i64 (0),.int .i64 (0),.int .i64 (0),.int .i64 (0),.int .i64 (0),.int .i64 (0),.int .i64 (0)] },.int .i64 (0)] }],false,.other⟩,
  ⟨1,8,[.nilFunc],false,.other⟩,
  ⟨1,8,[.nilFunc],false,.other⟩,
  ⟨1,8,[.nilFunc],false,.other⟩,
  ⟨1,8,[.nilFunc],false,.other⟩,
  ⟨1,8,[.nilFunc],false,.other⟩,
  ⟨1,8,[.nilFunc],false,.other⟩,
  ⟨1,8,[.nilFunc],false,.other⟩,
  ⟨1,8,[.nilFunc],false,.other⟩,
  ⟨1,8,[.nilFunc],false,.other⟩,
  ⟨1,8,[.nilFunc],false,.other⟩,
  ⟨1,8,[.nilFunc],false,.other⟩,
  ⟨1,8,[.nilFunc],false,.other⟩,
  ⟨1,8,[.nilFunc],false,.other⟩,
  ⟨1,8,[.nilFunc],false,.other⟩,
  ⟨1,8,[.nilFunc],false,.other⟩,
  ⟨1,0,[.tuple { toList:=[.agg { toList:=[.int .i64 (0),.int .i64 (0),.int .i64 (0),.int .i64 (0),.int .i64 (0)] },.int .i64 (0)] }],false,.other⟩,
  ⟨1,8,[.nilFunc],false,.other⟩,
  ⟨1,8,[.nilFunc],false,.other⟩,
  ⟨5,40,[.int .i64 (0),.int .i64 (0),.int .i64 (0),.int .i64 (0),.int .i64 (0)],true,.array 5 3⟩,
  ⟨1,8,[.nilFunc],false,.other⟩,
  ⟨1,8,[.int .u64 (0)],false,.int .u64⟩,
  ⟨1,8,[.nilFunc],false,.other⟩,
  ⟨1,8,[.nilFunc],false,.other⟩,
  ⟨1,8,[.nilFunc],false,.other⟩,
  ⟨1,8,[.nilFunc],false,.other⟩,
  ⟨1,8,[.nilFunc],false,.other⟩,
  ⟨4,40,[.pointer none,.pointer none,.pointer none,.string ⟨#[]⟩],false,.struct [(0,17),(1,17),(2,17),(3,9)]⟩,
  ⟨4,40,[.pointer none,.pointer none,.pointer none,.string ⟨#[]⟩],false,.struct [(0,17),(1,17),(2,17),(3,9)]⟩,
  ⟨0,0,[],true,.array 0 16⟩,
  ⟨0,0,[],false,.struct [(0,71)]⟩,
  ⟨0,0,[],false,.struct [(0,71)]⟩,
  ⟨1,8,[.nilFunc],false,.other⟩,
  ⟨1,4,[.int .u32 (0)],false,.int .u32⟩,
  ⟨1,1,[.int .u8 (0)],false,.int .u8⟩,
  ⟨1,1,[.int .u8 (0)],false,.int .u8⟩,
  ⟨1,8,[.nilFunc],false,.other⟩,
  ⟨1,8,[.pointer none],false,.other⟩,
  ⟨1,4,[.int .i32 (0)],false,.int .i32⟩,
  ⟨1,4,[.int .i32 (0)],false,.int .i32⟩,
  ⟨11,48,[.int .u64 (0),.int .u64 (0),.int .u32 (0),.int .u8 (0),.int .u8 (0),.int .u8 (0),.int .u8 (0),.nilFunc,.pointer none,.int .i32 (0),.int .i32 (0)],false,.struct [(0,12),(1,12),(2,75),(3,76),(4,5),(5,5),(6,77),(7,78),(8,79),(9,80),(10,81)]⟩,
  ⟨11,48,[.int .u64 (0),.int .u64 (0),.int .u32 (0),.int .u8 (0),.int .u8 (0),.int .u8 (0),.int .u8 (0),.nilFunc,.pointer none,.int .i32 (0),.int .i32 (0)],false,.struct [(0,12),(1,12),(2,75),(3,76),(4,5),(5,5),(6,77),(7,78),(8,79),(9,80),(10,81)]⟩,
  ⟨1,8,[.pointer none],false,.other⟩]
theorem tis_ok:tis=(List.range 85).map (tiOf Try.prog):=by kernel_rfl
theorem names_ok:(Try.prog.funcs.toList.all fun fn=>!(fn.name == "runtime.NumGoroutine"))=true:=by kernel_rfl
noncomputable def mk (sp:FuncId→Option Spec):Ctx:={ spec:=sp,inl:=fun _=>true,T:=tis,fns:=fun f=>Try.prog.funcs[f]?,sym:=fun _ _=>false }
theorem mk_ok {sp:FuncId→Option Spec} (h:∀ f s,sp f=some s→SpecOk Try.prog f s):XOk Try.prog (mk sp) where
 mixed:=by kernel_rfl
 T:=TOk.of_range tis_ok
 fns:=fun f fn hf=>⟨hf,by
  have h1:=List.all_eq_true.1 names_ok fn (by
   have:Try.prog.funcs[f]? = some fn:=hf
   simpa using Array.mem_of_getElem? this)
  simpa using h1⟩
 spec:=h
 alt:=fun _ _ h=>nomatch h
noncomputable def mka (sp:FuncId→Option Spec) (al:FuncId→Option Alt):Ctx:={ spec:=sp,alt:=al,inl:=fun _=>true,T:=tis,fns:=fun f=>Try.prog.funcs[f]?,sym:=fun _ _=>false }
theorem mka_ok {sp:FuncId→Option Spec} {al:FuncId→Option Alt} (h:XOk Try.prog (mk sp)) (ha:∀ f a,al f=some a→SpecOk Try.prog f ⟨a.A,a.R,fun x=>(a.f x).opt⟩):XOk Try.prog (mka sp al) where
 mixed:=h.mixed
 T:=h.T
 fns:=h.fns
 spec:=h.spec
 alt:=ha
end Go.Proofs.Ytkeedfiffjpnfaa.X
end
section
set_option linter.unusedVariables false
set_option linter.unusedSimpArgs false
namespace Go.Proofs.Ytkeedfiffjpnfaa.X
open Go Go.RowKit
set_option maxRecDepth 100000
set_option maxHeartbeats 4000000
set_option linter.unusedVariables false
set_option linter.unusedSimpArgs false
abbrev KI:Kd:=.int .i64
abbrev KU:Kd:=.int .u64
abbrev KS:Kd:=.cons KI (.cons KI (.cons (.cons KI (.cons KI (.cons KI .nil))) .nil))
abbrev KQ:Kd:=.sl KS
abbrev KM:Kd:=.cons KI (.cons .bool (.cons KS (.cons (kindN 4 KQ) (.cons (kindN 7 KI) (.cons KI .nil)))))
abbrev L0:{R:Type}→Lps R:=fun _ _=>none
theorem l0_ok {X:Ctx} {R:Type} {f:FuncId} {k:Nat}:LoopOk X R (L0 f (firstRid (loopAt X f k))) f k L0:=fun _ h=>nomatch h
def sumS (h w:Int):Int:=IntKind.u64.wrap (IntKind.u64.wrap (BitVec.ofInt 64 h ^^^ BitVec.ofInt 64 w).toNat*1099511628211)
def sumL (l:List Int) (h:Int):Int:=l.foldl sumS h
abbrev sk31:StSk:=⟨[.seq KU,.junk,.junk,.int .u64,.junk,.junk,.seq KU,.int .i64,.int .i64,.junk,.junk,.junk,.junk,.junk,.junk,.junk,.junk,.junk],[]⟩
abbrev dead31:List Nat:=[1,2,4,5,9,10,11,12,13,14,15,16,17]
abbrev mk31 (l0:List Int) (h:Int) (l:List Int) (n i:Int):sk31.T:=((l0,(),(),h,(),(),l,n,i,(),(),(),(),(),(),(),(),(),()),())
noncomputable def res31a {R:Type} (l0:List Int) (h:Int) (l:List Int) (n i:Int) (K:Ex→St→Option R):Option R :=
  bif decide (n=l.length) && (decide (0≤i) && (decide (i≤n) && decide (n<4611686018427387904))) then K (.exit 0) (sk31.fill (mk31 l0 (sumL (l.drop i.toNat) h) l n n)) else none
noncomputable def res31 {R:Type} (x:sk31.T) (K:Ex→St→Option R):Option R:=match x with
  | ((l0,_,_,h,_,_,l,n,i,_),_)=>res31a l0 h l n i K
noncomputable def rnd31a {R:Type} (l0:List Int) (h:Int) (l:List Int) (n i:Int) (N:sk31.T→Option R) (E:Ex→St→Option R):Option R :=
  bif decide (i<n) then (bif inB i l.length then N (mk31 l0 (sumS h (rd KU l i.toNat)) l n (IntKind.i64.wrap (i+1))) else none) else E (.exit 0) (sk31.fill (mk31 l0 h l n i))
noncomputable def rnd31 {R:Type} (x:sk31.T) (N:sk31.T→Option R) (E:Ex→St→Option R):Option R:=match x with
  | ((l0,_,_,h,_,_,l,n,i,_),_)=>rnd31a l0 h l n i N E
noncomputable abbrev L31:{R:Type}→Lps R:=fun f rid=>match f,rid with|31,3=>some (lpx dead31 sk31 res31)|_,_=>none
theorem wrap_i64 {i:Int} (h:0≤i) (h2:i<9223372036854775808):IntKind.i64.wrap i=i:=by
 simp [IntKind.wrap,IntKind.bits,IntKind.signed]
 omega
theorem key31 {R:Type} {K:Ex→St→Option R} {r:R} (l0 l:List Int):∀ (k:Nat) (h0 n i:Int),(n-i).toNat=k→n=l.length→0≤i→i≤n→n<4611686018427387904 →
  K (.exit 0) (sk31.fill (mk31 l0 (sumL (l.drop i.toNat) h0) l n n))=some r→iter rnd31 (k+1) (mk31 l0 h0 l n i) K=some r:=by
 intro k
 induction k with
 | zero =>
  intro h0 n i hk hn hi hin hb hK
  have e:i=n:=by omega
  subst e
  show rnd31a l0 h0 l i i (fun x'=>iter rnd31 0 x' K) K=some r
  simp only [rnd31a]
  have:decide (i<i)=false:=by simp
  rw [this]
  have e2:l.drop i.toNat=[]:=by rw [List.drop_eq_nil_iff];omega
  rw [e2] at hK
  exact hK
 | succ k ih =>
  intro h0 n i hk hn hi hin hb hK
  have hlt:i<n:=by omega
  show rnd31a l0 h0 l n i (fun x'=>iter rnd31 (k+1) x' K) K=some r
  simp only [rnd31a]
  have e1:decide (i<n)=true:=by simpa using hlt
  have e2:inB i l.length=true:=by simp [inB];omega
  rw [e1,e2]
  simp only [cond_true]
  have e3:IntKind.i64.wrap (i+1)=i+1:=wrap_i64 (by omega) (by omega)
  rw [e3]
  refine ih _ _ _ (by omega) hn (by omega) (by omega) hb ?_
  have hl:i.toNat<l.length:=by omega
  have e4:l.drop i.toNat=rd KU l i.toNat :: l.drop (i+1).toNat:=by
   have:(i+1).toNat=i.toNat+1:=by omega
   rw [this,List.drop_eq_getElem_cons hl]
   have:rd KU l i.toNat=l[i.toNat]:=by
    show(l[i.toNat]?).getD KU.dflt=_
    rw [List.getElem?_eq_getElem hl];rfl
   rw [this]
   rfl
  rw [e4] at hK
  exact hK
theorem res31a_ok {R:Type} {l0:List Int} {h0:Int} {l:List Int} {n i:Int} {K:Ex→St→Option R} {r:R} (h:res31a l0 h0 l n i K=some r):∃ k,iter rnd31 k (mk31 l0 h0 l n i) K=some r:=by
 unfold res31a at h
 cases hc:(decide (n=l.length) && (decide (0≤i) && (decide (i≤n) && decide (n<4611686018427387904)))) with
 | false=>rw [hc] at h;cases h
 | true =>
  rw [hc] at h
  simp only [Bool.and_eq_true,decide_eq_true_eq] at hc
  exact⟨_,key31 l0 l _ h0 n i rfl hc.1 hc.2.1 hc.2.2.1 hc.2.2.2 h⟩
theorem res31_ok {R:Type} (x:sk31.T) (K:Ex→St→Option R) (r:R) (h:res31 x K=some r):∃ n,iter rnd31 n x K=some r:=by
 obtain⟨⟨l0,⟨⟩,⟨⟩,h0,⟨⟩,⟨⟩,l,n,i,⟨⟩,⟨⟩,⟨⟩,⟨⟩,⟨⟩,⟨⟩,⟨⟩,⟨⟩,⟨⟩,⟨⟩⟩,⟨⟩⟩:=x
 exact res31a_ok h
theorem loop31 {sp:FuncId→Option Spec} {R:Type}:LoopOk (mk sp) R (L31 31 (firstRid (loopAt (mk sp) 31 0))) 31 0 L31:=by
 intro L hL s K r hs
 have e:(L31 31 (firstRid (loopAt (mk sp) 31 0)):Option (St→(Ex→St→Option R)→Option R))=some (lpx dead31 sk31 res31):=by kernel_rfl
 rw [e] at hL
 obtain rfl:=Option.some.inj hL
 refine lpx_ok (deadx:=dead31) (rnd:=rnd31) ?_ res31_ok hs
 intro x N E
 obtain⟨⟨l0,⟨⟩,⟨⟩,h0,⟨⟩,⟨⟩,l,n,i,⟨⟩,⟨⟩,⟨⟩,⟨⟩,⟨⟩,⟨⟩,⟨⟩,⟨⟩,⟨⟩,⟨⟩⟩,⟨⟩⟩:=x
 kernel_rfl
abbrev g31 (x:DsT [.sc (.sl KU)]):Option Int:=bif decide ((List.length (α:=Int) x.1:Int)<4611686018427387904) then some (sumL x.1 14695981039346656037) else none
theorem s31 {sp:FuncId→Option Spec} (hX:XOk Try.prog (mk sp)):SpecOk Try.prog 31 ⟨[.sc (.sl KU)],.one (.sc KU),g31⟩:=by
 refine fnl_ok hX (lps:=L31) 1 (by kernel_rfl) (fun k hk=>?_) (fun x r h=>?_) ⟨_,_,rfl,rfl⟩
 ·obtain rfl:k=0:=by omega
  exact loop31
 ·obtain⟨l,⟨⟩⟩:=x
  rw [←h]
  have e:∀ l:List Int,(bif decide ((l.length:Int)=l.length) && (decide ((0:Int)≤0) && (decide ((0:Int)≤l.length) && decide ((l.length:Int)<4611686018427387904))) then some (sumL (l.drop (Int.toNat 0)) 14695981039346656037) else none)=g31 (l,()):=by
   intro l
   simp [g31]
  refine Eq.trans ?_ (e l)
  exact(show fnx (mk sp) L31 31 [.sc (.sl KU)] (.one (.sc KU)) (l,())=(bif decide ((List.length (α:=Int) l:Int)=List.length (α:=Int) l) && (decide ((0:Int)≤0) && (decide ((0:Int)≤List.length (α:=Int) l) && decide ((List.length (α:=Int) l:Int)<4611686018427387904))) then some (sumL (List.drop (Int.toNat 0) l) 14695981039346656037) else none) from by kernel_rfl)
end Go.Proofs.Ytkeedfiffjpnfaa.X
end
section
set_option linter.unusedVariables false
set_option linter.unusedSimpArgs false
namespace Go.Proofs.Ytkeedfiffjpnfaa.X
open Go Go.RowKit
set_option maxRecDepth 100000
set_option maxHeartbeats 4000000
set_option linter.unusedVariables false
set_option linter.unusedSimpArgs false
abbrev ST:=Int × Int × (Int × Int × Int × Unit) × Unit
abbrev sp0:FuncId→Option Spec:=fun _=>none
theorem x0_ok:XOk Try.prog (mk sp0):=mk_ok (fun _ _ h=>nomatch h)
theorem noloop {X:Ctx} {Rt:RD} {f:FuncId}:∀ fn c,X.fns f=some fn→fn.body=some c→∀ c' L,c' ∈ loopsOf c→L0 (R:=Rt.T) f (firstRid c')=some L →
  ∀ s K r,L s K=some r→∃ n dead deadx s1,headx dead s=some s1∧loopx (codex X L0 (callN X 20) f c') (headx dead) (headx deadx) n s1 K=some r:=fun _ _ _ _ _ _ _ h=>nomatch h
def saneS (s:ST):Bool:=decide (-288230376151711744≤s.2.2.1.1) && decide (s.2.2.1.1≤288230376151711744) && (decide (-288230376151711744≤s.2.2.1.2.1) && decide (s.2.2.1.2.1≤288230376151711744)) && (decide (-288230376151711744≤s.2.2.1.2.2.1) && decide (s.2.2.1.2.2.1≤288230376151711744)) &&
  (decide (0≤s.1) && decide (s.1≤1099511627776) && (decide (0≤s.2.1) && decide (s.2.1<4)))
theorem saneS_tree (t s v w x:Int):(bif !decide (v < -288230376151711744) then bif decide (v > 288230376151711744) then some false else bif !decide (w < -288230376151711744) then bif decide (w > 288230376151711744) then some false else
   bif !decide (x < -288230376151711744) then bif decide (x > 288230376151711744) then some false else
   bif decide (t ≥ 0) then bif decide (t≤1099511627776) then bif decide (s ≥ 0) then some (decide (s<4)) else some false else some false else some false else some false else some false else some false)
  = some (saneS (t,s,(v,w,x,()),())):=by
 simp only [saneS]
 grind
theorem s24:SpecOk Try.prog 24 ⟨[.ag KS],.one (.sc .bool),fun x=>some (saneS x.1)⟩:=by
 refine fnx_ok x0_ok noloop (fun x r h=>?_) ⟨_,_,rfl,rfl⟩
 obtain⟨⟨t,s,⟨v,w,x,⟨⟩⟩,⟨⟩⟩,⟨⟩⟩:=x
 rw [←h]
 refine Eq.trans ?_ (saneS_tree t s v w x)
 kernel_rfl
theorem nan_is (a:Int):some (a != a)=some false:=by simp
theorem s34:SpecOk Try.prog 34 ⟨[.sc KI],.one (.sc .bool),fun _=>some false⟩:=by
 refine fnx_ok x0_ok noloop (fun x r h=>?_) ⟨_,_,rfl,rfl⟩
 obtain⟨a,⟨⟩⟩:=x
 rw [←h]
 exact Eq.trans (by kernel_rfl) (nan_is a)
abbrev sp9:FuncId→Option Spec:=fun f=>match f with
  | 34=>some ⟨[.sc KI],.one (.sc .bool),fun _=>some false⟩
  | _=>none
theorem x9_ok:XOk Try.prog (mk sp9):=mk_ok (fun f s h=>by
 simp only [sp9] at h
 split at h
 ·obtain rfl:=Option.some.inj h;exact s34
 ·cases h)
def cmpI (a b:Int):Int:=bif decide (a<b) then -1 else bif decide (a > b) then 1 else 0
theorem cmpI_tree (a b:Int):(bif decide (a<b) then some (-1) else bif decide (a > b) then some 1 else some 0)=some (cmpI a b):=by
 simp only [cmpI]
 grind
theorem s26:SpecOk Try.prog 26 ⟨[.sc KI,.sc KI],.one (.sc KI),fun x=>some (cmpI x.1 x.2.1)⟩:=by
 refine fnx_ok x9_ok noloop (fun x r h=>?_) ⟨_,_,rfl,rfl⟩
 obtain⟨a,b,⟨⟩⟩:=x
 rw [←h]
 refine Eq.trans ?_ (cmpI_tree a b)
 kernel_rfl
def orI:List Int→Option Int
  | [a,b]=>some (bif a != 0 then a else b)
  | _=>none
theorem orI_tree (a b:Int):(bif a != 0 then some a else bif b != 0 then some b else some 0)=some (bif a != 0 then a else b):=by
 cases h:a != 0<;>cases h2:b != 0<;>simp_all
theorem s25:SpecOk Try.prog 25 ⟨[.sc (.sl KI)],.one (.sc KI),fun x=>orI x.1⟩:=by
 refine fnx_ok x0_ok noloop (fun x r h=>?_) ⟨_,_,rfl,rfl⟩
 obtain⟨l,⟨⟩⟩:=x
 rw [←h]
 have h':orI l=some r:=h
 match l,h' with
 | [a,b],_ =>
  refine Eq.trans ?_ (orI_tree a b)
  kernel_rfl
abbrev spA:FuncId→Option Spec:=fun f=>match f with
  | 24=>some ⟨[.ag KS],.one (.sc .bool),fun x=>some (saneS x.1)⟩
  | 25=>some ⟨[.sc (.sl KI)],.one (.sc KI),fun x=>orI x.1⟩
  | 26=>some ⟨[.sc KI,.sc KI],.one (.sc KI),fun x=>some (cmpI x.1 x.2.1)⟩
  | 31=>some ⟨[.sc (.sl KU)],.one (.sc KU),g31⟩
  | _=>none
theorem xA_ok:XOk Try.prog (mk spA):=mk_ok (fun f s h=>by
 simp only [spA] at h
 split at h
 ·obtain rfl:=Option.some.inj h;exact s24
 ·obtain rfl:=Option.some.inj h;exact s25
 ·obtain rfl:=Option.some.inj h;exact s26
 ·obtain rfl:=Option.some.inj h;exact s31 x0_ok
 ·cases h)
def bef (a b:ST):Bool:=decide ((bif cmpI a.1 b.1 != 0 then cmpI a.1 b.1 else cmpI a.2.1 b.2.1)<0)
theorem s13:SpecOk Try.prog 13 ⟨[.ag KS,.ag KS],.one (.sc .bool),fun x=>some (bef x.1 x.2.1)⟩:=by
 refine fnx_ok xA_ok noloop (fun x r h=>?_) ⟨_,_,rfl,rfl⟩
 obtain⟨⟨t,s,⟨v,w,x,⟨⟩⟩,⟨⟩⟩,⟨t',s',⟨v',w',x',⟨⟩⟩,⟨⟩⟩,⟨⟩⟩:=x
 rw [←h]
 kernel_rfl
def uw (n:Int):Int:=IntKind.u64.wrap n
def five (s:ST):List Int:=[uw s.1,uw s.2.1,uw s.2.2.1.1,uw s.2.2.1.2.1,uw s.2.2.1.2.2.1]
def wordsS (s:ST):List Int:=bif saneS s then five s++[sumL (five s) 14695981039346656037] else []
theorem wordsS_tree (s:ST):(bif !saneS s then some [] else some (five s++[sumL (five s) 14695981039346656037]))=some (wordsS s):=by
 unfold wordsS
 cases saneS s<;>rfl
theorem s18:SpecOk Try.prog 18 ⟨[.ag KS],.one (.sc (.sl KU)),fun x=>some (wordsS x.1)⟩:=by
 refine fnx_ok xA_ok noloop (fun x r h=>?_) ⟨_,_,rfl,rfl⟩
 obtain⟨⟨t,s,⟨v,w,x,⟨⟩⟩,⟨⟩⟩,⟨⟩⟩:=x
 rw [←h]
 refine Eq.trans ?_ (wordsS_tree (t,s,(v,w,x,()),()))
 kernel_rfl
end Go.Proofs.Ytkeedfiffjpnfaa.X
end
section
set_option linter.unusedVariables false
set_option linter.unusedSimpArgs false
namespace Go.Proofs.Ytkeedfiffjpnfaa.X
open Go Go.RowKit
set_option maxRecDepth 100000
set_option maxHeartbeats 4000000
set_option linter.unusedVariables false
set_option linter.unusedSimpArgs false
def iw (n:Int):Int:=IntKind.i64.wrap n
def zeroS:ST:=(0,0,(0,0,0,()),())
def ofW (a b c d e:Int):ST:=(iw a,iw b,(iw c,iw d,iw e,()),())
def readS:List Int→ST × Int × Unit
  | [a,b,c,d,e,f]=>bif sumL [a,b,c,d,e] 14695981039346656037 != f then (zeroS,2,()) else bif !saneS (ofW a b c d e) then (zeroS,1,()) else (ofW a b c d e,0,())
  | _=>(zeroS,5,())
theorem readS_tree (a b c d e f:Int):(bif sumL [a,b,c,d,e] 14695981039346656037 != f then some (zeroS,2,()) else bif !saneS (ofW a b c d e) then some (zeroS,1,()) else some (ofW a b c d e,(0:Int),()))=some (readS [a,b,c,d,e,f]):=by
 show _=some (bif sumL [a,b,c,d,e] 14695981039346656037 != f then (zeroS,2,()) else bif !saneS (ofW a b c d e) then (zeroS,1,()) else (ofW a b c d e,0,()))
 cases sumL [a,b,c,d,e] 14695981039346656037 != f<;>cases saneS (ofW a b c d e)<;>rfl
theorem s35:SpecOk Try.prog 35 ⟨[.sc (.sl KU)],.many [.ag KS,.sc KI],fun x=>some (readS x.1)⟩:=by
 refine fnx_ok xA_ok noloop (fun x r h=>?_) ⟨_,_,rfl,rfl⟩
 obtain⟨l,⟨⟩⟩:=x
 rw [←h]
 clear h
 match l with
 | []=>show _=_;kernel_rfl
 | [_]=>show _=_;kernel_rfl
 | [_,_]=>show _=_;kernel_rfl
 | [_,_,_]=>show _=_;kernel_rfl
 | [_,_,_,_]=>show _=_;kernel_rfl
 | [_,_,_,_,_]=>show _=_;kernel_rfl
 | [a,b,c,d,e,f] =>
  refine Eq.trans ?_ (readS_tree a b c d e f)
  show _=_
  kernel_rfl
 | _ :: _ :: _ :: _ :: _ :: _ :: _ :: _=>show _=_;kernel_rfl
abbrev MT:=Int × Bool × ST × (List ST × List ST × List ST × List ST × Unit) × (Int × Int × Int × Int × Int × Int × Int × Unit) × Int × Unit
def countB (n:Int):Bool:=decide (n ≥ 0) && decide (n≤1099511627776)
theorem countB_tree (n:Int):(bif decide (n ≥ 0) then some (decide (n≤1099511627776)) else some false)=some (countB n):=by
 unfold countB
 cases decide (n ≥ 0)<;>rfl
theorem s23:SpecOk Try.prog 23 ⟨[.sc KI],.one (.sc .bool),fun x=>some (countB x.1)⟩:=by
 refine fnx_ok xA_ok noloop (fun x r h=>?_) ⟨_,_,rfl,rfl⟩
 obtain⟨n,⟨⟩⟩:=x
 rw [←h]
 refine Eq.trans ?_ (countB_tree n)
 kernel_rfl
abbrev spB:FuncId→Option Spec:=fun f=>match f with
  | 13=>some ⟨[.ag KS,.ag KS],.one (.sc .bool),fun x=>some (bef x.1 x.2.1)⟩
  | 23=>some ⟨[.sc KI],.one (.sc .bool),fun x=>some (countB x.1)⟩
  | 24=>some ⟨[.ag KS],.one (.sc .bool),fun x=>some (saneS x.1)⟩
  | 35=>some ⟨[.sc (.sl KU)],.many [.ag KS,.sc KI],fun x=>some (readS x.1)⟩
  | _=>none
theorem xB_ok:XOk Try.prog (mk spB):=mk_ok (fun f s h=>by
 simp only [spB] at h
 split at h
 ·obtain rfl:=Option.some.inj h;exact s13
 ·obtain rfl:=Option.some.inj h;exact s23
 ·obtain rfl:=Option.some.inj h;exact s24
 ·obtain rfl:=Option.some.inj h;exact s35
 ·cases h)
def behindM (m:MT) (s:ST):Bool:=bif m.2.1 then bef m.2.2.1 s else true
theorem behindM_tree (m:MT) (s:ST):(bif !!m.2.1 then (some (bef m.2.2.1 s)).bind fun r=>some r else some true)=some (behindM m s):=by
 unfold behindM
 cases m.2.1<;>rfl
theorem s33:SpecOk Try.prog 33 ⟨[.ag KM,.ag KS],.one (.sc .bool),fun x=>some (behindM x.1 x.2.1)⟩:=by
 refine fnx_ok xB_ok noloop (fun x r h=>?_) ⟨_,_,rfl,rfl⟩
 obtain⟨m,s,⟨⟩⟩:=x
 rw [←h]
 refine Eq.trans ?_ (behindM_tree m s)
 kernel_rfl
def leftM (m:MT):Int:=iw (iw (iw (iw (0+m.2.2.2.1.1.length)+m.2.2.2.1.2.1.length)+m.2.2.2.1.2.2.1.length)+m.2.2.2.1.2.2.2.1.length)
theorem s15:SpecOk Try.prog 15 ⟨[.ag KM],.one (.sc KI),fun x=>some (leftM x.1)⟩:=by
 refine fnx_ok xB_ok noloop (fun x r h=>?_) ⟨_,_,rfl,rfl⟩
 obtain⟨m,⟨⟩⟩:=x
 rw [←h]
 kernel_rfl
theorem s29:SpecOk Try.prog 29 ⟨[.sc KQ],.row 24 KS,fun x=>bif room tis 24 (List.length (α:=KS.T) x.1) then some x.1 else none⟩ :=
 clone_ok x0_ok ⟨_,_,rfl,rfl⟩ (fun c=>by kernel_rfl) (fun p c=>by kernel_rfl) (fun x l h=>by
  have e:runx (mk sp0) (fun _ _=>none) 29 [.seq KS (x :: l)] (.row 24 KS)=(bif room tis 24 (0+(l.length+1)) then some (x :: l:List KS.T) else none):=by kernel_rfl
  rw [e,Nat.zero_add,h];rfl)
end Go.Proofs.Ytkeedfiffjpnfaa.X
end
section
set_option linter.unusedVariables false
set_option linter.unusedSimpArgs false
namespace Go.Proofs.Ytkeedfiffjpnfaa.X
open Go Go.RowKit
set_option maxRecDepth 100000
set_option maxHeartbeats 4000000
set_option linter.unusedVariables false
set_option linter.unusedSimpArgs false
abbrev DM:DS:=.ag KM
abbrev spC:FuncId→Option Spec:=fun f=>match f with
  | 13=>some ⟨[.ag KS,.ag KS],.one (.sc .bool),fun x=>some (bef x.1 x.2.1)⟩
  | 23=>some ⟨[.sc KI],.one (.sc .bool),fun x=>some (countB x.1)⟩
  | 24=>some ⟨[.ag KS],.one (.sc .bool),fun x=>some (saneS x.1)⟩
  | 35=>some ⟨[.sc (.sl KU)],.many [.ag KS,.sc KI],fun x=>some (readS x.1)⟩
  | 33=>some ⟨[.ag KM,.ag KS],.one (.sc .bool),fun x=>some (behindM x.1 x.2.1)⟩
  | 15=>some ⟨[.ag KM],.one (.sc KI),fun x=>some (leftM x.1)⟩
  | _=>none
theorem xC_ok:XOk Try.prog (mk spC):=mk_ok (fun f s h=>by
 simp only [spC] at h
 split at h
 ·obtain rfl:=Option.some.inj h;exact s13
 ·obtain rfl:=Option.some.inj h;exact s23
 ·obtain rfl:=Option.some.inj h;exact s24
 ·obtain rfl:=Option.some.inj h;exact s35
 ·obtain rfl:=Option.some.inj h;exact s33
 ·obtain rfl:=Option.some.inj h;exact s15
 ·cases h)
abbrev dead22:List Nat:=[0,3,5,6,7,8,9,13,14,15,16,17,18,19,20,21,22,23,24,25,26,27,28,29,30,31,32,33,34,35,36,37,38,39,40,41,42,43,44,45,46,47,48,49,50,51,52,53,54,55,56]
abbrev sk22 (k:Int):StSk:=⟨[.junk,(.lit .i64 k),(.ptr 0 0),.junk,.bool,.junk,.junk,.junk,.junk,.junk,(.seq KS),(.int .i64),(.int .i64),.junk,.junk,.junk,.junk,.junk,.junk,.junk,.junk,.junk,.junk,.junk,.junk,.junk,.junk,.junk,.junk,.junk,.junk,.junk,.junk,.junk,.junk,.junk,.junk,.junk,.junk,.junk,.junk,.junk,.junk,.junk,.junk,.junk,.junk,.junk,.junk,.junk,.junk,.junk,.junk,.junk,.junk,.junk,.junk],[some (.cells [.int .i64,.bool,.int .i64,.int .i64,.int .i64,.int .i64,.int .i64,.seq KS,.seq KS,.seq KS,.seq KS,.int .i64,.int .i64,.int .i64,.int .i64,.int .i64,.int .i64,.int .i64,.int .i64])]⟩
abbrev mk22 (k:Int) (m:MT) (d4:Bool) (d10:List ST) (d11 d12:Int):(sk22 k).T:=(((),(),(),(),d4,(),(),(),(),(),d10,d11,d12,(),(),(),(),(),(),(),(),(),(),(),(),(),(),(),(),(),(),(),(),(),(),(),(),(),(),(),(),(),(),(),(),(),(),(),(),(),(),(),(),(),(),(),(),()),
  (m.1,m.2.1,m.2.2.1.1,m.2.2.1.2.1,m.2.2.1.2.2.1.1,m.2.2.1.2.2.1.2.1,m.2.2.1.2.2.1.2.2.1,m.2.2.2.1.1,m.2.2.2.1.2.1,m.2.2.2.1.2.2.1,m.2.2.2.1.2.2.2.1,m.2.2.2.2.1.1,m.2.2.2.2.1.2.1,m.2.2.2.2.1.2.2.1,m.2.2.2.2.1.2.2.2.1,m.2.2.2.2.1.2.2.2.2.1,m.2.2.2.2.1.2.2.2.2.2.1,m.2.2.2.2.1.2.2.2.2.2.2.1,m.2.2.2.2.2.1,()),())
def qOf (m:MT) (k:Int):List ST:=match k with|0=>m.2.2.2.1.1|1=>m.2.2.2.1.2.1|2=>m.2.2.2.1.2.2.1|_=>m.2.2.2.1.2.2.2.1
abbrev deadx22:List Nat:=[0,3,5,6,7,8,9,10,11,12,13,14,15,16,17,18,19,20,21,22,23,24,25,26,27,28,29,30,31,32,33,34,35,36,37,38,39,40,41,42,43,44,45,46,47,48,49,50,51,52,53,54,55,56]
abbrev sx22 (k:Int):StSk:=⟨[.junk,(.lit .i64 k),(.ptr 0 0),.junk,.bool,.junk,.junk,.junk,.junk,.junk,.junk,.junk,.junk,.junk,.junk,.junk,.junk,.junk,.junk,.junk,.junk,.junk,.junk,.junk,.junk,.junk,.junk,.junk,.junk,.junk,.junk,.junk,.junk,.junk,.junk,.junk,.junk,.junk,.junk,.junk,.junk,.junk,.junk,.junk,.junk,.junk,.junk,.junk,.junk,.junk,.junk,.junk,.junk,.junk,.junk,.junk,.junk],[some (.cells [.int .i64,.bool,.int .i64,.int .i64,.int .i64,.int .i64,.int .i64,.seq KS,.seq KS,.seq KS,.seq KS,.int .i64,.int .i64,.int .i64,.int .i64,.int .i64,.int .i64,.int .i64,.int .i64])]⟩
abbrev mx22 (k:Int) (m:MT) (d4:Bool):(sx22 k).T:=(((),(),(),(),d4,(),(),(),(),(),(),(),(),(),(),(),(),(),(),(),(),(),(),(),(),(),(),(),(),(),(),(),(),(),(),(),(),(),(),(),(),(),(),(),(),(),(),(),(),(),(),(),(),(),(),(),(),()),
  (m.1,m.2.1,m.2.2.1.1,m.2.2.1.2.1,m.2.2.1.2.2.1.1,m.2.2.1.2.2.1.2.1,m.2.2.1.2.2.1.2.2.1,m.2.2.2.1.1,m.2.2.2.1.2.1,m.2.2.2.1.2.2.1,m.2.2.2.1.2.2.2.1,m.2.2.2.2.1.1,m.2.2.2.2.1.2.1,m.2.2.2.2.1.2.2.1,m.2.2.2.2.1.2.2.2.1,m.2.2.2.2.1.2.2.2.2.1,m.2.2.2.2.1.2.2.2.2.2.1,m.2.2.2.2.1.2.2.2.2.2.2.1,m.2.2.2.2.2.1,()),())
structure R22 where
  d4:Bool
  q:List ST
  n:Int
  i:Int
noncomputable def rnd22a {R:Type} (k:Int) (m:MT) (fx:Bool→St) (x:R22) (N:R22→Option R) (E:Ex→St→Option R):Option R :=
  bif decide (x.i<x.n) then (bif inB x.i x.q.length then
    (bif !!saneS (rd KS x.q x.i.toNat) then
      (bif !((show ST from rd KS x.q x.i.toNat).2.1 != k) then
        (bif !!behindM m (rd KS x.q x.i.toNat) then
          (bif decide (x.i > 0) then (bif inB (IntKind.i64.wrap (x.i-1)) (qOf m k).length then
              (bif decide ((show ST from rd KS (qOf m k) (IntKind.i64.wrap (x.i-1)).toNat).1 ≥ (show ST from rd KS x.q x.i.toNat).1) then E .ret (fx false) else N ⟨x.d4,x.q,x.n,IntKind.i64.wrap (x.i+1)⟩) else none)
            else N ⟨x.d4,x.q,x.n,IntKind.i64.wrap (x.i+1)⟩)
        else E .ret (fx false))
      else E .ret (fx false))
    else E .ret (fx false)) else none)
  else E (.exit 0) (fx x.d4)
abbrev fx22 (k:Int) (m:MT) (b:Bool):St:=(sx22 k).fill (mx22 k m b)
abbrev fm22 (k:Int) (m:MT) (x:R22):St:=(sk22 k).fill (mk22 k m x.d4 x.q x.n x.i)
theorem round22_0 {R:Type} {lps:Lps R} (m:MT) (x:R22) (N:Option St→Option R) (E:Ex→Option St→Option R) :
  roundx (codex (mk spC) lps (callN (mk spC) 20) 22 (loopAt (mk spC) 22 0)) (headx dead22) (headx deadx22) (fm22 (0:Int) m x) N E=rnd22a (0:Int) m (fx22 (0:Int) m) x (fun x'=>N (some (fm22 (0:Int) m x'))) (fun e s=>E e (some s)):=by
 obtain⟨mark,sm,⟨t,s,⟨v,w,y,⟨⟩⟩,⟨⟩⟩,⟨q0,q1,q2,q3,⟨⟩⟩,⟨n0,n1,n2,n3,n4,n5,n6,⟨⟩⟩,tk,⟨⟩⟩:=m
 obtain⟨d4,q,n,i⟩:=x
 kernel_rfl
theorem round22_1 {R:Type} {lps:Lps R} (m:MT) (x:R22) (N:Option St→Option R) (E:Ex→Option St→Option R) :
  roundx (codex (mk spC) lps (callN (mk spC) 20) 22 (loopAt (mk spC) 22 0)) (headx dead22) (headx deadx22) (fm22 (1:Int) m x) N E=rnd22a (1:Int) m (fx22 (1:Int) m) x (fun x'=>N (some (fm22 (1:Int) m x'))) (fun e s=>E e (some s)):=by
 obtain⟨mark,sm,⟨t,s,⟨v,w,y,⟨⟩⟩,⟨⟩⟩,⟨q0,q1,q2,q3,⟨⟩⟩,⟨n0,n1,n2,n3,n4,n5,n6,⟨⟩⟩,tk,⟨⟩⟩:=m
 obtain⟨d4,q,n,i⟩:=x
 kernel_rfl
theorem round22_2 {R:Type} {lps:Lps R} (m:MT) (x:R22) (N:Option St→Option R) (E:Ex→Option St→Option R) :
  roundx (codex (mk spC) lps (callN (mk spC) 20) 22 (loopAt (mk spC) 22 0)) (headx dead22) (headx deadx22) (fm22 (2:Int) m x) N E=rnd22a (2:Int) m (fx22 (2:Int) m) x (fun x'=>N (some (fm22 (2:Int) m x'))) (fun e s=>E e (some s)):=by
 obtain⟨mark,sm,⟨t,s,⟨v,w,y,⟨⟩⟩,⟨⟩⟩,⟨q0,q1,q2,q3,⟨⟩⟩,⟨n0,n1,n2,n3,n4,n5,n6,⟨⟩⟩,tk,⟨⟩⟩:=m
 obtain⟨d4,q,n,i⟩:=x
 kernel_rfl
theorem round22_3 {R:Type} {lps:Lps R} (m:MT) (x:R22) (N:Option St→Option R) (E:Ex→Option St→Option R) :
  roundx (codex (mk spC) lps (callN (mk spC) 20) 22 (loopAt (mk spC) 22 0)) (headx dead22) (headx deadx22) (fm22 (3:Int) m x) N E=rnd22a (3:Int) m (fx22 (3:Int) m) x (fun x'=>N (some (fm22 (3:Int) m x'))) (fun e s=>E e (some s)):=by
 obtain⟨mark,sm,⟨t,s,⟨v,w,y,⟨⟩⟩,⟨⟩⟩,⟨q0,q1,q2,q3,⟨⟩⟩,⟨n0,n1,n2,n3,n4,n5,n6,⟨⟩⟩,tk,⟨⟩⟩:=m
 obtain⟨d4,q,n,i⟩:=x
 kernel_rfl
def rowGo (m:MT) (k:Int):Option ST→List ST→Bool
  | _,[]=>true
  | p,s :: l=>saneS s && (s.2.1 == k && (behindM m s && ((match p with|none=>true|some p=>decide (p.1<s.1)) && rowGo m k (some s) l)))
theorem key22 {R:Type} {k:Int} {m:MT} {fx:Bool→St} {d4:Bool} {K:Ex→St→Option R} {r:R}:∀ (rest pre:List ST) (p:Option ST),qOf m k=pre++rest→(pre=[]∧p=none∨∃ (pr:List ST) (s:ST),pre=pr++[s]∧p=some s∧(pre.length:Int)≤s.1+1∧s.1≤1099511627776) →
  (bif rowGo m k p rest then K (.exit 0) (fx d4) else K .ret (fx false))=some r→iter (rnd22a k m fx) (rest.length+1) ⟨d4,qOf m k,(qOf m k).length,pre.length⟩ K=some r:=by
 intro rest
 induction rest with
 | nil =>
  intro pre p hq hp hK
  show rnd22a k m fx ⟨d4,qOf m k,(qOf m k).length,pre.length⟩ (fun x'=>iter (rnd22a k m fx) 0 x' K) K=some r
  unfold rnd22a
  dsimp only
  have:decide ((pre.length:Int)<(qOf m k).length)=false:=by rw [hq];simp
  rw [this]
  exact hK
 | cons s rest ih =>
  intro pre p hq hp hK
  show rnd22a k m fx ⟨d4,qOf m k,(qOf m k).length,pre.length⟩ (fun x'=>iter (rnd22a k m fx) (rest.length+1) x' K) K=some r
  unfold rnd22a
  dsimp only
  have hlen:(qOf m k).length=pre.length+(rest.length+1):=by rw [hq];simp
  have h1:decide ((pre.length:Int)<(qOf m k).length)=true:=by rw [hlen];simp;omega
  have h2:inB (pre.length:Int) (qOf m k).length=true:=by rw [hlen];simp [inB];omega
  have h3:rd KS (qOf m k) (pre.length:Int).toNat=s:=by
   show((qOf m k)[(pre.length:Int).toNat]?).getD KS.dflt=s
   rw [hq];simp;rfl
  rw [h1,h2,h3]
  simp only [cond_true]
  simp only [rowGo] at hK
  cases ha:saneS s with
  | false=>rw [ha] at hK;exact hK
  | true =>
   rw [ha] at hK
   cases hb:s.2.1 == k with
   | false =>
    rw [hb] at hK
    have:(s.2.1 != k)=true:=by simp [bne,hb]
    rw [this];exact hK
   | true =>
    rw [hb] at hK
    have:(s.2.1 != k)=false:=by simp [bne,hb]
    rw [this]
    cases hc:behindM m s with
    | false=>rw [hc] at hK;exact hK
    | true =>
     rw [hc] at hK
     have hs:0≤s.1∧s.1≤1099511627776:=by
      simp only [saneS,Bool.and_eq_true,decide_eq_true_eq] at ha
      exact ha.2.1
     have go:∀ (_:(pre.length:Int)≤s.1),(bif rowGo m k (some s) rest then K (.exit 0) (fx d4) else K .ret (fx false))=some r →
       iter (rnd22a k m fx) (rest.length+1) ⟨d4,qOf m k,(qOf m k).length,IntKind.i64.wrap ((pre.length:Int)+1)⟩ K=some r:=by
      intro hle hK
      have e3:IntKind.i64.wrap ((pre.length:Int)+1)=((pre++[s]).length:Int):=by
       rw [wrap_i64 (by omega) (by omega)];simp
      rw [e3]
      exact ih (pre++[s]) (some s) (by rw [hq];simp) (Or.inr ⟨pre,s,rfl,rfl,by simp;omega,hs.2⟩) hK
     simp only [Bool.not_true,Bool.not_false,cond_true]
     rcases hp with ⟨rfl,rfl⟩|⟨pr,s',rfl,rfl,hle,hle2⟩
     ·have:decide (((([]:List ST).length:Nat):Int) > 0)=false:=by simp
      rw [this]
      exact go (by simp;exact hs.1) hK
     ·have h5:decide ((((pr++[s']).length:Nat):Int) > 0)=true:=by simp
      have hl:(((pr++[s']).length:Nat):Int)=pr.length+1:=by simp
      have h6:IntKind.i64.wrap ((((pr++[s']).length:Nat):Int)-1)=pr.length:=by
       rw [hl] at hle ⊢
       rw [wrap_i64 (by omega) (by omega)];omega
      have h7:inB (pr.length:Int) (qOf m k).length=true:=by rw [hlen];simp [inB];omega
      have h8:rd KS (qOf m k) (pr.length:Int).toNat=s':=by
       show((qOf m k)[(pr.length:Int).toNat]?).getD KS.dflt=s'
       rw [hq];simp;rfl
      rw [h5,h6,h7,h8]
      simp only [cond_true]
      by_cases hlt:s'.1<s.1
      ·have h9:decide (s'.1 ≥ s.1)=false:=by simp;omega
       rw [h9]
       have h10:decide (s'.1<s.1)=true:=by simpa using hlt
       simp only [h10,Bool.true_and] at hK
       exact go (by omega) hK
      ·have h9:decide (s'.1 ≥ s.1)=true:=by simp;omega
       rw [h9]
       have h10:decide (s'.1<s.1)=false:=by simpa using hlt
       simp only [h10,Bool.true_and,Bool.false_and] at hK
       exact hK
noncomputable def res22 {R:Type} (k:Int) (m:MT) (fx:Bool→St) (x:R22) (K:Ex→St→Option R):Option R :=
  bif decide (x.i=0) && (decide (x.n=x.q.length) && @decide (x.q=qOf m k) (Classical.propDecidable _)) then (bif rowGo m k none x.q then K (.exit 0) (fx x.d4) else K .ret (fx false)) else none
theorem res22_ok {R:Type} {k:Int} {m:MT} {fx:Bool→St} {x:R22} {K:Ex→St→Option R} {r:R} (h:res22 k m fx x K=some r):∃ n,iter (rnd22a k m fx) n x K=some r:=by
 obtain⟨d4,q,n,i⟩:=x
 unfold res22 at h
 dsimp only at h
 cases hc:(decide (i=0) && (decide (n=q.length) && @decide (q=qOf m k) (Classical.propDecidable _))) with
 | false=>rw [hc] at h;cases h
 | true =>
  rw [hc] at h
  simp only [Bool.and_eq_true,decide_eq_true_eq] at hc
  obtain⟨rfl,rfl,rfl⟩:=hc
  exact⟨_,key22 (d4:=d4) (qOf m k) [] none rfl (Or.inl ⟨rfl,rfl⟩) h⟩
def un22 {k:Int} (x:(sk22 k).T):MT × R22:=match x with
  | ((_,_,_,_,d4,_,_,_,_,_,q,n,i,_),((mark,sm,t,s,v,w,z,q0,q1,q2,q3,n0,n1,n2,n3,n4,n5,n6,tk,_),_)) =>
    ((mark,sm,(t,s,(v,w,z,()),()),(q0,q1,q2,q3,()),(n0,n1,n2,n3,n4,n5,n6,()),tk,()),⟨d4,q,n,i⟩)
theorem un22_ok {k:Int} (x:(sk22 k).T):(sk22 k).fill x=fm22 k (un22 x).1 (un22 x).2:=by kernel_rfl
noncomputable def at22 {R:Type} (k:Int) (s1:St) (K:Ex→St→Option R):Option R:=match (sk22 k).un s1 with
  | some x=>res22 k (un22 x).1 (fx22 k (un22 x).1) (un22 x).2 K
  | none=>none
noncomputable def lp22 {R:Type} (s:St) (K:Ex→St→Option R):Option R:=match headx dead22 s with
  | some s1=>match getT s1.t 1 with
    | .v (.int _ 0)=>at22 0 s1 K
    | .v (.int _ 1)=>at22 1 s1 K
    | .v (.int _ 2)=>at22 2 s1 K
    | .v (.int _ 3)=>at22 3 s1 K
    | _=>none
  | none=>none
noncomputable abbrev L22:{R:Type}→Lps R:=fun f rid=>match f,rid with|22,2=>some lp22|_,_=>none
theorem at22_ok {R:Type} {k:Int} {lps:Lps R} (hr:∀ (m:MT) (x:R22) (N:Option St→Option R) (E:Ex→Option St→Option R),
   roundx (codex (mk spC) lps (callN (mk spC) 20) 22 (loopAt (mk spC) 22 0)) (headx dead22) (headx deadx22) (fm22 k m x) N E=rnd22a k m (fx22 k m) x (fun x'=>N (some (fm22 k m x'))) (fun e s=>E e (some s)))
  {s1:St} {K:Ex→St→Option R} {r:R} (h:at22 k s1 K=some r):∃ n,loopx (codex (mk spC) lps (callN (mk spC) 20) 22 (loopAt (mk spC) 22 0)) (headx dead22) (headx deadx22) n s1 K=some r:=by
 unfold at22 at h
 split at h
 ·rename_i x hx
  obtain⟨n,hn⟩:=res22_ok h
  refine⟨n,?_⟩
  rw [StSk.un_ok hx,un22_ok,loopx_iter (form:=fm22 k (un22 x).1) (hr (un22 x).1),hn]
 ·cases h
theorem loop22 {R:Type}:LoopOk (mk spC) R (L22 22 (firstRid (loopAt (mk spC) 22 0))) 22 0 L22:=by
 intro L hL s K r hs
 have e:(L22 22 (firstRid (loopAt (mk spC) 22 0)):Option (St→(Ex→St→Option R)→Option R))=some lp22:=by kernel_rfl
 rw [e] at hL
 obtain rfl:=Option.some.inj hL
 unfold lp22 at hs
 split at hs
 ·rename_i s1 h1
  split at hs
  ·obtain⟨n,hn⟩:=at22_ok round22_0 hs
   exact⟨n,dead22,deadx22,s1,h1,hn⟩
  ·obtain⟨n,hn⟩:=at22_ok round22_1 hs
   exact⟨n,dead22,deadx22,s1,h1,hn⟩
  ·obtain⟨n,hn⟩:=at22_ok round22_2 hs
   exact⟨n,dead22,deadx22,s1,h1,hn⟩
  ·obtain⟨n,hn⟩:=at22_ok round22_3 hs
   exact⟨n,dead22,deadx22,s1,h1,hn⟩
  ·cases hs
 ·cases hs
end Go.Proofs.Ytkeedfiffjpnfaa.X
end
section
set_option linter.unusedVariables false
set_option linter.unusedSimpArgs false
namespace Go.Proofs.Ytkeedfiffjpnfaa.X
open Go Go.RowKit
set_option maxRecDepth 100000
set_option maxHeartbeats 4000000
set_option linter.unusedVariables false
set_option linter.unusedSimpArgs false
def rowB (m:MT) (k:Int):Bool:=bif rowGo m k none (qOf m k) then decide (((qOf m k).length:Int)≤16) else false
def rowM (m:MT) (k:Int):Option Bool:=if k=0 then some (rowB m 0) else if k=1 then some (rowB m 1) else if k=2 then some (rowB m 2) else if k=3 then some (rowB m 3) else none
theorem row_tree (m:MT) (k:Int) (q:List ST) (hq:q=qOf m k):(bif decide ((0:Int)=0) && (decide ((q.length:Int)=q.length) && @decide (q=qOf m k) (Classical.propDecidable _)) then (bif rowGo m k none q then some (decide ((q.length:Int)≤16)) else some false) else none)=some (rowB m k):=by
 subst hq
 unfold rowB
 simp
 cases rowGo m k none (qOf m k)<;>rfl
theorem s22:SpecOk Try.prog 22 ⟨[DM,.sc KI],.one (.sc .bool),fun x=>rowM x.1 x.2.1⟩:=by
 refine fnl_ok xC_ok (lps:=L22) 1 (by kernel_rfl) (fun k hk=>?_) (fun x r h=>?_) ⟨_,_,rfl,rfl⟩
 ·obtain rfl:k=0:=by omega
  exact loop22
 ·obtain⟨⟨mark,sm,⟨t,s,⟨v,w,y,⟨⟩⟩,⟨⟩⟩,⟨q0,q1,q2,q3,⟨⟩⟩,⟨n0,n1,n2,n3,n4,n5,n6,⟨⟩⟩,tk,⟨⟩⟩,k,⟨⟩⟩:=x
  have h':rowM (mark,sm,(t,s,(v,w,y,()),()),(q0,q1,q2,q3,()),(n0,n1,n2,n3,n4,n5,n6,()),tk,()) k=some r:=h
  rcases(by omega:(show Int from k)=0∨(show Int from k)=1∨(show Int from k)=2∨(show Int from k)=3∨((show Int from k)≠0∧(show Int from k)≠1∧(show Int from k)≠2∧(show Int from k)≠3)) with rfl|rfl|rfl|rfl|⟨h0,h1,h2,h3⟩
  ·rw [←h']
   refine Eq.trans ?_ (row_tree _ _ q0 rfl)
   kernel_rfl
  ·rw [←h']
   refine Eq.trans ?_ (row_tree _ _ q1 rfl)
   kernel_rfl
  ·rw [←h']
   refine Eq.trans ?_ (row_tree _ _ q2 rfl)
   kernel_rfl
  ·rw [←h']
   refine Eq.trans ?_ (row_tree _ _ q3 rfl)
   kernel_rfl
  ·have e0:rowM (mark,sm,(t,s,(v,w,y,()),()),(q0,q1,q2,q3,()),(n0,n1,n2,n3,n4,n5,n6,()),tk,()) k=none:=by
    unfold rowM
    rw [if_neg h0,if_neg h1,if_neg h2,if_neg h3]
   rw [e0] at h'
   cases h'
def zeroM:MT:=(0,false,zeroS,([],[],[],[],()),(0,0,0,0,0,0,0,()),0,())
def zsB (s:ST):Bool:=s.1 == 0 && (s.2.1 == 0 && (s.2.2.1.1 == 0 && (s.2.2.1.2.1 == 0 && (s.2.2.1.2.2.1 == 0 && true)) && true))
def saneM (m:MT):Bool :=
  bif !rowB m 0 then false else bif !rowB m 1 then false else bif !rowB m 2 then false else bif !rowB m 3 then false else
  bif !countB m.2.2.2.2.1.1 then false else bif !countB m.2.2.2.2.1.2.1 then false else bif !countB m.2.2.2.2.1.2.2.1 then false else bif !countB m.2.2.2.2.1.2.2.2.1 then false else
  bif !countB m.2.2.2.2.1.2.2.2.2.1 then false else bif !countB m.2.2.2.2.1.2.2.2.2.2.1 then false else bif !countB m.2.2.2.2.1.2.2.2.2.2.2.1 then false else
  bif !countB m.1 then false else bif !countB m.2.2.2.2.2.1 then false else
  bif (bif m.2.1 then saneS m.2.2.1 else zsB m.2.2.1) then m.2.2.2.2.1.1 == IntKind.i64.wrap (m.2.2.2.2.2.1+leftM m) else false
def saneMo (m:MT):Option Bool :=
  bif !rowB m 0 then some false else bif !rowB m 1 then some false else bif !rowB m 2 then some false else bif !rowB m 3 then some false else
  bif !countB m.2.2.2.2.1.1 then some false else bif !countB m.2.2.2.2.1.2.1 then some false else bif !countB m.2.2.2.2.1.2.2.1 then some false else bif !countB m.2.2.2.2.1.2.2.2.1 then some false else
  bif !countB m.2.2.2.2.1.2.2.2.2.1 then some false else bif !countB m.2.2.2.2.1.2.2.2.2.2.1 then some false else bif !countB m.2.2.2.2.1.2.2.2.2.2.2.1 then some false else
  bif !countB m.1 then some false else bif !countB m.2.2.2.2.2.1 then some false else
  bif m.2.1 then (bif saneS m.2.2.1 then some (m.2.2.2.2.1.1 == IntKind.i64.wrap (m.2.2.2.2.2.1+leftM m)) else some false) else
  bif zsB m.2.2.1 then some (m.2.2.2.2.1.1 == IntKind.i64.wrap (m.2.2.2.2.2.1+leftM m)) else some false
theorem some_c (c:Bool) (a b:Bool):some (bif c then a else b)=bif c then some a else some b:=by cases c<;>rfl
theorem saneMo_is (m:MT):saneMo m=some (saneM m):=by
 unfold saneMo saneM
 simp only [some_c]
 cases m.2.1<;>rfl
abbrev spD:FuncId→Option Spec:=fun f=>match f with
  | 22=>some ⟨[DM,.sc KI],.one (.sc .bool),fun x=>rowM x.1 x.2.1⟩
  | f=>spC f
theorem xD_ok:XOk Try.prog (mk spD):=mk_ok (fun f s h=>by
 simp only [spD] at h
 split at h
 ·obtain rfl:=Option.some.inj h;exact s22
 ·exact xC_ok.spec _ _ h)
theorem s11:SpecOk Try.prog 11 ⟨[DM],.one (.sc .bool),fun x=>some (saneM x.1)⟩:=by
 refine fnx_ok xD_ok noloop (fun x r h=>?_) ⟨_,_,rfl,rfl⟩
 obtain⟨⟨mark,sm,⟨t,s,⟨v,w,y,⟨⟩⟩,⟨⟩⟩,⟨q0,q1,q2,q3,⟨⟩⟩,⟨n0,n1,n2,n3,n4,n5,n6,⟨⟩⟩,tk,⟨⟩⟩,⟨⟩⟩:=x
 rw [←h]
 refine Eq.trans ?_ (saneMo_is _)
 kernel_rfl
end Go.Proofs.Ytkeedfiffjpnfaa.X
end
section
set_option linter.unusedVariables false
set_option linter.unusedSimpArgs false
namespace Go.Proofs.Ytkeedfiffjpnfaa.X
open Go Go.RowKit
set_option maxRecDepth 100000
set_option maxHeartbeats 4000000
set_option linter.unusedVariables false
set_option linter.unusedSimpArgs false
abbrev spE:FuncId→Option Spec:=fun f=>match f with
  | 11=>some ⟨[DM],.one (.sc .bool),fun x=>some (saneM x.1)⟩
  | f=>spD f
theorem xE_ok:XOk Try.prog (mk spE):=mk_ok (fun f s h=>by
 simp only [spE] at h
 split at h
 ·obtain rfl:=Option.some.inj h;exact s11
 ·exact xD_ok.spec _ _ h)
def knownM (m:MT):MT:=bif saneM m then m else zeroM
theorem known_tree (m:MT):(bif saneM m then some m else some zeroM)=some (knownM m):=by
 unfold knownM
 cases saneM m<;>rfl
theorem s27:SpecOk Try.prog 27 ⟨[DM],.one DM,fun x=>some (knownM x.1)⟩:=by
 refine fnx_ok xE_ok noloop (fun x r h=>?_) ⟨_,_,rfl,rfl⟩
 obtain⟨⟨mark,sm,⟨t,s,⟨v,w,y,⟨⟩⟩,⟨⟩⟩,⟨q0,q1,q2,q3,⟨⟩⟩,⟨n0,n1,n2,n3,n4,n5,n6,⟨⟩⟩,tk,⟨⟩⟩,⟨⟩⟩:=x
 rw [←h]
 refine Eq.trans ?_ (known_tree _)
 kernel_rfl
abbrev spF:FuncId→Option Spec:=fun f=>match f with
  | 27=>some ⟨[DM],.one DM,fun x=>some (knownM x.1)⟩
  | f=>spE f
theorem xF_ok:XOk Try.prog (mk spF):=mk_ok (fun f s h=>by
 simp only [spF] at h
 split at h
 ·obtain rfl:=Option.some.inj h;exact s27
 ·exact xE_ok.spec _ _ h)
def tillM (m:MT) (t:Int):MT:=bif decide (t≤1099511627776) then ((if (knownM m).1<t then t else (knownM m).1),(knownM m).2) else knownM m
theorem till_tree (m:MT) (t:Int):(bif decide (t≤1099511627776) then some (((if (knownM m).1<t then t else (knownM m).1),(knownM m).2):MT) else some (knownM m))=some (tillM m t):=by
 unfold tillM
 cases decide (t≤1099511627776)<;>rfl
theorem s17:SpecOk Try.prog 17 ⟨[DM,.sc KI],.one DM,fun x=>some (tillM x.1 x.2.1)⟩:=by
 refine fnx_ok xF_ok noloop (fun x r h=>?_) ⟨_,_,rfl,rfl⟩
 obtain⟨m,t,⟨⟩⟩:=x
 rw [←h]
 refine Eq.trans ?_ (till_tree m t)
 kernel_rfl
end Go.Proofs.Ytkeedfiffjpnfaa.X
end
section
set_option linter.unusedVariables false
set_option linter.unusedSimpArgs false
namespace Go.Proofs.Ytkeedfiffjpnfaa.X
open Go Go.RowKit
set_option maxRecDepth 100000
set_option maxHeartbeats 4000000
set_option linter.unusedVariables false
set_option linter.unusedSimpArgs false
def wrongT (m:MT) (k:Int) (q:List ST) (z:ST × Int × Unit):Option (ST × Int × Unit) :=
  bif z.2.1 != 0 then some (z.1,z.2.1,()) else bif z.1.2.1 != k then some (z.1,1,()) else
  bif !!behindM m z.1 then
    (bif decide ((q.length:Int) > 0) then
      (bif inB (IntKind.i64.wrap ((q.length:Int)-1)) q.length then
        (bif decide (z.1.1≤(show ST from rd KS q (IntKind.i64.wrap ((q.length:Int)-1)).toNat).1) then some (z.1,3,()) else bif (q.length:Int) == 16 then some (z.1,4,()) else some (z.1,0,())) else none)
    else bif (q.length:Int) == 16 then some (z.1,4,()) else some (z.1,0,()))
  else some (z.1,3,())
def wrongO (m:MT) (k:Int) (l:List Int):Option (ST × Int × Unit) :=
  if k=0 then wrongT m 0 (qOf m 0) (readS l) else if k=1 then wrongT m 1 (qOf m 1) (readS l) else if k=2 then wrongT m 2 (qOf m 2) (readS l) else if k=3 then wrongT m 3 (qOf m 3) (readS l) else some (zeroS,5,())
theorem out_tree (k:Int) (h:k<0∨4≤k) (A:Option (ST × Int × Unit)):(bif !decide (k<0) then (bif decide (k ≥ 4) then some (zeroS,(5:Int),()) else A) else some (zeroS,5,()))=some (zeroS,5,()):=by
 rcases h with h|h
 ·simp [h]
 ·have h1:¬k<0:=by omega
  simp [h1,h]
theorem s28a (m:MT) (l:List Int):fnx (mk spF) L0 28 [DM,.sc KI,.sc (.sl KU)] (.many [.ag KS,.sc KI]) (m,(0:Int),l,())=wrongT m 0 (qOf m 0) (readS l):=by
 obtain⟨mark,sm,⟨t,s,⟨v,w,y,⟨⟩⟩,⟨⟩⟩,⟨q0,q1,q2,q3,⟨⟩⟩,⟨n0,n1,n2,n3,n4,n5,n6,⟨⟩⟩,tk,⟨⟩⟩:=m
 kernel_rfl
theorem s28b (m:MT) (l:List Int):fnx (mk spF) L0 28 [DM,.sc KI,.sc (.sl KU)] (.many [.ag KS,.sc KI]) (m,(1:Int),l,())=wrongT m 1 (qOf m 1) (readS l):=by
 obtain⟨mark,sm,⟨t,s,⟨v,w,y,⟨⟩⟩,⟨⟩⟩,⟨q0,q1,q2,q3,⟨⟩⟩,⟨n0,n1,n2,n3,n4,n5,n6,⟨⟩⟩,tk,⟨⟩⟩:=m
 kernel_rfl
theorem s28c (m:MT) (l:List Int):fnx (mk spF) L0 28 [DM,.sc KI,.sc (.sl KU)] (.many [.ag KS,.sc KI]) (m,(2:Int),l,())=wrongT m 2 (qOf m 2) (readS l):=by
 obtain⟨mark,sm,⟨t,s,⟨v,w,y,⟨⟩⟩,⟨⟩⟩,⟨q0,q1,q2,q3,⟨⟩⟩,⟨n0,n1,n2,n3,n4,n5,n6,⟨⟩⟩,tk,⟨⟩⟩:=m
 kernel_rfl
theorem s28d (m:MT) (l:List Int):fnx (mk spF) L0 28 [DM,.sc KI,.sc (.sl KU)] (.many [.ag KS,.sc KI]) (m,(3:Int),l,())=wrongT m 3 (qOf m 3) (readS l):=by
 obtain⟨mark,sm,⟨t,s,⟨v,w,y,⟨⟩⟩,⟨⟩⟩,⟨q0,q1,q2,q3,⟨⟩⟩,⟨n0,n1,n2,n3,n4,n5,n6,⟨⟩⟩,tk,⟨⟩⟩:=m
 kernel_rfl
def fk {A:Type} (m:MT) (k:Int) (f:List ST→Option A):Option A :=
  bif decide (k=((3:Nat):Int)) then f (qOf m 3) else bif decide (k=((2:Nat):Int)) then f (qOf m 2) else bif decide (k=((1:Nat):Int)) then f (qOf m 1) else bif decide (k=((0:Nat):Int)) then f (qOf m 0) else none
def wrongF (m:MT) (k:Int) (z:ST × Int × Unit):Option (ST × Int × Unit):=fk m k fun q =>
  bif z.2.1 != 0 then some (z.1,z.2.1,()) else bif z.1.2.1 != k then some (z.1,1,()) else
  bif !!behindM m z.1 then
    (bif decide ((q.length:Int) > 0) then fk m k (fun q' =>
      (bif inB (IntKind.i64.wrap ((q.length:Int)-1)) q'.length then
        (bif decide (z.1.1≤(show ST from rd KS q' (IntKind.i64.wrap ((q.length:Int)-1)).toNat).1) then some (z.1,3,()) else bif (q.length:Int) == 16 then some (z.1,4,()) else some (z.1,0,())) else none))
    else bif (q.length:Int) == 16 then some (z.1,4,()) else some (z.1,0,()))
  else some (z.1,3,())
theorem s28e (m:MT) (k:Int) (l:List Int):fnx (mk spF) L0 28 [DM,.sc KI,.sc (.sl KU)] (.many [.ag KS,.sc KI]) (m,k,l,())=(bif !decide (k<0) then (bif decide (k ≥ 4) then some (zeroS,(5:Int),()) else wrongF m k (readS l)) else some (zeroS,5,())):=by
 obtain⟨mark,sm,⟨t,s,⟨v,w,y,⟨⟩⟩,⟨⟩⟩,⟨q0,q1,q2,q3,⟨⟩⟩,⟨n0,n1,n2,n3,n4,n5,n6,⟨⟩⟩,tk,⟨⟩⟩:=m
 kernel_rfl
theorem wrongO_out (m:MT) (k:Int) (l:List Int) (h:k<0∨4≤k):wrongO m k l=some (zeroS,5,()):=by
 unfold wrongO
 rw [if_neg (by omega),if_neg (by omega),if_neg (by omega),if_neg (by omega)]
theorem s28:SpecOk Try.prog 28 ⟨[DM,.sc KI,.sc (.sl KU)],.many [.ag KS,.sc KI],fun x=>wrongO x.1 x.2.1 x.2.2.1⟩:=by
 refine fnx_ok xF_ok noloop (fun x r h=>?_) ⟨_,_,rfl,rfl⟩
 obtain⟨m,k,l,⟨⟩⟩:=x
 rw [←h]
 clear h
 rcases(by omega:(show Int from k)=0∨(show Int from k)=1∨(show Int from k)=2∨(show Int from k)=3∨((show Int from k)<0∨4≤(show Int from k))) with rfl|rfl|rfl|rfl|h0
 ·exact s28a m l
 ·exact s28b m l
 ·exact s28c m l
 ·exact s28d m l
 ·refine(s28e m k l).trans ((out_tree k h0 _).trans ?_)
  exact(wrongO_out m k l h0).symm
end Go.Proofs.Ytkeedfiffjpnfaa.X
end
section
set_option linter.unusedVariables false
set_option linter.unusedSimpArgs false
namespace Go.Proofs.Ytkeedfiffjpnfaa.X
open Go Go.RowKit
set_option maxRecDepth 100000
set_option maxHeartbeats 4000000
set_option linter.unusedVariables false
set_option linter.unusedSimpArgs false
abbrev ZT:=ST × Int × Unit
abbrev PT:=MT × Int × Unit
abbrev AP:List DS:=[DM,.sc KI,.sc (.sl KU)]
abbrev RP:RD:=.many [DM,.sc KI]
theorem spec_at {P:Program} {f:FuncId} {A:List DS} {Rt:RD} {g:DsT A→Option Rt.T} (he:Enters P f) (h:∀ x r,g x=some r→∃ g',SpecOk P f ⟨A,Rt,g'⟩∧g' x=some r):SpecOk P f ⟨A,Rt,g⟩ :=
 ⟨he,fun Z w x vals r hZ ha hr=>by obtain⟨g',h1,h2⟩:=h x r hr;exact h1.calls Z w x vals r hZ ha h2⟩
theorem spec_le {P:Program} {f:FuncId} {A:List DS} {Rt:RD} {g g':DsT A→Option Rt.T} (h:SpecOk P f ⟨A,Rt,g⟩) (hg:∀ x r,g' x=some r→g x=some r):SpecOk P f ⟨A,Rt,g'⟩ :=
 ⟨h.enters,fun Z w x vals r hZ ha hr=>h.calls Z w x vals r hZ ha (hg x r hr)⟩
abbrev spV (Kn:MT→MT):FuncId→Option Spec:=fun f=>match f with
  | 27=>some ⟨[DM],.one DM,fun x=>some (Kn x.1)⟩
  | 29=>some ⟨[.sc KQ],.row 24 KS,fun x=>bif room tis 24 (List.length (α:=KS.T) x.1) then some x.1 else none⟩
  | f=>spF f
abbrev DT:=MT→Int→List Int→Bool
abbrev alV (D:DT) (z:ZT):FuncId→Option Alt:=fun f=>match f with
  | 28=>some ⟨AP,.many [.ag KS,.sc KI],fun x=>.fk (D x.1 x.2.1 x.2.2.1) (.yes z) .no⟩
  | _=>none
theorem xV_ok {D:DT} {z:ZT} (h:∀ m k l,D m k l=true→wrongO m k l=some z):XOk Try.prog (mka (spV knownM) (alV D z)):=mka_ok (mk_ok (fun f s h=>by
 simp only [spV] at h
 split at h
 ·obtain rfl:=Option.some.inj h;exact s27
 ·obtain rfl:=Option.some.inj h;exact s29
 ·exact xF_ok.spec _ _ h)) (fun f a ha=>by
 simp only [alV] at ha
 split at ha
 ·obtain rfl:=Option.some.inj ha
  refine spec_le s28 fun x r hr=>?_
  obtain⟨m,k,l,⟨⟩⟩:=x
  have hr':(bif D m k l then some z else none)=some r:=hr
  cases hD:D m k l with
  | true=>rw [hD] at hr';exact(h m k l hD).trans hr'
  | false=>rw [hD] at hr';cases hr'
 ·cases ha)
abbrev NT:=Int × Int × Int × Int × Int × Int × Int × Unit
def nOf (n:NT):Nat→Int
  | 0=>n.1
  | 1=>n.2.1
  | 2=>n.2.2.1
  | 3=>n.2.2.2.1
  | 4=>n.2.2.2.2.1
  | 5=>n.2.2.2.2.2.1
  | _=>n.2.2.2.2.2.2.1
def setN (n:NT) (v:Int):Nat→NT
  | 0=>(v,n.2)
  | 1=>(n.1,v,n.2.2)
  | 2=>(n.1,n.2.1,v,n.2.2.2)
  | 3=>(n.1,n.2.1,n.2.2.1,v,n.2.2.2.2)
  | 4=>(n.1,n.2.1,n.2.2.1,n.2.2.2.1,v,n.2.2.2.2.2)
  | 5=>(n.1,n.2.1,n.2.2.1,n.2.2.2.1,n.2.2.2.2.1,v,n.2.2.2.2.2.2)
  | _=>(n.1,n.2.1,n.2.2.1,n.2.2.2.1,n.2.2.2.2.1,n.2.2.2.2.2.1,v,n.2.2.2.2.2.2.2)
def bumpA (m:MT) (j a:Nat):MT:=(m.1,m.2.1,m.2.2.1,m.2.2.2.1,setN m.2.2.2.2.1 (IntKind.i64.wrap (nOf m.2.2.2.2.1 j+1)) a,m.2.2.2.2.2)
def bump (m:MT) (j:Nat):MT:=bumpA m j j
def setQ (m:MT) (q:List ST):Nat→MT
  | 0=>(m.1,m.2.1,m.2.2.1,(q,m.2.2.2.1.2),m.2.2.2.2)
  | 1=>(m.1,m.2.1,m.2.2.1,(m.2.2.2.1.1,q,m.2.2.2.1.2.2),m.2.2.2.2)
  | 2=>(m.1,m.2.1,m.2.2.1,(m.2.2.2.1.1,m.2.2.2.1.2.1,q,m.2.2.2.1.2.2.2),m.2.2.2.2)
  | _=>(m.1,m.2.1,m.2.2.1,(m.2.2.2.1.1,m.2.2.2.1.2.1,m.2.2.2.1.2.2.1,q,m.2.2.2.1.2.2.2.2),m.2.2.2.2)
def addQ (M:MT) (q:List ST) (k:Nat) (s:ST):Option PT :=
  (bif room tis 24 q.length then some q else none).bind fun r=>bif room tis 24 (r.length+1) then some (setQ M (r++[s]) k,0,()) else none
def putY (D:DT) (M:MT) (k:Nat) (l:List Int) (s:ST):Option PT:=bif D M k l then (bif nOf M.2.2.2.2.1 0 == 1099511627776 then some (M,4,()) else addQ (bump M 0) (qOf M k) k s) else none
def putE (D:DT) (M:MT) (k:Int) (l:List Int) (e:Nat):Option PT:=bif D M k l then (bif nOf M.2.2.2.2.1 e == 1099511627776 then some (M,4,()) else some (bump M e,e,())) else none
theorem put_0 (Kn:MT→MT) (D:DT) (m:MT) (s:ST) (l:List Int):fnx (mka (spV Kn) (alV D (s,0,()))) L0 16 AP RP (m,(0:Int),l,())=putY D (Kn m) 0 l s:=by kernel_rfl
theorem put_1 (Kn:MT→MT) (D:DT) (m:MT) (s:ST) (l:List Int):fnx (mka (spV Kn) (alV D (s,0,()))) L0 16 AP RP (m,(1:Int),l,())=putY D (Kn m) 1 l s:=by kernel_rfl
theorem put_2 (Kn:MT→MT) (D:DT) (m:MT) (s:ST) (l:List Int):fnx (mka (spV Kn) (alV D (s,0,()))) L0 16 AP RP (m,(2:Int),l,())=putY D (Kn m) 2 l s:=by kernel_rfl
theorem put_3 (Kn:MT→MT) (D:DT) (m:MT) (s:ST) (l:List Int):fnx (mka (spV Kn) (alV D (s,0,()))) L0 16 AP RP (m,(3:Int),l,())=putY D (Kn m) 3 l s:=by kernel_rfl
theorem put_e1 (Kn:MT→MT) (D:DT) (m:MT) (k:Int) (s:ST) (l:List Int):fnx (mka (spV Kn) (alV D (s,1,()))) L0 16 AP RP (m,k,l,())=putE D (Kn m) k l 1:=by kernel_rfl
theorem put_e2 (Kn:MT→MT) (D:DT) (m:MT) (k:Int) (s:ST) (l:List Int):fnx (mka (spV Kn) (alV D (s,2,()))) L0 16 AP RP (m,k,l,())=putE D (Kn m) k l 2:=by kernel_rfl
theorem put_e3 (Kn:MT→MT) (D:DT) (m:MT) (k:Int) (s:ST) (l:List Int):fnx (mka (spV Kn) (alV D (s,3,()))) L0 16 AP RP (m,k,l,())=putE D (Kn m) k l 3:=by kernel_rfl
theorem put_e4 (Kn:MT→MT) (D:DT) (m:MT) (k:Int) (s:ST) (l:List Int):fnx (mka (spV Kn) (alV D (s,4,()))) L0 16 AP RP (m,k,l,())=putE D (Kn m) k l 4:=by kernel_rfl
theorem put_e5 (Kn:MT→MT) (D:DT) (m:MT) (k:Int) (s:ST) (l:List Int):fnx (mka (spV Kn) (alV D (s,5,()))) L0 16 AP RP (m,k,l,())=putE D (Kn m) k l 5:=by kernel_rfl
end Go.Proofs.Ytkeedfiffjpnfaa.X
end
section
set_option linter.unusedVariables false
set_option linter.unusedSimpArgs false
namespace Go.Proofs.Ytkeedfiffjpnfaa.X
open Go Go.RowKit
set_option maxRecDepth 100000
set_option maxHeartbeats 4000000
set_option linter.unusedVariables false
set_option linter.unusedSimpArgs false
theorem readS_code (l:List Int):(readS l).2.1=0∨(readS l).2.1=1∨(readS l).2.1=2∨(readS l).2.1=5:=by
 unfold readS
 split
 ·rename_i a b c d e f
  cases h:(sumL [a,b,c,d,e] 14695981039346656037 != f) with
  | true=>simp
  | false=>cases h2:(!saneS (ofW a b c d e))<;>simp
 ·simp
theorem wrongT_code {m:MT} {k:Int} {q:List ST} {z y:ST × Int × Unit} (hz:z.2.1=0∨z.2.1=1∨z.2.1=2∨z.2.1=5) (h:wrongT m k q z=some y):y.2.1=0∨y.2.1=1∨y.2.1=2∨y.2.1=3∨y.2.1=4∨y.2.1=5:=by
 unfold wrongT at h
 simp only [cond_eq_ite] at h
 repeat' split at h
 all_goals first
  | (obtain rfl:=Option.some.inj h;simp;omega)
  | (obtain rfl:=Option.some.inj h;simp)
  | cases h
theorem wrongO_code {m:MT} {k:Int} {l:List Int} {y:ST × Int × Unit} (h:wrongO m k l=some y):((k=0∨k=1∨k=2∨k=3)∧y.2.1=0)∨y.2.1=1∨y.2.1=2∨y.2.1=3∨y.2.1=4∨y.2.1=5:=by
 unfold wrongO at h
 split at h
 ·have:=wrongT_code (readS_code l) h;omega
 ·split at h
  ·have:=wrongT_code (readS_code l) h;omega
  ·split at h
   ·have:=wrongT_code (readS_code l) h;omega
   ·split at h
    ·have:=wrongT_code (readS_code l) h;omega
    ·obtain rfl:=Option.some.inj h;simp
def putO (m:MT) (k:Int) (l:List Int):Option PT:=(wrongO (knownM m) k l).bind fun z =>
  if nOf (knownM m).2.2.2.2.1 z.2.1.toNat=1099511627776 then some (knownM m,4,()) else
  if z.2.1=0 then addQ (bump (knownM m) 0) (qOf (knownM m) k) k.toNat z.1 else some (bump (knownM m) z.2.1.toNat,z.2.1,())
theorem s16:SpecOk Try.prog 16 ⟨AP,RP,fun x=>putO x.1 x.2.1 x.2.2.1⟩:=by
 have he:Enters Try.prog 16:=(fnx_ok (f:=16) (A:=AP) (Rt:=RP) xF_ok noloop (g:=fun _=>none) (fun _ _ h=>nomatch h) ⟨_,_,rfl,rfl⟩).enters
 refine spec_at he fun x r h=>?_
 obtain⟨m,k,l,⟨⟩⟩:=x
 have h':putO m k l=some r:=h
 unfold putO at h'
 obtain⟨z,hz,h2⟩:=Option.bind_eq_some_iff.1 h'
 have hX:=xV_ok (D:=fun m' k' l'=>@decide ((m',k',l')=(knownM m,k,l)) (Classical.propDecidable _)) (z:=z) (fun m' k' l' hd=>by
  have this:(m',k',l')=(knownM m,k,l):=@of_decide_eq_true _ (Classical.propDecidable _) hd
  have e:wrongO m' k' l'=wrongO (knownM m) k l:=congrArg (fun p:MT × Int × List Int=>wrongO p.1 p.2.1 p.2.2) this
  exact e.trans hz)
 refine⟨_,fnx_ok hX noloop (fun x r h=>h) ⟨_,_,rfl,rfl⟩,?_⟩
 have hD:∀ (d:Decidable ((knownM m,k,l)=(knownM m,k,l))),@decide ((knownM m,k,l)=(knownM m,k,l)) d=true:=fun d=>by simp
 obtain⟨s,e,⟨⟩⟩:=z
 dsimp only at h2
 rcases wrongO_code hz with ⟨hk,h0⟩|h0|h0|h0|h0|h0<;>dsimp only at h0<;>subst h0
 ·have key:∀ (j:Nat) (D:DT),D (knownM m) j l=true→(k=(j:Int))→putY D (knownM m) j l s=some r:=by
   intro j D hd hj
   subst hj
   unfold putY
   rw [hd]
   simp only [cond_true]
   have e0:nOf (knownM m).2.2.2.2.1 (0:Int).toNat=nOf (knownM m).2.2.2.2.1 0:=rfl
   rw [e0] at h2
   by_cases hn:nOf (knownM m).2.2.2.2.1 0=1099511627776
   ·rw [if_pos hn] at h2
    simp only [hn,beq_self_eq_true,cond_true]
    exact h2
   ·rw [if_neg hn] at h2
    have:(nOf (knownM m).2.2.2.2.1 0 == 1099511627776)=false:=by simpa using hn
    rw [this]
    rw [if_pos rfl] at h2
    exact h2
  rcases hk with rfl|rfl|rfl|rfl
  ·exact(put_0 _ _ _ _ _).trans (key 0 _ (hD _) rfl)
  ·exact(put_1 _ _ _ _ _).trans (key 1 _ (hD _) rfl)
  ·exact(put_2 _ _ _ _ _).trans (key 2 _ (hD _) rfl)
  ·exact(put_3 _ _ _ _ _).trans (key 3 _ (hD _) rfl)
 all_goals
  have key:∀ (j:Nat) (D:DT),D (knownM m) k l=true→(if nOf (knownM m).2.2.2.2.1 j=1099511627776 then some (knownM m,4,()) else some (bump (knownM m) j,(j:Int),()))=some r→putE D (knownM m) k l j=some r:=by
   intro j D hd hj
   unfold putE
   rw [hd]
   simp only [cond_true]
   by_cases hn:nOf (knownM m).2.2.2.2.1 j=1099511627776
   ·rw [if_pos hn] at hj
    simp only [hn,beq_self_eq_true,cond_true]
    exact hj
   ·rw [if_neg hn] at hj
    have:(nOf (knownM m).2.2.2.2.1 j == 1099511627776)=false:=by simpa using hn
    rw [this]
    exact hj
 ·exact(put_e1 _ _ _ _ _ _).trans (key 1 _ (hD _) h2)
 ·exact(put_e2 _ _ _ _ _ _).trans (key 2 _ (hD _) h2)
 ·exact(put_e3 _ _ _ _ _ _).trans (key 3 _ (hD _) h2)
 ·exact(put_e4 _ _ _ _ _ _).trans (key 4 _ (hD _) h2)
 ·exact(put_e5 _ _ _ _ _ _).trans (key 5 _ (hD _) h2)
end Go.Proofs.Ytkeedfiffjpnfaa.X
end
section
set_option linter.unusedVariables false
set_option linter.unusedSimpArgs false
namespace Go.Proofs.Ytkeedfiffjpnfaa.X
open Go Go.RowKit
set_option maxRecDepth 100000
set_option maxHeartbeats 4000000
set_option linter.unusedVariables false
set_option linter.unusedSimpArgs false
abbrev NX:=MT × ST × Bool × Unit
abbrev RX:RD:=.many [DM,.ag KS,.sc .bool]
abbrev alN (D:MT→Bool) (M:MT) (Bf:ST→ST→Bool):FuncId→Option Alt:=fun f=>match f with
  | 27=>some ⟨[DM],.one DM,fun x=>.fk (D x.1) (.yes M) .no⟩
  | 13=>some ⟨[.ag KS,.ag KS],.one (.sc .bool),fun x=>.fk (Bf x.1 x.2.1) (.yes true) (.yes false)⟩
  | _=>none
theorem xN_ok {D:MT→Bool} {M:MT} (h:∀ m,D m=true→knownM m=M):XOk Try.prog (mka sp0 (alN D M bef)):=mka_ok x0_ok (fun f a ha=>by
 simp only [alN] at ha
 split at ha
 ·obtain rfl:=Option.some.inj ha
  refine spec_le s27 fun x r hr=>?_
  obtain⟨m,⟨⟩⟩:=x
  have hr':(bif D m then some M else none)=some r:=hr
  cases hD:D m with
  | true=>rw [hD] at hr';exact(congrArg some (h m hD)).trans hr'
  | false=>rw [hD] at hr';cases hr'
 ·obtain rfl:=Option.some.inj ha
  refine spec_le s13 fun x r hr=>?_
  obtain⟨a,b,⟨⟩⟩:=x
  have hr':(bif bef a b then some true else some false)=some r:=hr
  show some (bef a b)=some r
  rw [←hr'];cases bef a b<;>rfl
 ·cases ha)
def takeM (m:MT) (k:Nat) (s:ST) (q:List ST):MT:=(m.1,true,s,(setQ m q k).2.2.2.1,m.2.2.2.2.1,IntKind.i64.wrap (m.2.2.2.2.2.1+1),())
def hd (q:List ST) (f:ST→Option NX):Option NX:=bif inB 0 q.length then f (rd KS q (0:Int).toNat) else none
def nextT (M:MT) (k:Nat):Option NX:=hd (qOf M k) fun s =>
  bif decide ((0:Int)≤1) && (decide ((1:Int)≤(qOf M k).length) && decide (((qOf M k).length:Int)≤(qOf M k).length)) then some (takeM M k s (((qOf M k).take ((qOf M k).length:Int).toNat).drop (1:Int).toNat),s,true,()) else none
def nextE (M:MT):Option Nat→Bool→Option NX
  | none,_=>some (M,zeroS,false,())
  | some k,true=>nextT M k
  | some k,false=>hd (qOf M k) fun s=>bif decide (s.1 > M.1) then some (M,zeroS,false,()) else nextT M k
def nextGo (Bf:ST→ST→Bool) (M:MT):List Nat→Option Nat→Bool→Option NX
  | [],f,full=>nextE M f full
  | k :: ks,f,full=>bif ((qOf M k).length:Int) == 0 then nextGo Bf M ks f false else match f with
    | none=>nextGo Bf M ks (some k) full
    | some j=>hd (qOf M k) fun s=>hd (qOf M j) fun s'=>bif Bf s s' then nextGo Bf M ks (some k) full else nextGo Bf M ks (some j) full
abbrev mkM (mark:Int) (sm:Bool) (l:ST) (n:NT) (tk:Int) (q0 q1 q2 q3:List ST):MT:=(mark,sm,l,(q0,q1,q2,q3,()),n,tk,())
abbrev NextIs (M:MT):Prop:=∀ (D:MT→Bool) (Bf:ST→ST→Bool) (m:MT),fnx (mka sp0 (alN D M Bf)) L0 14 [DM] RX (m,())=(bif D m then nextGo Bf M [0,1,2,3] none true else none)
def nextO (m:MT):Option NX:=nextGo bef (knownM m) [0,1,2,3] none true
end Go.Proofs.Ytkeedfiffjpnfaa.X
end
section
set_option linter.unusedVariables false
set_option linter.unusedSimpArgs false
namespace Go.Proofs.Ytkeedfiffjpnfaa.X
open Go Go.RowKit
set_option maxRecDepth 100000
set_option maxHeartbeats 4000000
set_option linter.unusedVariables false
set_option linter.unusedSimpArgs false
abbrev RA:RD:=.many [DM,.sc KQ]
abbrev spG (Nx:MT→Option NX):FuncId→Option Spec:=fun f=>match f with
  | 14=>some ⟨[DM],RX,fun x=>Nx x.1⟩
  | _=>none
abbrev dead12a:List Nat:=[0,3,5,6,7,8,9,10,11,12,13,14,15,16,17,18,19,20,21,22]
abbrev sk12a:StSk:=⟨[.junk,.ptr 0 0,.ptr 1 0,.junk,.nil,.junk,.junk,.junk,.junk,.junk,.junk,.junk,.junk,.junk,.junk,.junk,.junk,.junk,.junk,.junk,.junk,.junk,.junk],[some (.cells [.int .i64,.bool,.int .i64,.int .i64,.int .i64,.int .i64,.int .i64,.seq KS,.seq KS,.seq KS,.seq KS,.int .i64,.int .i64,.int .i64,.int .i64,.int .i64,.int .i64,.int .i64,.int .i64]),some (.cells [.int .i64,.bool,.int .i64,.int .i64,.int .i64,.int .i64,.int .i64,.nil,.nil,.nil,.nil,.int .i64,.int .i64,.int .i64,.int .i64,.int .i64,.int .i64,.int .i64,.int .i64])]⟩
structure D12a where
  b0:MT
  b1_0:Int
  b1_1:Bool
  b1_2:Int
  b1_3:Int
  b1_4:Int
  b1_5:Int
  b1_6:Int
  b1_11:Int
  b1_12:Int
  b1_13:Int
  b1_14:Int
  b1_15:Int
  b1_16:Int
  b1_17:Int
  b1_18:Int
abbrev fm12a (x:D12a):St:=⟨[.junk,.ptr 0 0,.ptr 1 0,.junk,.v (.slice none 0 0),.junk,.junk,.junk,.junk,.junk,.junk,.junk,.junk,.junk,.junk,.junk,.junk,.junk,.junk,.junk,.junk,.junk,.junk],[some (true,.cells (Kd.cells KM x.b0)),some (true,.cells [.v (.int .i64 x.b1_0),.v (.bool x.b1_1),.v (.int .i64 x.b1_2),.v (.int .i64 x.b1_3),.v (.int .i64 x.b1_4),.v (.int .i64 x.b1_5),.v (.int .i64 x.b1_6),.v (.slice none 0 0),.v (.slice none 0 0),.v (.slice none 0 0),.v (.slice none 0 0),.v (.int .i64 x.b1_11),.v (.int .i64 x.b1_12),.v (.int .i64 x.b1_13),.v (.int .i64 x.b1_14),.v (.int .i64 x.b1_15),.v (.int .i64 x.b1_16),.v (.int .i64 x.b1_17),.v (.int .i64 x.b1_18)])]⟩
def un12a (x:sk12a.T):D12a:=match x with
  | ((_,_,_,_,_,_,_,_,_,_,_,_,_,_,_,_,_,_,_,_,_,_,_,_),((b0_0,b0_1,b0_2,b0_3,b0_4,b0_5,b0_6,b0_7,b0_8,b0_9,b0_10,b0_11,b0_12,b0_13,b0_14,b0_15,b0_16,b0_17,b0_18,_),(b1_0,b1_1,b1_2,b1_3,b1_4,b1_5,b1_6,_,_,_,_,b1_11,b1_12,b1_13,b1_14,b1_15,b1_16,b1_17,b1_18,_),_))=>⟨(b0_0,b0_1,(b0_2,b0_3,(b0_4,b0_5,b0_6,()),()),(b0_7,b0_8,b0_9,b0_10,()),(b0_11,b0_12,b0_13,b0_14,b0_15,b0_16,b0_17,()),b0_18,()),b1_0,b1_1,b1_2,b1_3,b1_4,b1_5,b1_6,b1_11,b1_12,b1_13,b1_14,b1_15,b1_16,b1_17,b1_18⟩
theorem un12a_ok (x:sk12a.T):sk12a.fill x=fm12a (un12a x):=by kernel_rfl
abbrev dead12b:List Nat:=[0,3,5,6,7,8,9,10,11,12,13,14,15,16,17,18,19,20,21,22]
abbrev sk12b:StSk:=⟨[.junk,.ptr 0 0,.ptr 1 0,.junk,.own 2,.junk,.junk,.junk,.junk,.junk,.junk,.junk,.junk,.junk,.junk,.junk,.junk,.junk,.junk,.junk,.junk,.junk,.junk],[some (.cells [.int .i64,.bool,.int .i64,.int .i64,.int .i64,.int .i64,.int .i64,.seq KS,.seq KS,.seq KS,.seq KS,.int .i64,.int .i64,.int .i64,.int .i64,.int .i64,.int .i64,.int .i64,.int .i64]),some (.cells [.int .i64,.bool,.int .i64,.int .i64,.int .i64,.int .i64,.int .i64,.nil,.nil,.nil,.nil,.int .i64,.int .i64,.int .i64,.int .i64,.int .i64,.int .i64,.int .i64,.int .i64]),some (.row 24 KS)]⟩
structure D12b where
  b0:MT
  b1_0:Int
  b1_1:Bool
  b1_2:Int
  b1_3:Int
  b1_4:Int
  b1_5:Int
  b1_6:Int
  b1_11:Int
  b1_12:Int
  b1_13:Int
  b1_14:Int
  b1_15:Int
  b1_16:Int
  b1_17:Int
  b1_18:Int
  b2:List (ST)
abbrev fm12b (x:D12b):St:=⟨[.junk,.ptr 0 0,.ptr 1 0,.junk,.own 2,.junk,.junk,.junk,.junk,.junk,.junk,.junk,.junk,.junk,.junk,.junk,.junk,.junk,.junk,.junk,.junk,.junk,.junk],[some (true,.cells (Kd.cells KM x.b0)),some (true,.cells [.v (.int .i64 x.b1_0),.v (.bool x.b1_1),.v (.int .i64 x.b1_2),.v (.int .i64 x.b1_3),.v (.int .i64 x.b1_4),.v (.int .i64 x.b1_5),.v (.int .i64 x.b1_6),.v (.slice none 0 0),.v (.slice none 0 0),.v (.slice none 0 0),.v (.slice none 0 0),.v (.int .i64 x.b1_11),.v (.int .i64 x.b1_12),.v (.int .i64 x.b1_13),.v (.int .i64 x.b1_14),.v (.int .i64 x.b1_15),.v (.int .i64 x.b1_16),.v (.int .i64 x.b1_17),.v (.int .i64 x.b1_18)]),some (true,.row 24 KS x.b2)]⟩
def un12b (x:sk12b.T):D12b:=match x with
  | ((_,_,_,_,_,_,_,_,_,_,_,_,_,_,_,_,_,_,_,_,_,_,_,_),((b0_0,b0_1,b0_2,b0_3,b0_4,b0_5,b0_6,b0_7,b0_8,b0_9,b0_10,b0_11,b0_12,b0_13,b0_14,b0_15,b0_16,b0_17,b0_18,_),(b1_0,b1_1,b1_2,b1_3,b1_4,b1_5,b1_6,_,_,_,_,b1_11,b1_12,b1_13,b1_14,b1_15,b1_16,b1_17,b1_18,_),b2,_))=>⟨(b0_0,b0_1,(b0_2,b0_3,(b0_4,b0_5,b0_6,()),()),(b0_7,b0_8,b0_9,b0_10,()),(b0_11,b0_12,b0_13,b0_14,b0_15,b0_16,b0_17,()),b0_18,()),b1_0,b1_1,b1_2,b1_3,b1_4,b1_5,b1_6,b1_11,b1_12,b1_13,b1_14,b1_15,b1_16,b1_17,b1_18,b2⟩
theorem un12b_ok (x:sk12b.T):sk12b.fill x=fm12b (un12b x):=by kernel_rfl
abbrev dead12x:List Nat:=[0,1,4,5,6,7,8,9,10,11,12,13,14,15,16,17,18,19,20,21,22]
abbrev fx12n (m:MT):St:=⟨[.junk,.junk,.ptr 0 0,.v (.slice none 0 0),.junk,.junk,.junk,.junk,.junk,.junk,.junk,.junk,.junk,.junk,.junk,.junk,.junk,.junk,.junk,.junk,.junk,.junk,.junk],[some (true,.cells (Kd.cells KM m))]⟩
abbrev fx12o (m:MT) (l:List ST):St:=⟨[.junk,.junk,.ptr 0 0,.own 1,.junk,.junk,.junk,.junk,.junk,.junk,.junk,.junk,.junk,.junk,.junk,.junk,.junk,.junk,.junk,.junk,.junk,.junk,.junk],[some (true,.cells (Kd.cells KM m)),some (true,.row 24 KS l)]⟩
noncomputable def rnd12a {R:Type} (Nx:MT→Option NX) (fx:MT→St) (m:MT) (N:MT→ST→Option R) (E:Ex→St→Option R):Option R :=
  (Nx m).bind fun r=>bif !r.2.2.1 then E .ret (fx r.1) else bif room tis 24 (0+1) then N r.1 r.2.1 else none
noncomputable def rnd12b {R:Type} (Nx:MT→Option NX) (fx:MT→List ST→St) (x:D12b) (N:D12b→Option R) (E:Ex→St→Option R):Option R :=
  (Nx x.b0).bind fun r=>bif !r.2.2.1 then E .ret (fx r.1 x.b2) else bif room tis 24 (x.b2.length+1) then N { x with b0:=r.1,b2:=x.b2++[r.2.1] } else none
theorem round12a {R:Type} {lps:Lps R} (Nx:MT→Option NX) (x:D12a) (N:Option St→Option R) (E:Ex→Option St→Option R) :
  roundx (codex (mk (spG Nx)) lps (callN (mk (spG Nx)) 20) 12 (loopAt (mk (spG Nx)) 12 0)) (headx dead12b) (headx dead12x) (fm12a x) N E=rnd12a Nx fx12n x.b0 (fun m s=>N (some (fm12b ⟨m,x.b1_0,x.b1_1,x.b1_2,x.b1_3,x.b1_4,x.b1_5,x.b1_6,x.b1_11,x.b1_12,x.b1_13,x.b1_14,x.b1_15,x.b1_16,x.b1_17,x.b1_18,[s]⟩))) (fun e s=>E e (some s)):=by
 kernel_rfl
theorem round12b {R:Type} {lps:Lps R} (Nx:MT→Option NX) (x:D12b) (N:Option St→Option R) (E:Ex→Option St→Option R) :
  roundx (codex (mk (spG Nx)) lps (callN (mk (spG Nx)) 20) 12 (loopAt (mk (spG Nx)) 12 0)) (headx dead12b) (headx dead12x) (fm12b x) N E=rnd12b Nx fx12o x (fun x'=>N (some (fm12b x'))) (fun e s=>E e (some s)):=by
 kernel_rfl
end Go.Proofs.Ytkeedfiffjpnfaa.X
end
