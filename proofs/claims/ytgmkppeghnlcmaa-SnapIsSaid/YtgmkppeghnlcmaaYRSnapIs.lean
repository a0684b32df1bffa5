/- For every input the law SnapIs of the given program returns true and leaves its arguments as they were; no condition. -/
import Derived.Test.YtgmkppeghnlcmaaRows
import Derived.Test.YtgmkppeghnlcmaaYM6
import Derived.Test.YtgmkppeghnlcmaaYRSnapIsM0
import Derived.WalkKit
import Derived.ProofKit
import Derived.OpenShut
import Derived.ShutString
import Derived.ChangeOld
import Derived.Below
import Derived.SizedLaws
import Derived.Carry
import Derived.Lib.SmallJoins
namespace Go.Proofs.Ytgmkppeghnlcmaa.snapIs
open Go Go.ChangeShapes Go.WideShapes Go.ChangeAt Go.RowKit Go.Joins Go.Proofs.Ytgmkppeghnlcmaa.X
set_option linter.unusedVariables false
set_option linter.unusedSimpArgs false
theorem own:ownKnob Try.prog.godebug=none:=by kernel_rfl
theorem laid:laidOutB Try.prog=true:=by kernel_rfl
set_option maxRecDepth 100000 in
theorem lifted (os:Os) (started:os.Started) (H:Type) (enc:TypeId × Value→H) :
  ReturnsInHanded {} Try.checked os 3 .any (Rows.snapIsSpec.pre6 enc Try.prog Try.f3 Rows.snapIsRow.domain false) (Rows.snapIsSpec.post enc Try.prog Try.f3 false true false false):=by
 refine returnsInHanded_of_change_sized (C:=Try.checked) own started (by kernel_rfl) Try.func3
  (ChangeSpec.witness6 (enc:=enc) (C:=Try.checked) false ⟨#[],#[.agg #[.int .i64 (0),.int .i64 (0),.int .i64 (0),.int .i64 (0),.int .i64 (0),.int .i64 (0),.int .i64 (0),.int .i64 (0),.int .i64 (0),.int .i64 (0),.bool false,.int .i64 (0),.int .i64 (0),.int .i64 (0),.int .i64 (0),.int .i64 (0),.bool false,.int .i64 (0),.int .i64 (0),.int .i64 (0),.int .i64 (0),.int .i64 (0),.bool false,.int .i64 (0),.int .i64 (0),.int .i64 (0),.int .i64 (0),.int .i64 (0),.bool false],.slice none 0 0],[]⟩ 8 (by kernel_rfl) (by kernel_rfl) (by kernel_rfl) (by kernel_rfl)) ?_
 intro W base args ds gs before hval0 hW hcnd hsz0 _
 have hval:∀ (j:Nat) t v,Try.f3.params[j]? = some t→args[j]? = some v→Value.okWide Try.prog W .any base t v:=hval0
 have hW':=hW
 obtain⟨p,q,hA0,hV,rfl,hfz,hnd⟩:=hW
 have hA:DataW.TrodAll enc Try.prog W 0 (fun _=>true) true Try.f3.params.toList args.toList ds p:=hA0
 rw [Try.params3] at hA hval
 obtain⟨v0,vs0,d0,ds0,p0,q0,hargs,rfl,rfl,h0,r0⟩:=trodAll_cons hA
 obtain⟨v1,vs1,d1,ds1,p1,q1,rfl,rfl,rfl,h1,r1⟩:=trodAll_cons r0
 obtain⟨rfl,rfl,rfl⟩:=trodAll_nil r1
 obtain rfl:args=#[v0,v1]:=by cases args;simp_all
 obtain⟨rfl,rfl⟩:=trodVars_none hV
 have lt0:∀ x ∈ p0,x.block<W.heap.size:=fun x hx=>hW'.lt x (by simp [hx])
 obtain⟨x0,rep0,wf0⟩:=arg_rep (T:=tis) (TOk.of_range tis_ok) (show dsC tis 30=some _ from by kernel_rfl) (hval 0 30 v0 rfl rfl) h0
 have lt1:∀ x ∈ p1,x.block<W.heap.size:=fun x hx=>hW'.lt x (by simp [hx])
 obtain⟨x1,rep1,wf1⟩:=arg_rep (T:=tis) (TOk.of_range tis_ok) (show dsC tis 31=some _ from by kernel_rfl) (hval 1 31 v1 rfl rfl) h1
 have hc:=Go.Proofs.Ytgmkppeghnlcmaa.W.law_Is.calls noBad W (x0,x1,()) [v0,v1] true (fun g h=>h.elim) (by simp only [svs,SReps];exact⟨v0,_,rfl,rep0,⟨v1,_,rfl,rep1,rfl⟩⟩) (Go.Proofs.Ytgmkppeghnlcmaa.W.lem_Is (x0,x1,()) ⟨wf0,⟨wf1,trivial⟩⟩)
 refine hc.mono fun e W' ⟨V,he,hV,bel⟩=>?_
 subst he
 obtain rfl:V=.bool true:=ret_bool hV
 exact⟨_,rfl,_,_,_,[],_,[],hW',trodAll_mk1 (shut_bool Try.underlying4 _),(trodAll_cons_mk (Below.trod laid (by kernel_rfl) (of_decide_eq_true (by kernel_rfl)) h0 bel lt0) (trodAll_cons_mk (Below.trod laid (by kernel_rfl) (of_decide_eq_true (by kernel_rfl)) h1 bel lt1) trodAll_mk0)),rfl,bel.frame _,fun h=>by cases h⟩
theorem over:Rows.snapIsRow.holds Try.pinned (OpenSpec.ofChange Rows.snapIsSpec) :=
 OpenClaim.holds_of_wide 3 Try.f3 rfl rfl rfl rfl rfl rfl rfl ⟨rfl,rfl,rfl,rfl,rfl⟩ rfl rfl rfl rfl rfl (by kernel_rfl) Try.func3 (by kernel_rfl)
  (of_decide_eq_true (by kernel_rfl)) (by unfold Func.isWrapper;first|(rw [if_pos (by decide +kernel)];kernel_rfl)|(rw [if_neg (by decide +kernel)];exact⟨rfl,rfl⟩))
  (fun os started H enc _=>lifted os started H enc)
theorem proved:Rows.SnapIsSaid:=over
#print axioms proved
end Go.Proofs.Ytgmkppeghnlcmaa.snapIs
namespace Go.Proofs.Ytgmkppeghnlcmaa
theorem snapIs_holds:Rows.SnapIsSaid:=snapIs.proved
end Go.Proofs.Ytgmkppeghnlcmaa
