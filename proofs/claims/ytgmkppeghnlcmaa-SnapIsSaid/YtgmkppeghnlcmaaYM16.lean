/- Lemmas of the rows, laid by a program. -/
import Derived.Test.YtgmkppeghnlcmaaYM15
section
set_option linter.unusedVariables false
set_option linter.unusedSimpArgs false
namespace Go.Proofs.Ytgmkppeghnlcmaa.W
open Go Go.Proofs Go.RowKit X
set_option maxRecDepth 100000
set_option linter.unusedVariables false
set_option linter.unusedSimpArgs false
noncomputable def sanS (x:STT):Bool:=saneF poS x
def sumW (l:List Int):Int:=sumL l 14695981039346656037
noncomputable abbrev F2:Fn2:=⟨sanS,sumW⟩
theorem xW_ok:XOk Try.prog (xW F2):=mki_ok (mk_ok (fun f s h=>by
  unfold spW at h
  split at h
  ·rename_i e;subst e;obtain rfl:=Option.some.inj h;exact Sane_ok
  ·split at h
   ·rename_i e;subst e;obtain rfl:=Option.some.inj h;exact s16s (mk_ok (sp:=fun _=>none) (fun _ _ h=>nomatch h))
   ·cases h)) (fun _ _ h=>nomatch h) (fun g i h=>by
  split at h
  ·rename_i e;subst e;obtain rfl:=Option.some.inj h;exact it29_ok
  ·cases h)
noncomputable def wrdS (x:STT):List Int:=bif sanS x then wordsS F2 x else []
theorem Words_eq (x:STT):fnx (xW F2) nol 12 [.ag X.kSt] (.row 40 X.kU) (x,())=some (wrdS x):=by
 refine(run12 F2 (x,())).trans ?_
 show(bif !sanS x then some [] else some (wordsS F2 x))=some (wrdS x)
 unfold wrdS
 cases sanS x<;>rfl
theorem Words_ok:SpecOk Try.prog 12 (sWords wrdS):=spec_run xW_ok (fun ⟨x,_⟩=>Words_eq x) ⟨_,_,rfl,rfl⟩
noncomputable def rd1 (l:List Int):STT:=bif (l.length:Int) != 26 then zeroS else bif sumW (l.take 25) != l.getD 25 0 then zeroS else bif !sanS (readL l) then zeroS else readL l
noncomputable def rd2 (l:List Int):Int:=bif (l.length:Int) != 26 then 5 else bif sumW (l.take 25) != l.getD 25 0 then 2 else bif !sanS (readL l) then 1 else 0
theorem Read_eq (l:List Int):fnx (xW F2) nol 9 [.sc (.sl X.kU)] R9 (l,())=some (rd1 l,rd2 l,()):=by
 refine(run9 F2 (l,())).trans ?_
 show(bif (l.length:Int) != 26 then some (zeroS,(5:Int),()) else bif sumW (l.take 25) != l.getD 25 0 then some (zeroS,(2:Int),()) else bif !sanS (readL l) then some (zeroS,(1:Int),()) else some (readL l,(0:Int),()))=some (rd1 l,rd2 l,())
 unfold rd1 rd2
 cases ((l.length:Int) != 26)<;>cases (sumW (l.take 25) != l.getD 25 0)<;>cases (sanS (readL l))<;>rfl
theorem Read_ok:SpecOk Try.prog 9 (sRead rd1 rd2):=spec_run xW_ok (fun ⟨l,_⟩=>Read_eq l) ⟨_,_,rfl,rfl⟩
noncomputable abbrev F3:FL:=⟨sanS,wrdS,rd1,rd2⟩
theorem tW0_ok:TabOk Try.prog (tW0 F3):=⟨Sane_ok,Words_ok,Read_ok,trivial⟩
end Go.Proofs.Ytgmkppeghnlcmaa.W
end
