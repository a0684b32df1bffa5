/- Lemmas of the rows, laid by a program. -/
import Derived.Test.YtgmkppeghnlcmaaYM8
section
set_option linter.unusedVariables false
set_option linter.unusedSimpArgs false
namespace Go.Proofs.Ytgmkppeghnlcmaa.X
open Go Go.Proofs Go.RowKit
set_option maxRecDepth 100000
theorem run12_ftff (F:Fn2) (t n o q0 q1 q2 q3 w0 w1 w2:Int) (a b c d e:Int) (a1 b1 c1 d1 e1:Int) (a2 b2 c2 d2 e2:Int) :
  fnx (xW F) nol 12 [.ag kSt] (.row 40 kU) ((t,n,o,((q0,q1,q2,q3,()),(w0,w1,w2,()),false,()),((a,b,c,d,e,true,()),(a1,b1,c1,d1,e1,false,()),(a2,b2,c2,d2,e2,false,()),()),()),())=bif !F.sane (t,n,o,((q0,q1,q2,q3,()),(w0,w1,w2,()),false,()),((a,b,c,d,e,true,()),(a1,b1,c1,d1,e1,false,()),(a2,b2,c2,d2,e2,false,()),()),()) then some [] else some (bodyW (orU (outU o) (bitU 1)) t n q0 q1 q2 q3 w0 w1 w2 a b c d e a1 b1 c1 d1 e1 a2 b2 c2 d2 e2++[F.sum (bodyW (orU (outU o) (bitU 1)) t n q0 q1 q2 q3 w0 w1 w2 a b c d e a1 b1 c1 d1 e1 a2 b2 c2 d2 e2)]):=by
 kernel_rfl
theorem run12_ftft (F:Fn2) (t n o q0 q1 q2 q3 w0 w1 w2:Int) (a b c d e:Int) (a1 b1 c1 d1 e1:Int) (a2 b2 c2 d2 e2:Int) :
  fnx (xW F) nol 12 [.ag kSt] (.row 40 kU) ((t,n,o,((q0,q1,q2,q3,()),(w0,w1,w2,()),false,()),((a,b,c,d,e,true,()),(a1,b1,c1,d1,e1,false,()),(a2,b2,c2,d2,e2,true,()),()),()),())=bif !F.sane (t,n,o,((q0,q1,q2,q3,()),(w0,w1,w2,()),false,()),((a,b,c,d,e,true,()),(a1,b1,c1,d1,e1,false,()),(a2,b2,c2,d2,e2,true,()),()),()) then some [] else some (bodyW (orU (orU (outU o) (bitU 1)) (bitU 3)) t n q0 q1 q2 q3 w0 w1 w2 a b c d e a1 b1 c1 d1 e1 a2 b2 c2 d2 e2++[F.sum (bodyW (orU (orU (outU o) (bitU 1)) (bitU 3)) t n q0 q1 q2 q3 w0 w1 w2 a b c d e a1 b1 c1 d1 e1 a2 b2 c2 d2 e2)]):=by
 kernel_rfl
theorem run12_fttf (F:Fn2) (t n o q0 q1 q2 q3 w0 w1 w2:Int) (a b c d e:Int) (a1 b1 c1 d1 e1:Int) (a2 b2 c2 d2 e2:Int) :
  fnx (xW F) nol 12 [.ag kSt] (.row 40 kU) ((t,n,o,((q0,q1,q2,q3,()),(w0,w1,w2,()),false,()),((a,b,c,d,e,true,()),(a1,b1,c1,d1,e1,true,()),(a2,b2,c2,d2,e2,false,()),()),()),())=bif !F.sane (t,n,o,((q0,q1,q2,q3,()),(w0,w1,w2,()),false,()),((a,b,c,d,e,true,()),(a1,b1,c1,d1,e1,true,()),(a2,b2,c2,d2,e2,false,()),()),()) then some [] else some (bodyW (orU (orU (outU o) (bitU 1)) (bitU 2)) t n q0 q1 q2 q3 w0 w1 w2 a b c d e a1 b1 c1 d1 e1 a2 b2 c2 d2 e2++[F.sum (bodyW (orU (orU (outU o) (bitU 1)) (bitU 2)) t n q0 q1 q2 q3 w0 w1 w2 a b c d e a1 b1 c1 d1 e1 a2 b2 c2 d2 e2)]):=by
 kernel_rfl
theorem run12_fttt (F:Fn2) (t n o q0 q1 q2 q3 w0 w1 w2:Int) (a b c d e:Int) (a1 b1 c1 d1 e1:Int) (a2 b2 c2 d2 e2:Int) :
  fnx (xW F) nol 12 [.ag kSt] (.row 40 kU) ((t,n,o,((q0,q1,q2,q3,()),(w0,w1,w2,()),false,()),((a,b,c,d,e,true,()),(a1,b1,c1,d1,e1,true,()),(a2,b2,c2,d2,e2,true,()),()),()),())=bif !F.sane (t,n,o,((q0,q1,q2,q3,()),(w0,w1,w2,()),false,()),((a,b,c,d,e,true,()),(a1,b1,c1,d1,e1,true,()),(a2,b2,c2,d2,e2,true,()),()),()) then some [] else some (bodyW (orU (orU (orU (outU o) (bitU 1)) (bitU 2)) (bitU 3)) t n q0 q1 q2 q3 w0 w1 w2 a b c d e a1 b1 c1 d1 e1 a2 b2 c2 d2 e2++[F.sum (bodyW (orU (orU (orU (outU o) (bitU 1)) (bitU 2)) (bitU 3)) t n q0 q1 q2 q3 w0 w1 w2 a b c d e a1 b1 c1 d1 e1 a2 b2 c2 d2 e2)]):=by
 kernel_rfl
end Go.Proofs.Ytgmkppeghnlcmaa.X
end
