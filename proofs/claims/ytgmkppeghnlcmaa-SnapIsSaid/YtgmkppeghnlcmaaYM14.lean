/- Lemmas of the rows, laid by a program. -/
import Derived.Test.YtgmkppeghnlcmaaYM10
import Derived.Test.YtgmkppeghnlcmaaYM11
import Derived.Test.YtgmkppeghnlcmaaYM12
import Derived.Test.YtgmkppeghnlcmaaYM13
import Derived.Test.YtgmkppeghnlcmaaYM8
section
set_option linter.unusedVariables false
set_option linter.unusedSimpArgs false
namespace Go.Proofs.Ytgmkppeghnlcmaa.X
open Go Go.Proofs Go.RowKit
set_option maxRecDepth 100000
def addU (b:Bool) (th i:Int):Int:=bif b then orU th (bitU i) else th
def thirdS (o:Int) (p a b c:Bool):Int:=addU c (addU b (addU a (addU p (outU o) 0) 1) 2) 3
def wordsB (x:STT):List Int:=match x with
  | (t,n,o,((q0,q1,q2,q3,_),(w0,w1,w2,_),pb,_),((a,b,c,d,e,ab,_),(a1,b1,c1,d1,e1,ab1,_),(a2,b2,c2,d2,e2,ab2,_),_),_) =>
    bodyW (thirdS o pb ab ab1 ab2) t n q0 q1 q2 q3 w0 w1 w2 a b c d e a1 b1 c1 d1 e1 a2 b2 c2 d2 e2
def wordsS (F:Fn2) (x:STT):List Int:=wordsB x++[F.sum (wordsB x)]
def g12 (F:Fn2) (x:DsT [.ag kSt]):Option (List Int):=bif !F.sane x.1 then some [] else some (wordsS F x.1)
theorem run12 (F:Fn2) (x:DsT [.ag kSt]):fnx (xW F) nol 12 [.ag kSt] (.row 40 kU) x=g12 F x:=by
 obtain⟨⟨t,n,o,⟨⟨q0,q1,q2,q3,⟨⟩⟩,⟨w0,w1,w2,⟨⟩⟩,pb,⟨⟩⟩,⟨⟨a,b,c,d,e,ab,⟨⟩⟩,⟨a1,b1,c1,d1,e1,ab1,⟨⟩⟩,⟨a2,b2,c2,d2,e2,ab2,⟨⟩⟩,⟨⟩⟩,⟨⟩⟩,⟨⟩⟩:=x
 cases pb<;>cases ab<;>cases ab1<;>cases ab2
 ·exact run12_ffff F t n o q0 q1 q2 q3 w0 w1 w2 a b c d e a1 b1 c1 d1 e1 a2 b2 c2 d2 e2
 ·exact run12_ffft F t n o q0 q1 q2 q3 w0 w1 w2 a b c d e a1 b1 c1 d1 e1 a2 b2 c2 d2 e2
 ·exact run12_fftf F t n o q0 q1 q2 q3 w0 w1 w2 a b c d e a1 b1 c1 d1 e1 a2 b2 c2 d2 e2
 ·exact run12_fftt F t n o q0 q1 q2 q3 w0 w1 w2 a b c d e a1 b1 c1 d1 e1 a2 b2 c2 d2 e2
 ·exact run12_ftff F t n o q0 q1 q2 q3 w0 w1 w2 a b c d e a1 b1 c1 d1 e1 a2 b2 c2 d2 e2
 ·exact run12_ftft F t n o q0 q1 q2 q3 w0 w1 w2 a b c d e a1 b1 c1 d1 e1 a2 b2 c2 d2 e2
 ·exact run12_fttf F t n o q0 q1 q2 q3 w0 w1 w2 a b c d e a1 b1 c1 d1 e1 a2 b2 c2 d2 e2
 ·exact run12_fttt F t n o q0 q1 q2 q3 w0 w1 w2 a b c d e a1 b1 c1 d1 e1 a2 b2 c2 d2 e2
 ·exact run12_tfff F t n o q0 q1 q2 q3 w0 w1 w2 a b c d e a1 b1 c1 d1 e1 a2 b2 c2 d2 e2
 ·exact run12_tfft F t n o q0 q1 q2 q3 w0 w1 w2 a b c d e a1 b1 c1 d1 e1 a2 b2 c2 d2 e2
 ·exact run12_tftf F t n o q0 q1 q2 q3 w0 w1 w2 a b c d e a1 b1 c1 d1 e1 a2 b2 c2 d2 e2
 ·exact run12_tftt F t n o q0 q1 q2 q3 w0 w1 w2 a b c d e a1 b1 c1 d1 e1 a2 b2 c2 d2 e2
 ·exact run12_ttff F t n o q0 q1 q2 q3 w0 w1 w2 a b c d e a1 b1 c1 d1 e1 a2 b2 c2 d2 e2
 ·exact run12_ttft F t n o q0 q1 q2 q3 w0 w1 w2 a b c d e a1 b1 c1 d1 e1 a2 b2 c2 d2 e2
 ·exact run12_tttf F t n o q0 q1 q2 q3 w0 w1 w2 a b c d e a1 b1 c1 d1 e1 a2 b2 c2 d2 e2
 ·exact run12_tttt F t n o q0 q1 q2 q3 w0 w1 w2 a b c d e a1 b1 c1 d1 e1 a2 b2 c2 d2 e2
end Go.Proofs.Ytgmkppeghnlcmaa.X
end
section
set_option linter.unusedVariables false
set_option linter.unusedSimpArgs false
namespace Go.Proofs.Ytgmkppeghnlcmaa.X
open Go Go.Proofs Go.RowKit
set_option maxRecDepth 100000
abbrev iW (x:Int):Int:=IntKind.i64.wrap x
def shU (x:Int):Int:=x.fdiv (2^min (Int.toNat 4) IntKind.u64.bits)
def flU (x i:Int):Bool:=IntKind.u64.wrap (BitVec.ofInt IntKind.u64.bits (x.fdiv (2^min (Int.toNat i) IntKind.u64.bits)) &&& BitVec.ofInt IntKind.u64.bits 1).toNat == 1
def zeroS:STT:=(0,0,0,((0,0,0,0,()),(0,0,0,()),false,()),((0,0,0,0,0,false,()),(0,0,0,0,0,false,()),(0,0,0,0,0,false,()),()),())
def readS (l0 l1 l2 l3 l4 l5 l6 l7 l8 l9 l10 l11 l12 l13 l14 l15 l16 l17 l18 l19 l20 l21 l22 l23 l24 l25:Int):STT:=(iW l0,iW l1,iW (shU l2),((iW l3,iW l4,iW l5,iW l6,()),(iW l7,iW l8,iW l9,()),flU l2 0,()),((iW l10,iW l11,iW l12,iW l13,iW l14,flU l2 1,()),(iW l15,iW l16,iW l17,iW l18,iW l19,flU l2 2,()),(iW l20,iW l21,iW l22,iW l23,iW l24,flU l2 3,()),()),())
theorem run9_26 (F:Fn2) (l0 l1 l2 l3 l4 l5 l6 l7 l8 l9 l10 l11 l12 l13 l14 l15 l16 l17 l18 l19 l20 l21 l22 l23 l24 l25:Int) :
  runx (xW F) nol 9 [.seq kU [l0,l1,l2,l3,l4,l5,l6,l7,l8,l9,l10,l11,l12,l13,l14,l15,l16,l17,l18,l19,l20,l21,l22,l23,l24,l25]] (.many [.ag kSt,.sc kI])=bif F.sum [l0,l1,l2,l3,l4,l5,l6,l7,l8,l9,l10,l11,l12,l13,l14,l15,l16,l17,l18,l19,l20,l21,l22,l23,l24] != l25 then some (zeroS,(2:Int),()) else bif !F.sane (readS l0 l1 l2 l3 l4 l5 l6 l7 l8 l9 l10 l11 l12 l13 l14 l15 l16 l17 l18 l19 l20 l21 l22 l23 l24 l25) then some (zeroS,(1:Int),()) else some (readS l0 l1 l2 l3 l4 l5 l6 l7 l8 l9 l10 l11 l12 l13 l14 l15 l16 l17 l18 l19 l20 l21 l22 l23 l24 l25,(0:Int),()):=by
 kernel_rfl
end Go.Proofs.Ytgmkppeghnlcmaa.X
end
section
set_option linter.unusedVariables false
set_option linter.unusedSimpArgs false
namespace Go.Proofs.Ytgmkppeghnlcmaa.X
open Go Go.Proofs Go.RowKit
set_option maxRecDepth 100000
def o9_0_0:Oper:={ dst:=some 1,op:=Go.Op.box 31 (Go.Operand.tmp 0),type:=0,pos := "snap.go:67", after:=#[],guard:=none }
def o9_0_1:Oper:={ dst:=some 2,op:=Go.Op.alloc 30,type:=0,pos := "snap.go:67", after:=#[],guard:=none }
def o9_0_2:Oper:={ dst:=some 3,op:=Go.Op.assign (Go.Operand.const (Go.Value.int Go.IntKind.i64 0)),type:=33,pos := "snap.go:67", after:=#[],guard:=none }
def o9_0:Array Oper:=#[o9_0_0,o9_0_1,o9_0_2]
def o9_1_0:Oper:={ dst:=some 9,op:=Go.Op.load 31 (Go.Operand.tmp 1),type:=31,pos := "snap.go:68", after:=#[],guard:=none }
def o9_1_1:Oper:={ dst:=some 10,op:=Go.Op.call { callee:=Go.Callee.builtin Go.Builtin.len,args:=#[Go.Operand.tmp 9],argTypes:=#[31] },type:=3,pos := "snap.go:68", after:=#[{ on:=0,ground:=Go.Ground.data }],guard:=none }
def o9_1_2:Oper:={ dst:=some 11,op:=Go.Op.binOp Go.BinOp.neq 3 (Go.Operand.tmp 10) (Go.Operand.const (Go.Value.int Go.IntKind.i64 26)) 3,type:=4,pos := "snap.go:68", after:=#[{ on:=1,ground:=Go.Ground.data }],guard:=none }
def o9_1:Array Oper:=#[o9_1_0,o9_1_1,o9_1_2]
def o9_2_0:Oper:={ dst:=some 12,op:=Go.Op.build 30 #[],type:=30,pos := "snap.go:69", after:=#[],guard:=none }
def o9_2_1:Oper:={ dst:=none,op:=Go.Op.store 30 (Go.Operand.tmp 2) (Go.Operand.tmp 12),type:=0,pos := "snap.go:69", after:=#[{ on:=0,ground:=Go.Ground.data },{ on:=0,ground:=Go.Ground.phase }],guard:=none }
def o9_2_2:Oper:={ dst:=some 3,op:=Go.Op.assign (Go.Operand.const (Go.Value.int Go.IntKind.i64 5)),type:=33,pos := "snap.go:69", after:=#[{ on:=1,ground:=Go.Ground.chain },{ on:=0,ground:=Go.Ground.phase },{ on:=1,ground:=Go.Ground.phase }],guard:=none }
def o9_2:Array Oper:=#[o9_2_0,o9_2_1,o9_2_2]
abbrev head9 (rest:Code):Code:=(Go.Code.region 0 o9_0 false).seq (((Go.Code.region 1 o9_1 false).seq (Go.Code.cond (Go.Operand.tmp 11) ((Go.Code.region 2 o9_2 false).seq Go.Code.ret) Go.Code.skip)).seq rest)
noncomputable def rest9:Code:=match Try.f9.body with|some (.seq _ (.seq _ c))=>c|_=>.skip
theorem b9:Try.f9.body=some (head9 rest9):=by kernel_rfl
abbrev R9:RD:=.many [.ag kSt,.sc kI]
theorem run9_len (F:Fn2) (l:List Int) (rest:Code):codex (xW F) (R:=R9.T) nol (callN (xW F) 20) 9 (head9 rest) (startx Try.f9 [.seq kU l] []) (endx (xW F).T Try.f9 fun v m=>R9.parse m true v) =
  bif ((List.length (α:=Int) l:Int) != 26) then some (zeroS,(5:Int),()) else codex (xW F) (R:=R9.T) nol (callN (xW F) 20) 9 rest ⟨[.seq kU l,.ptr 0 0,.ptr 1 0,.v (.int .i64 0),.junk,.junk,.junk,.junk,.junk,.seq kU l,.v (.int .i64 (List.length (α:=Int) l:Int)),.v (.bool ((List.length (α:=Int) l:Int) != 26))]++List.replicate 48 .junk,
   [some (true,.cells [.seq kU l]),some (true,.cells (Kd.cells kSt zeroS))]⟩ (endx (xW F).T Try.f9 fun v m=>R9.parse m true v):=by
 kernel_rfl
theorem len26 (l:List Int) (h:l.length=26):∃ l0 l1 l2 l3 l4 l5 l6 l7 l8 l9 l10 l11 l12 l13 l14 l15 l16 l17 l18 l19 l20 l21 l22 l23 l24 l25:Int,l=[l0,l1,l2,l3,l4,l5,l6,l7,l8,l9,l10,l11,l12,l13,l14,l15,l16,l17,l18,l19,l20,l21,l22,l23,l24,l25]:=by
 rcases l with _|⟨l0,l⟩
 ·simp at h
 rcases l with _|⟨l1,l⟩
 ·simp at h
 rcases l with _|⟨l2,l⟩
 ·simp at h
 rcases l with _|⟨l3,l⟩
 ·simp at h
 rcases l with _|⟨l4,l⟩
 ·simp at h
 rcases l with _|⟨l5,l⟩
 ·simp at h
 rcases l with _|⟨l6,l⟩
 ·simp at h
 rcases l with _|⟨l7,l⟩
 ·simp at h
 rcases l with _|⟨l8,l⟩
 ·simp at h
 rcases l with _|⟨l9,l⟩
 ·simp at h
 rcases l with _|⟨l10,l⟩
 ·simp at h
 rcases l with _|⟨l11,l⟩
 ·simp at h
 rcases l with _|⟨l12,l⟩
 ·simp at h
 rcases l with _|⟨l13,l⟩
 ·simp at h
 rcases l with _|⟨l14,l⟩
 ·simp at h
 rcases l with _|⟨l15,l⟩
 ·simp at h
 rcases l with _|⟨l16,l⟩
 ·simp at h
 rcases l with _|⟨l17,l⟩
 ·simp at h
 rcases l with _|⟨l18,l⟩
 ·simp at h
 rcases l with _|⟨l19,l⟩
 ·simp at h
 rcases l with _|⟨l20,l⟩
 ·simp at h
 rcases l with _|⟨l21,l⟩
 ·simp at h
 rcases l with _|⟨l22,l⟩
 ·simp at h
 rcases l with _|⟨l23,l⟩
 ·simp at h
 rcases l with _|⟨l24,l⟩
 ·simp at h
 rcases l with _|⟨l25,l⟩
 ·simp at h
 rcases l with _|⟨z,l⟩
 ·exact⟨l0,l1,l2,l3,l4,l5,l6,l7,l8,l9,l10,l11,l12,l13,l14,l15,l16,l17,l18,l19,l20,l21,l22,l23,l24,l25,rfl⟩
 ·simp at h
def readL (l:List Int):STT:=readS (l.getD 0 0) (l.getD 1 0) (l.getD 2 0) (l.getD 3 0) (l.getD 4 0) (l.getD 5 0) (l.getD 6 0) (l.getD 7 0) (l.getD 8 0) (l.getD 9 0) (l.getD 10 0) (l.getD 11 0) (l.getD 12 0) (l.getD 13 0) (l.getD 14 0) (l.getD 15 0) (l.getD 16 0) (l.getD 17 0) (l.getD 18 0) (l.getD 19 0) (l.getD 20 0) (l.getD 21 0) (l.getD 22 0) (l.getD 23 0) (l.getD 24 0) (l.getD 25 0)
def g9 (F:Fn2) (x:DsT [.sc (.sl kU)]):Option R9.T:=bif ((List.length (α:=Int) x.1:Int) != 26) then some (zeroS,(5:Int),()) else bif F.sum (List.take (α:=Int) 25 x.1) != List.getD (α:=Int) x.1 25 0 then some (zeroS,(2:Int),()) else bif !F.sane (readL x.1) then some (zeroS,(1:Int),()) else some (readL x.1,(0:Int),())
theorem run9 (F:Fn2) (x:DsT [.sc (.sl kU)]):fnx (xW F) nol 9 [.sc (.sl kU)] R9 x=g9 F x:=by
 obtain⟨l,⟨⟩⟩:=x
 by_cases h:List.length (α:=Int) l=26
 ·obtain⟨l0,l1,l2,l3,l4,l5,l6,l7,l8,l9,l10,l11,l12,l13,l14,l15,l16,l17,l18,l19,l20,l21,l22,l23,l24,l25,rfl⟩:=len26 l h
  exact(run9_26 F l0 l1 l2 l3 l4 l5 l6 l7 l8 l9 l10 l11 l12 l13 l14 l15 l16 l17 l18 l19 l20 l21 l22 l23 l24 l25).trans (by kernel_rfl)
 ·have e:fnx (xW F) nol 9 [.sc (.sl kU)] R9 (l,())=codex (xW F) (R:=R9.T) nol (callN (xW F) 20) 9 (head9 rest9) (startx Try.f9 [.seq kU l] []) (endx (xW F).T Try.f9 fun v m=>R9.parse m true v):=by kernel_rfl
  refine e.trans ((run9_len F l rest9).trans ?_)
  have h2:((List.length (α:=Int) l:Int) != 26)=true:=by
   rw [bne_iff_ne];intro h3;exact h (by exact_mod_cast h3)
  unfold g9
  rw [h2]
  rfl
end Go.Proofs.Ytgmkppeghnlcmaa.X
end
