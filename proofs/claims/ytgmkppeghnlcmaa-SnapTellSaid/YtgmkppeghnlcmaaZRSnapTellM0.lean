/- Lemmas of the rows, laid by a program. -/
import Derived.Test.YtgmkppeghnlcmaaZM16
import Derived.Test.YtgmkppeghnlcmaaZM19
section
set_option linter.unusedVariables false
set_option linter.unusedSimpArgs false
namespace Go.Proofs.Ytgmkppeghnlcmaa.W
open Go Go.Proofs Go.RowKit X
set_option maxRecDepth 100000
set_option linter.unusedVariables false
set_option linter.unusedSimpArgs false
def finT (x:STT) (a:List Int):Option Bool:=bif inB 0 a.length then (bif rdU a 0 == IntKind.u64.wrap x.1 then (bif inB 1 a.length then (bif rdU a 1 == IntKind.u64.wrap x.2.1 then (bif inB 2 a.length then some (IntKind.u64.wrap ((rdU a 2).tdiv 16) == IntKind.u64.wrap x.2.2.1) else none) else some false) else none) else some false) else none
def loopT (a b:List Int) (fin:Option Bool):List Nat→Option Bool
  | []=>fin
  | j :: js=>bif inB (j:Int) a.length then (bif inB (j:Int) b.length then (bif !((rdU a j == rdU b j) == (!Nat.beq j 2 && !Nat.beq j 25)) then some false else loopT a b fin js) else none) else none
def tellB (F:FL) (x y:STT):Option Bool :=
  bif !(((F.W x).length:Int) != 26) then (bif (((F.W y).length:Int) != 26) then (bif ((F.W x).length:Int) == 0 then some (((F.W y).length:Int) == 0) else some false) else loopT (F.W x) (F.W y) (finT x (F.W x)) (List.range 26)) else (bif ((F.W x).length:Int) == 0 then some (((F.W y).length:Int) == 0) else some false)
def flipP (x:STT):STT:=(x.1,x.2.1,x.2.2.1,(x.2.2.2.1.1,x.2.2.2.1.2.1,!x.2.2.2.1.2.2.1,()),x.2.2.2.2.1,())
def badA (x:STT):Nat→Bool
  | 0=>x.2.2.2.2.1.1.2.2.2.2.2.1
  | 1=>x.2.2.2.2.1.2.1.2.2.2.2.2.1
  | _=>x.2.2.2.2.1.2.2.1.2.2.2.2.2.1
def setA (a:Ax) (v:Bool):Ax:=(a.1,a.2.1,a.2.2.1,a.2.2.2.1,a.2.2.2.2.1,v,())
def flipA (x:STT) (i:Nat):Nat→STT
  | 0=>(x.1,x.2.1,x.2.2.1,x.2.2.2.1,(setA x.2.2.2.2.1.1 (!badA x i),x.2.2.2.2.1.2.1,x.2.2.2.2.1.2.2.1,()),())
  | 1=>(x.1,x.2.1,x.2.2.1,x.2.2.2.1,(x.2.2.2.2.1.1,setA x.2.2.2.2.1.2.1 (!badA x i),x.2.2.2.2.1.2.2.1,()),())
  | _=>(x.1,x.2.1,x.2.2.1,x.2.2.2.1,(x.2.2.2.2.1.1,x.2.2.2.2.1.2.1,setA x.2.2.2.2.1.2.2.1 (!badA x i),()),())
def iOf (k:Int):Int:=IntKind.i64.wrap ((BitVec.ofInt 64 k &&& BitVec.ofInt 64 3).toNat:Int)
noncomputable def body7:Code:=(Try.f7.body).getD .skip
noncomputable def left7:Code→Code
  | .seq a _=>a
  | _=>.skip
noncomputable def right7:Code→Code
  | .seq _ a=>a
  | _=>.skip
noncomputable def rest7:Code:=right7 (right7 (right7 (right7 (right7 body7))))
noncomputable def head7 (rest:Code):Code:=.seq (left7 body7) (.seq (left7 (right7 body7)) (.seq (left7 (right7 (right7 body7))) (.seq (left7 (right7 (right7 (right7 body7)))) (.seq (left7 (right7 (right7 (right7 (right7 body7))))) rest))))
theorem body7_is:Try.f7.body=some (head7 rest7):=by kernel_rfl
noncomputable def K7 (F:FL):Ex→St→Option Bool:=endx tis Try.f7 fun v m=>RD.parse m true (.one (.sc .bool)) v
def jnk (n:Nat):List SV:=List.replicate n .junk
theorem rest7_run (F:FL) (x y:STT) (d0 d1 d3 d4 d7 e1 e2 e3 e4 e5 e6 e7 e8 e9 e10 e11 e12 e13 e14 e15 e16 e17 e18 e19 e20 e21 e22:SV):codex (xL F) (R:=Bool) nol (callN (xL F) 20) 7 rest7 ⟨[d0,d1,.ptr 0 0,d3,d4,.v (.bool true),.ptr 1 0,d7,.junk,.junk,.junk,e1,e2,e3,e4,e5,e6,e7,e8,e9,e10,e11,e12,e13,e14,e15,e16,e17,e18,e19,e20,e21,e22]++jnk 72,[some (true,.cells (Kd.cells X.kSt x)),some (true,.cells (Kd.cells X.kSt y))]⟩ (K7 F)=tellB F x y:=by
 kernel_rfl
def pbA (x:STT):Bool:=x.2.2.2.1.2.2.1
def s7p (x:STT) (k:Int):St:=⟨[.agg (Kd.cells X.kSt x),.v (.int .i64 k),.ptr 0 0,.junk,.v (.bool false),.v (.bool true),.ptr 1 0,.v (.int .i64 (iOf k)),.junk,.junk,.junk,.v (.bool true),.agg (Kd.cells X.kSt x),.v (.int .i64 k),.v (.int .i64 (iOf k)),.v (.int .i64 (iOf k)),.v (.bool (iOf k == 3)),.ptr 0 3,.ptr 0 10,.v (.bool (pbA x)),.v (.bool (!pbA x)),.ptr 1 3,.ptr 1 10,.junk,.junk,.junk,.junk,.junk,.junk,.junk,.junk,.junk,.junk]++jnk 72,[some (true,.cells (Kd.cells X.kSt x)),some (true,.cells (Kd.cells X.kSt (flipP x)))]⟩
def s7a (x:STT) (k:Int) (i j:Nat):St:=⟨[.agg (Kd.cells X.kSt x),.v (.int .i64 k),.ptr 0 0,.junk,.v (.bool false),.v (.bool true),.ptr 1 0,.v (.int .i64 (iOf k)),.junk,.junk,.junk,.v (.bool true),.agg (Kd.cells X.kSt x),.v (.int .i64 k),.v (.int .i64 (iOf k)),.v (.int .i64 (iOf k)),.v (.bool (iOf k == 3)),.junk,.junk,.junk,.junk,.junk,.junk,.v (.int .i64 (iOf k)),.v (.int .i64 (iOf k)),.ptr 0 11,.ptr 0 (11+i*6),.ptr 0 (11+i*6+5),.v (.bool (badA x i)),.v (.bool (!badA x i)),.ptr 1 11,.ptr 1 (11+j*6),.ptr 1 (11+j*6+5)]++jnk 72,[some (true,.cells (Kd.cells X.kSt x)),some (true,.cells (Kd.cells X.kSt (flipA x i j)))]⟩
theorem head7_run (F:FL) (x:STT) (k:Int) (rest:Code) (K:Ex→St→Option Bool):codex (xL F) (R:=Bool) nol (callN (xL F) 20) 7 (head7 rest) (startx Try.f7 [.agg (Kd.cells X.kSt x),.v (.int .i64 k)] []) K =
  bif iOf k == 3 then codex (xL F) (R:=Bool) nol (callN (xL F) 20) 7 rest (s7p x k) K else splitIdx (iOf k) 3 fun i=>splitIdx (iOf k) 3 fun j=>codex (xL F) (R:=Bool) nol (callN (xL F) 20) 7 rest (s7a x k i j) K:=by
 kernel_rfl
theorem run_Tell (F:FL) (x:STT) (k:Int):fnx (xL F) nol 7 [.ag X.kSt,.sc kI] (.one (.sc .bool)) (x,k,()) =
  bif iOf k == 3 then tellB F x (flipP x) else splitIdx (iOf k) 3 fun i=>splitIdx (iOf k) 3 fun j=>tellB F x (flipA x i j):=by
 have e:fnx (xL F) nol 7 [.ag X.kSt,.sc kI] (.one (.sc .bool)) (x,k,())=codex (xL F) (R:=Bool) nol (callN (xL F) 20) 7 (head7 rest7) (startx Try.f7 [.agg (Kd.cells X.kSt x),.v (.int .i64 k)] []) (K7 F):=by kernel_rfl
 rw [e,head7_run]
 have e1:codex (xL F) (R:=Bool) nol (callN (xL F) 20) 7 rest7 (s7p x k) (K7 F)=tellB F x (flipP x):=rest7_run F x (flipP x) _ _ _ _ _ _ _ _ _ _ _ _ _ _ _ _ _ _ _ _ _ _ _ _ _ _ _
 have e2:∀ i j,codex (xL F) (R:=Bool) nol (callN (xL F) 20) 7 rest7 (s7a x k i j) (K7 F)=tellB F x (flipA x i j):=fun i j=>rest7_run F x (flipA x i j) _ _ _ _ _ _ _ _ _ _ _ _ _ _ _ _ _ _ _ _ _ _ _ _ _ _ _
 rw [e1]
 simp only [e2]
 rfl
end Go.Proofs.Ytgmkppeghnlcmaa.W
end
section
set_option linter.unusedVariables false
set_option linter.unusedSimpArgs false
namespace Go.Proofs.Ytgmkppeghnlcmaa.W
open Go Go.Proofs Go.RowKit X
set_option maxRecDepth 100000
set_option linter.unusedVariables false
set_option linter.unusedSimpArgs false
theorem loopT_ok {a b:List Int} {fin:Option Bool} (hf:fin=some true):∀ js:List Nat,(∀ j ∈ js,j<a.length∧j<b.length∧(rdU a j == rdU b j)=(!Nat.beq j 2 && !Nat.beq j 25))→loopT a b fin js=some true:=by
 intro js
 induction js with
 | nil=>intro _;exact hf
 | cons j js ih =>
  intro h
  obtain⟨h1,h2,h3⟩:=h j (by simp)
  have i1:inB (j:Int) a.length=true:=by simp [inB];omega
  have i2:inB (j:Int) b.length=true:=by simp [inB];omega
  simp only [loopT,i1,i2,cond_true,h3]
  have:(!((!Nat.beq j 2 && !Nat.beq j 25) == (!Nat.beq j 2 && !Nat.beq j 25)))=false:=by simp
  rw [this,cond_false]
  exact ih fun k hk=>h k (by simp [hk])
structure Flip (x y:STT):Prop where
  san:sanS y=sanS x
  words:sanS x=true→∃ v,v≠(wordsB x).getD 2 0∧InW v∧wordsB y=(wordsB x).set 2 v
theorem low_ne (p a b c p' a' b' c':Bool) (h:¬(p=p'∧a=a'∧b=b'∧c=c')):lowF p a b c≠lowF p' a' b' c':=by
 revert h
 cases p<;>cases a<;>cases b<;>cases c<;>cases p'<;>cases a'<;>cases b'<;>cases c'<;>decide
theorem flip_of {t n o q0 q1 q2 q3 w0 w1 w2 a b c d e a1 b1 c1 d1 e1 a2 b2 c2 d2 e2:Int} {pb ab ab1 ab2 pb' ab' ab1' ab2':Bool} (h:¬(pb=pb'∧ab=ab'∧ab1=ab1'∧ab2=ab2')) :
  Flip (t,n,o,((q0,q1,q2,q3,()),(w0,w1,w2,()),pb,()),((a,b,c,d,e,ab,()),(a1,b1,c1,d1,e1,ab1,()),(a2,b2,c2,d2,e2,ab2,()),()),())
   (t,n,o,((q0,q1,q2,q3,()),(w0,w1,w2,()),pb',()),((a,b,c,d,e,ab',()),(a1,b1,c1,d1,e1,ab1',()),(a2,b2,c2,d2,e2,ab2',()),()),()) where
 san:=rfl
 words:=fun hs=>by
  have h0:saneF poS _=true:=hs
  simp only [saneF,Bool.and_eq_true] at h0
  have k3:=cnt_in h0.1.1.2
  have e3:=third_is (o:=o) k3.1 (by omega) pb ab ab1 ab2
  have e4:=third_is (o:=o) k3.1 (by omega) pb' ab' ab1' ab2'
  have hl:=low_bd pb' ab' ab1' ab2'
  refine⟨thirdS o pb' ab' ab1' ab2',?_,by rw [e4];unfold InW;omega,rfl⟩
  show thirdS o pb' ab' ab1' ab2'≠thirdS o pb ab ab1 ab2
  rw [e3,e4]
  have:=low_ne _ _ _ _ _ _ _ _ h
  omega
theorem flip_p (x:STT):Flip x (flipP x):=by
 obtain⟨t,n,o,⟨⟨q0,q1,q2,q3,⟨⟩⟩,⟨w0,w1,w2,⟨⟩⟩,pb,⟨⟩⟩,⟨⟨a,b,c,d,e,ab,⟨⟩⟩,⟨a1,b1,c1,d1,e1,ab1,⟨⟩⟩,⟨a2,b2,c2,d2,e2,ab2,⟨⟩⟩,⟨⟩⟩,⟨⟩⟩:=x
 exact flip_of (pb':=!pb) (by cases pb<;>simp)
theorem flip_a (x:STT) (i:Nat) (hi:i<3):Flip x (flipA x i i):=by
 obtain⟨t,n,o,⟨⟨q0,q1,q2,q3,⟨⟩⟩,⟨w0,w1,w2,⟨⟩⟩,pb,⟨⟩⟩,⟨⟨a,b,c,d,e,ab,⟨⟩⟩,⟨a1,b1,c1,d1,e1,ab1,⟨⟩⟩,⟨a2,b2,c2,d2,e2,ab2,⟨⟩⟩,⟨⟩⟩,⟨⟩⟩:=x
 match i,hi with
 | 0,_=>exact flip_of (ab':=!ab) (by cases ab<;>simp)
 | 1,_=>exact flip_of (ab1':=!ab1) (by cases ab1<;>simp)
 | 2,_=>exact flip_of (ab2':=!ab2) (by cases ab2<;>simp)
theorem fin_is (x:STT) (hx:sanS x=true):finT x (wordsS F2 x)=some true:=by
 obtain⟨t,n,o,⟨⟨q0,q1,q2,q3,⟨⟩⟩,⟨w0,w1,w2,⟨⟩⟩,pb,⟨⟩⟩,⟨⟨a,b,c,d,e,ab,⟨⟩⟩,⟨a1,b1,c1,d1,e1,ab1,⟨⟩⟩,⟨a2,b2,c2,d2,e2,ab2,⟨⟩⟩,⟨⟩⟩,⟨⟩⟩:=x
 have h0:saneF poS _=true:=hx
 simp only [saneF,Bool.and_eq_true] at h0
 have k3:=cnt_in h0.1.1.2
 have e3:=third_is (o:=o) k3.1 (by omega) pb ab ab1 ab2
 have hl:=low_bd pb ab ab1 ab2
 show(bif inB 0 26 then (bif uW t == uW t then (bif inB 1 26 then (bif uW n == uW n then (bif inB 2 26 then some (IntKind.u64.wrap ((thirdS o pb ab ab1 ab2).tdiv 16) == uW o) else none) else some false) else none) else some false) else none)=some true
 have e5:(thirdS o pb ab ab1 ab2).tdiv 16=o:=by
  rw [e3,Int.tdiv_eq_ediv_of_nonneg (by omega)];omega
 rw [e5]
 have r:∀ z:Int,(z == z)=true:=fun z=>by simp
 rw [r,r]
 show some (uW o == uW o)=some true
 rw [r]
theorem tell_is (x y:STT) (h:Flip x y):tellB F3 x y=some true:=by
 show(bif !(((wrdS x).length:Int) != 26) then (bif (((wrdS y).length:Int) != 26) then (bif ((wrdS x).length:Int) == 0 then some (((wrdS y).length:Int) == 0) else some false) else loopT (wrdS x) (wrdS y) (finT x (wrdS x)) (List.range 26)) else (bif ((wrdS x).length:Int) == 0 then some (((wrdS y).length:Int) == 0) else some false))=some true
 have hy:=h.san
 cases hx:sanS x with
 | false =>
  rw [hx] at hy
  rw [wr_f hx,wr_f hy]
  rfl
 | true =>
  rw [hx] at hy
  obtain⟨v,hv,hvi,hw⟩:=h.words hx
  rw [wr_t hx,wr_t hy,wS_len,wS_len]
  show loopT (wordsS F2 x) (wordsS F2 y) (finT x (wordsS F2 x)) (List.range 26)=some true
  refine loopT_ok (fin_is x hx) _ fun j hj=>?_
  have hj:=List.mem_range.1 hj
  refine⟨by rw [wS_len];exact hj,by rw [wS_len];exact hj,?_⟩
  have ex:wordsS F2 x=wordsB x++[sumv (wordsB x)]:=rfl
  have ey:wordsS F2 y=(wordsB x).set 2 v++[sumv ((wordsB x).set 2 v)]:=by rw [←hw];rfl
  have lx:=wB_len x
  rw [ex,ey,rdU_getD,rdU_getD]
  have b2:∀ n:Nat,Nat.beq j n=decide (j=n):=fun n=>by
   rw [Bool.eq_iff_iff,Nat.beq_eq,decide_eq_true_eq]
  rw [b2,b2]
  simp only [List.getD_eq_getElem?_getD] at hv ⊢
  by_cases c:j<25
  ·rw [List.getElem?_append_left (by omega),List.getElem?_append_left (by rw [List.length_set];omega)]
   by_cases c2:j=2
   ·subst c2
    rw [List.getElem?_set_self (by omega)]
    simp only [Option.getD_some,decide_true,Bool.not_true,Bool.false_and,beq_eq_false_iff_ne]
    exact fun e=>hv e.symm
   ·rw [List.getElem?_set_ne (fun e=>c2 e.symm)]
    have:decide (j=25)=false:=decide_eq_false (by omega)
    rw [decide_eq_false c2,this]
    simp
  ·obtain rfl:j=25:=by omega
   rw [List.getElem?_append_right (by omega),List.getElem?_append_right (by rw [List.length_set];omega),List.length_set,lx]
   simp only [Nat.sub_self,List.getElem?_cons_zero,Option.getD_some]
   have:=sum_one (wordsB x) 14695981039346656037 2 v first_in (by omega) hvi (getD_in (wS_in x hx) (by omega)) (by rw [List.getD_eq_getElem?_getD];exact hv)
   have e:(sumv (wordsB x) == sumv ((wordsB x).set 2 v))=false:=by
    rw [beq_eq_false_iff_ne]
    exact fun e=>this e.symm
   rw [e]
   simp
theorem iOf_bd (k:Int):0≤iOf k∧iOf k<4:=by
 have h:=band64 k 2 (by decide)
 have p:(2:Int)^2=4:=by decide
 rw [p] at h
 have h2:iOf k=k%4:=h
 rw [h2]
 omega
noncomputable def tellK (x:STT) (k:Int):Option Bool:=bif iOf k == 3 then tellB F3 x (flipP x) else splitIdx (iOf k) 3 fun i=>splitIdx (iOf k) 3 fun j=>tellB F3 x (flipA x i j)
theorem split_one {R:Type} {i:Int} {f:Nat→Option R}:∀ {n:Nat},0≤i→i<n→splitIdx i n f=f i.toNat:=by
 intro n
 induction n with
 | zero=>intro h0 h1;omega
 | succ n ih =>
  intro h0 h1
  simp only [splitIdx]
  by_cases c:i=(n:Int)
  ·rw [decide_eq_true c,cond_true]
   congr 1
   omega
  ·rw [decide_eq_false c,cond_false]
   exact ih h0 (by omega)
theorem tellK_is (x:STT) (k:Int):tellK x k=some true:=by
 obtain⟨h0,h1⟩:=iOf_bd k
 unfold tellK
 by_cases c:iOf k=3
 ·have:(iOf k == 3)=true:=by simpa using c
  rw [this,cond_true]
  exact tell_is x _ (flip_p x)
 ·have:(iOf k == 3)=false:=by simpa using c
  rw [this,cond_false,split_one h0 (by omega),split_one h0 (by omega)]
  exact tell_is x _ (flip_a x _ (by omega))
theorem law_Tell:SpecOk Try.prog 7 ⟨[.ag X.kSt,.sc kI],.one (.sc .bool),fun x=>some true⟩ :=
 spec_opt xL_ok (fun ⟨x,k,_⟩ r h=>(run_Tell F3 x k).trans ((tellK_is x k).trans h)) ⟨_,_,rfl,rfl⟩
end Go.Proofs.Ytgmkppeghnlcmaa.W
end
