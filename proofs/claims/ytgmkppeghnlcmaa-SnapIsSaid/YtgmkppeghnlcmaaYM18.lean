/- Lemmas of the rows, laid by a program. -/
import Derived.Test.YtgmkppeghnlcmaaYM16
import Derived.Test.YtgmkppeghnlcmaaYM17
section
set_option linter.unusedVariables false
set_option linter.unusedSimpArgs false
namespace Go.Proofs.Ytgmkppeghnlcmaa.W
open Go Go.Proofs Go.RowKit X
set_option maxRecDepth 100000
set_option linter.unusedVariables false
set_option linter.unusedSimpArgs false
theorem or_or (x y z:Int):X.orU (X.orU x y) z=X.orU x (X.orU y z):=by
 have hb:∀ b:BitVec 64,IntKind.u64.wrap (b.toNat:Int)=(b.toNat:Int):=fun b=>by
  have:=b.isLt
  rw [u64_wrap]
  omega
 show IntKind.u64.wrap ((BitVec.ofInt 64 (IntKind.u64.wrap ((BitVec.ofInt 64 x ||| BitVec.ofInt 64 y).toNat:Int)) ||| BitVec.ofInt 64 z).toNat:Int)=IntKind.u64.wrap ((BitVec.ofInt 64 x ||| BitVec.ofInt 64 (IntKind.u64.wrap ((BitVec.ofInt 64 y ||| BitVec.ofInt 64 z).toNat:Int))).toNat:Int)
 rw [hb (BitVec.ofInt 64 x ||| BitVec.ofInt 64 y),hb (BitVec.ofInt 64 y ||| BitVec.ofInt 64 z),ofInt_toNat,ofInt_toNat,BitVec.or_assoc]
def b2i (b:Bool):Int:=bif b then 1 else 0
def lowF (p a b c:Bool):Int:=b2i p+2*b2i a+4*b2i b+8*b2i c
theorem low_bd (p a b c:Bool):0≤lowF p a b c∧lowF p a b c<16:=by
 cases p<;>cases a<;>cases b<;>cases c<;>decide
theorem or_low {x:Int} (hx:x%16=0) (h0:0≤x) (h1:x+16≤18446744073709551616) {y:Int} (hy0:0≤y) (hy1:y<16):X.orU x y=x+y:=by
 have:=boru64 x y 4 (by decide) hx hy0 hy1
 refine Eq.trans this ?_
 omega
theorem outU_is {o:Int} (h0:0≤o) (h1:o<1152921504606846976):outU o=16*o:=by
 show IntKind.u64.wrap (IntKind.u64.wrap o*2^min (Int.toNat 4) IntKind.u64.bits)=16*o
 have e:(2:Int)^min (Int.toNat 4) IntKind.u64.bits=16:=rfl
 rw [e,wu64 (n:=o) (by omega) (by omega),wu64 (by omega) (by omega)]
 omega
theorem third_is {o:Int} (h0:0≤o) (h1:o<1152921504606846976) (p a b c:Bool):thirdS o p a b c=16*o+lowF p a b c:=by
 have hb:=low_bd p a b c
 have base:∀ y:Int,0≤y→y<16→X.orU (outU o) y=16*o+y:=by
  intro y y0 y1
  rw [outU_is h0 h1]
  exact or_low (by omega) (by omega) (by omega) y0 y1
 have zero:outU o=16*o:=outU_is h0 h1
 have e0:bitU 0=1:=by decide
 have e1:bitU 1=2:=by decide
 have e2:bitU 2=4:=by decide
 have e3:bitU 3=8:=by decide
 have s12:X.orU 1 2=3:=by decide
 have s14:X.orU 1 4=5:=by decide
 have s18:X.orU 1 8=9:=by decide
 have s24:X.orU 2 4=6:=by decide
 have s28:X.orU 2 8=10:=by decide
 have s48:X.orU 4 8=12:=by decide
 have s34:X.orU 3 4=7:=by decide
 have s38:X.orU 3 8=11:=by decide
 have s58:X.orU 5 8=13:=by decide
 have s68:X.orU 6 8=14:=by decide
 have s78:X.orU 7 8=15:=by decide
 cases p<;>cases a<;>cases b<;>cases c <;>
  simp only [thirdS,addU,cond_true,cond_false,e0,e1,e2,e3,or_or,s12,s14,s18,s24,s28,s48,s34,s38,s58,s68,s78,lowF,b2i] <;>
  first
   | (rw [zero];omega)
   | (rw [base _ (by decide) (by decide)];omega)
theorem shU_is (x:Int):shU x=x/16:=by
 show x.fdiv (2^min (Int.toNat 4) IntKind.u64.bits)=x/16
 have e:min (Int.toNat 4) IntKind.u64.bits=4:=rfl
 rw [e,fd]
 rfl
theorem flU_is (x:Int) (i:Nat) (hi:i≤63):flU x i=((x/2^i)%2 == 1):=by
 show(Go.bits .and .u64 (x.fdiv (2^min (Int.toNat i) IntKind.u64.bits)) 1 == 1)=_
 have e:min (Int.toNat i) IntKind.u64.bits=i:=by
  show min i 64=i
  omega
 have h:=bandu64 (x.fdiv (2^i)) 1 (by decide)
 have h2:Go.bits .and .u64 (x.fdiv (2^i)) 1=x.fdiv (2^i)%2:=h
 rw [e,h2,fd]
theorem fl_third {q:Int} (p a b c:Bool):flU (16*q+lowF p a b c) 0=p∧flU (16*q+lowF p a b c) 1=a∧flU (16*q+lowF p a b c) 2=b∧flU (16*q+lowF p a b c) 3=c:=by
 have f0:=flU_is (16*q+lowF p a b c) 0 (by decide)
 have f1:=flU_is (16*q+lowF p a b c) 1 (by decide)
 have f2:=flU_is (16*q+lowF p a b c) 2 (by decide)
 have f3:=flU_is (16*q+lowF p a b c) 3 (by decide)
 have p0:(2:Int)^0=1:=rfl
 have p1:(2:Int)^1=2:=rfl
 have p2:(2:Int)^2=4:=rfl
 have p3:(2:Int)^3=8:=rfl
 rw [p0] at f0
 rw [p1] at f1
 rw [p2] at f2
 rw [p3] at f3
 refine⟨f0.trans ?_,f1.trans ?_,f2.trans ?_,f3.trans ?_⟩<;>(cases p<;>cases a<;>cases b<;>cases c<;>simp only [lowF,b2i,cond_true,cond_false]<;>simp<;>omega)
end Go.Proofs.Ytgmkppeghnlcmaa.W
end
section
set_option linter.unusedVariables false
set_option linter.unusedSimpArgs false
namespace Go.Proofs.Ytgmkppeghnlcmaa.W
open Go Go.Proofs Go.RowKit X
set_option maxRecDepth 100000
set_option linter.unusedVariables false
set_option linter.unusedSimpArgs false
theorem iu {n:Int} (h:InI n):iW (uW n)=n:=by
 have:=wrap_uw h
 refine Eq.trans ?_ this
 exact i64_wrap _
theorem ui {n:Int} (h:InW n):uW (iW n)=n:=by
 have:=uw_wrap h
 refine Eq.trans ?_ this
 show IntKind.u64.wrap (IntKind.i64.wrap n)=IntKind.u64.wrap (wrap64 n)
 rw [i64_wrap]
theorem iW_in (n:Int):InI (iW n):=by
 show InI (IntKind.i64.wrap n)
 rw [i64_wrap];exact wrap_in n
theorem cl_in {n:Int} (h:cl n=n):InI n:=by
 have h0:=cl_lo n
 have h1:=cl_hi n
 unfold InI
 omega
theorem clF_is (n:Int):clampF n=cl n:=by unfold clampF minB cl;(repeat' split)<;>omega
theorem val_in {n:Int} (h:valF n=true):InI n:=by
 unfold valF at h
 rw [clF_is] at h
 exact cl_in (by simpa using h)
theorem wit_in {n:Int} (h:witF n=true):InI n:=by
 unfold witF at h
 unfold InI
 cases h1:decide (n ≥ 4096) with
 | false=>rw [h1] at h;cases h
 | true =>
  rw [h1] at h
  simp only [cond_true,decide_eq_true_eq] at h h1
  omega
theorem cnt_in {n:Int} (h:cntF n=true):0≤n∧n≤1099511627776:=by
 unfold cntF at h
 simpa using h
theorem ax_in {p v pp pv vv:Int} {b:Bool} {u:Unit} (h:axF (p,v,pp,pv,vv,b,u)=true):InI p∧InI v∧InI pp∧InI pv∧InI vv:=by
 simp only [axF,Bool.and_eq_true] at h
 obtain⟨h1,h2,h3,h4,h5⟩:=h
 exact⟨val_in h1,val_in h2,wit_in h4,val_in h3,wit_in h5⟩
theorem po_in {a b c d x y z:Int} {p:Bool} {u1 u2 u3:Unit} (h:poS ((a,b,c,d,u1),(x,y,z,u2),p,u3)=true):InI a∧InI b∧InI c∧InI d∧InI x∧InI y∧InI z:=by
 simp only [poS,Bool.and_eq_true,beq_iff_eq,qnB,Bool.not_eq_true',Bool.or_eq_false_iff,bne_eq_false_iff_eq] at h
 obtain⟨⟨_,h1,h2,h3,h4⟩,_,_,h5,h6,h7⟩:=h
 exact⟨cl_in h1,cl_in h2,cl_in h3,cl_in h4,cl_in h5,cl_in h6,cl_in h7⟩
theorem i26 (l0 l1 l2 l3 l4 l5 l6 l7 l8 l9 l10 l11 l12 l13 l14 l15 l16 l17 l18 l19 l20 l21 l22 l23 l24 l25:Int):readL [l0,l1,l2,l3,l4,l5,l6,l7,l8,l9,l10,l11,l12,l13,l14,l15,l16,l17,l18,l19,l20,l21,l22,l23,l24,l25]=readS l0 l1 l2 l3 l4 l5 l6 l7 l8 l9 l10 l11 l12 l13 l14 l15 l16 l17 l18 l19 l20 l21 l22 l23 l24 l25:=rfl
theorem fl3 (x:Int):flU x 0=flU x 0:=rfl
theorem read_back {x:STT} (h:sanS x=true):readL (wordsS F2 x)=x:=by
 obtain⟨t,n,o,⟨⟨q0,q1,q2,q3,⟨⟩⟩,⟨w0,w1,w2,⟨⟩⟩,pb,⟨⟩⟩,⟨⟨a,b,c,d,e,ab,⟨⟩⟩,⟨a1,b1,c1,d1,e1,ab1,⟨⟩⟩,⟨a2,b2,c2,d2,e2,ab2,⟨⟩⟩,⟨⟩⟩,⟨⟩⟩:=x
 have h0:saneF poS _=true:=h
 simp only [saneF,Bool.and_eq_true] at h0
 obtain⟨⟨⟨⟨k1,k2⟩,k3⟩,k4⟩,⟨k5,k6⟩,k7⟩:=h0
 have k1:=cnt_in k1
 have k2:=cnt_in k2
 have k3:=cnt_in k3
 obtain⟨m1,m2,m3,m4,m5,m6,m7⟩:=po_in k4
 obtain⟨r1,r2,r3,r4,r5⟩:=ax_in k5
 obtain⟨s1,s2,s3,s4,s5⟩:=ax_in k6
 obtain⟨u1,u2,u3,u4,u5⟩:=ax_in k7
 have it:InI t:=by unfold InI;omega
 have inn:InI n:=by unfold InI;omega
 have io:InI o:=by unfold InI;omega
 have e3:=third_is (o:=o) k3.1 (by omega) pb ab ab1 ab2
 have hl:=low_bd pb ab ab1 ab2
 obtain⟨f0,f1,f2,f3⟩:=fl_third (q:=o) pb ab ab1 ab2
 rw [←e3] at f0 f1 f2 f3
 have es:iW (shU (thirdS o pb ab ab1 ab2))=o:=by
  rw [shU_is,e3]
  have:(16*o+lowF pb ab ab1 ab2)/16=o:=by omega
  rw [this]
  show IntKind.i64.wrap o=o
  rw [i64_wrap,w64 (by omega) (by omega)]
 show readL [uW t,uW n,thirdS o pb ab ab1 ab2,uW q0,uW q1,uW q2,uW q3,uW w0,uW w1,uW w2,uW a,uW b,uW c,uW d,uW e,uW a1,uW b1,uW c1,uW d1,uW e1,uW a2,uW b2,uW c2,uW d2,uW e2,F2.sum _]=_
 rw [i26]
 unfold readS
 rw [iu it,iu inn,es,iu m1,iu m2,iu m3,iu m4,iu m5,iu m6,iu m7,iu r1,iu r2,iu r3,iu r4,iu r5,iu s1,iu s2,iu s3,iu s4,iu s5,iu u1,iu u2,iu u3,iu u4,iu u5,f0,f1,f2,f3]
theorem low_ex (r:Int) (h0:0≤r) (h1:r<16):∃ p a b c,r=lowF p a b c:=by
 have:r=0∨r=1∨r=2∨r=3∨r=4∨r=5∨r=6∨r=7∨r=8∨r=9∨r=10∨r=11∨r=12∨r=13∨r=14∨r=15:=by omega
 rcases this with rfl|rfl|rfl|rfl|rfl|rfl|rfl|rfl|rfl|rfl|rfl|rfl|rfl|rfl|rfl|rfl
 ·exact⟨false,false,false,false,rfl⟩
 ·exact⟨true,false,false,false,rfl⟩
 ·exact⟨false,true,false,false,rfl⟩
 ·exact⟨true,true,false,false,rfl⟩
 ·exact⟨false,false,true,false,rfl⟩
 ·exact⟨true,false,true,false,rfl⟩
 ·exact⟨false,true,true,false,rfl⟩
 ·exact⟨true,true,true,false,rfl⟩
 ·exact⟨false,false,false,true,rfl⟩
 ·exact⟨true,false,false,true,rfl⟩
 ·exact⟨false,true,false,true,rfl⟩
 ·exact⟨true,true,false,true,rfl⟩
 ·exact⟨false,false,true,true,rfl⟩
 ·exact⟨true,false,true,true,rfl⟩
 ·exact⟨false,true,true,true,rfl⟩
 ·exact⟨true,true,true,true,rfl⟩
theorem third_back {w:Int} (hw:InW w):thirdS (iW (shU w)) (flU w 0) (flU w 1) (flU w 2) (flU w 3)=w:=by
 unfold InW at hw
 obtain⟨p,a,b,c,hr⟩:=low_ex (w%16) (by omega) (by omega)
 have hl:=low_bd p a b c
 have e:w=16*(w/16)+lowF p a b c:=by omega
 obtain⟨f0,f1,f2,f3⟩:=fl_third (q:=w/16) p a b c
 rw [←e] at f0 f1 f2 f3
 have es:iW (shU w)=w/16:=by
  rw [shU_is]
  show IntKind.i64.wrap (w/16)=w/16
  rw [i64_wrap,w64 (by omega) (by omega)]
 rw [f0,f1,f2,f3,es,third_is (by omega) (by omega)]
 omega
theorem words_back {l:List Int} (hl:l.length=26) (hw:∀ w ∈ l,InW w) (hs:sumW (l.take 25)=l.getD 25 0):wordsS F2 (readL l)=l:=by
 obtain⟨l0,l1,l2,l3,l4,l5,l6,l7,l8,l9,l10,l11,l12,l13,l14,l15,l16,l17,l18,l19,l20,l21,l22,l23,l24,l25,rfl⟩:=len26 l hl
 rw [i26]
 simp only [List.forall_mem_cons] at hw
 obtain⟨h0,h1,h2,h3,h4,h5,h6,h7,h8,h9,h10,h11,h12,h13,h14,h15,h16,h17,h18,h19,h20,h21,h22,h23,h24,h25,_⟩:=hw
 have eb:wordsB (readS l0 l1 l2 l3 l4 l5 l6 l7 l8 l9 l10 l11 l12 l13 l14 l15 l16 l17 l18 l19 l20 l21 l22 l23 l24 l25)=[l0,l1,l2,l3,l4,l5,l6,l7,l8,l9,l10,l11,l12,l13,l14,l15,l16,l17,l18,l19,l20,l21,l22,l23,l24]:=by
  show [uW (iW l0),uW (iW l1),thirdS (iW (shU l2)) (flU l2 0) (flU l2 1) (flU l2 2) (flU l2 3),uW (iW l3),uW (iW l4),uW (iW l5),uW (iW l6),uW (iW l7),uW (iW l8),uW (iW l9),uW (iW l10),uW (iW l11),uW (iW l12),uW (iW l13),uW (iW l14),uW (iW l15),uW (iW l16),uW (iW l17),uW (iW l18),uW (iW l19),uW (iW l20),uW (iW l21),uW (iW l22),uW (iW l23),uW (iW l24)]=_
  rw [ui h0,ui h1,third_back h2,ui h3,ui h4,ui h5,ui h6,ui h7,ui h8,ui h9,ui h10,ui h11,ui h12,ui h13,ui h14,ui h15,ui h16,ui h17,ui h18,ui h19,ui h20,ui h21,ui h22,ui h23,ui h24]
 unfold wordsS
 rw [eb]
 have:F2.sum [l0,l1,l2,l3,l4,l5,l6,l7,l8,l9,l10,l11,l12,l13,l14,l15,l16,l17,l18,l19,l20,l21,l22,l23,l24]=l25:=hs
 rw [this]
 rfl
end Go.Proofs.Ytgmkppeghnlcmaa.W
end
section
set_option linter.unusedVariables false
set_option linter.unusedSimpArgs false
namespace Go.Proofs.Ytgmkppeghnlcmaa.W
open Go Go.Proofs Go.RowKit X
set_option maxRecDepth 100000
set_option linter.unusedVariables false
set_option linter.unusedSimpArgs false
theorem eqS_iff (x y:STT):eqS x y=true↔x=y:=by
 obtain⟨t,n,o,⟨⟨q0,q1,q2,q3,⟨⟩⟩,⟨w0,w1,w2,⟨⟩⟩,pb,⟨⟩⟩,⟨⟨a,b,c,d,e,ab,⟨⟩⟩,⟨a1,b1,c1,d1,e1,ab1,⟨⟩⟩,⟨a2,b2,c2,d2,e2,ab2,⟨⟩⟩,⟨⟩⟩,⟨⟩⟩:=x
 obtain⟨t',n',o',⟨⟨q0',q1',q2',q3',⟨⟩⟩,⟨w0',w1',w2',⟨⟩⟩,pb',⟨⟩⟩,⟨⟨a',b',c',d',e',ab',⟨⟩⟩,⟨a1',b1',c1',d1',e1',ab1',⟨⟩⟩,⟨a2',b2',c2',d2',e2',ab2',⟨⟩⟩,⟨⟩⟩,⟨⟩⟩:=y
 simp only [eqS,eqP,eqA,Bool.and_eq_true,beq_iff_eq,and_true,Prod.mk.injEq]
theorem eqS_refl (x:STT):eqS x x=true:=(eqS_iff x x).2 rfl
theorem wS_len (x:STT):(wordsS F2 x).length=26:=by
 obtain⟨t,n,o,⟨⟨q0,q1,q2,q3,⟨⟩⟩,⟨w0,w1,w2,⟨⟩⟩,pb,⟨⟩⟩,⟨⟨a,b,c,d,e,ab,⟨⟩⟩,⟨a1,b1,c1,d1,e1,ab1,⟨⟩⟩,⟨a2,b2,c2,d2,e2,ab2,⟨⟩⟩,⟨⟩⟩,⟨⟩⟩:=x
 rfl
theorem wB_len (x:STT):(wordsB x).length=25:=by
 obtain⟨t,n,o,⟨⟨q0,q1,q2,q3,⟨⟩⟩,⟨w0,w1,w2,⟨⟩⟩,pb,⟨⟩⟩,⟨⟨a,b,c,d,e,ab,⟨⟩⟩,⟨a1,b1,c1,d1,e1,ab1,⟨⟩⟩,⟨a2,b2,c2,d2,e2,ab2,⟨⟩⟩,⟨⟩⟩,⟨⟩⟩:=x
 rfl
theorem wS_take (x:STT):(wordsS F2 x).take 25=wordsB x:=by
 unfold wordsS
 rw [List.take_left' (wB_len x)]
theorem wS_last (x:STT):(wordsS F2 x).getD 25 0=sumW (wordsB x):=by
 unfold wordsS
 rw [List.getD_eq_getElem?_getD,List.getElem?_append_right (by rw [wB_len];omega),wB_len]
 rfl
theorem wr_t {x:STT} (h:sanS x=true):wrdS x=wordsS F2 x:=by unfold wrdS;rw [h];rfl
theorem wr_f {x:STT} (h:sanS x=false):wrdS x=[]:=by unfold wrdS;rw [h];rfl
theorem rd_words {x:STT} (h:sanS x=true):rd1 (wordsS F2 x)=x∧rd2 (wordsS F2 x)=0:=by
 have e1:(((wordsS F2 x).length:Int) != 26)=false:=by rw [wS_len];rfl
 have e2:(sumW ((wordsS F2 x).take 25) != (wordsS F2 x).getD 25 0)=false:=by rw [wS_take,wS_last];simp
 have e3:(!sanS (readL (wordsS F2 x)))=false:=by rw [read_back h,h];rfl
 unfold rd1 rd2
 rw [e1,e2,e3]
 exact⟨read_back h,rfl⟩
theorem rd_nil:rd1 []=zeroS∧rd2 []=5:=⟨rfl,rfl⟩
theorem rd2_zero {l:List Int} (h:rd2 l=0):l.length=26∧sumW (l.take 25)=l.getD 25 0∧sanS (readL l)=true∧rd1 l=readL l:=by
 unfold rd2 at h
 unfold rd1
 cases e1:((l.length:Int) != 26) with
 | true=>rw [e1] at h;cases h
 | false =>
  rw [e1] at h
  cases e2:(sumW (l.take 25) != l.getD 25 0) with
  | true=>rw [e2] at h;cases h
  | false =>
   rw [e2] at h
   cases e3:sanS (readL l) with
   | false=>rw [e3] at h;cases h
   | true =>
    refine⟨?_,by simpa using e2,rfl,rfl⟩
    have:(l.length:Int)=26:=by simpa using e1
    omega
theorem rd1_bad {l:List Int} (h:rd2 l≠0):rd1 l=zeroS:=by
 unfold rd2 at h
 unfold rd1
 cases e1:((l.length:Int) != 26) with
 | true=>rfl
 | false =>
  rw [e1] at h
  cases e2:(sumW (l.take 25) != l.getD 25 0) with
  | true=>rfl
  | false =>
   rw [e2] at h
   cases e3:sanS (readL l) with
   | false=>rfl
   | true=>rw [e3] at h;exact absurd rfl h
def ax0:Ax:=(0,0,17592186044416,0,17592186044416,false,())
def st0:STT:=(0,0,0,((4294967296,0,0,0,()),(0,0,0,()),false,()),(ax0,ax0,ax0,()),())
abbrev sStart:X.Spec:=⟨[],.one (.ag X.kSt),fun _=>some st0⟩
theorem run_Start:fnx (mk (tab [])) nol 15 [] (.one (.ag X.kSt)) ()=some st0:=by kernel_rfl
theorem Start_ok:SpecOk Try.prog 15 sStart:=spec_tab [] trivial (fun _=>run_Start) ⟨_,_,rfl,rfl⟩
def awkB (F:FL):Option Bool:=bif ((F.W st0).length:Int) == 26 then (bif inB 0 (F.W st0).length then (bif rdU (F.W st0) 0 == 0 then (bif inB 1 (F.W st0).length then (bif rdU (F.W st0) 1 == 0 then (bif inB 2 (F.W st0).length then (bif rdU (F.W st0) 2 == 0 then (bif inB 3 (F.W st0).length then (bif rdU (F.W st0) 3 == 4294967296 then
  (bif F.R2 (F.W st0) == 0 then (bif eqS (F.R1 (F.W st0)) st0 then some (F.R2 [] == 5) else some false) else some false) else some false) else none) else some false) else none) else some false) else none) else some false) else none) else some false
theorem run_awake (F:FL):fnx (mk (tab ((15,sStart) :: tW0 F))) nol 8 [] (.one (.sc .bool)) ()=awkB F:=by kernel_rfl
theorem smF0:smF FN0 [4294967296,0,0,0]=(4,0):=by decide +kernel
theorem rt64:rt 18446744073709551616=4294967296:=rt_eq ⟨by decide,by decide,by decide,Or.inr (by decide)⟩
theorem san0:sanS st0=true:=by
 have k4:kn 4 0=18446744073709551616:=by decide
 have s4:saneB 4 0=true:=by decide
 have n4:qnN 4294967296 0 0 0=4294967296:=by
  unfold qnN
  rw [smF0]
  unfold rtN
  rw [k4,if_neg (by decide),rt64]
 have b4:qnB 4294967296 0 0 0=false:=by
  unfold qnB
  rw [smF0]
  unfold rtB
  rw [k4,if_neg (by decide),s4]
  unfold rbad
  rw [rt64,if_pos (by decide)]
  decide
 have hp:poS ((4294967296,0,0,0,()),(0,0,0,()),false,())=true:=by
  simp only [poS]
  rw [n4,b4]
  decide
 show saneF poS st0=true
 simp only [saneF,st0,hp,ax0]
 decide
theorem awk_is:awkB F3=some true:=by
 have h:=rd_words san0
 have w:wrdS st0=wordsS F2 st0:=wr_t san0
 unfold awkB
 show(bif ((wrdS st0).length:Int) == 26 then (bif inB 0 (wrdS st0).length then (bif rdU (wrdS st0) 0 == 0 then (bif inB 1 (wrdS st0).length then (bif rdU (wrdS st0) 1 == 0 then (bif inB 2 (wrdS st0).length then (bif rdU (wrdS st0) 2 == 0 then (bif inB 3 (wrdS st0).length then (bif rdU (wrdS st0) 3 == 4294967296 then
 (bif rd2 (wrdS st0) == 0 then (bif eqS (rd1 (wrdS st0)) st0 then some (rd2 [] == 5) else some false) else some false) else some false) else none) else some false) else none) else some false) else none) else some false) else none) else some false)=some true
 rw [w,h.1,h.2,wS_len,rd_nil.2,eqS_refl]
 rfl
theorem awake_ok:SpecOk Try.prog 8 sTrue:=spec_run (x_ok (l:=(15,sStart) :: tW0 F3) ⟨Start_ok,tW0_ok⟩) (fun _=>(run_awake F3).trans awk_is) ⟨_,_,rfl,rfl⟩
theorem tL_ok:TabOk Try.prog (tL F3):=⟨awake_ok,tW0_ok⟩
theorem xL_ok:XOk Try.prog (xL F3):=mka_ok (x_ok tL_ok) (fun f a ha=>by
 split at ha
 ·rename_i e;subst e;obtain rfl:=Option.some.inj ha;exact Same_ok
 ·cases ha)
theorem wordsWf {l:List Int} (h:wfK (.sl kU) l):∀ w ∈ l,InW w:=fun w hw=>in_wfu (h.2 w hw)
theorem restB_is (x:STT):restB F3 x=some true:=by
 show(bif !sanS x then (bif ((wrdS x).length:Int) == 0 then some (rd2 (wrdS x) == 5) else some false) else (bif ((wrdS x).length:Int) == 26 then (bif rd2 (wrdS x) == 0 then some (eqS (rd1 (wrdS x)) x) else some false) else some false))=some true
 cases h:sanS x with
 | false=>rw [wr_f h];rfl
 | true =>
  have hr:=rd_words h
  rw [wr_t h,hr.1,hr.2,wS_len,eqS_refl]
  rfl
theorem zerB_is (x:STT) (l:List Int):zerB F3 x l=some true:=by
 show(bif rd2 l != 0 then (bif !eqS (rd1 l) zeroS then some false else restB F3 x) else restB F3 x)=some true
 rw [restB_is]
 by_cases h:rd2 l=0
 ·rw [h];rfl
 ·rw [rd1_bad h,eqS_refl]
  cases (rd2 l != 0)<;>rfl
theorem Back_is (x:STT) (l:List Int) (hl:∀ w ∈ l,InW w):(bif decide ((l.length:Int) > 100) then some true else bif rd2 l == 0 then (bif !!sanS (rd1 l) then (bif sh0 (wrdS (rd1 l)) && sh0 l then (bif !!(wrdS (rd1 l) == l) then zerB F3 x l else some false) else none) else some false) else zerB F3 x l)=some true:=by
 rw [zerB_is]
 by_cases h1:(l.length:Int) > 100
 ·rw [decide_eq_true h1];rfl
 ·rw [decide_eq_false h1]
  by_cases h2:rd2 l=0
  ·obtain⟨g1,g2,g3,g4⟩:=rd2_zero h2
   have gw:wrdS (rd1 l)=l:=by rw [g4,wr_t g3,words_back g1 hl g2]
   have gs:sanS (rd1 l)=true:=by rw [g4];exact g3
   have gh:sh0 l=true:=by unfold sh0;rw [g1];rfl
   rw [gw,gs,gh,h2]
   simp
  ·have:(rd2 l == 0)=false:=by simpa using h2
   rw [this];rfl
theorem law_Back:SpecOk Try.prog 4 ⟨[.ag X.kSt,.sc (.sl kU)],.one (.sc .bool),fun x=>bif decide ((List.length (α:=Int) x.2.1:Int) > 100) then some true else bif rd2 x.2.1 == 0 then (bif !!sanS (rd1 x.2.1) then (bif sh0 (wrdS (rd1 x.2.1)) && sh0 x.2.1 then (bif !!(wrdS (rd1 x.2.1) == x.2.1) then zerB F3 x.1 x.2.1 else some false) else none) else some false) else zerB F3 x.1 x.2.1⟩ :=
 spec_opt xL_ok (fun ⟨x,l,_⟩ r h=>(run_Back F3 x l).trans h) ⟨_,_,rfl,rfl⟩
theorem lem_Back (x:DsT [.ag X.kSt,.sc (.sl kU)]) (h:wfDs [.ag X.kSt,.sc (.sl kU)] x):(fun x:DsT [.ag X.kSt,.sc (.sl kU)]=>(bif decide ((List.length (α:=Int) x.2.1:Int) > 100) then some true else bif rd2 x.2.1 == 0 then (bif !!sanS (rd1 x.2.1) then (bif sh0 (wrdS (rd1 x.2.1)) && sh0 x.2.1 then (bif !!(wrdS (rd1 x.2.1) == x.2.1) then zerB F3 x.1 x.2.1 else some false) else none) else some false) else zerB F3 x.1 x.2.1:Option Bool)) x=some true :=
 Back_is x.1 x.2.1 (wordsWf h.2.1)
theorem Apart_is (x y:STT):(bif !!sanS x then (bif !sanS y then some true else bif sh0 (wrdS x) && sh0 (wrdS y) then some ((wrdS x == wrdS y) == eqS x y) else none) else some true)=some true:=by
 cases hx:sanS x with
 | false=>rfl
 | true =>
  cases hy:sanS y with
  | false=>rfl
  | true =>
   have s:∀ z,sanS z=true→sh0 (wrdS z)=true:=fun z hz=>by rw [wr_t hz];unfold sh0;rw [wS_len];rfl
   rw [s x hx,s y hy]
   have:(wrdS x == wrdS y)=eqS x y:=by
    rw [Bool.eq_iff_iff,eqS_iff,beq_iff_eq,wr_t hx,wr_t hy]
    constructor
    ·intro h
     rw [←read_back hx,h,read_back hy]
    ·rintro rfl;rfl
   rw [this]
   simp
theorem law_Apart:SpecOk Try.prog 6 ⟨[.ag X.kSt,.ag X.kSt],.one (.sc .bool),fun x=>some true⟩ :=
 spec_opt xL_ok (fun ⟨x,y,_⟩ r h=>(run_Apart F3 x y).trans ((Apart_is x y).trans h)) ⟨_,_,rfl,rfl⟩
end Go.Proofs.Ytgmkppeghnlcmaa.W
end
