/- Lemmas of the rows, laid by a program. -/
import Derived.Test.YtkeedfiffjpnfaaZM11
import Derived.Test.YtkeedfiffjpnfaaZM12
section
set_option linter.unusedVariables false
set_option linter.unusedSimpArgs false
namespace Go.Proofs.Ytkeedfiffjpnfaa.X
open Go Go.RowKit
set_option maxRecDepth 100000
set_option maxHeartbeats 4000000
set_option linter.unusedVariables false
set_option linter.unusedSimpArgs false
abbrev KW:Kd:=.sl KU
abbrev KN:Kd:=kindN 7 KI
structure Pf where
  G:MT→Int→List Int→Bool
  C:MT→Int→List Int→Int
  A:MT→Int→List Int→MT
def putF (p:Pf) (m:MT) (k:Int) (l:List Int):Fk PT:=.fk (p.G m k l) (.fk (p.C m k l == 0) (.yes (p.A m k l,0,())) (.fk (p.C m k l == 1) (.yes (p.A m k l,1,())) (.fk (p.C m k l == 2) (.yes (p.A m k l,2,()))
  (.fk (p.C m k l == 3) (.yes (p.A m k l,3,())) (.fk (p.C m k l == 4) (.yes (p.A m k l,4,())) (.fk (p.C m k l == 5) (.yes (p.A m k l,5,())) .no)))))) .no
abbrev alP (p:Pf):FuncId→Option Alt:=fun f=>match f with
  | 16=>some ⟨AP,RP,fun x=>putF p x.1 x.2.1 x.2.2.1⟩
  | _=>none
def putB {R:Type} (p:Pf) (m:MT) (k:Int) (l:List Int) (f:Nat→MT→Option R):Option R :=
  bif p.G m k l then (bif p.C m k l == 0 then f 0 (p.A m k l) else bif p.C m k l == 1 then f 1 (p.A m k l) else bif p.C m k l == 2 then f 2 (p.A m k l) else bif p.C m k l == 3 then f 3 (p.A m k l) else
    bif p.C m k l == 4 then f 4 (p.A m k l) else bif p.C m k l == 5 then f 5 (p.A m k l) else none) else none
abbrev dead4n:List Nat:=[3,4,5,6,13,14,15,16,17,18,19,20,21,22,23,24,25,26,27,28,29,30,31,32,33,34,35,36,37,38,39,40,41,42,43,44,45,46,47,48,49,50,51,52,53,54,55,56,57,58,59,60,61,62,63,64,65,66,67,68,69,70,71,72,73,74,75,76,77,78,79,80,81,82,83,84,85,86,87,88,89,90,91,92,93,94,95,96,97,98,99,100,101,102,103,104,105,106,107,108,109,110,111,112,113,114,115,116,117,118,119,120,121,122,123,124,125,126,127,128,129,130,131,132,133,134,135,136,137]
abbrev sk4n:StSk:=⟨[.seq KI,.seq KW,.seq KI,.junk,.junk,.junk,.junk,.bool,.int .i64,.ptr 0 0,.ptr 1 0,.nil,.int .i64,.junk,.junk,.junk,.junk,.junk,.junk,.junk,.junk,.junk,.junk,.junk,.junk,.junk,.junk,.junk,.junk,.junk,.junk,.junk,.junk,.junk,.junk,.junk,.junk,.junk,.junk,.junk,.junk,.junk,.junk,.junk,.junk,.junk,.junk,.junk,.junk,.junk,.junk,.junk,.junk,.junk,.junk,.junk,.junk,.junk,.junk,.junk,.junk,.junk,.junk,.junk,.junk,.junk,.junk,.junk,.junk,.junk,.junk,.junk,.junk,.junk,.junk,.junk,.junk,.junk,.junk,.junk,.junk,.junk,.junk,.junk,.junk,.junk,.junk,.junk,.junk,.junk,.junk,.junk,.junk,.junk,.junk,.junk,.junk,.junk,.junk,.junk,.junk,.junk,.junk,.junk,.junk,.junk,.junk,.junk,.junk,.junk,.junk,.junk,.junk,.junk,.junk,.junk,.junk,.junk,.junk,.junk,.junk,.junk,.junk,.junk,.junk,.junk,.junk,.junk,.junk,.junk,.junk,.junk,.junk,.junk,.junk,.junk,.junk,.junk],[some (.cells [.int .i64,.bool,.int .i64,.int .i64,.int .i64,.int .i64,.int .i64,.seq KS,.seq KS,.seq KS,.seq KS,.int .i64,.int .i64,.int .i64,.int .i64,.int .i64,.int .i64,.int .i64,.int .i64]),some (.cells [.int .i64,.int .i64,.int .i64,.int .i64,.int .i64,.int .i64,.int .i64])]⟩
structure D4n where
  r0:List (Int)
  r1:List (List Int)
  r2:List (Int)
  r7:Bool
  r8:Int
  r12:Int
  b0:MT
  b1:NT
abbrev fm4n (x:D4n):St:=⟨[.seq KI x.r0,.seq KW x.r1,.seq KI x.r2,.junk,.junk,.junk,.junk,.v (.bool x.r7),.v (.int .i64 x.r8),.ptr 0 0,.ptr 1 0,.v (.slice none 0 0),.v (.int .i64 x.r12),.junk,.junk,.junk,.junk,.junk,.junk,.junk,.junk,.junk,.junk,.junk,.junk,.junk,.junk,.junk,.junk,.junk,.junk,.junk,.junk,.junk,.junk,.junk,.junk,.junk,.junk,.junk,.junk,.junk,.junk,.junk,.junk,.junk,.junk,.junk,.junk,.junk,.junk,.junk,.junk,.junk,.junk,.junk,.junk,.junk,.junk,.junk,.junk,.junk,.junk,.junk,.junk,.junk,.junk,.junk,.junk,.junk,.junk,.junk,.junk,.junk,.junk,.junk,.junk,.junk,.junk,.junk,.junk,.junk,.junk,.junk,.junk,.junk,.junk,.junk,.junk,.junk,.junk,.junk,.junk,.junk,.junk,.junk,.junk,.junk,.junk,.junk,.junk,.junk,.junk,.junk,.junk,.junk,.junk,.junk,.junk,.junk,.junk,.junk,.junk,.junk,.junk,.junk,.junk,.junk,.junk,.junk,.junk,.junk,.junk,.junk,.junk,.junk,.junk,.junk,.junk,.junk,.junk,.junk,.junk,.junk,.junk,.junk,.junk,.junk],[some (true,.cells (Kd.cells KM x.b0)),some (true,.cells (Kd.cells KN x.b1))]⟩
def un4n (x:sk4n.T):D4n:=match x with
  | ((r0,r1,r2,_,_,_,_,r7,r8,_,_,_,r12,_,_,_,_,_,_,_,_,_,_,_,_,_,_,_,_,_,_,_,_,_,_,_,_,_,_,_,_,_,_,_,_,_,_,_,_,_,_,_,_,_,_,_,_,_,_,_,_,_,_,_,_,_,_,_,_,_,_,_,_,_,_,_,_,_,_,_,_,_,_,_,_,_,_,_,_,_,_,_,_,_,_,_,_,_,_,_,_,_,_,_,_,_,_,_,_,_,_,_,_,_,_,_,_,_,_,_,_,_,_,_,_,_,_,_,_,_,_,_,_,_,_,_,_,_,_),((b0_0,b0_1,b0_2,b0_3,b0_4,b0_5,b0_6,b0_7,b0_8,b0_9,b0_10,b0_11,b0_12,b0_13,b0_14,b0_15,b0_16,b0_17,b0_18,_),(b1_0,b1_1,b1_2,b1_3,b1_4,b1_5,b1_6,_),_))=>⟨r0,r1,r2,r7,r8,r12,(b0_0,b0_1,(b0_2,b0_3,(b0_4,b0_5,b0_6,()),()),(b0_7,b0_8,b0_9,b0_10,()),(b0_11,b0_12,b0_13,b0_14,b0_15,b0_16,b0_17,()),b0_18,()),(b1_0,b1_1,b1_2,b1_3,b1_4,b1_5,b1_6,())⟩
theorem un4n_ok (x:sk4n.T):sk4n.fill x=fm4n (un4n x):=by kernel_rfl
abbrev dead4o:List Nat:=[3,4,5,6,13,14,15,16,17,18,19,20,21,22,23,24,25,26,27,28,29,30,31,32,33,34,35,36,37,38,39,40,41,42,43,44,45,46,47,48,49,50,51,52,53,54,55,56,57,58,59,60,61,62,63,64,65,66,67,68,69,70,71,72,73,74,75,76,77,78,79,80,81,82,83,84,85,86,87,88,89,90,91,92,93,94,95,96,97,98,99,100,101,102,103,104,105,106,107,108,109,110,111,112,113,114,115,116,117,118,119,120,121,122,123,124,125,126,127,128,129,130,131,132,133,134,135,136,137]
abbrev sk4o:StSk:=⟨[.seq KI,.seq KW,.seq KI,.junk,.junk,.junk,.junk,.bool,.int .i64,.ptr 0 0,.ptr 1 0,.own 2,.int .i64,.junk,.junk,.junk,.junk,.junk,.junk,.junk,.junk,.junk,.junk,.junk,.junk,.junk,.junk,.junk,.junk,.junk,.junk,.junk,.junk,.junk,.junk,.junk,.junk,.junk,.junk,.junk,.junk,.junk,.junk,.junk,.junk,.junk,.junk,.junk,.junk,.junk,.junk,.junk,.junk,.junk,.junk,.junk,.junk,.junk,.junk,.junk,.junk,.junk,.junk,.junk,.junk,.junk,.junk,.junk,.junk,.junk,.junk,.junk,.junk,.junk,.junk,.junk,.junk,.junk,.junk,.junk,.junk,.junk,.junk,.junk,.junk,.junk,.junk,.junk,.junk,.junk,.junk,.junk,.junk,.junk,.junk,.junk,.junk,.junk,.junk,.junk,.junk,.junk,.junk,.junk,.junk,.junk,.junk,.junk,.junk,.junk,.junk,.junk,.junk,.junk,.junk,.junk,.junk,.junk,.junk,.junk,.junk,.junk,.junk,.junk,.junk,.junk,.junk,.junk,.junk,.junk,.junk,.junk,.junk,.junk,.junk,.junk,.junk,.junk],[some (.cells [.int .i64,.bool,.int .i64,.int .i64,.int .i64,.int .i64,.int .i64,.seq KS,.seq KS,.seq KS,.seq KS,.int .i64,.int .i64,.int .i64,.int .i64,.int .i64,.int .i64,.int .i64,.int .i64]),some (.cells [.int .i64,.int .i64,.int .i64,.int .i64,.int .i64,.int .i64,.int .i64]),some (.row 24 KS)]⟩
structure D4o where
  r0:List (Int)
  r1:List (List Int)
  r2:List (Int)
  r7:Bool
  r8:Int
  r12:Int
  b0:MT
  b1:NT
  b2:List (ST)
abbrev fm4o (x:D4o):St:=⟨[.seq KI x.r0,.seq KW x.r1,.seq KI x.r2,.junk,.junk,.junk,.junk,.v (.bool x.r7),.v (.int .i64 x.r8),.ptr 0 0,.ptr 1 0,.own 2,.v (.int .i64 x.r12),.junk,.junk,.junk,.junk,.junk,.junk,.junk,.junk,.junk,.junk,.junk,.junk,.junk,.junk,.junk,.junk,.junk,.junk,.junk,.junk,.junk,.junk,.junk,.junk,.junk,.junk,.junk,.junk,.junk,.junk,.junk,.junk,.junk,.junk,.junk,.junk,.junk,.junk,.junk,.junk,.junk,.junk,.junk,.junk,.junk,.junk,.junk,.junk,.junk,.junk,.junk,.junk,.junk,.junk,.junk,.junk,.junk,.junk,.junk,.junk,.junk,.junk,.junk,.junk,.junk,.junk,.junk,.junk,.junk,.junk,.junk,.junk,.junk,.junk,.junk,.junk,.junk,.junk,.junk,.junk,.junk,.junk,.junk,.junk,.junk,.junk,.junk,.junk,.junk,.junk,.junk,.junk,.junk,.junk,.junk,.junk,.junk,.junk,.junk,.junk,.junk,.junk,.junk,.junk,.junk,.junk,.junk,.junk,.junk,.junk,.junk,.junk,.junk,.junk,.junk,.junk,.junk,.junk,.junk,.junk,.junk,.junk,.junk,.junk,.junk],[some (true,.cells (Kd.cells KM x.b0)),some (true,.cells (Kd.cells KN x.b1)),some (true,.row 24 KS x.b2)]⟩
def un4o (x:sk4o.T):D4o:=match x with
  | ((r0,r1,r2,_,_,_,_,r7,r8,_,_,_,r12,_,_,_,_,_,_,_,_,_,_,_,_,_,_,_,_,_,_,_,_,_,_,_,_,_,_,_,_,_,_,_,_,_,_,_,_,_,_,_,_,_,_,_,_,_,_,_,_,_,_,_,_,_,_,_,_,_,_,_,_,_,_,_,_,_,_,_,_,_,_,_,_,_,_,_,_,_,_,_,_,_,_,_,_,_,_,_,_,_,_,_,_,_,_,_,_,_,_,_,_,_,_,_,_,_,_,_,_,_,_,_,_,_,_,_,_,_,_,_,_,_,_,_,_,_,_),((b0_0,b0_1,b0_2,b0_3,b0_4,b0_5,b0_6,b0_7,b0_8,b0_9,b0_10,b0_11,b0_12,b0_13,b0_14,b0_15,b0_16,b0_17,b0_18,_),(b1_0,b1_1,b1_2,b1_3,b1_4,b1_5,b1_6,_),b2,_))=>⟨r0,r1,r2,r7,r8,r12,(b0_0,b0_1,(b0_2,b0_3,(b0_4,b0_5,b0_6,()),()),(b0_7,b0_8,b0_9,b0_10,()),(b0_11,b0_12,b0_13,b0_14,b0_15,b0_16,b0_17,()),b0_18,()),(b1_0,b1_1,b1_2,b1_3,b1_4,b1_5,b1_6,()),b2⟩
theorem un4o_ok (x:sk4o.T):sk4o.fill x=fm4o (un4o x):=by kernel_rfl
abbrev dead4x:List Nat:=dead 138 [6,7,8,9,10,11]
abbrev fe4n (x:D4n):St:=⟨regs 138 [(7,.v (.bool x.r7)),(8,.v (.int .i64 x.r8)),(9,.ptr 0 0),(10,.ptr 1 0),(11,.v (.slice none 0 0))],[some (true,.cells (Kd.cells KM x.b0)),some (true,.cells (Kd.cells KN x.b1))]⟩
abbrev fr4n (x:D4n):St:=⟨regs 138 [(6,.v (.bool x.r7)),(7,.v (.bool x.r7)),(8,.v (.int .i64 x.r8)),(9,.ptr 0 0),(10,.ptr 1 0),(11,.v (.slice none 0 0))],[some (true,.cells (Kd.cells KM x.b0)),some (true,.cells (Kd.cells KN x.b1))]⟩
abbrev fe4o (x:D4o):St:=⟨regs 138 [(7,.v (.bool x.r7)),(8,.v (.int .i64 x.r8)),(9,.ptr 0 0),(10,.ptr 1 0),(11,.own 2)],[some (true,.cells (Kd.cells KM x.b0)),some (true,.cells (Kd.cells KN x.b1)),some (true,.row 24 KS x.b2)]⟩
abbrev fr4o (x:D4o):St:=⟨regs 138 [(6,.v (.bool x.r7)),(7,.v (.bool x.r7)),(8,.v (.int .i64 x.r8)),(9,.ptr 0 0),(10,.ptr 1 0),(11,.own 2)],[some (true,.cells (Kd.cells KM x.b0)),some (true,.cells (Kd.cells KN x.b1)),some (true,.row 24 KS x.b2)]⟩
def rnd4 {R:Type} (F:Fs) (p:Pf) (from_:List Int) (words:List (List Int)) (marks:List Int) (n i:Int) (m:MT) (errs:NT) (taken:List ST) (M:MT→NT→List ST→Option R) (A B:Option R):Option R :=
  bif decide (i<n) then (bif inB i words.length then (bif decide (((show List Int from rd KW words i.toNat).length:Int) > 100) then A else (bif inB i from_.length then (bif inB i words.length then
    putB p m (rd KI from_ i.toNat) (rd KW words i.toNat) (fun e a=>bif inB i marks.length then (F.Al (F.Tl a (rd KI marks i.toNat))).bind fun y=>bif room tis 24 (taken.length+y.2.1.length) then
      M y.1 (setN errs (IntKind.i64.wrap (nOf errs e+1)) e) (taken++y.2.1) else none else none) else none) else none)) else none) else B
def rnd4a {R:Type} (F:Fs) (p:Pf) (from_:List Int) (words:List (List Int)) (marks:List Int) (n i:Int) (m:MT) (errs:NT) (M:MT→NT→List ST→Option R) (A B:Option R):Option R :=
  bif decide (i<n) then (bif inB i words.length then (bif decide (((show List Int from rd KW words i.toNat).length:Int) > 100) then A else (bif inB i from_.length then (bif inB i words.length then
    putB p m (rd KI from_ i.toNat) (rd KW words i.toNat) (fun e a=>bif inB i marks.length then (F.Al (F.Tl a (rd KI marks i.toNat))).bind fun y=>bif room tis 24 y.2.1.length then
      M y.1 (setN errs (IntKind.i64.wrap (nOf errs e+1)) e) y.2.1 else none else none) else none) else none)) else none) else B
theorem round4n {R:Type} {lps:Lps R} (F:Fs) (p:Pf) (x:D4n) (N:Option St→Option R) (E:Ex→Option St→Option R) :
  roundx (codex (mka (spI F) (alP p)) lps (callN (mka (spI F) (alP p)) 20) 4 (loopAt (mka (spI F) (alP p)) 4 0)) (headx dead4n) (headx dead4x) (fm4n x) N E =
   rnd4a F p x.r0 x.r1 x.r2 x.r8 x.r12 x.b0 x.b1 (fun m errs taken=>N (some (fm4o ⟨x.r0,x.r1,x.r2,x.r7,x.r8,IntKind.i64.wrap (x.r12+1),m,errs,taken⟩))) (E .ret (some (fr4n x))) (E (.exit 0) (some (fe4n x))):=by
 kernel_rfl
theorem round4o {R:Type} {lps:Lps R} (F:Fs) (p:Pf) (x:D4o) (N:Option St→Option R) (E:Ex→Option St→Option R) :
  roundx (codex (mka (spI F) (alP p)) lps (callN (mka (spI F) (alP p)) 20) 4 (loopAt (mka (spI F) (alP p)) 4 0)) (headx dead4n) (headx dead4x) (fm4o x) N E =
   rnd4 F p x.r0 x.r1 x.r2 x.r8 x.r12 x.b0 x.b1 x.b2 (fun m errs taken=>N (some (fm4o ⟨x.r0,x.r1,x.r2,x.r7,x.r8,IntKind.i64.wrap (x.r12+1),m,errs,taken⟩))) (E .ret (some (fr4o x))) (E (.exit 0) (some (fe4o x))):=by
 kernel_rfl
end Go.Proofs.Ytkeedfiffjpnfaa.X
end
section
set_option linter.unusedVariables false
set_option linter.unusedSimpArgs false
namespace Go.Proofs.Ytkeedfiffjpnfaa.X
open Go Go.RowKit
set_option maxRecDepth 100000
set_option maxHeartbeats 4000000
set_option linter.unusedVariables false
set_option linter.unusedSimpArgs false
abbrev dead4p:List Nat:=[0,1,2,3,4,5,6,12,13,14,15,16,18,20,21,22,23,24,25,26,27,28,29,30,31,32,33,34,35,36,37,38,39,40,41,42,43,44,45,46,47,48,49,50,51,52,53,54,55,56,57,58,59,60,61,62,63,64,65,66,67,68,69,70,71,72,73,74,75,76,77,78,79,80,81,82,83,84,85,86,87,88,89,90,91,92,93,94,95,96,97,98,99,100,101,102,103,104,105,106,107,108,109,110,111,112,113,114,115,116,117,118,119,120,121,122,123,124,125,126,127,128,129,130,131,132,133,134,135,136,137]
abbrev sk4p:StSk:=⟨[.junk,.junk,.junk,.junk,.junk,.junk,.junk,.bool,.int .i64,.ptr 0 0,.ptr 1 0,.nil,.junk,.junk,.junk,.junk,.junk,.int .i64,.junk,.int .i64,.junk,.junk,.junk,.junk,.junk,.junk,.junk,.junk,.junk,.junk,.junk,.junk,.junk,.junk,.junk,.junk,.junk,.junk,.junk,.junk,.junk,.junk,.junk,.junk,.junk,.junk,.junk,.junk,.junk,.junk,.junk,.junk,.junk,.junk,.junk,.junk,.junk,.junk,.junk,.junk,.junk,.junk,.junk,.junk,.junk,.junk,.junk,.junk,.junk,.junk,.junk,.junk,.junk,.junk,.junk,.junk,.junk,.junk,.junk,.junk,.junk,.junk,.junk,.junk,.junk,.junk,.junk,.junk,.junk,.junk,.junk,.junk,.junk,.junk,.junk,.junk,.junk,.junk,.junk,.junk,.junk,.junk,.junk,.junk,.junk,.junk,.junk,.junk,.junk,.junk,.junk,.junk,.junk,.junk,.junk,.junk,.junk,.junk,.junk,.junk,.junk,.junk,.junk,.junk,.junk,.junk,.junk,.junk,.junk,.junk,.junk,.junk,.junk,.junk,.junk,.junk,.junk,.junk],[some (.cells [.int .i64,.bool,.int .i64,.int .i64,.int .i64,.int .i64,.int .i64,.seq KS,.seq KS,.seq KS,.seq KS,.int .i64,.int .i64,.int .i64,.int .i64,.int .i64,.int .i64,.int .i64,.int .i64]),some (.cells [.int .i64,.int .i64,.int .i64,.int .i64,.int .i64,.int .i64,.int .i64])]⟩
structure D4p where
  r7:Bool
  r8:Int
  r17:Int
  r19:Int
  b0:MT
  b1:NT
abbrev fm4p (x:D4p):St:=⟨[.junk,.junk,.junk,.junk,.junk,.junk,.junk,.v (.bool x.r7),.v (.int .i64 x.r8),.ptr 0 0,.ptr 1 0,.v (.slice none 0 0),.junk,.junk,.junk,.junk,.junk,.v (.int .i64 x.r17),.junk,.v (.int .i64 x.r19),.junk,.junk,.junk,.junk,.junk,.junk,.junk,.junk,.junk,.junk,.junk,.junk,.junk,.junk,.junk,.junk,.junk,.junk,.junk,.junk,.junk,.junk,.junk,.junk,.junk,.junk,.junk,.junk,.junk,.junk,.junk,.junk,.junk,.junk,.junk,.junk,.junk,.junk,.junk,.junk,.junk,.junk,.junk,.junk,.junk,.junk,.junk,.junk,.junk,.junk,.junk,.junk,.junk,.junk,.junk,.junk,.junk,.junk,.junk,.junk,.junk,.junk,.junk,.junk,.junk,.junk,.junk,.junk,.junk,.junk,.junk,.junk,.junk,.junk,.junk,.junk,.junk,.junk,.junk,.junk,.junk,.junk,.junk,.junk,.junk,.junk,.junk,.junk,.junk,.junk,.junk,.junk,.junk,.junk,.junk,.junk,.junk,.junk,.junk,.junk,.junk,.junk,.junk,.junk,.junk,.junk,.junk,.junk,.junk,.junk,.junk,.junk,.junk,.junk,.junk,.junk,.junk,.junk],[some (true,.cells (Kd.cells KM x.b0)),some (true,.cells (Kd.cells KN x.b1))]⟩
def un4p (x:sk4p.T):D4p:=match x with
  | ((_,_,_,_,_,_,_,r7,r8,_,_,_,_,_,_,_,_,r17,_,r19,_,_,_,_,_,_,_,_,_,_,_,_,_,_,_,_,_,_,_,_,_,_,_,_,_,_,_,_,_,_,_,_,_,_,_,_,_,_,_,_,_,_,_,_,_,_,_,_,_,_,_,_,_,_,_,_,_,_,_,_,_,_,_,_,_,_,_,_,_,_,_,_,_,_,_,_,_,_,_,_,_,_,_,_,_,_,_,_,_,_,_,_,_,_,_,_,_,_,_,_,_,_,_,_,_,_,_,_,_,_,_,_,_,_,_,_,_,_,_),((b0_0,b0_1,b0_2,b0_3,b0_4,b0_5,b0_6,b0_7,b0_8,b0_9,b0_10,b0_11,b0_12,b0_13,b0_14,b0_15,b0_16,b0_17,b0_18,_),(b1_0,b1_1,b1_2,b1_3,b1_4,b1_5,b1_6,_),_))=>⟨r7,r8,r17,r19,(b0_0,b0_1,(b0_2,b0_3,(b0_4,b0_5,b0_6,()),()),(b0_7,b0_8,b0_9,b0_10,()),(b0_11,b0_12,b0_13,b0_14,b0_15,b0_16,b0_17,()),b0_18,()),(b1_0,b1_1,b1_2,b1_3,b1_4,b1_5,b1_6,())⟩
theorem un4p_ok (x:sk4p.T):sk4p.fill x=fm4p (un4p x):=by kernel_rfl
abbrev dead4q:List Nat:=[0,1,2,3,4,5,6,12,13,14,15,16,18,20,21,22,23,24,25,26,27,28,29,30,31,32,33,34,35,36,37,38,39,40,41,42,43,44,45,46,47,48,49,50,51,52,53,54,55,56,57,58,59,60,61,62,63,64,65,66,67,68,69,70,71,72,73,74,75,76,77,78,79,80,81,82,83,84,85,86,87,88,89,90,91,92,93,94,95,96,97,98,99,100,101,102,103,104,105,106,107,108,109,110,111,112,113,114,115,116,117,118,119,120,121,122,123,124,125,126,127,128,129,130,131,132,133,134,135,136,137]
abbrev sk4q:StSk:=⟨[.junk,.junk,.junk,.junk,.junk,.junk,.junk,.bool,.int .i64,.ptr 0 0,.ptr 1 0,.own 2,.junk,.junk,.junk,.junk,.junk,.int .i64,.junk,.int .i64,.junk,.junk,.junk,.junk,.junk,.junk,.junk,.junk,.junk,.junk,.junk,.junk,.junk,.junk,.junk,.junk,.junk,.junk,.junk,.junk,.junk,.junk,.junk,.junk,.junk,.junk,.junk,.junk,.junk,.junk,.junk,.junk,.junk,.junk,.junk,.junk,.junk,.junk,.junk,.junk,.junk,.junk,.junk,.junk,.junk,.junk,.junk,.junk,.junk,.junk,.junk,.junk,.junk,.junk,.junk,.junk,.junk,.junk,.junk,.junk,.junk,.junk,.junk,.junk,.junk,.junk,.junk,.junk,.junk,.junk,.junk,.junk,.junk,.junk,.junk,.junk,.junk,.junk,.junk,.junk,.junk,.junk,.junk,.junk,.junk,.junk,.junk,.junk,.junk,.junk,.junk,.junk,.junk,.junk,.junk,.junk,.junk,.junk,.junk,.junk,.junk,.junk,.junk,.junk,.junk,.junk,.junk,.junk,.junk,.junk,.junk,.junk,.junk,.junk,.junk,.junk,.junk,.junk],[some (.cells [.int .i64,.bool,.int .i64,.int .i64,.int .i64,.int .i64,.int .i64,.seq KS,.seq KS,.seq KS,.seq KS,.int .i64,.int .i64,.int .i64,.int .i64,.int .i64,.int .i64,.int .i64,.int .i64]),some (.cells [.int .i64,.int .i64,.int .i64,.int .i64,.int .i64,.int .i64,.int .i64]),some (.row 24 KS)]⟩
structure D4q where
  r7:Bool
  r8:Int
  r17:Int
  r19:Int
  b0:MT
  b1:NT
  b2:List (ST)
abbrev fm4q (x:D4q):St:=⟨[.junk,.junk,.junk,.junk,.junk,.junk,.junk,.v (.bool x.r7),.v (.int .i64 x.r8),.ptr 0 0,.ptr 1 0,.own 2,.junk,.junk,.junk,.junk,.junk,.v (.int .i64 x.r17),.junk,.v (.int .i64 x.r19),.junk,.junk,.junk,.junk,.junk,.junk,.junk,.junk,.junk,.junk,.junk,.junk,.junk,.junk,.junk,.junk,.junk,.junk,.junk,.junk,.junk,.junk,.junk,.junk,.junk,.junk,.junk,.junk,.junk,.junk,.junk,.junk,.junk,.junk,.junk,.junk,.junk,.junk,.junk,.junk,.junk,.junk,.junk,.junk,.junk,.junk,.junk,.junk,.junk,.junk,.junk,.junk,.junk,.junk,.junk,.junk,.junk,.junk,.junk,.junk,.junk,.junk,.junk,.junk,.junk,.junk,.junk,.junk,.junk,.junk,.junk,.junk,.junk,.junk,.junk,.junk,.junk,.junk,.junk,.junk,.junk,.junk,.junk,.junk,.junk,.junk,.junk,.junk,.junk,.junk,.junk,.junk,.junk,.junk,.junk,.junk,.junk,.junk,.junk,.junk,.junk,.junk,.junk,.junk,.junk,.junk,.junk,.junk,.junk,.junk,.junk,.junk,.junk,.junk,.junk,.junk,.junk,.junk],[some (true,.cells (Kd.cells KM x.b0)),some (true,.cells (Kd.cells KN x.b1)),some (true,.row 24 KS x.b2)]⟩
def un4q (x:sk4q.T):D4q:=match x with
  | ((_,_,_,_,_,_,_,r7,r8,_,_,_,_,_,_,_,_,r17,_,r19,_,_,_,_,_,_,_,_,_,_,_,_,_,_,_,_,_,_,_,_,_,_,_,_,_,_,_,_,_,_,_,_,_,_,_,_,_,_,_,_,_,_,_,_,_,_,_,_,_,_,_,_,_,_,_,_,_,_,_,_,_,_,_,_,_,_,_,_,_,_,_,_,_,_,_,_,_,_,_,_,_,_,_,_,_,_,_,_,_,_,_,_,_,_,_,_,_,_,_,_,_,_,_,_,_,_,_,_,_,_,_,_,_,_,_,_,_,_,_),((b0_0,b0_1,b0_2,b0_3,b0_4,b0_5,b0_6,b0_7,b0_8,b0_9,b0_10,b0_11,b0_12,b0_13,b0_14,b0_15,b0_16,b0_17,b0_18,_),(b1_0,b1_1,b1_2,b1_3,b1_4,b1_5,b1_6,_),b2,_))=>⟨r7,r8,r17,r19,(b0_0,b0_1,(b0_2,b0_3,(b0_4,b0_5,b0_6,()),()),(b0_7,b0_8,b0_9,b0_10,()),(b0_11,b0_12,b0_13,b0_14,b0_15,b0_16,b0_17,()),b0_18,()),(b1_0,b1_1,b1_2,b1_3,b1_4,b1_5,b1_6,()),b2⟩
theorem un4q_ok (x:sk4q.T):sk4q.fill x=fm4q (un4q x):=by kernel_rfl
abbrev dead4y:List Nat:=dead 138 [6,7,8,9,10,11,17]
abbrev fe4p (x:D4p):St:=⟨regs 138 [(7,.v (.bool x.r7)),(8,.v (.int .i64 x.r8)),(9,.ptr 0 0),(10,.ptr 1 0),(11,.v (.slice none 0 0)),(17,.v (.int .i64 x.r17))],[some (true,.cells (Kd.cells KM x.b0)),some (true,.cells (Kd.cells KN x.b1))]⟩
abbrev fe4q (x:D4q):St:=⟨regs 138 [(7,.v (.bool x.r7)),(8,.v (.int .i64 x.r8)),(9,.ptr 0 0),(10,.ptr 1 0),(11,.own 2),(17,.v (.int .i64 x.r17))],[some (true,.cells (Kd.cells KM x.b0)),some (true,.cells (Kd.cells KN x.b1)),some (true,.row 24 KS x.b2)]⟩
abbrev fr4q (x:D4q):St:=⟨regs 138 [(6,.v (.bool false)),(7,.v (.bool x.r7)),(8,.v (.int .i64 x.r8)),(9,.ptr 0 0),(10,.ptr 1 0),(11,.own 2),(17,.v (.int .i64 x.r17))],[some (true,.cells (Kd.cells KM x.b0)),some (true,.cells (Kd.cells KN x.b1)),some (true,.row 24 KS x.b2)]⟩
def rnd4q {R:Type} (F:Fs) (taken:List ST) (i:Int) (A B C:Option R):Option R :=
  bif decide (i<taken.length) then (bif inB (IntKind.i64.wrap (i-1)) taken.length then (bif inB i taken.length then (bif !F.Bf (rd KS taken (IntKind.i64.wrap (i-1)).toNat) (rd KS taken i.toNat) then B else A) else none) else none) else C
theorem round4p {R:Type} {lps:Lps R} (F:Fs) (p:Pf) (x:D4p) (N:Option St→Option R) (E:Ex→Option St→Option R) :
  roundx (codex (mka (spI F) (alP p)) lps (callN (mka (spI F) (alP p)) 20) 4 (loopAt (mka (spI F) (alP p)) 4 2)) (headx dead4p) (headx dead4y) (fm4p { x with r19:=1 }) N E=E (.exit 4) (some (fe4p x)):=by
 kernel_rfl
theorem round4q {R:Type} {lps:Lps R} (F:Fs) (p:Pf) (x:D4q) (N:Option St→Option R) (E:Ex→Option St→Option R) :
  roundx (codex (mka (spI F) (alP p)) lps (callN (mka (spI F) (alP p)) 20) 4 (loopAt (mka (spI F) (alP p)) 4 2)) (headx dead4q) (headx dead4y) (fm4q x) N E=rnd4q F x.b2 x.r19 (N (some (fm4q { x with r19:=IntKind.i64.wrap (x.r19+1) }))) (E .ret (some (fr4q x))) (E (.exit 4) (some (fe4q x))):=by
 kernel_rfl
end Go.Proofs.Ytkeedfiffjpnfaa.X
end
section
set_option linter.unusedVariables false
set_option linter.unusedSimpArgs false
namespace Go.Proofs.Ytkeedfiffjpnfaa.X
open Go Go.RowKit
set_option maxRecDepth 100000
set_option maxHeartbeats 4000000
set_option linter.unusedVariables false
set_option linter.unusedSimpArgs false
abbrev dead4z:List Nat:=[3,4,5,6,13,14,15,16,17,18,19,20,21,22,23,24,25,26,27,28,29,30,31,32,33,34,35,36,37,38,39,40,41,42,43,44,45,46,47,48,49,50,51,52,53,54,55,56,57,58,59,60,61,62,63,64,65,66,67,68,69,70,71,72,73,74,75,76,77,78,79,80,81,82,83,84,85,86,87,88,89,90,91,92,93,94,95,96,97,98,99,100,101,102,103,104,105,106,107,108,109,110,111,112,113,114,115,116,117,118,119,120,121,122,123,124,125,126,127,128,129,130,131,132,133,134,135,136,137]
abbrev sk4z:StSk:=⟨[.seq KI,.seq KW,.seq KI,.junk,.junk,.junk,.junk,.bool,.int .i64,.ptr 0 0,.ptr 1 0,.nil,.int .i64,.junk,.junk,.junk,.junk,.junk,.junk,.junk,.junk,.junk,.junk,.junk,.junk,.junk,.junk,.junk,.junk,.junk,.junk,.junk,.junk,.junk,.junk,.junk,.junk,.junk,.junk,.junk,.junk,.junk,.junk,.junk,.junk,.junk,.junk,.junk,.junk,.junk,.junk,.junk,.junk,.junk,.junk,.junk,.junk,.junk,.junk,.junk,.junk,.junk,.junk,.junk,.junk,.junk,.junk,.junk,.junk,.junk,.junk,.junk,.junk,.junk,.junk,.junk,.junk,.junk,.junk,.junk,.junk,.junk,.junk,.junk,.junk,.junk,.junk,.junk,.junk,.junk,.junk,.junk,.junk,.junk,.junk,.junk,.junk,.junk,.junk,.junk,.junk,.junk,.junk,.junk,.junk,.junk,.junk,.junk,.junk,.junk,.junk,.junk,.junk,.junk,.junk,.junk,.junk,.junk,.junk,.junk,.junk,.junk,.junk,.junk,.junk,.junk,.junk,.junk,.junk,.junk,.junk,.junk,.junk,.junk,.junk,.junk,.junk,.junk],[some (.cells [.lit .i64 0,.bool,.lit .i64 0,.lit .i64 0,.lit .i64 0,.lit .i64 0,.lit .i64 0,.nil,.nil,.nil,.nil,.lit .i64 0,.lit .i64 0,.lit .i64 0,.lit .i64 0,.lit .i64 0,.lit .i64 0,.lit .i64 0,.lit .i64 0]),some (.cells [.int .i64,.int .i64,.int .i64,.int .i64,.int .i64,.int .i64,.int .i64])]⟩
structure D4z where
  r0:List (Int)
  r1:List (List Int)
  r2:List (Int)
  r7:Bool
  r8:Int
  r12:Int
  b0_1:Bool
  b1:NT
abbrev fm4z (x:D4z):St:=⟨[.seq KI x.r0,.seq KW x.r1,.seq KI x.r2,.junk,.junk,.junk,.junk,.v (.bool x.r7),.v (.int .i64 x.r8),.ptr 0 0,.ptr 1 0,.v (.slice none 0 0),.v (.int .i64 x.r12),.junk,.junk,.junk,.junk,.junk,.junk,.junk,.junk,.junk,.junk,.junk,.junk,.junk,.junk,.junk,.junk,.junk,.junk,.junk,.junk,.junk,.junk,.junk,.junk,.junk,.junk,.junk,.junk,.junk,.junk,.junk,.junk,.junk,.junk,.junk,.junk,.junk,.junk,.junk,.junk,.junk,.junk,.junk,.junk,.junk,.junk,.junk,.junk,.junk,.junk,.junk,.junk,.junk,.junk,.junk,.junk,.junk,.junk,.junk,.junk,.junk,.junk,.junk,.junk,.junk,.junk,.junk,.junk,.junk,.junk,.junk,.junk,.junk,.junk,.junk,.junk,.junk,.junk,.junk,.junk,.junk,.junk,.junk,.junk,.junk,.junk,.junk,.junk,.junk,.junk,.junk,.junk,.junk,.junk,.junk,.junk,.junk,.junk,.junk,.junk,.junk,.junk,.junk,.junk,.junk,.junk,.junk,.junk,.junk,.junk,.junk,.junk,.junk,.junk,.junk,.junk,.junk,.junk,.junk,.junk,.junk,.junk,.junk,.junk,.junk],[some (true,.cells [.v (.int .i64 0),.v (.bool x.b0_1),.v (.int .i64 0),.v (.int .i64 0),.v (.int .i64 0),.v (.int .i64 0),.v (.int .i64 0),.v (.slice none 0 0),.v (.slice none 0 0),.v (.slice none 0 0),.v (.slice none 0 0),.v (.int .i64 0),.v (.int .i64 0),.v (.int .i64 0),.v (.int .i64 0),.v (.int .i64 0),.v (.int .i64 0),.v (.int .i64 0),.v (.int .i64 0)]),some (true,.cells (Kd.cells KN x.b1))]⟩
def un4z (x:sk4z.T):D4z:=match x with
  | ((r0,r1,r2,_,_,_,_,r7,r8,_,_,_,r12,_,_,_,_,_,_,_,_,_,_,_,_,_,_,_,_,_,_,_,_,_,_,_,_,_,_,_,_,_,_,_,_,_,_,_,_,_,_,_,_,_,_,_,_,_,_,_,_,_,_,_,_,_,_,_,_,_,_,_,_,_,_,_,_,_,_,_,_,_,_,_,_,_,_,_,_,_,_,_,_,_,_,_,_,_,_,_,_,_,_,_,_,_,_,_,_,_,_,_,_,_,_,_,_,_,_,_,_,_,_,_,_,_,_,_,_,_,_,_,_,_,_,_,_,_,_),((_,b0_1,_,_,_,_,_,_,_,_,_,_,_,_,_,_,_,_,_,_),(b1_0,b1_1,b1_2,b1_3,b1_4,b1_5,b1_6,_),_))=>⟨r0,r1,r2,r7,r8,r12,b0_1,(b1_0,b1_1,b1_2,b1_3,b1_4,b1_5,b1_6,())⟩
theorem un4z_ok (x:sk4z.T):sk4z.fill x=fm4z (un4z x):=by kernel_rfl
abbrev dead4pz:List Nat:=[0,1,2,3,4,5,6,12,13,14,15,16,18,20,21,22,23,24,25,26,27,28,29,30,31,32,33,34,35,36,37,38,39,40,41,42,43,44,45,46,47,48,49,50,51,52,53,54,55,56,57,58,59,60,61,62,63,64,65,66,67,68,69,70,71,72,73,74,75,76,77,78,79,80,81,82,83,84,85,86,87,88,89,90,91,92,93,94,95,96,97,98,99,100,101,102,103,104,105,106,107,108,109,110,111,112,113,114,115,116,117,118,119,120,121,122,123,124,125,126,127,128,129,130,131,132,133,134,135,136,137]
abbrev sk4pz:StSk:=⟨[.junk,.junk,.junk,.junk,.junk,.junk,.junk,.bool,.int .i64,.ptr 0 0,.ptr 1 0,.nil,.junk,.junk,.junk,.junk,.junk,.int .i64,.junk,.int .i64,.junk,.junk,.junk,.junk,.junk,.junk,.junk,.junk,.junk,.junk,.junk,.junk,.junk,.junk,.junk,.junk,.junk,.junk,.junk,.junk,.junk,.junk,.junk,.junk,.junk,.junk,.junk,.junk,.junk,.junk,.junk,.junk,.junk,.junk,.junk,.junk,.junk,.junk,.junk,.junk,.junk,.junk,.junk,.junk,.junk,.junk,.junk,.junk,.junk,.junk,.junk,.junk,.junk,.junk,.junk,.junk,.junk,.junk,.junk,.junk,.junk,.junk,.junk,.junk,.junk,.junk,.junk,.junk,.junk,.junk,.junk,.junk,.junk,.junk,.junk,.junk,.junk,.junk,.junk,.junk,.junk,.junk,.junk,.junk,.junk,.junk,.junk,.junk,.junk,.junk,.junk,.junk,.junk,.junk,.junk,.junk,.junk,.junk,.junk,.junk,.junk,.junk,.junk,.junk,.junk,.junk,.junk,.junk,.junk,.junk,.junk,.junk,.junk,.junk,.junk,.junk,.junk,.junk],[some (.cells [.lit .i64 0,.bool,.lit .i64 0,.lit .i64 0,.lit .i64 0,.lit .i64 0,.lit .i64 0,.nil,.nil,.nil,.nil,.lit .i64 0,.lit .i64 0,.lit .i64 0,.lit .i64 0,.lit .i64 0,.lit .i64 0,.lit .i64 0,.lit .i64 0]),some (.cells [.int .i64,.int .i64,.int .i64,.int .i64,.int .i64,.int .i64,.int .i64])]⟩
structure D4pz where
  r7:Bool
  r8:Int
  r17:Int
  r19:Int
  b0_1:Bool
  b1:NT
abbrev fm4pz (x:D4pz):St:=⟨[.junk,.junk,.junk,.junk,.junk,.junk,.junk,.v (.bool x.r7),.v (.int .i64 x.r8),.ptr 0 0,.ptr 1 0,.v (.slice none 0 0),.junk,.junk,.junk,.junk,.junk,.v (.int .i64 x.r17),.junk,.v (.int .i64 x.r19),.junk,.junk,.junk,.junk,.junk,.junk,.junk,.junk,.junk,.junk,.junk,.junk,.junk,.junk,.junk,.junk,.junk,.junk,.junk,.junk,.junk,.junk,.junk,.junk,.junk,.junk,.junk,.junk,.junk,.junk,.junk,.junk,.junk,.junk,.junk,.junk,.junk,.junk,.junk,.junk,.junk,.junk,.junk,.junk,.junk,.junk,.junk,.junk,.junk,.junk,.junk,.junk,.junk,.junk,.junk,.junk,.junk,.junk,.junk,.junk,.junk,.junk,.junk,.junk,.junk,.junk,.junk,.junk,.junk,.junk,.junk,.junk,.junk,.junk,.junk,.junk,.junk,.junk,.junk,.junk,.junk,.junk,.junk,.junk,.junk,.junk,.junk,.junk,.junk,.junk,.junk,.junk,.junk,.junk,.junk,.junk,.junk,.junk,.junk,.junk,.junk,.junk,.junk,.junk,.junk,.junk,.junk,.junk,.junk,.junk,.junk,.junk,.junk,.junk,.junk,.junk,.junk,.junk],[some (true,.cells [.v (.int .i64 0),.v (.bool x.b0_1),.v (.int .i64 0),.v (.int .i64 0),.v (.int .i64 0),.v (.int .i64 0),.v (.int .i64 0),.v (.slice none 0 0),.v (.slice none 0 0),.v (.slice none 0 0),.v (.slice none 0 0),.v (.int .i64 0),.v (.int .i64 0),.v (.int .i64 0),.v (.int .i64 0),.v (.int .i64 0),.v (.int .i64 0),.v (.int .i64 0),.v (.int .i64 0)]),some (true,.cells (Kd.cells KN x.b1))]⟩
def un4pz (x:sk4pz.T):D4pz:=match x with
  | ((_,_,_,_,_,_,_,r7,r8,_,_,_,_,_,_,_,_,r17,_,r19,_,_,_,_,_,_,_,_,_,_,_,_,_,_,_,_,_,_,_,_,_,_,_,_,_,_,_,_,_,_,_,_,_,_,_,_,_,_,_,_,_,_,_,_,_,_,_,_,_,_,_,_,_,_,_,_,_,_,_,_,_,_,_,_,_,_,_,_,_,_,_,_,_,_,_,_,_,_,_,_,_,_,_,_,_,_,_,_,_,_,_,_,_,_,_,_,_,_,_,_,_,_,_,_,_,_,_,_,_,_,_,_,_,_,_,_,_,_,_),((_,b0_1,_,_,_,_,_,_,_,_,_,_,_,_,_,_,_,_,_,_),(b1_0,b1_1,b1_2,b1_3,b1_4,b1_5,b1_6,_),_))=>⟨r7,r8,r17,r19,b0_1,(b1_0,b1_1,b1_2,b1_3,b1_4,b1_5,b1_6,())⟩
theorem un4pz_ok (x:sk4pz.T):sk4pz.fill x=fm4pz (un4pz x):=by kernel_rfl
abbrev zcells:List SV:=[.v (.int .i64 0),.v (.bool false),.v (.int .i64 0),.v (.int .i64 0),.v (.int .i64 0),.v (.int .i64 0),.v (.int .i64 0),.v (.slice none 0 0),.v (.slice none 0 0),.v (.slice none 0 0),.v (.slice none 0 0),.v (.int .i64 0),.v (.int .i64 0),.v (.int .i64 0),.v (.int .i64 0),.v (.int .i64 0),.v (.int .i64 0),.v (.int .i64 0),.v (.int .i64 0)]
abbrev fe4z (x:D4z):St:=⟨regs 138 [(7,.v (.bool x.r7)),(8,.v (.int .i64 x.r8)),(9,.ptr 0 0),(10,.ptr 1 0),(11,.v (.slice none 0 0))],[some (true,.cells zcells),some (true,.cells (Kd.cells KN x.b1))]⟩
abbrev fr4z (x:D4z):St:=⟨regs 138 [(6,.v (.bool x.r7)),(7,.v (.bool x.r7)),(8,.v (.int .i64 x.r8)),(9,.ptr 0 0),(10,.ptr 1 0),(11,.v (.slice none 0 0))],[some (true,.cells zcells),some (true,.cells (Kd.cells KN x.b1))]⟩
theorem round4z {R:Type} {lps:Lps R} (F:Fs) (p:Pf) (x:D4z) (N:Option St→Option R) (E:Ex→Option St→Option R) :
  roundx (codex (mka (spI F) (alP p)) lps (callN (mka (spI F) (alP p)) 20) 4 (loopAt (mka (spI F) (alP p)) 4 0)) (headx dead4n) (headx dead4x) (fm4z { x with b0_1:=false }) N E =
   rnd4a F p x.r0 x.r1 x.r2 x.r8 x.r12 zeroM x.b1 (fun m errs taken=>N (some (fm4o ⟨x.r0,x.r1,x.r2,x.r7,x.r8,IntKind.i64.wrap (x.r12+1),m,errs,taken⟩))) (E .ret (some (fr4z x))) (E (.exit 0) (some (fe4z x))):=by
 kernel_rfl
abbrev fe4pz (x:D4pz):St:=⟨regs 138 [(7,.v (.bool x.r7)),(8,.v (.int .i64 x.r8)),(9,.ptr 0 0),(10,.ptr 1 0),(11,.v (.slice none 0 0)),(17,.v (.int .i64 x.r17))],[some (true,.cells zcells),some (true,.cells (Kd.cells KN x.b1))]⟩
theorem round4pz {R:Type} {lps:Lps R} (F:Fs) (p:Pf) (x:D4pz) (N:Option St→Option R) (E:Ex→Option St→Option R) :
  roundx (codex (mka (spI F) (alP p)) lps (callN (mka (spI F) (alP p)) 20) 4 (loopAt (mka (spI F) (alP p)) 4 2)) (headx dead4p) (headx dead4y) (fm4pz { x with r19:=1,b0_1:=false }) N E=E (.exit 4) (some (fe4pz x)):=by
 kernel_rfl
structure G4 where
  early:Bool
  own:Bool
  m:MT
  errs:NT
  taken:List ST
def Ok4 (x:D4z):Prop:=x.r12=0∧x.r8=min (min (min x.r0.length x.r1.length) x.r2.length) 100∧x.b0_1=false∧x.b1=(0,0,0,0,0,0,0,())
noncomputable def ok4 (x:D4z):Bool:=@decide (Ok4 x) (Classical.propDecidable _)
theorem ok4_iff {x:D4z}:ok4 x=true↔Ok4 x:=by unfold ok4;simp
abbrev Gt:=List Int→List (List Int)→List Int→Int→G4
noncomputable def res4 {R:Type} (G:Gt) (x:D4z) (K:Ex→St→Option R):Option R :=
  bif ok4 x then (bif (G x.r0 x.r1 x.r2 x.r8).own then (bif (G x.r0 x.r1 x.r2 x.r8).early then
      K .ret (fr4o ⟨x.r0,x.r1,x.r2,x.r7,x.r8,0,(G x.r0 x.r1 x.r2 x.r8).m,(G x.r0 x.r1 x.r2 x.r8).errs,(G x.r0 x.r1 x.r2 x.r8).taken⟩)
      else K (.exit 0) (fe4o ⟨x.r0,x.r1,x.r2,x.r7,x.r8,0,(G x.r0 x.r1 x.r2 x.r8).m,(G x.r0 x.r1 x.r2 x.r8).errs,(G x.r0 x.r1 x.r2 x.r8).taken⟩))
    else (bif (G x.r0 x.r1 x.r2 x.r8).early then K .ret (fr4z x) else K (.exit 0) (fe4z x))) else none
def Ok4q (Bf:ST→ST→Bool) (x:D4q):Prop:=1≤x.r19∧x.b2.length≤100000∧(x.r19<x.b2.length→RiseF Bf (x.b2[(x.r19-1).toNat]?) (x.b2.drop x.r19.toNat))
noncomputable def ok4q (Bf:ST→ST→Bool) (x:D4q):Bool:=@decide (Ok4q Bf x) (Classical.propDecidable _)
noncomputable def lp4a (G:Gt) {R:Type}:St→(Ex→St→Option R)→Option R:=lpd dead4n sk4z un4z (res4 G)
def okz (x:D4pz):Bool:=x.r19 == 1 && !x.b0_1
noncomputable def lp4b (F:Fs) {R:Type} (s:St) (K:Ex→St→Option R):Option R:=match headx dead4p s with
  | some s1=>match sk4pz.un s1 with
    | some x=>bif okz (un4pz x) then K (.exit 4) (fe4pz (un4pz x)) else none
    | none=>match sk4q.un s1 with
      | some x=>bif ok4q F.Bf (un4q x) then K (.exit 4) (fe4q (un4q x)) else none
      | none=>none
  | none=>none
noncomputable abbrev L4 (F:Fs) (G:Gt):{R:Type}→Lps R:=fun f rid=>match f,rid with
  | 4,7=>some (lp4a G)
  | 4,24=>some (lp4b F)
  | _,_=>none
def sumN (e:NT):Int:=iw (iw (iw (iw (iw (iw (iw (0+e.1)+e.2.1)+e.2.2.1)+e.2.2.2.1)+e.2.2.2.2.1)+e.2.2.2.2.2.1)+e.2.2.2.2.2.2.1)
noncomputable def end4 (F:Fs) (n:Int) (m:MT) (errs:NT) (taken:List ST):Option Bool :=
  bif F.Sn m then (bif eqN m.2.2.2.2.1 errs then (bif sumN errs == n then (bif m.2.2.2.2.2.1 == taken.length then some (nOf errs 0 == IntKind.i64.wrap (taken.length+F.Lf m)) else some false) else some false) else some false) else some false
def min4 (a b c:Int):Int:=if 100<(if c<(if b<a then b else a) then c else (if b<a then b else a)) then 100 else (if c<(if b<a then b else a) then c else (if b<a then b else a))
noncomputable def coX (F:Fs) (G:Gt) (fr:List Int) (ws:List (List Int)) (ms:List Int) (n:Int):Option Bool :=
  bif ok4 ⟨fr,ws,ms,true,n,0,false,(0,0,0,0,0,0,0,())⟩ then (bif (G fr ws ms n).own then (bif (G fr ws ms n).early then some true else
      bif ok4q F.Bf ⟨true,n,sumN (G fr ws ms n).errs,1,(G fr ws ms n).m,(G fr ws ms n).errs,(G fr ws ms n).taken⟩ then end4 F n (G fr ws ms n).m (G fr ws ms n).errs (G fr ws ms n).taken else none)
    else (bif (G fr ws ms n).early then some true else end4 F n zeroM (0,0,0,0,0,0,0,()) [])) else none
theorem counts_is (F:Fs) (p:Pf) (G:Gt) (fr:List Int) (ws:List (List Int)) (ms:List Int):fnx (mka (spI F) (alP p)) (L4 F G) 4 [.sc (.sl KI),.sc (.sl KW),.sc (.sl KI)] RB (fr,ws,ms,())=coX F G fr ws ms (min4 fr.length ws.length ms.length):=by
 kernel_rfl
end Go.Proofs.Ytkeedfiffjpnfaa.X
end
section
set_option linter.unusedVariables false
set_option linter.unusedSimpArgs false
namespace Go.Proofs.Ytkeedfiffjpnfaa.X
open Go Go.RowKit
set_option maxRecDepth 100000
set_option maxHeartbeats 4000000
set_option linter.unusedVariables false
set_option linter.unusedSimpArgs false
noncomputable def pF:Pf:=⟨fun _ _ _=>true,fun m k l=>(putM (knownM m) k l).2,fun m k l=>(putM (knownM m) k l).1⟩
theorem putM_five (m:MT) (k:Int) (l:List Int):0≤(putM m k l).2∧(putM m k l).2≤5:=by
 have:=code_five (m:=m) (k:=k) (l:=l)
 unfold putM
 split
 ·exact⟨by dsimp only;omega,by dsimp only;omega⟩
 ·split
  ·exact⟨by dsimp only;omega,by dsimp only;omega⟩
  ·exact this
theorem six {c:Int} (h:0≤c∧c≤5):c=0∨c=1∨c=2∨c=3∨c=4∨c=5:=by omega
theorem putF_opt (m:MT) (k:Int) (l:List Int):(putF pF m k l).opt=some ((putM (knownM m) k l).1,(putM (knownM m) k l).2,()):=by
 have h:=six (putM_five (knownM m) k l)
 show(bif true then (bif (putM (knownM m) k l).2 == 0 then some ((putM (knownM m) k l).1,0,()) else bif (putM (knownM m) k l).2 == 1 then some ((putM (knownM m) k l).1,1,()) else bif (putM (knownM m) k l).2 == 2 then some ((putM (knownM m) k l).1,2,()) else
  bif (putM (knownM m) k l).2 == 3 then some ((putM (knownM m) k l).1,3,()) else bif (putM (knownM m) k l).2 == 4 then some ((putM (knownM m) k l).1,4,()) else bif (putM (knownM m) k l).2 == 5 then some ((putM (knownM m) k l).1,5,()) else none) else none:Option PT)=_
 generalize (putM (knownM m) k l).2=c at h ⊢
 rcases h with rfl|rfl|rfl|rfl|rfl|rfl<;>rfl
theorem xP_ok:XOk Try.prog (mka (spI FF) (alP pF)):=mka_ok xI_ok (fun f a ha=>by
 simp only [alP] at ha
 split at ha
 ·obtain rfl:=Option.some.inj ha
  refine spec_le s16 fun x r hr=>?_
  obtain⟨m,k,l,⟨⟩⟩:=x
  exact(put_is m k l).trans ((putF_opt m k l).symm.trans hr)
 ·cases ha)
theorem putB_is {R:Type} {m:MT} (h:Sn m) (k:Int) (l:List Int) (f:Nat→MT→Option R):putB pF m k l f=f (putM m k l).2.toNat (putM m k l).1:=by
 have h6:=six (putM_five m k l)
 have e:putB pF m k l f=(bif true then (bif (putM (knownM m) k l).2 == 0 then f 0 (putM (knownM m) k l).1 else bif (putM (knownM m) k l).2 == 1 then f 1 (putM (knownM m) k l).1 else bif (putM (knownM m) k l).2 == 2 then f 2 (putM (knownM m) k l).1 else
  bif (putM (knownM m) k l).2 == 3 then f 3 (putM (knownM m) k l).1 else bif (putM (knownM m) k l).2 == 4 then f 4 (putM (knownM m) k l).1 else bif (putM (knownM m) k l).2 == 5 then f 5 (putM (knownM m) k l).1 else none) else none):=rfl
 rw [e,known_id h]
 generalize (putM m k l).2=c at h6 ⊢
 rcases h6 with rfl|rfl|rfl|rfl|rfl|rfl<;>rfl
noncomputable def allP (m:MT):MT × List ST:=match allX nextO m with|some y=>(y.1,y.2.1)|none=>(m,[])
abbrev ZT3:=Int × List Int × Int
noncomputable def incN (e:NT) (c:Int):NT:=setN e (IntKind.i64.wrap (nOf e c.toNat+1)) c.toNat
noncomputable def cnt:MT→NT→List ST→List ZT3→Bool × MT × NT × List ST
  | m,e,t,[]=>(false,m,e,t)
  | m,e,t,z :: r=>if (z.2.1.length:Int) > 100 then (true,m,e,t) else
    cnt (allP (tillM (putM m z.1 z.2.1).1 z.2.2)).1 (incN e (putM m z.1 z.2.1).2) (t++(allP (tillM (putM m z.1 z.2.1).1 z.2.2)).2) r
def sum7 (e:NT):Int:=nOf e 0+nOf e 1+nOf e 2+nOf e 3+nOf e 4+nOf e 5+nOf e 6
structure Inv (i:Nat) (m:MT) (e:NT) (t:List ST):Prop where
  sn:Sn m
  ns:e=Ns m
  sm:sum7 (Ns m)=i
  tk:Tk m=t.length
  ri:Rise none t
  la:lastM m=t.getLast?
theorem rise_app:∀ {t l:List ST} {p:Option ST},Rise p t→Rise (match t.getLast? with|some s=>some s|none=>p) l→Rise p (t++l)
 | [],l,p,_,h=>h
 | s :: t,l,p,h1,h2=>by
  refine⟨h1.1,rise_app h1.2 ?_⟩
  cases t with
  | nil=>exact h2
  | cons b t =>
   rw [List.getLast?_cons_cons] at h2
   rw [List.getLast?_eq_some_getLast (List.cons_ne_nil b t)] at h2 ⊢
   exact h2
theorem Inv.step {i:Nat} {m:MT} {e:NT} {t:List ST} (h:Inv i m e t) (hi:i<100) (z:ZT3) :
  allX nextO (tillM (putM m z.1 z.2.1).1 z.2.2)=some ((allP (tillM (putM m z.1 z.2.1).1 z.2.2)).1,(allP (tillM (putM m z.1 z.2.1).1 z.2.2)).2,()) ∧
  Inv (i+1) (allP (tillM (putM m z.1 z.2.1).1 z.2.2)).1 (incN e (putM m z.1 z.2.1).2) (t++(allP (tillM (putM m z.1 z.2.1).1 z.2.2)).2)∧(t++(allP (tillM (putM m z.1 z.2.1).1 z.2.2)).2).length≤164:=by
 obtain⟨sn,ns,sm,tk,ri,la⟩:=h
 have c0:=sn.cn 0 (by omega)
 have c1:=sn.cn 1 (by omega)
 have c2:=sn.cn 2 (by omega)
 have c3:=sn.cn 3 (by omega)
 have c4:=sn.cn 4 (by omega)
 have c5:=sn.cn 5 (by omega)
 have c6:=sn.cn 6 (by omega)
 have hc:=code_five (m:=m) (k:=z.1) (l:=z.2.1)
 have hcn:(code m z.1 z.2.1).toNat<6:=by omega
 have hN:nOf (Ns m) (code m z.1 z.2.1).toNat≤i:=by
  unfold sum7 at sm
  unfold Ns at *
  generalize (code m z.1 z.2.1).toNat=c at hcn
  match c,hcn with
  | 0,_|1,_|2,_|3,_|4,_|5,_=>omega
 have hne:nOf (Ns m) (code m z.1 z.2.1).toNat≠1099511627776:=by omega
 have st:=stp_is sn z.1 z.2.1
 have ss:=stp_sane sn hne
 rw [put_stp hne]
 dsimp only
 obtain⟨t',et,ht1,ht2⟩:=till_mark ss z.2.2
 obtain⟨l,n,en,run⟩:=all_run (mark_sane ss ht1 ht2)
 have hms:=mark_sane ss ht1 ht2
 obtain⟨s1,s2,s3,s4,s5,s6⟩:=run.sane hms
 obtain⟨r1,r2⟩:=run.rise hms
 have ep:allP (tillM (stp m z.1 z.2.1) z.2.2)=(n,l):=by
  unfold allP
  rw [et,en]
 rw [ep]
 dsimp only
 have hN2:Ns (stp m z.1 z.2.1)=incN (Ns m) (code m z.1 z.2.1):=by
  unfold stp
  split
  ·rename_i h0
   obtain⟨hk,_⟩:=code_zero h0
   rw [h0]
   obtain⟨j,hj,ej0⟩:=isK_nat.1 hk
   have ej:z.1.toNat=j:=by omega
   rw [ej]
   match j,hj with
   | 0,_=>rfl
   | 1,_=>rfl
   | 2,_=>rfl
   | 3,_=>rfl
  ·rfl
 have hll:lastM (mark (stp m z.1 z.2.1) t')=lastM m:=by
  show(if (stp m z.1 z.2.1).2.1=true then some (stp m z.1 z.2.1).2.2.1 else none)=_
  rw [st.b,st.c]
  rfl
 rw [hll,la] at r1 r2
 have htk:Tk n=t.length+l.length:=by
  have:Tk (mark (stp m z.1 z.2.1) t')=Tk m:=st.t
  rw [s2,this,tk]
 have hs7:sum7 (Ns n)=(i+1:Nat):=by
  rw [s4]
  show sum7 (Ns (stp m z.1 z.2.1))=_
  unfold sum7 at *
  rw [st.n 0 (by omega),st.n 1 (by omega),st.n 2 (by omega),st.n 3 (by omega),st.n 4 (by omega),st.n 5 (by omega),st.n 6 (by omega)]
  generalize (code m z.1 z.2.1).toNat=c at hcn
  match c,hcn with
  | 0,_|1,_|2,_|3,_|4,_|5,_=>simp;omega
 refine⟨by rw [et];exact en,⟨s1,?_,hs7,by rw [htk];simp,rise_app ri ?_,?_⟩,?_⟩
 ·rw [ns,s4]
  exact hN2.symm
 ·cases hg:t.getLast? with
  | none=>rw [hg] at r1;exact r1
  | some s=>rw [hg] at r1;exact r1
 ·rw [r2,List.getLast?_append]
  cases l.getLast?<;>rfl
 ·have h0:=s1.n0
  have hl:=s1.left
  have hq:=s1.cn 0 (by omega)
  have g:nOf (Ns n) 0≤100:=by
   have d1:=s1.cn 1 (by omega)
   have d2:=s1.cn 2 (by omega)
   have d3:=s1.cn 3 (by omega)
   have d4:=s1.cn 4 (by omega)
   have d5:=s1.cn 5 (by omega)
   have d6:=s1.cn 6 (by omega)
   unfold sum7 at hs7
   unfold Ns at *
   omega
  unfold Tk Ns at *
  simp
  omega
theorem inv_zero:Inv 0 zeroM (0,0,0,0,0,0,0,()) []:=⟨saneM_iff.1 zero_sane,rfl,rfl,rfl,trivial,rfl⟩
theorem cnt_inv:∀ (r:List ZT3) {i:Nat} {m:MT} {e:NT} {t:List ST},Inv i m e t→i+r.length≤100→(cnt m e t r).1=false→Inv (i+r.length) (cnt m e t r).2.1 (cnt m e t r).2.2.1 (cnt m e t r).2.2.2
 | [],_,_,_,_,h,_,_=>h
 | z :: r,i,m,e,t,h,hl,hf=>by
  simp only [cnt] at hf ⊢
  simp only [List.length_cons] at hl ⊢
  by_cases hw:(z.2.1.length:Int) > 100
  ·rw [if_pos hw] at hf;cases hf
  ·rw [if_neg hw] at hf ⊢
   have:=cnt_inv r (h.step (by omega) z).2.1 (by omega) hf
   rwa [show i+(r.length+1)=i+1+r.length by omega]
noncomputable def Gc:Gt:=fun fr ws ms n=>match (fr.zip (ws.zip ms)).take n.toNat with
  | []=>⟨false,false,zeroM,(0,0,0,0,0,0,0,()),[]⟩
  | z :: r=>if (z.2.1.length:Int) > 100 then ⟨true,false,zeroM,(0,0,0,0,0,0,0,()),[]⟩ else
    ⟨(cnt zeroM (0,0,0,0,0,0,0,()) [] (z :: r)).1,true,(cnt zeroM (0,0,0,0,0,0,0,()) [] (z :: r)).2.1,(cnt zeroM (0,0,0,0,0,0,0,()) [] (z :: r)).2.2.1,(cnt zeroM (0,0,0,0,0,0,0,()) [] (z :: r)).2.2.2⟩
theorem zip_at {fr:List Int} {ws:List (List Int)} {ms:List Int} {n:Nat} {i:Nat} {z:ZT3} {r:List ZT3} (h:((fr.zip (ws.zip ms)).take n).drop i=z :: r) :
  i<n∧(inB (i:Int) fr.length=true∧(rd KI fr ((i:Int)).toNat:Int)=z.1)∧(inB (i:Int) ws.length=true∧(rd KW ws ((i:Int)).toNat:List Int)=z.2.1)∧(inB (i:Int) ms.length=true∧(rd KI ms ((i:Int)).toNat:Int)=z.2.2)∧((fr.zip (ws.zip ms)).take n).drop (i+1)=r:=by
 have h0:((fr.zip (ws.zip ms)).take n)[i]? = some z:=by
  have:=congrArg (fun l:List ZT3=>l[0]?) h
  simpa using this
 have h1:i<n:=by
  have:=(List.getElem?_eq_some_iff.1 h0).1
  simp at this
  omega
 rw [List.getElem?_take,if_pos h1,List.getElem?_zip_eq_some] at h0
 obtain⟨ha,hb⟩:=h0
 rw [List.getElem?_zip_eq_some] at hb
 obtain⟨hb,hc⟩:=hb
 have hi:((i:Int)).toNat=i:=by omega
 refine⟨h1,⟨?_,?_⟩,⟨?_,?_⟩,⟨?_,?_⟩,?_⟩
 ·have:=(List.getElem?_eq_some_iff.1 ha).1
  simp [inB];omega
 ·show((fr[((i:Int)).toNat]?).getD (0:Int):Int)=_
  rw [hi,ha];rfl
 ·have:=(List.getElem?_eq_some_iff.1 hb).1
  simp [inB];omega
 ·show((ws[((i:Int)).toNat]?).getD ([]:List Int):List Int)=_
  rw [hi,hb];rfl
 ·have:=(List.getElem?_eq_some_iff.1 hc).1
  simp [inB];omega
 ·show((ms[((i:Int)).toNat]?).getD (0:Int):Int)=_
  rw [hi,hc];rfl
 ·rw [←List.drop_drop,h];rfl
section
variable {R:Type} {lps:Lps R} {K:Ex→St→Option R} {r:R} {fr:List Int} {ws:List (List Int)} {ms:List Int} {up:Bool} {n:Nat}
noncomputable abbrev bd4 (lps:Lps R):St→(Ex→St→Option R)→Option R:=codex (mka (spI FF) (alP pF)) lps (callN (mka (spI FF) (alP pF)) 20) 4 (loopAt (mka (spI FF) (alP pF)) 4 0)
theorem rnd4_step {m:MT} {e:NT} {t:List ST} {i:Nat} {z:ZT3} {rest:List ZT3} (hn:n≤100) (h:Inv i m e t) (hz:((fr.zip (ws.zip ms)).take n).drop i=z :: rest) (hw:¬(z.2.1.length:Int) > 100) (M:MT→NT→List ST→Option R) (A B:Option R) :
  rnd4 FF pF fr ws ms n i m e t M A B=M (allP (tillM (putM m z.1 z.2.1).1 z.2.2)).1 (incN e (putM m z.1 z.2.1).2) (t++(allP (tillM (putM m z.1 z.2.1).1 z.2.2)).2):=by
 obtain⟨h1,⟨a1,a2⟩,⟨b1,b2⟩,⟨c1,c2⟩,h2⟩:=zip_at hz
 obtain⟨st1,st2,st3⟩:=h.step (by omega) z
 unfold rnd4
 have e1:decide ((i:Int)<(n:Int))=true:=decide_eq_true (by omega)
 rw [e1,b1,b2]
 have e2:decide (((show List Int from z.2.1).length:Int) > 100)=false:=decide_eq_false hw
 simp only [cond_true]
 rw [e2,a1,a2]
 simp only [cond_true,cond_false]
 rw [putB_is h.sn,c1,c2]
 simp only [cond_true]
 have e3:FF.Al (FF.Tl (putM m z.1 z.2.1).1 z.2.2)=some ((allP (tillM (putM m z.1 z.2.1).1 z.2.2)).1,(allP (tillM (putM m z.1 z.2.1).1 z.2.2)).2,()):=st1
 rw [st1]
 simp only [Option.bind_some]
 have e4:room tis 24 (t.length+(allP (tillM (putM m z.1 z.2.1).1 z.2.2)).2.length)=true:=by
  rw [List.length_append] at st3
  exact room24 (by omega)
 rw [e4]
 rfl
theorem rnd4_early {m:MT} {e:NT} {t:List ST} {i:Nat} {z:ZT3} {rest:List ZT3} (hz:((fr.zip (ws.zip ms)).take n).drop i=z :: rest) (hw:(z.2.1.length:Int) > 100) (M:MT→NT→List ST→Option R) (A B:Option R) :
  rnd4 FF pF fr ws ms n i m e t M A B=A:=by
 obtain⟨h1,⟨a1,a2⟩,⟨b1,b2⟩,⟨c1,c2⟩,h2⟩:=zip_at hz
 unfold rnd4
 have e1:decide ((i:Int)<(n:Int))=true:=decide_eq_true (by omega)
 have e2:decide (((show List Int from z.2.1).length:Int) > 100)=true:=decide_eq_true hw
 rw [e1,b1,b2]
 simp only [cond_true]
 rw [e2]
 rfl
theorem loop4o (hn:n≤100):∀ (rest:List ZT3) (i:Nat) (m:MT) (e:NT) (t:List ST),i+rest.length=n→((fr.zip (ws.zip ms)).take n).drop i=rest→Inv i m e t →
  (bif (cnt m e t rest).1 then K .ret (fr4o ⟨fr,ws,ms,up,n,0,(cnt m e t rest).2.1,(cnt m e t rest).2.2.1,(cnt m e t rest).2.2.2⟩) else K (.exit 0) (fe4o ⟨fr,ws,ms,up,n,0,(cnt m e t rest).2.1,(cnt m e t rest).2.2.1,(cnt m e t rest).2.2.2⟩))=some r →
  ∃ N,loopx (bd4 lps) (headx dead4n) (headx dead4x) N (fm4o ⟨fr,ws,ms,up,n,i,m,e,t⟩) K=some r:=by
 intro rest
 induction rest with
 | nil =>
  intro i m e t h1 h2 h3 hK
  refine⟨1,?_⟩
  rw [loopx_round,round4o]
  unfold rnd4
  have e1:decide ((i:Int)<(n:Int))=false:=decide_eq_false (by simp at h1;omega)
  dsimp only
  rw [e1]
  exact hK
 | cons z rest ih =>
  intro i m e t h1 h2 h3 hK
  simp only [List.length_cons] at h1
  simp only [cnt] at hK
  by_cases hw:(z.2.1.length:Int) > 100
  ·rw [if_pos hw] at hK
   refine⟨1,?_⟩
   rw [loopx_round,round4o]
   dsimp only
   rw [rnd4_early h2 hw]
   exact hK
  ·rw [if_neg hw] at hK
   obtain⟨_,st2,_⟩:=h3.step (by omega) z
   obtain⟨N,hN⟩:=ih (i+1) _ _ _ (by omega) (zip_at h2).2.2.2.2 st2 hK
   refine⟨N+1,?_⟩
   rw [loopx_round,round4o]
   dsimp only
   rw [rnd4_step hn h3 h2 hw]
   have ew:IntKind.i64.wrap ((i:Int)+1)=((i+1:Nat):Int):=by
    rw [wrap_i64 (by omega) (by omega)];simp
   rw [ew]
   exact hN
end
end Go.Proofs.Ytkeedfiffjpnfaa.X
end
section
set_option linter.unusedVariables false
set_option linter.unusedSimpArgs false
namespace Go.Proofs.Ytkeedfiffjpnfaa.X
open Go Go.RowKit
set_option maxRecDepth 100000
set_option maxHeartbeats 4000000
set_option linter.unusedVariables false
set_option linter.unusedSimpArgs false
theorem loop4A {R:Type}:LoopOk (mka (spI FF) (alP pF)) R (L4 FF Gc 4 (firstRid (loopAt (mka (spI FF) (alP pF)) 4 0))) 4 0 (L4 FF Gc):=by
 intro L hL s K r hs
 have e:(L4 FF Gc 4 (firstRid (loopAt (mka (spI FF) (alP pF)) 4 0)):Option (St→(Ex→St→Option R)→Option R))=some (lp4a Gc):=by kernel_rfl
 rw [e] at hL
 obtain rfl:=Option.some.inj hL
 unfold lp4a lpd at hs
 split at hs
 ·rename_i s1 h1
  split at hs
  ·rename_i x hx
   unfold res4 at hs
   cases hok:ok4 (un4z x) with
   | false=>rw [hok] at hs;cases hs
   | true =>
    rw [hok,cond_true] at hs
    obtain⟨q0,q1,q2,q3⟩:=ok4_iff.1 hok
    suffices ∃ n,loopx (bd4 (L4 FF Gc)) (headx dead4n) (headx dead4x) n (fm4z (un4z x)) K=some r by
     obtain⟨n,hn⟩:=this
     exact⟨n,dead4n,dead4x,s1,h1,by rw [StSk.un_ok hx,un4z_ok];exact hn⟩
    generalize un4z x=y at q0 q1 q2 q3 hs ⊢
    obtain⟨fr,ws,ms,up,n,i,b,e1⟩:=y
    dsimp only at q0 q1 q2 q3 hs ⊢
    subst q0 q2 q3
    have hn0:0≤n∧n≤100:=by omega
    obtain⟨k,hk⟩:∃ k:Nat,n=(k:Int):=⟨n.toNat,by omega⟩
    have hlen:((fr.zip (ws.zip ms)).take k).length=k:=by
     simp
     omega
    rw [hk] at hs ⊢
    have rz:=fun (N:Option St→Option R) (E:Ex→Option St→Option R)=>round4z (R:=R) (lps:=L4 FF Gc) FF pF ⟨fr,ws,ms,up,k,0,false,(0,0,0,0,0,0,0,())⟩ N E
    dsimp only at rz
    have eG:Gc fr ws ms (k:Int)=(match (fr.zip (ws.zip ms)).take k with
     | []=>⟨false,false,zeroM,(0,0,0,0,0,0,0,()),[]⟩
     | z :: r=>if (z.2.1.length:Int) > 100 then ⟨true,false,zeroM,(0,0,0,0,0,0,0,()),[]⟩ else
      ⟨(cnt zeroM (0,0,0,0,0,0,0,()) [] (z :: r)).1,true,(cnt zeroM (0,0,0,0,0,0,0,()) [] (z :: r)).2.1,(cnt zeroM (0,0,0,0,0,0,0,()) [] (z :: r)).2.2.1,(cnt zeroM (0,0,0,0,0,0,0,()) [] (z :: r)).2.2.2⟩):=rfl
    rw [eG] at hs
    have same:∀ (M:MT→NT→List ST→Option R) (A B:Option R),(∀ z rest,(fr.zip (ws.zip ms)).take k=z :: rest→¬(z.2.1.length:Int) > 100→True)→rnd4a FF pF fr ws ms k 0 zeroM (0,0,0,0,0,0,0,()) M A B=rnd4 FF pF fr ws ms k 0 zeroM (0,0,0,0,0,0,0,()) [] M A B:=by
     intro M A B _
     unfold rnd4a rnd4
     simp only [List.length_nil,Nat.zero_add,List.nil_append]
    cases hz:(fr.zip (ws.zip ms)).take k with
    | nil =>
     rw [hz] at hs hlen
     have hk0:k=0:=by simpa using hlen.symm
     subst hk0
     refine⟨1,?_⟩
     rw [loopx_round,rz]
     exact hs
    | cons z rest =>
     rw [hz] at hs
     have hd:((fr.zip (ws.zip ms)).take k).drop 0=z :: rest:=by rw [hz];rfl
     by_cases hw:(z.2.1.length:Int) > 100
     ·dsimp only at hs
      rw [if_pos hw] at hs
      refine⟨1,?_⟩
      rw [loopx_round,rz,same _ _ _ (fun _ _ _ _=>trivial)]
      have:=rnd4_early (R:=R) (m:=zeroM) (e:=(0,0,0,0,0,0,0,())) (t:=[]) hd hw
      rw [show((0:Nat):Int)=0 from rfl] at this
      rw [this]
      exact hs
     ·dsimp only at hs
      rw [if_neg hw] at hs
      simp only [cond_true,cnt,if_neg hw] at hs
      have hlz:(z :: rest).length=k:=by rw [←hz];exact hlen
      obtain⟨_,st2,_⟩:=inv_zero.step (by omega) z
      obtain⟨N,hN⟩:=loop4o (lps:=L4 FF Gc) (up:=up) (by omega) rest 1 _ _ _ (by simp at hlz;omega) (zip_at hd).2.2.2.2 st2 hs
      refine⟨N+1,?_⟩
      rw [loopx_round,rz,same _ _ _ (fun _ _ _ _=>trivial)]
      have:=rnd4_step (R:=R) (by omega) inv_zero hd hw
      rw [show((0:Nat):Int)=0 from rfl] at this
      rw [this]
      have ew:IntKind.i64.wrap (0+1)=((1:Nat):Int):=by kernel_rfl
      rw [ew]
      exact hN
  ·cases hs
 ·cases hs
theorem ok4q_iff {Bf:ST→ST→Bool} {x:D4q}:ok4q Bf x=true↔Ok4q Bf x:=by unfold ok4q;simp
theorem iter4q {R:Type} {F:Fs} {fe fr:D4q→St} (hfe:∀ x i,fe { x with r19:=i }=fe x) (x:D4q) (K:Ex→St→Option R) (r:R) (h:(bif ok4q F.Bf x then K (.exit 4) (fe { x with r19:=0 }) else none)=some r) :
  ∃ n,iter (fun x N E=>rnd4q F x.b2 x.r19 (N { x with r19:=IntKind.i64.wrap (x.r19+1) }) (E .ret (fr x)) (E (.exit 4) (fe x))) n x K=some r:=by
 refine iter_by (fun x=>x.b2.length-x.r19.toNat) (fun x=>bif ok4q F.Bf x then K (.exit 4) (fe { x with r19:=0 }) else none) (fun x h=>?_) x h
 cases hok:ok4q F.Bf x with
 | false=>rw [hok] at h;cases h
 | true =>
  rw [hok] at h
  simp only [cond_true] at h
  obtain⟨h0,h1,h2⟩:=ok4q_iff.1 hok
  rw [hfe] at h
  obtain⟨up,n,s,i,m,e,t⟩:=x
  dsimp only at *
  by_cases hi:i<t.length
  ·left
   obtain⟨e1,z,ez,e2,e3⟩:=rd_atS (l:=t) (by omega) hi
   obtain⟨f1,y,ey,f2,f3⟩:=rd_atS (l:=t) (i:=i-1) (by omega) (by omega)
   have h3:=h2 hi
   rw [ey,e3] at h3
   obtain⟨g1,g2⟩:=h3
   have hy:=g1 y rfl
   have hw:IntKind.i64.wrap (i+1)=i+1:=wrap_i64 (by omega) (by omega)
   have hw1:IntKind.i64.wrap (i-1)=i-1:=wrap_i64 (by omega) (by omega)
   refine⟨⟨up,n,s,i+1,m,e,t⟩,by dsimp only;omega,?_,fun N hN=>?_⟩
   ·have:ok4q F.Bf ⟨up,n,s,i+1,m,e,t⟩=true:=by
     rw [ok4q_iff]
     refine⟨by dsimp only;omega,h1,fun _=>?_⟩
     dsimp only
     rw [show i+1-1=i by omega,ez]
     exact g2
    rw [this]
    simp only [cond_true]
    have:=hfe ⟨up,n,s,i,m,e,t⟩ 0
    dsimp only at this
    rw [this];exact h
   ·unfold rnd4q
    rw [decide_eq_true hi,hw,hw1,f1,e1,f2,e2,hy]
    exact hN
  ·right
   intro N
   unfold rnd4q
   rw [decide_eq_false hi]
   exact h
theorem loop4B {R:Type}:LoopOk (mka (spI FF) (alP pF)) R (L4 FF Gc 4 (firstRid (loopAt (mka (spI FF) (alP pF)) 4 2))) 4 2 (L4 FF Gc):=by
 intro L hL s K r hs
 have e:(L4 FF Gc 4 (firstRid (loopAt (mka (spI FF) (alP pF)) 4 2)):Option (St→(Ex→St→Option R)→Option R))=some (lp4b FF):=by kernel_rfl
 rw [e] at hL
 obtain rfl:=Option.some.inj hL
 unfold lp4b at hs
 split at hs
 ·rename_i s1 h1
  split at hs
  ·rename_i x hx
   cases hok:okz (un4pz x) with
   | false=>rw [hok] at hs;cases hs
   | true =>
    rw [hok,cond_true] at hs
    refine⟨1,dead4p,dead4y,s1,h1,?_⟩
    rw [StSk.un_ok hx,un4pz_ok]
    generalize un4pz x=y at hok hs ⊢
    obtain⟨up,n,s17,i,b,e1⟩:=y
    simp only [okz,Bool.and_eq_true,beq_iff_eq,Bool.not_eq_true'] at hok
    obtain⟨rfl,rfl⟩:=hok
    have rz:=fun (N:Option St→Option R) (E:Ex→Option St→Option R)=>round4pz (R:=R) (lps:=L4 FF Gc) FF pF ⟨up,n,s17,1,false,e1⟩ N E
    dsimp only at rz
    rw [loopx_round,rz]
    exact hs
  ·split at hs
   ·rename_i x hx
    obtain⟨n,hn⟩:=iter4q (F:=FF) (fe:=fe4q) (fr:=fr4q) (fun _ _=>rfl) (un4q x) K r hs
    refine⟨n,dead4p,dead4y,s1,h1,?_⟩
    rw [StSk.un_ok hx,un4q_ok]
    exact(loopx_iter (form:=fm4q) (fun x N E=>round4q FF pF x N E) n (un4q x) K).trans hn
   ·cases hs
 ·cases hs
theorem loop4M {R:Type}:LoopOk (mka (spI FF) (alP pF)) R (L4 FF Gc 4 (firstRid (loopAt (mka (spI FF) (alP pF)) 4 1))) 4 1 (L4 FF Gc):=by
 intro L hL s K r hs
 have e:(L4 FF Gc 4 (firstRid (loopAt (mka (spI FF) (alP pF)) 4 1)):Option (St→(Ex→St→Option R)→Option R))=none:=by kernel_rfl
 rw [e] at hL
 cases hL
theorem sumN_is {e:NT} (h:∀ j,j<7→0≤nOf e j∧nOf e j≤1099511627776):sumN e=sum7 e:=by
 obtain⟨n0,n1,n2,n3,n4,n5,n6,⟨⟩⟩:=e
 have h0:0≤n0∧n0≤1099511627776:=h 0 (by omega)
 have h1:0≤n1∧n1≤1099511627776:=h 1 (by omega)
 have h2:0≤n2∧n2≤1099511627776:=h 2 (by omega)
 have h3:0≤n3∧n3≤1099511627776:=h 3 (by omega)
 have h4:0≤n4∧n4≤1099511627776:=h 4 (by omega)
 have h5:0≤n5∧n5≤1099511627776:=h 5 (by omega)
 have h6:0≤n6∧n6≤1099511627776:=h 6 (by omega)
 show iw (iw (iw (iw (iw (iw (iw (0+n0)+n1)+n2)+n3)+n4)+n5)+n6)=n0+n1+n2+n3+n4+n5+n6
 unfold iw
 have e0:IntKind.i64.wrap (0+n0)=n0:=by rw [wrap_i64 (by omega) (by omega)];omega
 rw [e0]
 have e1:IntKind.i64.wrap (n0+n1)=n0+n1:=wrap_i64 (by omega) (by omega)
 rw [e1]
 have e2:IntKind.i64.wrap (n0+n1+n2)=n0+n1+n2:=wrap_i64 (by omega) (by omega)
 rw [e2]
 have e3:IntKind.i64.wrap (n0+n1+n2+n3)=n0+n1+n2+n3:=wrap_i64 (by omega) (by omega)
 rw [e3]
 have e4:IntKind.i64.wrap (n0+n1+n2+n3+n4)=n0+n1+n2+n3+n4:=wrap_i64 (by omega) (by omega)
 rw [e4]
 have e5:IntKind.i64.wrap (n0+n1+n2+n3+n4+n5)=n0+n1+n2+n3+n4+n5:=wrap_i64 (by omega) (by omega)
 rw [e5]
 exact wrap_i64 (by omega) (by omega)
theorem end4_true {i:Nat} {m:MT} {e:NT} {t:List ST} (h:Inv i m e t) (hi:i≤100):end4 FF i m e t=some true:=by
 obtain⟨sn,rfl,sm,tk,ri,la⟩:=h
 unfold end4
 have e1:saneM m=true:=saneM_iff.2 sn
 have e2:eqN m.2.2.2.2.1 (Ns m)=true:=eqN_refl _
 have e3:(sumN (Ns m) == (i:Int))=true:=by rw [sumN_is sn.cn,beq_iff_eq];exact sm
 have e4:(m.2.2.2.2.2.1 == (t.length:Int))=true:=by rw [beq_iff_eq];exact tk
 have hl:=sn.left
 have h0:=sn.n0
 have ht:=sn.tk
 have tk':m.2.2.2.2.2.1=t.length:=tk
 have e5:(nOf (Ns m) 0 == IntKind.i64.wrap (t.length+leftM m))=true:=by
  rw [hl.1,beq_iff_eq,wrap_i64 (by omega) (by omega)]
  unfold Ns Tk at *
  omega
 dsimp only
 rw [e1,e2,e3,e4,e5]
 rfl
theorem counts_true (fr:List Int) (ws:List (List Int)) (ms:List Int):coX FF Gc fr ws ms (min4 fr.length ws.length ms.length)=some true:=by
 have hmin:min4 fr.length ws.length ms.length=min (min (min (fr.length:Int) ws.length) ms.length) 100:=by
  unfold min4
  repeat' split
  all_goals omega
 rw [hmin]
 obtain⟨k,hk⟩:∃ k:Nat,min (min (min (fr.length:Int) ws.length) ms.length) 100=(k:Int):=⟨(min (min (min (fr.length:Int) ws.length) ms.length) 100).toNat,by omega⟩
 unfold coX
 have hok:ok4 ⟨fr,ws,ms,true,min (min (min (fr.length:Int) ws.length) ms.length) 100,0,false,(0,0,0,0,0,0,0,())⟩=true:=by
  rw [ok4_iff];exact⟨rfl,by dsimp only;omega,rfl,rfl⟩
 rw [hok,cond_true,hk]
 have hlen:((fr.zip (ws.zip ms)).take k).length=k:=by
  simp
  omega
 have eG:Gc fr ws ms (k:Int)=(match (fr.zip (ws.zip ms)).take k with
  | []=>⟨false,false,zeroM,(0,0,0,0,0,0,0,()),[]⟩
  | z :: r=>if (z.2.1.length:Int) > 100 then ⟨true,false,zeroM,(0,0,0,0,0,0,0,()),[]⟩ else
   ⟨(cnt zeroM (0,0,0,0,0,0,0,()) [] (z :: r)).1,true,(cnt zeroM (0,0,0,0,0,0,0,()) [] (z :: r)).2.1,(cnt zeroM (0,0,0,0,0,0,0,()) [] (z :: r)).2.2.1,(cnt zeroM (0,0,0,0,0,0,0,()) [] (z :: r)).2.2.2⟩):=rfl
 rw [eG]
 cases hz:(fr.zip (ws.zip ms)).take k with
 | nil =>
  rw [hz] at hlen
  have hk0:k=0:=by simpa using hlen.symm
  subst hk0
  exact end4_true inv_zero (by omega)
 | cons z rest =>
  rw [hz] at hlen
  dsimp only
  by_cases hw:(z.2.1.length:Int) > 100
  ·rw [if_pos hw];rfl
  ·rw [if_neg hw]
   dsimp only
   rw [cond_true]
   cases hc:(cnt zeroM (0,0,0,0,0,0,0,()) [] (z :: rest)).1 with
   | true=>rfl
   | false =>
    rw [cond_false]
    have inv:=cnt_inv (z :: rest) inv_zero (by omega) hc
    rw [Nat.zero_add,hlen] at inv
    have hq:ok4q FF.Bf ⟨true,k,sumN (cnt zeroM (0,0,0,0,0,0,0,()) [] (z :: rest)).2.2.1,1,(cnt zeroM (0,0,0,0,0,0,0,()) [] (z :: rest)).2.1,(cnt zeroM (0,0,0,0,0,0,0,()) [] (z :: rest)).2.2.1,(cnt zeroM (0,0,0,0,0,0,0,()) [] (z :: rest)).2.2.2⟩=true:=by
     rw [ok4q_iff]
     generalize cnt zeroM (0,0,0,0,0,0,0,()) [] (z :: rest)=c at inv ⊢
     obtain⟨c1,m,e,t⟩:=c
     dsimp only at inv ⊢
     have hl:=inv.sn.left
     have h0:=inv.sn.n0
     have hs:=inv.sm
     have d0:=inv.sn.cn 0 (by omega)
     have d1:=inv.sn.cn 1 (by omega)
     have d2:=inv.sn.cn 2 (by omega)
     have d3:=inv.sn.cn 3 (by omega)
     have d4:=inv.sn.cn 4 (by omega)
     have d5:=inv.sn.cn 5 (by omega)
     have d6:=inv.sn.cn 6 (by omega)
     have htk:=inv.tk
     refine⟨Int.le_refl _,?_,fun ht=>?_⟩
     ·unfold sum7 Ns Tk at *
      dsimp only at *
      omega
     ·have hri:=inv.ri
      cases t with
      | nil=>simp at ht
      | cons a t=>exact riseF_of hri.2
    rw [hq,cond_true]
    exact end4_true inv (by omega)
theorem s4:SpecOk Try.prog 4 ⟨[.sc (.sl KI),.sc (.sl KW),.sc (.sl KI)],RB,fun _=>some true⟩:=by
 refine fnl_ok xP_ok (lps:=L4 FF Gc) 3 (by kernel_rfl) (fun k hk=>?_) (fun x r h=>?_) ⟨_,_,rfl,rfl⟩
 ·rcases(by omega:k=0∨k=1∨k=2) with rfl|rfl|rfl
  ·exact loop4A
  ·exact loop4M
  ·exact loop4B
 ·obtain⟨fr,ws,ms,⟨⟩⟩:=x
  rw [←h]
  exact(counts_is FF pF Gc fr ws ms).trans (counts_true fr ws ms)
end Go.Proofs.Ytkeedfiffjpnfaa.X
end
