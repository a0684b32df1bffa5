/- Lemmas of the rows, laid by a program. -/
import Derived.Test.YtkeedfiffjpnfaaZM6
import Derived.Test.YtkeedfiffjpnfaaZM7
import Derived.Test.YtkeedfiffjpnfaaZM8
import Derived.Test.YtkeedfiffjpnfaaZM9
import Derived.Test.YtkeedfiffjpnfaaZM10
import Derived.Test.YtkeedfiffjpnfaaZM5
section
set_option linter.unusedVariables false
set_option linter.unusedSimpArgs false
namespace Go.Proofs.Ytkeedfiffjpnfaa.X
open Go Go.RowKit
set_option maxRecDepth 100000
set_option maxHeartbeats 4000000
set_option linter.unusedVariables false
set_option linter.unusedSimpArgs false
theorem next_is (D:MT→Bool) (Bf:ST→ST→Bool) (m M:MT):fnx (mka sp0 (alN D M Bf)) L0 14 [DM] RX (m,())=(bif D m then nextGo Bf M [0,1,2,3] none true else none):=by
 obtain⟨mark,sm,l,⟨q0,q1,q2,q3,⟨⟩⟩,n,tk,⟨⟩⟩:=M
 rcases q0 with _|⟨a0,q0⟩<;>rcases q1 with _|⟨a1,q1⟩<;>rcases q2 with _|⟨a2,q2⟩<;>rcases q3 with _|⟨a3,q3⟩
 ·exact next_0 mark sm l n tk D Bf m
 ·exact next_8 mark sm l n tk a3 q3 D Bf m
 ·exact next_4 mark sm l n tk a2 q2 D Bf m
 ·exact next_12 mark sm l n tk a2 q2 a3 q3 D Bf m
 ·exact next_2 mark sm l n tk a1 q1 D Bf m
 ·exact next_10 mark sm l n tk a1 q1 a3 q3 D Bf m
 ·exact next_6 mark sm l n tk a1 q1 a2 q2 D Bf m
 ·exact next_14 mark sm l n tk a1 q1 a2 q2 a3 q3 D Bf m
 ·exact next_1 mark sm l n tk a0 q0 D Bf m
 ·exact next_9 mark sm l n tk a0 q0 a3 q3 D Bf m
 ·exact next_5 mark sm l n tk a0 q0 a2 q2 D Bf m
 ·exact next_13 mark sm l n tk a0 q0 a2 q2 a3 q3 D Bf m
 ·exact next_3 mark sm l n tk a0 q0 a1 q1 D Bf m
 ·exact next_11 mark sm l n tk a0 q0 a1 q1 a3 q3 D Bf m
 ·exact next_7 mark sm l n tk a0 q0 a1 q1 a2 q2 D Bf m
 ·exact next_15 mark sm l n tk a0 q0 a1 q1 a2 q2 a3 q3 D Bf m
theorem s14:SpecOk Try.prog 14 ⟨[DM],RX,fun x=>nextO x.1⟩:=by
 have he:Enters Try.prog 14:=(fnx_ok (f:=14) (A:=[DM]) (Rt:=RX) xF_ok noloop (g:=fun _=>none) (fun _ _ h=>nomatch h) ⟨_,_,rfl,rfl⟩).enters
 refine spec_at he fun x r h=>?_
 obtain⟨m,⟨⟩⟩:=x
 have hX:=xN_ok (D:=fun m'=>@decide (m'=m) (Classical.propDecidable _)) (M:=knownM m) (fun m' hd=>by
  have this:=@of_decide_eq_true _ (Classical.propDecidable _) hd
  subst this;rfl)
 refine⟨_,fnx_ok hX noloop (fun x r h=>h) ⟨_,_,rfl,rfl⟩,?_⟩
 refine(next_is _ _ _ _).trans ?_
 have e:∀ (d:Decidable (m=m)) (A:Option NX),(bif @decide (m=m) d then A else none)=A:=fun d A=>by simp
 exact(e _ _).trans h
end Go.Proofs.Ytkeedfiffjpnfaa.X
end
section
set_option linter.unusedVariables false
set_option linter.unusedSimpArgs false
namespace Go.Proofs.Ytkeedfiffjpnfaa.X
open Go Go.RowKit
set_option maxRecDepth 100000
set_option maxHeartbeats 4000000
set_option linter.unusedVariables false
set_option linter.unusedSimpArgs false
theorem xG_ok:XOk Try.prog (mk (spG nextO)):=mk_ok (fun f s h=>by
 simp only [spG] at h
 split at h
 ·obtain rfl:=Option.some.inj h;exact s14
 ·cases h)
def allGo (Nx:MT→Option NX):Nat→MT→List ST→Option (MT × List ST)
  | 0,_,_=>none
  | n+1,m,out=>(Nx m).bind fun r=>bif !r.2.2.1 then some (r.1,out) else bif room tis 24 (out.length+1) then allGo Nx n r.1 (out++[r.2.1]) else none
theorem iter12b {R:Type} {Nx:MT→Option NX} {fx:MT→List ST→St} {K:Ex→St→Option R} {r:R}:∀ (n:Nat) (x:D12b),((allGo Nx n x.b0 x.b2).bind fun p=>K .ret (fx p.1 p.2))=some r→iter (rnd12b Nx fx) n x K=some r:=by
 intro n
 induction n with
 | zero=>intro x h;cases h
 | succ n ih =>
  intro x h
  simp only [allGo] at h
  show rnd12b Nx fx x (fun x'=>iter (rnd12b Nx fx) n x' K) K=some r
  unfold rnd12b
  cases hn:Nx x.b0 with
  | none=>rw [hn] at h;cases h
  | some z =>
   rw [hn] at h
   simp only [Option.bind_some] at h ⊢
   cases hz:z.2.2.1 with
   | false=>rw [hz] at h;exact h
   | true =>
    rw [hz] at h
    simp only [Bool.not_true,cond_false] at h ⊢
    cases hr:room tis 24 (x.b2.length+1) with
    | false=>rw [hr] at h;cases h
    | true =>
     rw [hr] at h
     exact ih _ h
noncomputable def res12 {R:Type} (Nx:MT→Option NX) (m:MT) (K:Ex→St→Option R):Option R :=
  (Nx m).bind fun r=>bif !r.2.2.1 then K .ret (fx12n r.1) else bif room tis 24 (0+1) then (allGo Nx 70 r.1 [r.2.1]).bind fun p=>K .ret (fx12o p.1 p.2) else none
noncomputable def lp12 (Nx:MT→Option NX) {R:Type} (s:St) (K:Ex→St→Option R):Option R:=match headx dead12b s with
  | some s1=>match sk12a.un s1 with
    | some x=>res12 Nx (un12a x).b0 K
    | none=>none
  | none=>none
noncomputable abbrev L12 (Nx:MT→Option NX):{R:Type}→Lps R:=fun f rid=>match f,rid with|12,2=>some (lp12 Nx)|_,_=>none
theorem loop12 (Nx:MT→Option NX) {R:Type}:LoopOk (mk (spG Nx)) R (L12 Nx 12 (firstRid (loopAt (mk (spG Nx)) 12 0))) 12 0 (L12 Nx):=by
 intro L hL s K r hs
 have e:(L12 Nx 12 (firstRid (loopAt (mk (spG Nx)) 12 0)):Option (St→(Ex→St→Option R)→Option R))=some (lp12 Nx):=by kernel_rfl
 rw [e] at hL
 obtain rfl:=Option.some.inj hL
 unfold lp12 at hs
 split at hs
 ·rename_i s1 h1
  split at hs
  ·rename_i x hx
   refine⟨71,dead12b,dead12x,s1,h1,?_⟩
   rw [StSk.un_ok hx,un12a_ok,loopx_round,round12a]
   unfold rnd12a
   unfold res12 at hs
   cases hn:Nx (un12a x).b0 with
   | none=>rw [hn] at hs;cases hs
   | some z =>
    rw [hn] at hs
    simp only [Option.bind_some] at hs ⊢
    cases hz:z.2.2.1 with
    | false=>rw [hz] at hs;exact hs
    | true =>
     rw [hz] at hs
     simp only [Bool.not_true,cond_false] at hs ⊢
     cases hr:room tis 24 (0+1) with
     | false=>rw [hr] at hs;cases hs
     | true =>
      rw [hr] at hs
      simp only [cond_true] at hs ⊢
      rw [loopx_iter (form:=fm12b) (round12b Nx)]
      exact iter12b 70 ⟨z.1,(un12a x).b1_0,(un12a x).b1_1,(un12a x).b1_2,(un12a x).b1_3,(un12a x).b1_4,(un12a x).b1_5,(un12a x).b1_6,(un12a x).b1_11,(un12a x).b1_12,(un12a x).b1_13,(un12a x).b1_14,(un12a x).b1_15,(un12a x).b1_16,(un12a x).b1_17,(un12a x).b1_18,[z.2.1]⟩ hs
  ·cases hs
 ·cases hs
def allX (Nx:MT→Option NX) (m:MT):Option (MT × List ST × Unit) :=
  (Nx m).bind fun r=>bif !r.2.2.1 then some (r.1,[],()) else bif room tis 24 (0+1) then (allGo Nx 70 r.1 [r.2.1]).bind fun p=>some (p.1,p.2,()) else none
theorem all_is (Nx:MT→Option NX) (m:MT):fnx (mk (spG Nx)) (L12 Nx) 12 [DM] RA (m,())=allX Nx m:=by kernel_rfl
theorem s12:SpecOk Try.prog 12 ⟨[DM],RA,fun x=>allX nextO x.1⟩:=by
 refine fnl_ok xG_ok (lps:=L12 nextO) 1 (by kernel_rfl) (fun k hk=>?_) (fun x r h=>?_) ⟨_,_,rfl,rfl⟩
 ·obtain rfl:k=0:=by omega
  exact loop12 nextO
 ·obtain⟨m,⟨⟩⟩:=x
  rw [←h]
  exact all_is nextO m
end Go.Proofs.Ytkeedfiffjpnfaa.X
end
section
set_option linter.unusedVariables false
set_option linter.unusedSimpArgs false
namespace Go.Proofs.Ytkeedfiffjpnfaa.X
open Go Go.RowKit
set_option maxRecDepth 100000
set_option maxHeartbeats 4000000
set_option linter.unusedVariables false
set_option linter.unusedSimpArgs false
abbrev regs (n:Nat) (l:List (Nat × SV)):List SV:=l.foldl (fun t p=>t.set p.1 p.2) (List.replicate n .junk)
abbrev dead (n:Nat) (l:List Nat):List Nat:=(List.range n).filter fun i=>!l.contains i
def eqS (a b:ST):Bool:=a.1 == b.1 && (a.2.1 == b.2.1 && (a.2.2.1.1 == b.2.2.1.1 && (a.2.2.1.2.1 == b.2.2.1.2.1 && (a.2.2.1.2.2.1 == b.2.2.1.2.2.1 && true)) && true))
theorem eqS_is {a b:ST}:eqS a b=true↔a=b:=by
 obtain⟨t,s,⟨v,w,y,⟨⟩⟩,⟨⟩⟩:=a
 obtain⟨t',s',⟨v',w',y',⟨⟩⟩,⟨⟩⟩:=b
 simp [eqS]
theorem eqS_not {a b:ST}:eqS a b=false↔a≠b:=by
 rw [←Bool.not_eq_true,eqS_is]
theorem rd_at {K:Kd} {l:List K.T} {i:Int} (h:0≤i) (h2:i<l.length):inB i l.length=true∧∃ z,l[i.toNat]? = some z∧rd K l i.toNat=z∧l.drop i.toNat=z :: l.drop (i+1).toNat:=by
 have hl:i.toNat<l.length:=by omega
 refine⟨by simp [inB];omega,l[i.toNat],by simp [hl],?_,?_⟩
 ·show(l[i.toNat]?).getD K.dflt=_
  rw [List.getElem?_eq_getElem hl];rfl
 ·have:(i+1).toNat=i.toNat+1:=by omega
  rw [this,List.drop_eq_getElem_cons hl]
theorem rd_atS {l:List ST} {i:Int} (h:0≤i) (h2:i<l.length):inB i l.length=true∧∃ z:ST,l[i.toNat]? = some z∧(rd KS l i.toNat:ST)=z∧l.drop i.toNat=z :: l.drop (i+1).toNat :=
 rd_at (K:=KS) (l:=l) h h2
abbrev dead32:List Nat:=[2,3,4,6,7,8,9,10,11,12,13,14,15,16,17,18,19,20,21,22,23,24,25]
abbrev sk32:StSk:=⟨[.seq KS,.seq KS,.junk,.junk,.junk,.int .i64,.junk,.junk,.junk,.junk,.junk,.junk,.junk,.junk,.junk,.junk,.junk,.junk,.junk,.junk,.junk,.junk,.junk,.junk,.junk,.junk],[]⟩
structure D32 where
  r0:List (ST)
  r1:List (ST)
  r5:Int
abbrev fm32 (x:D32):St:=⟨[.seq KS x.r0,.seq KS x.r1,.junk,.junk,.junk,.v (.int .i64 x.r5),.junk,.junk,.junk,.junk,.junk,.junk,.junk,.junk,.junk,.junk,.junk,.junk,.junk,.junk,.junk,.junk,.junk,.junk,.junk,.junk],[]⟩
def un32 (x:sk32.T):D32:=match x with
  | ((r0,r1,_,_,_,r5,_,_,_,_,_,_,_,_,_,_,_,_,_,_,_,_,_,_,_,_,_),(_))=>⟨r0,r1,r5⟩
theorem un32_ok (x:sk32.T):sk32.fill x=fm32 (un32 x):=by kernel_rfl
abbrev deadx32:List Nat:=dead 26 [4]
abbrev fe32:St:=⟨regs 26 [],[]⟩
abbrev fr32:St:=⟨regs 26 [(4,.v (.bool false))],[]⟩
noncomputable def rnd32 {R:Type} (fe fr:St) (x:D32) (N:D32→Option R) (E:Ex→St→Option R):Option R :=
  bif decide (x.r5<x.r0.length) then (bif inB x.r5 x.r0.length then bif inB x.r5 x.r1.length then bif !(eqS (rd KS x.r0 x.r5.toNat) (rd KS x.r1 x.r5.toNat)) then E .ret fr else N ⟨x.r0,x.r1,IntKind.i64.wrap (x.r5+1)⟩ else none else none) else E (.exit 0) fe
theorem round32 {X:Ctx} {R:Type} {lps:Lps R} (x:D32) (N:Option St→Option R) (E:Ex→Option St→Option R) :
  roundx (codex (mk sp0) lps (callN (mk sp0) 20) 32 (loopAt (mk sp0) 32 0)) (headx dead32) (headx deadx32) (fm32 x) N E=rnd32 fe32 fr32 x (fun x'=>N (some (fm32 x'))) (fun e s=>E e (some s)):=by
 kernel_rfl
def sameL:List ST→List ST→Bool
  | [],[]=>true
  | a :: l,b :: l'=>eqS a b && sameL l l'
  | _,_=>false
theorem sameL_is:∀ {l l':List ST},sameL l l'=true↔l=l'
 | [],[]=>by simp [sameL]
 | [],_ :: _=>by simp [sameL]
 | _ :: _,[]=>by simp [sameL]
 | a :: l,b :: l'=>by simp [sameL,eqS_is,sameL_is]
def res32p {R:Type} (fe fr:St) (K:Ex→St→Option R) (x:D32):Option R :=
  bif decide (0≤x.r5) && (decide (x.r5≤x.r0.length) && (decide (x.r0.length=x.r1.length) && decide ((x.r0.length:Int)<4611686018427387904))) then (bif sameL (x.r0.drop x.r5.toNat) (x.r1.drop x.r5.toNat) then K (.exit 0) fe else K .ret fr) else none
theorem res32_ok {R:Type} {fe fr:St} (x:D32) (K:Ex→St→Option R) (r:R) (h:res32p fe fr K x=some r):∃ n,iter (rnd32 fe fr) n x K=some r:=by
 refine iter_by (fun x=>x.r0.length-x.r5.toNat) (res32p fe fr K) (fun x h=>?_) x h
 obtain⟨a,b,i⟩:=x
 unfold res32p at h
 dsimp only at h
 cases hc:(decide (0≤i) && (decide (i≤a.length) && (decide (a.length=b.length) && decide ((a.length:Int)<4611686018427387904)))) with
 | false=>rw [hc] at h;cases h
 | true =>
  rw [hc] at h
  simp only [Bool.and_eq_true,decide_eq_true_eq] at hc
  obtain⟨h0,h1,h2,h3⟩:=hc
  by_cases hi:i<a.length
  ·obtain⟨e1,z,_,e2,e3⟩:=rd_atS (l:=a) h0 hi
   obtain⟨f1,y,_,f2,f3⟩:=rd_atS (l:=b) h0 (by omega)
   have e3':a.drop i.toNat=z :: a.drop (i+1).toNat:=e3
   have f3':b.drop i.toNat=y :: b.drop (i+1).toNat:=f3
   rw [e3',f3'] at h
   simp only [sameL] at h
   cases hz:eqS z y with
   | false =>
    right
    intro N
    unfold rnd32
    dsimp only
    rw [decide_eq_true hi,e1,f1,e2,f2,hz]
    rw [hz] at h
    exact h
   | true =>
    left
    refine⟨⟨a,b,IntKind.i64.wrap (i+1)⟩,?_,?_,fun N hN=>?_⟩
    ·dsimp only;rw [wrap_i64 (by omega) (by omega)];omega
    ·unfold res32p
     dsimp only
     rw [wrap_i64 (by omega) (by omega),decide_eq_true (show 0≤i+1 by omega),decide_eq_true (show i+1≤a.length by omega),decide_eq_true h2,decide_eq_true h3]
     rw [hz] at h
     exact h
    ·unfold rnd32
     dsimp only
     rw [decide_eq_true hi,e1,f1,e2,f2,hz]
     exact hN
  ·right
   intro N
   unfold rnd32
   dsimp only
   rw [decide_eq_false hi]
   have ea:a.drop i.toNat=[]:=by rw [List.drop_eq_nil_iff];omega
   have eb:b.drop i.toNat=[]:=by rw [List.drop_eq_nil_iff];omega
   rw [ea,eb] at h
   exact h
noncomputable abbrev L32:{R:Type}→Lps R:=fun f rid=>match f,rid with|32,4=>some (lpd dead32 sk32 un32 fun x K=>res32p fe32 fr32 K x)|_,_=>none
theorem loop32 {R:Type}:LoopOk (mk sp0) R (L32 32 (firstRid (loopAt (mk sp0) 32 0))) 32 0 L32:=by
 intro L hL s K r hs
 have e:(L32 32 (firstRid (loopAt (mk sp0) 32 0)):Option (St→(Ex→St→Option R)→Option R))=some (lpd dead32 sk32 un32 fun x K=>res32p fe32 fr32 K x):=by kernel_rfl
 rw [e] at hL
 obtain rfl:=Option.some.inj hL
 exact lpd_ok un32_ok (round32 (X:=mk sp0)) res32_ok hs
def sameB (a b:List ST):Bool:=a.length == b.length && sameL a b
theorem sameB_is {a b:List ST}:sameB a b=true↔a=b:=by
 simp only [sameB,Bool.and_eq_true,sameL_is,beq_iff_eq]
 constructor
 ·exact fun h=>h.2
 ·rintro rfl;exact⟨rfl,rfl⟩
def lt62 (n:Nat):Bool:=decide ((n:Int)<4611686018427387904)
theorem same_tree (a b:List ST):lt62 a.length=true→(bif !((a.length:Int) == (b.length:Int)) then some false else
  bif decide ((0:Int)≤0) && (decide ((0:Int)≤a.length) && (decide (a.length=b.length) && decide ((a.length:Int)<4611686018427387904))) then (bif sameL (a.drop (Int.toNat 0)) (b.drop (Int.toNat 0)) then some true else some false) else none)=some (sameB a b):=by
 intro h
 unfold lt62 at h
 unfold sameB
 rw [h]
 by_cases e:a.length=b.length
 ·simp [e]
  cases sameL a b<;>rfl
 ·have:((a.length:Int) == (b.length:Int))=false:=by simp;omega
  rw [this]
  simp [e]
theorem s32:SpecOk Try.prog 32 ⟨[.sc KQ,.sc KQ],.one (.sc .bool),fun x=>bif lt62 (List.length (α:=ST) x.1) then some (sameB x.1 x.2.1) else none⟩:=by
 refine fnl_ok x0_ok (lps:=L32) 1 (by kernel_rfl) (fun k hk=>?_) (fun x r h=>?_) ⟨_,_,rfl,rfl⟩
 ·obtain rfl:k=0:=by omega
  exact loop32
 ·obtain⟨a,b,⟨⟩⟩:=x
  have h':(bif lt62 (List.length (α:=ST) a) then some (sameB a b) else none)=some r:=h
  cases hl:lt62 (List.length (α:=ST) a) with
  | false=>rw [hl] at h';cases h'
  | true =>
   rw [hl] at h'
   rw [←h']
   refine Eq.trans ?_ (same_tree a b hl)
   show fnx (mk sp0) L32 32 [.sc KQ,.sc KQ] (.one (.sc .bool)) (a,b,())=_
   clear h h'
   kernel_rfl
abbrev dead19:List Nat:=[1,2,4,6,7,8,9,10,11,12,13,14,15,16,17]
abbrev sk19:StSk:=⟨[.seq KS,.junk,.junk,.ptr 0 0,.junk,.int .i64,.junk,.junk,.junk,.junk,.junk,.junk,.junk,.junk,.junk,.junk,.junk,.junk],[some (.cells [.int .i64,.int .i64,.int .i64,.int .i64,.int .i64])]⟩
structure D19 where
  r0:List (ST)
  r5:Int
  b0:ST
abbrev fm19 (x:D19):St:=⟨[.seq KS x.r0,.junk,.junk,.ptr 0 0,.junk,.v (.int .i64 x.r5),.junk,.junk,.junk,.junk,.junk,.junk,.junk,.junk,.junk,.junk,.junk,.junk],[some (true,.cells (Kd.cells KS x.b0))]⟩
def un19 (x:sk19.T):D19:=match x with
  | ((r0,_,_,_,_,r5,_,_,_,_,_,_,_,_,_,_,_,_,_),((b0_0,b0_1,b0_2,b0_3,b0_4,_),_))=>⟨r0,r5,(b0_0,b0_1,(b0_2,b0_3,b0_4,()),())⟩
theorem un19_ok (x:sk19.T):sk19.fill x=fm19 (un19 x):=by kernel_rfl
abbrev deadx19:List Nat:=dead 18 [4]
abbrev fe19:St:=⟨regs 18 [],[]⟩
abbrev fr19:St:=⟨regs 18 [(4,.v (.bool true))],[]⟩
noncomputable def rnd19 {R:Type} (fe fr:St) (x:D19) (N:D19→Option R) (E:Ex→St→Option R):Option R :=
  bif decide (x.r5<x.r0.length) then (bif inB x.r5 x.r0.length then bif eqS (rd KS x.r0 x.r5.toNat) x.b0 then E .ret fr else N ⟨x.r0,IntKind.i64.wrap (x.r5+1),x.b0⟩ else none) else E (.exit 0) fe
theorem round19 {R:Type} {lps:Lps R} (x:D19) (N:Option St→Option R) (E:Ex→Option St→Option R) :
  roundx (codex (mk sp0) lps (callN (mk sp0) 20) 19 (loopAt (mk sp0) 19 0)) (headx dead19) (headx deadx19) (fm19 x) N E=rnd19 fe19 fr19 x (fun x'=>N (some (fm19 x'))) (fun e s=>E e (some s)):=by
 kernel_rfl
def hasL (s:ST):List ST→Bool
  | []=>false
  | a :: l=>eqS a s || hasL s l
theorem hasL_is {s:ST}:∀ {l:List ST},hasL s l=true↔s ∈ l
 | []=>by simp [hasL]
 | a :: l=>by
  simp only [hasL,Bool.or_eq_true,eqS_is,hasL_is,List.mem_cons]
  constructor
  ·rintro(h|h)
   ·exact Or.inl h.symm
   ·exact Or.inr h
  ·rintro(h|h)
   ·exact Or.inl h.symm
   ·exact Or.inr h
def res19p {R:Type} (fe fr:St) (K:Ex→St→Option R) (x:D19):Option R :=
  bif decide (0≤x.r5) && (decide (x.r5≤x.r0.length) && decide ((x.r0.length:Int)<4611686018427387904)) then (bif hasL x.b0 (x.r0.drop x.r5.toNat) then K .ret fr else K (.exit 0) fe) else none
theorem res19_ok {R:Type} {fe fr:St} (x:D19) (K:Ex→St→Option R) (r:R) (h:res19p fe fr K x=some r):∃ n,iter (rnd19 fe fr) n x K=some r:=by
 refine iter_by (fun x=>x.r0.length-x.r5.toNat) (res19p fe fr K) (fun x h=>?_) x h
 obtain⟨a,i,s⟩:=x
 unfold res19p at h
 dsimp only at h
 cases hc:(decide (0≤i) && (decide (i≤a.length) && decide ((a.length:Int)<4611686018427387904))) with
 | false=>rw [hc] at h;cases h
 | true =>
  rw [hc] at h
  simp only [Bool.and_eq_true,decide_eq_true_eq] at hc
  obtain⟨h0,h1,h3⟩:=hc
  by_cases hi:i<a.length
  ·obtain⟨e1,z,_,e2,e3⟩:=rd_atS (l:=a) h0 hi
   have e3':a.drop i.toNat=z :: a.drop (i+1).toNat:=e3
   rw [e3'] at h
   simp only [hasL] at h
   cases hz:eqS z s with
   | true =>
    right
    intro N
    unfold rnd19
    dsimp only
    rw [decide_eq_true hi,e1,e2,hz]
    rw [hz] at h
    exact h
   | false =>
    left
    refine⟨⟨a,IntKind.i64.wrap (i+1),s⟩,?_,?_,fun N hN=>?_⟩
    ·dsimp only;rw [wrap_i64 (by omega) (by omega)];omega
    ·unfold res19p
     dsimp only
     rw [wrap_i64 (by omega) (by omega),decide_eq_true (show 0≤i+1 by omega),decide_eq_true (show i+1≤a.length by omega),decide_eq_true h3]
     rw [hz] at h
     exact h
    ·unfold rnd19
     dsimp only
     rw [decide_eq_true hi,e1,e2,hz]
     exact hN
  ·right
   intro N
   unfold rnd19
   dsimp only
   rw [decide_eq_false hi]
   have ea:a.drop i.toNat=[]:=by rw [List.drop_eq_nil_iff];omega
   rw [ea] at h
   exact h
noncomputable abbrev L19:{R:Type}→Lps R:=fun f rid=>match f,rid with|19,2=>some (lpd dead19 sk19 un19 fun x K=>res19p fe19 fr19 K x)|_,_=>none
theorem loop19 {R:Type}:LoopOk (mk sp0) R (L19 19 (firstRid (loopAt (mk sp0) 19 0))) 19 0 L19:=by
 intro L hL s K r hs
 have e:(L19 19 (firstRid (loopAt (mk sp0) 19 0)):Option (St→(Ex→St→Option R)→Option R))=some (lpd dead19 sk19 un19 fun x K=>res19p fe19 fr19 K x):=by kernel_rfl
 rw [e] at hL
 obtain rfl:=Option.some.inj hL
 exact lpd_ok un19_ok round19 res19_ok hs
theorem has_tree (a:List ST) (s:ST):(bif decide ((0:Int)≤0) && (decide ((0:Int)≤a.length) && decide ((a.length:Int)<4611686018427387904)) then (bif hasL s (a.drop (Int.toNat 0)) then some true else some false) else none)=(bif lt62 a.length then some (hasL s a) else none):=by
 unfold lt62
 have e1:decide ((0:Int)≤a.length)=true:=decide_eq_true (by omega)
 rw [e1,show a.drop (Int.toNat 0)=a from rfl,show decide ((0:Int)≤0)=true from rfl]
 generalize decide ((a.length:Int)<4611686018427387904)=b
 cases b<;>cases hasL s a<;>rfl
theorem s19:SpecOk Try.prog 19 ⟨[.sc KQ,.ag KS],.one (.sc .bool),fun x=>bif lt62 (List.length (α:=ST) x.1) then some (hasL x.2.1 x.1) else none⟩:=by
 refine fnl_ok x0_ok (lps:=L19) 1 (by kernel_rfl) (fun k hk=>?_) (fun x r h=>?_) ⟨_,_,rfl,rfl⟩
 ·obtain rfl:k=0:=by omega
  exact loop19
 ·obtain⟨a,s,⟨⟩⟩:=x
  rw [←h]
  refine Eq.trans ?_ (has_tree a s)
  show fnx (mk sp0) L19 19 [.sc KQ,.ag KS] (.one (.sc .bool)) (a,s,())=_
  clear h
  kernel_rfl
end Go.Proofs.Ytkeedfiffjpnfaa.X
end
section
set_option linter.unusedVariables false
set_option linter.unusedSimpArgs false
namespace Go.Proofs.Ytkeedfiffjpnfaa.X
open Go Go.RowKit
set_option maxRecDepth 100000
set_option maxHeartbeats 4000000
set_option linter.unusedVariables false
def leftR (m:MT):Int:=iw (iw (iw ((m.2.2.2.1.1.length:Int)+m.2.2.2.1.2.1.length)+m.2.2.2.1.2.2.1.length)+m.2.2.2.1.2.2.2.1.length)
theorem s21:SpecOk Try.prog 21 ⟨[.ag KM],.one (.sc KI),fun x=>some (leftR x.1)⟩:=by
 refine fnx_ok xB_ok noloop (fun x r h=>?_) ⟨_,_,rfl,rfl⟩
 obtain⟨m,⟨⟩⟩:=x
 rw [←h]
 kernel_rfl
theorem s10:SpecOk Try.prog 10 ⟨[.ag KM],.one (.sc .bool),fun x=>some (decide (leftR x.1≤100))⟩:=by
 refine fnx_ok xB_ok noloop (fun x r h=>?_) ⟨_,_,rfl,rfl⟩
 obtain⟨m,⟨⟩⟩:=x
 rw [←h]
 kernel_rfl
end Go.Proofs.Ytkeedfiffjpnfaa.X
end
section
set_option linter.unusedVariables false
set_option linter.unusedSimpArgs false
namespace Go.Proofs.Ytkeedfiffjpnfaa.X
open Go Go.RowKit
set_option maxRecDepth 100000
set_option maxHeartbeats 4000000
set_option linter.unusedVariables false
set_option linter.unusedSimpArgs false
abbrev sp32 (SA:List ST→List ST→Option Bool):FuncId→Option Spec:=fun f=>match f with
  | 32=>some ⟨[.sc KQ,.sc KQ],.one (.sc .bool),fun x=>SA x.1 x.2.1⟩
  | _=>none
def samO (a b:List ST):Option Bool:=bif lt62 a.length then some (sameB a b) else none
theorem x32_ok:XOk Try.prog (mk (sp32 samO)):=mk_ok (fun f s h=>by
 simp only [sp32] at h
 split at h
 ·obtain rfl:=Option.some.inj h;exact s32
 ·cases h)
def eqN (a b:NT):Bool:=a.1 == b.1 && (a.2.1 == b.2.1 && (a.2.2.1 == b.2.2.1 && (a.2.2.2.1 == b.2.2.2.1 && (a.2.2.2.2.1 == b.2.2.2.2.1 && (a.2.2.2.2.2.1 == b.2.2.2.2.2.1 && (a.2.2.2.2.2.2.1 == b.2.2.2.2.2.2.1 && true))))))
def thn (o:Option Bool) (A:Option Bool):Option Bool:=o.bind fun r=>bif !r then some false else A
def sameO (SA:List ST→List ST→Option Bool) (a b:MT):Option Bool :=
  bif !(a.1 != b.1) then (bif !!(a.2.1 == b.2.1) then (bif !!(eqS a.2.2.1 b.2.2.1) then (bif !!(eqN a.2.2.2.2.1 b.2.2.2.2.1) then (bif a.2.2.2.2.2.1 != b.2.2.2.2.2.1 then some false else
    thn (SA a.2.2.2.1.1 b.2.2.2.1.1) (thn (SA a.2.2.2.1.2.1 b.2.2.2.1.2.1) (thn (SA a.2.2.2.1.2.2.1 b.2.2.2.1.2.2.1) (thn (SA a.2.2.2.1.2.2.2.1 b.2.2.2.1.2.2.2.1) (some true))))) else some false) else some false) else some false) else some false
theorem same_is (SA:List ST→List ST→Option Bool) (a b:MT):fnx (mk (sp32 SA)) L0 20 [DM,DM] (.one (.sc .bool)) (a,b,())=sameO SA a b:=by kernel_rfl
theorem s20:SpecOk Try.prog 20 ⟨[DM,DM],.one (.sc .bool),fun x=>sameO samO x.1 x.2.1⟩:=by
 refine fnx_ok x32_ok noloop (fun x r h=>?_) ⟨_,_,rfl,rfl⟩
 obtain⟨a,b,⟨⟩⟩:=x
 rw [←h]
 exact same_is samO a b
abbrev spH (Pt:MT→Int→List Int→Option PT) (Al:MT→Option (MT × List ST × Unit)) (Tl:MT→Int→MT) (Wd:ST→List Int) (Lf:MT→Int) (Sn:MT→Bool):FuncId→Option Spec:=fun f=>match f with
  | 16=>some ⟨AP,RP,fun x=>Pt x.1 x.2.1 x.2.2.1⟩
  | 12=>some ⟨[DM],RA,fun x=>Al x.1⟩
  | 17=>some ⟨[DM,.sc KI],.one DM,fun x=>some (Tl x.1 x.2.1)⟩
  | 18=>some ⟨[.ag KS],.one (.sc (.sl KU)),fun x=>some (Wd x.1)⟩
  | 15=>some ⟨[DM],.one (.sc KI),fun x=>some (Lf x.1)⟩
  | 11=>some ⟨[DM],.one (.sc .bool),fun x=>some (Sn x.1)⟩
  | _=>none
theorem xH_ok:XOk Try.prog (mk (spH putO (allX nextO) tillM wordsS leftM saneM)):=mk_ok (fun f s h=>by
 simp only [spH] at h
 split at h
 ·obtain rfl:=Option.some.inj h;exact s16
 ·obtain rfl:=Option.some.inj h;exact s12
 ·obtain rfl:=Option.some.inj h;exact s17
 ·obtain rfl:=Option.some.inj h;exact s18
 ·obtain rfl:=Option.some.inj h;exact s15
 ·obtain rfl:=Option.some.inj h;exact s11
 ·cases h)
theorem awake_is:fnx (mk (spH putO (allX nextO) tillM wordsS leftM saneM)) L0 9 [] (.one (.sc .bool)) ()=some true:=by kernel_rfl
theorem s9:SpecOk Try.prog 9 ⟨[],.one (.sc .bool),fun _=>some true⟩:=by
 refine fnx_ok xH_ok noloop (fun x r h=>?_) ⟨_,_,rfl,rfl⟩
 obtain⟨⟩:=x
 rw [←h]
 exact awake_is
structure Fs where
  Pt:MT→Int→List Int→Option PT
  Al:MT→Option (MT × List ST × Unit)
  Nx:MT→Option NX
  Tl:MT→Int→MT
  Wd:ST→List Int
  Lf:MT→Int
  Sn:MT→Bool
  Fw:MT→Bool
  Bf:ST→ST→Bool
  Sm:MT→MT→Option Bool
  Hs:List ST→ST→Option Bool
abbrev spI (F:Fs):FuncId→Option Spec:=fun f=>match f with
  | 16=>some ⟨AP,RP,fun x=>F.Pt x.1 x.2.1 x.2.2.1⟩
  | 12=>some ⟨[DM],RA,fun x=>F.Al x.1⟩
  | 14=>some ⟨[DM],RX,fun x=>F.Nx x.1⟩
  | 17=>some ⟨[DM,.sc KI],.one DM,fun x=>some (F.Tl x.1 x.2.1)⟩
  | 18=>some ⟨[.ag KS],.one (.sc (.sl KU)),fun x=>some (F.Wd x.1)⟩
  | 15=>some ⟨[DM],.one (.sc KI),fun x=>some (F.Lf x.1)⟩
  | 11=>some ⟨[DM],.one (.sc .bool),fun x=>some (F.Sn x.1)⟩
  | 10=>some ⟨[DM],.one (.sc .bool),fun x=>some (F.Fw x.1)⟩
  | 13=>some ⟨[.ag KS,.ag KS],.one (.sc .bool),fun x=>some (F.Bf x.1 x.2.1)⟩
  | 20=>some ⟨[DM,DM],.one (.sc .bool),fun x=>F.Sm x.1 x.2.1⟩
  | 19=>some ⟨[.sc KQ,.ag KS],.one (.sc .bool),fun x=>F.Hs x.1 x.2.1⟩
  | 9=>some ⟨[],.one (.sc .bool),fun _=>some true⟩
  | _=>none
abbrev FF:Fs:=⟨putO,allX nextO,nextO,tillM,wordsS,leftM,saneM,fun m=>decide (leftR m≤100),bef,sameO samO,fun l s=>bif lt62 l.length then some (hasL s l) else none⟩
theorem xI_ok:XOk Try.prog (mk (spI FF)):=mk_ok (fun f s h=>by
 simp only [spI] at h
 split at h
 ·obtain rfl:=Option.some.inj h;exact s16
 ·obtain rfl:=Option.some.inj h;exact s12
 ·obtain rfl:=Option.some.inj h;exact s14
 ·obtain rfl:=Option.some.inj h;exact s17
 ·obtain rfl:=Option.some.inj h;exact s18
 ·obtain rfl:=Option.some.inj h;exact s15
 ·obtain rfl:=Option.some.inj h;exact s11
 ·obtain rfl:=Option.some.inj h;exact s10
 ·obtain rfl:=Option.some.inj h;exact s13
 ·obtain rfl:=Option.some.inj h;exact s20
 ·obtain rfl:=Option.some.inj h;exact s19
 ·obtain rfl:=Option.some.inj h;exact s9
 ·cases h)
abbrev RB:RD:=.one (.sc .bool)
def twT (F:Fs) (m:MT) (s:ST) (less:Int):Option Bool :=
  bif !!F.Fw m then (bif decide (less<0) then some true else
    (F.Pt m s.2.1 (F.Wd s)).bind fun a=>(F.Pt a.1 s.2.1 (F.Wd s)).bind fun b=>(F.Pt a.1 s.2.1 (F.Wd ((if 0<IntKind.i64.wrap (s.1-less) then IntKind.i64.wrap (s.1-less) else 0),s.2))).bind fun c =>
      bif a.2.1 != 0 then some true else bif !(b.2.1 == 3) then (bif b.2.1 == 4 then (bif !(c.2.1 == 3) then some (c.2.1 == 4) else some true) else some false) else (bif !(c.2.1 == 3) then some (c.2.1 == 4) else some true)) else some true
theorem twice_is (F:Fs) (m:MT) (s:ST) (less:Int):fnx (mk (spI F)) L0 7 [DM,.ag KS,.sc KI] RB (m,s,less,())=twT F m s less:=by kernel_rfl
end Go.Proofs.Ytkeedfiffjpnfaa.X
end
section
set_option linter.unusedVariables false
set_option linter.unusedSimpArgs false
namespace Go.Proofs.Ytkeedfiffjpnfaa.X
open Go Go.RowKit
set_option maxRecDepth 100000
set_option maxHeartbeats 4000000
set_option linter.unusedVariables false
set_option linter.unusedSimpArgs false
abbrev dead3:List Nat:=[0,2,7,8,9,10,11,12,13,14,15,16,17,18,19,20,21,22,23,24,25,26,27,28,29,30,31,32,33,34,35,36,37,38,39,40,41,42,43,44,45,46,47,48,49,50,51,52,53,54,55,56,57,58,59,60,61,62,63,64,65,66,67,68,69,70,71,72,73,74,75,76,77,78,79,80,81,82,83,84,85,86,87,88,89,90,91,92,93,94,95,96,97,98,99,100,101,102,103,104,105,106,107,108,109,110,111,112,113]
abbrev sk3:StSk:=⟨[.junk,.ptr 0 0,.junk,.bool,.ptr 1 0,.seq KS,.int .i64,.junk,.junk,.junk,.junk,.junk,.junk,.junk,.junk,.junk,.junk,.junk,.junk,.junk,.junk,.junk,.junk,.junk,.junk,.junk,.junk,.junk,.junk,.junk,.junk,.junk,.junk,.junk,.junk,.junk,.junk,.junk,.junk,.junk,.junk,.junk,.junk,.junk,.junk,.junk,.junk,.junk,.junk,.junk,.junk,.junk,.junk,.junk,.junk,.junk,.junk,.junk,.junk,.junk,.junk,.junk,.junk,.junk,.junk,.junk,.junk,.junk,.junk,.junk,.junk,.junk,.junk,.junk,.junk,.junk,.junk,.junk,.junk,.junk,.junk,.junk,.junk,.junk,.junk,.junk,.junk,.junk,.junk,.junk,.junk,.junk,.junk,.junk,.junk,.junk,.junk,.junk,.junk,.junk,.junk,.junk,.junk,.junk,.junk,.junk,.junk,.junk,.junk,.junk,.junk,.junk,.junk,.junk],[some (.cells [.int .i64,.bool,.int .i64,.int .i64,.int .i64,.int .i64,.int .i64,.seq KS,.seq KS,.seq KS,.seq KS,.int .i64,.int .i64,.int .i64,.int .i64,.int .i64,.int .i64,.int .i64,.int .i64]),some (.cells [.int .i64,.bool,.int .i64,.int .i64,.int .i64,.int .i64,.int .i64,.seq KS,.seq KS,.seq KS,.seq KS,.int .i64,.int .i64,.int .i64,.int .i64,.int .i64,.int .i64,.int .i64,.int .i64])]⟩
structure D3 where
  r3:Bool
  r5:List (ST)
  r6:Int
  b0:MT
  b1:MT
abbrev fm3 (x:D3):St:=⟨[.junk,.ptr 0 0,.junk,.v (.bool x.r3),.ptr 1 0,.seq KS x.r5,.v (.int .i64 x.r6),.junk,.junk,.junk,.junk,.junk,.junk,.junk,.junk,.junk,.junk,.junk,.junk,.junk,.junk,.junk,.junk,.junk,.junk,.junk,.junk,.junk,.junk,.junk,.junk,.junk,.junk,.junk,.junk,.junk,.junk,.junk,.junk,.junk,.junk,.junk,.junk,.junk,.junk,.junk,.junk,.junk,.junk,.junk,.junk,.junk,.junk,.junk,.junk,.junk,.junk,.junk,.junk,.junk,.junk,.junk,.junk,.junk,.junk,.junk,.junk,.junk,.junk,.junk,.junk,.junk,.junk,.junk,.junk,.junk,.junk,.junk,.junk,.junk,.junk,.junk,.junk,.junk,.junk,.junk,.junk,.junk,.junk,.junk,.junk,.junk,.junk,.junk,.junk,.junk,.junk,.junk,.junk,.junk,.junk,.junk,.junk,.junk,.junk,.junk,.junk,.junk,.junk,.junk,.junk,.junk,.junk,.junk],[some (true,.cells (Kd.cells KM x.b0)),some (true,.cells (Kd.cells KM x.b1))]⟩
def un3 (x:sk3.T):D3:=match x with
  | ((_,_,_,r3,_,r5,r6,_,_,_,_,_,_,_,_,_,_,_,_,_,_,_,_,_,_,_,_,_,_,_,_,_,_,_,_,_,_,_,_,_,_,_,_,_,_,_,_,_,_,_,_,_,_,_,_,_,_,_,_,_,_,_,_,_,_,_,_,_,_,_,_,_,_,_,_,_,_,_,_,_,_,_,_,_,_,_,_,_,_,_,_,_,_,_,_,_,_,_,_,_,_,_,_,_,_,_,_,_,_,_,_,_,_,_,_),((b0_0,b0_1,b0_2,b0_3,b0_4,b0_5,b0_6,b0_7,b0_8,b0_9,b0_10,b0_11,b0_12,b0_13,b0_14,b0_15,b0_16,b0_17,b0_18,_),(b1_0,b1_1,b1_2,b1_3,b1_4,b1_5,b1_6,b1_7,b1_8,b1_9,b1_10,b1_11,b1_12,b1_13,b1_14,b1_15,b1_16,b1_17,b1_18,_),_))=>⟨r3,r5,r6,(b0_0,b0_1,(b0_2,b0_3,(b0_4,b0_5,b0_6,()),()),(b0_7,b0_8,b0_9,b0_10,()),(b0_11,b0_12,b0_13,b0_14,b0_15,b0_16,b0_17,()),b0_18,()),(b1_0,b1_1,(b1_2,b1_3,(b1_4,b1_5,b1_6,()),()),(b1_7,b1_8,b1_9,b1_10,()),(b1_11,b1_12,b1_13,b1_14,b1_15,b1_16,b1_17,()),b1_18,())⟩
theorem un3_ok (x:sk3.T):sk3.fill x=fm3 (un3 x):=by kernel_rfl
abbrev deadx3:List Nat:=dead 114 [1,2,3,4,5]
abbrev fe3 (x:D3):St:=⟨regs 114 [(1,.ptr 0 0),(3,.v (.bool x.r3)),(4,.ptr 1 0),(5,.seq KS x.r5)],[some (true,.cells (Kd.cells KM x.b0)),some (true,.cells (Kd.cells KM x.b1))]⟩
abbrev fr3 (x:D3):St:=⟨regs 114 [(1,.ptr 0 0),(2,.v (.bool false)),(3,.v (.bool x.r3)),(4,.ptr 1 0),(5,.seq KS x.r5)],[some (true,.cells (Kd.cells KM x.b0)),some (true,.cells (Kd.cells KM x.b1))]⟩
def sec3 {R:Type} (F:Fs) (x:D3) (A B:Option R) (b:Bool):Option R :=
  bif !b then (bif decide (x.r6 > 0) then (bif inB (IntKind.i64.wrap (x.r6-1)) x.r5.length then (bif inB x.r6 x.r5.length then (bif !(F.Bf (rd KS x.r5 (IntKind.i64.wrap (x.r6-1)).toNat) (rd KS x.r5 x.r6.toNat)) then B else A) else none) else none) else A) else B
def rnd3 {R:Type} (F:Fs) (fe fr:D3→St) (x:D3) (N:D3→Option R) (E:Ex→St→Option R):Option R :=
  bif decide (x.r6<x.r5.length) then (bif x.r6 == 0 then (bif x.b0.2.1 then (bif inB 0 x.r5.length then sec3 F x (N { x with r6:=IntKind.i64.wrap (x.r6+1) }) (E .ret (fr x)) (!(F.Bf x.b0.2.2.1 (rd KS x.r5 (0:Int).toNat))) else none)
    else sec3 F x (N { x with r6:=IntKind.i64.wrap (x.r6+1) }) (E .ret (fr x)) false) else sec3 F x (N { x with r6:=IntKind.i64.wrap (x.r6+1) }) (E .ret (fr x)) false) else E (.exit 0) (fe x)
theorem round3 {R:Type} {lps:Lps R} (F:Fs) (x:D3) (N:Option St→Option R) (E:Ex→Option St→Option R) :
  roundx (codex (mk (spI F)) lps (callN (mk (spI F)) 20) 3 (loopAt (mk (spI F)) 3 0)) (headx dead3) (headx deadx3) (fm3 x) N E=rnd3 F fe3 fr3 x (fun x'=>N (some (fm3 x'))) (fun e s=>E e (some s)):=by
 kernel_rfl
abbrev dead6:List Nat:=[0,1,3,4,6,8,11,12,13,14,15,16,17,18,19,20,21,22,23,24,25,26,27,28,29,30,31,32,33,34,35,36,37,38,39,40,41,42,43,44,45,46,47,48,49,50,51,52,53,54,55,56,57,58,59,60,61,62,63,64,65,66,67,68,69,70,71,72,73,74,75,76,77,78,79,80,81,82,83,84,85,86,87,88,89,90,91,92,93,94,95,96,97,98,99]
abbrev sk6:StSk:=⟨[.junk,.junk,.ptr 0 0,.junk,.junk,.bool,.junk,.seq KS,.junk,.seq KS,.int .i64,.junk,.junk,.junk,.junk,.junk,.junk,.junk,.junk,.junk,.junk,.junk,.junk,.junk,.junk,.junk,.junk,.junk,.junk,.junk,.junk,.junk,.junk,.junk,.junk,.junk,.junk,.junk,.junk,.junk,.junk,.junk,.junk,.junk,.junk,.junk,.junk,.junk,.junk,.junk,.junk,.junk,.junk,.junk,.junk,.junk,.junk,.junk,.junk,.junk,.junk,.junk,.junk,.junk,.junk,.junk,.junk,.junk,.junk,.junk,.junk,.junk,.junk,.junk,.junk,.junk,.junk,.junk,.junk,.junk,.junk,.junk,.junk,.junk,.junk,.junk,.junk,.junk,.junk,.junk,.junk,.junk,.junk,.junk,.junk,.junk,.junk,.junk,.junk,.junk],[some (.cells [.int .i64,.bool,.int .i64,.int .i64,.int .i64,.int .i64,.int .i64,.seq KS,.seq KS,.seq KS,.seq KS,.int .i64,.int .i64,.int .i64,.int .i64,.int .i64,.int .i64,.int .i64,.int .i64])]⟩
structure D6 where
  r5:Bool
  r7:List (ST)
  r9:List (ST)
  r10:Int
  b0:MT
abbrev fm6 (x:D6):St:=⟨[.junk,.junk,.ptr 0 0,.junk,.junk,.v (.bool x.r5),.junk,.seq KS x.r7,.junk,.seq KS x.r9,.v (.int .i64 x.r10),.junk,.junk,.junk,.junk,.junk,.junk,.junk,.junk,.junk,.junk,.junk,.junk,.junk,.junk,.junk,.junk,.junk,.junk,.junk,.junk,.junk,.junk,.junk,.junk,.junk,.junk,.junk,.junk,.junk,.junk,.junk,.junk,.junk,.junk,.junk,.junk,.junk,.junk,.junk,.junk,.junk,.junk,.junk,.junk,.junk,.junk,.junk,.junk,.junk,.junk,.junk,.junk,.junk,.junk,.junk,.junk,.junk,.junk,.junk,.junk,.junk,.junk,.junk,.junk,.junk,.junk,.junk,.junk,.junk,.junk,.junk,.junk,.junk,.junk,.junk,.junk,.junk,.junk,.junk,.junk,.junk,.junk,.junk,.junk,.junk,.junk,.junk,.junk,.junk],[some (true,.cells (Kd.cells KM x.b0))]⟩
def un6 (x:sk6.T):D6:=match x with
  | ((_,_,_,_,_,r5,_,r7,_,r9,r10,_,_,_,_,_,_,_,_,_,_,_,_,_,_,_,_,_,_,_,_,_,_,_,_,_,_,_,_,_,_,_,_,_,_,_,_,_,_,_,_,_,_,_,_,_,_,_,_,_,_,_,_,_,_,_,_,_,_,_,_,_,_,_,_,_,_,_,_,_,_,_,_,_,_,_,_,_,_,_,_,_,_,_,_,_,_,_,_,_,_),((b0_0,b0_1,b0_2,b0_3,b0_4,b0_5,b0_6,b0_7,b0_8,b0_9,b0_10,b0_11,b0_12,b0_13,b0_14,b0_15,b0_16,b0_17,b0_18,_),_))=>⟨r5,r7,r9,r10,(b0_0,b0_1,(b0_2,b0_3,(b0_4,b0_5,b0_6,()),()),(b0_7,b0_8,b0_9,b0_10,()),(b0_11,b0_12,b0_13,b0_14,b0_15,b0_16,b0_17,()),b0_18,())⟩
theorem un6_ok (x:sk6.T):sk6.fill x=fm6 (un6 x):=by kernel_rfl
abbrev deadx6:List Nat:=dead 100 [2,4,5,7]
abbrev fe6 (x:D6):St:=⟨regs 100 [(2,.ptr 0 0),(5,.v (.bool x.r5)),(7,.seq KS x.r7)],[some (true,.cells (Kd.cells KM x.b0))]⟩
abbrev fr6 (x:D6):St:=⟨regs 100 [(2,.ptr 0 0),(4,.v (.bool false)),(5,.v (.bool x.r5)),(7,.seq KS x.r7)],[some (true,.cells (Kd.cells KM x.b0))]⟩
def rnd6 {R:Type} (fe fr:D6→St) (x:D6) (N:D6→Option R) (E:Ex→St→Option R):Option R :=
  bif decide (x.r10<x.r7.length) then (bif !decide (x.r10 ≥ x.r9.length) then (bif inB x.r10 x.r9.length then (bif inB x.r10 x.r7.length then (bif !eqS (rd KS x.r9 x.r10.toNat) (rd KS x.r7 x.r10.toNat) then E .ret (fr x) else N { x with r10:=IntKind.i64.wrap (x.r10+1) }) else none) else none) else E .ret (fr x)) else E (.exit 0) (fe x)
theorem round6 {R:Type} {lps:Lps R} (F:Fs) (x:D6) (N:Option St→Option R) (E:Ex→Option St→Option R) :
  roundx (codex (mk (spI F)) lps (callN (mk (spI F)) 20) 6 (loopAt (mk (spI F)) 6 0)) (headx dead6) (headx deadx6) (fm6 x) N E=rnd6 fe6 fr6 x (fun x'=>N (some (fm6 x'))) (fun e s=>E e (some s)):=by
 kernel_rfl
abbrev dead6b:List Nat:=[0,1,3,4,6,8,9,10,13,14,15,16,17,18,19,20,21,22,23,24,25,26,27,28,29,30,31,32,33,34,35,36,37,38,39,40,41,42,43,44,45,46,47,48,49,50,51,52,53,54,55,56,57,58,59,60,61,62,63,64,65,66,67,68,69,70,71,72,73,74,75,76,77,78,79,80,81,82,83,84,85,86,87,88,89,90,91,92,93,94,95,96,97,98,99]
abbrev sk6b:StSk:=⟨[.junk,.junk,.ptr 0 0,.junk,.junk,.bool,.junk,.seq KS,.junk,.junk,.junk,.bool,.int .i64,.junk,.junk,.junk,.junk,.junk,.junk,.junk,.junk,.junk,.junk,.junk,.junk,.junk,.junk,.junk,.junk,.junk,.junk,.junk,.junk,.junk,.junk,.junk,.junk,.junk,.junk,.junk,.junk,.junk,.junk,.junk,.junk,.junk,.junk,.junk,.junk,.junk,.junk,.junk,.junk,.junk,.junk,.junk,.junk,.junk,.junk,.junk,.junk,.junk,.junk,.junk,.junk,.junk,.junk,.junk,.junk,.junk,.junk,.junk,.junk,.junk,.junk,.junk,.junk,.junk,.junk,.junk,.junk,.junk,.junk,.junk,.junk,.junk,.junk,.junk,.junk,.junk,.junk,.junk,.junk,.junk,.junk,.junk,.junk,.junk,.junk,.junk],[some (.cells [.int .i64,.bool,.int .i64,.int .i64,.int .i64,.int .i64,.int .i64,.seq KS,.seq KS,.seq KS,.seq KS,.int .i64,.int .i64,.int .i64,.int .i64,.int .i64,.int .i64,.int .i64,.int .i64])]⟩
structure D6b where
  r5:Bool
  r7:List (ST)
  r11:Bool
  r12:Int
  b0:MT
abbrev fm6b (x:D6b):St:=⟨[.junk,.junk,.ptr 0 0,.junk,.junk,.v (.bool x.r5),.junk,.seq KS x.r7,.junk,.junk,.junk,.v (.bool x.r11),.v (.int .i64 x.r12),.junk,.junk,.junk,.junk,.junk,.junk,.junk,.junk,.junk,.junk,.junk,.junk,.junk,.junk,.junk,.junk,.junk,.junk,.junk,.junk,.junk,.junk,.junk,.junk,.junk,.junk,.junk,.junk,.junk,.junk,.junk,.junk,.junk,.junk,.junk,.junk,.junk,.junk,.junk,.junk,.junk,.junk,.junk,.junk,.junk,.junk,.junk,.junk,.junk,.junk,.junk,.junk,.junk,.junk,.junk,.junk,.junk,.junk,.junk,.junk,.junk,.junk,.junk,.junk,.junk,.junk,.junk,.junk,.junk,.junk,.junk,.junk,.junk,.junk,.junk,.junk,.junk,.junk,.junk,.junk,.junk,.junk,.junk,.junk,.junk,.junk,.junk],[some (true,.cells (Kd.cells KM x.b0))]⟩
def un6b (x:sk6b.T):D6b:=match x with
  | ((_,_,_,_,_,r5,_,r7,_,_,_,r11,r12,_,_,_,_,_,_,_,_,_,_,_,_,_,_,_,_,_,_,_,_,_,_,_,_,_,_,_,_,_,_,_,_,_,_,_,_,_,_,_,_,_,_,_,_,_,_,_,_,_,_,_,_,_,_,_,_,_,_,_,_,_,_,_,_,_,_,_,_,_,_,_,_,_,_,_,_,_,_,_,_,_,_,_,_,_,_,_,_),((b0_0,b0_1,b0_2,b0_3,b0_4,b0_5,b0_6,b0_7,b0_8,b0_9,b0_10,b0_11,b0_12,b0_13,b0_14,b0_15,b0_16,b0_17,b0_18,_),_))=>⟨r5,r7,r11,r12,(b0_0,b0_1,(b0_2,b0_3,(b0_4,b0_5,b0_6,()),()),(b0_7,b0_8,b0_9,b0_10,()),(b0_11,b0_12,b0_13,b0_14,b0_15,b0_16,b0_17,()),b0_18,())⟩
theorem un6b_ok (x:sk6b.T):sk6b.fill x=fm6b (un6b x):=by kernel_rfl
abbrev deadx6b:List Nat:=dead 100 [4,5]
abbrev fe6b (x:D6b):St:=⟨regs 100 [(5,.v (.bool x.r5))],[]⟩
abbrev fr6b (x:D6b):St:=⟨regs 100 [(4,.v (.bool false)),(5,.v (.bool x.r5))],[]⟩
def rnd6b {R:Type} (fe fr:D6b→St) (x:D6b) (N:D6b→Option R) (E:Ex→St→Option R):Option R :=
  bif decide (x.r12<x.r7.length) then (bif x.r11 then (bif inB x.r12 x.r7.length then (bif decide ((show ST from rd KS x.r7 x.r12.toNat).1 > x.b0.1) then E .ret (fr x) else N { x with r12:=IntKind.i64.wrap (x.r12+1) }) else none) else E (.exit 2) (fe x)) else E (.exit 2) (fe x)
theorem round6b {R:Type} {lps:Lps R} (F:Fs) (x:D6b) (N:Option St→Option R) (E:Ex→Option St→Option R) :
  roundx (codex (mk (spI F)) lps (callN (mk (spI F)) 20) 6 (loopAt (mk (spI F)) 6 1)) (headx dead6b) (headx deadx6b) (fm6b x) N E=rnd6b fe6b fr6b x (fun x'=>N (some (fm6b x'))) (fun e s=>E e (some s)):=by
 kernel_rfl
end Go.Proofs.Ytkeedfiffjpnfaa.X
end
section
set_option linter.unusedVariables false
set_option linter.unusedSimpArgs false
namespace Go.Proofs.Ytkeedfiffjpnfaa.X
open Go Go.RowKit
set_option maxRecDepth 100000
set_option maxHeartbeats 1000000
set_option linter.unusedVariables false
set_option linter.unusedSimpArgs false
theorem bef_iff {a b:ST}:bef a b=true↔a.1<b.1∨(a.1=b.1∧a.2.1<b.2.1):=by
 unfold bef cmpI
 rcases Int.lt_trichotomy a.1 b.1 with h|h|h
 ·simp [h]
 ·have h1:¬a.1<b.1:=by omega
  have h2:¬a.1 > b.1:=by omega
  rcases Int.lt_trichotomy a.2.1 b.2.1 with g|g|g
  ·simp [h,g]
  ·have g1:¬a.2.1<b.2.1:=by omega
   have g2:¬a.2.1 > b.2.1:=by omega
   simp [h,g1,g2]
  ·have g1:¬a.2.1<b.2.1:=by omega
   simp [h,g,g1]
 ·have h1:¬a.1<b.1:=by omega
  have h3:¬a.1=b.1:=by omega
  simp [h,h1,h3]
theorem bef_trans {a b c:ST} (h:bef a b=true) (k:bef b c=true):bef a c=true:=by
 rw [bef_iff] at *;omega
theorem bef_total {a b:ST} (h:a.2.1≠b.2.1) (k:bef a b=false):bef b a=true:=by
 rw [←Bool.not_eq_true,bef_iff] at k;rw [bef_iff];omega
theorem bef_T {a b:ST} (h:a.1<b.1):bef a b=true:=by rw [bef_iff];omega
theorem saneS_iff {s:ST}:saneS s=true↔(-288230376151711744≤s.2.2.1.1∧s.2.2.1.1≤288230376151711744)∧(-288230376151711744≤s.2.2.1.2.1∧s.2.2.1.2.1≤288230376151711744)∧(-288230376151711744≤s.2.2.1.2.2.1∧s.2.2.1.2.2.1≤288230376151711744) ∧
  (0≤s.1∧s.1≤1099511627776)∧0≤s.2.1∧s.2.1<4:=by
 simp only [saneS,Bool.and_eq_true,decide_eq_true_eq]
 constructor
 ·rintro⟨⟨⟨a,b⟩,c⟩,d,e⟩;exact⟨a,b,c,d,e⟩
 ·rintro⟨a,b,c,d,e⟩;exact⟨⟨⟨a,b⟩,c⟩,d,e⟩
theorem behind_iff {m:MT} {s:ST}:behindM m s=true↔(m.2.1=true→bef m.2.2.1 s=true):=by
 unfold behindM
 cases m.2.1<;>simp
def isK (k:Int):Prop:=k=0∨k=1∨k=2∨k=3
structure Row (m:MT) (k:Int):Prop where
  el:∀ s ∈ qOf m k,saneS s=true∧s.2.1=k∧behindM m s=true
  up:(qOf m k).Pairwise fun a b=>a.1<b.1
  le:(qOf m k).length≤16
theorem rowGo_iff {m:MT} {k:Int}:∀ {l:List ST} {p:Option ST},rowGo m k p l=true↔(∀ s ∈ l,saneS s=true∧s.2.1=k∧behindM m s=true)∧(∀ q,p=some q→∀ s ∈ l,q.1<s.1)∧l.Pairwise fun a b=>a.1<b.1:=by
 intro l
 induction l with
 | nil=>intro p;simp [rowGo]
 | cons s l ih =>
  intro p
  simp only [rowGo,Bool.and_eq_true,ih,beq_iff_eq,List.pairwise_cons]
  constructor
  ·rintro⟨h1,h2,h3,h4,h5,h6,h7⟩
   refine⟨fun x hx=>?_,fun q hq x hx=>?_,fun x hx=>h6 s rfl x hx,h7⟩
   ·rcases List.mem_cons.1 hx with rfl|hx
    ·exact⟨h1,h2,h3⟩
    ·exact h5 x hx
   ·subst hq
    have hs:q.1<s.1:=by simpa using h4
    rcases List.mem_cons.1 hx with rfl|hx
    ·exact hs
    ·exact Int.lt_trans hs (h6 s rfl x hx)
  ·rintro⟨h1,h2,h3,h4⟩
   obtain⟨a,b,c⟩:=h1 s (by simp)
   refine⟨a,b,c,?_,fun x hx=>h1 x (by simp [hx]),fun q hq x hx=>?_,h4⟩
   ·cases p with
    | none=>rfl
    | some q=>simpa using h2 q rfl s (by simp)
   ·obtain rfl:=Option.some.inj hq
    exact h3 x hx
theorem rowB_iff {m:MT} {k:Int}:rowB m k=true↔Row m k:=by
 unfold rowB
 cases h:rowGo m k none (qOf m k) with
 | false =>
  simp only [cond_false,Bool.false_eq_true,false_iff]
  rintro⟨a,b,c⟩
  rw [←Bool.not_eq_true,rowGo_iff] at h
  exact h ⟨a,by simp,b⟩
 | true =>
  rw [rowGo_iff] at h
  simp only [cond_true,decide_eq_true_eq]
  constructor
  ·intro hl;exact⟨h.1,h.2.2,by omega⟩
  ·intro hr;have:=hr.le;omega
def left (m:MT):Int:=(qOf m 0).length+(qOf m 1).length+(qOf m 2).length+(qOf m 3).length
structure Sn (m:MT):Prop where
  row:∀ k,isK k→Row m k
  cn:∀ j,j<7→0≤nOf m.2.2.2.2.1 j∧nOf m.2.2.2.2.1 j≤1099511627776
  mr:0≤m.1∧m.1≤1099511627776
  tk:0≤m.2.2.2.2.2.1∧m.2.2.2.2.2.1≤1099511627776
  la:m.2.1=true→saneS m.2.2.1=true
  nl:m.2.1=false→m.2.2.1=zeroS
  n0:nOf m.2.2.2.2.1 0=m.2.2.2.2.2.1+left m
theorem countB_iff {n:Int}:countB n=true↔0≤n∧n≤1099511627776:=by
 simp [countB]
theorem zsB_iff {s:ST}:zsB s=true↔s=zeroS:=by
 obtain⟨t,s,⟨v,w,y,⟨⟩⟩,⟨⟩⟩:=s
 simp [zsB,zeroS]
theorem left_is {m:MT} (h0:(qOf m 0).length≤16) (h1:(qOf m 1).length≤16) (h2:(qOf m 2).length≤16) (h3:(qOf m 3).length≤16):leftM m=left m∧0≤left m∧left m≤64:=by
 have e:leftM m=iw (iw (iw (iw (0+(qOf m 0).length)+(qOf m 1).length)+(qOf m 2).length)+(qOf m 3).length):=rfl
 refine⟨?_,by unfold left;omega,by unfold left;omega⟩
 rw [e]
 unfold iw left
 have e1:IntKind.i64.wrap (0+((qOf m 0).length:Int))=0+(qOf m 0).length:=wrap_i64 (by omega) (by omega)
 rw [e1]
 have e2:IntKind.i64.wrap (0+((qOf m 0).length:Int)+(qOf m 1).length)=0+(qOf m 0).length+(qOf m 1).length:=wrap_i64 (by omega) (by omega)
 rw [e2]
 have e3:IntKind.i64.wrap (0+((qOf m 0).length:Int)+(qOf m 1).length+(qOf m 2).length)=0+(qOf m 0).length+(qOf m 1).length+(qOf m 2).length:=wrap_i64 (by omega) (by omega)
 rw [e3,wrap_i64 (by omega) (by omega)]
 omega
theorem nif {b:Bool} {A:Bool}:((bif !b then false else A)=true)↔b=true∧A=true:=by cases b<;>simp
theorem saneM_iff {m:MT}:saneM m=true↔Sn m:=by
 unfold saneM
 simp only [nif,rowB_iff,countB_iff]
 constructor
 ·rintro⟨r0,r1,r2,r3,c0,c1,c2,c3,c4,c5,c6,cm,ct,h⟩
  obtain⟨hl,hl0,hl1⟩:=left_is r0.le r1.le r2.le r3.le
  have hb:(bif m.2.1 then saneS m.2.2.1 else zsB m.2.2.1)=true∧(m.2.2.2.2.1.1 == IntKind.i64.wrap (m.2.2.2.2.2.1+leftM m))=true:=by
   cases hc:(bif m.2.1 then saneS m.2.2.1 else zsB m.2.2.1) with
   | false=>rw [hc] at h;cases h
   | true=>rw [hc] at h;exact⟨rfl,h⟩
  refine⟨?_,?_,cm,ct,fun e=>by rw [e] at hb;exact hb.1,fun e=>by rw [e] at hb;exact zsB_iff.1 hb.1,?_⟩
  ·rintro k (rfl|rfl|rfl|rfl)<;>assumption
  ·intro j hj
   match j,hj with
   | 0,_=>exact c0
   | 1,_=>exact c1
   | 2,_=>exact c2
   | 3,_=>exact c3
   | 4,_=>exact c4
   | 5,_=>exact c5
   | 6,_=>exact c6
  ·have h2:=hb.2
   rw [beq_iff_eq,hl,wrap_i64 (by omega) (by omega)] at h2
   exact h2
 ·intro h
  have r0:=h.row 0 (Or.inl rfl)
  have r1:=h.row 1 (Or.inr (Or.inl rfl))
  have r2:=h.row 2 (Or.inr (Or.inr (Or.inl rfl)))
  have r3:=h.row 3 (Or.inr (Or.inr (Or.inr rfl)))
  obtain⟨hl,hl0,hl1⟩:=left_is r0.le r1.le r2.le r3.le
  refine⟨r0,r1,r2,r3,h.cn 0 (by omega),h.cn 1 (by omega),h.cn 2 (by omega),h.cn 3 (by omega),h.cn 4 (by omega),h.cn 5 (by omega),h.cn 6 (by omega),h.mr,h.tk,?_⟩
  have h1:(bif m.2.1 then saneS m.2.2.1 else zsB m.2.2.1)=true:=by
   cases e:m.2.1 with
   | false=>exact zsB_iff.2 (h.nl e)
   | true=>exact h.la e
  have ht:=h.tk
  rw [h1,cond_true,beq_iff_eq,hl,wrap_i64 (by omega) (by omega)]
  exact h.n0
theorem zero_sane:saneM zeroM=true:=by kernel_rfl
theorem known_sane (m:MT):Sn (knownM m):=by
 rw [←saneM_iff]
 unfold knownM
 cases h:saneM m with
 | true=>exact h
 | false=>exact zero_sane
theorem known_id {m:MT} (h:Sn m):knownM m=m:=by
 unfold knownM
 rw [saneM_iff.2 h];rfl
theorem Sn.left {m:MT} (h:Sn m):leftM m=X.left m∧0≤X.left m∧X.left m≤64 :=
 left_is (h.row 0 (Or.inl rfl)).le (h.row 1 (Or.inr (Or.inl rfl))).le (h.row 2 (Or.inr (Or.inr (Or.inl rfl)))).le (h.row 3 (Or.inr (Or.inr (Or.inr rfl)))).le
theorem room24 {n:Nat} (h:n≤1000000):room tis 24 n=true:=by
 have e:room tis 24 n=decide (n*40≤roomB):=by kernel_rfl
 rw [e,decide_eq_true_eq]
 unfold roomB
 omega
theorem qOf_setQ {m:MT} {q:List ST} {j:Nat} (hj:j<4) {k:Int} (hk:isK k):qOf (setQ m q j) k=if k=(j:Int) then q else qOf m k:=by
 obtain⟨mark,sm,l,⟨q0,q1,q2,q3,⟨⟩⟩,n,tk,⟨⟩⟩:=m
 match j,hj with
 | 0,_=>rcases hk with rfl|rfl|rfl|rfl<;>rfl
 | 1,_=>rcases hk with rfl|rfl|rfl|rfl<;>rfl
 | 2,_=>rcases hk with rfl|rfl|rfl|rfl<;>rfl
 | 3,_=>rcases hk with rfl|rfl|rfl|rfl<;>rfl
end Go.Proofs.Ytkeedfiffjpnfaa.X
end
section
set_option linter.unusedVariables false
set_option linter.unusedSimpArgs false
namespace Go.Proofs.Ytkeedfiffjpnfaa.X
open Go Go.RowKit
set_option maxRecDepth 100000
set_option maxHeartbeats 1000000
set_option linter.unusedVariables false
set_option linter.unusedSimpArgs false
theorem hd_cons {q:List ST} {a:ST} {l:List ST} {f:ST→Option NX} (h:q=a :: l):hd q f=f a:=by
 subst h
 unfold hd
 have e:inB 0 (a :: l).length=true:=by simp [inB]
 rw [e];rfl
theorem nextT_cons {M:MT} {k:Nat} {a:ST} {l:List ST} (h:qOf M k=a :: l):nextT M k=some (takeM M k a l,a,true,()):=by
 unfold nextT
 rw [hd_cons h,h]
 have e1:decide ((1:Int)≤((a :: l).length:Nat))=true:=by simp;omega
 have e2:decide ((((a :: l).length:Nat):Int)≤((a :: l).length:Nat))=true:=by simp
 have e3:((a :: l).take (((a :: l).length:Nat):Int).toNat).drop (1:Int).toNat=l:=by simp
 rw [e1,e2,e3];rfl
def hdS (m:MT) (k:Nat):ST:=(qOf m k).headD zeroS
def best (m:MT):List Nat→Option Nat→Bool→Option Nat × Bool
  | [],f,full=>(f,full)
  | k :: ks,f,full=>if qOf m k=[] then best m ks f false else match f with
    | none=>best m ks (some k) full
    | some j=>if bef (hdS m k) (hdS m j)=true then best m ks (some k) full else best m ks (some j) full
theorem cons_of {q:List ST} (h:q≠[]):∃ a l,q=a :: l:=by
 cases q with
 | nil=>exact absurd rfl h
 | cons a l=>exact⟨a,l,rfl⟩
theorem nextGo_best {M:MT}:∀ {ks:List Nat} {f:Option Nat} {full:Bool},(∀ j,f=some j→qOf M j≠[])→nextGo bef M ks f full=nextE M (best M ks f full).1 (best M ks f full).2:=by
 intro ks
 induction ks with
 | nil=>intro f full _;rfl
 | cons k ks ih =>
  intro f full hf
  simp only [nextGo,best]
  by_cases hk:qOf M k=[]
  ·have e:(((qOf M k).length:Int) == 0)=true:=by simp [hk]
   rw [e,if_pos hk,cond_true,ih hf]
  ·obtain⟨a,l,hq⟩:=cons_of hk
   have e:(((qOf M k).length:Int) == 0)=false:=by rw [hq];simp;omega
   rw [e,if_neg hk,cond_false]
   cases f with
   | none=>exact ih fun j hj=>by obtain rfl:=Option.some.inj hj;exact hk
   | some j =>
    obtain⟨b,l',hj⟩:=cons_of (hf j rfl)
    simp only [hd_cons hq,hd_cons hj]
    have ha:hdS M k=a:=by simp [hdS,hq]
    have hb:hdS M j=b:=by simp [hdS,hj]
    rw [ha,hb]
    cases hc:bef a b with
    | true=>rw [cond_true,if_pos rfl];exact ih fun i hi=>by obtain rfl:=Option.some.inj hi;exact hk
    | false=>rw [cond_false,if_neg (by simp)];exact ih hf
structure BInv (m:MT) (dn:List Nat) (f:Option Nat) (full:Bool):Prop where
  no:f=none→∀ j ∈ dn,qOf m j=[]
  ye:∀ j,f=some j→j ∈ dn∧qOf m j≠[]∧∀ i ∈ dn,qOf m i≠[]→i=j∨bef (hdS m j) (hdS m i)=true
  fu:full=true↔∀ j ∈ dn,qOf m j≠[]
theorem best_inv {m:MT} (hS:∀ j:Nat,j<4→qOf m j≠[]→(hdS m j).2.1=(j:Int)):∀ {ks dn:List Nat} {f:Option Nat} {full:Bool},(∀ j ∈ dn++ks,j<4)→BInv m dn f full→BInv m (dn++ks) (best m ks f full).1 (best m ks f full).2:=by
 intro ks
 induction ks with
 | nil=>intro dn f full _ h;simpa [best] using h
 | cons k ks ih =>
  intro dn f full h4 h
  have e:dn++k :: ks=(dn++[k])++ks:=by simp
  have hk4:k<4:=h4 k (by simp)
  rw [e]
  rw [e] at h4
  simp only [best]
  by_cases hk:qOf m k=[]
  ·rw [if_pos hk]
   refine ih h4 ⟨fun hf j hj=>?_,fun j hj=>?_,?_⟩
   ·rcases List.mem_append.1 hj with hj|hj
    ·exact h.no hf j hj
    ·obtain rfl:j=k:=by simpa using hj
     exact hk
   ·obtain⟨a,b,c⟩:=h.ye j hj
    refine⟨List.mem_append_left _ a,b,fun i hi hq=>?_⟩
    rcases List.mem_append.1 hi with hi|hi
    ·exact c i hi hq
    ·obtain rfl:i=k:=by simpa using hi
     exact absurd hk hq
   ·simp only [Bool.false_eq_true,false_iff]
    intro hh
    exact hh k (by simp) hk
  ·rw [if_neg hk]
   have full':full=true↔∀ j ∈ dn++[k],qOf m j≠[]:=by
    rw [h.fu]
    constructor
    ·intro hh j hj
     rcases List.mem_append.1 hj with hj|hj
     ·exact hh j hj
     ·obtain rfl:j=k:=by simpa using hj
      exact hk
    ·intro hh j hj;exact hh j (List.mem_append_left _ hj)
   cases f with
   | none =>
    refine ih h4 ⟨fun hf=>(nomatch hf),fun j hj=>?_,full'⟩
    obtain rfl:=Option.some.inj hj
    refine⟨by simp,hk,fun i hi hq=>?_⟩
    rcases List.mem_append.1 hi with hi|hi
    ·exact absurd (h.no rfl i hi) hq
    ·exact Or.inl (by simpa using hi)
   | some j =>
    obtain⟨a,b,c⟩:=h.ye j rfl
    have hj4:j<4:=h4 j (by simp [a])
    by_cases hb:bef (hdS m k) (hdS m j)=true
    ·simp only [if_pos hb]
     refine ih h4 ⟨fun hf=>(nomatch hf),fun i hi=>?_,full'⟩
     obtain rfl:=Option.some.inj hi
     refine⟨by simp,hk,fun i hi hq=>?_⟩
     rcases List.mem_append.1 hi with hi|hi
     ·rcases c i hi hq with rfl|hc
      ·exact Or.inr hb
      ·exact Or.inr (bef_trans hb hc)
     ·exact Or.inl (by simpa using hi)
    ·simp only [if_neg hb]
     refine ih h4 ⟨fun hf=>(nomatch hf),fun i hi=>?_,full'⟩
     obtain rfl:=Option.some.inj hi
     refine⟨List.mem_append_left _ a,b,fun i hi hq=>?_⟩
     rcases List.mem_append.1 hi with hi|hi
     ·exact c i hi hq
     ·obtain rfl:i=k:=by simpa using hi
      by_cases e:i=j
      ·exact Or.inl e
      ·refine Or.inr (bef_total ?_ (by simpa using hb))
       rw [hS i hk4 hk,hS j hj4 b]
       omega
theorem isK_nat {k:Int}:isK k↔∃ j:Nat,j<4∧k=(j:Int):=by
 constructor
 ·rintro(rfl|rfl|rfl|rfl)
  ·exact⟨0,by omega,rfl⟩
  ·exact⟨1,by omega,rfl⟩
  ·exact⟨2,by omega,rfl⟩
  ·exact⟨3,by omega,rfl⟩
 ·rintro⟨j,hj,rfl⟩
  unfold isK
  omega
structure Top (m:MT) (k:Nat) (a:ST) (l:List ST):Prop where
  k4:k<4
  q:qOf m k=a :: l
  mn:∀ j,isK j→j≠k→∀ b l',qOf m j=b :: l'→bef a b=true
inductive NextIs2 (m:MT):NX→Prop where
  | empty (h:∀ k,isK k→qOf m k=[]):NextIs2 m (m,zeroS,false,())
  | late (k:Nat) (a:ST) (l:List ST) (h:Top m k a l) (j:Int) (hj:isK j) (he:qOf m j=[]) (hm:m.1<a.1):NextIs2 m (m,zeroS,false,())
  | took (k:Nat) (a:ST) (l:List ST) (h:Top m k a l) (hm:(∀ j,isK j→qOf m j≠[])∨a.1≤m.1):NextIs2 m (takeM m k a l,a,true,())
theorem Top.uniq {m:MT} {k k':Nat} {a a':ST} {l l':List ST} (h:Top m k a l) (h':Top m k' a' l'):k=k'∧a=a'∧l=l':=by
 by_cases e:k=k'
 ·subst e
  have:=h.q.symm.trans h'.q
  simp only [List.cons.injEq] at this
  exact⟨rfl,this⟩
 ·have h1:=h.mn k' (isK_nat.2 ⟨k',h'.k4,rfl⟩) (by omega) _ _ h'.q
  have h2:=h'.mn k (isK_nat.2 ⟨k,h.k4,rfl⟩) (by omega) _ _ h.q
  rw [bef_iff] at h1 h2
  omega
theorem next_is2 {m:MT} (h:Sn m):∃ r,nextO m=some r∧NextIs2 m r:=by
 unfold nextO
 rw [known_id h,nextGo_best (f:=none) (fun j hj=>by cases hj)]
 have hS:∀ j:Nat,j<4→qOf m j≠[]→(hdS m j).2.1=(j:Int):=by
  intro j hj hq
  obtain⟨a,l,e⟩:=cons_of hq
  have:=(h.row j (isK_nat.2 ⟨j,hj,rfl⟩)).el a (by rw [e];simp)
  simpa [hdS,e] using this.2.1
 have inv:=best_inv hS (ks:=[0,1,2,3]) (dn:=[]) (f:=none) (full:=true) (by simp) ⟨fun _ j hj=>(nomatch hj),fun j hj=>(nomatch hj),by simp⟩
 have all:∀ j:Int,isK j→∃ i:Nat,i ∈ ([]++[0,1,2,3]:List Nat)∧j=(i:Int):=by
  rintro j (rfl|rfl|rfl|rfl)
  ·exact⟨0,by simp,rfl⟩
  ·exact⟨1,by simp,rfl⟩
  ·exact⟨2,by simp,rfl⟩
  ·exact⟨3,by simp,rfl⟩
 generalize best m [0,1,2,3] none true=r at inv ⊢
 obtain⟨f,full⟩:=r
 cases f with
 | none =>
  refine⟨_,rfl,.empty fun k hk=>?_⟩
  obtain⟨i,hi,rfl⟩:=all k hk
  exact inv.no rfl i hi
 | some k =>
  obtain⟨h1,h2,h3⟩:=inv.ye k rfl
  obtain⟨a,l,hq⟩:=cons_of h2
  have hk4:k<4:=by
   simp at h1
   omega
  have ht:Top m k a l:=by
   refine⟨hk4,hq,fun j hj hne b l' hb=>?_⟩
   obtain⟨i,hi,rfl⟩:=all j hj
   rcases h3 i hi (by rw [hb];simp) with rfl|h4
   ·exact absurd rfl hne
   ·simpa [hdS,hq,hb] using h4
  cases full with
  | true =>
   refine⟨_,nextT_cons hq,.took k a l ht (Or.inl fun j hj=>?_)⟩
   obtain⟨i,hi,rfl⟩:=all j hj
   exact(inv.fu.1 rfl) i hi
  | false =>
   have e:nextE m (some k) false=hd (qOf m k) fun s=>bif decide (s.1 > m.1) then some (m,zeroS,false,()) else nextT m k:=rfl
   simp only
   rw [e,hd_cons hq]
   by_cases hm:m.1<a.1
   ·rw [decide_eq_true (show a.1 > m.1 from hm),cond_true]
    have hn:¬∀ j ∈ ([]++[0,1,2,3]:List Nat),qOf m j≠[]:=fun hh=>by
     have:=inv.fu.2 hh
     cases this
    obtain⟨j,hj⟩:=Classical.not_forall.1 hn
    obtain⟨hj1,hj2⟩:=Classical.not_imp.1 hj
    have hj3:qOf m j=[]:=Classical.not_not.1 hj2
    refine⟨_,rfl,.late k a l ht j (isK_nat.2 ⟨j,?_,rfl⟩) hj3 hm⟩
    simp at hj1
    omega
   ·rw [decide_eq_false (show ¬a.1 > m.1 from hm),cond_false,nextT_cons hq]
    exact⟨_,rfl,.took k a l ht (Or.inr (by omega))⟩
theorem qOf_take {m:MT} {k:Nat} {s:ST} {q:List ST} (hk:k<4) {j:Int} (hj:isK j):qOf (takeM m k s q) j=if j=(k:Int) then q else qOf m j:=by
 rw [←qOf_setQ hk hj]
 obtain⟨mark,sm,l,⟨q0,q1,q2,q3,⟨⟩⟩,n,tk,⟨⟩⟩:=m
 match k,hk with
 | 0,_=>rcases hj with rfl|rfl|rfl|rfl<;>rfl
 | 1,_=>rcases hj with rfl|rfl|rfl|rfl<;>rfl
 | 2,_=>rcases hj with rfl|rfl|rfl|rfl<;>rfl
 | 3,_=>rcases hj with rfl|rfl|rfl|rfl<;>rfl
theorem left_take {m:MT} {k:Nat} {a:ST} {l:List ST} (hk:k<4) (h:qOf m k=a :: l):left (takeM m k a l)=left m-1:=by
 unfold left
 rw [qOf_take hk (Or.inl rfl),qOf_take hk (Or.inr (Or.inl rfl)),qOf_take hk (Or.inr (Or.inr (Or.inl rfl))),qOf_take hk (Or.inr (Or.inr (Or.inr rfl)))]
 have hl:(qOf m k).length=l.length+1:=by rw [h];rfl
 match k,hk with
 | 0,_ =>
  have hl':(qOf m 0).length=l.length+1:=hl
  simp;omega
 | 1,_ =>
  have hl':(qOf m 1).length=l.length+1:=hl
  simp;omega
 | 2,_ =>
  have hl':(qOf m 2).length=l.length+1:=hl
  simp;omega
 | 3,_ =>
  have hl':(qOf m 3).length=l.length+1:=hl
  simp;omega
theorem take_sane {m:MT} (h:Sn m) {k:Nat} {a:ST} {l:List ST} (ht:Top m k a l):Sn (takeM m k a l)∧(takeM m k a l).2.2.2.2.2.1=m.2.2.2.2.2.1+1∧left (takeM m k a l)=left m-1:=by
 have hl:=left_take ht.k4 ht.q
 have h0:=h.n0
 have hc:=h.cn 0 (by omega)
 have hlm:=h.left
 have hlen:1≤left m:=by
  have:(qOf m k).length=l.length+1:=by rw [ht.q];rfl
  have hk:=isK_nat.2 ⟨k,ht.k4,rfl⟩
  unfold left
  rcases hk with e|e|e|e<;>rw [e] at this<;>omega
 have htk:=h.tk
 have etk:(takeM m k a l).2.2.2.2.2.1=m.2.2.2.2.2.1+1:=wrap_i64 (by omega) (by omega)
 have hrk:=h.row k (isK_nat.2 ⟨k,ht.k4,rfl⟩)
 have ha:=hrk.el a (by rw [ht.q];simp)
 refine⟨⟨fun j hj=>?_,h.cn,h.mr,⟨by rw [etk];omega,by rw [etk];omega⟩,fun _=>ha.1,fun e=>(by cases e),?_⟩,etk,hl⟩
 ·have hrj:=h.row j hj
  have hp:=hrk.up
  rw [ht.q,List.pairwise_cons] at hp
  refine⟨fun s hs=>?_,?_,?_⟩
  ·rw [qOf_take ht.k4 hj] at hs
   by_cases e:j=(k:Int)
   ·rw [if_pos e] at hs
    have:=hrk.el s (by rw [ht.q];simp [hs])
    refine⟨this.1,by rw [e];exact this.2.1,behind_iff.2 fun _=>bef_T (hp.1 s hs)⟩
   ·rw [if_neg e] at hs
    have:=hrj.el s hs
    refine⟨this.1,this.2.1,behind_iff.2 fun _=>?_⟩
    obtain⟨b,l',hb⟩:=cons_of (show qOf m j≠[] from fun e=>by rw [e] at hs;cases hs)
    have h1:=ht.mn j hj e b l' hb
    rw [hb] at hs
    rcases List.mem_cons.1 hs with rfl|hs
    ·exact h1
    ·have:=hrj.up
     rw [hb,List.pairwise_cons] at this
     exact bef_trans h1 (bef_T (this.1 s hs))
  ·rw [qOf_take ht.k4 hj]
   by_cases e:j=(k:Int)
   ·rw [if_pos e];exact hp.2
   ·rw [if_neg e];exact hrj.up
  ·rw [qOf_take ht.k4 hj]
   by_cases e:j=(k:Int)
   ·rw [if_pos e];have:=hrk.le;rw [ht.q] at this;simp at this;omega
   ·rw [if_neg e];exact hrj.le
 ·show nOf m.2.2.2.2.1 0=_
  rw [etk,hl,h0];omega
end Go.Proofs.Ytkeedfiffjpnfaa.X
end
section
set_option linter.unusedVariables false
set_option linter.unusedSimpArgs false
namespace Go.Proofs.Ytkeedfiffjpnfaa.X
open Go Go.RowKit
set_option maxRecDepth 100000
set_option maxHeartbeats 1000000
set_option linter.unusedVariables false
set_option linter.unusedSimpArgs false
abbrev Tk (m:MT):Int:=m.2.2.2.2.2.1
abbrev Ns (m:MT):NT:=m.2.2.2.2.1
def Stop (m:MT):Prop:=(∀ k,isK k→qOf m k=[])∨∃ k a l,Top m k a l∧(∃ j,isK j∧qOf m j=[])∧m.1<a.1
inductive Run:MT→List ST→MT→Prop where
  | stop {m:MT} (h:Stop m):Run m [] m
  | step {m:MT} {k:Nat} {a:ST} {l out:List ST} {n:MT} (h:Top m k a l) (hm:(∀ j,isK j→qOf m j≠[])∨a.1≤m.1) (r:Run (takeM m k a l) out n):Run m (a :: out) n
theorem next_stop {m:MT} (h:Sn m) (hs:Stop m):nextO m=some (m,zeroS,false,()):=by
 obtain⟨r,h1,h2⟩:=next_is2 h
 rw [h1]
 cases h2 with
 | empty=>rfl
 | late=>rfl
 | took k a l ht hm =>
  exfalso
  rcases hs with hs|⟨k',a',l',ht',⟨j,hj,he⟩,hlt⟩
  ·have:=hs k (isK_nat.2 ⟨k,ht.k4,rfl⟩)
   rw [ht.q] at this;cases this
  ·obtain⟨rfl,rfl,rfl⟩:=ht.uniq ht'
   rcases hm with hm|hm
   ·exact hm j hj he
   ·omega
theorem allGo_run:∀ (c f:Nat) (m:MT) (out:List ST),Sn m→left m≤c→c<f→out.length+c≤100000→∃ l n,allGo nextO f m out=some (n,out++l)∧Run m l n:=by
 intro c
 induction c with
 | zero =>
  intro f m out h hl hf ho
  obtain⟨f,rfl⟩:∃ g,f=g+1:=⟨f-1,by omega⟩
  obtain⟨r,h1,h2⟩:=next_is2 h
  simp only [allGo,h1,Option.bind_some]
  cases h2 with
  | empty he=>exact⟨[],m,by simp,.stop (Or.inl he)⟩
  | late k a l ht j hj he hm=>exact⟨[],m,by simp,.stop (Or.inr ⟨k,a,l,ht,⟨j,hj,he⟩,hm⟩)⟩
  | took k a l ht hm =>
   exfalso
   have:=(take_sane h ht).2.2
   have h3:=(take_sane h ht).1.left
   omega
 | succ c ih =>
  intro f m out h hl hf ho
  obtain⟨f,rfl⟩:∃ g,f=g+1:=⟨f-1,by omega⟩
  obtain⟨r,h1,h2⟩:=next_is2 h
  simp only [allGo,h1,Option.bind_some]
  cases h2 with
  | empty he=>exact⟨[],m,by simp,.stop (Or.inl he)⟩
  | late k a l ht j hj he hm=>exact⟨[],m,by simp,.stop (Or.inr ⟨k,a,l,ht,⟨j,hj,he⟩,hm⟩)⟩
  | took k a l ht hm =>
   obtain⟨s1,s2,s3⟩:=take_sane h ht
   obtain⟨l',n,e1,e2⟩:=ih f (takeM m k a l) (out++[a]) s1 (by omega) (by omega) (by simp;omega)
   refine⟨a :: l',n,?_,.step ht hm e2⟩
   rw [room24 (by omega)]
   simp only [Bool.not_true,cond_false,cond_true]
   rw [e1];simp
theorem all_run {m:MT} (h:Sn m):∃ l n,allX nextO m=some (n,l,())∧Run m l n:=by
 unfold allX
 obtain⟨r,h1,h2⟩:=next_is2 h
 simp only [h1,Option.bind_some]
 cases h2 with
 | empty he=>exact⟨[],m,rfl,.stop (Or.inl he)⟩
 | late k a l ht j hj he hm=>exact⟨[],m,rfl,.stop (Or.inr ⟨k,a,l,ht,⟨j,hj,he⟩,hm⟩)⟩
 | took k a l ht hm =>
  obtain⟨s1,s2,s3⟩:=take_sane h ht
  have:=s1.left
  obtain⟨l',n,e1,e2⟩:=allGo_run 64 70 (takeM m k a l) [a] s1 (by omega) (by omega) (by simp)
  refine⟨a :: l',n,?_,.step ht hm e2⟩
  rw [room24 (by omega)]
  simp only [Bool.not_true,cond_false,cond_true]
  rw [e1];rfl
theorem Run.sane {m n:MT} {l:List ST} (r:Run m l n):Sn m→Sn n∧Tk n=Tk m+l.length∧left n=left m-l.length∧Ns n=Ns m∧n.1=m.1∧Stop n:=by
 induction r with
 | stop h=>intro hs;exact⟨hs,by simp,by simp,rfl,rfl,h⟩
 | step h hm r ih =>
  intro hs
  obtain⟨s1,s2,s3⟩:=take_sane hs h
  obtain⟨a1,a2,a3,a4,a5,a6⟩:=ih s1
  refine⟨a1,?_,?_,a4,a5,a6⟩
  ·rw [a2,List.length_cons];unfold Tk at *;omega
  ·rw [a3,List.length_cons];omega
def Rise:Option ST→List ST→Prop
  | _,[]=>True
  | p,s :: l=>(∀ q,p=some q→bef q s=true)∧Rise (some s) l
def lastM (m:MT):Option ST:=if m.2.1=true then some m.2.2.1 else none
theorem Run.rise {m n:MT} {l:List ST} (r:Run m l n):Sn m→Rise (lastM m) l∧lastM n=(match l.getLast? with|some s=>some s|none=>lastM m):=by
 induction r with
 | stop h=>intro hs;exact⟨trivial,rfl⟩
 | @step m k a l out n h hm r ih =>
  intro hs
  obtain⟨s1,s2,s3⟩:=take_sane hs h
  obtain⟨i1,i2⟩:=ih s1
  have e:lastM (takeM m k a l)=some a:=rfl
  rw [e] at i1 i2
  refine⟨⟨fun q hq=>?_,i1⟩,?_⟩
  ·have hb:=((hs.row k (isK_nat.2 ⟨k,h.k4,rfl⟩)).el a (by rw [h.q];simp)).2.2
   unfold lastM at hq
   split at hq
   ·rename_i hsm
    obtain rfl:=Option.some.inj hq
    exact behind_iff.1 hb hsm
   ·cases hq
  ·rw [i2]
   cases out with
   | nil=>rfl
   | cons b out =>
    rw [List.getLast?_cons_cons,List.getLast?_eq_some_getLast (List.cons_ne_nil b out)]
theorem Run.mem {m n:MT} {l:List ST} (r:Run m l n):∀ s ∈ l,∃ k,isK k∧s ∈ qOf m k:=by
 induction r with
 | stop h=>intro s hs;cases hs
 | @step m k a l out n h hm r ih =>
  intro s hs
  rcases List.mem_cons.1 hs with rfl|hs
  ·exact⟨k,isK_nat.2 ⟨k,h.k4,rfl⟩,by rw [h.q];simp⟩
  ·obtain⟨j,hj,hq⟩:=ih s hs
   refine⟨j,hj,?_⟩
   rw [qOf_take h.k4 hj] at hq
   by_cases e:j=(k:Int)
   ·rw [if_pos e] at hq;rw [e,h.q];simp [hq]
   ·rw [if_neg e] at hq;exact hq
def mark (m:MT) (t:Int):MT:=(t,m.2)
theorem mark_q {m:MT} {t k:Int}:qOf (mark m t) k=qOf m k:=rfl
theorem Top.mark {m:MT} {k:Nat} {a:ST} {l:List ST} {t:Int} (h:Top m k a l):Top (mark m t) k a l:=⟨h.k4,h.q,h.mn⟩
theorem Top.unmark {m:MT} {k:Nat} {a:ST} {l:List ST} {t:Int} (h:Top (X.mark m t) k a l):Top m k a l:=⟨h.k4,h.q,h.mn⟩
theorem take_mark {m:MT} {t:Int} {k:Nat} {a:ST} {l:List ST}:takeM (mark m t) k a l=mark (takeM m k a l) t:=by
 match k with
 | 0=>rfl
 | 1=>rfl
 | 2=>rfl
 | _+3=>rfl
theorem Run.pre {m n:MT} {l:List ST} (r:Run m l n):∀ {t:Int} {n':MT} {o:List ST},m.1≤t→Run (mark m t) o n'→l <+: o:=by
 induction r with
 | stop h=>intro t n' o _ _;exact List.nil_prefix
 | @step m k a l out n h hm r ih =>
  intro t n' o ht ro
  cases ro with
  | stop hs =>
   exfalso
   rcases hs with hs|⟨k',a',l',ht',⟨j,hj,he⟩,hlt⟩
   ·have:=hs k (isK_nat.2 ⟨k,h.k4,rfl⟩)
    rw [mark_q,h.q] at this;cases this
   ·obtain⟨rfl,rfl,rfl⟩:=h.uniq ht'.unmark
    rcases hm with hm|hm
    ·exact hm j hj he
    ·have:t<a.1:=hlt
     omega
  | step h' hm' r' =>
   obtain⟨rfl,rfl,rfl⟩:=h.uniq h'.unmark
   rw [List.cons_prefix_cons]
   rw [take_mark] at r'
   exact⟨rfl,ih (t:=t) ht r'⟩
theorem Run.wait {m n:MT} {l:List ST} (r:Run m l n):(∃ k,isK k∧qOf m k=[])→∀ s ∈ l,s.1≤m.1:=by
 induction r with
 | stop h=>intro _ s hs;cases hs
 | @step m k a l out n h hm r ih =>
  rintro⟨j,hj,he⟩ s hs
  rcases List.mem_cons.1 hs with rfl|hs
  ·rcases hm with hm|hm
   ·exact absurd he (hm j hj)
   ·exact hm
  ·refine ih ⟨j,hj,?_⟩ s hs
   rw [qOf_take h.k4 hj]
   by_cases e:j=(k:Int)
   ·subst e;rw [h.q] at he;cases he
   ·rw [if_neg e];exact he
end Go.Proofs.Ytkeedfiffjpnfaa.X
end
section
set_option linter.unusedVariables false
set_option linter.unusedSimpArgs false
namespace Go.Proofs.Ytkeedfiffjpnfaa.X
open Go Go.RowKit
set_option maxRecDepth 100000
set_option maxHeartbeats 4000000
set_option linter.unusedVariables false
set_option linter.unusedSimpArgs false
def RiseF (Bf:ST→ST→Bool):Option ST→List ST→Prop
  | _,[]=>True
  | p,s :: l=>(∀ q,p=some q→Bf q s=true)∧RiseF Bf (some s) l
def prv (p:Option ST) (l:List ST) (i:Int):Option ST:=if i=0 then p else l[(i-1).toNat]?
def Ok3 (F:Fs) (x:D3):Prop:=0≤x.r6∧x.r6≤x.r5.length∧(x.r5.length:Int)<4611686018427387904∧RiseF F.Bf (prv (lastM x.b0) x.r5 x.r6) (x.r5.drop x.r6.toNat)
noncomputable def ok3 (F:Fs) (x:D3):Bool:=@decide (Ok3 F x) (Classical.propDecidable _)
theorem ok3_iff {F:Fs} {x:D3}:ok3 F x=true↔Ok3 F x:=by unfold ok3;simp
noncomputable def res3 {R:Type} (F:Fs) (fe:D3→St) (K:Ex→St→Option R) (x:D3):Option R:=bif ok3 F x then K (.exit 0) (fe { x with r6:=0 }) else none
theorem res3_ok {R:Type} {F:Fs} {fe fr:D3→St} (hfe:∀ x i,fe { x with r6:=i }=fe x) (x:D3) (K:Ex→St→Option R) (r:R) (h:res3 F fe K x=some r):∃ n,iter (rnd3 F fe fr) n x K=some r:=by
 refine iter_by (fun x=>x.r5.length-x.r6.toNat) (res3 F fe K) (fun x h=>?_) x h
 unfold res3 at h
 cases hok:ok3 F x with
 | false=>rw [hok] at h;cases h
 | true =>
  rw [hok] at h
  simp only [cond_true] at h
  obtain⟨h0,h1,h2,h3⟩:=ok3_iff.1 hok
  rw [hfe] at h
  obtain⟨up,l,i,m,n⟩:=x
  dsimp only at *
  by_cases hi:i<l.length
  ·left
   obtain⟨e1,z,ez,e2,e3⟩:=rd_atS (l:=l) h0 hi
   rw [e3] at h3
   obtain⟨g1,g2⟩:=h3
   have hw:IntKind.i64.wrap (i+1)=i+1:=wrap_i64 (by omega) (by omega)
   refine⟨⟨up,l,i+1,m,n⟩,by dsimp only;omega,?_,fun N hN=>?_⟩
   ·have:ok3 F ⟨up,l,i+1,m,n⟩=true:=by
     rw [ok3_iff]
     refine⟨by dsimp only;omega,by dsimp only;omega,h2,?_⟩
     dsimp only
     have:prv (lastM m) l (i+1)=some z:=by
      unfold prv
      rw [if_neg (by omega),show i+1-1=i by omega,ez]
     rw [this];exact g2
    unfold res3
    rw [this]
    simp only [cond_true]
    have:=hfe ⟨up,l,i,m,n⟩ 0
    dsimp only at this
    rw [this];exact h
   ·unfold rnd3
    dsimp only
    rw [decide_eq_true hi,hw]
    simp only [cond_true]
    have sec0:sec3 F ⟨up,l,i,m,n⟩ (N ⟨up,l,i+1,m,n⟩) (K .ret (fr ⟨up,l,i,m,n⟩)) false=some r:=by
     unfold sec3
     dsimp only
     simp only [Bool.not_false,cond_true]
     by_cases hp:i > 0
     ·obtain⟨f1,y,ey,f2,f3⟩:=rd_atS (l:=l) (i:=i-1) (by omega) (by omega)
      have hw1:IntKind.i64.wrap (i-1)=i-1:=wrap_i64 (by omega) (by omega)
      have hy:F.Bf y z=true:=by
       refine g1 y ?_
       unfold prv
       rw [if_neg (by omega),ey]
      rw [decide_eq_true hp,hw1,f1,e1,f2,e2,hy]
      exact hN
     ·rw [decide_eq_false hp];exact hN
    by_cases h00:i=0
    ·subst h00
     simp only [beq_self_eq_true,cond_true]
     cases hsm:m.2.1 with
     | false=>exact sec0
     | true =>
      have hb:F.Bf m.2.2.1 z=true:=by
       refine g1 _ ?_
       unfold prv lastM
       rw [if_pos rfl,if_pos hsm]
      have e1':inB 0 l.length=true:=e1
      simp only [cond_true]
      rw [e1',e2,hb]
      exact sec0
    ·have:(i == 0)=false:=by simpa using h00
     rw [this]
     exact sec0
  ·right
   intro N
   unfold rnd3
   dsimp only
   rw [decide_eq_false hi]
   exact h
noncomputable abbrev L3 (F:Fs):{R:Type}→Lps R:=fun f rid=>match f,rid with|3,6=>some (lpd dead3 sk3 un3 fun x K=>res3 F fe3 K x)|_,_=>none
theorem loop3 (F:Fs) {R:Type}:LoopOk (mk (spI F)) R (L3 F 3 (firstRid (loopAt (mk (spI F)) 3 0))) 3 0 (L3 F):=by
 intro L hL s K r hs
 have e:(L3 F 3 (firstRid (loopAt (mk (spI F)) 3 0)):Option (St→(Ex→St→Option R)→Option R))=some (lpd dead3 sk3 un3 fun x K=>res3 F fe3 K x):=by kernel_rfl
 rw [e] at hL
 obtain rfl:=Option.some.inj hL
 exact lpd_ok un3_ok (round3 F) (res3_ok fun _ _=>rfl) hs
noncomputable def end3 (F:Fs) (m n:MT) (l:List ST):Option Bool:=(F.Nx n).bind fun z=>bif !z.2.2.1 then (bif F.Sn n then (bif n.2.2.2.2.2.1 == IntKind.i64.wrap (m.2.2.2.2.2.1+l.length) then (bif F.Lf n == IntKind.i64.wrap (F.Lf m-l.length) then
  (bif !((l.length:Int) == 0) then (bif inB (IntKind.i64.wrap ((l.length:Int)-1)) l.length then some (eqS n.2.2.1 (rd KS l (IntKind.i64.wrap ((l.length:Int)-1)).toNat)) else none) else some true) else some false) else some false) else some false) else some false
noncomputable def riT (F:Fs) (m:MT):Option Bool :=
  bif !!F.Fw m then (bif !F.Sn m then some true else (F.Al m).bind fun y=>bif ok3 F ⟨true,y.2.1,0,m,y.1⟩ then end3 F m y.1 y.2.1 else none) else some true
theorem rises_is (F:Fs) (m:MT):fnx (mk (spI F)) (L3 F) 3 [DM] RB (m,())=riT F m:=by kernel_rfl
theorem riseF_of:∀ {l:List ST} {p:Option ST},Rise p l→RiseF bef p l
 | [],_,_=>trivial
 | s :: l,p,h=>⟨h.1,riseF_of h.2⟩
theorem rises_true (m:MT):riT FF m=some true:=by
 unfold riT
 cases hf:FF.Fw m with
 | false=>rfl
 | true =>
  cases hs:FF.Sn m with
  | false=>rfl
  | true =>
   have h:Sn m:=saneM_iff.1 hs
   obtain⟨l,n,e1,run⟩:=all_run h
   obtain⟨s1,s2,s3,s4,s5,s6⟩:=run.sane h
   obtain⟨r1,r2⟩:=run.rise h
   have hl:=h.left
   have hl':=s1.left
   have htk:=h.tk
   have e1':FF.Al m=some (n,l,()):=e1
   rw [e1']
   simp only [Bool.not_true,Bool.not_false,cond_true,cond_false,Option.bind_some]
   have hok:ok3 FF ⟨true,l,0,m,n⟩=true:=by
    rw [ok3_iff]
    refine⟨Int.le_refl _,by dsimp only;omega,by dsimp only;omega,?_⟩
    exact riseF_of r1
   rw [hok,cond_true]
   unfold end3
   have e2:FF.Nx n=some (n,zeroS,false,()):=next_stop s1 s6
   rw [e2]
   simp only [Option.bind_some,Bool.not_false,cond_true]
   have e3:saneM n=true:=saneM_iff.2 s1
   have e4:(n.2.2.2.2.2.1 == IntKind.i64.wrap (m.2.2.2.2.2.1+l.length))=true:=by
    rw [beq_iff_eq,wrap_i64 (by omega) (by omega)];exact s2
   have e5:(leftM n == IntKind.i64.wrap (leftM m-l.length))=true:=by
    have a:leftM n=left n:=hl'.1
    have b:leftM m=left m:=hl.1
    rw [a,b,beq_iff_eq,wrap_i64 (by omega) (by omega)];exact s3
   rw [e3,e4,e5]
   simp only [cond_true]
   cases l with
   | nil=>rfl
   | cons a l =>
    have e6:((((a :: l).length:Nat):Int) == 0)=false:=by simp;omega
    rw [e6]
    simp only [Bool.not_false,cond_true]
    have ew:IntKind.i64.wrap ((((a :: l).length:Nat):Int)-1)=l.length:=by
     rw [wrap_i64 (by simp) (by simp at *;omega)];simp
    rw [ew]
    obtain⟨f1,z,f2,f3,f4⟩:=rd_atS (l:=a :: l) (i:=(l.length:Int)) (by omega) (by simp;omega)
    rw [f1,f3,cond_true]
    have e7:(a :: l).getLast? = some z:=by
     rw [List.getLast?_eq_getElem?]
     simpa using f2
    rw [e7] at r2
    have e8:n.2.2.1=z:=by
     unfold lastM at r2
     split at r2
     ·exact Option.some.inj r2
     ·cases r2
    rw [eqS_is.2 e8]
theorem s3:SpecOk Try.prog 3 ⟨[DM],RB,fun _=>some true⟩:=by
 refine fnl_ok xI_ok (lps:=L3 FF) 1 (by kernel_rfl) (fun k hk=>?_) (fun x r h=>?_) ⟨_,_,rfl,rfl⟩
 ·obtain rfl:k=0:=by omega
  exact loop3 FF
 ·obtain⟨m,⟨⟩⟩:=x
  rw [←h]
  exact(rises_is FF m).trans (rises_true m)
end Go.Proofs.Ytkeedfiffjpnfaa.X
end
section
set_option linter.unusedVariables false
set_option linter.unusedSimpArgs false
namespace Go.Proofs.Ytkeedfiffjpnfaa.X
open Go Go.RowKit
set_option maxRecDepth 100000
set_option maxHeartbeats 4000000
set_option linter.unusedVariables false
set_option linter.unusedSimpArgs false
abbrev dead5n:List Nat:=[1,2,7,8,9,10,11,12,13,14,15,16,17,18,19,20,21,22,23,24,25,26,27,28,29,30,31,32,33,34,35,36,37,38,39,40,41,42,43,44,45,46,47,48,49,50,51,52,53,54,55,56,57,58,59,60,61,62,63,64,65,66,67,68,69,70,71,72,73,74,75,76,77,78,79,80,81,82,83,84,85,86,87,88,89,90,91,92,93,94,95,96,97]
abbrev sk5n:StSk:=⟨[.seq KS,.junk,.junk,.bool,.ptr 0 0,.nil,.int .i64,.junk,.junk,.junk,.junk,.junk,.junk,.junk,.junk,.junk,.junk,.junk,.junk,.junk,.junk,.junk,.junk,.junk,.junk,.junk,.junk,.junk,.junk,.junk,.junk,.junk,.junk,.junk,.junk,.junk,.junk,.junk,.junk,.junk,.junk,.junk,.junk,.junk,.junk,.junk,.junk,.junk,.junk,.junk,.junk,.junk,.junk,.junk,.junk,.junk,.junk,.junk,.junk,.junk,.junk,.junk,.junk,.junk,.junk,.junk,.junk,.junk,.junk,.junk,.junk,.junk,.junk,.junk,.junk,.junk,.junk,.junk,.junk,.junk,.junk,.junk,.junk,.junk,.junk,.junk,.junk,.junk,.junk,.junk,.junk,.junk,.junk,.junk,.junk,.junk,.junk,.junk],[some (.cells [.int .i64,.bool,.int .i64,.int .i64,.int .i64,.int .i64,.int .i64,.seq KS,.seq KS,.seq KS,.seq KS,.int .i64,.int .i64,.int .i64,.int .i64,.int .i64,.int .i64,.int .i64,.int .i64])]⟩
structure D5n where
  r0:List (ST)
  r3:Bool
  r6:Int
  b0:MT
abbrev fm5n (x:D5n):St:=⟨[.seq KS x.r0,.junk,.junk,.v (.bool x.r3),.ptr 0 0,.v (.slice none 0 0),.v (.int .i64 x.r6),.junk,.junk,.junk,.junk,.junk,.junk,.junk,.junk,.junk,.junk,.junk,.junk,.junk,.junk,.junk,.junk,.junk,.junk,.junk,.junk,.junk,.junk,.junk,.junk,.junk,.junk,.junk,.junk,.junk,.junk,.junk,.junk,.junk,.junk,.junk,.junk,.junk,.junk,.junk,.junk,.junk,.junk,.junk,.junk,.junk,.junk,.junk,.junk,.junk,.junk,.junk,.junk,.junk,.junk,.junk,.junk,.junk,.junk,.junk,.junk,.junk,.junk,.junk,.junk,.junk,.junk,.junk,.junk,.junk,.junk,.junk,.junk,.junk,.junk,.junk,.junk,.junk,.junk,.junk,.junk,.junk,.junk,.junk,.junk,.junk,.junk,.junk,.junk,.junk,.junk,.junk],[some (true,.cells (Kd.cells KM x.b0))]⟩
def un5n (x:sk5n.T):D5n:=match x with
  | ((r0,_,_,r3,_,_,r6,_,_,_,_,_,_,_,_,_,_,_,_,_,_,_,_,_,_,_,_,_,_,_,_,_,_,_,_,_,_,_,_,_,_,_,_,_,_,_,_,_,_,_,_,_,_,_,_,_,_,_,_,_,_,_,_,_,_,_,_,_,_,_,_,_,_,_,_,_,_,_,_,_,_,_,_,_,_,_,_,_,_,_,_,_,_,_,_,_,_,_,_),((b0_0,b0_1,b0_2,b0_3,b0_4,b0_5,b0_6,b0_7,b0_8,b0_9,b0_10,b0_11,b0_12,b0_13,b0_14,b0_15,b0_16,b0_17,b0_18,_),_))=>⟨r0,r3,r6,(b0_0,b0_1,(b0_2,b0_3,(b0_4,b0_5,b0_6,()),()),(b0_7,b0_8,b0_9,b0_10,()),(b0_11,b0_12,b0_13,b0_14,b0_15,b0_16,b0_17,()),b0_18,())⟩
theorem un5n_ok (x:sk5n.T):sk5n.fill x=fm5n (un5n x):=by kernel_rfl
abbrev dead5o:List Nat:=[1,2,7,8,9,10,11,12,13,14,15,16,17,18,19,20,21,22,23,24,25,26,27,28,29,30,31,32,33,34,35,36,37,38,39,40,41,42,43,44,45,46,47,48,49,50,51,52,53,54,55,56,57,58,59,60,61,62,63,64,65,66,67,68,69,70,71,72,73,74,75,76,77,78,79,80,81,82,83,84,85,86,87,88,89,90,91,92,93,94,95,96,97]
abbrev sk5o:StSk:=⟨[.seq KS,.junk,.junk,.bool,.ptr 0 0,.own 1,.int .i64,.junk,.junk,.junk,.junk,.junk,.junk,.junk,.junk,.junk,.junk,.junk,.junk,.junk,.junk,.junk,.junk,.junk,.junk,.junk,.junk,.junk,.junk,.junk,.junk,.junk,.junk,.junk,.junk,.junk,.junk,.junk,.junk,.junk,.junk,.junk,.junk,.junk,.junk,.junk,.junk,.junk,.junk,.junk,.junk,.junk,.junk,.junk,.junk,.junk,.junk,.junk,.junk,.junk,.junk,.junk,.junk,.junk,.junk,.junk,.junk,.junk,.junk,.junk,.junk,.junk,.junk,.junk,.junk,.junk,.junk,.junk,.junk,.junk,.junk,.junk,.junk,.junk,.junk,.junk,.junk,.junk,.junk,.junk,.junk,.junk,.junk,.junk,.junk,.junk,.junk,.junk],[some (.cells [.int .i64,.bool,.int .i64,.int .i64,.int .i64,.int .i64,.int .i64,.seq KS,.seq KS,.seq KS,.seq KS,.int .i64,.int .i64,.int .i64,.int .i64,.int .i64,.int .i64,.int .i64,.int .i64]),some (.row 24 KS)]⟩
structure D5o where
  r0:List (ST)
  r3:Bool
  r6:Int
  b0:MT
  b1:List (ST)
abbrev fm5o (x:D5o):St:=⟨[.seq KS x.r0,.junk,.junk,.v (.bool x.r3),.ptr 0 0,.own 1,.v (.int .i64 x.r6),.junk,.junk,.junk,.junk,.junk,.junk,.junk,.junk,.junk,.junk,.junk,.junk,.junk,.junk,.junk,.junk,.junk,.junk,.junk,.junk,.junk,.junk,.junk,.junk,.junk,.junk,.junk,.junk,.junk,.junk,.junk,.junk,.junk,.junk,.junk,.junk,.junk,.junk,.junk,.junk,.junk,.junk,.junk,.junk,.junk,.junk,.junk,.junk,.junk,.junk,.junk,.junk,.junk,.junk,.junk,.junk,.junk,.junk,.junk,.junk,.junk,.junk,.junk,.junk,.junk,.junk,.junk,.junk,.junk,.junk,.junk,.junk,.junk,.junk,.junk,.junk,.junk,.junk,.junk,.junk,.junk,.junk,.junk,.junk,.junk,.junk,.junk,.junk,.junk,.junk,.junk],[some (true,.cells (Kd.cells KM x.b0)),some (true,.row 24 KS x.b1)]⟩
def un5o (x:sk5o.T):D5o:=match x with
  | ((r0,_,_,r3,_,_,r6,_,_,_,_,_,_,_,_,_,_,_,_,_,_,_,_,_,_,_,_,_,_,_,_,_,_,_,_,_,_,_,_,_,_,_,_,_,_,_,_,_,_,_,_,_,_,_,_,_,_,_,_,_,_,_,_,_,_,_,_,_,_,_,_,_,_,_,_,_,_,_,_,_,_,_,_,_,_,_,_,_,_,_,_,_,_,_,_,_,_,_,_),((b0_0,b0_1,b0_2,b0_3,b0_4,b0_5,b0_6,b0_7,b0_8,b0_9,b0_10,b0_11,b0_12,b0_13,b0_14,b0_15,b0_16,b0_17,b0_18,_),b1,_))=>⟨r0,r3,r6,(b0_0,b0_1,(b0_2,b0_3,(b0_4,b0_5,b0_6,()),()),(b0_7,b0_8,b0_9,b0_10,()),(b0_11,b0_12,b0_13,b0_14,b0_15,b0_16,b0_17,()),b0_18,()),b1⟩
theorem un5o_ok (x:sk5o.T):sk5o.fill x=fm5o (un5o x):=by kernel_rfl
def app5 {R:Type} (n:Nat) (A:Option R):Option R:=bif room tis 24 (n+1) then A else none
def rnd5n {R:Type} (F:Fs) (fe:D5n→St) (x:D5n) (N:D5n→Option R) (M:D5o→Option R) (E:Ex→St→Option R):Option R :=
  bif decide (x.r6<x.r0.length) then (bif inB x.r6 x.r0.length then (bif inB x.r6 x.r0.length then ((F.Pt x.b0 (show ST from rd KS x.r0 x.r6.toNat).2.1 (F.Wd (rd KS x.r0 x.r6.toNat))).bind fun a =>
    bif a.2.1 == 0 then (bif inB x.r6 x.r0.length then (bif room tis 24 (0+1) then M ⟨x.r0,x.r3,IntKind.i64.wrap (x.r6+1),a.1,[rd KS x.r0 x.r6.toNat]⟩ else none) else none) else N ⟨x.r0,x.r3,IntKind.i64.wrap (x.r6+1),a.1⟩) else none) else none) else E (.exit 0) (fe x)
def rnd5o {R:Type} (F:Fs) (fe:D5o→St) (x:D5o) (N:D5o→Option R) (E:Ex→St→Option R):Option R :=
  bif decide (x.r6<x.r0.length) then (bif inB x.r6 x.r0.length then (bif inB x.r6 x.r0.length then ((F.Pt x.b0 (show ST from rd KS x.r0 x.r6.toNat).2.1 (F.Wd (rd KS x.r0 x.r6.toNat))).bind fun a =>
    bif a.2.1 == 0 then (bif inB x.r6 x.r0.length then (bif room tis 24 (x.b1.length+1) then N ⟨x.r0,x.r3,IntKind.i64.wrap (x.r6+1),a.1,x.b1++[(show ST from rd KS x.r0 x.r6.toNat)]⟩ else none) else none) else N ⟨x.r0,x.r3,IntKind.i64.wrap (x.r6+1),a.1,x.b1⟩) else none) else none) else E (.exit 0) (fe x)
theorem round5n {R:Type} {lps:Lps R} (F:Fs) (x:D5n) (N:Option St→Option R) (E:Ex→Option St→Option R) :
  roundx (codex (mk (spI F)) lps (callN (mk (spI F)) 20) 5 (loopAt (mk (spI F)) 5 0)) (headx dead5n) (headx dead5n) (fm5n x) N E=rnd5n F fm5n x (fun x'=>N (some (fm5n x'))) (fun x'=>N (some (fm5o x'))) (fun e s=>E e (some s)):=by
 kernel_rfl
theorem round5o {R:Type} {lps:Lps R} (F:Fs) (x:D5o) (N:Option St→Option R) (E:Ex→Option St→Option R) :
  roundx (codex (mk (spI F)) lps (callN (mk (spI F)) 20) 5 (loopAt (mk (spI F)) 5 0)) (headx dead5n) (headx dead5n) (fm5o x) N E=rnd5o F fm5o x (fun x'=>N (some (fm5o x'))) (fun e s=>E e (some s)):=by
 kernel_rfl
abbrev dead5p:List Nat:=[0,1,2,4,6,7,8,12,13,14,15,16,17,18,19,20,21,22,23,24,25,26,27,28,29,30,31,32,33,34,35,36,37,38,39,40,41,42,43,44,45,46,47,48,49,50,51,52,53,54,55,56,57,58,59,60,61,62,63,64,65,66,67,68,69,70,71,72,73,74,75,76,77,78,79,80,81,82,83,84,85,86,87,88,89,90,91,92,93,94,95,96,97]
abbrev sk5p:StSk:=⟨[.junk,.junk,.junk,.bool,.junk,.nil,.junk,.junk,.junk,.ptr 0 0,.seq KS,.int .i64,.junk,.junk,.junk,.junk,.junk,.junk,.junk,.junk,.junk,.junk,.junk,.junk,.junk,.junk,.junk,.junk,.junk,.junk,.junk,.junk,.junk,.junk,.junk,.junk,.junk,.junk,.junk,.junk,.junk,.junk,.junk,.junk,.junk,.junk,.junk,.junk,.junk,.junk,.junk,.junk,.junk,.junk,.junk,.junk,.junk,.junk,.junk,.junk,.junk,.junk,.junk,.junk,.junk,.junk,.junk,.junk,.junk,.junk,.junk,.junk,.junk,.junk,.junk,.junk,.junk,.junk,.junk,.junk,.junk,.junk,.junk,.junk,.junk,.junk,.junk,.junk,.junk,.junk,.junk,.junk,.junk,.junk,.junk,.junk,.junk,.junk],[some (.cells [.int .i64,.bool,.int .i64,.int .i64,.int .i64,.int .i64,.int .i64,.seq KS,.seq KS,.seq KS,.seq KS,.int .i64,.int .i64,.int .i64,.int .i64,.int .i64,.int .i64,.int .i64,.int .i64])]⟩
structure D5p where
  r3:Bool
  r10:List (ST)
  r11:Int
  b0:MT
abbrev fm5p (x:D5p):St:=⟨[.junk,.junk,.junk,.v (.bool x.r3),.junk,.v (.slice none 0 0),.junk,.junk,.junk,.ptr 0 0,.seq KS x.r10,.v (.int .i64 x.r11),.junk,.junk,.junk,.junk,.junk,.junk,.junk,.junk,.junk,.junk,.junk,.junk,.junk,.junk,.junk,.junk,.junk,.junk,.junk,.junk,.junk,.junk,.junk,.junk,.junk,.junk,.junk,.junk,.junk,.junk,.junk,.junk,.junk,.junk,.junk,.junk,.junk,.junk,.junk,.junk,.junk,.junk,.junk,.junk,.junk,.junk,.junk,.junk,.junk,.junk,.junk,.junk,.junk,.junk,.junk,.junk,.junk,.junk,.junk,.junk,.junk,.junk,.junk,.junk,.junk,.junk,.junk,.junk,.junk,.junk,.junk,.junk,.junk,.junk,.junk,.junk,.junk,.junk,.junk,.junk,.junk,.junk,.junk,.junk,.junk,.junk],[some (true,.cells (Kd.cells KM x.b0))]⟩
def un5p (x:sk5p.T):D5p:=match x with
  | ((_,_,_,r3,_,_,_,_,_,_,r10,r11,_,_,_,_,_,_,_,_,_,_,_,_,_,_,_,_,_,_,_,_,_,_,_,_,_,_,_,_,_,_,_,_,_,_,_,_,_,_,_,_,_,_,_,_,_,_,_,_,_,_,_,_,_,_,_,_,_,_,_,_,_,_,_,_,_,_,_,_,_,_,_,_,_,_,_,_,_,_,_,_,_,_,_,_,_,_,_),((b0_0,b0_1,b0_2,b0_3,b0_4,b0_5,b0_6,b0_7,b0_8,b0_9,b0_10,b0_11,b0_12,b0_13,b0_14,b0_15,b0_16,b0_17,b0_18,_),_))=>⟨r3,r10,r11,(b0_0,b0_1,(b0_2,b0_3,(b0_4,b0_5,b0_6,()),()),(b0_7,b0_8,b0_9,b0_10,()),(b0_11,b0_12,b0_13,b0_14,b0_15,b0_16,b0_17,()),b0_18,())⟩
theorem un5p_ok (x:sk5p.T):sk5p.fill x=fm5p (un5p x):=by kernel_rfl
abbrev dead5q:List Nat:=[0,1,2,4,6,7,8,12,13,14,15,16,17,18,19,20,21,22,23,24,25,26,27,28,29,30,31,32,33,34,35,36,37,38,39,40,41,42,43,44,45,46,47,48,49,50,51,52,53,54,55,56,57,58,59,60,61,62,63,64,65,66,67,68,69,70,71,72,73,74,75,76,77,78,79,80,81,82,83,84,85,86,87,88,89,90,91,92,93,94,95,96,97]
abbrev sk5q:StSk:=⟨[.junk,.junk,.junk,.bool,.junk,.own 0,.junk,.junk,.junk,.ptr 1 0,.seq KS,.int .i64,.junk,.junk,.junk,.junk,.junk,.junk,.junk,.junk,.junk,.junk,.junk,.junk,.junk,.junk,.junk,.junk,.junk,.junk,.junk,.junk,.junk,.junk,.junk,.junk,.junk,.junk,.junk,.junk,.junk,.junk,.junk,.junk,.junk,.junk,.junk,.junk,.junk,.junk,.junk,.junk,.junk,.junk,.junk,.junk,.junk,.junk,.junk,.junk,.junk,.junk,.junk,.junk,.junk,.junk,.junk,.junk,.junk,.junk,.junk,.junk,.junk,.junk,.junk,.junk,.junk,.junk,.junk,.junk,.junk,.junk,.junk,.junk,.junk,.junk,.junk,.junk,.junk,.junk,.junk,.junk,.junk,.junk,.junk,.junk,.junk,.junk],[some (.row 24 KS),some (.cells [.int .i64,.bool,.int .i64,.int .i64,.int .i64,.int .i64,.int .i64,.seq KS,.seq KS,.seq KS,.seq KS,.int .i64,.int .i64,.int .i64,.int .i64,.int .i64,.int .i64,.int .i64,.int .i64])]⟩
structure D5q where
  r3:Bool
  r10:List (ST)
  r11:Int
  b0:List (ST)
  b1:MT
abbrev fm5q (x:D5q):St:=⟨[.junk,.junk,.junk,.v (.bool x.r3),.junk,.own 0,.junk,.junk,.junk,.ptr 1 0,.seq KS x.r10,.v (.int .i64 x.r11),.junk,.junk,.junk,.junk,.junk,.junk,.junk,.junk,.junk,.junk,.junk,.junk,.junk,.junk,.junk,.junk,.junk,.junk,.junk,.junk,.junk,.junk,.junk,.junk,.junk,.junk,.junk,.junk,.junk,.junk,.junk,.junk,.junk,.junk,.junk,.junk,.junk,.junk,.junk,.junk,.junk,.junk,.junk,.junk,.junk,.junk,.junk,.junk,.junk,.junk,.junk,.junk,.junk,.junk,.junk,.junk,.junk,.junk,.junk,.junk,.junk,.junk,.junk,.junk,.junk,.junk,.junk,.junk,.junk,.junk,.junk,.junk,.junk,.junk,.junk,.junk,.junk,.junk,.junk,.junk,.junk,.junk,.junk,.junk,.junk,.junk],[some (true,.row 24 KS x.b0),some (true,.cells (Kd.cells KM x.b1))]⟩
def un5q (x:sk5q.T):D5q:=match x with
  | ((_,_,_,r3,_,_,_,_,_,_,r10,r11,_,_,_,_,_,_,_,_,_,_,_,_,_,_,_,_,_,_,_,_,_,_,_,_,_,_,_,_,_,_,_,_,_,_,_,_,_,_,_,_,_,_,_,_,_,_,_,_,_,_,_,_,_,_,_,_,_,_,_,_,_,_,_,_,_,_,_,_,_,_,_,_,_,_,_,_,_,_,_,_,_,_,_,_,_,_,_),(b0,(b1_0,b1_1,b1_2,b1_3,b1_4,b1_5,b1_6,b1_7,b1_8,b1_9,b1_10,b1_11,b1_12,b1_13,b1_14,b1_15,b1_16,b1_17,b1_18,_),_))=>⟨r3,r10,r11,b0,(b1_0,b1_1,(b1_2,b1_3,(b1_4,b1_5,b1_6,()),()),(b1_7,b1_8,b1_9,b1_10,()),(b1_11,b1_12,b1_13,b1_14,b1_15,b1_16,b1_17,()),b1_18,())⟩
theorem un5q_ok (x:sk5q.T):sk5q.fill x=fm5q (un5q x):=by kernel_rfl
abbrev dead5x:List Nat:=dead 98 [2,3,5,9,10]
abbrev fe5p (x:D5p):St:=⟨regs 98 [(3,.v (.bool x.r3)),(5,.v (.slice none 0 0)),(9,.ptr 0 0),(10,.seq KS x.r10)],[some (true,.cells (Kd.cells KM x.b0))]⟩
abbrev fr5p (x:D5p):St:=⟨regs 98 [(2,.v (.bool false)),(3,.v (.bool x.r3)),(5,.v (.slice none 0 0)),(9,.ptr 0 0),(10,.seq KS x.r10)],[some (true,.cells (Kd.cells KM x.b0))]⟩
abbrev fe5q (x:D5q):St:=⟨regs 98 [(3,.v (.bool x.r3)),(5,.own 0),(9,.ptr 1 0),(10,.seq KS x.r10)],[some (true,.row 24 KS x.b0),some (true,.cells (Kd.cells KM x.b1))]⟩
abbrev fr5q (x:D5q):St:=⟨regs 98 [(2,.v (.bool false)),(3,.v (.bool x.r3)),(5,.own 0),(9,.ptr 1 0),(10,.seq KS x.r10)],[some (true,.row 24 KS x.b0),some (true,.cells (Kd.cells KM x.b1))]⟩
def rnd5q {R:Type} (F:Fs) (put out:List ST) (i:Int) (A B C:Option R):Option R :=
  bif decide (i<out.length) then (bif inB i out.length then (F.Hs put (rd KS out i.toNat)).bind (fun h=>bif !!h then
    (bif decide (i > 0) then (bif inB (IntKind.i64.wrap (i-1)) out.length then (bif inB i out.length then (bif !F.Bf (rd KS out (IntKind.i64.wrap (i-1)).toNat) (rd KS out i.toNat) then B else A) else none) else none) else A) else B) else none) else C
theorem round5p {R:Type} {lps:Lps R} (F:Fs) (x:D5p) (N:Option St→Option R) (E:Ex→Option St→Option R) :
  roundx (codex (mk (spI F)) lps (callN (mk (spI F)) 20) 5 (loopAt (mk (spI F)) 5 1)) (headx dead5p) (headx dead5x) (fm5p x) N E=rnd5q F [] x.r10 x.r11 (N (some (fm5p { x with r11:=IntKind.i64.wrap (x.r11+1) }))) (E .ret (some (fr5p x))) (E (.exit 2) (some (fe5p x))):=by
 kernel_rfl
theorem round5q {R:Type} {lps:Lps R} (F:Fs) (x:D5q) (N:Option St→Option R) (E:Ex→Option St→Option R) :
  roundx (codex (mk (spI F)) lps (callN (mk (spI F)) 20) 5 (loopAt (mk (spI F)) 5 1)) (headx dead5q) (headx dead5x) (fm5q x) N E=rnd5q F x.b0 x.r10 x.r11 (N (some (fm5q { x with r11:=IntKind.i64.wrap (x.r11+1) }))) (E .ret (some (fr5q x))) (E (.exit 2) (some (fe5q x))):=by
 kernel_rfl
end Go.Proofs.Ytkeedfiffjpnfaa.X
end
