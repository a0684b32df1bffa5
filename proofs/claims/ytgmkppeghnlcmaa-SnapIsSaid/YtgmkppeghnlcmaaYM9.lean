/- Lemmas of the rows, laid by a program. -/
import Derived.Test.YtgmkppeghnlcmaaYM7
section
set_option linter.unusedVariables false
set_option linter.unusedSimpArgs false
namespace Go.Proofs.Ytgmkppeghnlcmaa.W
open Go Go.Proofs Go.RowKit X
set_option maxRecDepth 100000
set_option linter.unusedVariables false
set_option linter.unusedSimpArgs false
set_option maxHeartbeats 4000000
structure DS3 where
  b:Bool
  l:List Int
  m:List Int
  i:Int
abbrev skS:StSk:=⟨[.seq kU,.seq kU,.junk,.junk,.bool,.int .i64,.junk,.junk,.junk,.junk,.junk,.junk,.junk,.junk,.junk,.junk,.junk,.junk,.junk,.junk,.junk,.junk,.junk,.junk,.junk,.junk],[]⟩
def unS (x:skS.T):DS3:=match x with
  | ((l,m,_,_,b,i,_),_)=>⟨b,l,m,i⟩
def fmS (x:DS3):St:=⟨[.seq kU x.l,.seq kU x.m,.junk,.junk,.v (.bool x.b),.v (.int .i64 x.i),.junk,.junk,.junk,.junk,.junk,.junk,.junk,.junk,.junk,.junk,.junk,.junk,.junk,.junk,.junk,.junk,.junk,.junk,.junk,.junk],[]⟩
theorem unS_ok (x:skS.T):skS.fill x=fmS (unS x):=by
 obtain⟨⟨l,m,_,_,b,i,_⟩,_⟩:=x
 rfl
def outS (b:Bool):St:=⟨[.junk,.junk,.junk,.junk,.v (.bool b),.junk,.junk,.junk,.junk,.junk,.junk,.junk,.junk,.junk,.junk,.junk,.junk,.junk,.junk,.junk,.junk,.junk,.junk,.junk,.junk,.junk],[]⟩
abbrev deadS:List Nat:=[2,3]++(List.range 20).map (·+6)
abbrev deadxS:List Nat:=[0,1,2,3]++(List.range 21).map (·+5)
def rdU (l:List Int) (i:Nat):Int:=rd kU l i
noncomputable def rndS {R:Type} (x:DS3) (N:DS3→Option R) (E:Ex→St→Option R):Option R :=
  bif decide (x.i<(List.length (α:=Int) x.l:Int)) then
    (bif inB x.i (List.length (α:=Int) x.l) then (bif inB x.i (List.length (α:=Int) x.m) then
      (bif rdU x.l x.i.toNat != rdU x.m x.i.toNat then E .ret (outS false) else N ⟨x.b,x.l,x.m,IntKind.i64.wrap (x.i+1)⟩) else none) else none)
  else E (.exit 0) (outS x.b)
theorem roundS {R:Type} (lps:Lps R) (x:DS3) (N:Option St→Option R) (E:Ex→Option St→Option R) :
  roundx (codex (mk (tab [])) lps (callN (mk (tab [])) 20) 11 (loopAt (mk (tab [])) 11 0)) (headx deadS) (headx deadxS) (fmS x) N E=rndS x (fun x'=>N (some (fmS x'))) (fun e s=>E e (some s)):=by kernel_rfl
def okS (l m:List Int):Bool:=decide (l.length=m.length) && decide (l.length<1000)
noncomputable def resS {R:Type} (x:DS3) (K:Ex→St→Option R):Option R :=
  bif okS x.l x.m && (decide (0≤x.i) && decide (x.i≤x.l.length)) then (bif x.l.drop x.i.toNat == x.m.drop x.i.toNat then K (.exit 0) (outS x.b) else K .ret (outS false)) else none
theorem dropc {l:List Int} {i:Nat} (h:i<l.length):l.drop i=rdU l i :: l.drop (i+1):=by
 rw [List.drop_eq_getElem_cons h]
 congr 1
 show _=(l[i]?).getD (0:Int)
 simp [h]
theorem iterS {R:Type} {K:Ex→St→Option R} {r:R} (x:DS3) (h:resS x K=some r):∃ n,iter rndS n x K=some r:=by
 refine iter_by (fun x=>(x.l.length-x.i).toNat) (fun x=>resS x K) (fun x hx=>?_) x h
 obtain⟨b,l,m,i⟩:=x
 simp only [resS] at hx
 obtain⟨hc,hx⟩:=of_cond' hx
 simp only [Bool.and_eq_true,decide_eq_true_eq,okS] at hc
 obtain⟨⟨h1,h2⟩,h3,h4⟩:=hc
 by_cases c:i<(l.length:Int)
 ·have i1:inB i l.length=true:=by simp [inB];omega
  have i2:inB i m.length=true:=by simp [inB];omega
  have e3:IntKind.i64.wrap (i+1)=i+1:=by rw [iw,w64 (by omega) (by omega)]
  have rn:∀ N:DS3→Option R,rndS ⟨b,l,m,i⟩ N K=bif rdU l i.toNat != rdU m i.toNat then K .ret (outS false) else N ⟨b,l,m,i+1⟩:=by
   intro N
   show(bif decide (i<(List.length (α:=Int) l:Int)) then _ else _)=_
   rw [decide_eq_true c,cond_true]
   show(bif inB i l.length then (bif inB i m.length then _ else _) else _)=_
   rw [i1,i2,cond_true,cond_true]
   show(bif _ then _ else N ⟨b,l,m,IntKind.i64.wrap (i+1)⟩)=_
   rw [e3]
  have d1:=dropc (l:=l) (i:=i.toNat) (by omega)
  have d2:=dropc (l:=m) (i:=i.toNat) (by omega)
  rw [d1,d2] at hx
  have et:(i+1).toNat=i.toNat+1:=by omega
  cases g:(rdU l i.toNat == rdU m i.toNat) with
  | true =>
   left
   refine⟨⟨b,l,m,i+1⟩,by simp only;omega,?_,fun N hN=>?_⟩
   ·simp only [resS]
    have e5:(okS l m && (decide (0≤i+1) && decide (i+1≤(l.length:Int))))=true:=by simp [okS];omega
    rw [e5,cond_true,et]
    have e6:(rdU l i.toNat :: l.drop (i.toNat+1) == rdU m i.toNat :: m.drop (i.toNat+1))=(l.drop (i.toNat+1) == m.drop (i.toNat+1)):=by
     show((rdU l i.toNat == rdU m i.toNat) && (l.drop (i.toNat+1) == m.drop (i.toNat+1)))=_
     rw [g,Bool.true_and]
    rw [←e6];exact hx
   ·rw [rn]
    have:(rdU l i.toNat != rdU m i.toNat)=false:=by simp [bne,g]
    rw [this];exact hN
  | false =>
   right
   intro N
   rw [rn]
   have:(rdU l i.toNat != rdU m i.toNat)=true:=by simp [bne,g]
   rw [this,cond_true]
   have e6:(rdU l i.toNat :: l.drop (i.toNat+1) == rdU m i.toNat :: m.drop (i.toNat+1))=false:=by
    show((rdU l i.toNat == rdU m i.toNat) && (l.drop (i.toNat+1) == m.drop (i.toNat+1)))=_
    rw [g,Bool.false_and]
   rw [e6] at hx;exact hx
 ·right
  intro N
  show(bif decide (i<(List.length (α:=Int) l:Int)) then _ else _)=_
  rw [decide_eq_false c,cond_false]
  have e1:l.drop i.toNat=[]:=by rw [List.drop_eq_nil_iff];omega
  have e2:m.drop i.toNat=[]:=by rw [List.drop_eq_nil_iff];omega
  rw [e1,e2] at hx
  exact hx
noncomputable abbrev LS:{R:Type}→Lps R:=fun f k=>if f=11∧k=4 then some (lpd deadS skS unS resS) else none
noncomputable def KfS:Ex→St→Option Bool:=fun e s=>match e with
  | .exit 0=>some true
  | .ret=>match getT s.t 4 with|.v (.bool b)=>some b|_=>none
  | _=>none
theorem run_Same (l m:List Int):fnx (mk (tab [])) LS 11 [.sc (.sl kU),.sc (.sl kU)] (.one (.sc .bool)) (l,m,())=bif ((List.length (α:=Int) l:Int) != (List.length (α:=Int) m:Int)) then some false else resS ⟨false,l,m,0⟩ KfS:=by kernel_rfl
def sh0 (l:List Int):Bool:=decide (l.length<1000)
def smF2 (l m:List Int):Fk Bool:=.fk (sh0 l && sh0 m) (.yes (l == m)) .no
theorem Same_eq (l m:List Int) (r:Bool) (h:(smF2 l m).opt=some r):fnx (mk (tab [])) LS 11 [.sc (.sl kU),.sc (.sl kU)] (.one (.sc .bool)) (l,m,())=some r:=by
 refine(run_Same l m).trans ?_
 simp only [smF2,Fk.opt] at h
 obtain⟨hs,h⟩:=of_cond' h
 obtain rfl:=Option.some.inj h
 simp only [Bool.and_eq_true,sh0,decide_eq_true_eq] at hs
 by_cases e:l.length=m.length
 ·have e1:((l.length:Int) != (m.length:Int))=false:=by simp [e]
  show(bif ((l.length:Int) != (m.length:Int)) then some false else resS ⟨false,l,m,0⟩ KfS:Option Bool)=some (l == m)
  rw [e1,cond_false]
  have e5:(okS l m && (decide ((0:Int)≤0) && decide ((0:Int)≤(l.length:Int))))=true:=by simp [okS,e];omega
  show(bif (okS l m && (decide ((0:Int)≤0) && decide ((0:Int)≤(l.length:Int)))) then (bif l.drop (Int.toNat 0) == m.drop (Int.toNat 0) then KfS (.exit 0) (outS false) else KfS .ret (outS false)) else none)=some (l == m)
  rw [e5,cond_true]
  show(bif l == m then some true else some false)=some (l == m)
  cases l == m<;>rfl
 ·have e1:((l.length:Int) != (m.length:Int))=true:=by simp;omega
  show(bif ((l.length:Int) != (m.length:Int)) then some false else resS ⟨false,l,m,0⟩ KfS:Option Bool)=some (l == m)
  rw [e1,cond_true]
  have:(l == m)=false:=by
   rw [beq_eq_false_iff_ne]
   rintro rfl
   exact e rfl
  rw [this]
theorem Same_ok:SpecOk Try.prog 11 ⟨[.sc (.sl kU),.sc (.sl kU)],.one (.sc .bool),fun x=>(smF2 x.1 x.2.1).opt⟩:=by
 refine fnl_ok (x_ok (l:=[]) trivial) (lps:=LS) 1 (by kernel_rfl) (fun k hk=>?_) (fun x r h=>?_) ⟨_,_,rfl,rfl⟩
 ·obtain rfl:k=0:=by omega
  intro L' hL' s K r hs
  have hL:LS (R:=Bool) 11 4=some L':=hL'
  obtain rfl:=Option.some.inj hL
  exact lpd_ok unS_ok (fun x N E=>roundS LS x N E) (fun x K r h=>iterS x h) hs
 ·obtain⟨l,m,⟨⟩⟩:=x
  exact Same_eq l m r h
abbrev aSame:Alt:=⟨[.sc (.sl kU),.sc (.sl kU)],.one (.sc .bool),fun x=>smF2 x.1 x.2.1⟩
end Go.Proofs.Ytgmkppeghnlcmaa.W
end
