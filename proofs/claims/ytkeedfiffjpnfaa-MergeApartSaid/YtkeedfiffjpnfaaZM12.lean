/- Lemmas of the rows, laid by a program. -/
import Derived.Test.YtkeedfiffjpnfaaZM11
section
set_option linter.unusedVariables false
set_option linter.unusedSimpArgs false
namespace Go.Proofs.Ytkeedfiffjpnfaa.X
open Go Go.RowKit
set_option maxRecDepth 100000
set_option maxHeartbeats 4000000
set_option linter.unusedVariables false
set_option linter.unusedSimpArgs false
def Ok6 (x:D6):Prop:=0≤x.r10∧x.r10≤x.r7.length∧(x.r7.length:Int)<4611686018427387904∧x.r7.drop x.r10.toNat <+: x.r9.drop x.r10.toNat
noncomputable def ok6 (x:D6):Bool:=@decide (Ok6 x) (Classical.propDecidable _)
theorem ok6_iff {x:D6}:ok6 x=true↔Ok6 x:=by unfold ok6;simp
noncomputable def res6 {R:Type} (fe:D6→St) (K:Ex→St→Option R) (x:D6):Option R:=bif ok6 x then K (.exit 0) (fe { x with r10:=0 }) else none
theorem res6_ok {R:Type} {fe fr:D6→St} (hfe:∀ x i,fe { x with r10:=i }=fe x) (x:D6) (K:Ex→St→Option R) (r:R) (h:res6 fe K x=some r):∃ n,iter (rnd6 fe fr) n x K=some r:=by
 refine iter_by (fun x=>x.r7.length-x.r10.toNat) (res6 fe K) (fun x h=>?_) x h
 unfold res6 at h
 cases hok:ok6 x with
 | false=>rw [hok] at h;cases h
 | true =>
  rw [hok] at h
  simp only [cond_true] at h
  obtain⟨h0,h1,h2,h3⟩:=ok6_iff.1 hok
  rw [hfe] at h
  obtain⟨up,l,o,i,m⟩:=x
  dsimp only at *
  by_cases hi:i<l.length
  ·left
   obtain⟨e1,z,ez,e2,e3⟩:=rd_atS (l:=l) h0 hi
   have ho:i<o.length:=by
    have:=h3.length_le
    simp only [List.length_drop] at this
    omega
   obtain⟨f1,y,ey,f2,f3⟩:=rd_atS (l:=o) h0 ho
   rw [e3,f3,List.cons_prefix_cons] at h3
   obtain⟨rfl,h3⟩:=h3
   have hw:IntKind.i64.wrap (i+1)=i+1:=wrap_i64 (by omega) (by omega)
   refine⟨⟨up,l,o,i+1,m⟩,by dsimp only;omega,?_,fun N hN=>?_⟩
   ·have:ok6 ⟨up,l,o,i+1,m⟩=true:=by
     rw [ok6_iff]
     exact⟨by dsimp only;omega,by dsimp only;omega,h2,h3⟩
    unfold res6
    rw [this]
    simp only [cond_true]
    have:=hfe ⟨up,l,o,i,m⟩ 0
    dsimp only at this
    rw [this];exact h
   ·unfold rnd6
    dsimp only
    rw [decide_eq_true hi,decide_eq_false (show ¬i ≥ o.length by omega),f1,e1,f2,e2,eqS_is.2 rfl,hw]
    exact hN
  ·right
   intro N
   unfold rnd6
   dsimp only
   rw [decide_eq_false hi]
   exact h
def Ok6b (x:D6b):Prop:=0≤x.r12∧x.r12≤x.r7.length∧(x.r7.length:Int)<4611686018427387904∧(x.r11=true→∀ s ∈ x.r7.drop x.r12.toNat,s.1≤x.b0.1)
noncomputable def ok6b (x:D6b):Bool:=@decide (Ok6b x) (Classical.propDecidable _)
theorem ok6b_iff {x:D6b}:ok6b x=true↔Ok6b x:=by unfold ok6b;simp
noncomputable def res6b {R:Type} (fe:D6b→St) (K:Ex→St→Option R) (x:D6b):Option R:=bif ok6b x then K (.exit 2) (fe { x with r12:=0 }) else none
theorem res6b_ok {R:Type} {fe fr:D6b→St} (hfe:∀ x i,fe { x with r12:=i }=fe x) (x:D6b) (K:Ex→St→Option R) (r:R) (h:res6b fe K x=some r):∃ n,iter (rnd6b fe fr) n x K=some r:=by
 refine iter_by (fun x=>x.r7.length-x.r12.toNat) (res6b fe K) (fun x h=>?_) x h
 unfold res6b at h
 cases hok:ok6b x with
 | false=>rw [hok] at h;cases h
 | true =>
  rw [hok] at h
  simp only [cond_true] at h
  obtain⟨h0,h1,h2,h3⟩:=ok6b_iff.1 hok
  rw [hfe] at h
  obtain⟨up,l,e,i,m⟩:=x
  dsimp only at *
  by_cases hi:i<l.length
  ·cases e with
   | false =>
    right
    intro N
    unfold rnd6b
    dsimp only
    rw [decide_eq_true hi]
    exact h
   | true =>
    left
    obtain⟨e1,z,ez,e2,e3⟩:=rd_atS (l:=l) h0 hi
    rw [e3] at h3
    have hz:z.1≤m.1:=h3 rfl z (by simp)
    have hw:IntKind.i64.wrap (i+1)=i+1:=wrap_i64 (by omega) (by omega)
    refine⟨⟨up,l,true,i+1,m⟩,by dsimp only;omega,?_,fun N hN=>?_⟩
    ·have:ok6b ⟨up,l,true,i+1,m⟩=true:=by
      rw [ok6b_iff]
      exact⟨by dsimp only;omega,by dsimp only;omega,h2,fun hh s hs=>h3 hh s (by simp [hs])⟩
     unfold res6b
     rw [this]
     simp only [cond_true]
     have:=hfe ⟨up,l,true,i,m⟩ 0
     dsimp only at this
     rw [this];exact h
    ·unfold rnd6b
     dsimp only
     rw [decide_eq_true hi,e1,e2,hw]
     have:decide (z.1 > m.1)=false:=decide_eq_false (by omega)
     simp only [cond_true]
     rw [this]
     exact hN
  ·right
   intro N
   unfold rnd6b
   dsimp only
   rw [decide_eq_false hi]
   exact h
noncomputable abbrev L6:{R:Type}→Lps R:=fun f rid=>match f,rid with
  | 6,7=>some (lpd dead6 sk6 un6 fun x K=>res6 fe6 K x)
  | 6,13=>some (lpd dead6b sk6b un6b fun x K=>res6b fe6b K x)
  | _,_=>none
theorem loop6a (F:Fs) {R:Type}:LoopOk (mk (spI F)) R (L6 6 (firstRid (loopAt (mk (spI F)) 6 0))) 6 0 L6:=by
 intro L hL s K r hs
 have e:(L6 6 (firstRid (loopAt (mk (spI F)) 6 0)):Option (St→(Ex→St→Option R)→Option R))=some (lpd dead6 sk6 un6 fun x K=>res6 fe6 K x):=by kernel_rfl
 rw [e] at hL
 obtain rfl:=Option.some.inj hL
 exact lpd_ok un6_ok (round6 F) (res6_ok fun _ _=>rfl) hs
theorem loop6b (F:Fs) {R:Type}:LoopOk (mk (spI F)) R (L6 6 (firstRid (loopAt (mk (spI F)) 6 1))) 6 1 L6:=by
 intro L hL s K r hs
 have e:(L6 6 (firstRid (loopAt (mk (spI F)) 6 1)):Option (St→(Ex→St→Option R)→Option R))=some (lpd dead6b sk6b un6b fun x K=>res6b fe6b K x):=by kernel_rfl
 rw [e] at hL
 obtain rfl:=Option.some.inj hL
 exact lpd_ok un6b_ok (round6b F) (res6b_ok fun _ _=>rfl) hs
noncomputable def end6 (m:MT) (l:List ST) (e:Bool):Option Bool:=bif ok6b ⟨true,l,e,0,m⟩ then some true else none
noncomputable def waT (F:Fs) (m:MT) (t:Int):Option Bool :=
  bif !!F.Fw m then (bif !F.Sn m then some true else (F.Al m).bind fun y=>(F.Al (F.Tl m t)).bind fun z=>bif ok6 ⟨true,y.2.1,z.2.1,0,m⟩ then
    (bif !((qOf m 0).length:Int) == 0 then (bif !((qOf m 1).length:Int) == 0 then (bif !((qOf m 2).length:Int) == 0 then end6 m y.2.1 (((qOf m 3).length:Int) == 0) else end6 m y.2.1 true) else end6 m y.2.1 true) else end6 m y.2.1 true) else none) else some true
theorem waits_is (F:Fs) (m:MT) (t:Int):fnx (mk (spI F)) L6 6 [DM,.sc KI] RB (m,t,())=waT F m t:=by kernel_rfl
theorem till_mark {m:MT} (h:Sn m) (t:Int):∃ t',tillM m t=mark m t'∧m.1≤t'∧t'≤1099511627776:=by
 unfold tillM
 rw [known_id h]
 have:=h.mr
 by_cases ht:t≤1099511627776
 ·rw [decide_eq_true ht]
  refine⟨if m.1<t then t else m.1,rfl,?_,?_⟩<;>split<;>omega
 ·rw [decide_eq_false ht]
  exact⟨m.1,rfl,Int.le_refl _,this.2⟩
theorem mark_sane {m:MT} {t:Int} (h:Sn m) (h1:m.1≤t) (h2:t≤1099511627776):Sn (mark m t):=by
 have:=h.mr
 exact⟨fun k hk=>⟨(h.row k hk).el,(h.row k hk).up,(h.row k hk).le⟩,h.cn,⟨by show 0≤t;omega,h2⟩,h.tk,h.la,h.nl,h.n0⟩
theorem waits_true (m:MT) (t:Int):waT FF m t=some true:=by
 unfold waT
 cases hf:FF.Fw m with
 | false=>rfl
 | true =>
  cases hs:FF.Sn m with
  | false=>rfl
  | true =>
   have h:Sn m:=saneM_iff.1 hs
   obtain⟨l,n,e1,run⟩:=all_run h
   obtain⟨t',et,ht1,ht2⟩:=till_mark h t
   obtain⟨o,n',e2,run'⟩:=all_run (mark_sane h ht1 ht2)
   obtain⟨s1,s2,s3,s4,s5,s6⟩:=run.sane h
   have hl:=h.left
   have hl':=s1.left
   have e1':FF.Al m=some (n,l,()):=e1
   have e2':FF.Al (FF.Tl m t)=some (n',o,()):=by
    show allX nextO (tillM m t)=_
    rw [et];exact e2
   rw [e1',e2']
   simp only [Bool.not_true,Bool.not_false,cond_true,cond_false,Option.bind_some]
   have hok:ok6 ⟨true,l,o,0,m⟩=true:=by
    rw [ok6_iff]
    exact⟨Int.le_refl _,by dsimp only;omega,by dsimp only;omega,run.pre ht1 run'⟩
   rw [hok,cond_true]
   have fin:∀ e:Bool,(e=true→∃ k,isK k∧qOf m k=[])→end6 m l e=some true:=by
    intro e he
    unfold end6
    have:ok6b ⟨true,l,e,0,m⟩=true:=by
     rw [ok6b_iff]
     exact⟨Int.le_refl _,by dsimp only;omega,by dsimp only;omega,fun hh s hs=>run.wait (he hh) s hs⟩
    rw [this];rfl
   have z:∀ k,isK k→(((qOf m k).length:Int) == 0)=true→∃ k,isK k∧qOf m k=[]:=by
    intro k hk he
    refine⟨k,hk,?_⟩
    have:(qOf m k).length=0:=by simpa using he
    exact List.length_eq_zero_iff.1 this
   cases c0:(((qOf m 0).length:Int) == 0) with
   | true=>exact fin true fun _=>z 0 (Or.inl rfl) c0
   | false =>
    cases c1:(((qOf m 1).length:Int) == 0) with
    | true=>exact fin true fun _=>z 1 (Or.inr (Or.inl rfl)) c1
    | false =>
     cases c2:(((qOf m 2).length:Int) == 0) with
     | true=>exact fin true fun _=>z 2 (Or.inr (Or.inr (Or.inl rfl))) c2
     | false=>exact fin _ fun hh=>z 3 (Or.inr (Or.inr (Or.inr rfl))) hh
theorem s6:SpecOk Try.prog 6 ⟨[DM,.sc KI],RB,fun _=>some true⟩:=by
 refine fnl_ok xI_ok (lps:=L6) 2 (by kernel_rfl) (fun k hk=>?_) (fun x r h=>?_) ⟨_,_,rfl,rfl⟩
 ·rcases(by omega:k=0∨k=1) with rfl|rfl
  ·exact loop6a FF
  ·exact loop6b FF
 ·obtain⟨m,t,⟨⟩⟩:=x
  rw [←h]
  exact(waits_is FF m t).trans (waits_true m t)
end Go.Proofs.Ytkeedfiffjpnfaa.X
end
section
set_option linter.unusedVariables false
set_option linter.unusedSimpArgs false
namespace Go.Proofs.Ytkeedfiffjpnfaa.X
open Go Go.RowKit
set_option maxRecDepth 100000
set_option maxHeartbeats 4000000
set_option linter.unusedVariables false
set_option linter.unusedSimpArgs false
def apB (F:Fs) (m:MT) (s t:ST):Option Bool :=
  (F.Pt m s.2.1 (F.Wd s)).bind fun a=>(F.Pt a.1 t.2.1 (F.Wd t)).bind fun b=>(F.Pt m t.2.1 (F.Wd t)).bind fun c=>(F.Pt c.1 s.2.1 (F.Wd s)).bind fun d =>
    (F.Sm b.1 d.1).bind fun z=>bif z then (bif a.2.1 == d.2.1 then some (b.2.1 == c.2.1) else some false) else some false
def apL (F:Fs) (m:MT) (s t:ST):List Nat→Option Bool
  | []=>apB F m s t
  | i :: l=>bif decide (nOf m.2.2.2.2.1 i > 549755813888) then some true else apL F m s t l
def apT (F:Fs) (m:MT) (s t:ST):Option Bool :=
  bif !!F.Fw m then (bif !(s.2.1 == t.2.1) then (bif !decide (s.2.1<0) then (bif !decide (s.2.1 > 3) then (bif !decide (t.2.1<0) then (bif decide (t.2.1 > 3) then some true else
    apL F m s t [0,1,2,3,4,5,6]) else some true) else some true) else some true) else some true) else some true
theorem apart_is (F:Fs) (m:MT) (s t:ST):fnx (mk (spI F)) L0 8 [DM,.ag KS,.ag KS] RB (m,s,t,())=apT F m s t:=by kernel_rfl
end Go.Proofs.Ytkeedfiffjpnfaa.X
end
section
set_option linter.unusedVariables false
set_option linter.unusedSimpArgs false
namespace Go.Proofs.Ytkeedfiffjpnfaa.X
open Go Go.RowKit
set_option maxRecDepth 100000
set_option maxHeartbeats 1000000
set_option linter.unusedVariables false
set_option linter.unusedSimpArgs false
theorem iw_uw {x:Int} (h1:-9223372036854775808≤x) (h2:x<9223372036854775808):iw (uw x)=x:=by
 unfold iw uw
 simp [IntKind.wrap,IntKind.bits,IntKind.signed]
 omega
theorem read_words {s:ST} (h:saneS s=true):readS (wordsS s)=(s,0,()):=by
 have h':=saneS_iff.1 h
 have e:wordsS s=[uw s.1,uw s.2.1,uw s.2.2.1.1,uw s.2.2.1.2.1,uw s.2.2.1.2.2.1,sumL (five s) 14695981039346656037]:=by
  unfold wordsS
  rw [h];rfl
 rw [e]
 have eo:ofW (uw s.1) (uw s.2.1) (uw s.2.2.1.1) (uw s.2.2.1.2.1) (uw s.2.2.1.2.2.1)=s:=by
  unfold ofW
  rw [iw_uw (by omega) (by omega),iw_uw (by omega) (by omega),iw_uw (by omega) (by omega),iw_uw (by omega) (by omega),iw_uw (by omega) (by omega)]
 show(bif sumL [uw s.1,uw s.2.1,uw s.2.2.1.1,uw s.2.2.1.2.1,uw s.2.2.1.2.2.1] 14695981039346656037 != sumL (five s) 14695981039346656037 then (zeroS,2,()) else bif !saneS (ofW (uw s.1) (uw s.2.1) (uw s.2.2.1.1) (uw s.2.2.1.2.1) (uw s.2.2.1.2.2.1)) then (zeroS,1,()) else (ofW (uw s.1) (uw s.2.1) (uw s.2.2.1.1) (uw s.2.2.1.2.1) (uw s.2.2.1.2.2.1),0,()))=_
 have e5:sumL [uw s.1,uw s.2.1,uw s.2.2.1.1,uw s.2.2.1.2.1,uw s.2.2.1.2.2.1] 14695981039346656037=sumL (five s) 14695981039346656037:=rfl
 rw [eo,h,e5]
 generalize sumL (five s) 14695981039346656037=n
 have:(n != n)=false:=by simp
 rw [this];rfl
theorem words_not {s:ST} (h:saneS s=false):readS (wordsS s)=(zeroS,5,()):=by
 have e:wordsS s=[]:=by
  unfold wordsS
  rw [h];rfl
 rw [e];rfl
theorem readS_sane {l:List Int} (h:(readS l).2.1=0):saneS (readS l).1=true:=by
 unfold readS at *
 split at h
 ·rename_i a b c d e f
  cases h1:(sumL [a,b,c,d,e] 14695981039346656037 != f) with
  | true=>rw [h1] at h;cases h
  | false =>
   rw [h1] at h
   cases h2:saneS (ofW a b c d e) with
   | false=>rw [h2] at h;cases h
   | true=>exact h2
 ·cases h
def lastT (q:List ST):Int:=(q.getLast?.getD zeroS).1
noncomputable def wcode (m:MT) (k:Int) (q:List ST) (z:ZT):Int:=if z.2.1≠0 then z.2.1 else if z.1.2.1≠k then 1 else if behindM m z.1=false then 3 else if q≠[]∧z.1.1≤lastT q then 3 else if q.length=16 then 4 else 0
theorem wrongT_is {m:MT} {k:Int} {q:List ST} {z:ZT} (hq:q.length≤16):wrongT m k q z=some (z.1,wcode m k q z,()):=by
 unfold wrongT wcode
 by_cases h1:z.2.1=0
 ·have e1:(z.2.1 != 0)=false:=by simp [h1]
  rw [e1,cond_false,if_neg (by simpa using h1)]
  by_cases h2:z.1.2.1=k
  ·have e2:(z.1.2.1 != k)=false:=by simp [h2]
   rw [e2,cond_false,if_neg (by simpa using h2)]
   cases h3:behindM m z.1 with
   | false=>simp
   | true =>
    simp only [Bool.not_true,Bool.not_false,cond_true,if_neg (show ¬(true=false) by simp)]
    cases q with
    | nil=>simp
    | cons a q =>
     have e3:decide ((((a :: q).length:Nat):Int) > 0)=true:=by simp
     rw [e3,cond_true]
     have ew:IntKind.i64.wrap ((((a :: q).length:Nat):Int)-1)=q.length:=by
      rw [wrap_i64 (by simp) (by simp at *;omega)];simp
     rw [ew]
     obtain⟨f1,y,f2,f3,f4⟩:=rd_atS (l:=a :: q) (i:=(q.length:Int)) (by omega) (by simp;omega)
     rw [f1,f3,cond_true]
     have e7:lastT (a :: q)=y.1:=by
      unfold lastT
      rw [List.getLast?_eq_getElem?]
      have:(a :: q)[(a :: q).length-1]? = some y:=by simpa using f2
      rw [this];rfl
     rw [e7]
     by_cases h4:z.1.1≤y.1
     ·have:decide ((show ST from z.1).1≤y.1)=true:=decide_eq_true h4
      rw [if_pos ⟨by simp,h4⟩]
      simp [h4]
     ·rw [if_neg (fun hh=>h4 hh.2)]
      simp only [decide_eq_false h4,cond_false]
      by_cases h5:(a :: q).length=16
      ·rw [if_pos h5,h5];rfl
      ·rw [if_neg h5]
       have:((((a :: q).length:Nat):Int) == 16)=false:=by
        simp only [beq_eq_false_iff_ne,ne_eq]
        omega
       rw [this];rfl
  ·have e2:(z.1.2.1 != k)=true:=by simp [h2]
   rw [e2,cond_true,if_pos h2]
 ·have e1:(z.2.1 != 0)=true:=by simp [h1]
  rw [e1,cond_true,if_pos h1]
instance {k:Int}:Decidable (isK k):=inferInstanceAs (Decidable (_∨_))
noncomputable def code (m:MT) (k:Int) (l:List Int):Int:=if isK k then wcode m k (qOf m k) (readS l) else 5
theorem wrongO_is {m:MT} (h:Sn m) (k:Int) (l:List Int):∃ s,wrongO m k l=some (s,code m k l,())∧(isK k→s=(readS l).1):=by
 unfold wrongO code
 by_cases hk:isK k
 ·rw [if_pos hk]
  have hr:=(h.row k hk).le
  rcases hk with rfl|rfl|rfl|rfl
  ·exact⟨_,wrongT_is hr,fun _=>rfl⟩
  ·exact⟨_,wrongT_is hr,fun _=>rfl⟩
  ·exact⟨_,wrongT_is hr,fun _=>rfl⟩
  ·exact⟨_,wrongT_is hr,fun _=>rfl⟩
 ·rw [if_neg hk]
  unfold isK at hk
  rw [if_neg (by omega),if_neg (by omega),if_neg (by omega),if_neg (by omega)]
  exact⟨_,rfl,fun hh=>absurd hh hk⟩
theorem wcode_five {m:MT} {k:Int} {q:List ST} {l:List Int}:0≤wcode m k q (readS l)∧wcode m k q (readS l)≤5:=by
 unfold wcode
 have:=readS_code l
 split
 ·omega
 ·split
  ·omega
  ·split
   ·omega
   ·split
    ·omega
    ·split<;>omega
theorem code_five {m:MT} {k:Int} {l:List Int}:0≤code m k l∧code m k l≤5:=by
 unfold code
 split
 ·exact wcode_five
 ·omega
theorem code_zero {m:MT} {k:Int} {l:List Int} (h:code m k l=0):isK k∧(readS l).2.1=0∧(readS l).1.2.1=k∧behindM m (readS l).1=true∧(qOf m k≠[]→lastT (qOf m k)<(readS l).1.1)∧(qOf m k).length≠16:=by
 unfold code at h
 split at h
 ·rename_i hk
  unfold wcode at h
  split at h
  ·omega
  ·rename_i h1
   split at h
   ·omega
   ·rename_i h2
    split at h
    ·omega
    ·rename_i h3
     split at h
     ·omega
     ·rename_i h4
      split at h
      ·omega
      ·rename_i h5
       refine⟨hk,by simpa using h1,by simpa using h2,by simpa using h3,fun hq=>?_,h5⟩
       by_cases h6:lastT (qOf m k)<(readS l).1.1
       ·exact h6
       ·exact absurd ⟨hq,by omega⟩ h4
 ·omega
noncomputable def putM (m:MT) (k:Int) (l:List Int):MT × Int :=
  if nOf (Ns m) (code m k l).toNat=1099511627776 then (m,4) else if code m k l=0 then (setQ (bump m 0) (qOf m k++[(readS l).1]) k.toNat,0) else (bump m (code m k l).toNat,code m k l)
theorem put_is (m:MT) (k:Int) (l:List Int):putO m k l=some ((putM (knownM m) k l).1,(putM (knownM m) k l).2,()):=by
 have h:=known_sane m
 obtain⟨s,e,hs⟩:=wrongO_is h k l
 unfold putO putM
 rw [e]
 simp only [Option.bind_some]
 by_cases h1:nOf (knownM m).2.2.2.2.1 (code (knownM m) k l).toNat=1099511627776
 ·rw [if_pos h1,if_pos h1]
 ·rw [if_neg h1,if_neg h1]
  by_cases h2:code (knownM m) k l=0
  ·rw [if_pos h2,if_pos h2]
   obtain⟨hk,h3,h4,h5,h6,h7⟩:=code_zero h2
   have hl:=(h.row k hk).le
   unfold addQ
   rw [room24 (by omega),hs hk]
   simp only [cond_true,Option.bind_some]
   rw [room24 (by omega)]
   rfl
  ·rw [if_neg h2,if_neg h2]
theorem nOf_setN {n:NT} {v:Int} {i j:Nat} (hi:i<7) (hj:j<7):nOf (setN n v j) i=if i=j then v else nOf n i:=by
 match j,hj with
 | 0,_=>match i,hi with|0,_|1,_|2,_|3,_|4,_|5,_|6,_=>rfl
 | 1,_=>match i,hi with|0,_|1,_|2,_|3,_|4,_|5,_|6,_=>rfl
 | 2,_=>match i,hi with|0,_|1,_|2,_|3,_|4,_|5,_|6,_=>rfl
 | 3,_=>match i,hi with|0,_|1,_|2,_|3,_|4,_|5,_|6,_=>rfl
 | 4,_=>match i,hi with|0,_|1,_|2,_|3,_|4,_|5,_|6,_=>rfl
 | 5,_=>match i,hi with|0,_|1,_|2,_|3,_|4,_|5,_|6,_=>rfl
 | 6,_=>match i,hi with|0,_|1,_|2,_|3,_|4,_|5,_|6,_=>rfl
theorem last_max:∀ {q:List ST} {a:ST},q.Pairwise (fun a b=>a.1<b.1)→a ∈ q→a.1≤lastT q:=by
 intro q a hp ha
 obtain⟨b,l,rfl⟩:=cons_of (show q≠[] from fun e=>by rw [e] at ha;cases ha)
 unfold lastT
 rw [List.getLast?_eq_some_getLast (List.cons_ne_nil b l)]
 show a.1≤((b :: l).getLast (List.cons_ne_nil b l)).1
 have hs:=List.dropLast_concat_getLast (List.cons_ne_nil b l)
 rw [←hs] at hp ha
 rcases List.mem_append.1 ha with h|h
 ·have:=(List.pairwise_append.1 hp).2.2 a h ((b :: l).getLast (List.cons_ne_nil b l)) (by simp)
  omega
 ·have:a=(b :: l).getLast (List.cons_ne_nil b l):=by simpa using h
  rw [this];exact Int.le_refl _
theorem bump_n {m:MT} (h:Sn m) {i j:Nat} (hi:i<7) (hj:j<7):nOf (Ns (bump m j)) i=if i=j then nOf (Ns m) j+1 else nOf (Ns m) i:=by
 have hc:=h.cn j hj
 have:nOf (Ns (bump m j)) i=if i=j then IntKind.i64.wrap (nOf (Ns m) j+1) else nOf (Ns m) i:=nOf_setN hi hj
 rw [this]
 split
 ·exact wrap_i64 (by unfold Ns;omega) (by unfold Ns;omega)
 ·rfl
theorem put_sane {m:MT} (h:Sn m) (k:Int) (l:List Int):Sn (putM m k l).1:=by
 unfold putM
 split
 ·exact h
 ·rename_i hn
  split
  ·rename_i h0
   obtain⟨hk,h3,h4,h5,h6,h7⟩:=code_zero h0
   obtain⟨j,hj,rfl⟩:=isK_nat.1 hk
   rw [h0] at hn
   have hn':nOf (Ns m) 0≠1099511627776:=hn
   have hr:=h.row j hk
   have hq:∀ i,isK i→qOf (setQ (bump m 0) (qOf m j++[(readS l).1]) ((j:Int)).toNat) i=if i=(j:Int) then qOf m j++[(readS l).1] else qOf m i:=by
    intro i hi
    rw [show((j:Int)).toNat=j by omega,qOf_setQ hj hi];rfl
   have hN:Ns (setQ (bump m 0) (qOf m j++[(readS l).1]) ((j:Int)).toNat)=Ns (bump m 0):=by
    rw [show((j:Int)).toNat=j by omega]
    match j,hj with
    | 0,_=>rfl
    | 1,_=>rfl
    | 2,_=>rfl
    | 3,_=>rfl
   have hrest:(setQ (bump m 0) (qOf m j++[(readS l).1]) ((j:Int)).toNat).1=m.1∧(setQ (bump m 0) (qOf m j++[(readS l).1]) ((j:Int)).toNat).2.1=m.2.1∧(setQ (bump m 0) (qOf m j++[(readS l).1]) ((j:Int)).toNat).2.2.1=m.2.2.1∧Tk (setQ (bump m 0) (qOf m j++[(readS l).1]) ((j:Int)).toNat)=Tk m:=by
    rw [show((j:Int)).toNat=j by omega]
    match j,hj with
    | 0,_=>exact⟨rfl,rfl,rfl,rfl⟩
    | 1,_=>exact⟨rfl,rfl,rfl,rfl⟩
    | 2,_=>exact⟨rfl,rfl,rfl,rfl⟩
    | 3,_=>exact⟨rfl,rfl,rfl,rfl⟩
   generalize setQ (bump m 0) (qOf m j++[(readS l).1]) ((j:Int)).toNat=x at hq hN hrest ⊢
   obtain⟨x1,x2,x3,x4⟩:=hrest
   have hb:∀ s,behindM x s=behindM m s:=fun s=>by unfold behindM;rw [x2,x3]
   have hc0:=h.cn 0 (by omega)
   have hleft:left x=left m+1:=by
    unfold left
    rw [hq 0 (Or.inl rfl),hq 1 (Or.inr (Or.inl rfl)),hq 2 (Or.inr (Or.inr (Or.inl rfl))),hq 3 (Or.inr (Or.inr (Or.inr rfl)))]
    rcases hk with e|e|e|e<;>rw [e]<;>simp<;>omega
   refine⟨fun i hi=>?_,fun i hi=>?_,?_,?_,?_,?_,?_⟩
   ·have hri:=h.row i hi
    by_cases e:i=(j:Int)
    ·subst e
     have hqj:=hq j hi
     rw [if_pos rfl] at hqj
     refine⟨fun s hs=>?_,?_,?_⟩
     ·rw [hqj] at hs
      rw [hb]
      rcases List.mem_append.1 hs with hs|hs
      ·exact hri.el s hs
      ·obtain rfl:s=(readS l).1:=by simpa using hs
       exact⟨readS_sane h3,h4,h5⟩
     ·rw [hqj,List.pairwise_append]
      refine⟨hri.up,by simp,fun a ha b hb=>?_⟩
      obtain rfl:b=(readS l).1:=by simpa using hb
      have:=last_max hri.up ha
      have:=h6 (fun e=>by rw [e] at ha;cases ha)
      omega
     ·rw [hqj]
      have:=hri.le
      simp
      omega
    ·have hqi:=hq i hi
     rw [if_neg e] at hqi
     exact⟨fun s hs=>by rw [hqi] at hs;rw [hb];exact hri.el s hs,by rw [hqi];exact hri.up,by rw [hqi];exact hri.le⟩
   ·show 0≤nOf (Ns x) i∧nOf (Ns x) i≤_
    rw [hN,bump_n h hi (by omega)]
    have:=h.cn i hi
    split
    ·unfold Ns at *;omega
    ·exact this
   ·rw [x1];exact h.mr
   ·show 0≤Tk x∧Tk x≤_
    rw [x4];exact h.tk
   ·rw [x2,x3];exact h.la
   ·rw [x2,x3];exact h.nl
   ·show nOf (Ns x) 0=Tk x+left x
    have:=h.n0
    rw [hN,bump_n h (by omega) (by omega),if_pos rfl,hleft,x4]
    unfold Ns Tk
    omega
  ·rename_i h0
   have hc:=code_five (m:=m) (k:=k) (l:=l)
   obtain⟨e,he⟩:∃ e:Nat,code m k l=(e:Int):=⟨(code m k l).toNat,by omega⟩
   rw [he] at hn h0 ⊢
   have ee:((e:Int)).toNat=e:=by omega
   rw [ee] at hn ⊢
   have hce:=h.cn e (by omega)
   refine⟨fun i hi=>⟨(h.row i hi).el,(h.row i hi).up,(h.row i hi).le⟩,fun i hi=>?_,h.mr,h.tk,h.la,h.nl,?_⟩
   ·show 0≤nOf (Ns (bump m e)) i∧nOf (Ns (bump m e)) i≤_
    rw [bump_n h hi (by omega)]
    have:=h.cn i hi
    split
    ·unfold Ns at *;omega
    ·exact this
   ·show nOf (Ns (bump m e)) 0=Tk m+left m
    rw [bump_n h (by omega) (by omega),if_neg (by omega)]
    exact h.n0
end Go.Proofs.Ytkeedfiffjpnfaa.X
end
section
set_option linter.unusedVariables false
set_option linter.unusedSimpArgs false
namespace Go.Proofs.Ytkeedfiffjpnfaa.X
open Go Go.RowKit
set_option maxRecDepth 100000
set_option maxHeartbeats 1000000
set_option linter.unusedVariables false
set_option linter.unusedSimpArgs false
def lt63 (n:Int):Bool:=decide (n<9223372036854775808)
theorem lt63_iff {n:Int}:lt63 n=true↔n<9223372036854775808:=by unfold lt63;exact decide_eq_true_iff
theorem lt62_of {n:Nat} (h:n≤100000):lt62 n=true:=by
 unfold lt62
 exact decide_eq_true (by omega)
theorem put_ok {m:MT} {k:Int} {l:List Int} (h:(putM m k l).2=0):code m k l=0∧(putM m k l).1=setQ (bump m 0) (qOf m k++[(readS l).1]) k.toNat:=by
 unfold putM at *
 split at h
 ·cases h
 ·rename_i h1
  rw [if_neg h1]
  split at h
  ·rename_i h2
   rw [if_pos h2]
   exact⟨h2,rfl⟩
  ·rename_i h2
   exact absurd h h2
theorem late {x:MT} {k:Int} {l:List Int} {q:List ST} {s t:ST} (hk:isK k) (hq:qOf x k=q++[s]) (hr:readS l=(t,0,())) (hS:t.2.1=k) (hT:t.1≤s.1):(putM x k l).2=3∨(putM x k l).2=4:=by
 have hc:code x k l=3:=by
  unfold code wcode
  rw [if_pos hk,hr,if_neg (by simp),if_neg (by simpa using hS)]
  split
  ·rfl
  ·rw [if_pos]
   refine⟨by rw [hq];simp,?_⟩
   unfold lastT
   rw [hq]
   simpa using hT
 unfold putM
 rw [hc]
 split
 ·exact Or.inr rfl
 ·rw [if_neg (by omega)]
  exact Or.inl rfl
theorem twice_true (m:MT) (s:ST) (less:Int) (hl:less<9223372036854775808):twT FF m s less=some true:=by
 unfold twT
 cases hf:FF.Fw m with
 | false=>rfl
 | true =>
  simp only [Bool.not_true,Bool.not_false,cond_true]
  by_cases h0:less<0
  ·rw [decide_eq_true h0];rfl
  ·rw [decide_eq_false h0,cond_false]
   have e1:putO m s.2.1 (wordsS s)=some ((putM (knownM m) s.2.1 (wordsS s)).1,(putM (knownM m) s.2.1 (wordsS s)).2,()):=put_is _ _ _
   have hM:=known_sane m
   have hx:=put_sane hM s.2.1 (wordsS s)
   rw [e1]
   simp only [Option.bind_some]
   have hkx:=known_id hx
   generalize hxx:putM (knownM m) s.2.1 (wordsS s)=x at hx hkx ⊢
   have e2:∀ l,FF.Pt x.1 s.2.1 l=some ((putM x.1 s.2.1 l).1,(putM x.1 s.2.1 l).2,()):=by
    intro l
    have:=put_is x.1 s.2.1 l
    rw [hkx] at this
    exact this
   have e2':∀ l,putO x.1 s.2.1 l=some ((putM x.1 s.2.1 l).1,(putM x.1 s.2.1 l).2,()):=e2
   simp only [e2',Option.bind_some]
   by_cases he:x.2=0
   ·have he':(x.2 != 0)=false:=by simp [he]
    rw [he',cond_false]
    obtain⟨h1,h2⟩:=put_ok (m:=knownM m) (k:=s.2.1) (l:=wordsS s) (by rw [hxx];exact he)
    rw [hxx] at h2
    obtain⟨hk,h3,h4,h5,h6,h7⟩:=code_zero h1
    have hs:saneS s=true:=by
     cases hss:saneS s with
     | true=>rfl
     | false=>rw [words_not hss] at h3;cases h3
    have hss:=saneS_iff.1 hs
    have hrs:=read_words hs
    obtain⟨j,hj,hje⟩:=isK_nat.1 hk
    have hq:qOf x.1 s.2.1=qOf (knownM m) s.2.1++[s]:=by
     rw [h2,hrs,hje,show((j:Int)).toNat=j by omega,qOf_setQ hj (isK_nat.2 ⟨j,hj,rfl⟩),if_pos rfl]
    have l1:=late hk hq hrs rfl (Int.le_refl _)
    have ew:IntKind.i64.wrap (s.1-less)=s.1-less:=by
     simp [IntKind.wrap,IntKind.bits,IntKind.signed]
     omega
    rw [ew]
    have hst:saneS ((if 0<s.1-less then s.1-less else 0),s.2)=true:=by
     rw [saneS_iff]
     refine⟨hss.1,hss.2.1,hss.2.2.1,?_,hss.2.2.2.2⟩
     dsimp only
     split<;>omega
    have hT:(if 0<s.1-less then s.1-less else 0)≤s.1:=by split<;>omega
    have l2:=late (t:=((if 0<s.1-less then s.1-less else 0),s.2)) hk hq (read_words hst) rfl hT
    have l1':(putM x.1 s.2.1 (wordsS s)).2=3∨(putM x.1 s.2.1 (wordsS s)).2=4:=l1
    generalize (putM x.1 s.2.1 (wordsS s)).2=b at l1' ⊢
    generalize (putM x.1 s.2.1 (wordsS ((if 0<s.1-less then s.1-less else 0),s.2))).2=c at l2 ⊢
    rcases l1' with rfl|rfl<;>rcases l2 with rfl|rfl<;>rfl
   ·have he':(x.2 != 0)=true:=by simp [he]
    rw [he'];rfl
theorem s7:SpecOk Try.prog 7 ⟨[DM,.ag KS,.sc KI],RB,fun x=>bif lt63 x.2.2.1 then some true else none⟩:=by
 refine fnx_ok xI_ok noloop (fun x r h=>?_) ⟨_,_,rfl,rfl⟩
 obtain⟨m,s,less,⟨⟩⟩:=x
 have h':(bif lt63 less then some true else none)=some r:=h
 cases hl:lt63 less with
 | true =>
  rw [hl] at h'
  rw [←h']
  exact(twice_is FF m s less).trans (twice_true m s less (lt63_iff.1 hl))
 | false =>
  rw [hl] at h'
  cases h'
theorem w7:∀ x:DsT [DM,.ag KS,.sc KI],wfDs [DM,.ag KS,.sc KI] x→(bif lt63 x.2.2.1 then some true else none)=some true:=by
 rintro⟨m,s,less,⟨⟩⟩ ⟨_,_,h,_⟩
 have h':(Lit.int .i64 less).wf=true:=h
 simp only [Lit.wf,Bool.and_eq_true,decide_eq_true_eq] at h'
 have h2:lt63 less=true:=lt63_iff.2 (Int.lt_add_one_of_le (show @LE.le Int _ less 9223372036854775807 from h'.2))
 show(bif lt63 less then some true else none)=some true
 rw [h2];rfl
theorem mt_ext {m n:MT} (h1:m.1=n.1) (h2:m.2.1=n.2.1) (h3:m.2.2.1=n.2.2.1) (h4:∀ k,isK k→qOf m k=qOf n k) (h5:∀ j,j<7→nOf (Ns m) j=nOf (Ns n) j) (h6:Tk m=Tk n):m=n:=by
 obtain⟨a,b,c,⟨q0,q1,q2,q3,⟨⟩⟩,⟨n0,n1,n2,n3,n4,n5,n6,⟨⟩⟩,t,⟨⟩⟩:=m
 obtain⟨a',b',c',⟨q0',q1',q2',q3',⟨⟩⟩,⟨n0',n1',n2',n3',n4',n5',n6',⟨⟩⟩,t',⟨⟩⟩:=n
 have e0:q0=q0':=h4 0 (Or.inl rfl)
 have e1:q1=q1':=h4 1 (Or.inr (Or.inl rfl))
 have e2:q2=q2':=h4 2 (Or.inr (Or.inr (Or.inl rfl)))
 have e3:q3=q3':=h4 3 (Or.inr (Or.inr (Or.inr rfl)))
 have f0:n0=n0':=h5 0 (by omega)
 have f1:n1=n1':=h5 1 (by omega)
 have f2:n2=n2':=h5 2 (by omega)
 have f3:n3=n3':=h5 3 (by omega)
 have f4:n4=n4':=h5 4 (by omega)
 have f5:n5=n5':=h5 5 (by omega)
 have f6:n6=n6':=h5 6 (by omega)
 have g1:a=a':=h1
 have g2:b=b':=h2
 have g3:c=c':=h3
 have g4:t=t':=h6
 subst e0 e1 e2 e3 f0 f1 f2 f3 f4 f5 f6 g1 g2 g3 g4
 rfl
noncomputable def stp (m:MT) (k:Int) (l:List Int):MT:=if code m k l=0 then setQ (bump m 0) (qOf m k++[(readS l).1]) k.toNat else bump m (code m k l).toNat
theorem put_stp {m:MT} {k:Int} {l:List Int} (h:nOf (Ns m) (code m k l).toNat≠1099511627776):putM m k l=(stp m k l,code m k l):=by
 unfold putM stp
 rw [if_neg h]
 split
 ·rename_i h0;rw [h0]
 ·rfl
structure Stp (m n:MT) (k:Int) (l:List Int):Prop where
  a:n.1=m.1
  b:n.2.1=m.2.1
  c:n.2.2.1=m.2.2.1
  t:Tk n=Tk m
  q:∀ i,isK i→qOf n i=if i=k∧code m k l=0 then qOf m k++[(readS l).1] else qOf m i
  n:∀ i,i<7→nOf (Ns n) i=if i=(code m k l).toNat then nOf (Ns m) i+1 else nOf (Ns m) i
theorem stp_is {m:MT} (h:Sn m) (k:Int) (l:List Int):Stp m (stp m k l) k l:=by
 have hc:=code_five (m:=m) (k:=k) (l:=l)
 unfold stp
 split
 ·rename_i h0
  obtain⟨hk,_⟩:=code_zero h0
  obtain⟨j,hj,rfl⟩:=isK_nat.1 hk
  have ej:((j:Int)).toNat=j:=by omega
  rw [ej]
  have hN:Ns (setQ (bump m 0) (qOf m j++[(readS l).1]) j)=Ns (bump m 0):=by
   match j,hj with
   | 0,_=>rfl
   | 1,_=>rfl
   | 2,_=>rfl
   | 3,_=>rfl
  have hrest:(setQ (bump m 0) (qOf m j++[(readS l).1]) j).1=m.1∧(setQ (bump m 0) (qOf m j++[(readS l).1]) j).2.1=m.2.1∧(setQ (bump m 0) (qOf m j++[(readS l).1]) j).2.2.1=m.2.2.1∧Tk (setQ (bump m 0) (qOf m j++[(readS l).1]) j)=Tk m:=by
   match j,hj with
   | 0,_=>exact⟨rfl,rfl,rfl,rfl⟩
   | 1,_=>exact⟨rfl,rfl,rfl,rfl⟩
   | 2,_=>exact⟨rfl,rfl,rfl,rfl⟩
   | 3,_=>exact⟨rfl,rfl,rfl,rfl⟩
  refine⟨hrest.1,hrest.2.1,hrest.2.2.1,hrest.2.2.2,fun i hi=>?_,fun i hi=>?_⟩
  ·rw [qOf_setQ hj hi]
   by_cases e:i=(j:Int)
   ·rw [if_pos e,if_pos ⟨e,h0⟩]
   ·rw [if_neg e,if_neg (fun hh=>e hh.1)];rfl
  ·rw [hN,bump_n h hi (by omega),h0]
   by_cases e:i=0
   ·subst e;rfl
   ·rw [if_neg e,if_neg (by simpa using e)]
 ·rename_i h0
  refine⟨rfl,rfl,rfl,rfl,fun i hi=>?_,fun i hi=>?_⟩
  ·rw [if_neg (fun hh=>h0 hh.2)];rfl
  ·rw [bump_n h hi (by omega)]
   split
   ·rename_i e;rw [e]
   ·rfl
theorem stp_sane {m:MT} (h:Sn m) {k:Int} {l:List Int} (hn:nOf (Ns m) (code m k l).toNat≠1099511627776):Sn (stp m k l):=by
 have:=put_sane h k l
 rw [put_stp hn] at this
 exact this
theorem code_congr {m n:MT} {k:Int} {l:List Int} (h2:n.2.1=m.2.1) (h3:n.2.2.1=m.2.2.1) (hq:isK k→qOf n k=qOf m k):code n k l=code m k l:=by
 unfold code
 split
 ·rename_i hk
  unfold wcode
  have hb:∀ s,behindM n s=behindM m s:=fun s=>by unfold behindM;rw [h2,h3]
  rw [hq hk,hb]
 ·rfl
theorem thn_same {q:List ST} (hq:q.length≤16) (A:Option Bool):thn (samO q q) A=A:=by
 have e1:lt62 q.length=true:=lt62_of (Nat.le_trans hq (by omega))
 have e2:sameB q q=true:=sameB_is.2 rfl
 have e:samO q q=some true:=by
  unfold samO
  rw [e1,e2]
  rfl
 rw [e]
 rfl
theorem eqN_refl (n:NT):eqN n n=true:=by
 unfold eqN
 simp only [beq_self_eq_true,Bool.and_self]
theorem same_refl {m:MT} (h:Sn m):sameO samO m m=some true:=by
 have r0:(m.2.2.2.1.1).length≤16:=(h.row 0 (Or.inl rfl)).le
 have r1:(m.2.2.2.1.2.1).length≤16:=(h.row 1 (Or.inr (Or.inl rfl))).le
 have r2:(m.2.2.2.1.2.2.1).length≤16:=(h.row 2 (Or.inr (Or.inr (Or.inl rfl)))).le
 have r3:(m.2.2.2.1.2.2.2.1).length≤16:=(h.row 3 (Or.inr (Or.inr (Or.inr rfl)))).le
 have e1:(m.1 != m.1)=false:=bne_self_eq_false _
 have e2:(m.2.1 == m.2.1)=true:=beq_self_eq_true _
 have e3:(m.2.2.2.2.2.1 != m.2.2.2.2.2.1)=false:=bne_self_eq_false _
 have e4:=eqN_refl m.2.2.2.2.1
 have e5:eqS m.2.2.1 m.2.2.1=true:=eqS_is.2 rfl
 unfold sameO
 rw [e1,e2,e5,e4,e3,thn_same r0,thn_same r1,thn_same r2,thn_same r3]
 rfl
theorem apart_body {m:MT} {s t:ST} (hs:isK s.2.1) (ht:isK t.2.1) (hne:s.2.1≠t.2.1) (hn:∀ j,j<7→nOf (Ns m) j≤549755813888):apB FF m s t=some true:=by
 have hM:=known_sane m
 have hn':∀ j,j<7→nOf (Ns (knownM m)) j≤549755813888:=by
  intro j hj
  unfold knownM
  cases hsn:saneM m with
  | true=>exact hn j hj
  | false =>
   match j,hj with
   | 0,_|1,_|2,_|3,_|4,_|5,_|6,_=>show(0:Int)≤_;omega
 unfold apB
 have p':∀ x k l,putO x k l=some ((putM (knownM x) k l).1,(putM (knownM x) k l).2,()):=fun x k l=>put_is x k l
 obtain⟨M,hMe⟩:∃ M,knownM m=M:=⟨_,rfl⟩
 rw [hMe] at hM hn'
 have go:∀ (k1 k2:Int) (l1 l2:List Int),isK k2→k1≠k2→putM M k1 l1=(stp M k1 l1,code M k1 l1)∧Sn (stp M k1 l1)∧putM (stp M k1 l1) k2 l2=(stp (stp M k1 l1) k2 l2,code M k2 l2)∧Sn (stp (stp M k1 l1) k2 l2):=by
  intro k1 k2 l1 l2 hk2 hk
  have c1:=code_five (m:=M) (k:=k1) (l:=l1)
  have c2:=code_five (m:=M) (k:=k2) (l:=l2)
  have n1:nOf (Ns M) (code M k1 l1).toNat≠1099511627776:=by have:=hn' (code M k1 l1).toNat (by omega);omega
  have st:=stp_is hM k1 l1
  have s1:=stp_sane hM n1
  have cc:code (stp M k1 l1) k2 l2=code M k2 l2:=code_congr st.b st.c fun hk2=>by
   rw [st.q k2 hk2,if_neg (fun hh=>hk hh.1.symm)]
  have n2:nOf (Ns (stp M k1 l1)) (code (stp M k1 l1) k2 l2).toNat≠1099511627776:=by
   rw [cc,st.n _ (by omega)]
   have:=hn' (code M k2 l2).toNat (by omega)
   split<;>omega
  refine⟨put_stp n1,s1,?_,stp_sane s1 n2⟩
  rw [put_stp n2,cc]
 obtain⟨a1,a2,a3,a4⟩:=go s.2.1 t.2.1 (wordsS s) (wordsS t) ht hne
 obtain⟨b1,b2,b3,b4⟩:=go t.2.1 s.2.1 (wordsS t) (wordsS s) hs (Ne.symm hne)
 simp only [p',hMe,a1,known_id a2,a3,b1,known_id b2,b3,Option.bind_some]
 have key:stp (stp M s.2.1 (wordsS s)) t.2.1 (wordsS t)=stp (stp M t.2.1 (wordsS t)) s.2.1 (wordsS s):=by
  have x1:=stp_is hM s.2.1 (wordsS s)
  have x2:=stp_is a2 t.2.1 (wordsS t)
  have y1:=stp_is hM t.2.1 (wordsS t)
  have y2:=stp_is b2 s.2.1 (wordsS s)
  have c2:code (stp M s.2.1 (wordsS s)) t.2.1 (wordsS t)=code M t.2.1 (wordsS t):=code_congr x1.b x1.c fun hk2=>by
   rw [x1.q _ hk2,if_neg (fun hh=>hne hh.1.symm)]
  have c1:code (stp M t.2.1 (wordsS t)) s.2.1 (wordsS s)=code M s.2.1 (wordsS s):=code_congr y1.b y1.c fun hk2=>by
   rw [y1.q _ hk2,if_neg (fun hh=>hne hh.1)]
  refine mt_ext (by rw [x2.a,x1.a,y2.a,y1.a]) (by rw [x2.b,x1.b,y2.b,y1.b]) (by rw [x2.c,x1.c,y2.c,y1.c]) (fun i hi=>?_) (fun j hj=>?_) (by rw [x2.t,x1.t,y2.t,y1.t])
  ·have X:qOf (stp (stp M s.2.1 (wordsS s)) t.2.1 (wordsS t)) i=if i=t.2.1∧code M t.2.1 (wordsS t)=0 then qOf M t.2.1++[(readS (wordsS t)).1] else if i=s.2.1∧code M s.2.1 (wordsS s)=0 then qOf M s.2.1++[(readS (wordsS s)).1] else qOf M i:=by
    rw [x2.q i hi,c2,x1.q i hi,x1.q _ ht,if_neg (fun hh:t.2.1=s.2.1∧_=>hne hh.1.symm)]
   have Y:qOf (stp (stp M t.2.1 (wordsS t)) s.2.1 (wordsS s)) i=if i=s.2.1∧code M s.2.1 (wordsS s)=0 then qOf M s.2.1++[(readS (wordsS s)).1] else if i=t.2.1∧code M t.2.1 (wordsS t)=0 then qOf M t.2.1++[(readS (wordsS t)).1] else qOf M i:=by
    rw [y2.q i hi,c1,y1.q i hi,y1.q _ hs,if_neg (fun hh:s.2.1=t.2.1∧_=>hne hh.1)]
   rw [X,Y]
   by_cases h1:i=s.2.1∧code M s.2.1 (wordsS s)=0
   ·rw [if_pos h1,if_pos h1,if_neg (fun hh:i=t.2.1∧_=>hne (h1.1.symm.trans hh.1))]
   ·rw [if_neg h1,if_neg h1]
  ·rw [x2.n j hj,y2.n j hj,x1.n j hj,y1.n j hj,c1,c2]
   generalize nOf (Ns M) j=n
   generalize (code M s.2.1 (wordsS s)).toNat=a
   generalize (code M t.2.1 (wordsS t)).toNat=b
   by_cases e1:j=a<;>by_cases e2:j=b<;>(repeat' split)<;>omega
 rw [key,same_refl b4]
 simp
theorem apart_loop {m:MT} {s t:ST} (hs:isK s.2.1) (ht:isK t.2.1) (hne:s.2.1≠t.2.1):∀ (l r:List Nat),l++r=[0,1,2,3,4,5,6]→(∀ j ∈ l,nOf (Ns m) j≤549755813888)→apL FF m s t r=some true:=by
 intro l r
 induction r generalizing l with
 | nil =>
  intro he hl
  refine apart_body hs ht hne fun j hj=>hl j ?_
  rw [List.append_nil] at he
  rw [he]
  simp
  omega
 | cons i r ih =>
  intro he hl
  unfold apL
  by_cases hi:nOf m.2.2.2.2.1 i > 549755813888
  ·rw [decide_eq_true hi];rfl
  ·rw [decide_eq_false hi]
   refine ih (l++[i]) (by simpa using he) fun j hj=>?_
   rcases List.mem_append.1 hj with hj|hj
   ·exact hl j hj
   ·obtain rfl:j=i:=by simpa using hj
    unfold Ns
    omega
theorem apart_true (m:MT) (s t:ST):apT FF m s t=some true:=by
 unfold apT
 cases hf:FF.Fw m with
 | false=>rfl
 | true =>
  simp only [Bool.not_true,Bool.not_false,cond_true]
  by_cases h1:s.2.1=t.2.1
  ·rw [show(s.2.1 == t.2.1)=true by simpa using h1];rfl
  ·rw [show(s.2.1 == t.2.1)=false by simpa using h1]
   by_cases h2:s.2.1<0
   ·rw [decide_eq_true h2];rfl
   ·rw [decide_eq_false h2]
    by_cases h3:s.2.1 > 3
    ·rw [decide_eq_true h3];rfl
    ·rw [decide_eq_false h3]
     by_cases h4:t.2.1<0
     ·rw [decide_eq_true h4];rfl
     ·rw [decide_eq_false h4]
      by_cases h5:t.2.1 > 3
      ·rw [decide_eq_true h5];rfl
      ·rw [decide_eq_false h5]
       exact apart_loop (by unfold isK;omega) (by unfold isK;omega) h1 [] _ rfl (by simp)
theorem s8:SpecOk Try.prog 8 ⟨[DM,.ag KS,.ag KS],RB,fun _=>some true⟩:=by
 refine fnx_ok xI_ok noloop (fun x r h=>?_) ⟨_,_,rfl,rfl⟩
 obtain⟨m,s,t,⟨⟩⟩:=x
 rw [←h]
 exact(apart_is FF m s t).trans (apart_true m s t)
end Go.Proofs.Ytkeedfiffjpnfaa.X
end
section
set_option linter.unusedVariables false
set_option linter.unusedSimpArgs false
namespace Go.Proofs.Ytkeedfiffjpnfaa.X
open Go Go.RowKit
set_option maxRecDepth 100000
set_option maxHeartbeats 4000000
set_option linter.unusedVariables false
set_option linter.unusedSimpArgs false
theorem put_id {m:MT} (h:Sn m) (k:Int) (l:List Int):putO m k l=some ((putM m k l).1,(putM m k l).2,()):=by
 have:=put_is m k l
 rw [known_id h] at this
 exact this
noncomputable def srtGo:MT→List ST→List ST→MT × List ST
  | m,put,[]=>(m,put)
  | m,put,s :: l=>srtGo (putM m s.2.1 (wordsS s)).1 (if (putM m s.2.1 (wordsS s)).2=0 then put++[s] else put) l
abbrev dead5z:List Nat:=[1,2,7,8,9,10,11,12,13,14,15,16,17,18,19,20,21,22,23,24,25,26,27,28,29,30,31,32,33,34,35,36,37,38,39,40,41,42,43,44,45,46,47,48,49,50,51,52,53,54,55,56,57,58,59,60,61,62,63,64,65,66,67,68,69,70,71,72,73,74,75,76,77,78,79,80,81,82,83,84,85,86,87,88,89,90,91,92,93,94,95,96,97]
abbrev sk5z:StSk:=⟨[.seq KS,.junk,.junk,.bool,.ptr 0 0,.nil,.int .i64,.junk,.junk,.junk,.junk,.junk,.junk,.junk,.junk,.junk,.junk,.junk,.junk,.junk,.junk,.junk,.junk,.junk,.junk,.junk,.junk,.junk,.junk,.junk,.junk,.junk,.junk,.junk,.junk,.junk,.junk,.junk,.junk,.junk,.junk,.junk,.junk,.junk,.junk,.junk,.junk,.junk,.junk,.junk,.junk,.junk,.junk,.junk,.junk,.junk,.junk,.junk,.junk,.junk,.junk,.junk,.junk,.junk,.junk,.junk,.junk,.junk,.junk,.junk,.junk,.junk,.junk,.junk,.junk,.junk,.junk,.junk,.junk,.junk,.junk,.junk,.junk,.junk,.junk,.junk,.junk,.junk,.junk,.junk,.junk,.junk,.junk,.junk,.junk,.junk,.junk,.junk],[some (.cells [.lit .i64 0,.bool,.lit .i64 0,.lit .i64 0,.lit .i64 0,.lit .i64 0,.lit .i64 0,.nil,.nil,.nil,.nil,.lit .i64 0,.lit .i64 0,.lit .i64 0,.lit .i64 0,.lit .i64 0,.lit .i64 0,.lit .i64 0,.lit .i64 0])]⟩
structure D5z where
  r0:List (ST)
  r3:Bool
  r6:Int
  b0_1:Bool
abbrev fm5z (x:D5z):St:=⟨[.seq KS x.r0,.junk,.junk,.v (.bool x.r3),.ptr 0 0,.v (.slice none 0 0),.v (.int .i64 x.r6),.junk,.junk,.junk,.junk,.junk,.junk,.junk,.junk,.junk,.junk,.junk,.junk,.junk,.junk,.junk,.junk,.junk,.junk,.junk,.junk,.junk,.junk,.junk,.junk,.junk,.junk,.junk,.junk,.junk,.junk,.junk,.junk,.junk,.junk,.junk,.junk,.junk,.junk,.junk,.junk,.junk,.junk,.junk,.junk,.junk,.junk,.junk,.junk,.junk,.junk,.junk,.junk,.junk,.junk,.junk,.junk,.junk,.junk,.junk,.junk,.junk,.junk,.junk,.junk,.junk,.junk,.junk,.junk,.junk,.junk,.junk,.junk,.junk,.junk,.junk,.junk,.junk,.junk,.junk,.junk,.junk,.junk,.junk,.junk,.junk,.junk,.junk,.junk,.junk,.junk,.junk],[some (true,.cells [.v (.int .i64 0),.v (.bool x.b0_1),.v (.int .i64 0),.v (.int .i64 0),.v (.int .i64 0),.v (.int .i64 0),.v (.int .i64 0),.v (.slice none 0 0),.v (.slice none 0 0),.v (.slice none 0 0),.v (.slice none 0 0),.v (.int .i64 0),.v (.int .i64 0),.v (.int .i64 0),.v (.int .i64 0),.v (.int .i64 0),.v (.int .i64 0),.v (.int .i64 0),.v (.int .i64 0)])]⟩
def un5z (x:sk5z.T):D5z:=match x with
  | ((r0,_,_,r3,_,_,r6,_,_,_,_,_,_,_,_,_,_,_,_,_,_,_,_,_,_,_,_,_,_,_,_,_,_,_,_,_,_,_,_,_,_,_,_,_,_,_,_,_,_,_,_,_,_,_,_,_,_,_,_,_,_,_,_,_,_,_,_,_,_,_,_,_,_,_,_,_,_,_,_,_,_,_,_,_,_,_,_,_,_,_,_,_,_,_,_,_,_,_,_),((_,b0_1,_,_,_,_,_,_,_,_,_,_,_,_,_,_,_,_,_,_),_))=>⟨r0,r3,r6,b0_1⟩
theorem un5z_ok (x:sk5z.T):sk5z.fill x=fm5z (un5z x):=by kernel_rfl
theorem round5z {R:Type} {lps:Lps R} (F:Fs) (x:D5z) (N:Option St→Option R) (E:Ex→Option St→Option R) :
  roundx (codex (mk (spI F)) lps (callN (mk (spI F)) 20) 5 (loopAt (mk (spI F)) 5 0)) (headx dead5n) (headx dead5n) (fm5z { x with b0_1:=false }) N E=rnd5n F (fun _=>fm5z { x with b0_1:=false }) ⟨x.r0,x.r3,x.r6,zeroM⟩ (fun x'=>N (some (fm5n x'))) (fun x'=>N (some (fm5o x'))) (fun e s=>E e (some s)):=by
 kernel_rfl
def Ok5 (x:D5z):Prop:=x.r6=0∧x.r0.length≤60∧x.b0_1=false
noncomputable def ok5 (x:D5z):Bool:=@decide (Ok5 x) (Classical.propDecidable _)
theorem ok5_iff {x:D5z}:ok5 x=true↔Ok5 x:=by unfold ok5;simp
noncomputable def res5 {R:Type} (G:MT→List ST→MT × List ST) (x:D5z) (K:Ex→St→Option R):Option R :=
  bif ok5 x then (bif x.r0.isEmpty then K (.exit 0) (fm5z x) else bif (G zeroM x.r0).2.isEmpty then K (.exit 0) (fm5n ⟨x.r0,x.r3,x.r0.length,(G zeroM x.r0).1⟩) else K (.exit 0) (fm5o ⟨x.r0,x.r3,x.r0.length,(G zeroM x.r0).1,(G zeroM x.r0).2⟩)) else none
section
variable {R:Type} {lps:Lps R} {K:Ex→St→Option R} {r:R} {l:List ST} {up:Bool}
noncomputable abbrev bd5 (lps:Lps R):St→(Ex→St→Option R)→Option R:=codex (mk (spI FF)) lps (callN (mk (spI FF)) 20) 5 (loopAt (mk (spI FF)) 5 0)
theorem loop5o:∀ (rest:List ST) (i:Int) (m:MT) (put:List ST),0≤i→i+rest.length=l.length→l.length≤60→l.drop i.toNat=rest→put.length≤10000-rest.length→Sn m →
  K (.exit 0) (fm5o ⟨l,up,l.length,(srtGo m put rest).1,(srtGo m put rest).2⟩)=some r→∃ n,loopx (bd5 lps) (headx dead5n) (headx dead5n) n (fm5o ⟨l,up,i,m,put⟩) K=some r:=by
 intro rest
 induction rest with
 | nil =>
  intro i m put h0 h1 h2 h3 hp hs hK
  refine⟨1,?_⟩
  rw [loopx_round,round5o]
  unfold rnd5o
  dsimp only
  have:i=l.length:=by simpa using h1
  subst this
  rw [decide_eq_false (by omega)]
  exact hK
 | cons s rest ih =>
  intro i m put h0 h1 h2 h3 hp hs hK
  simp only [List.length_cons] at h1 hp
  obtain⟨e1,z,ez,e2,e3⟩:=rd_atS (l:=l) h0 (by omega)
  have hz:z=s∧l.drop (i+1).toNat=rest:=by
   rw [e3] at h3
   simpa using h3
  obtain⟨rfl,h4⟩:=hz
  simp only [srtGo] at hK
  have hw:IntKind.i64.wrap (i+1)=i+1:=wrap_i64 (by omega) (by omega)
  obtain⟨n,hn⟩:=ih (i+1) (putM m z.2.1 (wordsS z)).1 (if (putM m z.2.1 (wordsS z)).2=0 then put++[z] else put) (by omega) (by omega) h2 h4 (by split<;>first|(simp;omega)|omega) (put_sane hs _ _) hK
  refine⟨n+1,?_⟩
  rw [loopx_round,round5o]
  unfold rnd5o
  dsimp only
  have hp2:FF.Pt m (show ST from z).2.1 (FF.Wd z)=some ((putM m z.2.1 (wordsS z)).1,(putM m z.2.1 (wordsS z)).2,()):=put_id hs _ _
  rw [decide_eq_true (by omega),e1,e2,hw]
  have hp3:putO m z.2.1 (wordsS z)=some ((putM m z.2.1 (wordsS z)).1,(putM m z.2.1 (wordsS z)).2,()):=hp2
  simp only [cond_true]
  rw [hp3]
  simp only [Option.bind_some]
  by_cases hc:(putM m z.2.1 (wordsS z)).2=0
  ·rw [if_pos hc] at hn
   have:((putM m z.2.1 (wordsS z)).2 == 0)=true:=by simpa using hc
   rw [this,room24 (by omega)]
   exact hn
  ·rw [if_neg hc] at hn
   have:((putM m z.2.1 (wordsS z)).2 == 0)=false:=by simpa using hc
   rw [this]
   exact hn
theorem srt_ne:∀ (l:List ST) (m:MT) (put:List ST),put≠[]→(srtGo m put l).2≠[]:=by
 intro l
 induction l with
 | nil=>intro m put h;exact h
 | cons s l ih =>
  intro m put h
  simp only [srtGo]
  refine ih _ _ ?_
  split
  ·simp
  ·exact h
theorem loop5n:∀ (rest:List ST) (i:Int) (m:MT),0≤i→i+rest.length=l.length→l.length≤60→l.drop i.toNat=rest→Sn m →
  (bif (srtGo m [] rest).2.isEmpty then K (.exit 0) (fm5n ⟨l,up,l.length,(srtGo m [] rest).1⟩) else K (.exit 0) (fm5o ⟨l,up,l.length,(srtGo m [] rest).1,(srtGo m [] rest).2⟩))=some r →
  ∃ n,loopx (bd5 lps) (headx dead5n) (headx dead5n) n (fm5n ⟨l,up,i,m⟩) K=some r:=by
 intro rest
 induction rest with
 | nil =>
  intro i m h0 h1 h2 h3 hs hK
  refine⟨1,?_⟩
  rw [loopx_round,round5n]
  unfold rnd5n
  dsimp only
  have:i=l.length:=by simpa using h1
  subst this
  rw [decide_eq_false (by omega)]
  exact hK
 | cons s rest ih =>
  intro i m h0 h1 h2 h3 hs hK
  simp only [List.length_cons] at h1
  obtain⟨e1,z,ez,e2,e3⟩:=rd_atS (l:=l) h0 (by omega)
  have hz:z=s∧l.drop (i+1).toNat=rest:=by
   rw [e3] at h3
   simpa using h3
  obtain⟨rfl,h4⟩:=hz
  simp only [srtGo] at hK
  have hw:IntKind.i64.wrap (i+1)=i+1:=wrap_i64 (by omega) (by omega)
  have hp3:putO m z.2.1 (wordsS z)=some ((putM m z.2.1 (wordsS z)).1,(putM m z.2.1 (wordsS z)).2,()):=put_id hs _ _
  by_cases hc:(putM m z.2.1 (wordsS z)).2=0
  ·rw [if_pos hc] at hK
   have hne:(srtGo (putM m z.2.1 (wordsS z)).1 ([]++[z]) rest).2.isEmpty=false:=by
    have:=srt_ne rest (putM m z.2.1 (wordsS z)).1 ([]++[z]) (by simp)
    simpa using this
   rw [hne] at hK
   obtain⟨n,hn⟩:=loop5o (lps:=lps) (l:=l) (up:=up) rest (i+1) (putM m z.2.1 (wordsS z)).1 ([]++[z]) (by omega) (by omega) h2 h4 (by simp;omega) (put_sane hs _ _) hK
   refine⟨n+1,?_⟩
   rw [loopx_round,round5n]
   unfold rnd5n
   dsimp only
   rw [decide_eq_true (by omega),e1,e2,hw]
   simp only [cond_true]
   rw [hp3]
   simp only [Option.bind_some]
   have:((putM m z.2.1 (wordsS z)).2 == 0)=true:=by simpa using hc
   rw [this,room24 (by omega)]
   exact hn
  ·rw [if_neg hc] at hK
   obtain⟨n,hn⟩:=ih (i+1) (putM m z.2.1 (wordsS z)).1 (by omega) (by omega) h2 h4 (put_sane hs _ _) hK
   refine⟨n+1,?_⟩
   rw [loopx_round,round5n]
   unfold rnd5n
   dsimp only
   rw [decide_eq_true (by omega),e1,e2,hw]
   simp only [cond_true]
   rw [hp3]
   simp only [Option.bind_some]
   have:((putM m z.2.1 (wordsS z)).2 == 0)=false:=by simpa using hc
   rw [this]
   exact hn
end
def Okq (F:Fs) (x:D5q):Prop:=0≤x.r11∧x.r11≤x.r10.length∧x.r10.length≤10000∧x.b0.length≤10000∧(∀ s ∈ x.r10.drop x.r11.toNat,s ∈ x.b0)∧RiseF F.Bf (prv none x.r10 x.r11) (x.r10.drop x.r11.toNat)
noncomputable def okq (F:Fs) (x:D5q):Bool:=@decide (Okq F x) (Classical.propDecidable _)
theorem okq_iff {F:Fs} {x:D5q}:okq F x=true↔Okq F x:=by unfold okq;simp
noncomputable def res5q {R:Type} (F:Fs) (fe:D5q→St) (K:Ex→St→Option R) (x:D5q):Option R:=bif okq F x then K (.exit 2) (fe { x with r11:=0 }) else none
theorem res5q_ok {R:Type} {F:Fs} (hH:∀ (put:List ST) (z:ST),put.length≤10000→z ∈ put→F.Hs put z=some true) {fe fr:D5q→St} (hfe:∀ x i,fe { x with r11:=i }=fe x) (x:D5q) (K:Ex→St→Option R) (r:R) (h:res5q F fe K x=some r) :
  ∃ n,iter (fun x N E=>rnd5q F x.b0 x.r10 x.r11 (N { x with r11:=IntKind.i64.wrap (x.r11+1) }) (E .ret (fr x)) (E (.exit 2) (fe x))) n x K=some r:=by
 refine iter_by (fun x=>x.r10.length-x.r11.toNat) (res5q F fe K) (fun x h=>?_) x h
 unfold res5q at h
 cases hok:okq F x with
 | false=>rw [hok] at h;cases h
 | true =>
  rw [hok] at h
  simp only [cond_true] at h
  obtain⟨h0,h1,h2,h2',h3,h4⟩:=okq_iff.1 hok
  rw [hfe] at h
  obtain⟨up,l,i,put,n⟩:=x
  dsimp only at *
  by_cases hi:i<l.length
  ·left
   obtain⟨e1,z,ez,e2,e3⟩:=rd_atS (l:=l) h0 hi
   rw [e3] at h3 h4
   obtain⟨g1,g2⟩:=h4
   have hw:IntKind.i64.wrap (i+1)=i+1:=wrap_i64 (by omega) (by omega)
   refine⟨⟨up,l,i+1,put,n⟩,by dsimp only;omega,?_,fun N hN=>?_⟩
   ·have:okq F ⟨up,l,i+1,put,n⟩=true:=by
     rw [okq_iff]
     refine⟨by dsimp only;omega,by dsimp only;omega,h2,h2',fun s hs=>h3 s (by simp [hs]),?_⟩
     dsimp only
     have:prv none l (i+1)=some z:=by
      unfold prv
      rw [if_neg (by omega),show i+1-1=i by omega,ez]
     rw [this];exact g2
    unfold res5q
    rw [this]
    simp only [cond_true]
    have:=hfe ⟨up,l,i,put,n⟩ 0
    dsimp only at this
    rw [this];exact h
   ·unfold rnd5q
    rw [decide_eq_true hi,hw,e1,e2]
    simp only [cond_true]
    rw [hH put z h2' (h3 z (by simp))]
    simp only [Option.bind_some,Bool.not_true,Bool.not_false,cond_true]
    by_cases hp:i > 0
    ·obtain⟨f1,y,ey,f2,f3⟩:=rd_atS (l:=l) (i:=i-1) (by omega) (by omega)
     have hw1:IntKind.i64.wrap (i-1)=i-1:=wrap_i64 (by omega) (by omega)
     have hy:F.Bf y z=true:=by
      refine g1 y ?_
      unfold prv
      rw [if_neg (by omega),ey]
     rw [decide_eq_true hp,hw1,f1,f2,hy]
     exact hN
    ·rw [decide_eq_false hp];exact hN
  ·right
   intro N
   unfold rnd5q
   rw [decide_eq_false hi]
   exact h
def Okp (x:D5p):Prop:=x.r11=0∧x.r10=[]
noncomputable def okp (x:D5p):Bool:=@decide (Okp x) (Classical.propDecidable _)
theorem okp_iff {x:D5p}:okp x=true↔Okp x:=by unfold okp;simp
noncomputable def lp5a (G:MT→List ST→MT × List ST) {R:Type}:St→(Ex→St→Option R)→Option R:=lpd dead5n sk5z un5z (res5 G)
noncomputable def lp5b (F:Fs) {R:Type} (s:St) (K:Ex→St→Option R):Option R:=match headx dead5p s with
  | some s1=>match sk5p.un s1 with
    | some x=>bif okp (un5p x) then K (.exit 2) (fe5p (un5p x)) else none
    | none=>match sk5q.un s1 with
      | some x=>res5q F fe5q K (un5q x)
      | none=>none
  | none=>none
noncomputable abbrev L5 (F:Fs) (G:MT→List ST→MT × List ST):{R:Type}→Lps R:=fun f rid=>match f,rid with
  | 5,7=>some (lp5a G)
  | 5,15=>some (lp5b F)
  | _,_=>none
noncomputable abbrev G5:MT→List ST→MT × List ST:=fun m l=>srtGo m [] l
theorem loop5A {R:Type}:LoopOk (mk (spI FF)) R (L5 FF G5 5 (firstRid (loopAt (mk (spI FF)) 5 0))) 5 0 (L5 FF G5):=by
 intro L hL s K r hs
 have e:(L5 FF G5 5 (firstRid (loopAt (mk (spI FF)) 5 0)):Option (St→(Ex→St→Option R)→Option R))=some (lp5a G5):=by kernel_rfl
 rw [e] at hL
 obtain rfl:=Option.some.inj hL
 unfold lp5a lpd at hs
 split at hs
 ·rename_i s1 h1
  split at hs
  ·rename_i x hx
   unfold res5 at hs
   cases hok:ok5 (un5z x) with
   | false=>rw [hok] at hs;cases hs
   | true =>
    rw [hok,cond_true] at hs
    obtain⟨q0,q1,q2⟩:=ok5_iff.1 hok
    suffices ∃ n,loopx (bd5 (L5 FF G5)) (headx dead5n) (headx dead5n) n (fm5z (un5z x)) K=some r by
     obtain⟨n,hn⟩:=this
     exact⟨n,dead5n,dead5n,s1,h1,by rw [StSk.un_ok hx,un5z_ok];exact hn⟩
    generalize un5z x=y at q0 q1 q2 hs ⊢
    obtain⟨l,up,i,b⟩:=y
    dsimp only at q0 q1 q2
    subst q0 q2
    dsimp only at hs
    have hz:=saneM_iff.1 zero_sane
    have rz:=fun (N:Option St→Option R) (E:Ex→Option St→Option R)=>round5z (R:=R) (lps:=L5 FF G5) FF ⟨l,up,0,false⟩ N E
    dsimp only at rz
    cases l with
    | nil =>
     refine⟨1,?_⟩
     rw [loopx_round,rz]
     exact hs
    | cons s rest =>
     simp only [List.isEmpty_cons,cond_false] at hs
     have hp3:putO zeroM s.2.1 (wordsS s)=some ((putM zeroM s.2.1 (wordsS s)).1,(putM zeroM s.2.1 (wordsS s)).2,()):=put_id hz _ _
     have e0:decide ((0:Int)<((s :: rest).length:Nat))=true:=decide_eq_true (by simp)
     obtain⟨e1,z,ez,e2,_⟩:=rd_atS (l:=s :: rest) (i:=0) (Int.le_refl _) (by simp)
     obtain rfl:s=z:=by simpa using ez
     have e3:IntKind.i64.wrap (0+1)=1:=by kernel_rfl
     simp only [G5,srtGo] at hs
     simp only [List.length_cons] at q1
     by_cases hc:(putM zeroM s.2.1 (wordsS s)).2=0
     ·rw [if_pos hc] at hs
      have hne:(srtGo (putM zeroM s.2.1 (wordsS s)).1 ([]++[s]) rest).2.isEmpty=false:=by
       have:=srt_ne rest (putM zeroM s.2.1 (wordsS s)).1 ([]++[s]) (by simp)
       simpa using this
      rw [hne] at hs
      obtain⟨n,hn⟩:=loop5o (lps:=L5 FF G5) (l:=s :: rest) (up:=up) rest 1 (putM zeroM s.2.1 (wordsS s)).1 ([]++[s]) (by omega) (by simp;omega) (by simp;omega) rfl (by simp;omega) (put_sane hz _ _) hs
      refine⟨n+1,?_⟩
      rw [loopx_round,rz]
      unfold rnd5n
      dsimp only
      rw [e0,e1,e2,e3]
      simp only [cond_true]
      rw [hp3]
      simp only [Option.bind_some]
      have:((putM zeroM s.2.1 (wordsS s)).2 == 0)=true:=by simpa using hc
      rw [this,room24 (by omega)]
      exact hn
     ·rw [if_neg hc] at hs
      obtain⟨n,hn⟩:=loop5n (lps:=L5 FF G5) (l:=s :: rest) (up:=up) rest 1 (putM zeroM s.2.1 (wordsS s)).1 (by omega) (by simp;omega) (by simp;omega) rfl (put_sane hz _ _) hs
      refine⟨n+1,?_⟩
      rw [loopx_round,rz]
      unfold rnd5n
      dsimp only
      rw [e0,e1,e2,e3]
      simp only [cond_true]
      rw [hp3]
      simp only [Option.bind_some]
      have:((putM zeroM s.2.1 (wordsS s)).2 == 0)=false:=by simpa using hc
      rw [this]
      exact hn
  ·cases hs
 ·cases hs
theorem hHs (put:List ST) (z:ST) (h1:put.length≤10000) (h2:z ∈ put):FF.Hs put z=some true:=by
 have e1:lt62 put.length=true:=lt62_of (Nat.le_trans h1 (by omega))
 have e2:hasL z put=true:=hasL_is.2 h2
 dsimp only
 rw [e1,e2]
 rfl
theorem loop5B {R:Type}:LoopOk (mk (spI FF)) R (L5 FF G5 5 (firstRid (loopAt (mk (spI FF)) 5 1))) 5 1 (L5 FF G5):=by
 intro L hL s K r hs
 have e:(L5 FF G5 5 (firstRid (loopAt (mk (spI FF)) 5 1)):Option (St→(Ex→St→Option R)→Option R))=some (lp5b FF):=by kernel_rfl
 rw [e] at hL
 obtain rfl:=Option.some.inj hL
 unfold lp5b at hs
 split at hs
 ·rename_i s1 h1
  split at hs
  ·rename_i x hx
   cases hok:okp (un5p x) with
   | false=>rw [hok] at hs;cases hs
   | true =>
    rw [hok,cond_true] at hs
    obtain⟨q0,q1⟩:=okp_iff.1 hok
    refine⟨1,dead5p,dead5x,s1,h1,?_⟩
    rw [StSk.un_ok hx,un5p_ok,loopx_round,round5p]
    unfold rnd5q
    rw [q0,q1]
    exact hs
  ·split at hs
   ·rename_i x hx
    obtain⟨n,hn⟩:=res5q_ok hHs (fe:=fe5q) (fr:=fr5q) (fun _ _=>rfl) _ _ _ hs
    refine⟨n,dead5p,dead5x,s1,h1,?_⟩
    rw [StSk.un_ok hx,un5q_ok]
    exact(loopx_iter (form:=fm5q) (fun x N E=>round5q FF x N E) n (un5q x) K).trans hn
   ·cases hs
 ·cases hs
noncomputable def end5 (F:Fs) (n:MT) (out put:List ST):Option Bool:=bif (out.length:Int) == put.length then some (F.Lf n == 0) else some false
noncomputable def fin5p (F:Fs) (m:MT):Option Bool:=(F.Al (F.Tl m 1099511627776)).bind fun y=>bif okp ⟨true,y.2.1,0,y.1⟩ then (bif (y.2.1.length:Int) == 0 then some (F.Lf y.1 == 0) else some false) else none
noncomputable def soT (F:Fs) (G:MT→List ST→MT × List ST) (l:List ST):Option Bool :=
  bif decide ((l.length:Int) > 60) then some true else bif ok5 ⟨l,true,0,false⟩ then
    (bif l.isEmpty then fin5p F zeroM else bif (G zeroM l).2.isEmpty then fin5p F (G zeroM l).1
     else (F.Al (F.Tl (G zeroM l).1 1099511627776)).bind fun y=>bif okq F ⟨true,y.2.1,0,(G zeroM l).2,y.1⟩ then end5 F y.1 y.2.1 (G zeroM l).2 else none) else none
theorem sorted_is (F:Fs) (G:MT→List ST→MT × List ST) (l:List ST):fnx (mk (spI F)) (L5 F G) 5 [.sc KQ] RB (l,())=soT F G l:=by kernel_rfl
end Go.Proofs.Ytkeedfiffjpnfaa.X
end
section
set_option linter.unusedVariables false
set_option linter.unusedSimpArgs false
namespace Go.Proofs.Ytkeedfiffjpnfaa.X
open Go Go.RowKit
set_option maxRecDepth 100000
set_option maxHeartbeats 1000000
set_option linter.unusedVariables false
set_option linter.unusedSimpArgs false
theorem put_yes {m:MT} {k:Int} {l:List Int} (h:(putM m k l).2=0):isK k∧(readS l).2.1=0∧(∀ i,isK i→qOf (putM m k l).1 i=if i=k then qOf m k++[(readS l).1] else qOf m i):=by
 obtain⟨h1,h2⟩:=put_ok h
 obtain⟨hk,h3,_⟩:=code_zero h1
 refine⟨hk,h3,fun i hi=>?_⟩
 obtain⟨j,hj,rfl⟩:=isK_nat.1 hk
 rw [h2,show((j:Int)).toNat=j by omega,qOf_setQ hj hi]
 rfl
theorem put_no {m:MT} {k:Int} {l:List Int} (h:(putM m k l).2≠0) (i:Int):qOf (putM m k l).1 i=qOf m i:=by
 unfold putM at *
 split
 ·rfl
 ·rename_i h1
  rw [if_neg h1] at h
  split
  ·rename_i h2
   rw [if_pos h2] at h
   exact absurd rfl h
  ·rfl
theorem left_add {m x:MT} {k:Int} {s:ST} (hk:isK k) (h:∀ i,isK i→qOf x i=if i=k then qOf m k++[s] else qOf m i):left x=left m+1:=by
 unfold left
 rw [h 0 (Or.inl rfl),h 1 (Or.inr (Or.inl rfl)),h 2 (Or.inr (Or.inr (Or.inl rfl))),h 3 (Or.inr (Or.inr (Or.inr rfl)))]
 rcases hk with rfl|rfl|rfl|rfl<;>simp<;>omega
theorem left_eq {m x:MT} (h:∀ i,qOf x i=qOf m i):left x=left m:=by
 unfold left
 rw [h,h,h,h]
structure Srt (m:MT) (put:List ST):Prop where
  sn:Sn m
  q:∀ k,isK k→∀ s ∈ qOf m k,s ∈ put
  l:left m=put.length
theorem Srt.step {m:MT} {put:List ST} (h:Srt m put) (s:ST):Srt (putM m s.2.1 (wordsS s)).1 (if (putM m s.2.1 (wordsS s)).2=0 then put++[s] else put):=by
 refine⟨put_sane h.sn _ _,?_,?_⟩
 ·intro k hk z hz
  by_cases hc:(putM m s.2.1 (wordsS s)).2=0
  ·rw [if_pos hc]
   obtain⟨h1,h2,h3⟩:=put_yes hc
   rw [h3 k hk] at hz
   have hs:saneS s=true:=by
    cases hss:saneS s with
    | true=>rfl
    | false=>rw [words_not hss] at h2;cases h2
   rw [read_words hs] at hz
   by_cases e:k=s.2.1
   ·rw [if_pos e] at hz
    rcases List.mem_append.1 hz with hz|hz
    ·exact List.mem_append_left _ (h.q _ h1 z hz)
    ·exact List.mem_append_right _ hz
   ·rw [if_neg e] at hz
    exact List.mem_append_left _ (h.q k hk z hz)
  ·rw [if_neg hc]
   rw [put_no hc] at hz
   exact h.q k hk z hz
 ·by_cases hc:(putM m s.2.1 (wordsS s)).2=0
  ·rw [if_pos hc]
   obtain⟨h1,h2,h3⟩:=put_yes hc
   rw [left_add h1 h3,h.l];simp
  ·rw [if_neg hc,left_eq (put_no hc),h.l]
theorem Srt.go:∀ (l:List ST) {m:MT} {put:List ST},Srt m put→Srt (srtGo m put l).1 (srtGo m put l).2
 | [],_,_,h=>h
 | s :: l,_,_,h=>Srt.go l (h.step s)
theorem srt_zero:Srt zeroM []:=by
 refine⟨saneM_iff.1 zero_sane,?_,rfl⟩
 rintro k (rfl|rfl|rfl|rfl) s hs<;>cases hs
theorem srt_len:∀ (l:List ST) (m:MT) (put:List ST),(srtGo m put l).2.length≤put.length+l.length
 | [],_,_=>by simp [srtGo]
 | s :: l,m,put=>by
  simp only [srtGo]
  refine Nat.le_trans (srt_len l _ _) ?_
  split<;>simp<;>omega
theorem till_all {m:MT} (h:Sn m):tillM m 1099511627776=mark m 1099511627776:=by
 unfold tillM
 rw [known_id h,decide_eq_true (Int.le_refl _)]
 have:=h.mr
 show mark m (if m.1<1099511627776 then 1099511627776 else m.1)=_
 congr 1
 split<;>omega
theorem rise_none:∀ {l:List ST} {p:Option ST},Rise p l→Rise none l
 | [],_,_=>trivial
 | _ :: _,_,h=>⟨fun _ hq=>(nomatch hq),h.2⟩
theorem all_till {m:MT} (h:Sn m):∃ l n,allX nextO (tillM m 1099511627776)=some (n,l,())∧(∀ s ∈ l,∃ k,isK k∧s ∈ qOf m k)∧Rise none l∧(l.length:Int)=left m∧leftM n=0:=by
 have hm:=mark_sane h h.mr.2 (Int.le_refl _)
 obtain⟨l,n,e,run⟩:=all_run hm
 obtain⟨s1,s2,s3,s4,s5,s6⟩:=run.sane hm
 have h0:left n=0:=by
  rcases s6 with hs|⟨k,a,q,ht,_,hlt⟩
  ·unfold left
   rw [hs 0 (Or.inl rfl),hs 1 (Or.inr (Or.inl rfl)),hs 2 (Or.inr (Or.inr (Or.inl rfl))),hs 3 (Or.inr (Or.inr (Or.inr rfl)))]
   rfl
  ·exfalso
   have ha:=((s1.row k (isK_nat.2 ⟨k,ht.k4,rfl⟩)).el a (by rw [ht.q];simp)).1
   have:=saneS_iff.1 ha
   have e5:n.1=1099511627776:=s5
   omega
 have em:left (mark m 1099511627776)=left m:=rfl
 refine⟨l,n,by rw [till_all h];exact e,fun s hs=>run.mem s hs,rise_none (run.rise hm).1,by omega,?_⟩
 rw [s1.left.1,h0]
theorem fin5p_true {m:MT} (h:Srt m []):fin5p FF m=some true:=by
 unfold fin5p
 obtain⟨l,n,e,hm,hr,hl,h0⟩:=all_till h.sn
 have e':FF.Al (FF.Tl m 1099511627776)=some (n,l,()):=e
 rw [e']
 have hln:l=[]:=by
  have:=h.l
  have h2:l.length=0:=by rw [this] at hl;simpa using hl
  exact List.length_eq_zero_iff.1 h2
 subst hln
 simp only [Option.bind_some]
 have:okp ⟨true,[],0,n⟩=true:=by rw [okp_iff];exact⟨rfl,rfl⟩
 rw [this,cond_true,h0]
 rfl
theorem sorted_true (l:List ST):soT FF G5 l=some true:=by
 unfold soT
 by_cases h:(l.length:Int) > 60
 ·rw [decide_eq_true h];rfl
 ·rw [decide_eq_false h,cond_false]
  have hok:ok5 ⟨l,true,0,false⟩=true:=by rw [ok5_iff];exact⟨rfl,by dsimp only;omega,rfl⟩
  rw [hok,cond_true]
  cases he:l.isEmpty with
  | true=>exact fin5p_true srt_zero
  | false =>
   rw [cond_false]
   have hs:=Srt.go l srt_zero
   have hlen:=srt_len l zeroM []
   have eG:G5 zeroM l=srtGo zeroM [] l:=rfl
   rw [eG]
   generalize srtGo zeroM [] l=p at hs hlen ⊢
   obtain⟨m,put⟩:=p
   dsimp only at hs hlen ⊢
   cases hp:put.isEmpty with
   | true =>
    have:put=[]:=List.isEmpty_iff.1 hp
    subst this
    exact fin5p_true hs
   | false =>
    rw [cond_false]
    obtain⟨o,n,e,hm,hr,hl,h0⟩:=all_till hs.sn
    have e':allX nextO (tillM m 1099511627776)=some (n,o,()):=e
    rw [e']
    simp only [Option.bind_some]
    have hol:o.length=put.length:=by have:=hs.l;omega
    have hq:okq FF ⟨true,o,0,put,n⟩=true:=by
     rw [okq_iff]
     refine⟨Int.le_refl _,by dsimp only;omega,by dsimp only;simp at hlen;omega,by dsimp only;simp at hlen;omega,fun s hs'=>?_,?_⟩
     ·obtain⟨k,hk,hk2⟩:=hm s (by simpa using hs')
      exact hs.q k hk s hk2
     ·exact riseF_of hr
    rw [hq,cond_true]
    unfold end5
    have:((o.length:Int) == put.length)=true:=by rw [beq_iff_eq];omega
    rw [this,cond_true]
    dsimp only
    rw [h0]
    rfl
theorem s5:SpecOk Try.prog 5 ⟨[.sc KQ],RB,fun _=>some true⟩:=by
 refine fnl_ok xI_ok (lps:=L5 FF G5) 2 (by kernel_rfl) (fun k hk=>?_) (fun x r h=>?_) ⟨_,_,rfl,rfl⟩
 ·rcases(by omega:k=0∨k=1) with rfl|rfl
  ·exact loop5A
  ·exact loop5B
 ·obtain⟨l,⟨⟩⟩:=x
  rw [←h]
  exact(sorted_is FF G5 l).trans (sorted_true l)
end Go.Proofs.Ytkeedfiffjpnfaa.X
end
