/- Lemmas that the row leans on; laid by a program of this project out of longer texts: what the row does not name is left out. -/
import Derived.Test.YtiejinbjfficnaaXNum
import Derived.Test.YtiejinbjfficnaaXWide
import Derived.Test.YtiejinbjfficnaaXB7
namespace Go.Proofs.Ytiejinbjfficnaa.Root
open Go Go.RowKit Go.Proofs.Ytiejinbjfficnaa.B Go.Proofs.Ytiejinbjfficnaa.Num Go.Proofs.Ytiejinbjfficnaa.Wide Go.Proofs.YtiejinbjfficnaaW.PrintWords Go.Proofs.YtiejinbjfficnaaW.PrintLast Go.Proofs.YtiejinbjfficnaaW.PrintMore
theorem sq_le {a b:Int} (h0:0≤a) (h:a≤b):a*a≤b*b:=Int.mul_le_mul h h h0 (by omega)
theorem sq_lt {a b v:Int} (hb:0≤b) (h1:a*a≤v) (h2:v<b*b):a<b:=by
 by_cases h:a<b
 ·exact h
 ·exfalso
  have:=sq_le hb (show b≤a by omega)
  omega
theorem sq_succ (r:Int):(r+1)*(r+1)=r*r+2*r+1:=by grind
def Rt (v r:Int):Prop:=0≤r∧r≤288230376151711744∧r*r≤v∧(r=288230376151711744∨v<(r+1)*(r+1))
theorem rt_one {v r s:Int} (h:Rt v r) (g:Rt v s):r=s:=by
 obtain⟨h0,h1,h2,h3⟩:=h
 obtain⟨g0,g1,g2,g3⟩:=g
 have a1:r≤s:=by
  rcases g3 with g3|g3
  ·omega
  ·have:=sq_lt (by omega) h2 g3
   omega
 have a2:s≤r:=by
  rcases h3 with h3|h3
  ·omega
  ·have:=sq_lt (by omega) g2 h3
   omega
 omega
theorem l0_ok {v:Int} (hv:Fits v) (j:Nat):∀ (k:Nat) (p q:Int),j+8≤k→0≤p→p≤q→q≤288230376151711744→q-p<2^j→p*p≤v→(q=288230376151711744∨v<(q+1)*(q+1)) →
  ∃ r,Rt v r∧∀ bad,root_Wide.l0 k bad p q (hi v) (lo v)=some (r,if r<288230376151711744 then bad else decide (83076749736557242632948693570945025≤v)):=by
 have last:∀ (k:Nat) (p:Int),8≤k→0≤p→p≤288230376151711744→p*p≤v→(p=288230376151711744∨v<(p+1)*(p+1)) →
   ∃ r,Rt v r∧∀ bad,root_Wide.l0 k bad p p (hi v) (lo v)=some (r,if r<288230376151711744 then bad else decide (83076749736557242632948693570945025≤v)):=by
  intro k p hk h0 h1 h2 h3
  obtain⟨k,rfl⟩:∃ m,k=m+4:=⟨k-4,by omega⟩
  refine⟨p,⟨h0,h1,h2,h3⟩,fun bad=>?_⟩
  simp only [root_Wide.l0]
  refine no_of (by omega) ?_
  by_cases c:p<288230376151711744
  ·exact yes_of c (by rw [if_pos c])
  ·obtain rfl:p=288230376151711744:=by omega
   refine no_of c ?_
   have e1:cl 288230376151711744=288230376151711744:=by decide
   have f1:Fits (288230376151711744*288230376151711744):=by decide
   have f2:Fits 576460752303423489:=by decide
   have f3:Fits (288230376151711744*288230376151711744+576460752303423489):=by decide
   refine bind_of (wmul_is _ _) ?_
   rw [e1]
   refine bind_of (of_is _) (bind_of (add_p f1 f2) ?_)
   rw [addv_ok f3]
   refine bind_of (cmp_p f3 hv k) ?_
   rw [if_neg c]
   congr 2
   rw [Bool.eq_iff_iff]
   simp only [decide_eq_true_eq]
   unfold cmpv
   (repeat' split)<;>omega
 induction j with
 | zero =>
  intro k p q hk h0 h1 h2 h3 h4 h5
  obtain rfl:p=q:=by simp at h3;omega
  exact last k p (by omega) h0 h2 h4 h5
 | succ j ih =>
  intro k p q hk h0 h1 h2 h3 h4 h5
  by_cases c:p<q
  ·obtain⟨k,rfl⟩:∃ m,k=m+4:=⟨k-4,by omega⟩
   have hp:(2:Int)^(j+1)=2*2^j:=by rw [Int.pow_succ,Int.mul_comm]
   have e1:wrap64 (q-wrap64 (Int.tdiv (wrap64 (q-p)) 2))=q-(q-p)/2:=by
    rw [w64 (n:=q-p) (by omega) (by omega),Int.tdiv_eq_ediv_of_nonneg (by omega),w64 (n:=(q-p)/2) (by omega) (by omega),w64 (by omega) (by omega)]
   have e2:wrap64 (q-(q-p)/2-1)=q-(q-p)/2-1:=w64 (by omega) (by omega)
   generalize hm:q-(q-p)/2=m at *
   have em:cl m=m:=by unfold cl;(repeat' split)<;>omega
   have fm:=fits_mul m m
   rw [em] at fm
   by_cases g:m*m≤v
   ·obtain⟨r,hr,hbad⟩:=ih (k+3) m q (by omega) (by omega) (by omega) h2 (by omega) g h5
    refine⟨r,hr,fun bad=>?_⟩
    rw [root_Wide.l0]
    simp only [e1,e2]
    refine yes_of c (bind_of (wmul_is m m) ?_)
    rw [em]
    refine bind_of (cmp_p fm hv k) (yes_of ?_ (hbad bad))
    unfold cmpv
    (repeat' split)<;>omega
   ·obtain⟨r,hr,hbad⟩:=ih (k+3) p (m-1) (by omega) (by omega) (by omega) (by omega) (by omega) h4 (Or.inr (by rw [show m-1+1=m by omega];omega))
    refine⟨r,hr,fun bad=>?_⟩
    rw [root_Wide.l0]
    simp only [e1,e2]
    refine yes_of c (bind_of (wmul_is m m) ?_)
    rw [em]
    refine bind_of (cmp_p fm hv k) (no_of ?_ (hbad bad))
    unfold cmpv
    (repeat' split)<;>omega
  ·obtain rfl:p=q:=by omega
   exact last k p (by omega) h0 h2 h4 h5
theorem rt_is {v:Int} (hv:Fits v) (h0:0≤v):∃ r,Rt v r:=by
 obtain⟨r,hr,_⟩:=l0_ok hv 59 80 0 288230376151711744 (by omega) (by omega) (by omega) (by omega) (by decide) (by omega) (Or.inl rfl)
 exact⟨r,hr⟩
open Classical in
noncomputable def rt (v:Int):Int:=if h:∃ r,Rt v r then Classical.choose h else 0
theorem rt_rt {v:Int} (hv:Fits v) (h0:0≤v):Rt v (rt v):=by
 unfold rt
 rw [dif_pos (rt_is hv h0)]
 exact Classical.choose_spec (rt_is hv h0)
theorem rt_eq {v r:Int} (h:Rt v r):rt v=r:=by
 have hx:∃ s,Rt v s:=⟨r,h⟩
 unfold rt
 rw [dif_pos hx]
 exact rt_one (Classical.choose_spec hx) h
noncomputable def rbad (v:Int) (bad:Bool):Bool:=if rt v<288230376151711744 then bad else decide (83076749736557242632948693570945025≤v)
theorem root_is (k:Nat) (a b:Int):root_Wide.f (k+80) a b=some (if kn a b<0 then (0,true) else (rt (kn a b),rbad (kn a b) (!decide (Sane a b)))):=by
 have hv:=kn_fits a b
 have go:0≤kn a b→∀ bad,root_Wide.l0 (k+79) bad 0 288230376151711744 (hi (kn a b)) (lo (kn a b))=some (rt (kn a b),rbad (kn a b) bad):=by
  intro h0 bad
  obtain⟨r,hr,hbad⟩:=l0_ok hv 59 (k+79) 0 288230376151711744 (by omega) (by omega) (by omega) (by omega) (by decide) (by omega) (Or.inl rfl)
  rw [hbad,rbad,rt_eq hr]
 have hb:=hi_lo (kn a b)
 have hl:=lo_bd (kn a b)
 unfold root_Wide.f
 refine bind_of (sane_is a b) ?_
 by_cases s:Sane a b
 ·rw [decide_eq_true s]
  refine yes_of rfl ?_
  simp only [root_Wide.j0]
  by_cases c:a<0
  ·refine yes_of c ?_
   rw [if_pos]
   rw [kn_of s]
   unfold Sane at s
   omega
  ·refine no_of c ?_
   have c0:0≤kn a b:=by
    rw [kn_of s]
    unfold Sane at s
    omega
   have:=go c0 (!true)
   rw [(pair_of s).1,(pair_of s).2] at this
   rw [if_neg (by omega)]
   exact this
 ·rw [decide_eq_false s]
  refine no_of (by simp) ?_
  simp only [root_Wide.j0]
  refine no_of (by omega) ?_
  have e:=kn_bad s
  have:=go (by omega) (!false)
  rw [e] at this
  rw [e,if_neg (by omega)]
  exact this
theorem root_p (k:Nat) {v:Int} (hv:Fits v) (h0:0≤v):root_Wide.f (k+80) (hi v) (lo v)=some (rt v,rbad v false):=by
 rw [root_is,kn_pair hv,if_neg (by omega),decide_eq_true (sane_pair hv)]
 rfl
theorem rt_small {v:Int} (hv:Fits v) (h0:0≤v) (h:v<83076749736557242056487941267521536):rt v<288230376151711744:=by
 have:=rt_rt hv h0
 exact sq_lt (by omega) this.2.2.1 (by omega)
theorem rbad_ok {v:Int} (h:v<83076749736557242632948693570945025):rbad v false=false:=by
 unfold rbad
 split
 ·rfl
 ·simpa using h
theorem sq_bd (a:Int):0≤cl a*cl a∧cl a*cl a≤83076749736557242056487941267521536:=by
 have h:=(mul_fits a a).2
 refine⟨?_,h⟩
 by_cases c:0≤cl a
 ·exact Int.mul_nonneg c c
 ·have:=Int.mul_nonneg (show 0≤- cl a by omega) (show 0≤- cl a by omega)
  rw [Int.neg_mul_neg] at this
  exact this
theorem hyp_fits (a b:Int):Fits (cl a*cl a+cl b*cl b):=by
 have h1:=sq_bd a
 have h2:=sq_bd b
 unfold Fits
 omega
end Go.Proofs.Ytiejinbjfficnaa.Root
