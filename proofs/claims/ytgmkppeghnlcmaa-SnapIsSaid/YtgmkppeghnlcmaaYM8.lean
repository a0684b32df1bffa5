/- Lemmas of the rows, laid by a program. -/
import Derived.Test.YtgmkppeghnlcmaaYM6
import Derived.Test.YtgmkppeghnlcmaaYM7
section
set_option linter.unusedVariables false
set_option linter.unusedSimpArgs false
namespace Go.Proofs.Ytgmkppeghnlcmaa.X
open Go Go.Proofs Go.RowKit
set_option maxRecDepth 100000
def pcell (x:Option (Nat × Nat)):SV:=match x with|none=>.v (.pointer none)|some (b,o)=>.ptr b o
def it29:List SV→Mem→Option (List SV × List Nat)
  | [.ptr b 0],m=>match m[b]? with
    | some (some (_,.cells [.own r]))=>match m[r]? with
      | some (some (_,.row _ K xs))=>match castL (a:=Kd.ptr) xs with
        | some ys=>some (List.map pcell ys,[b,r])
        | none=>none
      | _=>none
    | _=>none
  | _,_=>none
theorem t64:getI tis 64=⟨1,24,[.slice none 0 0],false,.slice 50⟩:=by kernel_rfl
theorem t50:getI tis 50=⟨1,8,[.pointer none],false,.ptr⟩:=by kernel_rfl
def o29_0_0:Oper:={ dst:=some 5,op:=Go.Op.load 64 (Go.Operand.tmp 1),type:=64,pos := "snap.go:31", after:=#[],guard:=none }
def o29_0_1:Oper:={ dst:=some 6,op:=Go.Op.call { callee:=Go.Callee.builtin Go.Builtin.len,args:=#[Go.Operand.tmp 5],argTypes:=#[64] },type:=3,pos := "snap.go:31", after:=#[{ on:=0,ground:=Go.Ground.data }],guard:=none }
def o29_0_2:Oper:={ dst:=some 7,op:=Go.Op.move (Go.Operand.const (Go.Value.int Go.IntKind.i64 0)),type:=3,pos := "snap.go:31", after:=#[],guard:=none }
def o29_0:Array Oper:=#[o29_0_0,o29_0_1,o29_0_2]
def o29_1_0:Oper:={ dst:=some 8,op:=Go.Op.binOp Go.BinOp.lss 3 (Go.Operand.tmp 7) (Go.Operand.tmp 6) 3,type:=0,pos := "snap.go:31", after:=#[],guard:=none }
def o29_1:Array Oper:=#[o29_1_0]
def o29_2_0:Oper:={ dst:=some 9,op:=Go.Op.indexAddr 64 (Go.Operand.tmp 5) (Go.Operand.tmp 7),type:=0,pos := "snap.go:31", after:=#[],guard:=none }
def o29_2_1:Oper:={ dst:=some 10,op:=Go.Op.load 50 (Go.Operand.tmp 9),type:=50,pos := "snap.go:31", after:=#[{ on:=0,ground:=Go.Ground.data }],guard:=none }
def o29_2_2:Oper:={ dst:=some 4,op:=Go.Op.assign (Go.Operand.tmp 10),type:=50,pos := "snap.go:31", after:=#[{ on:=1,ground:=Go.Ground.data },{ on:=0,ground:=Go.Ground.phase },{ on:=1,ground:=Go.Ground.phase }],guard:=none }
def o29_2:Array Oper:=#[o29_2_0,o29_2_1,o29_2_2]
def o29_3_0:Oper:={ dst:=some 11,op:=Go.Op.move (Go.Operand.tmp 0),type:=66,pos := "snap.go:32", after:=#[],guard:=none }
def o29_3_1:Oper:={ dst:=some 12,op:=Go.Op.move (Go.Operand.tmp 4),type:=50,pos := "snap.go:32", after:=#[],guard:=none }
def o29_3_2:Oper:={ dst:=some 13,op:=Go.Op.call { callee:=Go.Callee.value (Go.Operand.tmp 11),args:=#[Go.Operand.tmp 12],argTypes:=#[50] },type:=4,pos := "snap.go:32", after:=#[{ on:=0,ground:=Go.Ground.data },{ on:=1,ground:=Go.Ground.data }],guard:=none }
def o29_3_3:Oper:={ dst:=some 14,op:=Go.Op.unOp Go.UnOp.not 4 (Go.Operand.tmp 13),type:=4,pos := "snap.go:32", after:=#[{ on:=2,ground:=Go.Ground.data }],guard:=none }
def o29_3:Array Oper:=#[o29_3_0,o29_3_1,o29_3_2,o29_3_3]
def o29_4_0:Oper:={ dst:=some 15,op:=Go.Op.binOp Go.BinOp.add 3 (Go.Operand.tmp 7) (Go.Operand.const (Go.Value.int Go.IntKind.i64 1)) 3,type:=3,pos := "snap.go:31", after:=#[],guard:=none }
def o29_4_1:Oper:={ dst:=some 7,op:=Go.Op.move (Go.Operand.tmp 15),type:=3,pos := "snap.go:31", after:=#[{ on:=0,ground:=Go.Ground.data }],guard:=none }
def o29_4:Array Oper:=#[o29_4_0,o29_4_1]
theorem b29:Try.f29.body=some ((Go.Code.region 0 o29_0 false).seq (Go.Code.block 0 ((Go.Code.region 1 o29_1 false).seq ((Go.Code.cond (Go.Operand.tmp 8) Go.Code.skip (Go.Code.exit 0)).seq ((Go.Code.block 1 ((Go.Code.region 2 o29_2 false).seq ((Go.Code.region 3 o29_3 false).seq (Go.Code.cond (Go.Operand.tmp 14) Go.Code.ret Go.Code.skip)))).seq (Go.Code.region 4 o29_4 false)))).loop)):=by kernel_rfl
theorem g29:Try.prog.funcs[29]? = some Try.f29:=by kernel_rfl
theorem wrap_i64 {i:Int} (h:0≤i) (h2:i<9223372036854775808):IntKind.i64.wrap i=i:=by
 simp [IntKind.wrap,IntKind.bits,IntKind.signed]
 omega
section
variable {m1:Mem} {b r:Nat} {E:TypeId} {xs:List (Option (Nat × Nat))} (l:Nat)
def S29 (b r n:Nat) (l k:Nat):List SV:=[.fn (.yield l) [] [],.ptr b 0,.junk,.junk,.junk,.own r,.v (.int .i64 n),.v (.int .i64 k),.junk,.junk,.junk,.junk,.junk,.junk,.junk,.junk]
def T29 (b r n:Nat) (l:Nat):List SV:=S29 b r n l 0
def S29a (b r n:Nat) (l k:Nat):List SV:=[.fn (.yield l) [] [],.ptr b 0,.junk,.junk,.junk,.own r,.v (.int .i64 n),.v (.int .i64 k),.v (.bool (decide (k<n))),.junk,.junk,.junk,.junk,.junk,.junk,.junk]
def S29b (b r n:Nat) (xs:List (Option (Nat × Nat))) (l k:Nat):List SV:=[.fn (.yield l) [] [],.ptr b 0,.junk,.junk,pcell (rd .ptr xs k),.own r,.v (.int .i64 n),.v (.int .i64 k),.v (.bool (decide (k<n))),.eptr r 1 k 0,pcell (rd .ptr xs k),.junk,.junk,.junk,.junk,.junk]
def S29c (b r n:Nat) (xs:List (Option (Nat × Nat))) (l k:Nat):List SV:=[.fn (.yield l) [] [],.ptr b 0,.junk,.junk,pcell (rd .ptr xs k),.own r,.v (.int .i64 n),.v (.int .i64 k),.v (.bool (decide (k<n))),.eptr r 1 k 0,pcell (rd .ptr xs k),.fn (.yield l) [] [],pcell (rd .ptr xs k),.junk,.junk,.junk]
def S29d (b r n:Nat) (xs:List (Option (Nat × Nat))) (l k:Nat) (t:Bool):List SV:=[.fn (.yield l) [] [],.ptr b 0,.junk,.junk,pcell (rd .ptr xs k),.own r,.v (.int .i64 n),.v (.int .i64 k),.v (.bool (decide (k<n))),.eptr r 1 k 0,pcell (rd .ptr xs k),.fn (.yield l) [] [],pcell (rd .ptr xs k),.v (.bool t),.v (.bool (!t)),.junk]
def S29e (b r n:Nat) (xs:List (Option (Nat × Nat))) (l k:Nat):List SV:=[.fn (.yield l) [] [],.ptr b 0,.junk,.junk,pcell (rd .ptr xs k),.own r,.v (.int .i64 n),.v (.int .i64 (k+1:Nat)),.v (.bool (decide (k<n))),.eptr r 1 k 0,pcell (rd .ptr xs k),.fn (.yield l) [] [],pcell (rd .ptr xs k),.v (.bool true),.v (.bool false),.v (.int .i64 (k+1:Nat))]
variable (sp:FuncId→Option Spec)
theorem run29_0 (hb:m1[b]? = some (some (false,.cells [.own r]))) (hr:m1[r]? = some (some (false,.row E .ptr xs))) :
  opsx (R:=St) (mk sp) (callN (mk sp) 20) 29 o29_0 o29_0.toList (startx Try.f29 (.fn (.yield l) [] [] :: [.ptr b 0]) m1) some=some ⟨T29 b r xs.length l,m1⟩:=by
 have e:(startx Try.f29 (.fn (.yield l) [] [] :: [.ptr b 0]) m1)=⟨[.fn (.yield l) [] [],.ptr b 0,.junk,.junk,.junk,.junk,.junk,.junk,.junk,.junk,.junk,.junk,.junk,.junk,.junk,.junk],m1⟩:=by kernel_rfl
 rw [e]
 have e64:(mk sp).T=tis:=rfl
 simp [o29_0,o29_0_0,o29_0_1,o29_0_2,opsx,opg,opx,e64,ev,getT,putT,ldx,aggB,okT,t64,t50,ldCells,szOf,hb,bix,lenx,hr,T29,S29]
 rfl
theorem run29_1 {n k:Nat}:opsx (R:=St) (mk sp) (callN (mk sp) 20) 29 o29_1 o29_1.toList ⟨S29 b r n l k,m1⟩ some=some ⟨S29a b r n l k,m1⟩:=by
 simp [o29_1,o29_1_0,opsx,opg,opx,ev,getT,putT,S29,S29a,binx,isInt,intx]
theorem run29_2 (hr:m1[r]? = some (some (false,.row E .ptr xs))) {k:Nat} (hk:k<xs.length):opsx (R:=St) (mk sp) (callN (mk sp) 20) 29 o29_2 o29_2.toList ⟨S29a b r xs.length l k,m1⟩ some=some ⟨S29b b r xs.length xs l k,m1⟩:=by
 have e64:(mk sp).T=tis:=rfl
 have e1:inB (k:Int) xs.length=true:=by simp [inB,hk]
 have e2:Kd.cells .ptr (rd .ptr xs k)=[pcell (rd .ptr xs k)]:=by
  generalize rd .ptr xs k=z
  cases z<;>rfl
 simp [o29_2,o29_2_0,o29_2_1,o29_2_2,opsx,opg,opx,e64,ev,getT,putT,S29a,S29b,iaddr,t64,okT,t50,hr,Kd.size,szOf,ldx,aggB,ldCells,e2]
 erw [e1]
 rfl
theorem run29_3 {n k:Nat}:opsx (R:=St) (mk sp) (callN (mk sp) 20) 29 o29_3 [o29_3_0,o29_3_1] ⟨S29b b r n xs l k,m1⟩ some=some ⟨S29c b r n xs l k,m1⟩:=by
 simp [o29_3_0,o29_3_1,opsx,opg,opx,ev,getT,putT,S29b,S29c]
theorem run29_4 {n k:Nat} (t:Bool):opsx (R:=St) (mk sp) (callN (mk sp) 20) 29 o29_3 [o29_3_3] ⟨putT (S29c b r n xs l k) o29_3_2.dst (.v (.bool t)),m1⟩ some=some ⟨S29d b r n xs l k t,m1⟩:=by
 simp [o29_3_3,o29_3_2,opsx,opg,opx,ev,getT,putT,S29c,S29d,unx]
theorem run29_5 {n k:Nat} (hk:k<n) (hn:n≤9223372036854775807):opsx (R:=St) (mk sp) (callN (mk sp) 20) 29 o29_4 o29_4.toList ⟨S29d b r n xs l k true,m1⟩ some=some ⟨S29e b r n xs l k,m1⟩:=by
 have e:IntKind.wrap .i64 ((k:Int)+1)=((k+1:Nat):Int):=by
  rw [wrap_i64 (by omega) (by omega)];simp
 simp [o29_4,o29_4_0,o29_4_1,opsx,opg,opx,ev,getT,putT,S29d,S29e,binx,isInt,intx,e]
end
theorem reps_of {C:RC} {α:Type} {f:α→SV}:∀ {l:List α},(∀ (x:α) (i:Nat),l[i]? = some x→∃ V,SRep C (f x) V)→∃ Vs,SReps C (l.map f) Vs
 | [],_=>⟨[],by simp only [List.map_nil,SReps]⟩
 | x :: l,h=>by
  obtain⟨V,hV⟩:=h x 0 rfl
  obtain⟨Vs,hVs⟩:=reps_of (l:=l) fun y i hi=>h y (i+1) (by simpa using hi)
  exact⟨V :: Vs,by simp only [List.map_cons,SReps];exact⟨V,Vs,rfl,hV,hVs⟩⟩
theorem dead29 {b r n:Nat} {xs:List (Option (Nat × Nat))} (l k:Nat):clean [4,8,9,10,11,12,13,14,15] (S29e b r n xs l k)=S29 b r n l (k+1):=rfl
theorem dead29' {b r n:Nat} (l:Nat):clean [4,8,9,10,11,12,13,14,15] (T29 b r n l)=S29 b r n l 0:=rfl
theorem it29_core {B:Nat} {F:Nat→Prop} {G:Nat→Option Value} {m:Mem} {w:World} {vals:List Value} {b r:Nat} {f1 f2:Bool} {E:TypeId} {xs:List (Option (Nat × Nat))} (hm:MInv B F G m w) (hb:m[b]? = some (some (f1,.cells [.own r]))) (hr:m[r]? = some (some (f2,.row E .ptr xs)))
  (hcaps:SReps (rc F G m w) [.ptr b 0] vals):∃ Ys,SReps (rc F G m w) (xs.map pcell) Ys∧Gives Try.prog 29 vals.toArray Ys (Kpt w.heap.size (wrOf G (lockM [b,r] m))) w:=by
 have hX:XOk Try.prog (mk fun _=>none):=mk_ok fun _ _ h=>nomatch h
 have hb1:(onlyM [b,r] m)[b]? = some (some (false,.cells [.own r])):=(mask_of hb).2.1 (by simp) (by simp)
 have hr1:(onlyM [b,r] m)[r]? = some (some (false,.row E .ptr xs)):=(mask_of hr).2.1 (by simp) (by simp)
 obtain⟨V,hV,Us,ho,hl,hk⟩:=hm.blk _ _ _ hr
 have hn:xs.length≤9223372036854775807:=by
  rcases ho.2 with ⟨_,h0⟩|⟨g,cap,cur,_,_,_,h1,h2,_⟩
  ·have h0':xs.length=0:=h0
   omega
  ·have:maxLen=9223372036854775807:=rfl
   have h1':xs.length≤cap:=h1
   omega
 have hYs:∃ Ys,SReps (rc F G m w) (List.map pcell xs) Ys:=reps_of (fun x i hi=>by
  have hlt:i<Us.length:=by
   have h1:Us.length=xs.length:=hl
   rw [h1];exact(List.getElem?_eq_some_iff.1 hi).1
  have hk2:=cells_rep (hk i x Us[i] hi (List.getElem?_eq_getElem hlt))
  have hc:Kd.cells .ptr x=[pcell x]:=by cases x<;>rfl
  rw [hc] at hk2
  simp only [SReps] at hk2
  obtain⟨v,_,_,h,_⟩:=hk2
  exact⟨v,h⟩)
 obtain⟨Ys,hYs⟩:=hYs
 refine⟨Ys,hYs,iter_gives (dead:=[4,8,9,10,11,12,13,14,15]) hX g29 b29 rfl (oA:=[o29_3_0,o29_3_1]) (oY:=o29_3_2) (oN:=o29_3_3) rfl rfl rfl rfl rfl rfl rfl rfl rfl rfl hm [b,r] hcaps (List.map pcell xs) hYs
  (T29 b r xs.length) (S29 b r xs.length) (S29a b r xs.length) (S29b b r xs.length xs) (S29c b r xs.length xs) (S29e b r xs.length xs) (S29d b r xs.length xs) (fun _ _=>onlyM [b,r] m) (dead29') (dead29)
  (fun l=>run29_0 l _ hb1 hr1) (fun l k hk=>⟨run29_1 l _,?_⟩) (fun l k y hy=>?_)⟩
 ·show SV.v (.bool (decide (k<xs.length)))=_
  rw [List.length_map]
 ·have hlt:k<xs.length:=by
   have:=(List.getElem?_eq_some_iff.1 hy).1
   simpa using this
  have hyx:y=pcell (rd .ptr xs k):=by
   rw [List.getElem?_map,List.getElem?_eq_getElem hlt] at hy
   have h2:rd .ptr xs k=xs[k]:=by
    show(xs[k]?).getD _=_
    rw [List.getElem?_eq_getElem hlt];rfl
   rw [h2]
   exact(Option.some.inj hy).symm
  refine⟨run29_2 l _ hr1 hlt,run29_3 l _,rfl,hyx.symm,?_,?_,?_,?_,?_,fun t=>⟨run29_4 l _ t,rfl⟩,run29_5 l _ hlt hn⟩
  ·rw [hyx]
   generalize rd .ptr xs k=z
   cases z<;>rfl
  ·show lights (S29c b r xs.length xs l k)=true
   unfold S29c
   generalize rd .ptr xs k=z
   cases z<;>rfl
  ·obtain⟨Vb,hVb,_⟩:=hm.blk _ _ _ hb
   have hgx:∀ c,c ∈ names (pcell (rd .ptr xs k))→∃ V,G c=some V:=by
    have hlu:k<Us.length:=by
     have h1:Us.length=xs.length:=hl
     omega
    have hkr:=hk k xs[k] Us[k] (List.getElem?_eq_getElem hlt) (List.getElem?_eq_getElem hlu)
    have h2:rd .ptr xs k=xs[k]:=by
     show(xs[k]?).getD _=_
     rw [List.getElem?_eq_getElem hlt];rfl
    rw [h2]
    generalize xs[k]=z at hkr
    cases z with
    | none=>intro c hc;simp [pcell,names] at hc
    | some z =>
     intro c hc
     obtain⟨g,hg,_⟩:=hkr
     simp only [pcell,names,List.mem_singleton] at hc
     subst hc
     exact⟨_,hg⟩
   intro c hc
   simp only [S29c,namesL,names,List.mem_append,List.mem_singleton,List.not_mem_nil,List.append_nil,List.nil_append,false_or,or_false] at hc
   rcases hc with rfl|hc|rfl|rfl|hc|hc
   ·exact⟨_,hVb⟩
   ·exact hgx c hc
   ·exact⟨_,hV⟩
   ·exact⟨_,hV⟩
   ·exact hgx c hc
   ·exact hgx c hc
  ·show 13<16
   decide
  ·show 14<16
   decide
theorem it29_ok:IterOk Try.prog 29 it29 where
 enters:=⟨Try.f29,_,g29,by kernel_rfl,b29⟩
 gives:=by
  intro B F G m w caps vals yl hm hcaps hit
  unfold it29 at hit
  split at hit
  ·rename_i b
   split at hit
   ·rename_i f1 r hb
    split at hit
    ·rename_i f2 E K xs0 hr
     split at hit
     ·rename_i xs hxs
      obtain rfl:=Option.some.inj hit
      obtain⟨e,he⟩:=castL_some hxs
      subst e
      simp only at he
      subst he
      exact it29_core hm hb hr hcaps
     ·cases hit
    ·cases hit
   ·cases hit
  ·cases hit
end Go.Proofs.Ytgmkppeghnlcmaa.X
end
section
set_option linter.unusedVariables false
set_option linter.unusedSimpArgs false
namespace Go.Proofs.Ytgmkppeghnlcmaa.X
open Go Go.Proofs Go.RowKit
set_option maxRecDepth 100000
theorem t3:getI tis 3=⟨1,8,[.int .i64 0],false,.int .i64⟩:=by kernel_rfl
theorem t95:getI tis 95=⟨1,8,[.nilFunc],false,.other⟩:=by kernel_rfl
theorem t58:getI tis 58=⟨1,8,[.nilFunc],false,.other⟩:=by kernel_rfl
def o80_0_0:Oper:={ dst:=some 5,op:=Go.Op.load 3 (Go.Operand.tmp 1),type:=3,pos := "sum.go:20", after:=#[],guard:=none }
def o80_0_1:Oper:={ dst:=some 6,op:=Go.Op.move (Go.Operand.const (Go.Value.int Go.IntKind.i64 0)),type:=3,pos := "sum.go:20", after:=#[],guard:=none }
def o80_0:Array Oper:=#[o80_0_0,o80_0_1]
def o80_1_0:Oper:={ dst:=some 7,op:=Go.Op.binOp Go.BinOp.lss 3 (Go.Operand.tmp 6) (Go.Operand.tmp 5) 3,type:=4,pos := "sum.go:20", after:=#[],guard:=none }
def o80_1:Array Oper:=#[o80_1_0]
def o80_2_0:Oper:={ dst:=some 8,op:=Go.Op.move (Go.Operand.tmp 6),type:=3,pos := "sum.go:20", after:=#[],guard:=none }
def o80_2_1:Oper:={ dst:=some 4,op:=Go.Op.assign (Go.Operand.tmp 8),type:=3,pos := "sum.go:20", after:=#[{ on:=0,ground:=Go.Ground.data },{ on:=0,ground:=Go.Ground.phase }],guard:=none }
def o80_2:Array Oper:=#[o80_2_0,o80_2_1]
def o80_3_0:Oper:={ dst:=some 9,op:=Go.Op.move (Go.Operand.tmp 0),type:=90,pos := "sum.go:21", after:=#[],guard:=none }
def o80_3_1:Oper:={ dst:=some 10,op:=Go.Op.load 95 (Go.Operand.tmp 2),type:=95,pos := "sum.go:21", after:=#[],guard:=none }
def o80_3_2:Oper:={ dst:=some 11,op:=Go.Op.move (Go.Operand.tmp 4),type:=3,pos := "sum.go:21", after:=#[],guard:=none }
def o80_3_3:Oper:={ dst:=some 12,op:=Go.Op.call { callee:=Go.Callee.value (Go.Operand.tmp 10),args:=#[Go.Operand.tmp 11],argTypes:=#[3] },type:=80,pos := "sum.go:21", after:=#[{ on:=1,ground:=Go.Ground.data },{ on:=2,ground:=Go.Ground.data }],guard:=none }
def o80_3_4:Oper:={ dst:=some 13,op:=Go.Op.call { callee:=Go.Callee.value (Go.Operand.tmp 9),args:=#[Go.Operand.tmp 12],argTypes:=#[80] },type:=4,pos := "sum.go:21", after:=#[{ on:=0,ground:=Go.Ground.data },{ on:=3,ground:=Go.Ground.data },{ on:=3,ground:=Go.Ground.chain }],guard:=none }
def o80_3_5:Oper:={ dst:=some 14,op:=Go.Op.unOp Go.UnOp.not 4 (Go.Operand.tmp 13),type:=4,pos := "sum.go:21", after:=#[{ on:=4,ground:=Go.Ground.data }],guard:=none }
def o80_3:Array Oper:=#[o80_3_0,o80_3_1,o80_3_2,o80_3_3,o80_3_4,o80_3_5]
def o80_4_0:Oper:={ dst:=some 15,op:=Go.Op.binOp Go.BinOp.add 3 (Go.Operand.tmp 6) (Go.Operand.const (Go.Value.int Go.IntKind.i64 1)) 3,type:=3,pos := "sum.go:20", after:=#[],guard:=none }
def o80_4_1:Oper:={ dst:=some 6,op:=Go.Op.move (Go.Operand.tmp 15),type:=3,pos := "sum.go:20", after:=#[{ on:=0,ground:=Go.Ground.data }],guard:=none }
def o80_4:Array Oper:=#[o80_4_0,o80_4_1]
theorem b80:Try.f80.body=some ((Go.Code.region 0 o80_0 false).seq (Go.Code.block 0 ((Go.Code.region 1 o80_1 false).seq ((Go.Code.cond (Go.Operand.tmp 7) Go.Code.skip (Go.Code.exit 0)).seq ((Go.Code.block 1 ((Go.Code.region 2 o80_2 false).seq ((Go.Code.region 3 o80_3 false).seq (Go.Code.cond (Go.Operand.tmp 14) Go.Code.ret Go.Code.skip)))).seq (Go.Code.region 4 o80_4 false)))).loop)):=by kernel_rfl
theorem g80:Try.prog.funcs[80]? = some Try.f80:=by kernel_rfl
section
variable {m1:Mem} {bn bf:Nat} (l:Nat) {f:Nat} {fc:List SV} {y:Nat→SV} {X:Ctx}
def S80 (bn bf n l k:Nat):List SV:=[.fn (.yield l) [] [],.ptr bn 0,.ptr bf 0,.junk,.junk,.v (.int .i64 n),.v (.int .i64 k),.junk,.junk,.junk,.junk,.junk,.junk,.junk,.junk,.junk]
def T80 (bn bf n l:Nat):List SV:=S80 bn bf n l 0
def S80a (bn bf n l k:Nat):List SV:=[.fn (.yield l) [] [],.ptr bn 0,.ptr bf 0,.junk,.junk,.v (.int .i64 n),.v (.int .i64 k),.v (.bool (decide (k<n))),.junk,.junk,.junk,.junk,.junk,.junk,.junk,.junk]
def S80b (bn bf n l k:Nat):List SV:=[.fn (.yield l) [] [],.ptr bn 0,.ptr bf 0,.junk,.v (.int .i64 k),.v (.int .i64 n),.v (.int .i64 k),.v (.bool (decide (k<n))),.v (.int .i64 k),.junk,.junk,.junk,.junk,.junk,.junk,.junk]
def S80c (bn bf n f:Nat) (fc:List SV) (y:Nat→SV) (l k:Nat):List SV:=[.fn (.yield l) [] [],.ptr bn 0,.ptr bf 0,.junk,.v (.int .i64 k),.v (.int .i64 n),.v (.int .i64 k),.v (.bool (decide (k<n))),.v (.int .i64 k),.fn (.yield l) [] [],.fn (.func f) [] fc,.v (.int .i64 k),y k,.junk,.junk,.junk]
def S80d (bn bf n f:Nat) (fc:List SV) (y:Nat→SV) (l k:Nat) (t:Bool):List SV:=[.fn (.yield l) [] [],.ptr bn 0,.ptr bf 0,.junk,.v (.int .i64 k),.v (.int .i64 n),.v (.int .i64 k),.v (.bool (decide (k<n))),.v (.int .i64 k),.fn (.yield l) [] [],.fn (.func f) [] fc,.v (.int .i64 k),y k,.v (.bool t),.v (.bool (!t)),.junk]
def S80e (bn bf n f:Nat) (fc:List SV) (y:Nat→SV) (l k:Nat):List SV:=[.fn (.yield l) [] [],.ptr bn 0,.ptr bf 0,.junk,.v (.int .i64 k),.v (.int .i64 n),.v (.int .i64 (k+1:Nat)),.v (.bool (decide (k<n))),.v (.int .i64 k),.fn (.yield l) [] [],.fn (.func f) [] fc,.v (.int .i64 k),y k,.v (.bool true),.v (.bool false),.v (.int .i64 (k+1:Nat))]
theorem run80_0 (hT:X.T=tis) {n:Nat} (hb:m1[bn]? = some (some (false,.cells [.v (.int .i64 n)]))) :
  opsx (R:=St) X (callN X 20) 80 o80_0 o80_0.toList (startx Try.f80 (.fn (.yield l) [] [] :: [.ptr bn 0,.ptr bf 0]) m1) some=some ⟨T80 bn bf n l,m1⟩:=by
 have e:(startx Try.f80 (.fn (.yield l) [] [] :: [.ptr bn 0,.ptr bf 0]) m1)=⟨[.fn (.yield l) [] [],.ptr bn 0,.ptr bf 0,.junk,.junk,.junk,.junk,.junk,.junk,.junk,.junk,.junk,.junk,.junk,.junk,.junk],m1⟩:=by kernel_rfl
 rw [e]
 simp [o80_0,o80_0_0,o80_0_1,opsx,opg,opx,hT,ev,getT,putT,ldx,aggB,okT,t3,ldCells,szOf,hb,T80,S80]
theorem run80_1 {n k:Nat}:opsx (R:=St) X (callN X 20) 80 o80_1 o80_1.toList ⟨S80 bn bf n l k,m1⟩ some=some ⟨S80a bn bf n l k,m1⟩:=by
 simp [o80_1,o80_1_0,opsx,opg,opx,ev,getT,putT,S80,S80a,binx,isInt,intx]
theorem run80_2 {n k:Nat}:opsx (R:=St) X (callN X 20) 80 o80_2 o80_2.toList ⟨S80a bn bf n l k,m1⟩ some=some ⟨S80b bn bf n l k,m1⟩:=by
 simp [o80_2,o80_2_0,o80_2_1,opsx,opg,opx,ev,getT,putT,S80a,S80b]
theorem run80_3 {M:Nat→Mem} (hT:X.T=tis) (hf:m1[bf]? = some (some (false,.cells [.fn (.func f) [] fc]))) {n k:Nat} (hc:∀ K:SV→Mem→Option St,callx X (callN X 20) f (.v (.int .i64 k) :: fc) none m1 K=K (y k) (M k)) :
  opsx (R:=St) X (callN X 20) 80 o80_3 [o80_3_0,o80_3_1,o80_3_2,o80_3_3] ⟨S80b bn bf n l k,m1⟩ some=some ⟨S80c bn bf n f fc y l k,M k⟩:=by
 simp [o80_3_0,o80_3_1,o80_3_2,o80_3_3,opsx,opg,opx,hT,ev,getT,putT,ldx,aggB,okT,t95,ldCells,szOf,hf,S80b,S80c,hc]
theorem run80_4 {n k:Nat} (t:Bool):opsx (R:=St) X (callN X 20) 80 o80_3 [o80_3_5] ⟨putT (S80c bn bf n f fc y l k) o80_3_4.dst (.v (.bool t)),m1⟩ some=some ⟨S80d bn bf n f fc y l k t,m1⟩:=by
 simp [o80_3_5,o80_3_4,opsx,opg,opx,ev,getT,putT,S80c,S80d,unx]
theorem run80_5 {n k:Nat} (hk:k<n) (hn:n≤9223372036854775807):opsx (R:=St) X (callN X 20) 80 o80_4 o80_4.toList ⟨S80d bn bf n f fc y l k true,m1⟩ some=some ⟨S80e bn bf n f fc y l k,m1⟩:=by
 have e:IntKind.wrap .i64 ((k:Int)+1)=((k+1:Nat):Int):=by
  rw [wrap_i64 (by omega) (by omega)];simp
 simp [o80_4,o80_4_0,o80_4_1,opsx,opg,opx,ev,getT,putT,S80d,S80e,binx,isInt,intx,e]
end
theorem dead80 {bn bf n f:Nat} {fc:List SV} {y:Nat→SV} (l k:Nat):clean [4,7,8,9,10,11,12,13,14,15] (S80e bn bf n f fc y l k)=S80 bn bf n l (k+1):=rfl
theorem dead80' {bn bf n:Nat} (l:Nat):clean [4,7,8,9,10,11,12,13,14,15] (T80 bn bf n l)=S80 bn bf n l 0:=rfl
theorem it80_core {B:Nat} {F:Nat→Prop} {G:Nat→Option Value} {m:Mem} {w:World} {vals:List Value} {X:Ctx} (hX:XOk Try.prog X) (hT:X.T=tis) {bn bf f n:Nat} {fc:List SV} {y:Nat→SV} {M:Nat→Mem} {L:List Nat} (hm:MInv B F G m w) (hn:n≤9223372036854775807)
  (hb:(onlyM L m)[bn]? = some (some (false,.cells [.v (.int .i64 n)]))) (hf:(onlyM L m)[bf]? = some (some (false,.cells [.fn (.func f) [] fc]))) (hfc:lights fc=true) (hfn:∀ b,b ∈ namesL fc→∃ V,G b=some V)
  (hc:∀ k,k<n→light (y k)=true∧fixd (y k)=true∧(∀ b,b ∈ names (y k)→∃ V,G b=some V)∧∀ K:SV→Mem→Option St,callx X (callN X 20) f (.v (.int .i64 k) :: fc) none (onlyM L m) K=K (y k) (M k))
  (hcaps:SReps (rc F G m w) [.ptr bn 0,.ptr bf 0] vals) {Ys:List Value} (hYs:SReps (rc F G m w) ((List.range n).map y) Ys):Gives Try.prog 80 vals.toArray Ys (Kpt w.heap.size (wrOf G (lockM L m))) w:=by
 refine iter_gives (dead:=[4,7,8,9,10,11,12,13,14,15]) hX g80 b80 rfl (oA:=[o80_3_0,o80_3_1,o80_3_2,o80_3_3]) (oY:=o80_3_4) (oN:=o80_3_5) rfl rfl rfl rfl rfl rfl rfl rfl rfl rfl hm L hcaps ((List.range n).map y) hYs
  (T80 bn bf n) (S80 bn bf n) (S80a bn bf n) (S80b bn bf n) (S80c bn bf n f fc y) (S80e bn bf n f fc y) (S80d bn bf n f fc y) (fun _ k=>M k) (dead80') (dead80)
  (fun l=>run80_0 l hT hb) (fun l k hk=>⟨run80_1 l,?_⟩) (fun l k z hz=>?_)
 ·show SV.v (.bool (decide (k<n)))=_
  rw [List.length_map,List.length_range]
 ·have hlt:k<n:=by
   have:=(List.getElem?_eq_some_iff.1 hz).1
   simpa using this
  have hyx:z=y k:=by
   rw [List.getElem?_map,List.getElem?_range hlt] at hz
   exact(Option.some.inj hz).symm
  obtain⟨h1,h2,h4,h3⟩:=hc k hlt
  refine⟨run80_2 l,run80_3 l hT hf h3,rfl,hyx.symm,by rw [hyx];exact h2,?_,?_,?_,?_,fun t=>⟨run80_4 l t,rfl⟩,run80_5 l hlt hn⟩
  ·simp [S80c,lights,light,hfc,h1]
  ·have live:∀ {c:Nat} {kk:Blk},(onlyM L m)[c]? = some (some (false,kk))→∃ V,G c=some V:=fun h=>by
    obtain⟨_,_,r1,h1⟩:=only_of h
    obtain⟨V,hV,_⟩:=hm.blk _ _ _ h1
    exact⟨V,hV⟩
   intro c hc
   simp only [S80c,namesL,names,List.mem_append,List.mem_singleton,List.not_mem_nil,List.append_nil,List.nil_append,false_or,or_false] at hc
   rcases hc with rfl|rfl|hc|hc
   ·exact live hb
   ·exact live hf
   ·exact hfn c hc
   ·exact h4 c hc
  ·show 12+1<16
   decide
  ·show 14<16
   decide
def o81_0_0:Oper:={ dst:=some 5,op:=Go.Op.load 3 (Go.Operand.tmp 1),type:=3,pos := "sum.go:20", after:=#[],guard:=none }
def o81_0_1:Oper:={ dst:=some 6,op:=Go.Op.move (Go.Operand.const (Go.Value.int Go.IntKind.i64 0)),type:=3,pos := "sum.go:20", after:=#[],guard:=none }
def o81_0:Array Oper:=#[o81_0_0,o81_0_1]
def o81_1_0:Oper:={ dst:=some 7,op:=Go.Op.binOp Go.BinOp.lss 3 (Go.Operand.tmp 6) (Go.Operand.tmp 5) 3,type:=4,pos := "sum.go:20", after:=#[],guard:=none }
def o81_1:Array Oper:=#[o81_1_0]
def o81_2_0:Oper:={ dst:=some 8,op:=Go.Op.move (Go.Operand.tmp 6),type:=3,pos := "sum.go:20", after:=#[],guard:=none }
def o81_2_1:Oper:={ dst:=some 4,op:=Go.Op.assign (Go.Operand.tmp 8),type:=3,pos := "sum.go:20", after:=#[{ on:=0,ground:=Go.Ground.data },{ on:=0,ground:=Go.Ground.phase }],guard:=none }
def o81_2:Array Oper:=#[o81_2_0,o81_2_1]
def o81_3_0:Oper:={ dst:=some 9,op:=Go.Op.move (Go.Operand.tmp 0),type:=107,pos := "sum.go:21", after:=#[],guard:=none }
def o81_3_1:Oper:={ dst:=some 10,op:=Go.Op.load 58 (Go.Operand.tmp 2),type:=58,pos := "sum.go:21", after:=#[],guard:=none }
def o81_3_2:Oper:={ dst:=some 11,op:=Go.Op.move (Go.Operand.tmp 4),type:=3,pos := "sum.go:21", after:=#[],guard:=none }
def o81_3_3:Oper:={ dst:=some 12,op:=Go.Op.call { callee:=Go.Callee.value (Go.Operand.tmp 10),args:=#[Go.Operand.tmp 11],argTypes:=#[3] },type:=4,pos := "sum.go:21", after:=#[{ on:=1,ground:=Go.Ground.data },{ on:=2,ground:=Go.Ground.data }],guard:=none }
def o81_3_4:Oper:={ dst:=some 13,op:=Go.Op.call { callee:=Go.Callee.value (Go.Operand.tmp 9),args:=#[Go.Operand.tmp 12],argTypes:=#[4] },type:=4,pos := "sum.go:21", after:=#[{ on:=0,ground:=Go.Ground.data },{ on:=3,ground:=Go.Ground.data },{ on:=3,ground:=Go.Ground.chain }],guard:=none }
def o81_3_5:Oper:={ dst:=some 14,op:=Go.Op.unOp Go.UnOp.not 4 (Go.Operand.tmp 13),type:=4,pos := "sum.go:21", after:=#[{ on:=4,ground:=Go.Ground.data }],guard:=none }
def o81_3:Array Oper:=#[o81_3_0,o81_3_1,o81_3_2,o81_3_3,o81_3_4,o81_3_5]
def o81_4_0:Oper:={ dst:=some 15,op:=Go.Op.binOp Go.BinOp.add 3 (Go.Operand.tmp 6) (Go.Operand.const (Go.Value.int Go.IntKind.i64 1)) 3,type:=3,pos := "sum.go:20", after:=#[],guard:=none }
def o81_4_1:Oper:={ dst:=some 6,op:=Go.Op.move (Go.Operand.tmp 15),type:=3,pos := "sum.go:20", after:=#[{ on:=0,ground:=Go.Ground.data }],guard:=none }
def o81_4:Array Oper:=#[o81_4_0,o81_4_1]
theorem b81:Try.f81.body=some ((Go.Code.region 0 o81_0 false).seq (Go.Code.block 0 ((Go.Code.region 1 o81_1 false).seq ((Go.Code.cond (Go.Operand.tmp 7) Go.Code.skip (Go.Code.exit 0)).seq ((Go.Code.block 1 ((Go.Code.region 2 o81_2 false).seq ((Go.Code.region 3 o81_3 false).seq (Go.Code.cond (Go.Operand.tmp 14) Go.Code.ret Go.Code.skip)))).seq (Go.Code.region 4 o81_4 false)))).loop)):=by kernel_rfl
theorem g81:Try.prog.funcs[81]? = some Try.f81:=by kernel_rfl
section
variable {m1:Mem} {bn bf:Nat} (l:Nat) {f:Nat} {fc:List SV} {y:Nat→SV} {X:Ctx}
def S81 (bn bf n l k:Nat):List SV:=[.fn (.yield l) [] [],.ptr bn 0,.ptr bf 0,.junk,.junk,.v (.int .i64 n),.v (.int .i64 k),.junk,.junk,.junk,.junk,.junk,.junk,.junk,.junk,.junk]
def T81 (bn bf n l:Nat):List SV:=S81 bn bf n l 0
def S81a (bn bf n l k:Nat):List SV:=[.fn (.yield l) [] [],.ptr bn 0,.ptr bf 0,.junk,.junk,.v (.int .i64 n),.v (.int .i64 k),.v (.bool (decide (k<n))),.junk,.junk,.junk,.junk,.junk,.junk,.junk,.junk]
def S81b (bn bf n l k:Nat):List SV:=[.fn (.yield l) [] [],.ptr bn 0,.ptr bf 0,.junk,.v (.int .i64 k),.v (.int .i64 n),.v (.int .i64 k),.v (.bool (decide (k<n))),.v (.int .i64 k),.junk,.junk,.junk,.junk,.junk,.junk,.junk]
def S81c (bn bf n f:Nat) (fc:List SV) (y:Nat→SV) (l k:Nat):List SV:=[.fn (.yield l) [] [],.ptr bn 0,.ptr bf 0,.junk,.v (.int .i64 k),.v (.int .i64 n),.v (.int .i64 k),.v (.bool (decide (k<n))),.v (.int .i64 k),.fn (.yield l) [] [],.fn (.func f) [] fc,.v (.int .i64 k),y k,.junk,.junk,.junk]
def S81d (bn bf n f:Nat) (fc:List SV) (y:Nat→SV) (l k:Nat) (t:Bool):List SV:=[.fn (.yield l) [] [],.ptr bn 0,.ptr bf 0,.junk,.v (.int .i64 k),.v (.int .i64 n),.v (.int .i64 k),.v (.bool (decide (k<n))),.v (.int .i64 k),.fn (.yield l) [] [],.fn (.func f) [] fc,.v (.int .i64 k),y k,.v (.bool t),.v (.bool (!t)),.junk]
def S81e (bn bf n f:Nat) (fc:List SV) (y:Nat→SV) (l k:Nat):List SV:=[.fn (.yield l) [] [],.ptr bn 0,.ptr bf 0,.junk,.v (.int .i64 k),.v (.int .i64 n),.v (.int .i64 (k+1:Nat)),.v (.bool (decide (k<n))),.v (.int .i64 k),.fn (.yield l) [] [],.fn (.func f) [] fc,.v (.int .i64 k),y k,.v (.bool true),.v (.bool false),.v (.int .i64 (k+1:Nat))]
theorem run81_0 (hT:X.T=tis) {n:Nat} (hb:m1[bn]? = some (some (false,.cells [.v (.int .i64 n)]))) :
  opsx (R:=St) X (callN X 20) 81 o81_0 o81_0.toList (startx Try.f81 (.fn (.yield l) [] [] :: [.ptr bn 0,.ptr bf 0]) m1) some=some ⟨T81 bn bf n l,m1⟩:=by
 have e:(startx Try.f81 (.fn (.yield l) [] [] :: [.ptr bn 0,.ptr bf 0]) m1)=⟨[.fn (.yield l) [] [],.ptr bn 0,.ptr bf 0,.junk,.junk,.junk,.junk,.junk,.junk,.junk,.junk,.junk,.junk,.junk,.junk,.junk],m1⟩:=by kernel_rfl
 rw [e]
 simp [o81_0,o81_0_0,o81_0_1,opsx,opg,opx,hT,ev,getT,putT,ldx,aggB,okT,t3,ldCells,szOf,hb,T81,S81]
theorem run81_1 {n k:Nat}:opsx (R:=St) X (callN X 20) 81 o81_1 o81_1.toList ⟨S81 bn bf n l k,m1⟩ some=some ⟨S81a bn bf n l k,m1⟩:=by
 simp [o81_1,o81_1_0,opsx,opg,opx,ev,getT,putT,S81,S81a,binx,isInt,intx]
theorem run81_2 {n k:Nat}:opsx (R:=St) X (callN X 20) 81 o81_2 o81_2.toList ⟨S81a bn bf n l k,m1⟩ some=some ⟨S81b bn bf n l k,m1⟩:=by
 simp [o81_2,o81_2_0,o81_2_1,opsx,opg,opx,ev,getT,putT,S81a,S81b]
theorem run81_3 {M:Nat→Mem} (hT:X.T=tis) (hf:m1[bf]? = some (some (false,.cells [.fn (.func f) [] fc]))) {n k:Nat} (hc:∀ K:SV→Mem→Option St,callx X (callN X 20) f (.v (.int .i64 k) :: fc) none m1 K=K (y k) (M k)) :
  opsx (R:=St) X (callN X 20) 81 o81_3 [o81_3_0,o81_3_1,o81_3_2,o81_3_3] ⟨S81b bn bf n l k,m1⟩ some=some ⟨S81c bn bf n f fc y l k,M k⟩:=by
 simp [o81_3_0,o81_3_1,o81_3_2,o81_3_3,opsx,opg,opx,hT,ev,getT,putT,ldx,aggB,okT,t58,ldCells,szOf,hf,S81b,S81c,hc]
theorem run81_4 {n k:Nat} (t:Bool):opsx (R:=St) X (callN X 20) 81 o81_3 [o81_3_5] ⟨putT (S81c bn bf n f fc y l k) o81_3_4.dst (.v (.bool t)),m1⟩ some=some ⟨S81d bn bf n f fc y l k t,m1⟩:=by
 simp [o81_3_5,o81_3_4,opsx,opg,opx,ev,getT,putT,S81c,S81d,unx]
theorem run81_5 {n k:Nat} (hk:k<n) (hn:n≤9223372036854775807):opsx (R:=St) X (callN X 20) 81 o81_4 o81_4.toList ⟨S81d bn bf n f fc y l k true,m1⟩ some=some ⟨S81e bn bf n f fc y l k,m1⟩:=by
 have e:IntKind.wrap .i64 ((k:Int)+1)=((k+1:Nat):Int):=by
  rw [wrap_i64 (by omega) (by omega)];simp
 simp [o81_4,o81_4_0,o81_4_1,opsx,opg,opx,ev,getT,putT,S81d,S81e,binx,isInt,intx,e]
end
theorem dead81 {bn bf n f:Nat} {fc:List SV} {y:Nat→SV} (l k:Nat):clean [4,7,8,9,10,11,12,13,14,15] (S81e bn bf n f fc y l k)=S81 bn bf n l (k+1):=rfl
theorem dead81' {bn bf n:Nat} (l:Nat):clean [4,7,8,9,10,11,12,13,14,15] (T81 bn bf n l)=S81 bn bf n l 0:=rfl
theorem it81_core {B:Nat} {F:Nat→Prop} {G:Nat→Option Value} {m:Mem} {w:World} {vals:List Value} {X:Ctx} (hX:XOk Try.prog X) (hT:X.T=tis) {bn bf f n:Nat} {fc:List SV} {y:Nat→SV} {M:Nat→Mem} {L:List Nat} (hm:MInv B F G m w) (hn:n≤9223372036854775807)
  (hb:(onlyM L m)[bn]? = some (some (false,.cells [.v (.int .i64 n)]))) (hf:(onlyM L m)[bf]? = some (some (false,.cells [.fn (.func f) [] fc]))) (hfc:lights fc=true) (hfn:∀ b,b ∈ namesL fc→∃ V,G b=some V)
  (hc:∀ k,k<n→light (y k)=true∧fixd (y k)=true∧(∀ b,b ∈ names (y k)→∃ V,G b=some V)∧∀ K:SV→Mem→Option St,callx X (callN X 20) f (.v (.int .i64 k) :: fc) none (onlyM L m) K=K (y k) (M k))
  (hcaps:SReps (rc F G m w) [.ptr bn 0,.ptr bf 0] vals) {Ys:List Value} (hYs:SReps (rc F G m w) ((List.range n).map y) Ys):Gives Try.prog 81 vals.toArray Ys (Kpt w.heap.size (wrOf G (lockM L m))) w:=by
 refine iter_gives (dead:=[4,7,8,9,10,11,12,13,14,15]) hX g81 b81 rfl (oA:=[o81_3_0,o81_3_1,o81_3_2,o81_3_3]) (oY:=o81_3_4) (oN:=o81_3_5) rfl rfl rfl rfl rfl rfl rfl rfl rfl rfl hm L hcaps ((List.range n).map y) hYs
  (T81 bn bf n) (S81 bn bf n) (S81a bn bf n) (S81b bn bf n) (S81c bn bf n f fc y) (S81e bn bf n f fc y) (S81d bn bf n f fc y) (fun _ k=>M k) (dead81') (dead81)
  (fun l=>run81_0 l hT hb) (fun l k hk=>⟨run81_1 l,?_⟩) (fun l k z hz=>?_)
 ·show SV.v (.bool (decide (k<n)))=_
  rw [List.length_map,List.length_range]
 ·have hlt:k<n:=by
   have:=(List.getElem?_eq_some_iff.1 hz).1
   simpa using this
  have hyx:z=y k:=by
   rw [List.getElem?_map,List.getElem?_range hlt] at hz
   exact(Option.some.inj hz).symm
  obtain⟨h1,h2,h4,h3⟩:=hc k hlt
  refine⟨run81_2 l,run81_3 l hT hf h3,rfl,hyx.symm,by rw [hyx];exact h2,?_,?_,?_,?_,fun t=>⟨run81_4 l t,rfl⟩,run81_5 l hlt hn⟩
  ·simp [S81c,lights,light,hfc,h1]
  ·have live:∀ {c:Nat} {kk:Blk},(onlyM L m)[c]? = some (some (false,kk))→∃ V,G c=some V:=fun h=>by
    obtain⟨_,_,r1,h1⟩:=only_of h
    obtain⟨V,hV,_⟩:=hm.blk _ _ _ h1
    exact⟨V,hV⟩
   intro c hc
   simp only [S81c,namesL,names,List.mem_append,List.mem_singleton,List.not_mem_nil,List.append_nil,List.nil_append,false_or,or_false] at hc
   rcases hc with rfl|rfl|hc|hc
   ·exact live hb
   ·exact live hf
   ·exact hfn c hc
   ·exact h4 c hc
  ·show 12+1<16
   decide
  ·show 14<16
   decide
end Go.Proofs.Ytgmkppeghnlcmaa.X
end
section
set_option linter.unusedVariables false
set_option linter.unusedSimpArgs false
namespace Go.Proofs.Ytgmkppeghnlcmaa.X
open Go Go.Proofs Go.RowKit
set_option maxRecDepth 100000
noncomputable def cloList (X:Ctx) (f:FuncId) (fc:List SV) (m:Mem):Nat→Nat→Option (List SV)
  | _,0=>some []
  | k,n+1=>match callx X (callN X 20) f (.v (.int .i64 k) :: fc) none m (fun v _=>some v) with
    | some v=>match cloList X f fc m (k+1) n with
      | some ys=>some (v :: ys)
      | none=>none
    | none=>none
theorem cloList_ok {X:Ctx} {f:FuncId} {fc:List SV} {m:Mem}:∀ {n k:Nat} {ys:List SV},cloList X f fc m k n=some ys→ys.length=n∧∀ i,i<n→callx X (callN X 20) f (.v (.int .i64 (k+i:Nat)) :: fc) none m (fun v _=>some v)=ys[i]?:=by
 intro n
 induction n with
 | zero=>intro k ys h;simp only [cloList,Option.some.injEq] at h;subst h;exact⟨rfl,fun i hi=>absurd hi (by omega)⟩
 | succ n ih =>
  intro k ys h
  simp only [cloList] at h
  split at h
  ·rename_i v hv
   split at h
   ·rename_i ys' hys
    obtain rfl:=Option.some.inj h
    obtain⟨h1,h2⟩:=ih hys
    refine⟨by simp [h1],fun i hi=>?_⟩
    cases i with
    | zero=>simpa using hv
    | succ i =>
     have:=h2 i (by omega)
     rw [show k+1+i=k+(i+1) by omega] at this
     simpa using this
   ·cases h
  ·cases h
def liveB (m:Mem) (l:List Nat):Bool:=l.all fun b=>match m[b]? with|some (some _)=>true|_=>false
def bare (s:SV):Bool:=fixd s && light s && (names s).isEmpty
mutual
theorem bare_ex {C:RC}:∀ {s:SV},fixd s=true→names s=[]→∃ V,SRep C s V
  | .v x,_,_=>⟨x,by simp only [SRep]⟩
  | .agg l,h,hn=>by
    obtain⟨vs,hv⟩:=bares_ex (C:=C) (l:=l) (by simpa only [fixd] using h) (by simpa only [names] using hn)
    exact⟨.agg vs.toArray,by simp only [SRep];exact⟨_,rfl,hv⟩⟩
  | .tup l,h,_=>by simp only [fixd] at h;cases h
  | .ptr b o,_,hn=>by simp only [names] at hn;cases hn
  | .seq K xs,h,_=>by simp only [fixd] at h;cases h
  | .own b,_,hn=>by simp only [names] at hn;cases hn
  | .arr b o n c,_,hn=>by simp only [names] at hn;cases hn
  | .rptr K x o,h,_=>by simp only [fixd] at h;cases h
  | .eptr b sz i o,h,_=>by simp only [fixd] at h;cases h
  | .emp,h,_=>by simp only [fixd] at h;cases h
  | .fn f x y,h,_=>by simp only [fixd] at h;cases h
  | .junk,h,_=>by simp only [fixd] at h;cases h
theorem bares_ex {C:RC}:∀ {l:List SV},fixds l=true→namesL l=[]→∃ vs,SReps C l vs
  | [],_,_=>⟨[],by simp only [SReps]⟩
  | s :: l,h,hn=>by
    simp only [fixds,Bool.and_eq_true] at h
    simp only [namesL,List.append_eq_nil_iff] at hn
    obtain⟨v,hv⟩:=bare_ex (C:=C) h.1 hn.1
    obtain⟨vs,hvs⟩:=bares_ex (C:=C) h.2 hn.2
    exact⟨v :: vs,by simp only [SReps];exact⟨v,vs,rfl,hv,hvs⟩⟩
end
theorem bareL_ex {C:RC}:∀ {l:List SV},l.all bare=true→∃ vs,SReps C l vs:=by
 intro l
 induction l with
 | nil=>intro _;exact⟨[],by simp only [SReps]⟩
 | cons s l ih =>
  intro h
  simp only [List.all_cons,Bool.and_eq_true,bare,List.isEmpty_iff] at h
  obtain⟨v,hv⟩:=bare_ex (C:=C) h.1.1.1 h.1.2
  obtain⟨vs,hvs⟩:=ih (by simpa [bare] using h.2)
  exact⟨v :: vs,by simp only [SReps];exact⟨v,vs,rfl,hv,hvs⟩⟩
noncomputable def itEach (X:Ctx):List SV→Mem→Option (List SV × List Nat)
  | [.ptr bn 0,.ptr bf 0],m=>match (onlyM (reachx m 200 [bn,bf] []) m)[bn]?,(onlyM (reachx m 200 [bn,bf] []) m)[bf]? with
    | some (some (false,.cells [.v (.int .i64 n)])),some (some (false,.cells [.fn (.func f) [] fc])) =>
      if (decide (0≤n) && decide (n≤1024) && lights fc && liveB (onlyM (reachx m 200 [bn,bf] []) m) (namesL fc))=true then
        match cloList X f fc (onlyM (reachx m 200 [bn,bf] []) m) 0 n.toNat with
        | some ys=>if ys.all bare=true then some (ys,reachx m 200 [bn,bf] []) else none
        | none=>none
      else none
    | _,_=>none
  | _,_=>none
theorem itEach_ok {X:Ctx} {B:Nat} {F:Nat→Prop} {G:Nat→Option Value} {m:Mem} {w:World} {caps:List SV} {vals:List Value} {yl:List SV × List Nat} (hm:MInv B F G m w) (hcaps:SReps (rc F G m w) caps vals) (h:itEach X caps m=some yl) :
  ∃ (bn bf f n:Nat) (fc:List SV) (y:Nat→SV) (M:Nat→Mem) (Ys:List Value),caps=[.ptr bn 0,.ptr bf 0]∧n≤1024∧(onlyM yl.2 m)[bn]? = some (some (false,.cells [.v (.int .i64 n)]))∧(onlyM yl.2 m)[bf]? = some (some (false,.cells [.fn (.func f) [] fc]))∧lights fc=true∧(∀ b,b ∈ namesL fc→∃ V,G b=some V) ∧
   (∀ k,k<n→light (y k)=true∧fixd (y k)=true∧(∀ b,b ∈ names (y k)→∃ V,G b=some V)∧∀ K:SV→Mem→Option St,callx X (callN X 20) f (.v (.int .i64 k) :: fc) none (onlyM yl.2 m) K=K (y k) (M k))∧yl.1=(List.range n).map y∧SReps (rc F G m w) yl.1 Ys:=by
 unfold itEach at h
 split at h
 ·rename_i bn bf
  split at h
  ·rename_i n f fc hb hf
   split at h
   ·rename_i hc
    simp only [Bool.and_eq_true,decide_eq_true_eq] at hc
    obtain⟨⟨⟨h0,h1⟩,h2⟩,h3⟩:=hc
    split at h
    ·rename_i ys hys
     split at h
     ·rename_i hall
      obtain rfl:=Option.some.inj h
      obtain⟨hl,hcl2⟩:=cloList_ok hys
      have hn:n=(n.toNat:Int):=by omega
      obtain⟨Ys,hYs⟩:=bareL_ex (C:=rc F G m w) hall
      have one:∀ k,k<n.toNat→∃ Mk:Mem,∀ K:SV→Mem→Option St,callx X (callN X 20) f (.v (.int .i64 k) :: fc) none (onlyM (reachx m 200 [bn,bf] []) m) K=K ((ys[k]?).getD .junk) Mk:=by
       intro k hk
       have hk1:=hcl2 k hk
       rw [Nat.zero_add] at hk1
       have hk2:ys[k]? = some (ys[k]'(by omega)):=List.getElem?_eq_getElem (by omega)
       rw [hk2] at hk1
       obtain⟨v,q1,q2⟩:=callx_natr (callN_nat X 20) hk1
       refine⟨v.2,fun K=>?_⟩
       rw [hk2,Option.getD_some,←Option.some.inj q1]
       exact q2 St K
      refine⟨bn,bf,f,n.toNat,fc,fun k=>(ys[k]?).getD .junk,fun k=>open Classical in if hk:k<n.toNat then Classical.choose (one k hk) else [],Ys,rfl,by omega,by rw [←hn];exact hb,hf,h2,?_,?_,?_,hYs⟩
      ·intro b hb'
       have:=List.all_eq_true.1 h3 b hb'
       split at this
       ·rename_i x hx
        obtain⟨_,_,r1,hm1⟩:=only_of (r:=x.1) (k:=x.2) hx
        obtain⟨V,hV,_⟩:=hm.blk _ _ _ hm1
        exact⟨V,hV⟩
       ·cases this
      ·intro k hk
       have hk2:ys[k]? = some (ys[k]'(by omega)):=List.getElem?_eq_getElem (by omega)
       have hba:=List.all_eq_true.1 hall (ys[k]'(by omega)) (List.getElem_mem _)
       simp only [bare,Bool.and_eq_true,List.isEmpty_iff] at hba
       refine⟨by simp only [hk2,Option.getD_some];exact hba.1.2,by simp only [hk2,Option.getD_some];exact hba.1.1,by (simp only [hk2,Option.getD_some,hba.2];exact fun b hb'=>nomatch hb'),?_⟩
       simp only [hk,dif_pos]
       exact Classical.choose_spec (one k hk)
      ·apply List.ext_getElem?
       intro i
       rw [List.getElem?_map]
       rcases Nat.lt_or_ge i n.toNat with hi|hi
       ·rw [List.getElem?_range hi]
        have:ys[i]? = some (ys[i]'(by omega)):=List.getElem?_eq_getElem (by omega)
        simp [this]
       ·rw [List.getElem?_eq_none (show ys.length≤i by omega),List.getElem?_eq_none (by simp only [List.length_range];omega)]
        rfl
     ·cases h
    ·cases h
   ·cases h
  ·cases h
 ·cases h
theorem it80_ok {X:Ctx} (hX:XOk Try.prog X) (hT:X.T=tis):IterOk Try.prog 80 (itEach X) where
 enters:=⟨_,_,g80,by kernel_rfl,b80⟩
 gives:=fun B F G m w caps vals yl hm hcaps h=>by
  obtain⟨bn,bf,f,n,fc,y,M,Ys,rfl,h1,h2,h3,h4,h5,h6,h7,h8⟩:=itEach_ok hm hcaps h
  exact⟨Ys,h8,it80_core hX hT hm (by omega) h2 h3 h4 h5 h6 hcaps (h7▸h8)⟩
theorem it81_ok {X:Ctx} (hX:XOk Try.prog X) (hT:X.T=tis):IterOk Try.prog 81 (itEach X) where
 enters:=⟨_,_,g81,by kernel_rfl,b81⟩
 gives:=fun B F G m w caps vals yl hm hcaps h=>by
  obtain⟨bn,bf,f,n,fc,y,M,Ys,rfl,h1,h2,h3,h4,h5,h6,h7,h8⟩:=itEach_ok hm hcaps h
  exact⟨Ys,h8,it81_core hX hT hm (by omega) h2 h3 h4 h5 h6 hcaps (h7▸h8)⟩
end Go.Proofs.Ytgmkppeghnlcmaa.X
end
section
set_option linter.unusedVariables false
set_option linter.unusedSimpArgs false
namespace Go.Proofs.Ytgmkppeghnlcmaa.X
open Go Go.Proofs Go.RowKit
set_option maxRecDepth 100000
set_option maxHeartbeats 4000000
set_option linter.unusedVariables false
set_option linter.unusedSimpArgs false
abbrev KI:Kd:=.int .i64
abbrev KU:Kd:=.int .u64
abbrev L0:{R:Type}→Lps R:=fun _ _=>none
theorem l0_ok {X:Ctx} {R:Type} {f:FuncId} {k:Nat}:LoopOk X R (L0 f (firstRid (loopAt X f k))) f k L0:=fun _ h=>nomatch h
def sumS (h w:Int):Int:=IntKind.u64.wrap (IntKind.u64.wrap (BitVec.ofInt 64 h ^^^ BitVec.ofInt 64 w).toNat*1099511628211)
def sumL (l:List Int) (h:Int):Int:=l.foldl sumS h
abbrev sk16:StSk:=⟨[.seq KU,.junk,.junk,.int .u64,.junk,.junk,.seq KU,.int .i64,.int .i64,.junk,.junk,.junk,.junk,.junk,.junk,.junk,.junk,.junk],[]⟩
abbrev dead16:List Nat:=[1,2,4,5,9,10,11,12,13,14,15,16,17]
abbrev mk16 (l0:List Int) (h:Int) (l:List Int) (n i:Int):sk16.T:=((l0,(),(),h,(),(),l,n,i,(),(),(),(),(),(),(),(),(),()),())
noncomputable def res16a {R:Type} (l0:List Int) (h:Int) (l:List Int) (n i:Int) (K:Ex→St→Option R):Option R :=
  bif decide (n=l.length) && (decide (0≤i) && (decide (i≤n) && decide (n<4611686018427387904))) then K (.exit 0) (sk16.fill (mk16 l0 (sumL (l.drop i.toNat) h) l n n)) else none
noncomputable def res16 {R:Type} (x:sk16.T) (K:Ex→St→Option R):Option R:=match x with
  | ((l0,_,_,h,_,_,l,n,i,_),_)=>res16a l0 h l n i K
noncomputable def rnd16a {R:Type} (l0:List Int) (h:Int) (l:List Int) (n i:Int) (N:sk16.T→Option R) (E:Ex→St→Option R):Option R :=
  bif decide (i<n) then (bif inB i l.length then N (mk16 l0 (sumS h (rd KU l i.toNat)) l n (IntKind.i64.wrap (i+1))) else none) else E (.exit 0) (sk16.fill (mk16 l0 h l n i))
noncomputable def rnd16 {R:Type} (x:sk16.T) (N:sk16.T→Option R) (E:Ex→St→Option R):Option R:=match x with
  | ((l0,_,_,h,_,_,l,n,i,_),_)=>rnd16a l0 h l n i N E
noncomputable abbrev L16:{R:Type}→Lps R:=fun f rid=>match f,rid with|16,3=>some (lpx dead16 sk16 res16)|_,_=>none
theorem key16 {R:Type} {K:Ex→St→Option R} {r:R} (l0 l:List Int):∀ (k:Nat) (h0 n i:Int),(n-i).toNat=k→n=l.length→0≤i→i≤n→n<4611686018427387904 →
  K (.exit 0) (sk16.fill (mk16 l0 (sumL (l.drop i.toNat) h0) l n n))=some r→iter rnd16 (k+1) (mk16 l0 h0 l n i) K=some r:=by
 intro k
 induction k with
 | zero =>
  intro h0 n i hk hn hi hin hb hK
  have e:i=n:=by omega
  subst e
  show rnd16a l0 h0 l i i (fun x'=>iter rnd16 0 x' K) K=some r
  simp only [rnd16a]
  have:decide (i<i)=false:=by simp
  rw [this]
  have e2:l.drop i.toNat=[]:=by rw [List.drop_eq_nil_iff];omega
  rw [e2] at hK
  exact hK
 | succ k ih =>
  intro h0 n i hk hn hi hin hb hK
  have hlt:i<n:=by omega
  show rnd16a l0 h0 l n i (fun x'=>iter rnd16 (k+1) x' K) K=some r
  simp only [rnd16a]
  have e1:decide (i<n)=true:=by simpa using hlt
  have e2:inB i l.length=true:=by simp [inB];omega
  rw [e1,e2]
  simp only [cond_true]
  have e3:IntKind.i64.wrap (i+1)=i+1:=wrap_i64 (by omega) (by omega)
  rw [e3]
  refine ih _ _ _ (by omega) hn (by omega) (by omega) hb ?_
  have hl:i.toNat<l.length:=by omega
  have e4:l.drop i.toNat=rd KU l i.toNat :: l.drop (i+1).toNat:=by
   have:(i+1).toNat=i.toNat+1:=by omega
   rw [this,List.drop_eq_getElem_cons hl]
   have:rd KU l i.toNat=l[i.toNat]:=by
    show(l[i.toNat]?).getD KU.dflt=_
    rw [List.getElem?_eq_getElem hl];rfl
   rw [this]
   rfl
  rw [e4] at hK
  exact hK
theorem res16a_ok {R:Type} {l0:List Int} {h0:Int} {l:List Int} {n i:Int} {K:Ex→St→Option R} {r:R} (h:res16a l0 h0 l n i K=some r):∃ k,iter rnd16 k (mk16 l0 h0 l n i) K=some r:=by
 unfold res16a at h
 cases hc:(decide (n=l.length) && (decide (0≤i) && (decide (i≤n) && decide (n<4611686018427387904)))) with
 | false=>rw [hc] at h;cases h
 | true =>
  rw [hc] at h
  simp only [Bool.and_eq_true,decide_eq_true_eq] at hc
  exact⟨_,key16 l0 l _ h0 n i rfl hc.1 hc.2.1 hc.2.2.1 hc.2.2.2 h⟩
theorem res16_ok {R:Type} (x:sk16.T) (K:Ex→St→Option R) (r:R) (h:res16 x K=some r):∃ n,iter rnd16 n x K=some r:=by
 obtain⟨⟨l0,⟨⟩,⟨⟩,h0,⟨⟩,⟨⟩,l,n,i,⟨⟩,⟨⟩,⟨⟩,⟨⟩,⟨⟩,⟨⟩,⟨⟩,⟨⟩,⟨⟩,⟨⟩⟩,⟨⟩⟩:=x
 exact res16a_ok h
theorem loop16 {sp:FuncId→Option Spec} {R:Type}:LoopOk (mk sp) R (L16 16 (firstRid (loopAt (mk sp) 16 0))) 16 0 L16:=by
 intro L hL s K r hs
 have e:(L16 16 (firstRid (loopAt (mk sp) 16 0)):Option (St→(Ex→St→Option R)→Option R))=some (lpx dead16 sk16 res16):=by kernel_rfl
 rw [e] at hL
 obtain rfl:=Option.some.inj hL
 refine lpx_ok (deadx:=dead16) (rnd:=rnd16) ?_ res16_ok hs
 intro x N E
 obtain⟨⟨l0,⟨⟩,⟨⟩,h0,⟨⟩,⟨⟩,l,n,i,⟨⟩,⟨⟩,⟨⟩,⟨⟩,⟨⟩,⟨⟩,⟨⟩,⟨⟩,⟨⟩,⟨⟩⟩,⟨⟩⟩:=x
 kernel_rfl
abbrev g16 (x:DsT [.sc (.sl KU)]):Option Int:=bif decide ((List.length (α:=Int) x.1:Int)<4611686018427387904) then some (sumL x.1 14695981039346656037) else none
theorem s16 {sp:FuncId→Option Spec} (hX:XOk Try.prog (mk sp)):SpecOk Try.prog 16 ⟨[.sc (.sl KU)],.one (.sc KU),g16⟩:=by
 refine fnl_ok hX (lps:=L16) 1 (by kernel_rfl) (fun k hk=>?_) (fun x r h=>?_) ⟨_,_,rfl,rfl⟩
 ·obtain rfl:k=0:=by omega
  exact loop16
 ·obtain⟨l,⟨⟩⟩:=x
  rw [←h]
  have e:∀ l:List Int,(bif decide ((l.length:Int)=l.length) && (decide ((0:Int)≤0) && (decide ((0:Int)≤l.length) && decide ((l.length:Int)<4611686018427387904))) then some (sumL (l.drop (Int.toNat 0)) 14695981039346656037) else none)=g16 (l,()):=by
   intro l
   simp [g16]
  refine Eq.trans ?_ (e l)
  exact(show fnx (mk sp) L16 16 [.sc (.sl KU)] (.one (.sc KU)) (l,())=(bif decide ((List.length (α:=Int) l:Int)=List.length (α:=Int) l) && (decide ((0:Int)≤0) && (decide ((0:Int)≤List.length (α:=Int) l) && decide ((List.length (α:=Int) l:Int)<4611686018427387904))) then some (sumL (List.drop (Int.toNat 0) l) 14695981039346656037) else none) from by kernel_rfl)
def sh (l:List Int):Bool:=decide (l.length<1000)
theorem spec_less {P:Program} {f:FuncId} {A:List DS} {Rt:RD} {g g':DsT A→Option Rt.T} (h:SpecOk P f ⟨A,Rt,g⟩) (hg:∀ x r,g' x=some r→g x=some r):SpecOk P f ⟨A,Rt,g'⟩ :=
 ⟨h.enters,fun Z w x vals r hZ hs hr=>h.calls Z w x vals r hZ hs (hg x r hr)⟩
theorem s16s {sp:FuncId→Option Spec} (hX:XOk Try.prog (mk sp)):SpecOk Try.prog 16 ⟨[.sc (.sl KU)],.one (.sc KU),fun x=>bif sh x.1 then some (sumL x.1 14695981039346656037) else none⟩ :=
 spec_less (s16 hX) fun x r h=>by
  unfold g16
  cases e:sh x.1 with
  | false=>rw [e] at h;cases h
  | true =>
   rw [e] at h
   unfold sh at e
   rw [decide_eq_true_eq] at e
   have e2:(List.length (α:=Int) x.1:Int)<4611686018427387904:=by
    have:List.length (α:=Int) x.1<1000:=e
    omega
   rw [decide_eq_true e2]
   exact h
end Go.Proofs.Ytgmkppeghnlcmaa.X
end
section
set_option linter.unusedVariables false
set_option linter.unusedSimpArgs false
namespace Go.Proofs.Ytgmkppeghnlcmaa.X
open Go Go.Proofs Go.RowKit
set_option maxRecDepth 100000
abbrev kI:Kd:=.int .i64
abbrev kU:Kd:=.int .u64
abbrev kAx:Kd:=.cons kI (.cons kI (.cons kI (.cons kI (.cons kI (.cons .bool .nil)))))
abbrev kPo:Kd:=.cons (.cons kI (.cons kI (.cons kI (.cons kI .nil)))) (.cons (.cons kI (.cons kI (.cons kI .nil))) (.cons .bool .nil))
abbrev kSt:Kd:=.cons kI (.cons kI (.cons kI (.cons kPo (.cons (.cons kAx (.cons kAx (.cons kAx .nil))) .nil))))
theorem kSt_is:kindC tis 12 30=some kSt:=by kernel_rfl
abbrev Ax:=Int × Int × Int × Int × Int × Bool × Unit
abbrev Po:=(Int × Int × Int × Int × Unit) × (Int × Int × Int × Unit) × Bool × Unit
abbrev STT:=Int × Int × Int × Po × (Ax × Ax × Ax × Unit) × Unit
structure Fn2 where
  sane:STT→Bool
  sum:List Int→Int
def spW (F:Fn2):FuncId→Option Spec:=fun f =>
  if f=14 then some ⟨[.ag kSt],.one (.sc .bool),fun x=>some (F.sane x.1)⟩
  else if f=16 then some ⟨[.sc (.sl kU)],.one (.sc kU),fun x=>bif sh x.1 then some (F.sum x.1) else none⟩
  else none
noncomputable def xW (F:Fn2):Ctx:=mki (spW F) (fun _=>none) (fun g=>if g=29 then some it29 else none)
abbrev uW (x:Int):Int:=IntKind.u64.wrap x
def orU (x y:Int):Int:=IntKind.u64.wrap (BitVec.ofInt IntKind.u64.bits x ||| BitVec.ofInt IntKind.u64.bits y).toNat
def outU (o:Int):Int:=IntKind.u64.wrap (IntKind.u64.wrap o*2^min (Int.toNat 4) IntKind.u64.bits)
def bitU (i:Int):Int:=IntKind.u64.wrap (1*2^min (Int.toNat i) IntKind.u64.bits)
abbrev bodyW (th t n q0 q1 q2 q3 w0 w1 w2 a b c d e a1 b1 c1 d1 e1 a2 b2 c2 d2 e2:Int):List Int :=
  [uW t,uW n,th,uW q0,uW q1,uW q2,uW q3,uW w0,uW w1,uW w2,uW a,uW b,uW c,uW d,uW e,uW a1,uW b1,uW c1,uW d1,uW e1,uW a2,uW b2,uW c2,uW d2,uW e2]
end Go.Proofs.Ytgmkppeghnlcmaa.X
end
section
set_option linter.unusedVariables false
set_option linter.unusedSimpArgs false
namespace Go.Proofs.Ytgmkppeghnlcmaa.X
open Go Go.Proofs Go.RowKit
set_option maxRecDepth 100000
def minB (n:Int):Int:=if 288230376151711744<n then 288230376151711744 else n
def clampF (n:Int):Int:=if -288230376151711744<minB n then minB n else -288230376151711744
def valF (n:Int):Bool:=!(clampF n != n)
def witF (n:Int):Bool:=bif decide (n ≥ 4096) then decide (n≤4503599627370496) else false
theorem x0_ok:XOk Try.prog (mk fun _=>none):=mk_ok fun _ _ h=>nomatch h
theorem s38:SpecOk Try.prog 38 ⟨[.sc kI],.many [.sc kI,.sc .bool],fun x=>some (clampF x.1,clampF x.1 != x.1,())⟩:=by
 refine fnx_ok x0_ok (lps:=nol) (fun _ _ _ _ _ _ _ h=>nomatch h) (fun x r h=>?_) ⟨_,_,rfl,rfl⟩
 obtain⟨n,⟨⟩⟩:=x
 rw [←h]
 kernel_rfl
theorem s32:SpecOk Try.prog 32 ⟨[.sc kI],.one (.sc .bool),fun x=>some (valF x.1)⟩:=by
 refine fnx_ok x0_ok (lps:=nol) (fun _ _ _ _ _ _ _ h=>nomatch h) (fun x r h=>?_) ⟨_,_,rfl,rfl⟩
 obtain⟨n,⟨⟩⟩:=x
 rw [←h]
 kernel_rfl
theorem run33 (n:Int):fnx (mk fun _=>none) nol 33 [.sc kI] (.one (.sc .bool)) (n,())=bif decide (n ≥ 4096) then some (decide (n≤4503599627370496)) else some false:=by kernel_rfl
theorem two33 (n:Int):(bif decide (n ≥ 4096) then some (decide (n≤4503599627370496)) else some false)=some (witF n):=by
 unfold witF
 cases decide (n ≥ 4096)<;>rfl
theorem s33:SpecOk Try.prog 33 ⟨[.sc kI],.one (.sc .bool),fun x=>some (witF x.1)⟩:=by
 refine fnx_ok x0_ok (lps:=nol) (fun _ _ _ _ _ _ _ h=>nomatch h) (fun x r h=>?_) ⟨_,_,rfl,rfl⟩
 obtain⟨n,⟨⟩⟩:=x
 refine(run33 n).trans ?_
 rw [←h]
 exact two33 n
structure Fn3 where
  V:Int→Bool
  W:Int→Bool
def spA (F:Fn3):FuncId→Option Spec:=fun f=>if f=32 then some ⟨[.sc kI],.one (.sc .bool),fun x=>some (F.V x.1)⟩ else if f=33 then some ⟨[.sc kI],.one (.sc .bool),fun x=>some (F.W x.1)⟩ else none
theorem spA_ok:XOk Try.prog (mk (spA ⟨valF,witF⟩)):=mk_ok fun f s h=>by
 unfold spA at h
 split at h
 ·rename_i e;subst e;obtain rfl:=Option.some.inj h;exact s32
 ·split at h
  ·rename_i e;subst e;obtain rfl:=Option.some.inj h;exact s33
  ·cases h
theorem run23 (F:Fn3) (p v pp pv vv:Int) (b:Bool):fnx (mk (spA F)) nol 23 [.ag kAx] (.one (.sc .bool)) ((p,v,pp,pv,vv,b,()),()) =
  bif F.V p then bif F.V v then bif F.V pv then bif F.W pp then some (F.W vv) else some false else some false else some false else some false:=by kernel_rfl
def axF (x:Ax):Bool:=match x with|(p,v,pp,pv,vv,_,_)=>valF p && (valF v && (valF pv && (witF pp && witF vv)))
theorem two23 (a b c d e:Bool):(bif a then bif b then bif c then bif d then some e else some false else some false else some false else some false)=some (a && (b && (c && (d && e)))):=by
 cases a<;>cases b<;>cases c<;>cases d<;>rfl
theorem s23:SpecOk Try.prog 23 ⟨[.ag kAx],.one (.sc .bool),fun x=>some (axF x.1)⟩:=by
 refine fnx_ok spA_ok (lps:=nol) (fun _ _ _ _ _ _ _ h=>nomatch h) (fun x r h=>?_) ⟨_,_,rfl,rfl⟩
 obtain⟨⟨p,v,pp,pv,vv,b,⟨⟩⟩,⟨⟩⟩:=x
 refine(run23 _ p v pp pv vv b).trans ?_
 rw [←h]
 exact two23 _ _ _ _ _
end Go.Proofs.Ytgmkppeghnlcmaa.X
end
section
set_option linter.unusedVariables false
set_option linter.unusedSimpArgs false
namespace Go.Proofs.Ytgmkppeghnlcmaa.X
open Go Go.Proofs Go.RowKit
set_option maxRecDepth 100000
structure Fn4 where
  A:Ax→Bool
  T:Po→Bool
def spB (F:Fn4):FuncId→Option Spec:=fun f=>if f=23 then some ⟨[.ag kAx],.one (.sc .bool),fun x=>some (F.A x.1)⟩ else if f=25 then some ⟨[.ag kPo],.one (.sc .bool),fun x=>some (F.T x.1)⟩ else none
theorem run14 (F:Fn4) (t n o q0 q1 q2 q3 w0 w1 w2:Int) (pb:Bool) (a b c d e:Int) (ab:Bool) (a1 b1 c1 d1 e1:Int) (ab1:Bool) (a2 b2 c2 d2 e2:Int) (ab2:Bool):fnx (mk (spB F)) nol 14 [.ag kSt] (.one (.sc .bool)) ((t,n,o,((q0,q1,q2,q3,()),(w0,w1,w2,()),pb,()),((a,b,c,d,e,ab,()),(a1,b1,c1,d1,e1,ab1,()),(a2,b2,c2,d2,e2,ab2,()),()),()),()) =
  bif decide (t ≥ 0) then (bif decide (t≤1099511627776) then (bif decide (n ≥ 0) then (bif decide (n≤1099511627776) then (bif decide (o ≥ 0) then (bif decide (o≤1099511627776) then (bif F.T ((q0,q1,q2,q3,()),(w0,w1,w2,()),pb,()) then (bif !F.A (a,b,c,d,e,ab,()) then some false else bif !F.A (a1,b1,c1,d1,e1,ab1,()) then some false else bif !F.A (a2,b2,c2,d2,e2,ab2,()) then some false else some true) else some false) else some false) else some false) else some false) else some false) else some false) else some false:=by kernel_rfl
theorem two14 (b1 b2 b3 b4 b5 b6 b7 b8 b9 b10:Bool):(bif b1 then (bif b2 then (bif b3 then (bif b4 then (bif b5 then (bif b6 then (bif b7 then (bif !b8 then some false else bif !b9 then some false else bif !b10 then some false else some true) else some false) else some false) else some false) else some false) else some false) else some false) else some false)=some (b1 && b2 && (b3 && b4) && (b5 && b6) && b7 && (b8 && b9 && b10)):=by
 cases b1<;>cases b2<;>cases b3<;>cases b4<;>cases b5<;>cases b6<;>cases b7<;>cases b8<;>cases b9<;>cases b10<;>rfl
def cntF (n:Int):Bool:=decide (n ≥ 0) && decide (n≤1099511627776)
def saneF (T:Po→Bool) (x:STT):Bool:=match x with
  | (t,n,o,p,(a,b,c,_),_)=>cntF t && cntF n && cntF o && T p && (axF a && axF b && axF c)
theorem spB_ok {T:Po→Bool} (hT:SpecOk Try.prog 25 ⟨[.ag kPo],.one (.sc .bool),fun x=>some (T x.1)⟩):XOk Try.prog (mk (spB ⟨axF,T⟩)):=mk_ok fun f s h=>by
 unfold spB at h
 split at h
 ·rename_i e;subst e;obtain rfl:=Option.some.inj h;exact s23
 ·split at h
  ·rename_i e;subst e;obtain rfl:=Option.some.inj h;exact hT
  ·cases h
theorem s14 {T:Po→Bool} (hT:SpecOk Try.prog 25 ⟨[.ag kPo],.one (.sc .bool),fun x=>some (T x.1)⟩):SpecOk Try.prog 14 ⟨[.ag kSt],.one (.sc .bool),fun x=>some (saneF T x.1)⟩:=by
 refine fnx_ok (spB_ok hT) (lps:=nol) (fun _ _ _ _ _ _ _ h=>nomatch h) (fun x r h=>?_) ⟨_,_,rfl,rfl⟩
 obtain⟨⟨t,n,o,⟨⟨q0,q1,q2,q3,⟨⟩⟩,⟨w0,w1,w2,⟨⟩⟩,pb,⟨⟩⟩,⟨⟨a,b,c,d,e,ab,⟨⟩⟩,⟨a1,b1,c1,d1,e1,ab1,⟨⟩⟩,⟨a2,b2,c2,d2,e2,ab2,⟨⟩⟩,⟨⟩⟩,⟨⟩⟩,⟨⟩⟩:=x
 refine(run14 _ t n o q0 q1 q2 q3 w0 w1 w2 pb a b c d e ab a1 b1 c1 d1 e1 ab1 a2 b2 c2 d2 e2 ab2).trans ?_
 rw [←h]
 exact two14 _ _ _ _ _ _ _ _ _ _
end Go.Proofs.Ytgmkppeghnlcmaa.X
end
section
set_option linter.unusedVariables false
set_option linter.unusedSimpArgs false
namespace Go.Proofs.Ytgmkppeghnlcmaa.W
open Go Go.Proofs Go.RowKit X
set_option maxRecDepth 100000
set_option linter.unusedVariables false
set_option linter.unusedSimpArgs false
abbrev k4:Kd:=.cons kI (.cons kI (.cons kI (.cons kI .nil)))
structure FN where
  C:Int→Int
  D:Int→Bool
  MH:Int→Int→Int
  ML:Int→Int→Int
  AH:Int→Int→Int→Int→Int
  AL:Int→Int→Int→Int→Int
  AB:Int→Int→Int→Int→Bool
  RN:Int→Int→Int
  RB:Int→Int→Bool
abbrev tN (F:FN):List (FuncId × X.Spec):=[(38,sIB F.C F.D),(60,sMul F.MH F.ML),(61,sAdd F.AH F.AL F.AB),(50,⟨[.ag kW],.many [.sc kI,.sc .bool],fun x=>some (F.RN x.1.1 x.1.2.1,F.RB x.1.1 x.1.2.1,())⟩)]
noncomputable abbrev FN0:FN:=⟨cl,fun n=>cl n != n,muH,muL,adH,adL,adB,rtN,rtB⟩
theorem tN_ok:TabOk Try.prog (tN FN0):=⟨Clamp_ok,Mul_ok,Add_ok,Wide_ok,trivial⟩
noncomputable abbrev xN (F:FN):Ctx:=mki (tab (tN F)) (fun _=>none) (fun g=>if g=80 then some (itEach (mk (tab (tN F)))) else if g=81 then some (itEach (mk (tab (tN F)))) else none)
theorem xN_ok:XOk Try.prog (xN FN0):=mki_ok (x_ok tN_ok) (fun _ _ h=>nomatch h) (fun g i h=>by
 split at h
 ·rename_i e;subst e;obtain rfl:=Option.some.inj h;exact it80_ok (x_ok tN_ok) rfl
 ·split at h
  ·rename_i e;subst e;obtain rfl:=Option.some.inj h;exact it81_ok (x_ok tN_ok) rfl
  ·cases h)
def smF (F:FN) (l:List Int):Int × Int:=l.foldl (fun p x=>(F.AH p.1 p.2 (F.MH x x) (F.ML x x),F.AL p.1 p.2 (F.MH x x) (F.ML x x))) (0,0)
theorem run_Norm (F:FN) (a b c d:Int):fnx (xN F) nol 34 [.ag k4] (.many [.sc kI,.sc .bool]) ((a,b,c,d,()),()) =
  bif !F.RB (smF F [a,b,c,d]).1 (smF F [a,b,c,d]).2 then (bif F.D a then some (F.RN (smF F [a,b,c,d]).1 (smF F [a,b,c,d]).2,true,()) else bif F.D b then some (F.RN (smF F [a,b,c,d]).1 (smF F [a,b,c,d]).2,true,()) else bif F.D c then some (F.RN (smF F [a,b,c,d]).1 (smF F [a,b,c,d]).2,true,()) else bif F.D d then some (F.RN (smF F [a,b,c,d]).1 (smF F [a,b,c,d]).2,true,()) else some (F.RN (smF F [a,b,c,d]).1 (smF F [a,b,c,d]).2,false,())) else some (F.RN (smF F [a,b,c,d]).1 (smF F [a,b,c,d]).2,true,()):=by kernel_rfl
noncomputable def qnN (a b c d:Int):Int:=rtN (smF FN0 [a,b,c,d]).1 (smF FN0 [a,b,c,d]).2
noncomputable def qnB (a b c d:Int):Bool:=rtB (smF FN0 [a,b,c,d]).1 (smF FN0 [a,b,c,d]).2 || ((cl a != a) || ((cl b != b) || ((cl c != c) || (cl d != d))))
theorem two_Norm (r:Bool) (n:Int) (p q u v:Bool):(bif !r then (bif p then some (n,true,()) else bif q then some (n,true,()) else bif u then some (n,true,()) else bif v then some (n,true,()) else some (n,false,())) else some (n,true,()))=some (n,r || (p || (q || (u || v))),()):=by
 cases r<;>cases p<;>cases q<;>cases u<;>cases v<;>rfl
theorem Norm_eq (a b c d:Int):fnx (xN FN0) nol 34 [.ag k4] (.many [.sc kI,.sc .bool]) ((a,b,c,d,()),())=some (qnN a b c d,qnB a b c d,()):=(run_Norm FN0 a b c d).trans (two_Norm _ _ _ _ _ _)
abbrev sNorm (N:Int→Int→Int→Int→Int) (B:Int→Int→Int→Int→Bool):X.Spec:=⟨[.ag k4],.many [.sc kI,.sc .bool],fun x=>some (N x.1.1 x.1.2.1 x.1.2.2.1 x.1.2.2.2.1,B x.1.1 x.1.2.1 x.1.2.2.1 x.1.2.2.2.1,())⟩
theorem Norm_ok:SpecOk Try.prog 34 (sNorm qnN qnB):=spec_run xN_ok (fun ⟨⟨a,b,c,d,_⟩,_⟩=>Norm_eq a b c d) ⟨_,_,rfl,rfl⟩
abbrev k3:Kd:=.cons kI (.cons kI (.cons kI .nil))
abbrev tT (N:Int→Int→Int→Int→Int) (B:Int→Int→Int→Int→Bool) (C:Int→Int) (D:Int→Bool):List (FuncId × X.Spec):=[(38,sIB C D),(34,sNorm N B)]
theorem run_Pose (N:Int→Int→Int→Int→Int) (B:Int→Int→Int→Int→Bool) (C:Int→Int) (D:Int→Bool) (a b c d x y z:Int) (p:Bool):fnx (mk (tab (tT N B C D))) nol 25 [.ag (.cons k4 (.cons k3 (.cons .bool .nil)))] (.one (.sc .bool)) (((a,b,c,d,()),(x,y,z,()),p,()),()) =
  bif !B a b c d then (bif decide (N a b c d ≥ 4294967040) then (bif decide (N a b c d≤4294967552) then (bif D x then some false else bif D y then some false else bif D z then some false else some true) else some false) else some false) else some false:=by kernel_rfl
noncomputable def poS (x:X.Po):Bool:=match x with|((a,b,c,d,_),(u,v,w,_),_,_)=>!qnB a b c d && (decide (qnN a b c d ≥ 4294967040) && (decide (qnN a b c d≤4294967552) && ((cl u == u) && ((cl v == v) && (cl w == w)))))
theorem two_Pose (p q r u v w:Bool):(bif !p then (bif q then (bif r then (bif u then some false else bif v then some false else bif w then some false else some true) else some false) else some false) else some false)=some (!p && (q && (r && (!u && (!v && !w))))):=by
 cases p<;>cases q<;>cases r<;>cases u<;>cases v<;>cases w<;>rfl
theorem tT_ok:TabOk Try.prog (tT qnN qnB cl fun n=>cl n != n):=⟨Clamp_ok,Norm_ok,trivial⟩
theorem Pose_eq (a b c d x y z:Int) (p:Bool):fnx (mk (tab (tT qnN qnB cl fun n=>cl n != n))) nol 25 [.ag (.cons k4 (.cons k3 (.cons .bool .nil)))] (.one (.sc .bool)) (((a,b,c,d,()),(x,y,z,()),p,()),())=some (poS ((a,b,c,d,()),(x,y,z,()),p,())):=by
 refine(run_Pose qnN qnB cl (fun n=>cl n != n) a b c d x y z p).trans ((two_Pose _ _ _ _ _ _).trans ?_)
 have e:∀ n:Int,(!(cl n != n))=(cl n == n):=fun n=>by cases h:(cl n == n)<;>simp_all
 show some _=some _
 simp only [poS,e]
theorem Pose_ok:SpecOk Try.prog 25 ⟨[.ag X.kPo],.one (.sc .bool),fun x=>some (poS x.1)⟩:=spec_run (x_ok tT_ok) (fun ⟨⟨⟨a,b,c,d,_⟩,⟨x,y,z,_⟩,p,_⟩,_⟩=>Pose_eq a b c d x y z p) ⟨_,_,rfl,rfl⟩
theorem Sane_ok:SpecOk Try.prog 14 ⟨[.ag kSt],.one (.sc .bool),fun x=>some (saneF poS x.1)⟩:=s14 Pose_ok
end Go.Proofs.Ytgmkppeghnlcmaa.W
end
