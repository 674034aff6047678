import Derived.Test.YtekcmpooblhllaaGreatDoorE2
import Derived.Defers
import Derived.Scope
import Derived.Sort.Grow
import Derived.Shelf.SlSortCmp.NoneTotal
import Derived.Shelf.SlicesE.DeleteFunc
import Derived.Shelf.SlicesE.Index
import Derived.Laws.BytesString
import Derived.Shelf.Strconv.Itoa3
import Derived.Shelf.Strings.OnBuilder
import Derived.Shelf.Strings.Builder1
import Derived.Shelf.Strings.IndexAnyAll
import Derived.Shelf.Small.Utf8
import Derived.Laws.Runes
import Derived.Lib.TrimU
import Derived.Lib.OthersKept
import Derived.WalkMore
import Derived.Shelf.RegionOpenPlain
import Derived.Shelf.Small.Strs
import Derived.Shelf.SlicesE.Reverse
import Derived.Laws.IdiomStrings
import Derived.Shelf.Strconv.ErrVarAll
import Derived.WalkKit
import Derived.ProofKit
import Derived.OpenShut
import Derived.JoinedCond
import Derived.Carry
import Derived.Lib.LaidU8
import Derived.LaidLaws
import Derived.Shelf.Strings.Search3
import Derived.Shelf.LaysM
import Derived.Shelf.Vars
set_option maxRecDepth 100000
set_option maxHeartbeats 2000000
set_option linter.unusedVariables false
set_option linter.unusedSimpArgs false
/-
 The rules as a walk applies them.
-/
namespace Go.Ab
open Go Go.RowKit
variable {lou:Lou}
variable {amb:Amb}
section
variable {P:Program}{ops:Array Oper}{rest:List Oper}{Q:St->Prop}{n:Nat}{ts:Ts}{ls ls':List (List D)}{h h':Heap}{fx:Fx}{v:V}{d dg gi:Nat}{op:Op}{ty:TypeId}{pos:String}{aft:Array Edge}{want b:Bool}

theorem AOps.s0 (hs:Cert P ⟨some d,op,ty,pos,aft,none⟩ ts ls h fx v ls h) (hd:Nat.blt d n=true) (hr:AOps P ops rest Q ⟨n,(d,v)::ts,ls,h⟩):AOps P ops (⟨some d,op,ty,pos,aft,none⟩::rest) Q ⟨n,ts,ls,h⟩ :=
 AOps.step hs rfl hd (by cases fx.wl<;>cases fx.wh<;>exact hr)
theorem AOps.sL (hs:Cert P ⟨some d,op,ty,pos,aft,none⟩ ts ls h { wl:=true } v ls' h) (hd:Nat.blt d n=true) (hr:AOps P ops rest Q ⟨n,(d,v)::ts,ls',h⟩):AOps P ops (⟨some d,op,ty,pos,aft,none⟩::rest) Q ⟨n,ts,ls,h⟩ :=
 AOps.step hs rfl hd hr
theorem AOps.sLn (hs:Cert P ⟨none,op,ty,pos,aft,none⟩ ts ls h { wl:=true } v ls' h) (hr:AOps P ops rest Q ⟨n,ts,ls',h⟩):AOps P ops (⟨none,op,ty,pos,aft,none⟩::rest) Q ⟨n,ts,ls,h⟩ :=
 AOps.step hs rfl rfl hr
theorem AOps.sH (hs:Cert P ⟨some d,op,ty,pos,aft,none⟩ ts ls h { rh:=true,wh:=true } v ls h') (hd:Nat.blt d n=true) (hr:AOps P ops rest Q ⟨n,(d,v)::ts,ls,h'⟩):AOps P ops (⟨some d,op,ty,pos,aft,none⟩::rest) Q ⟨n,ts,ls,h⟩ :=
 AOps.step hs rfl hd hr
theorem AOps.sHn (hs:Cert P ⟨none,op,ty,pos,aft,none⟩ ts ls h fx v ls h') (hf:fx.wl=false) (hf':fx.wh=true) (hr:AOps P ops rest Q ⟨n,ts,ls,h'⟩):AOps P ops (⟨none,op,ty,pos,aft,none⟩::rest) Q ⟨n,ts,ls,h⟩ :=
 AOps.step hs rfl rfl (by rw [hf,hf']; exact hr)
theorem AOps.sE {R:V->List (List D)->Heap->Prop}(hs:StepE P ⟨some d,op,ty,pos,aft,none⟩ ts ls h R) (hd:Nat.blt d n=true) (hr:∀v ls' h',R v ls' h'->AOps P ops rest Q ⟨n,(d,v)::ts,ls',h'⟩) :
  AOps P ops (⟨some d,op,ty,pos,aft,none⟩::rest) Q ⟨n,ts,ls,h⟩:=AOps.stepE hs rfl hd hr
theorem guardOf_mk (hg:(ops[gi]?).bind (·.dst)=some dg){dst:Option Tmp}:guardOf ops ⟨dst,op,ty,pos,aft,some (gi,want)⟩=some (dg,want):=by
 simp only [guardOf,hg]

theorem AOps.g0 (hg:(ops[gi]?).bind (·.dst)=some dg) (hb:get ts dg=.a (.d (.bool b))) (hw:b=want) (hs:Cert P ⟨some d,op,ty,pos,aft,some (gi,want)⟩ ts ls h fx v ls h) (hd:Nat.blt d n=true)
  (hr:AOps P ops rest Q ⟨n,(d,v)::ts,ls,h⟩):AOps P ops (⟨some d,op,ty,pos,aft,some (gi,want)⟩::rest) Q ⟨n,ts,ls,h⟩ :=
 AOps.stepW hs (guardOf_mk hg) hb hw hd (by cases fx.wl<;>cases fx.wh<;>exact hr)
theorem AOps.gS (hg:(ops[gi]?).bind (·.dst)=some dg) (hb:get ts dg=.a (.d (.bool b))) (hw:b=!want) (hd:Nat.blt d n=true) (hr:AOps P ops rest Q ⟨n,(d,.any)::ts,ls,h⟩) :
  AOps P ops (⟨some d,op,ty,pos,aft,some (gi,want)⟩::rest) Q ⟨n,ts,ls,h⟩:=AOps.skip (guardOf_mk hg) hb hw hd hr
variable {done:List Fx}
theorem DOps.s0 (hs:Cert P ⟨some d,op,ty,pos,aft,none⟩ ts ls h fx v ls h) (hd:Nat.blt d n=true) (hr:DOps P ops n rest (fx.plain::done) Q ⟨n,(d,v)::ts,ls,h⟩):DOps P ops n (⟨some d,op,ty,pos,aft,none⟩::rest) done Q ⟨n,ts,ls,h⟩ :=
 DOps.cons (CertG.plain hs rfl hd) (by cases fx with|mk a b c d e=>cases b<;>cases d<;>exact hr)
theorem DOps.sLn (hs:Cert P ⟨none,op,ty,pos,aft,none⟩ ts ls h { wl:=true } v ls' h) (hr:DOps P ops n rest ({ wl:=true }::done) Q ⟨n,ts,ls',h⟩):DOps P ops n (⟨none,op,ty,pos,aft,none⟩::rest) done Q ⟨n,ts,ls,h⟩ :=
 DOps.cons (CertG.plain hs rfl rfl) hr
theorem DOps.sH (hs:Cert P ⟨some d,op,ty,pos,aft,none⟩ ts ls h { rh:=true,wh:=true } v ls h') (hd:Nat.blt d n=true) (hr:DOps P ops n rest ({ rh:=true,wh:=true }::done) Q ⟨n,(d,v)::ts,ls,h'⟩) :
  DOps P ops n (⟨some d,op,ty,pos,aft,none⟩::rest) done Q ⟨n,ts,ls,h⟩:=DOps.cons (CertG.plain hs rfl hd) hr
theorem DOps.sHn (hs:Cert P ⟨none,op,ty,pos,aft,none⟩ ts ls h fx v ls h') (hf:fx.wl=false) (hf':fx.wh=true) (hr:DOps P ops n rest (fx.plain::done) Q ⟨n,ts,ls,h'⟩):DOps P ops n (⟨none,op,ty,pos,aft,none⟩::rest) done Q ⟨n,ts,ls,h⟩ :=
 DOps.cons (CertG.plain hs rfl rfl) (by rw [hf,hf']; exact hr)
end

section
variable {P:Program}{ops:Array Oper}{rest:List Oper}{Q:St->Prop}{n:Nat}{ts:Ts}{ls ls':List (List D)}{h h':Heap}{fx:Fx}{x:A}{d dg gi:Nat}{op:Op}{ty:TypeId}{pos:String}{aft:Array Edge}{want C:Bool}

def gc:V->Bool->Option Bool
 | .a (.d (.bool b)),true=>some b
 | .a (.d (.bool b)),false=>some (!b)
 | .gd c (.d (.bool b)),true=>some (c&&b)
 | .gd c (.d (.bool b)),false=>some (c&&!b)
 | _,_=>none

theorem wanted_gc {j:J}{w:World}{jl:List Nat}{a:Act}{o:Oper}(hg:guardOf ops o=some (dg,want)) (hc:gc (get ts dg) want=some C) (h:VRel j w jl (get ts dg) (a.tmps.getD dg undef)) :
  Region.wanted o (yielded ops a.tmps)=C:=by
 cases hv:get ts dg with
 | a y =>
  cases y with
  | d z =>
   cases z with
   | bool b =>
    rw [hv] at hc;cases want<;>simp only [gc,Option.some.injEq] at hc<;>subst hc<;>rw [wanted_some hg hv h]<;>cases b<;>rfl
   | _=>rw [hv] at hc; cases want<;>simp [gc] at hc
  | agg z=>rw [hv] at hc; cases want<;>simp [gc] at hc
 | gd c y =>
  cases y with
  | agg z=>rw [hv] at hc; cases want<;>simp [gc] at hc
  | d z =>
   cases z with
   | bool b =>
    rw [hv] at hc;rw [hv] at h;cases c with
    | true =>
     have h1:VRel j w jl (get [(dg,.a (.d (.bool b)))] dg) (a.tmps.getD dg undef):=by rw [get_same]; exact h.1 rfl
     cases want<;>simp only [gc,Option.some.injEq,Bool.true_and] at hc<;>subst hc<;>rw [wanted_some (ts:=[(dg,.a (.d (.bool b)))]) hg (get_same _ _ _) h1]<;>cases b<;>rfl
    | false =>
     have h2:=h.2 rfl;have hC:C=false:=by cases want<;>simp [gc] at hc<;>exact hc
     subst hC;unfold guardOf at hg
     split at hg
     ·simp at hg
     ·rename_i g wnt hgd
      split at hg
      ·rename_i d' hd'
       simp only [Option.some.injEq,Prod.mk.injEq] at hg;obtain⟨rfl,rfl⟩:=hg;have hs:a.tmps[d']?=none\/a.tmps[d']?=some (.tuple #[]):=by
        rw [Array.getD_eq_getD_getElem?] at h2;cases e:a.tmps[d']? with
        | none=>exact .inl rfl
        | some y=>rw [e] at h2; simp at h2; rw [h2]; exact .inr rfl
       simp only [Region.wanted,hgd,yielded,hd',Option.bind_some];rcases hs with e|e<;>rw [e]<;>rfl
      ·simp at hg
   | _=>rw [hv] at hc; cases want<;>simp [gc] at hc
 | any=>rw [hv] at hc; cases want<;>simp [gc] at hc
 | lptr _ _=>rw [hv] at hc; cases want<;>simp [gc] at hc
 | tup _=>rw [hv] at hc; cases want<;>simp [gc] at hc
 | gdl _ _ _=>rw [hv] at hc; cases want<;>simp [gc] at hc
 | full _ _=>rw [hv] at hc; cases want<;>simp [gc] at hc
 | gdf _ _ _=>rw [hv] at hc; cases want<;>simp [gc] at hc

theorem Cert.ungd {o:Oper}{v:V}{k:Nat}{c:Bool}(hk:get ts k=.gd c x) (hc:c=true) (hs:Cert P o ((k,.a x)::ts) ls h fx v ls' h'):Cert P o ts ls h fx v ls' h':=by
 intro L H hL hH j w jl a hl ho;refine hs L H hL hH j w jl a hl fun y hy=>?_;have h1:=ho y hy;cases y with
 | tmp t =>
  by_cases e:k=t
  ·subst e;simp only [ev] at h1 ⊢;rw [get_same];rw [hk] at h1;exact h1.1 hc
  ·simp only [ev] at h1 ⊢;rw [get_other _ _ e]; exact h1
 | _=>exact h1

theorem Cert.ungdL {o:Oper}{v:V}{k:Nat}{c:Bool}{i off:Nat}(hk:get ts k=.gdl c i off) (hc:c=true) (hs:Cert P o ((k,.lptr i off)::ts) ls h fx v ls' h'):Cert P o ts ls h fx v ls' h':=by
 intro L H hL hH j w jl a hl ho;refine hs L H hL hH j w jl a hl fun y hy=>?_;have h1:=ho y hy;cases y with
 | tmp t =>
  by_cases e:k=t
  ·subst e;simp only [ev] at h1 ⊢;rw [get_same];rw [hk] at h1;exact h1.1 hc
  ·simp only [ev] at h1 ⊢;rw [get_other _ _ e]; exact h1
 | _=>exact h1
theorem AOps.gC {v:V}(hg:(ops[gi]?).bind (·.dst)=some dg) (hc:gc (get ts dg) want=some C) (hs:C=true->Cert P ⟨some d,op,ty,pos,aft,some (gi,want)⟩ ts ls h fx v ls h) (hd:Nat.blt d n=true)
  (hr:AOps P ops rest Q ⟨n,(d,v.under C)::ts,ls,h⟩):AOps P ops (⟨some d,op,ty,pos,aft,some (gi,want)⟩::rest) Q ⟨n,ts,ls,h⟩:=by
 intro j w jl a hsr Qc hk;have hwant:=wanted_gc (o:=⟨some d,op,ty,pos,aft,some (gi,want)⟩) (guardOf_mk hg) hc (hsr.tmps dg);refine wpList_step fun K hK=>?_;rw [hwant];cases C with
 | true =>
  rw [if_pos rfl];refine(hs rfl).step j w jl a hsr.hl (fun x _=>ev_rel hsr.tmps x) K Qc fun v0 l k cv j' w' jl' ⟨e1,e2,e3⟩ hv hl hx hev=>hK _ _ ?_;have e2':l=ls:=by rw [e2]; cases fx.wl<;>rfl
  have e3':k=h:=by rw [e3]; cases fx.wh<;>rfl
  subst e1 e2' e3';exact hr j' w' jl' _ (hsr.put hev.toLe hx (dst:=some d) hd (v:=_) (V.under_true hv) hl) Qc fun σ' j2 w2 jl2 a2 hq hs2 hev2=>hk σ' j2 w2 jl2 a2 hq hs2 (hev.trans hev2)
 | false =>
  simp only [Bool.false_eq_true,if_false];exact hK _ _ (hr j w jl _ (hsr.put (Le.refl _ _) (Ext.refl _) (dst:=some d) hd (v:=v.under false) (V.under_false v) hsr.hl) Qc hk)

theorem DOps.gC {v:V}{done:List Fx}(hg:(ops[gi]?).bind (·.dst)=some dg) (hc:gc (get ts dg) want=some C) (hs:C=true->Cert P ⟨some d,op,ty,pos,aft,some (gi,want)⟩ ts ls h fx v ls h) (hd:Nat.blt d n=true)
  (hr:DOps P ops n rest (fx.plain::done) Q ⟨n,(d,v.under C)::ts,ls,h⟩):DOps P ops n (⟨some d,op,ty,pos,aft,some (gi,want)⟩::rest) done Q ⟨n,ts,ls,h⟩:=by
 refine DOps.cons (fx:=fx) (v:=v.under C) (ls':=ls) (h':=h) ⟨hd,fun L H hL hH j w jl a hl ho K Q hk=>?_⟩ (by cases fx with|mk a b c d e=>cases b<;>cases d<;>exact hr);have hwant:=wanted_gc (o:=⟨some d,op,ty,pos,aft,some (gi,want)⟩) (guardOf_mk hg) hc (ho dg (guard_looks (guardOf_mk hg)));rw [hwant];cases C with
 | true =>
  rw [if_pos rfl];exact hs rfl L H hL hH j w jl a hl (ev_rel_looks ho) K Q fun _ _ _ cv j' w' jl' ⟨e1,e2,e3⟩=>by subst e1 e2 e3; exact fun hv=>hk cv j' w' jl' (V.under_true hv)
 | false =>
  simp only [Bool.false_eq_true,if_false];refine hk undef j w jl (V.under_false v) ?_ (Ext.refl _) ?_
  ·have e1:(bif fx.wl then ls else L)=L:=by cases hw:fx.wl with
    | true=>exact(hL (by rw [hw]; simp)).symm
    | false=>rfl
   have e2:(bif fx.wh then h else H)=H:=by cases hw:fx.wh with
    | true=>exact(hH (by rw [hw]; simp)).symm
    | false=>rfl
   rw [e1,e2]; exact hl
  ·have e2:(bif fx.wh then h else H)=H:=by cases hw:fx.wh with
    | true=>exact(hH (by rw [hw]; simp)).symm
    | false=>rfl
   rw [e2]; exact Evolve.refl _ _ _

variable {dst:Option Tmp}{g:Option (Nat×Bool)}
theorem Cert.pickAnd {c y z:Operand}{b r cy:Bool}(hc:ev ts c=.a (.d (.bool b))) (hy:ev ts y=.gd cy (.d (.bool r))) (himp:b=true->cy=true) (hz:ev ts z=.a (.d (.bool false))) :
  Cert P (mk dst (.pick c y z) ty pos aft g) ts ls h {} (.a (.d (.bool (b&&r)))) ls h :=
 Cert.of_ops fun j w jl a ho=>by
  have h1:=ho c (by simp [Op.operands]);have h2:=ho y (by simp [Op.operands]);have h3:=ho z (by simp [Op.operands]);rw [hc] at h1; rw [hy] at h2; rw [hz] at h3;cases b with
  | true =>
   have h4:VRel j w jl (.a (.d (.bool r))) (a.eval y):=h2.1 (himp rfl);exact⟨.bool r,by simp [execOp,rel_bool h1,rel_bool h4,asBool],by simp only [Bool.true_and]; exact DRel.bool _⟩
  | false=>exact⟨.bool false,by simp [execOp,rel_bool h1,rel_bool h3,asBool],by simp only [Bool.false_and]; exact DRel.bool _⟩
theorem Cert.pickOr {c y z:Operand}{b r cz:Bool}(hc:ev ts c=.a (.d (.bool b))) (hy:ev ts y=.a (.d (.bool true))) (hz:ev ts z=.gd cz (.d (.bool r))) (himp:b=false->cz=true) :
  Cert P (mk dst (.pick c y z) ty pos aft g) ts ls h {} (.a (.d (.bool (b||r)))) ls h :=
 Cert.of_ops fun j w jl a ho=>by
  have h1:=ho c (by simp [Op.operands]);have h2:=ho y (by simp [Op.operands]);have h3:=ho z (by simp [Op.operands]);rw [hc] at h1; rw [hy] at h2; rw [hz] at h3;cases b with
  | false =>
   have h4:VRel j w jl (.a (.d (.bool r))) (a.eval z):=h3.1 (himp rfl);exact⟨.bool r,by simp [execOp,rel_bool h1,rel_bool h4,asBool],by simp only [Bool.false_or]; exact DRel.bool _⟩
  | true=>exact⟨.bool true,by simp [execOp,rel_bool h1,rel_bool h2,asBool],by simp only [Bool.true_or]; exact DRel.bool _⟩
theorem andL {a b:Bool}(h:(a&&b)=true):a=true:=by cases a<;>simp_all
theorem andR {a b:Bool}(h:(a&&b)=true):b=true:=by cases a<;>simp_all
theorem notT {b:Bool}(h:b=false):(!b)=true:=by simp [h]
theorem andI {a b:Bool}(h:a=true) (h':b=true):(a&&b)=true:=by simp [h,h']
end

section
variable {P:Program}{Q:Exit->St->Prop}{σ:St}
theorem xBlock_ret {id:Nat}(h:Q .ret σ):xBlock id Q .ret σ:=h
theorem xThen_ret {K:St->Prop}(h:Q .ret σ):xThen K Q .ret σ:=h
theorem AWp.seqK {x y:Code}(h:∀K:St->Prop,(∀σ,AWp P y Q σ->K σ)->AWp P x (xThen K Q) σ):AWp P (.seq x y) Q σ:=AWp.seq (h _ fun _ h=>h)

theorem AWp.loopW {α:Type}{c:Code}(inv:α->St) (m:α->Nat) (pre:α->Prop) (x0:α) (hσ:Weak σ (inv x0)) (h0:pre x0)
  (hr:∀x,pre x->∀K:St->Prop,(∀σ' y,Weak σ' (inv y)->pre y->m y<m x->K σ')->AWp P c (xThen K Q) (inv x)):AWp P (.loop c) Q σ:=by
 refine AWp.weak hσ (AWp.loop inv m pre x0 h0 fun x hx=>AWp.post (AWp.mono (hr x hx (fun σ'=>∃y,Weak σ' (inv y)/\pre y/\m y<m x) fun σ' y h1 h2 h3=>⟨y,h1,h2,h3⟩) ?_));intro e σ1 hq;cases e with
 | normal=>obtain⟨y,h1,h2,h3⟩:=hq; exact⟨inv y,h1,y,rfl,h2,h3⟩
 | exit _=>exact⟨σ1,Weak.refl _,hq⟩
 | goto _=>exact⟨σ1,Weak.refl _,hq⟩
 | ret=>exact⟨σ1,Weak.refl _,hq⟩
 | panic _=>exact⟨σ1,Weak.refl _,hq⟩
 | outgrown=>exact⟨σ1,Weak.refl _,hq⟩

theorem Weak.keepL {n:Nat}{ts ts':Ts}{ls ls':List (List D)}{h h':Heap}(m:Nat) (hk:Keeps ts m ts') (hl:ls.take m=ls') (hh:h=h'):Weak ⟨n,ts,ls,h⟩ ⟨n,ts',ls',h'⟩:=by
 subst hl hh; exact Weak.keep m hk

def V.noL (m:Nat):V->Bool
 | .lptr i _=>Nat.blt i m
 | .gdl _ i _=>Nat.blt i m
 | _=>true
theorem Keeps.c {ts:Ts}{m:Nat}{k:Nat}{v:V}{r:Ts}(h:Ab.get ts k=v) (hv:v.noL m=true) (t:Keeps ts m r):Keeps ts m ((k,v)::r) :=
 .cons h ⟨fun i off e=>by subst e; simpa [V.noL,Nat.blt_eq] using hv,fun c i off e=>by subst e; simpa [V.noL,Nat.blt_eq] using hv⟩ t
end

inductive KeepsT (ts:Ts):Ts->Prop where
 | nil:KeepsT ts []
 | cons {k:Nat}{v:V}{r:Ts}(h:Ab.get ts k=v) (t:KeepsT ts r):KeepsT ts ((k,v)::r)
inductive Pfx {α:Type}:List α->List α->Prop where
 | nil {l:List α}:Pfx [] l
 | cons {a:α}{l l':List α}(h:Pfx l l'):Pfx (a::l) (a::l')
theorem Pfx.take {α:Type}{l l':List α}(h:Pfx l l'):l'.take l.length=l:=by
 induction h with
 | nil=>simp
 | cons _ ih=>simp [ih]

theorem Weak.to {n:Nat}{ts ts':Ts}{ls ls':List (List D)}{h h':Heap}(hk:Keeps ts ls'.length ts') (hl:Pfx ls' ls) (hh:h=h'):Weak ⟨n,ts,ls,h⟩ ⟨n,ts',ls',h'⟩ :=
 Weak.keepL ls'.length hk hl.take hh
section
variable {P:Program}{Q:Exit->St->Prop}{n:Nat}{ts0 ts:Ts}{ls:List (List D)}{h:Heap}
theorem AWp.loopO {α:Type}{c:Code}(_:KeepsT ts0 ts) (over:α->Ts) (lo:α->List (List D)) (hh:α->Heap) (m:α->Nat) (pre:α->Prop) (x0:α) (h0:pre x0) (hi:Weak ⟨n,ts0,ls,h⟩ ⟨n,over x0++ts,lo x0,hh x0⟩)
  (hr:∀x,pre x->∀K:St->Prop,(∀σ' y,Weak σ' ⟨n,over y++ts,lo y,hh y⟩->pre y->m y<m x->K σ')->AWp P c (xThen K Q) ⟨n,over x++ts,lo x,hh x⟩):AWp P (.loop c) Q ⟨n,ts0,ls,h⟩ :=
 AWp.loopW (fun x=>⟨n,over x++ts,lo x,hh x⟩) m pre x0 hi h0 hr
theorem AWp.seqJ {α:Type}{x y:Code}(_:KeepsT ts0 ts) (over:α->Ts) (lo:α->List (List D)) (hh:α->Heap) (pre:α->Prop)
  (hx:∀K:St->Prop,(∀σ' y,Weak σ' ⟨n,over y++ts,lo y,hh y⟩->pre y->K σ')->AWp P x (xThen K Q) ⟨n,ts0,ls,h⟩) (hy:∀z,pre z->AWp P y Q ⟨n,over z++ts,lo z,hh z⟩):AWp P (.seq x y) Q ⟨n,ts0,ls,h⟩:=by
 refine AWp.seq (AWp.post (AWp.mono (hx (fun σ'=>∃z,Weak σ' ⟨n,over z++ts,lo z,hh z⟩/\pre z) fun σ' z h1 h2=>⟨z,h1,h2⟩) ?_));intro e σ1 hq;cases e with
 | normal=>obtain⟨z,h1,h2⟩:=hq; exact⟨_,h1,hy z h2⟩
 | exit _=>exact⟨σ1,Weak.refl _,hq⟩
 | goto _=>exact⟨σ1,Weak.refl _,hq⟩
 | ret=>exact⟨σ1,Weak.refl _,hq⟩
 | panic _=>exact⟨σ1,Weak.refl _,hq⟩
 | outgrown=>exact⟨σ1,Weak.refl _,hq⟩

theorem AWp.loopH {α:Type}{c:Code}(_:KeepsT ts0 ts) (over:α->Ts) (hh:α->Heap) (m:α->Nat) (pre:α->Prop) (x0:α) (h0:pre x0) (hi:Weak ⟨n,ts0,ls,h⟩ ⟨n,over x0++ts,ls,hh x0⟩)
  (hr:∀x,pre x->∀K:St->Prop,(∀σ' y,Weak σ' ⟨n,over y++ts,ls,hh y⟩->pre y->m y<m x->K σ')->AWp P c (xThen K Q) ⟨n,over x++ts,ls,hh x⟩):AWp P (.loop c) Q ⟨n,ts0,ls,h⟩ :=
 AWp.loopO ‹_› over (fun _=>ls) hh m pre x0 h0 hi hr
theorem AWp.seqJH {α:Type}{x y:Code}(_:KeepsT ts0 ts) (over:α->Ts) (hh:α->Heap) (pre:α->Prop)
  (hx:∀K:St->Prop,(∀σ' y,Weak σ' ⟨n,over y++ts,ls,hh y⟩->pre y->K σ')->AWp P x (xThen K Q) ⟨n,ts0,ls,h⟩) (hy:∀z,pre z->AWp P y Q ⟨n,over z++ts,ls,hh z⟩):AWp P (.seq x y) Q ⟨n,ts0,ls,h⟩ :=
 AWp.seqJ ‹_› over (fun _=>ls) hh pre hx hy
end
end Go.Ab

/-
 The program's data types (package api) as plain Lean types,and how each is laid out in cells.
-/
namespace Go.Ab
open Go Go.RowKit
variable {lou:Lou}

abbrev Str:={ s:List UInt8 // s.length<=maxN }

def strC (s:Str):List D:=[.str s.1]
def intC (n:Int):List D:=[.int .i64 n]

end Go.Ab

/-
 What the functions of package schema compute,in plain terms.
-/
namespace Go.Ab.Sch
open Go Go.Ab
end Go.Ab.Sch

/-
 Heaps in normal form; nil slices given a token where they are passed.
-/
namespace Go.Ab
open Go Go.RowKit
variable {lou:Lou}
variable {amb:Amb}

theorem Heap.sub_set {h:Heap}{i:Nat}{o:Option Obj}(hi:h i=none):∀id ob,h id=some ob->(h.set i o) id=some ob:=by
 intro id ob e; rw [Heap.set_other]; exact e;intro he; rw [he,hi] at e; cases e

inductive AsArg (h:Heap):A->A->Prop where
 | refl (x:A):AsArg h x x
 | nil {k k' t:Nat}{o:Obj}(ht:h t=some o):AsArg h (.d (.slice k none true [])) (.d (.slice k' (some t) true []))
 | nil0 {k k':Nat}:AsArg h (.d (.slice k none true [])) (.d (.slice k' none true []))
theorem AsArg.rel {h:Heap}{x y:A}(ha:AsArg h x y){j:J}{w:World}{v:Value}(hh:HRel j w h) (hx:ARel j w x v):ARel j w y v:=by
 cases ha with
 | refl=>exact hx
 | @nil k k' t o ht =>
  have hv':DRel j w (.slice k none true []) v:=hx;cases hv';exact DRel.snil _ _ fun t' e=>by simp at e; subst e; exact(hh.obj _ _ ht).1
 | @nil0 k k' =>
  have hv':DRel j w (.slice k none true []) v:=hx;cases hv';exact DRel.snil _ _ fun t' e=>by cases e

theorem xBlock_exit {id:Nat}{Q:Exit->St->Prop}{σ:St}(h:Q .normal σ):xBlock id Q (.exit id) σ:=by
 unfold xBlock; simpa using h
theorem xThen_exit {id:Nat}{K:St->Prop}{Q:Exit->St->Prop}{σ:St}(h:Q (.exit id) σ):xThen K Q (.exit id) σ:=h
theorem AWp.tok {P:Program}{c:Code}{Q:Exit->St->Prop}{n:Nat}{ts:Ts}{ls:List (List D)}{h:Heap}(k:Nat)
  (hw:∀t,h t=none->AWp P c Q ⟨n,ts,ls,h.set t (some (.tok k 0))⟩):AWp P c Q ⟨n,ts,ls,h⟩:=by
 intro j w jl a hsr;obtain⟨h1,h2⟩:=hsr.hl.newTok k;have hnone:=hsr.hl.1.next_none (Nat.le_refl _);refine wp_mono (hw j.next hnone j.newTok w jl a ⟨hsr.defers,hsr.size,fun i=>(hsr.tmps i).mono h2.toLe (Ext.refl _),h1⟩) fun e a w hq=>AQ.trans h2 hq
theorem AWp.nilTok {P:Program}{c:Code}{Q:Exit->St->Prop}{n:Nat}{ts:Ts}{ls:List (List D)}{h:Heap}(s k t:Nat){o:Obj}{k0:Nat}(hs:get ts s=.a (.d (.slice k0 none true []))) (ht:h t=some o)
  (hw:AWp P c Q ⟨n,(s,.a (.d (.slice k (some t) true [])))::ts,ls,h⟩):AWp P c Q ⟨n,ts,ls,h⟩:=by
 intro j w jl a hsr;refine hw j w jl a ⟨hsr.defers,hsr.size,fun i=>?_,hsr.hl⟩;by_cases e:s=i
 ·subst e;show VRel _ _ _ (get ((s,_)::ts) s) _;rw [get_same];have hv:VRel j w jl (get ts s) (a.tmps.getD s undef):=hsr.tmps s;rw [hs] at hv;exact(AsArg.nil (k':=k) ht).rel hsr.hl.1 hv
 ·show VRel _ _ _ (get ((s,_)::ts) i) _;rw [get_other _ _ e];exact hsr.tmps i
theorem AWp.dropTok {P:Program}{c:Code}{Q:Exit->St->Prop}{n:Nat}{ts:Ts}{ls:List (List D)}{h:Heap}(s:Nat){k:Nat}{tk:Option Nat}{nl:Bool}{rows:List (List D)}(hs:get ts s=.a (.d (.slice k tk nl rows)))
  (hw:AWp P c Q ⟨n,(s,.a (.d (.slice k none nl rows)))::ts,ls,h⟩):AWp P c Q ⟨n,ts,ls,h⟩:=by
 intro j w jl a hsr;refine hw j w jl a ⟨hsr.defers,hsr.size,fun i=>?_,hsr.hl⟩;by_cases e:s=i
 ·subst e;show VRel _ _ _ (get ((s,_)::ts) s) _;rw [get_same];have hv:VRel j w jl (get ts s) (a.tmps.getD s undef):=hsr.tmps s;rw [hs] at hv;have hv':DRel j w (.slice k tk nl rows) (a.tmps.getD s undef):=hv;generalize a.tmps.getD s undef=x at hv' ⊢;cases hv' with
  | snil=>exact DRel.snil _ _ fun t e=>by cases e
  | slice _ _ _ a cap cv hk hn hc hat hr ht=>exact DRel.slice _ _ _ a cap cv hk hn hc hat hr fun t e=>by cases e
 ·show VRel _ _ _ (get ((s,_)::ts) i) _;rw [get_other _ _ e];exact hsr.tmps i
theorem retQ.retF {T:List TI}{rs:List ResultVar}{Post:V->Heap->Prop}{σ:St}{xs:List A}(h':Heap) (h:resAs T σ rs=some xs) (hp:Post (resV xs) h') (hs:∀id o,h' id=some o->σ.h id=some o):retQ T rs Post .ret σ:=⟨.inr rfl,xs,h',h,hs,hp⟩
theorem retQ.normalF {T:List TI}{rs:List ResultVar}{Post:V->Heap->Prop}{σ:St}{xs:List A}(h':Heap) (h:resAs T σ rs=some xs) (hp:Post (resV xs) h') (hs:∀id o,h' id=some o->σ.h id=some o):retQ T rs Post .normal σ:=⟨.inl rfl,xs,h',h,hs,hp⟩
section
variable {P:Program}{dst:Option Tmp}{ty:TypeId}{pos:String}{aft:Array Edge}{g:Option (Nat×Bool)}{ts:Ts}{ls:List (List D)}{h:Heap}
end
section
variable {P:Program}{dst:Option Tmp}{ty:TypeId}{pos:String}{aft:Array Edge}{g:Option (Nat×Bool)}{ts:Ts}{ls:List (List D)}{h:Heap}
end
end Go.Ab

/-
 Variables that turn no more: a box that is only read,and a local that becomes data.
-/
namespace Go.Ab
open Go Go.RowKit
variable {lou:Lou}
variable {amb:Amb}

theorem view_of {j:J}{w:World}{b:Nat}{xs:List D}{cs:List Value}{e:TypeId}{n:Nat}(hh:w.heap[b]?=some (.cells cs.toArray e (0,0))) (hx:All2 (DRel j w) xs cs) (hF:xs.length<=j.F b) :
  DRel j w (.view xs) (.pointer (some ⟨b,0,none⟩)):=by
 refine DRel.view xs _ (fun i=>cs.getD i default) ⟨rfl,fun i hi=>?_⟩ fun i hi=>?_
 ·have hi':i<cs.length:=hx.length▸hi;refine⟨by show 0+i<j.F b; omega, ?_⟩;show w.cell? ⟨b,0+i,none⟩=_;rw [Nat.zero_add,cell_of_row w b i cs.toArray e (0,0) hh];simp [hi']
 ·obtain⟨v,hv,hr⟩:=hx.get (List.getElem?_eq_getElem hi);have:cs.getD i default=v:=by rw [List.getD_eq_getElem?_getD,hv]; rfl
  rw [this]; exact hr

section
variable {P:Program}{dst:Option Tmp}{ty:TypeId}{pos:String}{aft:Array Edge}{g:Option (Nat×Bool)}{ts:Ts}{ls:List (List D)}{h:Heap}
theorem Cert.boxV {e:TypeId}{x:Operand}{y:A}(hx:ev ts x=.a y):Cert P (mk dst (.box e x) ty pos aft g) ts ls h {} (.a (.d (.view (cellsA y)))) ls h:=by
 refine Cert.of_run fun L H _ _ j w jl a hl ho=>?_;have h1:=ho x (by simp [Op.operands]);rw [hx] at h1;have h1':ARel j w y (a.eval x):=h1;obtain⟨hd1,hd2⟩:=hl.data (.cells (a.eval x).cells e) (cellsA y).length;refine⟨.value (.pointer (some ⟨w.heap.size,0,none⟩)),_,.pointer (some ⟨w.heap.size,0,none⟩),j.frz w.heap.size (cellsA y).length,jl,by simp [execOp,Instr.box,newVar,newRow],.inl rfl, ?_,hd1,Ext.refl _,hd2⟩
 refine view_of (n:=0) (cs:=(a.eval x).cells.toList) (e:=e) ?_ (h1'.cells.imp fun _ _ h=>h.mono hd2.toLe) (by simp [J.frz]);rw [Array.toArray_toList]; exact heap_alloc_new w _

variable {c:Code}{Q:Exit->St->Prop}{n:Nat}
theorem Weak.freeze {ts':Ts}{ls':List (List D)}{xs:List D}(s i:Nat) (hs:get ts s=.lptr i 0) (hl:Snoc xs ls' i ls) (hk:Keeps ts i ts'):Weak ⟨n,ts,ls,h⟩ ⟨n,(s,.a (.d (.view xs)))::ts',ls',h⟩:=by
 obtain⟨hi,e⟩:=hl.spec;subst hi e;intro j w jl a hsr;have hlr:=hsr.hl;obtain⟨b,hb,hbv⟩:∃b,jl[ls'.length]?=some b/\a.tmps.getD s undef=.pointer (some ⟨b,0,none⟩):=by
  have:=hsr.tmps s;have this:VRel j w jl (get ts s) (a.tmps.getD s undef):=this;rw [hs] at this; exact this
 obtain⟨xs',hxs,cs,te,hheap,hcs,hF⟩:∃xs',(ls'++[xs])[ls'.length]?=some xs'/\Loc1 j w b xs':=hlr.2.each.get' hb;simp at hxs; subst hxs;have hlt:=lt_of_heap hheap;have htr:=hlr.trim (lou:=lou) ls'.length;rw [List.take_left' rfl] at htr;have hnb:b∉jl.take ls'.length:=by
  intro hm;obtain⟨k,hk1,hk2⟩:=List.getElem_of_mem hm;rw [List.length_take] at hk1;have h1:jl[k]?=some b:=by rw [<- hk2,List.getElem_take]; exact List.getElem?_eq_getElem _
  have h2:=(List.getElem?_inj (by omega) hlr.2.nodup).1 (h1.trans hb.symm);omega
 have hnown:¬Own j h (jl.take ls'.length) b:=by
  rintro (hm|⟨id,o,h1,h2⟩)
  ·exact hnb hm
  ·exact hlr.2.apart b (List.mem_of_getElem? hb) (.inr ⟨id,o,h1,h2⟩)
 have hle:Le j w (j.frz b xs.length) w:=⟨Nat.le_refl _,fun _ _=>rfl,fun b'=>by
  simp only [J.frz]
  split
  ·rename_i e; rw [e,hF]; exact Nat.zero_le _
  ·exact Nat.le_refl _,fun _ _ _=>rfl,fun _ _=>.inl rfl⟩
 have hsame:∀b',b'≠b->(j.frz b xs.length).F b'=j.F b':=fun b' hne=>by simp only [J.frz]; rw [if_neg hne]
 have hk2:=htr.1.keep hle (fun b' ho=>⟨rfl,hsame b' (fun e=>hnown (e▸ho))⟩) (fun _ _ _=>rfl) (fun b' hb'=>by rw [hsame b' (by omega)]; exact hlr.1.fresh b' hb');refine⟨j.frz b xs.length,jl.take ls'.length,⟨hsr.defers,hsr.size,fun k=>?_,hk2.1⟩, ?_⟩
 ·by_cases e:s=k
  ·subst e;show VRel _ _ _ (get ((s,_)::ts') s) _;rw [get_same];have hbv:a.tmps.getD s undef=.pointer (some ⟨b,0,none⟩):=hbv;rw [hbv];exact view_of (n:=0) hheap (hcs.imp fun _ _ h=>h.mono hle) (by simp [J.frz])
  ·show VRel _ _ _ (get ((s,_)::ts') k) _;rw [get_other _ _ e];obtain⟨j2,jl2,hs2,_⟩:=Weak.keep (lou:=lou) (n:=n) (ls:=ls'++[xs]) (h:=h) ls'.length hk j w jl a hsr;have hv:VRel j w jl (get ts k) (a.tmps.getD k undef):=hsr.tmps k;rcases hk.get k with e2|⟨e2,hlt1,hlt2⟩
   ·rw [e2]; trivial
   ·rw [<- e2] at hv;cases hx:get ts' k with
    | any=>trivial
    | a x=>rw [hx] at hv; exact ARel.mono hle hv
    | lptr i off =>
     rw [hx] at hv;obtain⟨b2,hb2,e'⟩:=hv;exact⟨b2,by rw [List.getElem?_take_of_lt (hlt1 i off hx)]; exact hb2,e'⟩
    | tup xs=>rw [hx] at hv; obtain⟨cs,e,hh⟩:=hv; exact⟨cs,e,hh.imp fun _ _ h=>h.mono hle⟩
    | gd c x=>rw [hx] at hv; exact⟨fun hc=>ARel.mono hle (hv.1 hc),hv.2⟩
    | full k rows=>rw [hx] at hv; exact⟨DRel.mono hle hv.1,hv.2⟩
    | gdf c k rows=>rw [hx] at hv; exact⟨fun hc=>⟨DRel.mono hle (hv.1 hc).1,(hv.1 hc).2⟩,hv.2⟩
    | gdl c i off =>
     rw [hx] at hv;refine⟨fun hc=>?_,hv.2⟩;obtain⟨b2,hb2,e'⟩:=hv.1 hc;exact⟨b2,by rw [List.getElem?_take_of_lt (hlt2 c i off hx)]; exact hb2,e'⟩
 ·refine { toLe:=hle,size:=Nat.le_refl _,frame:=fun b' _ ho=>⟨rfl,hsame b' fun e=>ho (.inl (e▸List.mem_of_getElem? hb))⟩,own:=fun b' _ ho=>?_,os:=rfl,tape:=rfl,output:=Outs.rfl };rcases (hk2.2 b').1 ho with hm|hm
  ·exact .inl (List.mem_of_mem_take hm)
  ·exact .inr hm
theorem AWp.freeze {ts':Ts}{ls':List (List D)}{xs:List D}(s i:Nat) (hs:get ts s=.lptr i 0) (hl:Snoc xs ls' i ls) (hk:Keeps ts i ts') (hw:AWp P c Q ⟨n,(s,.a (.d (.view xs)))::ts',ls',h⟩):AWp P c Q ⟨n,ts,ls,h⟩ :=
 AWp.weak (Weak.freeze s i hs hl hk) hw
end
theorem slice_dropTok {k:Nat}{tk:Option Nat}{nl:Bool}{rows:List (List D)}(j:J) (w:World) (cv:Value) (h:VRel j w [] (.a (.d (.slice k tk nl rows))) cv):VRel j w [] (.a (.d (.slice k none nl rows))) cv:=by
 have h':DRel j w (.slice k tk nl rows) cv:=h;cases h' with
 | snil=>exact DRel.snil _ _ fun t e=>by cases e
 | slice _ _ _ a cap cv hk hn hc hat hr ht=>exact DRel.slice _ _ _ a cap cv hk hn hc hat hr fun t e=>by cases e
end Go.Ab

/-
 Names and violations in plain terms; the reference's functions of layer 10.
-/
namespace Go.Ab.Sch
open Go Go.Ab
end Go.Ab.Sch

/-
 Layer 10: input types that contain themselves,plainly: the reference's list and what can be reached.
-/
namespace Go.Ab.Sch
open Go Go.Ab

end Go.Ab.Sch

/-
 The checker of package schema as an object.
-/
namespace Go.Ab
open Go Go.RowKit
variable {lou:Lou}
variable {amb:Amb}
theorem Own.recell {j:J}{h:Heap}{c:Nat}{xs ys:List D}(hc:h c=some (.cells xs)){jl:List Nat}{b:Nat}:Own j (h.set c (some (.cells ys))) jl b↔Own j h jl b:=by
 constructor
 ·rintro (h1|⟨id,o,h1,h2⟩)
  ·exact .inl h1
  ·by_cases e:id=c
   ·subst e; rw [Heap.set_same] at h1; simp only [Option.some.injEq] at h1; subst h1;exact .inr ⟨id,_,hc,h2⟩
   ·rw [Heap.set_other _ _ e] at h1; exact .inr ⟨id,o,h1,h2⟩
 ·rintro (h1|⟨id,o,h1,h2⟩)
  ·exact .inl h1
  ·by_cases e:id=c
   ·subst e; rw [hc] at h1; simp only [Option.some.injEq] at h1; subst h1;exact .inr ⟨id,_,Heap.set_same _ _ _,h2⟩
   ·exact .inr ⟨id,o,by rw [Heap.set_other _ _ e]; exact h1,h2⟩
theorem HRel.recell {j:J}{w:World}{h:Heap}{c:Nat}{xs ys:List D}(hr:HRel j w h) (hc:h c=some (.cells xs)) (hy:∀cs,All2 (DRel j w) xs cs->All2 (DRel j w) ys cs):HRel j w (h.set c (some (.cells ys))):=by
 have key:∀id o,(h.set c (some (.cells ys))) id=some o->∃o',h id=some o'/\blkOf j id o=blkOf j id o':=by
  intro id o ho;by_cases e:id=c
  ·subst e; rw [Heap.set_same] at ho; simp only [Option.some.injEq] at ho; subst ho;exact⟨_,hc,rfl⟩
  ·rw [Heap.set_other _ _ e] at ho; exact⟨o,ho,rfl⟩
 refine⟨fun id o ho=>?_,fun id1 o1 id2 o2 b h1 h2 e1 e2=>?_,hr.fresh⟩
 ·by_cases e:id=c
  ·subst e; rw [Heap.set_same] at ho; simp only [Option.some.injEq] at ho; subst ho;obtain⟨hn,cs,te,h1,h2,h3⟩:=hr.obj _ _ hc;exact⟨hn,cs,te,h1,hy _ h2,h3⟩
  ·rw [Heap.set_other _ _ e] at ho; exact hr.obj _ _ ho
 ·obtain⟨p1,hp1,ep1⟩:=key _ _ h1;obtain⟨p2,hp2,ep2⟩:=key _ _ h2;exact hr.inj _ _ _ _ b hp1 hp2 (ep1▸e1) (ep2▸e2)
theorem AWp.relocal {P:Program}{c:Code}{Q:Exit->St->Prop}{n:Nat}{ts:Ts}{ls:List (List D)}{h:Heap}(i:Nat){xs:List D}(ys:List D) (hc:ls[i]?=some xs) (hy:∀j w cs,HRel j w h->All2 (DRel j w) xs cs->All2 (DRel j w) ys cs)
  (hw:AWp P c Q ⟨n,ts,ls.set i ys,h⟩):AWp P c Q ⟨n,ts,ls,h⟩:=by
 intro j w jl a hsr;have hl:=hsr.hl;have hea:All2 (fun xs b=>Loc1 j w b xs) (ls.set i ys) jl:=by
  refine All2.of_get (by rw [List.length_set,hl.2.each.length]) fun k x b hx hb=>?_;rw [List.getElem?_set] at hx
  split at hx
  ·rename_i e
   subst e
   split at hx
   ·simp only [Option.some.injEq] at hx; subst hx;obtain⟨b',hb',cs,te,h1,h2,h3⟩:=hl.2.each.get hc;rw [hb] at hb'; simp only [Option.some.injEq] at hb'; subst hb';exact⟨cs,te,h1,hy j w _ hl.1 h2,h3⟩
   ·cases hx
  ·obtain⟨b',hb',h1⟩:=hl.2.each.get hx;rw [hb] at hb'; simp only [Option.some.injEq] at hb'; subst hb';exact h1
 exact hw j w jl a ⟨hsr.defers,hsr.size,hsr.tmps,⟨hl.1,⟨hea,hl.2.nodup,hl.2.apart⟩⟩⟩
end Go.Ab
namespace Go.Ab.Sch
open Go Go.Ab
end Go.Ab.Sch

/-
 Models: functions that may have no answer; the rules by which a walk follows its function's model.
-/
namespace Go.Ab
open Go Go.RowKit
variable {lou:Lou}
variable {amb:Amb}

structure Sl (α:Type) where
 nl:Bool
 l:List α
abbrev Bs:=List UInt8
def Sl.d {α:Type}(k:Nat) (f:α->List D) (t:Option Nat) (s:Sl α):D:=.slice k t s.nl (s.l.map f)
def Sl.nil {α:Type}:Sl α:=⟨true,[]⟩
def strE (s:Bs):List D:=[.str s]
def boolE (b:Bool):List D:=[.bool b]
def intE (k:IntKind) (n:Int):List D:=[.int k n]

def addC (a b:Int):Option Int:=if -9223372036854775808<=a+b/\a+b<=9223372036854775807 then some (a+b) else none
def subC (a b:Int):Option Int:=if -9223372036854775808<=a-b/\a-b<=9223372036854775807 then some (a-b) else none
def mulC (a b:Int):Option Int:=if -9223372036854775808<=a*b/\a*b<=9223372036854775807 then some (a*b) else none
def idxC {α:Type}(l:List α) (n:Int):Option α:=if 0<=n then l[n.toNat]? else none
def catC (a b:Bs):Option Bs:=if a.length+b.length<=maxS then some (a++b) else none
def appC {α:Type}(z:Nat) (s r:Sl α):Option (Sl α):=if (s.l.length+r.l.length)*z<=maxN/\s.l.length+r.l.length<=maxN then some ⟨s.nl&&r.l.isEmpty,s.l++r.l⟩ else none
def partC {α:Type}(s:Sl α) (lo hi:Option Int):Option (Sl α) :=
 if 0<=lo.getD 0/\lo.getD 0<=hi.getD s.l.length/\hi.getD s.l.length<=s.l.length then some ⟨s.nl,(s.l.take (hi.getD s.l.length).toNat).drop (lo.getD 0).toNat⟩ else none
def cutC (s:Bs) (lo hi:Option Int):Option Bs :=
 if 0<=lo.getD 0/\lo.getD 0<=hi.getD s.length/\hi.getD s.length<=s.length then some ((s.take (hi.getD s.length).toNat).drop (lo.getD 0).toNat) else none
def guardO {α β:Type}(c:Bool) (o:Option α) (d:α) (k:α->Option β):Option β:=if c=true then o.bind k else k d

theorem addC_some {a b x:Int}(h:addC a b=some x):x=a+b /\ -9223372036854775808<=a+b/\a+b<=9223372036854775807:=by
 unfold addC at h; split at h
 ·rename_i h2; simp at h; exact⟨h.symm,h2⟩
 ·cases h
theorem subC_some {a b x:Int}(h:subC a b=some x):x=a-b /\ -9223372036854775808<=a-b/\a-b<=9223372036854775807:=by
 unfold subC at h; split at h
 ·rename_i h2; simp at h; exact⟨h.symm,h2⟩
 ·cases h
theorem mulC_some {a b x:Int}(h:mulC a b=some x):x=a*b /\ -9223372036854775808<=a*b/\a*b<=9223372036854775807:=by
 unfold mulC at h; split at h
 ·rename_i h2; simp at h; exact⟨h.symm,h2⟩
 ·cases h
theorem idxC_some {α:Type}{l:List α}{n:Int}{x:α}(h:idxC l n=some x):0<=n/\l[n.toNat]?=some x:=by
 unfold idxC at h; split at h
 ·rename_i h2; exact⟨h2,h⟩
 ·cases h
theorem catC_some {a b x:Bs}(h:catC a b=some x):x=a++b/\a.length+b.length<=maxS:=by
 unfold catC at h; split at h
 ·rename_i h2; simp at h; exact⟨h.symm,h2⟩
 ·cases h
theorem appC_some {α:Type}{z:Nat}{s r x:Sl α}(h:appC z s r=some x):x=⟨s.nl&&r.l.isEmpty,s.l++r.l⟩/\(s.l.length+r.l.length)*z<=maxN/\s.l.length+r.l.length<=maxN:=by
 unfold appC at h; split at h
 ·rename_i h2; simp only [Option.some.injEq] at h; exact⟨h.symm,h2⟩
 ·cases h
theorem guardO_some {α β:Type}{c:Bool}{o:Option α}{d:α}{k:α->Option β}{r:β}(h:guardO c o d k=some r):∃x,(c=true->o=some x)/\k x=some r:=by
 unfold guardO at h; split at h
 ·obtain⟨x,h1,h2⟩:=Option.bind_eq_some_iff.1 h; exact⟨x,fun _=>h1,h2⟩
 ·rename_i h2; exact⟨d,fun e=>absurd e h2,h⟩
theorem bindO_some {α β:Type}{o:Option α}{k:α->Option β}{r:β}(h:o.bind k=some r):∃x,o=some x/\k x=some r:=Option.bind_eq_some_iff.1 h
theorem condT {α:Type}{c:Bool}{A B:Option α}{r:α}(hc:c=true) (h:(bif c then A else B)=some r):A=some r:=by subst hc; exact h
theorem condF {α:Type}{c:Bool}{A B:Option α}{r:α}(hc:c=false) (h:(bif c then A else B)=some r):B=some r:=by subst hc; exact h

section
variable {P:Program}{dst:Option Tmp}{ty:TypeId}{pos:String}{aft:Array Edge}{g:Option (Nat×Bool)}{ts:Ts}{ls:List (List D)}{h:Heap}{α:Type}{f:α->List D}
theorem Cert.lenM' {t e:TypeId}{ti:TI}{x:Operand}{ats:Array TypeId}{k:Nat}{tok:Option Nat}{s:Sl α}(hT:mkTI P t=some ti) (hk:ti.k=.slice e) (hat:ats[0]?=some t)
  (hx:ev ts x=.a (.d (s.d k f tok))):Cert P (mk dst (.call { callee:=.builtin .len,args:=#[x],argTypes:=ats }) ty pos aft g) ts ls h {} (.a (.d (.int .i64 (s.l.length:Int)))) ls h:=by
 have:=Cert.lenA (lou:=lou) (P:=P) (dst:=dst) (ty:=ty) (pos:=pos) (aft:=aft) (g:=g) (ls:=ls) (h:=h) hT hk hat hx
 rwa [List.length_map] at this
theorem Cert.idxM {t e:TypeId}{ti ei:TI}{x ix:Operand}{tok:Option Nat}{s:Sl α}{ik:IntKind}{n:Int}{y:α}{k:Nat}(hT:mkTI P t=some ti) (hk:ti.k=.slice e) (hE:mkTI P e=some ei)
  (hx:ev ts x=.a (.d (s.d k f tok))) (hi:ev ts ix=.a (.d (.int ik n))) (hkk:k=ei.size) (hr:idxC s.l n=some y) :
  Cert P (mk dst (.indexAddr t x ix) ty pos aft g) ts ls h {} (.a (.d (.view (f y)))) ls h:=by
 obtain⟨h1,h2⟩:=idxC_some hr;exact Cert.indexA hT hk hE hx hi hkk h1 (by rw [List.getElem?_map,h2]; rfl)
theorem Cert.idxMn {t e:TypeId}{ti ei:TI}{x ix:Operand}{tok:Option Nat}{s:Sl α}{ik:IntKind}{n:Nat}{y:α}{k:Nat}(hT:mkTI P t=some ti) (hk:ti.k=.slice e) (hE:mkTI P e=some ei)
  (hx:ev ts x=.a (.d (s.d k f tok))) (hi:ev ts ix=.a (.d (.int ik (n:Int)))) (hkk:k=ei.size) (hr:s.l[n]?=some y) :
  Cert P (mk dst (.indexAddr t x ix) ty pos aft g) ts ls h {} (.a (.d (.view (f y)))) ls h :=
 Cert.indexA hT hk hE hx hi hkk (by omega) (by rw [Int.toNat_natCast,List.getElem?_map,hr]; rfl)
theorem Cert.idxS {t:TypeId}{ti:TI}{x ix:Operand}{s:Bs}{ik:IntKind}{n:Int}{c:UInt8}(hT:mkTI P t=some ti) (hk:ti.k=.str) (hx:ev ts x=.a (.d (.str s))) (hi:ev ts ix=.a (.d (.int ik n))) (hr:idxC s n=some c) :
  Cert P (mk dst (.index t x ix) ty pos aft g) ts ls h {} (.a (.d (.int .u8 (c.toNat:Int)))) ls h:=by
 obtain⟨h1,h2⟩:=idxC_some hr;exact Cert.indexS hT hk hx hi h1 h2
theorem Cert.idxSn {t:TypeId}{ti:TI}{x ix:Operand}{s:Bs}{ik:IntKind}{n:Nat}{c:UInt8}(hT:mkTI P t=some ti) (hk:ti.k=.str) (hx:ev ts x=.a (.d (.str s))) (hi:ev ts ix=.a (.d (.int ik (n:Int)))) (hr:s[n]?=some c) :
  Cert P (mk dst (.index t x ix) ty pos aft g) ts ls h {} (.a (.d (.int .u8 (c.toNat:Int)))) ls h :=
 Cert.indexS hT hk hx hi (by omega) (by rw [Int.toNat_natCast]; exact hr)
theorem Cert.addM {t u:TypeId}{x y:Operand}{m n r:Int}(hx:ev ts x=.a (.d (.int .i64 m))) (hy:ev ts y=.a (.d (.int .i64 n))) (hr:addC m n=some r):Cert P (mk dst (.binOp .add t x y u) ty pos aft g) ts ls h {} (.a (.d (.int .i64 r))) ls h:=by
 obtain⟨e,h1,h2⟩:=addC_some hr;subst e; exact Cert.addI hx hy h1 h2
theorem Cert.subM {t u:TypeId}{x y:Operand}{m n r:Int}(hx:ev ts x=.a (.d (.int .i64 m))) (hy:ev ts y=.a (.d (.int .i64 n))) (hr:subC m n=some r):Cert P (mk dst (.binOp .sub t x y u) ty pos aft g) ts ls h {} (.a (.d (.int .i64 r))) ls h:=by
 obtain⟨e,h1,h2⟩:=subC_some hr;subst e; exact Cert.subI hx hy h1 h2
theorem Cert.mulM {t u:TypeId}{x y:Operand}{m n r:Int}(hx:ev ts x=.a (.d (.int .i64 m))) (hy:ev ts y=.a (.d (.int .i64 n))) (hr:mulC m n=some r):Cert P (mk dst (.binOp .mul t x y u) ty pos aft g) ts ls h {} (.a (.d (.int .i64 r))) ls h:=by
 obtain⟨e,h1,h2⟩:=mulC_some hr;subst e;refine Cert.binI hx hy ?_;simp only [intV,Option.some.injEq,D.int.injEq,true_and];generalize m*n=p at h1 h2 ⊢;simp only [IntKind.wrap,IntKind.bits,IntKind.signed]; simp; omega
theorem Cert.catM {t u:TypeId}{x y:Operand}{a b r:Bs}(hx:ev ts x=.a (.d (.str a))) (hy:ev ts y=.a (.d (.str b))) (hr:catC a b=some r):Cert P (mk dst (.binOp .add t x y u) ty pos aft g) ts ls h {} (.a (.d (.str r))) ls h:=by
 obtain⟨e,h1⟩:=catC_some hr;subst e; exact Cert.concat hx hy h1
theorem Cert.partA {t e:TypeId}{ti ei:TI}{x:Operand}{lo hi:Option Operand}{k:Nat}{tok:Option Nat}{nl:Bool}{rows:List (List D)}{l r:Nat}(hT:mkTI P t=some ti) (hk:ti.k=.slice e) (hE:mkTI P e=some ei)
  (hx:ev ts x=.a (.d (.slice k tok nl rows))) (hkk:k=ei.size)
  (hlo:match lo with|none=>l=0|some o=>∃ik n,ev ts o=.a (.d (.int ik n))/\0<=n/\l=n.toNat) (hhi:match hi with|none=>r=rows.length|some o=>∃ik n,ev ts o=.a (.d (.int ik n))/\0<=n/\r=n.toNat)
  (hlr:l<=r) (hrr:r<=rows.length):Cert P (mk dst (.slice t x lo hi none) ty pos aft g) ts ls h {} (.a (.d (.slice k none nl ((rows.take r).drop l)))) ls h:=by
 cases nl with
 | false=>exact Cert.part hT hk hE hx hkk hlo hhi hlr hrr
 | true =>
  refine Cert.of_ops fun j w jl act ho=>?_;have h1:=ho x (by simp [Op.operands]);rw [hx] at h1;obtain⟨b,cap,e1,hn,hc,hnil,hnone,hkr,hb⟩:=rel_slice h1;cases b with
  | some b=>simp at hnil
  | none =>
   obtain⟨rfl,rfl⟩:=hnone rfl;simp only [List.length_nil,Nat.le_zero] at hrr;subst hrr;have hl0:l=0:=by omega
   subst hl0;have hb1:(match lo.map act.eval with|some v=>Instr.sliceBound v 0 .sliceB|none=>pure 0).run P w=.ok 0 w:=by
    cases lo with
    | none=>simp
    | some o =>
     obtain⟨ik,n,h2,h3,h4⟩:=hlo;have:=bound_run (P:=P) (cap:=0) h2 (ho o (by simp [Op.operands])) h3 (by omega) .sliceB;simp only [Option.map_some]; rw [this,<- h4]
   have hb2:(match hi.map act.eval with|some v=>Instr.sliceBound v 0 .sliceAcap|none=>pure ([]:List (List D)).length).run P w=.ok 0 w:=by
    cases hi with
    | none=>simp
    | some o =>
     obtain⟨ik,n,h2,h3,h4⟩:=hhi;have:=bound_run (P:=P) (cap:=0) h2 (ho o (by simp [Op.operands])) h3 (by omega) .sliceAcap;simp only [Option.map_some]; rw [this,<- h4]
   refine⟨.slice none 0 0, ?_,DRel.snil _ _ (by simp)⟩;have:=slice_run hT hk hE (a:=none) (len:=0) (cap:=0) hb1 hb2;simp only [List.length_nil] at e1;simp only [execOp,Sem.run_bind,e1,Option.map_none,this,Result.andThen,Sem.run_pure];simp
theorem Cert.partM {t e:TypeId}{ti ei:TI}{x:Operand}{lo hi:Option Operand}{l r:Option Int}{k:Nat}{tok:Option Nat}{s y:Sl α}(hT:mkTI P t=some ti) (hk:ti.k=.slice e) (hE:mkTI P e=some ei)
  (hx:ev ts x=.a (.d (s.d k f tok))) (hkk:k=ei.size)
  (hlo:match lo,l with|none,none=>True|some o,some n=>ev ts o=.a (.d (.int .i64 n))|_,_=>False) (hhi:match hi,r with|none,none=>True|some o,some n=>ev ts o=.a (.d (.int .i64 n))|_,_=>False)
  (hr:partC s l r=some y):Cert P (mk dst (.slice t x lo hi none) ty pos aft g) ts ls h {} (.a (.d (y.d k f none))) ls h:=by
 unfold partC at hr
 split at hr
 ·rename_i hc
  simp only [Option.some.injEq] at hr;have:=Cert.partA (lou:=lou) (P:=P) (dst:=dst) (ty:=ty) (pos:=pos) (aft:=aft) (g:=g) (ls:=ls) (h:=h) (l:=(l.getD 0).toNat) (r:=(r.getD s.l.length).toNat) hT hk hE (lo:=lo) (hi:=hi) hx hkk
   (by cases lo with
     | none=>cases l with
      | none=>rfl
      | some n=>exact hlo.elim
     | some o=>cases l with
      | none=>exact hlo.elim
      | some n=>exact⟨_,n,hlo,hc.1,rfl⟩)
   (by cases hi with
     | none=>cases r with
      | none=>simp
      | some n=>exact hhi.elim
     | some o=>cases r with
      | none=>exact hhi.elim
      | some n=>exact⟨_,n,hhi,Int.le_trans hc.1 hc.2.1,rfl⟩) (by omega) (by simp; omega)
  rw [<- List.map_take,<- List.map_drop] at this;rw [<- hr]; exact this
 ·cases hr
theorem Cert.appM {t u e:TypeId}{ti ui ei:TI}{x y:Operand}{tk k k' m:Nat}{tok':Option Nat}{s r v:Sl α}{z:A}(hT:mkTI P t=some ti) (hk:ti.k=.slice e) (hE:mkTI P e=some ei) (hU:mkTI P u=some ui) (huk:∃e,ui.k=.slice e)
  (hz:ei.zero=some z) (hzs:(cellsA z).length=ei.size) (hsz:ei.size≠0) (hx:ev ts x=.a (.d (s.d k f (some tk)))) (hy:ev ts y=.a (.d (r.d k' f tok'))) (hkk:k=ei.size) (hkk':k'=ei.size)
  (htk:h tk=some (.tok ei.size m)) (hm:m=s.l.length) (hr:appC ei.bytes s r=some v) :
  Cert P (mk dst (.call { callee:=.builtin .append,args:=#[x,y],argTypes:=#[t,u] }) ty pos aft g) ts ls h { rh:=true,wh:=true } (.a (.d (v.d k f (some tk)))) ls (h.set tk (some (.tok ei.size v.l.length))):=by
 obtain⟨e,h1,h2⟩:=appC_some hr;subst e;have:=Cert.append (lou:=lou) (P:=P) (dst:=dst) (ty:=ty) (pos:=pos) (aft:=aft) (g:=g) (ls:=ls) hT hk hE hU (.inl huk) hz hzs hsz hx hy (.inl hkk) (.inl hkk') htk (by rw [hm]; simp) (by simpa using h1) (by simpa using h2);simp only [List.length_map,List.length_append] at this ⊢;rw [<- List.map_append,List.isEmpty_map,<- hkk] at this;rw [<- hkk];exact this
end
section
variable {P:Program}{dst:Option Tmp}{ty:TypeId}{pos:String}{aft:Array Edge}{g:Option (Nat×Bool)}{ts:Ts}{ls:List (List D)}{h:Heap}{α:Type}{f:α->List D}
theorem nil_any {k k':Nat}(j:J) (w:World) (cv:Value) (h:VRel j w [] (.a (.d (.slice k none true []))) cv):VRel j w [] (.a (.d (.slice k' none true []))) cv:=by
 have h':DRel j w (.slice k none true []) cv:=h;cases h';exact DRel.snil _ _ fun t e=>by cases e
theorem Cert.assignNil {x:Operand}{k k':Nat}(hx:ev ts x=.a (.d (.slice k none true []))):Cert P (mk dst (.assign x) ty pos aft g) ts ls h {} (.a (.d (.slice k' none true []))) ls h :=
 (Cert.assign hx).weakV fun j w _ cv h=>nil_any j w cv h
theorem Cert.appF {t u e:TypeId}{ti ui ei:TI}{s:Nat}{y:Operand}{k k':Nat}{tok':Option Nat}{nl':Bool}{rows rows':List (List D)}{z:A}(hT:mkTI P t=some ti) (hkt:ti.k=.slice e) (hE:mkTI P e=some ei) (hU:mkTI P u=some ui) (huk:(∃e,ui.k=.slice e)\/ui.k=.str)
  (hz:ei.zero=some z) (hzs:(cellsA z).length=ei.size) (hsz:ei.size≠0) (hx:get ts s=.full k rows) (hy:ev ts y=.a (.d (.slice k' tok' nl' rows'))) (hys:∀q,y=.tmp q->s≠q) (hkk:k=ei.size) (hkk':k'=ei.size\/rows'=[])
  (hfit:(rows.length+rows'.length)*ei.bytes<=maxN) (hlen:rows.length+rows'.length<=maxN) :
  Cert P (mk dst (.call { callee:=.builtin .append,args:=#[.tmp s,y],argTypes:=#[t,u] }) ty pos aft g) ts ls h {} (.a (.d (.slice ei.size none false (rows++rows')))) ls h:=by
 intro L H _ _ j w jl a hl ho K Q hK;have h1:VRel j w jl (get ts s) (a.eval (.tmp s)):=ho (.tmp s) (by simp [Op.operands,Call.operands]);rw [hx] at h1;obtain⟨hd,ad,hv⟩:=h1;obtain⟨hl1,hev1⟩:=hl.newTokM k rows.length;have hnone:=hl.1.next_none (Nat.le_refl _);have hd1:DRel (j.newTokM rows.length) w (.slice k (some j.next) false rows) (a.eval (.tmp s)):=by
  have hd2:=DRel.mono hev1.toLe hd;rw [hv] at hd2 ⊢;cases hd2 with
  | slice _ _ _ a' cap f hk hn hc hat hr ht =>
   refine DRel.slice _ _ _ _ _ f hk hn hc hat hr fun t' e'=>?_;simp only [Option.some.injEq] at e';subst e';exact⟨by simp [J.newTokM],fun kk hkk=>by simp [J.newTokM] at hkk; subst hkk; exact⟨Nat.le_refl _,fun _=>.inl ⟨rfl,rfl⟩⟩⟩
 have hy2:ev ((s,V.a (.d (.slice k (some j.next) false rows)))::ts) y=.a (.d (.slice k' tok' nl' rows')):=by
  cases y with
  | tmp q=>simp only [ev] at hy ⊢; rw [get_other _ _ (hys q rfl)]; exact hy
  | _=>exact hy
 have hc:=Cert.append (lou:=lou) (P:=P) (dst:=dst) (ty:=ty) (pos:=pos) (aft:=aft) (g:=g) (ls:=L) (h:=H.set j.next (some (.tok k rows.length))) (ts:=(s,V.a (.d (.slice k (some j.next) false rows)))::ts) (x:=.tmp s) (y:=y) (tk:=j.next) (m:=rows.length)
  hT hkt hE hU huk hz hzs hsz (by simp only [ev]; rw [get_same]) hy2 (.inl hkk) hkk' (by rw [Heap.set_same,hkk]) rfl hfit hlen
 refine hc.step (j.newTokM rows.length) w jl a hl1 (fun x hxm=>?_) K Q ?_
 ·cases x with
  | tmp q =>
   by_cases e:s=q
   ·subst e;simp only [ev]; rw [get_same];exact hd1
   ·simp only [ev]; rw [get_other _ _ e];exact(ho (.tmp q) hxm).mono hev1.toLe (Ext.refl _)
  | const c=>exact(ho (.const c) hxm).mono hev1.toLe (Ext.refl _)
  | global c=>trivial
  | func c=>exact(ho (.func c) hxm).mono hev1.toLe (Ext.refl _)
 ·rintro v l hh cv j' w' jl' ⟨rfl,rfl,rfl⟩ hvr hl' hx' hev;obtain⟨hl2,hev2⟩:=hl'.forget (h':=H) (fun id o hi=>by
   have hne:id≠j.next:=fun e=>by rw [e,hnone] at hi; cases hi
   show ((H.set _ _).set _ _) id=_;rw [Heap.set_other _ _ hne,Heap.set_other _ _ hne]; exact hi)
  refine hK _ _ _ cv j' w' jl' ⟨rfl,rfl,rfl⟩ ?_ hl2 hx' ((hev1.trans hev).trans hev2);have hvr':DRel j' w' (.slice ei.size (some j.next) (false&&rows'.isEmpty) (rows++rows')) cv:=hvr;simp only [Bool.false_and] at hvr';cases hvr' with
  | slice _ _ _ a' cap f hk hn hc hat hr ht=>exact DRel.slice _ _ _ _ _ f hk hn hc hat hr fun t e=>by cases e
theorem Cert.appFM {t u e:TypeId}{ti ui ei:TI}{s k k':Nat}{y:Operand}{tok':Option Nat}{x r v:Sl α}{z:A}(hT:mkTI P t=some ti) (hkt:ti.k=.slice e) (hE:mkTI P e=some ei) (hU:mkTI P u=some ui) (huk:∃e,ui.k=.slice e)
  (hz:ei.zero=some z) (hzs:(cellsA z).length=ei.size) (hsz:ei.size≠0) (hx:get ts s=.full k (x.l.map f)) (hnl:x.nl=false) (hy:ev ts y=.a (.d (r.d k' f tok'))) (hys:∀q,y=.tmp q->s≠q) (hkk:k=ei.size) (hkk':k'=ei.size)
  (hr:appC ei.bytes x r=some v) :
  Cert P (mk dst (.call { callee:=.builtin .append,args:=#[.tmp s,y],argTypes:=#[t,u] }) ty pos aft g) ts ls h {} (.a (.d (v.d k f none))) ls h:=by
 obtain⟨e,h1,h2⟩:=appC_some hr;subst e;have:=Cert.appF (lou:=lou) (P:=P) (dst:=dst) (ty:=ty) (pos:=pos) (aft:=aft) (g:=g) (ls:=ls) (h:=h) hT hkt hE hU (.inl huk) hz hzs hsz hx hy hys hkk (.inl hkk') (by simpa using h1) (by simpa using h2);rw [<- List.map_append,<- hkk] at this;simp only [hnl,Bool.false_and];exact this
theorem equalIn_nil {t e:TypeId}(hu:P.underlying t=some (.slice e)) (d:Nat) (b:Option Addr) (n cap:Nat) (w:World):(Op.equalIn (d+1) t (.slice b n cap) (.slice none 0 0)).run P w=.ok b.isNone w:=by
 unfold Op.equalIn;simp only [Sem.run_bind,run_under hu,Result.andThen];cases b<;>simp
theorem equal_nil {t e:TypeId}(hu:P.underlying t=some (.slice e)) (b:Option Addr) (n cap:Nat) (w:World):(Op.equal t (.slice b n cap) (.slice none 0 0)).run P w=.ok b.isNone w:=by
 exact equalIn_nil hu 9999 b n cap w
theorem guard_nil {t e:TypeId}{op:BinOp}(x y:Operand) (b:Option Addr) (n cap:Nat) (w:World):(eqGuard op t x y (.slice b n cap) (.slice none 0 0)).run P w=.ok () w:=by
 unfold eqGuard;simp
theorem Cert.eqNil {t e u:TypeId}{ti:TI}{x:Operand}{k:Nat}{tok:Option Nat}{nl:Bool}{rows:List (List D)}(hT:mkTI P t=some ti) (hk:ti.k=.slice e) (hx:ev ts x=.a (.d (.slice k tok nl rows))) :
  Cert P (mk dst (.binOp .eql t x (.const (.slice none 0 0)) u) ty pos aft g) ts ls h {} (.a (.d (.bool nl))) ls h :=
 Cert.of_ops fun j w jl act ho=>by
  have h1:=ho x (by simp [Op.operands]);rw [hx] at h1;obtain⟨b,cap,e1,_,_,hnil,_⟩:=rel_slice h1;have hu:=slice_of hT hk;subst hnil;have e2:act.eval (.const (.slice none 0 0))=.slice none 0 0:=rfl;refine⟨.bool b.isNone, ?_,DRel.bool _⟩;simp only [execOp,e1,e2,Sem.run_bind,guard_nil (e:=e),Result.andThen,binOp,Sem.run_map,equal_nil hu,Sem.run_pure]
theorem Cert.minM {x y:Operand}{ats:Array TypeId}{k:IntKind}{m n:Int}(hx:ev ts x=.a (.d (.int k m))) (hy:ev ts y=.a (.d (.int k n))) :
  Cert P (mk dst (.call { callee:=.builtin .min,args:=#[x,y],argTypes:=ats }) ty pos aft g) ts ls h {} (.a (.d (.int k (if n<m then n else m)))) ls h :=
 Cert.of_ops fun j w jl act ho=>by
  have h1:=ho x (by simp [Op.operands,Call.operands]);have h2:=ho y (by simp [Op.operands,Call.operands]);rw [hx] at h1; rw [hy] at h2;exact⟨_,by simp only [execOp,resolve,invoke,builtin,List.map_toArray,List.map_cons,List.map_nil,rel_int h1,rel_int h2]; simp [run_min_int2],DRel.int _ _⟩
theorem Cert.cutM {t:TypeId}{ti:TI}{x:Operand}{lo hi:Option Operand}{l r:Option Int}{s y:Bs}(hT:mkTI P t=some ti) (hk:ti.k=.str) (hx:ev ts x=.a (.d (.str s)))
  (hlo:match lo,l with|none,none=>True|some o,some n=>ev ts o=.a (.d (.int .i64 n))|_,_=>False) (hhi:match hi,r with|none,none=>True|some o,some n=>ev ts o=.a (.d (.int .i64 n))|_,_=>False)
  (hne:lo.isSome=true\/hi.isSome=true) (hr:cutC s l r=some y):Cert P (mk dst (.slice t x lo hi none) ty pos aft g) ts ls h {} (.a (.d (.str y))) ls h:=by
 unfold cutC at hr
 split at hr
 ·rename_i hc
  simp only [Option.some.injEq] at hr;cases lo with
  | none =>
   cases l with
   | some n=>exact hlo.elim
   | none =>
    cases hi with
    | none=>simp at hne
    | some o =>
     cases r with
     | none=>exact hhi.elim
     | some n =>
      have:=Cert.cutH (lou:=lou) (P:=P) (dst:=dst) (ty:=ty) (pos:=pos) (aft:=aft) (g:=g) (ls:=ls) (h:=h) hT hk hx hhi (by simpa using hc.2.1) (by simpa using hc.2.2);rw [<- hr]; simpa using this
  | some o =>
   cases l with
   | none=>exact hlo.elim
   | some n =>
    cases hi with
    | none =>
     cases r with
     | some m=>exact hhi.elim
     | none =>
      have:=Cert.cutL (lou:=lou) (P:=P) (dst:=dst) (ty:=ty) (pos:=pos) (aft:=aft) (g:=g) (ls:=ls) (h:=h) hT hk hx hlo (by simpa using hc.1) (by simpa using hc.2.1);rw [<- hr]; simpa using this
    | some o' =>
     cases r with
     | none=>exact hhi.elim
     | some m =>
      have:=Cert.cutLH (lou:=lou) (P:=P) (dst:=dst) (ty:=ty) (pos:=pos) (aft:=aft) (g:=g) (ls:=ls) (h:=h) hT hk hx hlo hhi (by simpa using hc.1) (by simpa using hc.2.1) (by simpa using hc.2.2);rw [<- hr];simp only [Option.getD_some];rw [List.drop_take];exact this
 ·cases hr
end
theorem AOps.sLen {P:Program}{ops:Array Oper}{rest:List Oper}{Q:St->Prop}{n:Nat}{ts:Ts}{ls:List (List D)}{h:Heap}{d:Nat}{ty:TypeId}{pos:String}{aft:Array Edge}{t e:TypeId}{ti:TI}{x:Operand}{ats:Array TypeId}{k:Nat}{tok:Option Nat}{α:Type}{f:α->List D}{s:Sl α}
  (hT:mkTI P t=some ti) (hk:ti.k=.slice e) (hat:ats[0]?=some t) (hx:ev ts x=.a (.d (s.d k f tok))) (hd:Nat.blt d n=true)
  (hr:s.l.length<=140737488355328->AOps P ops rest Q ⟨n,(d,.a (.d (.int .i64 (s.l.length:Int))))::ts,ls,h⟩) :
  AOps P ops (⟨some d,.call { callee:=.builtin .len,args:=#[x],argTypes:=ats },ty,pos,aft,none⟩::rest) Q ⟨n,ts,ls,h⟩:=by
 intro j w jl a hsr Qc hk2;have hlen:s.l.length<=140737488355328:=by
  have h1:=ev_rel hsr.tmps x;rw [hx] at h1;obtain⟨_,_,_,hn,_⟩:=rel_slice h1
  simpa [maxN] using hn
 exact AOps.s0 (Cert.lenM' hT hk hat hx) hd (hr hlen) j w jl a hsr Qc hk2
theorem AOps.sLenS {P:Program}{ops:Array Oper}{rest:List Oper}{Q:St->Prop}{n:Nat}{ts:Ts}{ls:List (List D)}{h:Heap}{d:Nat}{ty:TypeId}{pos:String}{aft:Array Edge}{t:TypeId}{ti:TI}{x:Operand}{ats:Array TypeId}{s:Bs}
  (hT:mkTI P t=some ti) (hk:ti.k=.str) (hat:ats[0]?=some t) (hx:ev ts x=.a (.d (.str s))) (hd:Nat.blt d n=true)
  (hr:s.length<=4611686018427387904->AOps P ops rest Q ⟨n,(d,.a (.d (.int .i64 (s.length:Int))))::ts,ls,h⟩) :
  AOps P ops (⟨some d,.call { callee:=.builtin .len,args:=#[x],argTypes:=ats },ty,pos,aft,none⟩::rest) Q ⟨n,ts,ls,h⟩:=by
 intro j w jl a hsr Qc hk2;have hlen:s.length<=4611686018427387904:=by
  have h1:=ev_rel hsr.tmps x;rw [hx] at h1;exact(rel_str h1).2
 exact AOps.s0 (Cert.lenS hT hk hat hx) hd (hr hlen) j w jl a hsr Qc hk2
theorem AOps.heq {P:Program}{ops:Array Oper}{rest:List Oper}{Q:St->Prop}{n:Nat}{ts:Ts}{ls:List (List D)}{h h':Heap}(e:h=h') (hw:AOps P ops rest Q ⟨n,ts,ls,h'⟩):AOps P ops rest Q ⟨n,ts,ls,h⟩:=e▸hw
theorem DOps.heq {P:Program}{ops:Array Oper}{m:Nat}{rest:List Oper}{done:List Fx}{Q:St->Prop}{n:Nat}{ts:Ts}{ls:List (List D)}{h h':Heap}(e:h=h') (hw:DOps P ops m rest done Q ⟨n,ts,ls,h'⟩):DOps P ops m rest done Q ⟨n,ts,ls,h⟩:=e▸hw
theorem AWp.heqA {P:Program}{c:Code}{Q:Exit->St->Prop}{n:Nat}{ts:Ts}{ls:List (List D)}{h h':Heap}(e:h=h') (hw:AWp P c Q ⟨n,ts,ls,h'⟩):AWp P c Q ⟨n,ts,ls,h⟩:=e▸hw
theorem Heap.set_fresh {h:Heap}{i r:Nat}{o:Obj}(e:(h.set i (some o)) r=none):r≠i/\h r=none:=by
 have h1:r≠i:=fun e2=>by rw [e2,Heap.set_same] at e; cases e
 exact⟨h1,by rw [Heap.set_other _ _ h1] at e; exact e⟩
section
variable {P:Program}{ops:Array Oper}{rest:List Oper}{Q:St->Prop}{n:Nat}{ts:Ts}{ls:List (List D)}{h:Heap}
theorem AOps.recell (id:Nat){xs:List D}(ys:List D) (hc:h id=some (.cells xs)) (hy:∀j w cs,HRel j w h->All2 (DRel j w) xs cs->All2 (DRel j w) ys cs)
  (hw:AOps P ops rest Q ⟨n,ts,ls,h.set id (some (.cells ys))⟩):AOps P ops rest Q ⟨n,ts,ls,h⟩:=by
 intro j w jl a hsr Qc hk;have hl:=hsr.hl;refine hw j w jl a ⟨hsr.defers,hsr.size,hsr.tmps,⟨hl.1.recell hc (hy j w · hl.1),⟨hl.2.each,hl.2.nodup,fun b hb ho=>hl.2.apart b hb ((Own.recell hc).1 ho)⟩⟩⟩ Qc fun σ' j' w' jl' a' hq hs' hev=>hk σ' j' w' jl' a' hq hs' (Evolve.trans ?_ hev);exact { Evolve.refl j _ (Own j h jl) with own:=fun b _ ho=>(Own.recell hc).1 ho }
theorem AOps.relocal (i:Nat){xs:List D}(ys:List D) (hc:ls[i]?=some xs) (hy:∀j w cs,HRel j w h->All2 (DRel j w) xs cs->All2 (DRel j w) ys cs)
  (hw:AOps P ops rest Q ⟨n,ts,ls.set i ys,h⟩):AOps P ops rest Q ⟨n,ts,ls,h⟩:=by
 intro j w jl a hsr;have hl:=hsr.hl;have hea:All2 (fun xs b=>Loc1 j w b xs) (ls.set i ys) jl:=by
  refine All2.of_get (by rw [List.length_set,hl.2.each.length]) fun k x b hx hb=>?_;rw [List.getElem?_set] at hx
  split at hx
  ·rename_i e
   subst e
   split at hx
   ·simp only [Option.some.injEq] at hx; subst hx;obtain⟨b',hb',cs,te,h1,h2,h3⟩:=hl.2.each.get hc;rw [hb] at hb'; simp only [Option.some.injEq] at hb'; subst hb';exact⟨cs,te,h1,hy j w _ hl.1 h2,h3⟩
   ·cases hx
  ·obtain⟨b',hb',h1⟩:=hl.2.each.get hx;rw [hb] at hb'; simp only [Option.some.injEq] at hb'; subst hb';exact h1
 exact hw j w jl a ⟨hsr.defers,hsr.size,hsr.tmps,⟨hl.1,⟨hea,hl.2.nodup,hl.2.apart⟩⟩⟩
theorem AOps.tok (k:Nat) (hw:∀t,h t=none->AOps P ops rest Q ⟨n,ts,ls,h.set t (some (.tok k 0))⟩):AOps P ops rest Q ⟨n,ts,ls,h⟩:=by
 intro j w jl a hsr Qc hk;obtain⟨h1,h2⟩:=hsr.hl.newTok k;have hnone:=hsr.hl.1.next_none (Nat.le_refl _);exact hw j.next hnone j.newTok w jl a ⟨hsr.defers,hsr.size,fun i=>(hsr.tmps i).mono h2.toLe (Ext.refl _),h1⟩ Qc fun σ' j' w' jl' a' hq hs' hev=>hk σ' j' w' jl' a' hq hs' (h2.trans hev)
theorem AOps.nilTok (s k t:Nat){o:Obj}{k0:Nat}(hs:get ts s=.a (.d (.slice k0 none true []))) (ht:h t=some o)
  (hw:AOps P ops rest Q ⟨n,(s,.a (.d (.slice k (some t) true [])))::ts,ls,h⟩):AOps P ops rest Q ⟨n,ts,ls,h⟩:=by
 intro j w jl a hsr;refine hw j w jl a ⟨hsr.defers,hsr.size,fun i=>?_,hsr.hl⟩;by_cases e:s=i
 ·subst e;show VRel _ _ _ (get ((s,_)::ts) s) _;rw [get_same];have hv:VRel j w jl (get ts s) (a.tmps.getD s undef):=hsr.tmps s;rw [hs] at hv;exact(AsArg.nil (k':=k) ht).rel hsr.hl.1 hv
 ·show VRel _ _ _ (get ((s,_)::ts) i) _;rw [get_other _ _ e];exact hsr.tmps i
theorem AOps.dropTok (s:Nat){k:Nat}{tk:Option Nat}{nl:Bool}{rows:List (List D)}(hs:get ts s=.a (.d (.slice k tk nl rows)))
  (hw:AOps P ops rest Q ⟨n,(s,.a (.d (.slice k none nl rows)))::ts,ls,h⟩):AOps P ops rest Q ⟨n,ts,ls,h⟩:=by
 intro j w jl a hsr;refine hw j w jl a ⟨hsr.defers,hsr.size,fun i=>?_,hsr.hl⟩;by_cases e:s=i
 ·subst e;show VRel _ _ _ (get ((s,_)::ts) s) _;rw [get_same];have hv:VRel j w jl (get ts s) (a.tmps.getD s undef):=hsr.tmps s;rw [hs] at hv;exact slice_dropTok j w _ hv
 ·show VRel _ _ _ (get ((s,_)::ts) i) _;rw [get_other _ _ e];exact hsr.tmps i
end
theorem tok_cell {j:J}{w:World}{h:Heap}{t:Nat}{o:Obj}{xs:List D}{cs:List Value}(i k k':Nat) (hh:HRel j w h) (ht:h t=some o) (hx:All2 (DRel j w) xs cs) (hi:xs[i]?=some (.slice k none true [])) :
  All2 (DRel j w) (xs.set i (.slice k' (some t) true [])) cs:=by
 refine All2.of_get (by rw [List.length_set,hx.length]) fun n x v hn hv=>?_;rw [List.getElem?_set] at hn
 split at hn
 ·rename_i e
  subst e
  split at hn
  ·simp only [Option.some.injEq] at hn; subst hn;obtain⟨v',hv',hr⟩:=hx.get hi;rw [hv] at hv'; simp only [Option.some.injEq] at hv'; subst hv';exact(AsArg.nil (k:=k) (k':=k') ht).rel hh (x:=.d (.slice k none true [])) hr
  ·cases hn
 ·obtain⟨v',hv',hr⟩:=hx.get hn;rw [hv] at hv'; simp only [Option.some.injEq] at hv'; subst hv';exact hr
theorem untok_cell {j:J}{w:World}{xs:List D}{cs:List Value}(i:Nat){k:Nat}{tk:Option Nat}{nl:Bool}{rows:List (List D)}(hx:All2 (DRel j w) xs cs) (hi:xs[i]?=some (.slice k tk nl rows)) :
  All2 (DRel j w) (xs.set i (.slice k none nl rows)) cs:=by
 refine All2.of_get (by rw [List.length_set,hx.length]) fun n x v hn hv=>?_;rw [List.getElem?_set] at hn
 split at hn
 ·rename_i e
  subst e
  split at hn
  ·simp only [Option.some.injEq] at hn; subst hn;obtain⟨v',hv',hr⟩:=hx.get hi;rw [hv] at hv'; simp only [Option.some.injEq] at hv'; subst hv';exact slice_dropTok j w v hr
  ·cases hn
 ·obtain⟨v',hv',hr⟩:=hx.get hn;rw [hv] at hv'; simp only [Option.some.injEq] at hv'; subst hv';exact hr
def F0:Nat:=4611686018427387904
theorem wA {n:Nat}{ts ts':Ts}{ls ls':List (List D)}{h h':Heap}(hk:Keeps ts ls'.length ts':=by repeat (first|exact Keeps.nil|refine Keeps.c rfl rfl ?_|refine Keeps.c (by(first|(first|rfl|((conv=>lhs; whnf); first|(simp [cellsA,faultsT,faultsD,namesD,Fault.mk_c,Nat.add_assoc,empty_append,Bool.and_assoc]; done)|(simp [cellsA,faultsT,faultsD,namesD,Nat.add_assoc,empty_append,Bool.and_assoc]; repeat (first|rfl|constructor))))|rfl|(simp only [get_same,ev]; done)|(simp [*,cellsA]; done)|(show V.a (A.d (D.slice _ _ _ _))=V.a (A.d (D.slice _ _ _ _)); simp [*,cellsA]; done))) rfl ?_)) (hl:Pfx ls' ls:=by repeat (first|exact Pfx.nil|apply Pfx.cons)) (hh:h=h':=by first|rfl|(first|rfl|(simp only [Heap.set_set,List.length_append,List.length_nil,List.length_cons,List.length_map,List.length_singleton,Nat.zero_add]; done)|(simp [Heap.set_set,Nat.add_assoc]; done))|(((funext n; simp only [Heap.set]; (repeat' split)<;>simp_all))<;>first|rfl|exact⟨rfl,rfl⟩)):Weak ⟨n,ts,ls,h⟩ ⟨n,ts',ls',h'⟩:=Weak.to hk hl hh
theorem hpG {h:Heap}{i:Nat}{o:Option Obj}(hg:h i=o:=by(first|assumption|exact Heap.set_same _ _ _|((repeat (refine(Heap.set_other _ _ (by first|assumption|(apply Ne.symm; assumption))).trans ?_)); first|assumption|exact Heap.set_same _ _ _)|(simp only [Heap.set_set,Heap.set_same]; done)|(simp [Heap.set, *]; done))):h i=o:=hg
end Go.Ab
namespace Go.Ab
open Go Go.RowKit
variable {lou:Lou}
section
variable {P:Program}{ts:Ts}{ls ls':List (List D)}{h h':Heap}{fx:Fx}{x:A}{dst:Option Tmp}{ty:TypeId}{pos:String}{aft:Array Edge}{g:Option (Nat×Bool)}
theorem Cert.ungdA {o:Oper}{v:V}{k:Nat}{c:Bool}(hk:get ts k=.gd c x) (hs:Cert P o ((k,.a x)::ts) ls h fx v ls' h') (hc:c=true:=by first|assumption|exact andL (by assumption)|exact andL (andL (by assumption))|exact andL (andL (andL (by assumption)))|exact andR (by assumption)|simp_all):Cert P o ts ls h fx v ls' h':=Cert.ungd hk hc hs
theorem Cert.ungdLA {o:Oper}{v:V}{k:Nat}{c:Bool}{i off:Nat}(hk:get ts k=.gdl c i off) (hs:Cert P o ((k,.lptr i off)::ts) ls h fx v ls' h') (hc:c=true:=by first|assumption|exact andL (by assumption)|exact andL (andL (by assumption))|exact andL (andL (andL (by assumption)))|exact andR (by assumption)|simp_all):Cert P o ts ls h fx v ls' h':=Cert.ungdL hk hc hs
theorem Cert.pickAndA {c y z:Operand}{b r cy:Bool}(hc:ev ts c=.a (.d (.bool b))) (hy:ev ts y=.gd cy (.d (.bool r))) (hz:ev ts z=.a (.d (.bool false))) (himp:b=true->cy=true:=by intro hh; first|exact hh|exact notT hh|exact andI (by assumption) hh|exact andI (by assumption) (notT hh)|simp_all) :
  Cert P (mk dst (.pick c y z) ty pos aft g) ts ls h {} (.a (.d (.bool (b&&r)))) ls h:=Cert.pickAnd hc hy himp hz
theorem Cert.pickOrA {c y z:Operand}{b r cz:Bool}(hc:ev ts c=.a (.d (.bool b))) (hy:ev ts y=.a (.d (.bool true))) (hz:ev ts z=.gd cz (.d (.bool r))) (himp:b=false->cz=true:=by intro hh; first|exact hh|exact notT hh|exact andI (by assumption) hh|exact andI (by assumption) (notT hh)|simp_all) :
  Cert P (mk dst (.pick c y z) ty pos aft g) ts ls h {} (.a (.d (.bool (b||r)))) ls h:=Cert.pickOr hc hy hz himp
theorem Cert.moveA {x:Operand}{v:V}(hx:ev ts x=v:=by conv=>lhs; whnf):Cert P (mk dst (.move x) ty pos aft g) ts ls h {} v ls h:=Cert.move hx
theorem Cert.assignA {x:Operand}{v:V}(hx:ev ts x=v:=by conv=>lhs; whnf):Cert P (mk dst (.assign x) ty pos aft g) ts ls h {} v ls h:=Cert.assign hx
theorem Cert.fieldVA {t:TypeId}{ti fi:TI}{fs:List (Nat×TypeId)}{x:Operand}{f o:Nat}{xs ys:List D}{ft:TypeId}(hT:mkTI P t=some ti) (hk:ti.k=.struct fs) (hf:fs[f]?=some (o,ft)) (hF:mkTI P ft=some fi)
  (hz:Nat.beq fi.size 0=false) (hx:ev ts x=.a (.d (.view xs))) (hy:xs.drop o=ys:=by conv=>lhs; whnf):Cert P (mk dst (.fieldAddr t x f) ty pos aft g) ts ls h {} (.a (.d (.view ys))) ls h:=Cert.fieldV hT hk hf hF hz hx hy
theorem KeepsT.A {ts:Ts}{k:Nat}{v:V}{r:Ts}(t:KeepsT ts r) (h:Ab.get ts k=v:=by conv=>lhs; whnf):KeepsT ts ((k,v)::r):=KeepsT.cons h t
theorem Cert.allocLA {e:TypeId}{ti:TI}{z:A}{i:Nat}{ls':List (List D)}(hT:mkTI P e=some ti) (hz:ti.zero=some z) (hs:Snoc (cellsA z) ls i ls':=by repeat (first|exact Snoc.nil|apply Snoc.cons)) :
  Cert P (mk dst (.alloc e) ty pos aft g) ts ls h { wl:=true } (.lptr i 0) ls' h:=Cert.allocL hT hz hs
theorem Cert.storeLFA {t:TypeId}{ti:TI}{x y:Operand}{i:Nat}{xs ys:List D}{ls':List (List D)}(hT:mkTI P t=some ti) (hx:ev ts x=.lptr i 0) (hy:ev ts y=.a (.agg ys)) (hl:ls[i]?=some xs)
  (hsz:ys.length=ti.size) (hle:xs.length=ti.size) (hs:SetAt ys ls i ls':=by repeat (first|exact SetAt.zero|apply SetAt.succ)):Cert P (mk none (.store t x y) ty pos aft g) ts ls h { wl:=true } .any ls' h:=Cert.storeLF hT hx hy hl hsz hle hs
theorem AWp.freezeA {c:Code}{Q:Exit->St->Prop}{n:Nat}{ts':Ts}{ls':List (List D)}{xs:List D}(s i:Nat) (hs:get ts s=.lptr i 0) (hk:Keeps ts i ts') (hw:AWp P c Q ⟨n,(s,.a (.d (.view xs)))::ts',ls',h⟩) (hl:Snoc xs ls' i ls:=by repeat (first|exact Snoc.nil|apply Snoc.cons)):AWp P c Q ⟨n,ts,ls,h⟩:=AWp.freeze s i hs hl hk hw
theorem AWp.condE {c:Operand}{u v:Code}{Q:Exit->St->Prop}{σ:St}{b:Bool}{α:Type}{A B:Option α}{r:α}(hE:(bif b then A else B)=some r) (hc:ev σ.ts c=.a (.d (.bool b))) (ht:b=true->A=some r->AWp P u Q σ) (hf:b=false->B=some r->AWp P v Q σ):AWp P (.cond c u v) Q σ :=
 AWp.cond hc (fun h=>ht h (Go.Ab.condT h hE)) (fun h=>hf h (Go.Ab.condF h hE))
end
end Go.Ab

/-
 Slices that may be stored to: their object holds the rows; the slot tells the object and the length.
-/
namespace Go.Ab
open Go Go.RowKit
variable {lou:Lou}
variable {amb:Amb}

theorem HL.newArr {j:J}{w:World}{jl:List Nat}{ls:List (List D)}{h:Heap}(hl:HL j w jl ls h) (k:Nat) :
  HL j.newTok w jl ls (h.set j.next (some (.arr k [])))/\Evolve j w (Own j h jl) j.newTok w (Own j.newTok (h.set j.next (some (.arr k []))) jl):=by
 have hle:Le j w j.newTok w:=⟨by simp [J.newTok],fun _ _=>rfl,fun _=>Nat.le_refl _,fun _ _ _=>rfl,fun t ht=>.inl (by simp only [J.newTok]; rw [if_neg (by omega)])⟩;have hk:=hl.keep hle (fun _ _=>⟨rfl,rfl⟩) (fun id hid _=>by simp only [J.newTok]; rw [if_neg (by omega)]) hl.1.fresh;have hnew:∀b,blkOf j.newTok j.next (.arr k [])≠some b:=by intro b; simp [blkOf,J.newTok]
 have hown:∀jl x,Own j.newTok (h.set j.next (some (.arr k []))) jl x->Own j.newTok h jl x:=by
  rintro jl x (hm|⟨n,q,hn,e⟩)
  ·exact .inl hm
  ·by_cases c:n=j.next
   ·subst c; rw [Heap.set_same] at hn; simp only [Option.some.injEq] at hn; subst hn;exact absurd e (hnew x)
   ·rw [Heap.set_other h _ c] at hn; exact .inr ⟨n,q,hn,e⟩
 refine⟨⟨⟨fun id o hi=>?_,fun n1 q1 n2 q2 x h1 h2 e1 e2=>?_,hl.1.fresh⟩,⟨hk.1.2.each,hk.1.2.nodup,fun x hx ho=>hk.1.2.apart x hx (hown [] x ho)⟩⟩,
  { (Evolve.refl j w (Own j h jl)) with toLe:=hle,frame:=fun _ _ _=>⟨rfl,rfl⟩,own:=fun b _ ho=>(hk.2 b).1 (hown jl b ho) }⟩
 ·by_cases c:id=j.next
  ·subst c; rw [Heap.set_same] at hi; simp only [Option.some.injEq] at hi; subst hi;exact⟨by simp [J.newTok],none,by simp [J.newTok],⟨fun _=>rfl,fun _=>rfl⟩,by simp,by simp,by simp⟩
  ·rw [Heap.set_other h _ c] at hi; exact hk.1.1.obj id o hi
 ·by_cases c1:n1=j.next
  ·subst c1; rw [Heap.set_same] at h1; simp only [Option.some.injEq] at h1; subst h1;exact absurd e1 (hnew x)
  ·by_cases c2:n2=j.next
   ·subst c2; rw [Heap.set_same] at h2; simp only [Option.some.injEq] at h2; subst h2;exact absurd e2 (hnew x)
   ·rw [Heap.set_other h _ c1] at h1; rw [Heap.set_other h _ c2] at h2;exact hk.1.1.inj n1 q1 n2 q2 x h1 h2 e1 e2

theorem HL.growA {j:J}{w w':World}{jl:List Nat}{ls:List (List D)}{h:Heap}(hl:HL j w jl ls h){t k:Nat}{rows rows':List (List D)}(ht:h t=some (.arr k rows)) (hm:rows.length<rows'.length)
  {b cap:Nat}{cs:List Value}{e:TypeId}(hb:w'.heap[b]?=some (.cells cs.toArray e (0,0))) (hsz:cs.length=cap*k) (hcap:rows'.length<=cap) (hkr:∀r∈rows',r.length=k) (hmx:rows'.length<=maxN)
  (hother:∀x,x≠b->x<w.heap.size->w'.heap[x]?=w.heap[x]?) (hsize:w.heap.size<=w'.heap.size) (hbs:w'.heap.size<=max w.heap.size (b+1))
  (hcase:w.heap.size<=b\/blkOf j t (.arr k rows)=some b)
  (hcells:∀j',Le j w j' w'->All2 (DRel j' w') rows'.flatten (cs.take (rows'.length*k)))
  (hos:w'.os=w.os) (htape:w'.tape=w.tape) (hout:Outs w w') :
  HL (j.retok t ⟨some (b,cap),rows'.length⟩ b 0) w' jl ls (h.set t (some (.arr k rows'))) /\
   Evolve j w (Own j h jl) (j.retok t ⟨some (b,cap),rows'.length⟩ b 0) w' (Own (j.retok t ⟨some (b,cap),rows'.length⟩ b 0) (h.set t (some (.arr k rows'))) jl):=by
 obtain⟨htn,blk,htok,_,_,_,hblk⟩:=hl.1.obj t _ ht;have hF0:j.F b=0:=by
  rcases hcase with hc|hc
  ·exact hl.1.fresh b hc
  ·simp only [blkOf,htok,Option.bind_some] at hc;cases blk with
   | none=>simp at hc
   | some bc =>
    obtain⟨b',cap'⟩:=bc;simp only [Option.map_some,Option.some.injEq] at hc;subst hc;obtain⟨_,_,_,_,h3,_⟩:=hblk _ _ rfl;exact h3
 have hle:Le j w (j.retok t ⟨some (b,cap),rows'.length⟩ b (0)) w':=by
  refine⟨Nat.le_refl _,fun _ _=>rfl,fun x=>?_,fun x o ho=>?_,fun x hx=>?_⟩
  ·simp only [J.retok]; split
   ·rename_i c; rw [c,hF0]; exact Nat.le_refl _
   ·exact Nat.le_refl _
  ·by_cases c:x=b
   ·subst c;rw [hF0] at ho; omega
   ·refine cell?_eq (hother x c ?_);rcases Nat.lt_or_ge x w.heap.size with h1|h1
    ·exact h1
    ·rw [hl.1.fresh x h1] at ho; omega
  ·by_cases c:x=t
   ·subst c; exact .inr ⟨_,⟨some (b,cap),rows'.length⟩,htok,by simp [J.retok],hm⟩
   ·exact .inl (by simp [J.retok,c])
 -- the others' blocks are not b
 have hsepO:∀n q x,h n=some q->n≠t->blkOf j n q=some x->x≠b:=fun n q x hn hne hx c=>by
  subst c;rcases hcase with hc|hc
  ·have:=Own.lt hl (.inr ⟨n,q,hn,hx⟩); omega
  ·exact hne (hl.1.inj n q t _ x hn ht hx hc)
 have hsepL:∀x,x∈jl->x≠b:=fun x hx c=>by
  subst c;rcases hcase with hc|hc
  ·have:=Own.lt hl (.inl hx); omega
  ·exact hl.2.apart x hx (.inr ⟨t,_,ht,hc⟩)
 have hF:∀x,x≠b->(j.retok t ⟨some (b,cap),rows'.length⟩ b (0)).F x=j.F x:=fun x hx=>by simp [J.retok,hx]
 have hkeep:∀n q,h n=some q->n≠t->ORel (j.retok t ⟨some (b,cap),rows'.length⟩ b (0)) w' n q/\blkOf (j.retok t ⟨some (b,cap),rows'.length⟩ b (0)) n q=blkOf j n q:=fun n q hn hne =>
  (hl.1.obj n q hn).2.keep hle (hl.1.obj n q hn).1 (fun x hx=>⟨hother x (hsepO n q x hn hne hx) (Own.lt hl (.inr ⟨n,q,hn,hx⟩)),hF x (hsepO n q x hn hne hx)⟩)
   (fun _=>by simp [J.retok,hne])
 have hnew:blkOf (j.retok t ⟨some (b,cap),rows'.length⟩ b (0)) t (.arr k rows')=some b:=by simp [blkOf,J.retok]
 have hown:∀jl x,Own (j.retok t ⟨some (b,cap),rows'.length⟩ b (0)) (h.set t (some (.arr k rows'))) jl x->x=b\/Own j h jl x:=by
  rintro jl x (hx|⟨n,q,hn,hx⟩)
  ·exact .inr (.inl hx)
  ·by_cases c:n=t
   ·subst c; rw [Heap.set_same] at hn; simp only [Option.some.injEq] at hn; subst hn;rw [hnew] at hx; simp only [Option.some.injEq] at hx; exact .inl hx.symm
   ·rw [Heap.set_other h _ c] at hn;exact .inr (.inr ⟨n,q,hn,(hkeep n q hn c).2▸hx⟩)
 refine⟨⟨⟨fun n q hn=>?_,fun n1 q1 n2 q2 x h1 h2 e1 e2=>?_,fun x hx=>?_⟩,
  ⟨all2_imp_mem hl.2.each fun xs x hx h=>h.keep hle ⟨hother x (hsepL x hx) (Own.lt hl (.inl hx)),hF x (hsepL x hx)⟩,hl.2.nodup,fun x hx ho=>?_⟩⟩, ?_⟩
 ·by_cases c:n=t
  ·subst c; rw [Heap.set_same] at hn; simp only [Option.some.injEq] at hn; subst hn;refine⟨htn,some (b,cap),by simp [J.retok],⟨by simp,fun e=>by rw [e] at hm; simp at hm⟩,hkr,hmx,fun b' cap' e'=>?_⟩;simp only [Option.some.injEq,Prod.mk.injEq] at e';obtain⟨rfl,rfl⟩:=e';exact⟨cs,e,hb,hsz,by simp [J.retok],hcap,hcells _ hle⟩
  ·rw [Heap.set_other h _ c] at hn;exact⟨(hl.1.obj n q hn).1,(hkeep n q hn c).1⟩
 ·by_cases c1:n1=t<;>by_cases c2:n2=t
  ·omega
  ·subst c1; rw [Heap.set_same] at h1; simp only [Option.some.injEq] at h1; subst h1;rw [Heap.set_other h _ c2] at h2;rw [hnew] at e1; simp only [Option.some.injEq] at e1;exact absurd e1.symm (hsepO n2 q2 x h2 c2 ((hkeep n2 q2 h2 c2).2▸e2))
  ·subst c2; rw [Heap.set_same] at h2; simp only [Option.some.injEq] at h2; subst h2;rw [Heap.set_other h _ c1] at h1;rw [hnew] at e2; simp only [Option.some.injEq] at e2;exact absurd e2.symm (hsepO n1 q1 x h1 c1 ((hkeep n1 q1 h1 c1).2▸e1))
  ·rw [Heap.set_other h _ c1] at h1; rw [Heap.set_other h _ c2] at h2;exact hl.1.inj n1 q1 n2 q2 x h1 h2 ((hkeep n1 q1 h1 c1).2▸e1) ((hkeep n2 q2 h2 c2).2▸e2)
 ·have hbl:=lt_of_heap hb;rw [hF x (by omega)];exact hl.1.fresh x (by omega)
 ·rcases hown [] x ho with c|c
  ·exact hsepL x hx c
  ·exact hl.2.apart x hx c
 ·refine { toLe:=hle,size:=hsize,frame:=fun x hx hn=>?_,own:=fun x hx ho=>?_,os:=hos,tape:=htape,output:=hout }
  ·have hne:x≠b:=fun c=>by
    subst c;rcases hcase with hc|hc
    ·omega
    ·exact hn (.inr ⟨t,_,ht,hc⟩)
   exact⟨hother x hne hx,hF x hne⟩
  ·rcases hown jl x ho with c|c
   ·subst c;rcases hcase with hc|hc
    ·omega
    ·exact .inr ⟨t,_,ht,hc⟩
   ·exact c


theorem rel_arr {j:J}{w:World}{jl:List Nat}{k id:Nat}{nl:Bool}{len:Nat}{cv:Value}(h:VRel j w jl (.a (.d (.arr k id nl len))) cv):∃a cap,cv=.slice a len cap/\id<j.next/\ArrOk j id nl len a cap:=by
 have h':DRel j w (.arr k id nl len) cv:=h;cases h' with
 | arr _ _ _ _ a cap hid hv=>exact⟨a,cap,rfl,hid,hv⟩
theorem HL.arrAt {j:J}{w:World}{jl:List Nat}{ls:List (List D)}{h:Heap}(hl:HL j w jl ls h){k k' id n:Nat}{nl:Bool}{rows:List (List D)}(hi:h id=some (.arr k rows)) (hn:n=rows.length){cv:Value}
  (hx:VRel j w jl (.a (.d (.arr k' id nl n))) cv) :
  (∃a,cv=.slice a 0 0/\nl=a.isNone/\rows=[]/\j.tok id=some ⟨none,0⟩)\/∃b cap cs e,cv=.slice (some ⟨b,0,none⟩) rows.length cap/\nl=false/\j.tok id=some ⟨some (b,cap),rows.length⟩/\w.heap[b]?=some (.cells cs e (0,0)) /\
   cs.size=cap*k/\j.F b=0/\rows.length<=cap/\(∀r∈rows,r.length=k)/\All2 (DRel j w) rows.flatten (cs.toList.take (rows.length*k)):=by
 subst hn;obtain⟨a,cap,e1,hid,hv⟩:=rel_arr hx;obtain⟨_,blk,htok,hnone,hkr,hmx,hblk⟩:=hl.1.obj id _ hi;obtain⟨_,hv⟩:=hv _ htok;rcases hv rfl with ⟨h1,h2,h3⟩|⟨b,h1,h2,h3⟩
 ·dsimp only at h1;subst h1 h3;have:=hnone.1 rfl;subst this;exact .inl ⟨a,e1,h2,rfl,htok⟩
 ·dsimp only at h1;subst h1 h2;obtain⟨cs,e,g1,g2,g3,g4,g5⟩:=hblk _ _ rfl;exact .inr ⟨b,cap,cs.toArray,e,e1,h3,htok,g1,by simpa using g2,g3,g4,hkr,by simpa using g5⟩

section
variable {P:Program}{ts:Ts}{ls:List (List D)}{h:Heap}{dst:Option Tmp}{ty:TypeId}{pos:String}{aft:Array Edge}{g:Option (Nat×Bool)}{α:Type}{f:α->List D}
theorem Cert.lenR {t e:TypeId}{ti:TI}{x:Operand}{ats:Array TypeId}{k id m:Nat}{nl:Bool}(hT:mkTI P t=some ti) (hk:ti.k=.slice e) (hat:ats[0]?=some t)
  (hx:ev ts x=.a (.d (.arr k id nl m))):Cert P (mk dst (.call { callee:=.builtin .len,args:=#[x],argTypes:=ats }) ty pos aft g) ts ls h {} (.a (.d (.int .i64 (m:Int)))) ls h :=
 Cert.of_ops fun j w jl act ho=>by
  have h1:=ho x (by simp [Op.operands,Call.operands]);rw [hx] at h1;obtain⟨a,cap,e1,_⟩:=rel_arr h1;exact⟨_,by simp [execOp,resolve,invoke,builtin,e1,Builtin.len_,hat,run_under (slice_of hT hk),goInt],DRel.int _ _⟩
end

section
variable {P:Program}{ts:Ts}{ls:List (List D)}{h:Heap}{dst:Option Tmp}{ty:TypeId}{pos:String}{aft:Array Edge}{g:Option (Nat×Bool)}{α:Type}{f:α->List D}
theorem Cert.appendR {t u e:TypeId}{ti ui ei:TI}{x y:Operand}{id k k' m:Nat}{tok':Option Nat}{nl nl':Bool}{rows rows':List (List D)}{z:A}(hT:mkTI P t=some ti) (hk:ti.k=.slice e) (hE:mkTI P e=some ei) (hU:mkTI P u=some ui) (huk:(∃e,ui.k=.slice e)\/ui.k=.str)
  (hz:ei.zero=some z) (hzs:(cellsA z).length=ei.size)
  (hx:ev ts x=.a (.d (.arr k id nl m))) (hy:ev ts y=.a (.d (.slice k' tok' nl' rows'))) (hkk:k=ei.size) (hkk':k'=ei.size\/rows'=[])
  (htk:h id=some (.arr k rows)) (hm:m=rows.length) (hfit:(rows.length+rows'.length)*ei.bytes<=maxN) (hlen:rows.length+rows'.length<=maxN) :
  Cert P (mk dst (.call { callee:=.builtin .append,args:=#[x,y],argTypes:=#[t,u] }) ty pos aft g) ts ls h { rh:=true,wh:=true }
   (.a (.d (.arr k id (nl&&rows'.isEmpty) (rows.length+rows'.length)))) ls (h.set id (some (.arr k (rows++rows')))):=by
 refine Cert.of_run fun L H _ hH j w jl a hl ho=>?_;have hH':=hH rfl;subst hH' hm;have h1:VRel j w jl (.a (.d (.arr k id nl rows.length))) (a.eval x):=by have:=ho x (by simp [Op.operands,Call.operands]); rw [hx] at this; exact this
 have h2:DRel j w (.slice k' tok' nl' rows') (a.eval y):=by have:=ho y (by simp [Op.operands,Call.operands]); rw [hy] at this; exact this
 obtain⟨einf,ed,hei,_,hes,heb,_,hez⟩:=mkTI_spec hE;rw [hz] at hez;obtain⟨zv,hzv,hzr⟩:=zeroF_rel hez;have hzsize:zv.cells.size=ei.size:=by have:=(hzr j w).cells.length; rw [hzs] at this; simpa using this.symm
 obtain⟨du,hu,hdu⟩:=slice_or_str hU huk;have ht:=slice_of hT hk;have hkr':∀r∈rows',r.length=ei.size:=by
  obtain⟨_,_,_,_,_,_,_,hh,_⟩:=rel_slice (jl:=jl) h2;rcases hkk' with e|e
  ·rw [<- e]; exact hh
  ·rw [e]; simp
 obtain⟨news,hn1,hn2⟩:=first_rel (P:=P) h2 hkr';have hlenx:=slice_len h2 P w;have hfl':=(flatten_row hkr').1;have hnl:news.length=rows'.length*ei.size:=by rw [<- hn1.length,hfl']
 have hexec:∀(v:Value) (w':World),(Builtin.append_ #[t,u] ty #[a.eval x,a.eval y]).run P w=.ok v w' ->
   (execOp a.eval (mk dst (.call { callee:=.builtin .append,args:=#[x,y],argTypes:=#[t,u] }) ty pos aft g)).run P w=.ok (.value v) w':=fun v w' hr=>by
  simp [execOp,resolve,invoke,builtin,hr]
 have htotal:(rows++rows').length=rows.length+rows'.length:=by simp
 have hmaxN:maxN=140737488355328:=rfl;have hidn:=(hl.1.obj id _ htk).1;rcases hl.arrAt htk rfl h1 with ⟨base,e1,hnl1,hrows,htok⟩|⟨b,cap,csA,ce,e1,hnl1,htok,hg,hcsz,hF,hcap,hkr,hall⟩
 ·-- nil so far
  subst hrows;by_cases hempty:rows'=[]
  ·subst hempty;have hnews:news=[]:=List.eq_nil_of_length_eq_zero (by simpa using hnl);subst hnews;have hrun:(Builtin.append_ #[t,u] ty #[a.eval x,a.eval y]).run P w=.ok (a.eval x) w:=by
    rw [e1];cases base with
    | none=>exact append_nilnil ht hu hdu hei (by simpa using hlenx) (by rw [hes]; simpa using hn2 w (fun _ _ _=>rfl))
    | some ad =>
     have:=append_fit (P:=P) (ty:=ty) (sCap:=0) (sLen:=0) (m:=0) (a:=ad) (news:=[]) (w':=w) ht hu hdu hei (by simpa using hlenx) (by rw [hes]; simpa using hn2 w (fun _ _ _=>rfl)) (by omega) (by simp [storeCells])
     simpa using this
   refine⟨_,w,a.eval x,j,jl,hexec _ _ hrun,.inl rfl, ?_, ?_,Ext.refl _, ?_⟩
   ·simpa using h1
   ·simp only [List.isEmpty_nil,Bool.and_true,List.append_nil,cond_true];rw [Heap.set_self H id _ htk]; exact hl
   ·simp only [List.isEmpty_nil,Bool.and_true,List.append_nil,cond_true];rw [Heap.set_self H id _ htk]; exact Evolve.refl _ _ _
  ·have hpos:0<rows'.length:=List.length_pos_iff.2 hempty;have hfalse:(nl&&rows'.isEmpty)=false:=by cases rows' with|nil=>exact absurd rfl hempty|cons _ _=>simp
   rw [hfalse];have hrun:=append_big (P:=P) (ty:=ty) (w:=w) (base:=base) (sLen:=0) (sCap:=0) (m:=rows'.length) (x:=a.eval y) (olds:=[]) (news:=news) ht hu hdu hei hzv hlenx
    (by cases base<;>simp [Builtin.firstCells,loadCells,loadCellsFrom]) (by rw [hes]; exact hn2 w.drew fun _ _ _=>rfl) (by omega) (by simp at hlen; omega) (growslice_fits (by omega) (by rw [heb]; simpa [maxN] using hfit))
   rw [<- e1] at hrun;generalize hcap':grownCap w (0+rows'.length) 0 e=cap' at hrun;have hge:rows'.length<=cap':=by rw [<- hcap']; have:=grownCap_ge w (0+rows'.length) 0 e; omega
   generalize hcells':[]++news++(Builtin.zeroCells zv.cells (cap'-(0+rows'.length))).toList=cells' at hrun;have hcl:cells'.length=cap'*ei.size:=by
    rw [<- hcells'];simp only [List.nil_append,List.length_append,hnl,Array.length_toList,size_zeroCells,hzsize,<- Nat.add_mul]
    congr 1; omega
   have hnew:=heap_alloc_new w.drew (.cells cells'.toArray e);obtain⟨hgrow,hev⟩:=hl.drew.growA (w':=w.drew.alloc (.cells cells'.toArray e)) (rows':=[]++rows') htk (by simpa using hpos) (b:=w.heap.size) (cap:=cap') hnew (by rw [hkk]; exact hcl) (by simpa using hge) (by simpa [hkk] using hkr') (by simpa using hlen)
    (fun x hx hlt=>heap_alloc_ne hlt) (by simp) (by simp) (.inl (Nat.le_refl _)) (fun j' hle=>by
     have htk':cells'.take (rows'.length*k)=news:=by rw [<- hcells',List.nil_append,hkk,List.take_left' (by rw [hnl])]
     rw [List.nil_append,htk'];exact hn1.imp fun _ _ h=>(h.mono ((Evolve.drew j w (fun _=>False)).toLe)).mono hle) rfl rfl Outs.rfl
   refine⟨_,_,_,_,jl,hexec _ _ hrun,.inl rfl, ?_,hgrow,Ext.refl _,(Evolve.drew j w _).trans hev⟩;refine DRel.arr _ _ _ _ _ _ (Nat.lt_of_lt_of_le hidn hev.toLe.next) fun tk htk=>?_;simp only [J.retok,if_true,Option.some.injEq] at htk;subst htk;exact⟨by simp,fun _=>.inr ⟨_,rfl,rfl,rfl⟩⟩
 ·have hfl:=(flatten_row hkr).1;subst hnl1;rw [Bool.false_and];by_cases hempty:rows'=[]
  ·subst hempty;have hnews:news=[]:=List.eq_nil_of_length_eq_zero (by simpa using hnl);subst hnews;have hrun:(Builtin.append_ #[t,u] ty #[a.eval x,a.eval y]).run P w=.ok (a.eval x) w:=by
    rw [e1];have:=append_fit (P:=P) (ty:=ty) (sCap:=cap) (sLen:=rows.length) (m:=0) (a:=⟨b,0,none⟩) (news:=[]) (w':=w) ht hu hdu hei (by simpa using hlenx) (by rw [hes]; simpa using hn2 w (fun _ _ _=>rfl)) (by omega) (by simp [storeCells])
    simpa using this
   refine⟨_,w,a.eval x,j,jl,hexec _ _ hrun,.inl rfl, ?_, ?_,Ext.refl _, ?_⟩
   ·simpa using h1
   ·simp only [List.append_nil,cond_true];rw [Heap.set_self H id _ htk]; exact hl
   ·simp only [List.append_nil,cond_true];rw [Heap.set_self H id _ htk]; exact Evolve.refl _ _ _
  ·have hpos:0<rows'.length:=List.length_pos_iff.2 hempty;have hkall:∀r∈rows++rows',r.length=k:=fun r hr=>(List.mem_append.1 hr).elim (hkr r) (fun h=>by rw [hkk]; exact hkr' r h);by_cases hroom:rows.length+rows'.length<=cap
   ·-- in place
    have hg':w.heap[b]?=some (.cells csA.toList.toArray ce (0,0)):=by simpa using hg
    obtain⟨w',hst,hupd⟩:=storeCells_upd (lou:=lou) (P:=P) (off:=rows.length*ei.size) news 0 csA.toList w hg' (by
     rw [hnl]; simp only [Array.length_toList,hcsz]; rw [Nat.add_zero,<- Nat.add_mul,hkk]; exact Nat.mul_le_mul_right _ hroom) (all2_one hn1)
    rw [Nat.add_zero] at hupd;have hrun:(Builtin.append_ #[t,u] ty #[a.eval x,a.eval y]).run P w=.ok (.slice (some ⟨b,0,none⟩) (rows.length+rows'.length) cap) w':=by
     rw [e1];exact append_fit ht hu hdu hei hlenx (by rw [hes]; exact hn2 w fun _ _ _=>rfl) hroom (by rw [add_plain,hes,Nat.zero_add]; exact hst)
    have hblkb:blkOf j id (.arr k rows)=some b:=by simp [blkOf,htok]
    have hclen:(rows++rows').length*k<=csA.toList.length:=by
     rw [htotal]; simp only [Array.length_toList,hcsz]; exact Nat.mul_le_mul_right _ hroom
    obtain⟨hgrow,hev⟩:=hl.growA (w':=w') (rows':=rows++rows') htk (by rw [htotal]; omega) (b:=b) (cap:=cap) hupd.here (by simp [spl_length,hcsz]) (by rw [htotal]; exact hroom) hkall (by rw [htotal]; exact hlen) (fun x hx _=>hupd.other x hx)
     (by rw [hupd.size]; exact Nat.le_refl _) (by rw [hupd.size]; omega) (.inr hblkb) (fun j' hle=>by
      rw [List.flatten_append];have h3:(spl csA.toList (rows.length*ei.size) news).take ((rows++rows').length*k)=csA.toList.take (rows.length*k)++news:=by
       refine List.ext_getElem? fun i=>?_;rw [List.getElem?_take];by_cases hi:i<rows.length*k
       ·rw [if_pos (by rw [htotal,Nat.add_mul]; omega),spl_lt _ _ _ _ (by rw [<- hkk]; exact hi),List.getElem?_append_left (by rw [List.length_take]; simp only [htotal,Nat.add_mul] at hclen; omega),List.getElem?_take,if_pos hi]
       ·rw [List.getElem?_append_right (by rw [List.length_take]; omega)];have hlt:(csA.toList.take (rows.length*k)).length=rows.length*k:=by rw [List.length_take]; simp only [htotal,Nat.add_mul] at hclen; omega
        rw [hlt];by_cases hi2:i<(rows++rows').length*k
        ·rw [if_pos hi2];have hi3:i-rows.length*k<news.length:=by rw [hnl,<- hkk]; rw [htotal,Nat.add_mul] at hi2; omega
         have:=spl_at csA.toList (rows.length*ei.size) news (i-rows.length*k) _ (List.getElem?_eq_getElem hi3) (by rw [hnl,<- hkk]; simp only [htotal,Nat.add_mul] at hclen; exact hclen);rw [<- hkk,show rows.length*k+(i-rows.length*k)=i by omega] at this;rw [<- hkk,this,List.getElem?_eq_getElem hi3]
        ·rw [if_neg hi2]
         symm; apply List.getElem?_eq_none; rw [hnl,<- hkk]; rw [htotal,Nat.add_mul] at hi2; omega
      rw [h3];exact(hall.imp fun _ _ h=>h.mono hle).append (hn1.imp fun _ _ h=>h.mono hle)) hupd.os hupd.tape hupd.output
    rw [htotal] at hev hgrow;refine⟨_,w',_,_,jl,hexec _ _ hrun,.inl rfl, ?_,hgrow,Ext.refl _,hev⟩;refine DRel.arr _ _ _ _ _ _ (Nat.lt_of_lt_of_le hidn hev.toLe.next) fun tk htk=>?_;simp only [J.retok,if_true,Option.some.injEq] at htk;subst htk;exact⟨Nat.le_refl _,fun _=>.inr ⟨_,rfl,rfl,rfl⟩⟩
   ·-- a new array
    obtain⟨olds,holds,hol⟩:∃olds,olds=csA.toList.take (rows.length*k)/\olds.length=rows.length*ei.size:=⟨_,rfl,by
     have h9:csA.toList.length=cap*k:=by simpa using hcsz
     have:=Nat.mul_le_mul_right k hcap;rw [List.length_take,h9,<- hkk];omega⟩
    rw [<- holds] at hall;have hfo:(Builtin.firstCells ei.size rows.length (.slice (some ⟨b,0,none⟩) rows.length cap)).run P w.drew=.ok olds.toArray w.drew:=by
     rw [Builtin.firstCells,<- hol];exact run_loadCells_list w.drew _ olds fun n v hv=>by
      rw [add_plain,Nat.zero_add];have:w.drew.cell? ⟨b,n,none⟩=w.cell? ⟨b,n,none⟩:=rfl;rw [this,cell_of_row w b n csA ce (0,0) hg];rw [holds,List.getElem?_take] at hv
      split at hv
      ·simpa using hv
      ·cases hv
    have hrun:=append_big (P:=P) (ty:=ty) (w:=w) (base:=some ⟨b,0,none⟩) (sLen:=rows.length) (sCap:=cap) (m:=rows'.length) (x:=a.eval y) (olds:=olds) (news:=news) ht hu hdu hei hzv hlenx
     (by rw [hes]; exact hfo) (by rw [hes]; exact hn2 w.drew fun _ _ _=>rfl) (by omega) (by omega) (growslice_fits (by omega) (by rw [heb]; exact hfit))
    rw [<- e1] at hrun;generalize hcap':grownCap w (rows.length+rows'.length) cap e=cap' at hrun;have hge:rows.length+rows'.length<=cap':=by rw [<- hcap']; exact grownCap_ge _ _ _ _
    generalize hcells':olds++news++(Builtin.zeroCells zv.cells (cap'-(rows.length+rows'.length))).toList=cells' at hrun;have hcl:cells'.length=cap'*ei.size:=by
     rw [<- hcells'];simp only [List.length_append,hol,hnl,Array.length_toList,size_zeroCells,hzsize,<- Nat.add_mul]
     congr 1; omega
    have hnew:=heap_alloc_new w.drew (.cells cells'.toArray e);obtain⟨hgrow,hev⟩:=hl.drew.growA (w':=w.drew.alloc (.cells cells'.toArray e)) (rows':=rows++rows') htk (by rw [htotal]; omega) (b:=w.heap.size) (cap:=cap') hnew (by rw [hkk]; exact hcl) (by rw [htotal]; exact hge) hkall (by rw [htotal]; exact hlen)
     (fun x hx hlt=>heap_alloc_ne hlt) (by simp) (by simp) (.inl (Nat.le_refl _)) (fun j' hle=>by
      have htk':cells'.take ((rows++rows').length*k)=olds++news:=by rw [<- hcells',List.take_left' (by rw [List.length_append,hol,hnl,htotal,hkk,Nat.add_mul])]
      rw [htk',List.flatten_append];have hd:=(Evolve.drew j w (fun _=>False)).toLe;exact(hall.imp fun _ _ h=>(h.mono hd).mono hle).append (hn1.imp fun _ _ h=>(h.mono hd).mono hle)) rfl rfl Outs.rfl
    rw [htotal] at hev hgrow;refine⟨_,_,_,_,jl,hexec _ _ hrun,.inl rfl, ?_,hgrow,Ext.refl _,(Evolve.drew j w _).trans hev⟩;refine DRel.arr _ _ _ _ _ _ (Nat.lt_of_lt_of_le hidn hev.toLe.next) fun tk htk=>?_;simp only [J.retok,if_true,Option.some.injEq] at htk;subst htk;exact⟨Nat.le_refl _,fun _=>.inr ⟨_,rfl,rfl,rfl⟩⟩
end

section
variable {P:Program}{ts:Ts}{ls:List (List D)}{h:Heap}{dst:Option Tmp}{ty:TypeId}{pos:String}{aft:Array Edge}{g:Option (Nat×Bool)}{α:Type}{f:α->List D}
theorem Cert.appR {t u e:TypeId}{ti ui ei:TI}{x y:Operand}{id k k' m:Nat}{nl:Bool}{tok':Option Nat}{s r v:Sl α}{z:A}(hT:mkTI P t=some ti) (hk:ti.k=.slice e) (hE:mkTI P e=some ei) (hU:mkTI P u=some ui) (huk:∃e,ui.k=.slice e)
  (hz:ei.zero=some z) (hzs:(cellsA z).length=ei.size) (hx:ev ts x=.a (.d (.arr k id nl m))) (hy:ev ts y=.a (.d (r.d k' f tok'))) (hkk:k=ei.size) (hkk':k'=ei.size)
  (htk:h id=some (.arr k (s.l.map f))) (hm:m=s.l.length) (hnl:nl=s.nl) (hr:appC ei.bytes s r=some v) :
  Cert P (mk dst (.call { callee:=.builtin .append,args:=#[x,y],argTypes:=#[t,u] }) ty pos aft g) ts ls h { rh:=true,wh:=true } (.a (.d (.arr k id v.nl v.l.length))) ls (h.set id (some (.arr k (v.l.map f)))):=by
 obtain⟨e,h1,h2⟩:=appC_some hr;subst e hnl;have:=Cert.appendR (lou:=lou) (P:=P) (dst:=dst) (ty:=ty) (pos:=pos) (aft:=aft) (g:=g) (ls:=ls) hT hk hE hU (.inl huk) hz hzs hx hy hkk (.inl hkk') htk (by simpa using hm) (by simpa using h1) (by simpa using h2);simp only [List.length_map,List.isEmpty_map] at this;rw [<- List.map_append] at this
 simpa using this

theorem HL.freezeA {j:J}{w:World}{jl:List Nat}{ls:List (List D)}{h:Heap}(hl:HL j w jl ls h){k k' id:Nat}{nl:Bool}{rows:List (List D)}(hi:h id=some (.arr k rows)){cv:Value}
  (hx:VRel j w jl (.a (.d (.arr k' id nl rows.length))) cv) :
  ∃j',HL j' w jl ls (h.set id none)/\Evolve j w (Own j h jl) j' w (Own j' (h.set id none) jl)/\DRel j' w (.slice k none nl rows) cv:=by
 obtain⟨hf,hev⟩:=hl.forget (h':=h.set id none) fun n o hn=>by
  by_cases c:n=id
  ·subst c; rw [Heap.set_same] at hn; cases hn
  ·rwa [Heap.set_other h _ c] at hn
 have hmx:rows.length<=maxN:=by obtain⟨_,_,_,_,_,hmx,_⟩:=hl.1.obj id _ hi; exact hmx
 rcases hl.arrAt hi rfl hx with ⟨base,e1,hnl1,hrows,htok⟩|⟨b,cap,csA,ce,e1,hnl1,htok,hg,hcsz,hF,hcap,hkr,hall⟩
 ·subst e1 hnl1 hrows;cases base with
  | none=>exact⟨j,hf,hev,.snil _ _ (by simp)⟩
  | some ad=>exact⟨j,hf,hev,.slice k none [] ad 0 (fun _=>undef) (by simp) (by simp) (by simp) ⟨.inl rfl,by simp⟩ (by simp) (fun t ht=>by cases ht)⟩
 ·subst e1 hnl1;have hlt:=lt_of_heap hg;have hblk:blkOf j id (.arr k rows)=some b:=by simp [blkOf,htok]
  have hnown:¬Own j (h.set id none) jl b:=by
   rintro (hm|⟨n,o,h1,h2⟩)
   ·exact hl.2.apart b hm (.inr ⟨id,_,hi,hblk⟩)
   ·have c:n≠id:=fun c=>by subst c; rw [Heap.set_same] at h1; cases h1
    rw [Heap.set_other h _ c] at h1;exact c (hl.1.inj n o id _ b h1 hi h2 hblk)
  have hle:Le j w (j.frz b (rows.length*k)) w:=⟨Nat.le_refl _,fun _ _=>rfl,fun b'=>by
   simp only [J.frz]
   split
   ·rename_i e; rw [e,hF]; exact Nat.zero_le _
   ·exact Nat.le_refl _,fun _ _ _=>rfl,fun _ _=>.inl rfl⟩
  have hsame:∀b',b'≠b->(j.frz b (rows.length*k)).F b'=j.F b':=fun b' hne=>by simp only [J.frz]; rw [if_neg hne]
  have hk2:=hf.keep hle (fun b' ho=>⟨rfl,hsame b' (fun e=>hnown (e▸ho))⟩) (fun _ _ _=>rfl) (fun b' hb'=>by rw [hsame b' (by omega)]; exact hl.1.fresh b' hb');refine⟨j.frz b (rows.length*k),hk2.1,{ toLe:=hle,size:=Nat.le_refl _,frame:=fun b' _ ho=>⟨rfl,hsame b' fun e=>ho (e▸.inr ⟨id,_,hi,hblk⟩)⟩,own:=fun b' hb' ho=>hev.own b' hb' ((hk2.2 b').1 ho),os:=rfl,tape:=rfl,output:=Outs.rfl }, ?_⟩;refine mk_slice hkr hmx hcap (fun i x hx=>?_) fun t ht=>by cases ht
  obtain⟨v,hv,hr⟩:=hall.get hx;have hin:i<rows.length*k:=by
   rcases Nat.lt_or_ge i (rows.length*k) with h|h
   ·exact h
   ·rw [List.getElem?_take,if_neg (by omega)] at hv; cases hv
  refine⟨by simp only [J.frz,if_true]; omega,v, ?_,hr.mono hle⟩;rw [Nat.zero_add,cell_of_row w b i csA ce (0,0) hg];rw [List.getElem?_take,if_pos hin] at hv
  simpa using hv
variable {c:Code}{Q:Exit->St->Prop}{n:Nat}{ops:Array Oper}{rest:List Oper}{Q':St->Prop}
theorem AOps.arrO (k:Nat) (hw:∀t,h t=none->AOps P ops rest Q' ⟨n,ts,ls,h.set t (some (.arr k []))⟩):AOps P ops rest Q' ⟨n,ts,ls,h⟩:=by
 intro j w jl a hsr Qc hk;obtain⟨h1,h2⟩:=hsr.hl.newArr k;have hnone:=hsr.hl.1.next_none (Nat.le_refl _);exact hw j.next hnone j.newTok w jl a ⟨hsr.defers,hsr.size,fun i=>(hsr.tmps i).mono h2.toLe (Ext.refl _),h1⟩ Qc fun σ' j' w' jl' a' hq hs' hev=>hk σ' j' w' jl' a' hq hs' (h2.trans hev)
theorem AWp.arrO (k:Nat) (hw:∀t,h t=none->AWp P c Q ⟨n,ts,ls,h.set t (some (.arr k []))⟩):AWp P c Q ⟨n,ts,ls,h⟩:=by
 intro j w jl a hsr;obtain⟨h1,h2⟩:=hsr.hl.newArr k;have hnone:=hsr.hl.1.next_none (Nat.le_refl _);refine wp_mono (hw j.next hnone j.newTok w jl a ⟨hsr.defers,hsr.size,fun i=>(hsr.tmps i).mono h2.toLe (Ext.refl _),h1⟩) fun e a w hq=>AQ.trans h2 hq
theorem nil_arr {j:J}{w:World}{h:Heap}{t k k0 k1:Nat}(hh:HRel j w h) (ht:h t=some (.arr k [])){cv:Value}(hx:DRel j w (.slice k0 none true []) cv):DRel j w (.arr k1 t true 0) cv:=by
 cases hx;obtain⟨h0,blk,h1,h2,_⟩:=hh.obj _ _ ht;have h3:=h2.2 rfl;refine .arr _ _ _ _ _ _ h0 fun tk htk=>?_;rw [h1] at htk; simp only [Option.some.injEq] at htk; subst htk;exact⟨by simp,fun _=>.inl ⟨h3,rfl,rfl⟩⟩
theorem AOps.nilR (s k t:Nat){k0:Nat}(hs:get ts s=.a (.d (.slice k0 none true []))) (ht:h t=some (.arr k []))
  (hw:AOps P ops rest Q' ⟨n,(s,.a (.d (.arr k t true 0)))::ts,ls,h⟩):AOps P ops rest Q' ⟨n,ts,ls,h⟩:=by
 intro j w jl a hsr;refine hw j w jl a ⟨hsr.defers,hsr.size,fun i=>?_,hsr.hl⟩;by_cases e:s=i
 ·subst e;show VRel _ _ _ (get ((s,_)::ts) s) _;rw [get_same];have hv:VRel j w jl (get ts s) (a.tmps.getD s undef):=hsr.tmps s;rw [hs] at hv;exact nil_arr hsr.hl.1 ht hv
 ·show VRel _ _ _ (get ((s,_)::ts) i) _;rw [get_other _ _ e];exact hsr.tmps i
theorem AOps.sLenR {d:Nat}{t e:TypeId}{ti:TI}{x:Operand}{ats:Array TypeId}{k k' id m:Nat}{nl:Bool}{l:List α}(hT:mkTI P t=some ti) (hk:ti.k=.slice e) (hat:ats[0]?=some t) (hx:ev ts x=.a (.d (.arr k' id nl m)))
  (hh:h id=some (.arr k (l.map f))) (hm:m=l.length) (hd:Nat.blt d n=true)
  (hr:l.length<=140737488355328->AOps P ops rest Q' ⟨n,(d,.a (.d (.int .i64 (m:Int))))::ts,ls,h⟩) :
  AOps P ops (⟨some d,.call { callee:=.builtin .len,args:=#[x],argTypes:=ats },ty,pos,aft,none⟩::rest) Q' ⟨n,ts,ls,h⟩:=by
 intro j w jl a hsr Qc hk2;have hlen:l.length<=140737488355328:=by
  obtain⟨_,_,_,_,_,hmx,_⟩:=hsr.hl.1.obj id _ hh
  simpa [maxN] using hmx
 exact AOps.s0 (Cert.lenR hT hk hat hx) hd (hr hlen) j w jl a hsr Qc hk2
theorem AOps.fullR (s k t:Nat){k0:Nat}(hs:get ts s=.full k0 []) (ht:h t=some (.arr k []))
  (hw:AOps P ops rest Q' ⟨n,(s,.a (.d (.arr k t false 0)))::ts,ls,h⟩):AOps P ops rest Q' ⟨n,ts,ls,h⟩:=by
 intro j w jl a hsr;refine hw j w jl a ⟨hsr.defers,hsr.size,fun i=>?_,hsr.hl⟩;by_cases e:s=i
 ·subst e;show VRel _ _ _ (get ((s,_)::ts) s) _;rw [get_same];have hv:VRel j w jl (get ts s) (a.tmps.getD s undef):=hsr.tmps s;rw [hs] at hv;obtain⟨_,ad,hv⟩:=hv;show DRel j w (.arr k t false 0) (a.tmps.getD s undef);rw [hv];obtain⟨h0,blk,h1,h2,_⟩:=hsr.hl.1.obj _ _ ht;have h3:=h2.2 rfl;refine DRel.arr _ _ _ _ _ _ h0 fun tk htk=>?_;rw [h1] at htk; simp only [Option.some.injEq] at htk; subst htk;exact⟨by simp,fun _=>.inl ⟨h3,rfl,rfl⟩⟩
 ·show VRel _ _ _ (get ((s,_)::ts) i) _;rw [get_other _ _ e];exact hsr.tmps i
end
def Sl.setL {α:Type}(s:Sl α) (i:Nat) (x:α):Sl α:=⟨s.nl,s.l.set i x⟩
end Go.Ab

/-
 A function that lays one deferred call and returns: the deferred closure is called behind the body,then the results are read. No program text.
-/
namespace Go.Ab
open Go Go.RowKit
variable {lou:Lou}

section
variable {P:Program}{M:St->Prop}{σ:St}{Y:Code}
end

end Go.Ab
namespace Go.Ab
open Go Go.RowKit
variable {lou:Lou}
end Go.Ab
namespace Go.Ab
variable {lou:Lou}
end Go.Ab
namespace Go.Ab
variable {lou:Lou}
end Go.Ab

/-
 Arrays that are built at once and then only read.
-/
namespace Go.Ab
open Go Go.RowKit
variable {lou:Lou}
def arrF (n k:Nat) (e:TypeId):List (Nat×TypeId):=(List.range n).map fun i=>(i*k,e)
theorem DRel.front {j:J}{w:World}{x:D}{xs:List D}{cv:Value}(h:DRel j w (.view (x::xs)) cv):DRel j w (.view [x]) cv:=by
 cases h with
 | view _ a f hat hr =>
  exact .view [x] a f ⟨hat.1,fun i hi=>hat.2 i (by simp at hi ⊢; omega)⟩ fun i hi=>by
   have h0:i=0:=by simpa using hi
   subst h0;exact hr 0 (by simp)
section
variable {P:Program}{T:List TI}{ts:Ts}{ls:List (List D)}{h:Heap}{dst:Option Tmp}{ty:TypeId}{pos:String}{aft:Array Edge}{g:Option (Nat×Bool)}
theorem Cert.buildArr (hTab:TabOk P T){t e:TypeId}{n:Nat}{ti ei:TI}{zs ys:List D}{parts:Array (Nat×Operand)}{ps:List (Nat×A)}(hu:P.underlying t=some (.array n e)) (hT:T[t]?=some ti) (hE:T[e]?=some ei) (hz:ti.zero=some (.agg zs))
  (hp:evParts ts parts.toList=some ps) (hb:buildA T (arrF n ei.size e) zs ps=some ys):Cert P (mk dst (.build t parts) ty pos aft g) ts ls h {} (.a (.agg ys)) ls h :=
 Cert.of_ops fun j w jl a ho=>by
  have hr:=evParts_rel (j:=j) (w:=w) (jl:=jl) (act:=a) parts.toList ps hp fun x hx=>ho x (by simp [Op.operands] at hx ⊢; exact hx);have hT':=hTab t ti hT;obtain⟨inf,d,h1,_,_,_,_,h2⟩:=mkTI_spec hT';rw [hz] at h2;obtain⟨zv,h3,h4⟩:=zeroF_rel h2;obtain⟨cs',h5,h6⟩:=buildA_spec (j:=j) (w:=w) (T:=T) (fs:=arrF n ei.size e) (place:=fun i=>some (i*ei.size,ei.size)) (fun i o ft fi hi hfi=>by
   unfold arrF at hi;rw [List.getElem?_map] at hi;cases e1:(List.range n)[i]? with
   | none=>rw [e1] at hi; cases hi
   | some q =>
    rw [e1] at hi;simp only [Option.map_some,Option.some.injEq,Prod.mk.injEq] at hi;obtain⟨rfl,rfl⟩:=hi;rw [hE] at hfi; cases hfi;have:=(List.getElem?_eq_some_iff.1 e1).2;rw [List.getElem_range] at this;rw [this]) ps _ zs ys zv.cells hb hr (h4 j w).cells
  refine⟨.agg cs', ?_,⟨cs'.toList,by simp,h6⟩⟩;have hrun:(Instr.build t (parts.map fun(i,x)=>(i,a.eval x))).run P w=.ok (.agg cs') w:=by
   simp only [Instr.build,Sem.run_bind,zeroValue,typeInfo,run_program,h1,h3,Result.andThen,Sem.run_pure,run_under hu,sizeOf_run (hTab e ei hE)];have e:(Array.map (fun(x:Nat×Operand)=>(x.1,a.eval x.2)) parts).toList=parts.toList.map fun p=>(p.1,a.eval p.2):=by simp
   rw [e,h5];simp
  simp only [execOp,Sem.run_bind,hrun,Result.andThen,Sem.run_pure]
theorem Cert.idxArr {α:Type}{f:α->D}{t e:TypeId}{n:Nat}{ei:TI}{x ix:Operand}{ik:IntKind}{z:Int}{l:List α}{y:α}(hu:P.underlying t=some (.array n e)) (hE:mkTI P e=some ei) (hx:ev ts x=.a (.d (.view (l.map f)))) (hi:ev ts ix=.a (.d (.int ik z)))
  (hs:ei.size=1) (hn:n=l.length) (hr:idxC l z=some y):Cert P (mk dst (.indexAddr t x ix) ty pos aft g) ts ls h {} (.a (.d (.view [f y]))) ls h :=
 Cert.of_ops fun j w jl a ho=>by
  have h1:=ho x (by simp [Op.operands]);have h2:=ho ix (by simp [Op.operands]);rw [hx] at h1; rw [hi] at h2;obtain⟨ad,f',e1,hat,hrr⟩:=rel_view h1;obtain⟨h0,hz⟩:=idxC_some hr;have hlt:=(List.getElem?_eq_some_iff.1 hz).1;have hlt2:z<(n:Int):=by omega
  have hy:=(List.getElem?_eq_some_iff.1 hz).2;refine⟨.pointer (some (ad.add (z.toNat*1))), ?_, ?_⟩
  ·simp [execOp,e1,rel_int h2,Instr.indexAt,asIntOf,run_under hu,sizeOf_run hE,h0,hlt2,hs,Instr.sureAddr]
  ·have hd:=DRel.view_drop hat hrr (z.toNat*1);rw [Nat.mul_one] at hd ⊢;have e2:(l.map f).drop z.toNat=f y::(l.map f).drop (z.toNat+1):=by
    rw [List.drop_eq_getElem_cons (by simpa using hlt)];simp [hy]
   rw [e2] at hd;exact DRel.front hd
end
end Go.Ab

/-
 Scopes: code that no jump leaves.
-/
namespace Go.Ab
open Go Go.RowKit
variable {lou:Lou}
def noG (Q:Exit->St->Prop):Exit->St->Prop
 | .goto _,_=>False
 | e,σ=>Q e σ
theorem AWp.scope [Amb] {P:Program}{Q:Exit->St->Prop}{σ:St}{c:Code}(h:AWp P c (noG Q) σ):AWp P (.scope c) Q σ:=fun j w jl a hs =>
 wp_scope_straight (wp_mono (h j w jl a hs) fun e a' w' hq=>by
  cases e with
  | goto l=>obtain⟨_,_,_,hf,_⟩:=hq; exact hf.elim
  | normal=>exact hq
  | exit id=>exact hq
  | ret=>exact hq
  | panic ch=>exact hq
  | outgrown=>exact hq)
theorem noG_ret {Q:Exit->St->Prop}{σ:St}(h:Q .ret σ):noG Q .ret σ:=h
end Go.Ab

/-
 Calls that only lay new blocks. No program text.
-/
namespace Go.Ab
open Go Go.RowKit Go.Sort
variable {lou:Lou}

theorem HL.grown {j:J}{w:World}{jl:List Nat}{ls:List (List D)}{h:Heap}(hl:HL j w jl ls h) (n:Nat) (os:Array Go.Obj):HL j (Sort.grow (Sort.ahead w n) os) jl ls h/\Evolve j w (Own j h jl) j (Sort.grow (Sort.ahead w n) os) (Own j h jl):=by
 have hb:∀b,b<w.heap.size->(Sort.grow (Sort.ahead w n) os).heap[b]?=w.heap[b]?:=fun b hb=>heap_grow_old _ _ hb;have hle:Le j w j (Sort.grow (Sort.ahead w n) os):=⟨Nat.le_refl _,fun _ _=>rfl,fun _=>Nat.le_refl _,fun b o ho=>cell?_eq (hb b (by
  rcases Nat.lt_or_ge b w.heap.size with h|h
  ·exact h
  ·rw [hl.1.fresh b h] at ho; omega)),fun _ _=>.inl rfl⟩
 have hk:=hl.keep hle (fun b ho=>⟨hb b (ho.lt hl),rfl⟩) (fun _ _ _=>rfl) (fun b hb=>hl.1.fresh b (by simp at hb; omega));exact⟨hk.1,{ toLe:=hle,size:=by simp,frame:=fun b h _=>⟨hb b h,rfl⟩,own:=fun b _ ho=>ho,os:=rfl,tape:=rfl,output:=⟨rfl,by simp [Sort.grow,Sort.ahead]⟩ }⟩

end Go.Ab

/-
 slices.SortFunc over a slice that may be stored to: the shelf's contract,read in the abstract state. No program text.
-/
namespace Go.Ab
open Go Go.RowKit Go.Proofs Go.Shelf Go.Sort
variable {lou:Lou}

def scalB:D->Bool
 | .str s=>Nat.ble s.length maxS
 | .int _ _=>true
 | .bool _=>true
 | _=>false
section
variable {P:Program}{ρ:Ren}{T:Type} [Inhabited T] (c:T->List D) (k:Nat)
def okT (x:T):Bool:=(c x).all scalB
def normT (x:T):T:=bif okT c x then x else default
def cfT (cf:T->T->Int) (x y:T):Int:=cf (normT c x) (normT c y)
def sortP (cf:T->T->Int) (l:List T):List T:=(pdq (ltOf (cfT c cf)) l.toArray 0 l.length (Lib.bitLen l.length) true true).toList
def sortT (cf:T->T->Int) (l:List T):List T:=bif Nat.beq (sortP c cf l).length l.length then sortP c cf l else l
theorem sortT_len (cf:T->T->Int) (l:List T):(sortT c cf l).length=l.length:=by
 unfold sortT;cases h:Nat.beq (sortP c cf l).length l.length
 ·rfl
 ·exact Nat.eq_of_beq_eq_true h

end

section
variable {P:Program}{ρ:Ren}{T:Type} [Inhabited T] {c:T->List D}{k:Nat}
end

def cmpO {T:Type}(f:T->T->Option Int) (x y:T):Int:=(f x y).getD 0
def sortL {T:Type} [Inhabited T] (c:T->List D) (f:T->T->Option Int) (s:Sl T):Sl T:=⟨s.nl,sortT c (cmpO f) s.l⟩
theorem sortL_len {T:Type} [Inhabited T] {c:T->List D}{f:T->T->Option Int}{s:Sl T}:(sortL c f s).l.length=s.l.length:=sortT_len c _ _
end Go.Ab

/-
 slices.DeleteFunc over a slice that may be stored to and is not used any more: the shelf's contract,read in the abstract state. No program text.
-/
namespace Go.Proofs
open Go.Shelf Go.RowKit Go.Lib Go.Sort
variable {P:Program}{ρ:Ren}
theorem del_empty (L:SlLaysH.n10 P ρ) (a:Option Addr) (c:Nat) (fv:Value) (w:World) :
  Calls P (ρ.f 10) #[.slice a 0 c,fv] w fun e w'=>e=.returned (.slice a 0 c)/\w'=w:=by
 have mixed:=L.mixed; have t0:=L.t0; have a0:=L.a0; have z0:=L.z0; have v0:=L.v0; have t3:=L.t3; have a3:=L.a3; have z3:=L.z3; have v3:=L.v3; have t4:=L.t4; have a4:=L.a4; have z4:=L.z4; have v4:=L.v4; have t22:=L.t22; have a22:=L.a22; have z22:=L.z22; have v22:=L.v22; have a23:=L.a23; have z23:=L.z23; have t25:=L.t25; have a25:=L.a25; have z25:=L.z25; have v25:=L.v25;have e6:∀args w,(callFunc (ρ.f 6) args).run P w=.ok (.enter (ρ.f 6) args) w:=L.f6.enters rfl
 obtain⟨_,_,FG⟩:=L.f10
 go_enter FG,SlBodyH.n10_ntmps ρ
 go_wp2_with (go_at_fn (ρ.f 6); refine(AnyE.slices_IndexFunc_empty { L with } a c fv _).mono ?_; rintro e w' ⟨rfl,rfl⟩)
 go_ret
 exact⟨rfl,rfl⟩
end Go.Proofs
namespace Go.Ab
open Go Go.RowKit Go.Proofs Go.Shelf Go.Sort
variable {lou:Lou}
section
variable {P:Program}{ρ:Ren}
theorem front_rel {j:J}{w:World}{k n b cap:Nat}{rows:List (List D)}(h:DRel j w (.slice k none false rows) (.slice (some ⟨b,0,none⟩) rows.length cap)) (hk:∀r∈rows,r.length=k) (hn:n<=rows.length) :
  DRel j w (.slice k none false (rows.take n)) (.slice (some ⟨b,0,none⟩) n cap):=by
 generalize hc:(Value.slice (some (⟨b,0,none⟩:Addr)) rows.length cap)=cv at h;cases h with
 | slice _ _ _ a cap' cv hk hn' hc' hat hr ht =>
  simp only [Value.slice.injEq,Option.some.injEq] at hc;obtain⟨rfl,_,rfl⟩:=hc;have:=part_rel hk hn' hc' hat hr (l:=0) (r:=n) (Nat.zero_le _) hn;simp only [List.drop_zero,Nat.sub_zero,Nat.zero_mul] at this;by_cases e:cap=0
  ·rw [if_pos e] at this; exact this
  ·rw [if_neg e] at this
   simpa [Addr.add] using this
variable {T:Type} [Inhabited T] {v:T->Value}{d1:T->D}
theorem del_calls (L:SlLaysH.n10 P ρ) (hO:OneCell v) (hinv:∀j w x cv,DRel j w (d1 x) cv->cv=v x) (zr:T) (v23:∀w,(zeroValue (ρ.t 23)).run P w=.ok (v zr) w) (hz:∀j w,DRel j w (d1 zr) (v zr))
  {p:T->Bool}{g:Nat}(eg:∀args w,(callFunc g args).run P w=.ok (.enter g args) w) (hg:∀x w,Calls P g #[v x] w fun e w'=>e=.returned (.bool (p x))/\w'=w)
  {H:Heap}{id:Nat}{nl:Bool}{l:List T}(hH:H id=some (.arr 1 (l.map fun x=>[d1 x]))) :
  AC P (ρ.f 10) [.d (.arr 1 id nl l.length),.d (.func g [])] H fun r h'=>r=.a (.d (.slice 1 none nl ((l.filter fun x=>!p x).map fun x=>[d1 x])))/\h'=H.set id none:=by
 refine⟨L.f10.enters rfl,fun j w cargs hr ha=>?_⟩;have hl:HL j w [] [] H:=⟨hr,⟨.nil,by simp,by simp⟩⟩;cases ha with
 | cons h1 ha =>
 cases ha with
 | cons h2 ha =>
 cases ha
 rename_i v1 v2
 have h2':DRel j w (.func g []) v2:=h2;obtain rfl:v2=.func (.func g) #[] #[]:=by
  cases h2' with
  | func _ _ cvs hlen _ =>
   have:cvs=[]:=List.eq_nil_of_length_eq_zero (by simpa using hlen.symm);subst this; rfl
 have hmx:l.length<=maxN:=by obtain⟨_,_,_,_,_,hmx,_⟩:=hr.obj id _ hH; simpa using hmx
 rcases hl.arrAt hH (by simp) (k':=1) (n:=l.length) (cv:=v1) h1 with ⟨base,e1,hnl1,hrows,htok⟩|⟨b,cap,csA,ce,e1,hnl1,htok,hg1,hcsz,hF,hcap,hkr,hall⟩
 ·subst e1;have hl0:l=[]:=by simpa using hrows
  subst hl0;obtain⟨hf,hev⟩:=hl.forget (h':=H.set id none) fun n o hn=>by
   by_cases c:n=id
   ·subst c; rw [Heap.set_same] at hn; cases hn
   ·rwa [Heap.set_other H _ c] at hn
  refine(del_empty L base 0 _ w).mono ?_;rintro e w' ⟨rfl,hw'⟩;rw [hw'];refine⟨_,_,j,_,rfl,⟨rfl,rfl⟩, ?_,hf.1,hev⟩;show DRel j w (.slice 1 none nl []) (.slice base 0 0);rw [hnl1];cases base with
  | none=>exact .snil _ _ (by simp)
  | some ad=>exact .slice 1 none [] ad 0 (fun _=>undef) (by simp) (by simp) (by simp) ⟨.inl rfl,by simp⟩ (by simp) (fun t ht=>by cases ht)
 ·subst e1;rw [List.length_map] at hcap hall;simp only [Nat.mul_one] at hall hcsz;have hfl:∀m:List T,(m.map fun x=>[d1 x]).flatten=m.map d1:=fun m=>by induction m with
   | nil=>rfl
   | cons a r ih=>simp [ih]
  rw [hfl] at hall;have hcells:∀i,w.cell? ⟨b,i,none⟩=csA[i]?:=fun i=>cell_of_row w b i csA ce (0,0) hg1;have hold:csA.toList.take l.length=l.map v:=by
   refine List.ext_getElem? fun i=>?_;by_cases hi:i<l.length
   ·obtain⟨u,hu,hr1⟩:=hall.get (i:=i) (x:=d1 l[i]) (by rw [List.getElem?_map,List.getElem?_eq_getElem hi]; rfl);rw [hu,hinv _ _ _ _ hr1,List.getElem?_map,List.getElem?_eq_getElem hi]; rfl
   ·rw [List.getElem?_eq_none (by rw [<- hall.length]; simp; omega),List.getElem?_eq_none (by simp; omega)]
  have hHo:Holds v w b 0 l.toArray:=by
   intro i hi;rw [List.size_toArray] at hi;refine⟨?_,frozen_of_row w b _ csA ce hg1⟩;rw [Nat.zero_add,hcells];have h4:(csA.toList.take l.length)[i]?=(l.map v)[i]?:=by rw [hold]
   rw [List.getElem?_take,if_pos hi,Array.getElem?_toList,List.getElem?_map,List.getElem?_eq_getElem hi] at h4;rw [h4]; simp [hi]
  have hfg:∀(W:World) (x:T),FnGives P g #[] #[v x] (.bool (p x)) W:=fun W x=>by
   show Calls P g (#[v x]++#[]) W _;rw [show (#[v x]++#[]:Array Value)=#[v x] by simp];exact(hg x W).mono fun e w' ⟨h1,h2⟩=>⟨h1,0,by rw [h2]; rfl⟩
  have hcall:=AnyE.slices_DeleteFunc L v hO p g #[] eg zr v23 b 0 cap l.toArray w (fun W x _=>hfg W x) (fun n os dk x _=>hfg _ x) hHo (by rw [List.size_toArray]; unfold maxN at hmx; omega) (by simpa using hcap);simp only [List.size_toArray] at hcall;rw [show [Value.slice (some ⟨b,0,none⟩) (l.map fun x=>[d1 x]).length cap,.func (.func g) #[] #[]].toArray=#[.slice (some ⟨b,0,none⟩) l.length cap,.func (.func g) #[] #[]] by simp]
  refine hcall.mono ?_;rintro e w' ⟨rfl,q,rfl⟩;generalize hfi:(l.filter fun x=>!p x)=fi;have hfil:fi.length<=l.length:=by rw [<- hfi]; exact List.length_filter_le _ _
  generalize hnw:fi++List.replicate (l.length-fi.length) zr=new;have hnl:new.length=l.length:=by rw [<- hnw]; simp; omega
  let cs':List Value:=(putCells v 0 new.toArray csA).toList
  have hcs':cs'=new.map v++csA.toList.drop l.length:=by
   refine List.ext_getElem? fun i=>?_;show (putCells v 0 new.toArray csA).toList[i]?=_;unfold putCells;rw [Array.getElem?_toList,Array.getElem?_mapIdx,List.getElem?_append];by_cases hi:i<l.length
   ·have hi1:i<csA.size:=by omega
    have hi2:i<new.toArray.size:=by simp [hnl,hi]
    have g1:csA[i]?=some csA[i]:=Array.getElem?_eq_getElem hi1;rw [if_pos (by simp [hnl,hi]),g1,Option.map_some,if_pos ⟨Nat.zero_le _,by rw [Nat.zero_add]; exact hi2⟩,Nat.sub_zero,getElem!_pos _ i hi2,List.getElem?_map,List.getElem?_eq_getElem (by omega)];simp
   ·rw [if_neg (by simp [hnl,hi]),List.length_map,hnl,List.getElem?_drop,show l.length+(i-l.length)=i by omega,Array.getElem?_toList];cases csA[i]? with
    | none=>rfl
    | some y=>rw [Option.map_some,if_neg (by simp [hnl]; omega)]
  have hupd:Upd w (putRow v w b 0 new.toArray) b (.cells cs'.toArray ce (0,0)):=by
   refine⟨by simp [putRow,mapBlock], ?_,fun x hx=>?_,rfl,rfl,Outs.rfl⟩
   ·simp only [putRow,mapBlock,Array.getElem?_modify,if_true,hg1,Option.map_some];show some (Go.Obj.cells _ ce (0,0))=some (Go.Obj.cells cs'.toArray ce (0,0));simp [cs']
   ·simp only [putRow,mapBlock,Array.getElem?_modify];rw [if_neg (fun e=>hx e.symm)]
  have hle:=hupd.le (j:=j) hF;have hne:(l.map fun x=>[d1 x])=[]->some (b,cap)=none:=fun e=>by
   obtain⟨_,blk,g1,g2,_⟩:=hr.obj id _ hH;rw [htok] at g1;simp only [Option.some.injEq,Tk.mk.injEq] at g1;rw [g1.1]; exact g2.2 e
  have hblk:∀rows',blkOf j id (.arr 1 rows')=some b:=fun _=>by simp [blkOf,htok]
  -- each of the new cells reads as its datum
  have hrel:∀x∈new,DRel j (putRow v w b 0 new.toArray) (d1 x) (v x):=fun x hx=>by
   rw [<- hnw] at hx;rcases List.mem_append.1 hx with hx|hx
   ·rw [<- hfi] at hx;obtain⟨i,hi⟩:=List.getElem?_of_mem (List.mem_filter.1 hx).1;obtain⟨u,_,hr1⟩:=hall.get (i:=i) (x:=d1 x) (by rw [List.getElem?_map,hi]; rfl);have e:=hinv _ _ _ _ hr1;rw [e] at hr1;exact hr1.mono hle
   ·rw [(List.mem_replicate.1 hx).2]; exact hz _ _
  have hcl0:csA.toList.length=cap:=by simpa using hcsz
  obtain⟨h5,h6⟩:=hl.setObj (o':=.arr 1 (new.map fun x=>[d1 x])) hH (hblk _) (hblk _) hF hupd (by
   refine⟨some (b,cap),by simp only [List.length_map,hnl]; simpa using htok,⟨by simp,fun e=>hne (by rw [List.map_eq_nil_iff] at e; rw [e] at hnl; exact List.map_eq_nil_iff.2 (List.eq_nil_of_length_eq_zero hnl.symm))⟩,fun r hr'=>?_,by simpa [hnl] using hmx,fun b' cap' e'=>?_⟩
   ·obtain⟨q,hq,rfl⟩:=List.mem_map.1 hr';rfl
   ·simp only [Option.some.injEq,Prod.mk.injEq] at e';obtain⟨rfl,rfl⟩:=e';refine⟨cs',ce,hupd.here, ?_,hF,by simpa [hnl] using hcap, ?_⟩
    ·rw [hcs',List.length_append,List.length_map,List.length_drop,hnl,hcl0]; omega
    ·rw [hfl,List.length_map,hnl,Nat.mul_one,hcs',List.take_left' (by simp [hnl])];clear hcs' hupd hle hnw hcall hfg hHo hold hall;induction new with
     | nil=>exact .nil
     | cons a r ih=>exact .cons (hrel a (by simp)) (by
       refine All2.of_get (by simp) fun i x y hx hy=>?_;rw [List.getElem?_map] at hx hy;cases e:r[i]? with
       | none=>rw [e] at hx; cases hx
       | some z =>
        rw [e] at hx hy;simp only [Option.map_some,Option.some.injEq] at hx hy;subst hx hy;exact hrel z (by simp [List.mem_of_getElem? e])))
  obtain⟨h7,h8⟩:=h5.grown q #[];have hw:putRow v (Sort.ahead w q) b 0 new.toArray=Sort.grow (Sort.ahead (putRow v w b 0 new.toArray) q) #[]:=by rw [grow_empty]; rfl
  rw [hw];have hid:(H.set id (some (.arr 1 (new.map fun x=>[d1 x])))) id=some (.arr 1 (new.map fun x=>[d1 x])):=Heap.set_same _ _ _;obtain⟨j',k1,k2,k3⟩:=HL.freezeA h7 hid (k':=1) (nl:=false) (cv:=.slice (some ⟨b,0,none⟩) (new.map fun x=>[d1 x]).length cap) (by
   show DRel _ _ _ _;refine .arr 1 id false _ _ _ (hr.obj id _ hH).1 fun tk hk=>?_;rw [htok] at hk;simp only [Option.some.injEq] at hk;subst hk;exact⟨by simp [hnl],fun _=>.inr ⟨b,rfl,rfl,rfl⟩⟩)
  rw [Heap.set_set] at k1 k2;have h9:=front_rel (n:=fi.length) k3 (fun r hr'=>by obtain⟨q,_,rfl⟩:=List.mem_map.1 hr'; rfl) (by rw [List.length_map,hnl]; exact hfil);have h10:(new.map fun x=>[d1 x]).take fi.length=fi.map fun x=>[d1 x]:=by rw [<- hnw,List.map_append,List.take_left' (by simp)]
  rw [h10] at h9;exact⟨_,_,j',_,rfl,⟨rfl,rfl⟩,by rw [hnl1]; exact h9,k1.1,(h6.trans h8).trans k2⟩
end
def delL {T:Type}(f:T->Option Bool) (s:Sl T):Sl T:=⟨s.nl,s.l.filter fun x=>!(f x).getD false⟩
theorem delI_calls {P:Program}{ρ:Ren}(L:SlLaysH.n10 P ρ) (v23:∀w,(zeroValue (ρ.t 23)).run P w=.ok (.int .i64 0) w){f:Int->Option Bool}{g:Nat}(ht:∀x,∃z,f x=some z)
  (eg:∀args w,(callFunc g args).run P w=.ok (.enter g args) w) (hg:∀x z w,f x=some z->Calls P g #[.int .i64 x] w fun e w'=>e=.returned (.bool z)/\w'=w)
  {H:Heap}{id m:Nat}{nl:Bool}{s:Sl Int}(hH:H id=some (.arr 1 (s.l.map (intE .i64)))) (hm:m=s.l.length) (hn:nl=s.nl){F:Nat}(hF:F=ρ.f 10) :
  AC P F [.d (.arr 1 id nl m),.d (.func g [])] H fun r h'=>r=.a (.d (Sl.d 1 (intE .i64) none (delL f s)))/\h'=H.set id none:=by
 subst hm hF hn;exact del_calls (v:=Value.int .i64) (d1:=D.int .i64) (p:=fun x=>(f x).getD false) L (fun _=>rfl) (fun j w x cv h=>by cases h; rfl) 0 v23 (fun j w=>.int _ _) eg
  (fun x w=>by obtain⟨z,hz⟩:=ht x; rw [hz]; exact hg x z w hz) hH
end Go.Ab

/-
 slices.DeleteFunc with a function that captures: as AbDel,for elements of one cell (integers,strings). No program text.
-/
namespace Go.Ab
open Go Go.RowKit Go.Proofs Go.Shelf Go.Sort
variable {lou:Lou}
section
variable {P:Program}{ρ:Ren}
variable {T:Type} [Inhabited T] {v:T->Value}{d1:T->D}
theorem delC_calls (L:SlLaysH.n10 P ρ) (hO:OneCell v) (hinv:∀j w x cv,DRel j w (d1 x) cv->cv=v x) (zr:T) (v23:∀w,(zeroValue (ρ.t 23)).run P w=.ok (v zr) w) (hz:∀j w,DRel j w (d1 zr) (v zr))
  {p:T->Bool}{g:Nat}(eg:∀args w,(callFunc g args).run P w=.ok (.enter g args) w){cs:List D}(hg:∀j w x cvs,All2 (DRel j w) cs cvs->Calls P g (#[v x]++cvs.toArray) w fun e w'=>e=.returned (.bool (p x))/\∃q,w'=w.drewN q)
  {H:Heap}{id:Nat}{nl:Bool}{l:List T}(hH:H id=some (.arr 1 (l.map fun x=>[d1 x]))) :
  AC P (ρ.f 10) [.d (.arr 1 id nl l.length),.d (.func g cs)] H fun r h'=>r=.a (.d (.slice 1 none nl ((l.filter fun x=>!p x).map fun x=>[d1 x])))/\h'=H.set id none:=by
 refine⟨L.f10.enters rfl,fun j w cargs hr ha=>?_⟩;have hl:HL j w [] [] H:=⟨hr,⟨.nil,by simp,by simp⟩⟩;cases ha with
 | cons h1 ha =>
 cases ha with
 | cons h2 ha =>
 cases ha
 rename_i v1 v2
 have h2':DRel j w (.func g cs) v2:=h2;obtain⟨cvs,rfl,hcv⟩:∃cvs:List Value,v2=.func (.func g) #[] cvs.toArray/\All2 (DRel j w) cs cvs:=by
  cases h2' with
  | func _ _ cvs hlen hr2=>exact⟨cvs,rfl,.of_get hlen fun i x y hx hy=>by
    obtain⟨h3,e3⟩:=List.getElem?_eq_some_iff.1 hx;obtain⟨h4,e4⟩:=List.getElem?_eq_some_iff.1 hy;rw [<- e3,<- e4]; exact hr2 i h3 h4⟩
 have hmx:l.length<=maxN:=by obtain⟨_,_,_,_,_,hmx,_⟩:=hr.obj id _ hH; simpa using hmx
 rcases hl.arrAt hH (by simp) (k':=1) (n:=l.length) (cv:=v1) h1 with ⟨base,e1,hnl1,hrows,htok⟩|⟨b,cap,csA,ce,e1,hnl1,htok,hg1,hcsz,hF,hcap,hkr,hall⟩
 ·subst e1;have hl0:l=[]:=by simpa using hrows
  subst hl0;obtain⟨hf,hev⟩:=hl.forget (h':=H.set id none) fun n o hn=>by
   by_cases c:n=id
   ·subst c; rw [Heap.set_same] at hn; cases hn
   ·rwa [Heap.set_other H _ c] at hn
  refine(del_empty L base 0 _ w).mono ?_;rintro e w' ⟨rfl,hw'⟩;rw [hw'];refine⟨_,_,j,_,rfl,⟨rfl,rfl⟩, ?_,hf.1,hev⟩;show DRel j w (.slice 1 none nl []) (.slice base 0 0);rw [hnl1];cases base with
  | none=>exact .snil _ _ (by simp)
  | some ad=>exact .slice 1 none [] ad 0 (fun _=>undef) (by simp) (by simp) (by simp) ⟨.inl rfl,by simp⟩ (by simp) (fun t ht=>by cases ht)
 ·subst e1;rw [List.length_map] at hcap hall;simp only [Nat.mul_one] at hall hcsz;have hfl:∀m:List T,(m.map fun x=>[d1 x]).flatten=m.map d1:=fun m=>by induction m with
   | nil=>rfl
   | cons a r ih=>simp [ih]
  rw [hfl] at hall;have hcells:∀i,w.cell? ⟨b,i,none⟩=csA[i]?:=fun i=>cell_of_row w b i csA ce (0,0) hg1;have hold:csA.toList.take l.length=l.map v:=by
   refine List.ext_getElem? fun i=>?_;by_cases hi:i<l.length
   ·obtain⟨u,hu,hr1⟩:=hall.get (i:=i) (x:=d1 l[i]) (by rw [List.getElem?_map,List.getElem?_eq_getElem hi]; rfl);rw [hu,hinv _ _ _ _ hr1,List.getElem?_map,List.getElem?_eq_getElem hi]; rfl
   ·rw [List.getElem?_eq_none (by rw [<- hall.length]; simp; omega),List.getElem?_eq_none (by simp; omega)]
  have hHo:Holds v w b 0 l.toArray:=by
   intro i hi;rw [List.size_toArray] at hi;refine⟨?_,frozen_of_row w b _ csA ce hg1⟩;rw [Nat.zero_add,hcells];have h4:(csA.toList.take l.length)[i]?=(l.map v)[i]?:=by rw [hold]
   rw [List.getElem?_take,if_pos hi,Array.getElem?_toList,List.getElem?_map,List.getElem?_eq_getElem hi] at h4;rw [h4]; simp [hi]
  have hfg:∀(W:World) (x:T),Le j w j W->FnGives P g cvs.toArray #[v x] (.bool (p x)) W:=fun W x hle=>by
   show Calls P g (#[v x]++cvs.toArray) W _;exact hg j W x cvs (hcv.imp fun _ _ h=>h.mono hle)
  have hover:∀(n:Nat) (os:Array Go.Obj) (dk:Array T),dk.size=l.length->Le j w j (sortWorld v w b 0 n dk os):=fun n os dk hdk=>by
   refine⟨Nat.le_refl _,fun _ _=>rfl,fun _=>Nat.le_refl _,fun x o ho=>cell?_eq ?_,fun _ _=>.inl rfl⟩;have hx:x≠b:=fun e=>by rw [e,hF] at ho; omega
   have hxs:x<w.heap.size:=by
    rcases Nat.lt_or_ge x w.heap.size with h|h
    ·exact h
    ·rw [hr.fresh x h] at ho; omega
   unfold sortWorld;rw [heap_grow_old _ _ (by simpa [putRow,mapBlock,Sort.ahead] using hxs)];simp only [putRow,mapBlock,Array.getElem?_modify,Sort.ahead];rw [if_neg (fun e=>hx e.symm)]
  have hcall:=AnyE.slices_DeleteFunc L v hO p g cvs.toArray eg zr v23 b 0 cap l.toArray w (fun W x hb=>hfg W x ⟨Nat.le_refl _,fun _ _=>rfl,fun _=>Nat.le_refl _,fun y o ho=>cell?_eq (hb.block y (by
   rcases Nat.lt_or_ge y w.heap.size with h|h
   ·exact h
   ·rw [hr.fresh y h] at ho; omega)),fun _ _=>.inl rfl⟩) (fun n os dk x hdk=>hfg _ x (hover n os dk (by simpa using hdk))) hHo (by rw [List.size_toArray]; unfold maxN at hmx; omega) (by simpa using hcap)
  simp only [List.size_toArray] at hcall;rw [show [Value.slice (some ⟨b,0,none⟩) (l.map fun x=>[d1 x]).length cap,.func (.func g) #[] cvs.toArray].toArray=#[.slice (some ⟨b,0,none⟩) l.length cap,.func (.func g) #[] cvs.toArray] by simp];refine hcall.mono ?_;rintro e w' ⟨rfl,q,rfl⟩;generalize hfi:(l.filter fun x=>!p x)=fi;have hfil:fi.length<=l.length:=by rw [<- hfi]; exact List.length_filter_le _ _
  generalize hnw:fi++List.replicate (l.length-fi.length) zr=new;have hnl:new.length=l.length:=by rw [<- hnw]; simp; omega
  let cs':List Value:=(putCells v 0 new.toArray csA).toList
  have hcs':cs'=new.map v++csA.toList.drop l.length:=by
   refine List.ext_getElem? fun i=>?_;show (putCells v 0 new.toArray csA).toList[i]?=_;unfold putCells;rw [Array.getElem?_toList,Array.getElem?_mapIdx,List.getElem?_append];by_cases hi:i<l.length
   ·have hi1:i<csA.size:=by omega
    have hi2:i<new.toArray.size:=by simp [hnl,hi]
    have g1:csA[i]?=some csA[i]:=Array.getElem?_eq_getElem hi1;rw [if_pos (by simp [hnl,hi]),g1,Option.map_some,if_pos ⟨Nat.zero_le _,by rw [Nat.zero_add]; exact hi2⟩,Nat.sub_zero,getElem!_pos _ i hi2,List.getElem?_map,List.getElem?_eq_getElem (by omega)];simp
   ·rw [if_neg (by simp [hnl,hi]),List.length_map,hnl,List.getElem?_drop,show l.length+(i-l.length)=i by omega,Array.getElem?_toList];cases csA[i]? with
    | none=>rfl
    | some y=>rw [Option.map_some,if_neg (by simp [hnl]; omega)]
  have hupd:Upd w (putRow v w b 0 new.toArray) b (.cells cs'.toArray ce (0,0)):=by
   refine⟨by simp [putRow,mapBlock], ?_,fun x hx=>?_,rfl,rfl,Outs.rfl⟩
   ·simp only [putRow,mapBlock,Array.getElem?_modify,if_true,hg1,Option.map_some];show some (Go.Obj.cells _ ce (0,0))=some (Go.Obj.cells cs'.toArray ce (0,0));simp [cs']
   ·simp only [putRow,mapBlock,Array.getElem?_modify];rw [if_neg (fun e=>hx e.symm)]
  have hle:=hupd.le (j:=j) hF;have hne:(l.map fun x=>[d1 x])=[]->some (b,cap)=none:=fun e=>by
   obtain⟨_,blk,g1,g2,_⟩:=hr.obj id _ hH;rw [htok] at g1;simp only [Option.some.injEq,Tk.mk.injEq] at g1;rw [g1.1]; exact g2.2 e
  have hblk:∀rows',blkOf j id (.arr 1 rows')=some b:=fun _=>by simp [blkOf,htok]
  -- each of the new cells reads as its datum
  have hrel:∀x∈new,DRel j (putRow v w b 0 new.toArray) (d1 x) (v x):=fun x hx=>by
   rw [<- hnw] at hx;rcases List.mem_append.1 hx with hx|hx
   ·rw [<- hfi] at hx;obtain⟨i,hi⟩:=List.getElem?_of_mem (List.mem_filter.1 hx).1;obtain⟨u,_,hr1⟩:=hall.get (i:=i) (x:=d1 x) (by rw [List.getElem?_map,hi]; rfl);have e:=hinv _ _ _ _ hr1;rw [e] at hr1;exact hr1.mono hle
   ·rw [(List.mem_replicate.1 hx).2]; exact hz _ _
  have hcl0:csA.toList.length=cap:=by simpa using hcsz
  obtain⟨h5,h6⟩:=hl.setObj (o':=.arr 1 (new.map fun x=>[d1 x])) hH (hblk _) (hblk _) hF hupd (by
   refine⟨some (b,cap),by simp only [List.length_map,hnl]; simpa using htok,⟨by simp,fun e=>hne (by rw [List.map_eq_nil_iff] at e; rw [e] at hnl; exact List.map_eq_nil_iff.2 (List.eq_nil_of_length_eq_zero hnl.symm))⟩,fun r hr'=>?_,by simpa [hnl] using hmx,fun b' cap' e'=>?_⟩
   ·obtain⟨q,hq,rfl⟩:=List.mem_map.1 hr';rfl
   ·simp only [Option.some.injEq,Prod.mk.injEq] at e';obtain⟨rfl,rfl⟩:=e';refine⟨cs',ce,hupd.here, ?_,hF,by simpa [hnl] using hcap, ?_⟩
    ·rw [hcs',List.length_append,List.length_map,List.length_drop,hnl,hcl0]; omega
    ·rw [hfl,List.length_map,hnl,Nat.mul_one,hcs',List.take_left' (by simp [hnl])];clear hcs' hupd hle hnw hcall hfg hHo hold hall;induction new with
     | nil=>exact .nil
     | cons a r ih=>exact .cons (hrel a (by simp)) (by
       refine All2.of_get (by simp) fun i x y hx hy=>?_;rw [List.getElem?_map] at hx hy;cases e:r[i]? with
       | none=>rw [e] at hx; cases hx
       | some z =>
        rw [e] at hx hy;simp only [Option.map_some,Option.some.injEq] at hx hy;subst hx hy;exact hrel z (by simp [List.mem_of_getElem? e])))
  obtain⟨h7,h8⟩:=h5.grown q #[];have hw:putRow v (Sort.ahead w q) b 0 new.toArray=Sort.grow (Sort.ahead (putRow v w b 0 new.toArray) q) #[]:=by rw [grow_empty]; rfl
  rw [hw];have hid:(H.set id (some (.arr 1 (new.map fun x=>[d1 x])))) id=some (.arr 1 (new.map fun x=>[d1 x])):=Heap.set_same _ _ _;obtain⟨j',k1,k2,k3⟩:=HL.freezeA h7 hid (k':=1) (nl:=false) (cv:=.slice (some ⟨b,0,none⟩) (new.map fun x=>[d1 x]).length cap) (by
   show DRel _ _ _ _;refine .arr 1 id false _ _ _ (hr.obj id _ hH).1 fun tk hk=>?_;rw [htok] at hk;simp only [Option.some.injEq] at hk;subst hk;exact⟨by simp [hnl],fun _=>.inr ⟨b,rfl,rfl,rfl⟩⟩)
  rw [Heap.set_set] at k1 k2;have h9:=front_rel (n:=fi.length) k3 (fun r hr'=>by obtain⟨q,_,rfl⟩:=List.mem_map.1 hr'; rfl) (by rw [List.length_map,hnl]; exact hfil);have h10:(new.map fun x=>[d1 x]).take fi.length=fi.map fun x=>[d1 x]:=by rw [<- hnw,List.map_append,List.take_left' (by simp)]
  rw [h10] at h9;exact⟨_,_,j',_,rfl,⟨rfl,rfl⟩,by rw [hnl1]; exact h9,k1.1,(h6.trans h8).trans k2⟩
end
theorem delS_calls {P:Program}{ρ:Ren}(L:SlLaysH.n10 P ρ) (v23:∀w,(zeroValue (ρ.t 23)).run P w=.ok (.string ⟨#[]⟩) w){f:List UInt8->Option Bool}{g:Nat}{cs:List D}(ht:∀x,∃z,f x=some z)
  (eg:∀args w,(callFunc g args).run P w=.ok (.enter g args) w) (hg:∀x z j w cvs,f x=some z->All2 (DRel j w) cs cvs->Calls P g (#[.string ⟨x.toArray⟩]++cvs.toArray) w fun e w'=>e=.returned (.bool z)/\∃q,w'=w.drewN q)
  {H:Heap}{id m:Nat}{nl:Bool}{s:Sl (List UInt8)}(hH:H id=some (.arr 1 (s.l.map fun x=>[D.str x]))) (hm:m=s.l.length) (hn:nl=s.nl){F:Nat}(hF:F=ρ.f 10) :
  AC P F [.d (.arr 1 id nl m),.d (.func g cs)] H fun r h'=>r=.a (.d (Sl.d 1 (fun x=>[D.str x]) none (delL f s)))/\h'=H.set id none:=by
 subst hm hF hn;exact delC_calls (v:=fun x=>Value.string ⟨x.toArray⟩) (d1:=D.str) (p:=fun x=>(f x).getD false) L (fun _=>rfl) (fun j w x cv h=>by cases h; rfl) [] v23 (fun j w=>.str _ (Nat.zero_le _)) eg
  (fun j w x cvs hc=>by obtain⟨z,hz⟩:=ht x; rw [hz]; exact hg x z j w cvs hz hc) hH
theorem flat_str (l:List (List UInt8)):(l.map fun x=>[D.str x]).flatten=l.map D.str:=by
 induction l with
 | nil=>rfl
 | cons a r ih=>simp [ih]
theorem view_strs {j:J}{w:World}{s:Sl (List UInt8)}{cvs:List Value}(h:All2 (DRel j w) [.view [Sl.d 1 (fun x=>[D.str x]) none s]] cvs) :
  ∃(a:Addr) (cv:Value),cvs=[.pointer (some a)]/\a.spot=none/\w.cell? ⟨a.block,a.off,none⟩=some cv /\
   ((∃(b:Addr) (cap:Nat),cv=.slice (some b) s.l.length cap/\s.l.length<=maxN/\(s.l=[]\/b.spot=none)/\∀i (hi:i<s.l.length),w.cell? ⟨b.block,b.off+i,none⟩=some (.string ⟨s.l[i].toArray⟩))\/s.l=[]/\cv=.slice none 0 0):=by
 cases h with
 | cons h1 h2 =>
 cases h2;cases h1 with
 | view _ a cv hat hr =>
  obtain⟨h3,h4⟩:=hat;have h5:=(h4 0 (by simp)).2;have h6:=hr 0 (by simp);refine⟨a,cv 0,rfl,h3,by simpa using h5, ?_⟩;generalize cv 0=u at h6;have h6:DRel j w (.slice 1 none s.nl (s.l.map fun x=>[D.str x])) u:=h6;generalize hrows:(s.l.map fun x=>[D.str x])=rows at h6;generalize s.nl=nl at h6;cases h6 with
  | snil=>exact .inr ⟨by simpa using hrows,rfl⟩
  | slice _ _ _ b cap cv2 hk hn hc hat2 hr2 ht =>
   subst hrows;rw [List.length_map] at hn ⊢;refine .inl ⟨b,cap,rfl,hn,by simpa using hat2.1,fun i hi=>?_⟩;have hlen:i<((s.l.map fun x=>[D.str x]).flatten).length:=by rw [flat_str]; simpa using hi
   have h7:=(hat2.2 i hlen).2;have h8:=hr2 i hlen;have h9:((s.l.map fun x=>[D.str x]).flatten)[i]=D.str s.l[i]:=by
    have:((s.l.map fun x=>[D.str x]).flatten)[i]?=some (D.str s.l[i]):=by rw [flat_str,List.getElem?_map,List.getElem?_eq_getElem hi]; rfl
    rw [List.getElem?_eq_getElem hlen] at this;exact Option.some.inj this
   rw [h9] at h8;rw [h7];generalize cv2 i=u at h8;cases h8;rfl
theorem any_has (x:List UInt8):∀l:List (List UInt8),(l.any fun y=>x==y)=l.contains x
 | []=>rfl
 | a::r=>by rw [List.any_cons,List.contains_cons,any_has x r]
theorem containsS_calls {P:Program}{ρ:Ren}(L:SlLaysE.n31 P ρ) (heq:EqlAt P (ρ.t 23) (fun x:List UInt8=>Value.string ⟨x.toArray⟩) (fun x y=>x==y)){w:World}{l:List (List UInt8)}{cv:Value}
  (h:(∃(b:Addr) (cap:Nat),cv=.slice (some b) l.length cap/\l.length<=maxN/\(l=[]\/b.spot=none)/\∀i (hi:i<l.length),w.cell? ⟨b.block,b.off+i,none⟩=some (.string ⟨l[i].toArray⟩))\/l=[]/\cv=.slice none 0 0) (x:List UInt8) :
  Calls P (ρ.f 31) #[cv,.string ⟨x.toArray⟩] w fun e w'=>e=.returned (.bool (l.contains x))/\w'=w:=by
 rcases h with ⟨b,cap,rfl,hm,hs,hc⟩|⟨rfl,rfl⟩
 ·rcases hs with rfl|hs
  ·exact AnyE.slices_Contains_empty L (some b) cap _ w
  ·obtain⟨bb,bo,bs⟩:=b;obtain rfl:bs=none:=hs;have:=AnyE.slices_Contains L (fun x:List UInt8=>Value.string ⟨x.toArray⟩) (fun x y=>x==y) heq bb bo l.length cap l x w (Nat.le_refl _) (by unfold maxN at hm; omega) fun i hi=>by
    rw [getElem!_pos l i hi]; exact hc i hi
   rw [List.take_length,any_has] at this;exact this
 ·exact AnyE.slices_Contains_empty L none 0 _ w
theorem _root_.Go.Proofs.EqlAt.stringS (P:Program) (T:TypeId):EqlAt P T (fun x:List UInt8=>Value.string ⟨x.toArray⟩) (fun x y=>x==y):=by
 obtain⟨h1,h2⟩:=EqlAt.string P T;exact⟨fun x y w=>by simp [binOp,Op.stringOp,ByteArray.toList_mk],fun op a b x y w=>h2 op a b _ _ w⟩
end Go.Ab

/-
 Functions of the library that only compute,division,conversions; a block that stays as it is. No program text.
-/

namespace Go.Ab
open Go Go.RowKit Go.Proofs Go.Shelf
variable {lou:Lou}
section
variable {P:Program}{ts:Ts}{ls:List (List D)}{h:Heap}{dst:Option Tmp}{ty:TypeId}{pos:String}{aft:Array Edge}{g:Option (Nat×Bool)}
theorem Cert.quoI {t u:TypeId}{x y:Operand}{k:IntKind}{m n:Int}(hx:ev ts x=.a (.d (.int k m))) (hy:ev ts y=.a (.d (.int k n))) (hn:n≠0) :
  Cert P (mk dst (.binOp .quo t x y u) ty pos aft g) ts ls h {} (.a (.d (.int k (k.wrap (m.tdiv n))))) ls h :=
 Cert.of_ops fun j w jl a ho=>by
  have h1:=ho x (by simp [Op.operands]);have h2:=ho y (by simp [Op.operands]);rw [hx] at h1; rw [hy] at h2;exact⟨_,by simp [execOp,rel_int h1,rel_int h2,eqGuard_int,binOp,Op.intDiv,hn],DRel.int _ _⟩
theorem Cert.remI {t u:TypeId}{x y:Operand}{k:IntKind}{m n:Int}(hx:ev ts x=.a (.d (.int k m))) (hy:ev ts y=.a (.d (.int k n))) (hn:n≠0) :
  Cert P (mk dst (.binOp .rem t x y u) ty pos aft g) ts ls h {} (.a (.d (.int k (m.tmod n)))) ls h :=
 Cert.of_ops fun j w jl a ho=>by
  have h1:=ho x (by simp [Op.operands]);have h2:=ho y (by simp [Op.operands]);rw [hx] at h1; rw [hy] at h2;exact⟨_,by simp [execOp,rel_int h1,rel_int h2,eqGuard_int,binOp,Op.intDiv,hn],DRel.int _ _⟩
theorem under_ofL {P:Program}{t:TypeId}{ti:TI}(hT:mkTI P t=some ti):∃d,P.underlying t=some d/\kOf d=ti.k:=by
 obtain⟨i,d,_,h2,_,_,h3,_⟩:=mkTI_spec hT;exact⟨d,h2,h3⟩
theorem int_ofL {P:Program}{t:TypeId}{ti:TI}{k:IntKind}(hT:mkTI P t=some ti) (hk:ti.k=.int k):P.underlying t=some (.int k):=by
 obtain⟨d,h1,h2⟩:=under_ofL hT;rw [hk] at h2;cases d<;>simp [kOf] at h2;subst h2; exact h1
theorem Cert.convI {s t:TypeId}{si ti:TI}{x:Operand}{k k':IntKind}{n:Int}(hS:mkTI P s=some si) (hT:mkTI P t=some ti) (hk:ti.k=.int k') (hx:ev ts x=.a (.d (.int k n))) :
  Cert P (mk dst (.convert s t x) ty pos aft g) ts ls h {} (.a (.d (.int k' (k'.wrap n)))) ls h :=
 Cert.of_ops fun j w jl a ho=>by
  have h1:=ho x (by simp [Op.operands]);rw [hx] at h1;obtain⟨d,hd,_⟩:=under_ofL hS;exact⟨.int k' (k'.wrap n),by simp [execOp,rel_int h1,convert,run_underlying hd,run_underlying (int_ofL hT hk),Conv.intToInt],DRel.int _ _⟩
def bytesC (s:Sl Int):Bs:=s.l.map fun n=>UInt8.ofNat n.toNat
theorem bytes_fold:∀(l:List Int) (r:ByteArray),l.foldl (fun r n=>r.push (UInt8.ofNat n.toNat)) r=⟨(r.data.toList++l.map fun n=>UInt8.ofNat n.toNat).toArray⟩
 | [],r=>by simp
 | a::l,r=>by rw [List.foldl_cons,bytes_fold l]; simp [ByteArray.push]
theorem Cert.convB {s e t:TypeId}{si ei ti:TI}{x:Operand}{tok:Option Nat}{y:Sl Int}(hS:mkTI P s=some si) (hs:si.k=.slice e) (hE:mkTI P e=some ei) (he:ei.k=.int .u8) (hT:mkTI P t=some ti) (ht:ti.k=.str)
  (hx:ev ts x=.a (.d (Sl.d 1 (intE .u8) tok y))):Cert P (mk dst (.convert s t x) ty pos aft g) ts ls h {} (.a (.d (.str (bytesC y)))) ls h :=
 Cert.of_ops fun j w jl a ho=>by
  have h1:=ho x (by simp [Op.operands]);rw [hx] at h1;have h1':DRel j w (.slice 1 tok y.nl (y.l.map (intE .u8))) (a.eval x):=h1;have hu1:=slice_of hS hs;have hu2:=int_ofL hE he;have hu3:=str_of hT ht;generalize hv:a.eval x=v at h1';have hfl:(y.l.map (intE .u8)).flatten=y.l.map (D.int .u8):=by
   induction y.l with
   | nil=>rfl
   | cons a r ih=>simp [intE,ih]
  generalize hrow:y.l.map (intE .u8)=rows at h1';generalize hnl:y.nl=nl at h1';cases h1' with
  | snil _ _ _ =>
   have hl0:y.l=[]:=by simpa using hrow
   exact⟨.string .empty,by simp [execOp,hv,run_convert_bytes_string w s t e _ _ _ hu1 hu2 hu3,Conv.bytesToString],by
    show DRel j w (.str (bytesC y)) _;rw [bytesC,hl0]; exact DRel.str [] (by simp [maxS])⟩
  | slice _ _ _ ad cap cv hk hn hc hat hr htk =>
   subst hrow;rw [List.length_map] at hn hc;have hlen:(y.l.map (intE .u8)).length=y.l.length:=by simp
   have hmx:maxN<=maxS:=by unfold maxN maxS; omega
   have hcell:(loadCells ad y.l.length).run P w=.ok (y.l.map (Value.int .u8)).toArray w:=by
    by_cases h0:y.l=[]
    ·rw [h0]; rfl
    ·have hsp:ad.spot=none:=hat.1.resolve_left (by simpa using h0);obtain⟨b,o,sp⟩:=ad;simp only at hsp; subst hsp;obtain⟨cs,g1,g2⟩:=loadCells_rel (P:=P) (j:=j) (w:=w) (b:=b) (o:=o) (y.l.map (D.int .u8)) fun i z hz=>by
      have hi:i<(y.l.map (intE .u8)).flatten.length:=by rw [hfl]; exact(List.getElem?_eq_some_iff.1 hz).1
      refine⟨cv i,(hat.2 i hi).2, ?_⟩;have h3:=hr i hi;have h4:(y.l.map (intE .u8)).flatten[i]=z:=by
       have h5:(y.l.map (intE .u8)).flatten[i]?=some z:=by rw [hfl]; exact hz
       rw [List.getElem?_eq_getElem hi] at h5; simpa using h5
      rw [h4] at h3; exact h3
     rw [List.length_map] at g2;rw [g2];have h6:cs=y.l.map (Value.int .u8):=by
      clear g2;generalize y.l=l at g1;induction l generalizing cs with
      | nil=>cases g1; rfl
      | cons a r ih =>
       rw [List.map_cons] at g1;cases g1 with
       | cons q1 q2=>cases q1; rw [ih _ q2,List.map_cons]
     rw [h6]
   rw [hlen] at hv;refine⟨.string ⟨(bytesC y).toArray⟩, ?_, ?_⟩
   ·simp only [execOp,hv,Sem.run_bind,run_convert_bytes_string w s t e _ _ _ hu1 hu2 hu3,run_bytesToString w ad _ cap y.l hcell,Result.andThen,Sem.run_pure];rw [bytes_fold]; simp [bytesC]
   ·exact DRel.str _ (by simp only [bytesC,List.length_map]; omega)
end
theorem AC.compute {P:Program}{f:FuncId}{args:List A}{H:Heap}{r:A}{cargs:List Value}{cv:Value}(enter:∀(cargs:Array Value) (w:World),(callFunc f cargs).run P w=.ok (.enter f cargs) w)
  (hc:∀j w c,HRel j w H->All2 (ARel j w) args c->ARel j w r cv/\Calls P f c.toArray w fun e w'=>e=.returned cv/\w'=w):AC P f args H fun v h'=>v=.a r/\h'=H:=by
 refine⟨enter,fun j w c hr ha=>?_⟩;obtain⟨h2,h3⟩:=hc j w c hr ha;refine h3.mono ?_;rintro e w' ⟨rfl,rfl⟩;exact⟨_,cv,j,H,rfl,⟨rfl,rfl⟩,h2,hr,Evolve.refl _ _ _⟩
def IsTab (P:Program) (o:Ab.Obj):Prop:=∃g t fr,o=.fix g (.cells (Lib.pow10Tab.map fun z=>Value.int .u64 z).toArray t fr)/\P.globalNamed "internal/strconv.uint64pow10"=some g
theorem IsTab.tab {P:Program}{o:Ab.Obj}(h:IsTab P o){j:J}{w:World}{id:Nat}(hr:ORel j w id o):Lib.TabIs P w "internal/strconv.uint64pow10" .u64 Lib.pow10Tab:=by
 obtain⟨g,t,fr,rfl,hg⟩:=h;have hr':w.heap[g]?=some _:=hr;unfold Lib.TabIs World.var?;rw [hg,Option.bind_some,hr']
theorem itoa_calls {P:Program}{ρ:Ren}(L:LaysM.n171 P ρ){n:Int}(h0 : -9223372036854775808<=n) (h1:n<=9223372036854775807){F:Nat}(hF:F=ρ.f 171){H:Heap}{gT:Nat}{oT:Ab.Obj}(hT:H gT=some oT) (ho:IsTab P oT) (hb:(Lib.itoa n).length<=maxS) :
  AC P F [.d (.int .i64 n)] H fun v h'=>v=.a (.d (.str (Lib.itoa n)))/\h'=H:=by
 subst hF;refine⟨enters_of L.f171 (by kernel_rfl) rfl,fun j w c hr ha=>?_⟩;cases ha with
 | cons a1 ha =>
 cases ha;have a1':DRel j w (.int .i64 n) _:=a1;cases a1';refine(Any.strconv_Itoa L n h0 h1 w (ho.tab (hr.obj gT oT hT).2)).mono ?_;rintro e w' ⟨rfl,k,os,rfl⟩;have hl:HL j w [] [] H:=⟨hr,⟨.nil,by simp,by simp⟩⟩;obtain⟨h5,h6⟩:=hl.grown k os;exact⟨_,_,j,H,rfl,⟨rfl,rfl⟩,DRel.str _ hb,h5.1,h6⟩
def joinC (s:Sl Bs) (_:Bs):Option Bs:=match s.l with
 | []=>some []
 | [x]=>some x
 | _=>none
theorem join_calls {P:Program}{ρ:Ren}(L:Lays.n156 P ρ) (X:Builder.Extra P ρ){s:Sl Bs}{sep r:Bs}{w0:Option Nat}(hE:joinC s sep=some r){F:Nat}(hF:F=ρ.f 156){H:Heap} :
  AC P F [.d (Sl.d 1 strE w0 s),.d (.str sep)] H fun v h'=>v=.a (.d (.str r))/\h'=H:=by
 subst hF;refine⟨enters_of L.f156 (by kernel_rfl) rfl,fun j w c hr ha=>?_⟩;cases ha with
 | cons a1 ha =>
 cases ha with
 | cons a2 ha =>
 cases ha
 rename_i v1 v2
 have a2':DRel j w (.str sep) v2:=a2;have a1':DRel j w (.slice 1 w0 s.nl (s.l.map strE)) v1:=a1;unfold joinC at hE;cases a2' with
 | str _ hs =>
 split at hE
 ·rename_i hl
  obtain rfl:=Option.some.inj hE;rw [hl] at a1';have key:∃a cap,v1=.slice a 0 cap:=by
   generalize hrow:([]:List Bs).map strE=rows at a1';generalize s.nl=nl at a1';cases a1' with
   | snil=>exact⟨none,0,rfl⟩
   | slice _ _ _ a cap=>subst hrow; exact⟨some a,cap,rfl⟩
  obtain⟨a,cap,rfl⟩:=key;refine(Any.strings_Join_none L X a cap ⟨sep.toArray⟩ w).mono ?_;rintro e w' ⟨rfl,rfl⟩;exact⟨_,_,j,H,rfl,⟨rfl,rfl⟩,DRel.str [] (by simp [maxS]),hr,Evolve.refl _ _ _⟩
 ·rename_i x hl
  obtain rfl:=Option.some.inj hE;rw [hl] at a1';generalize hrow:[x].map strE=rows at a1';generalize s.nl=nl at a1';cases a1' with
  | snil=>cases hrow
  | slice _ _ _ a cap cv hk hn hc hat hr1 htk =>
   subst hrow;have hsp:a.spot=none:=hat.1.resolve_left (by simp);obtain⟨b,o,sp⟩:=a;simp only at hsp; subst hsp;have hlen:0<([x].map strE).flatten.length:=by simp [strE]
   have h1:=hat.2 0 hlen;have h2:=hr1 0 hlen;have h3:DRel j w (.str x) (cv 0):=h2;generalize hcv:cv 0=c0 at h3;cases h3 with
   | str _ hx =>
   refine(Any.strings_Join_one L X b o cap ⟨x.toArray⟩ ⟨sep.toArray⟩ w (by have:=h1.2; rw [hcv] at this; simpa using this)).mono ?_;rintro e w' ⟨rfl,rfl⟩;exact⟨_,_,j,H,rfl,⟨rfl,rfl⟩,DRel.str x hx,hr,Evolve.refl _ _ _⟩
 ·cases hE
end Go.Ab

/-
 strings.Builder: an object whose buffer grows. No program text.
-/
namespace Go.Proofs
open Go.Shelf Go.RowKit
variable {P:Program}{ρ:Ren}
set_option linter.unusedVariables false
set_option maxHeartbeats 2000000 in
set_option maxRecDepth 100000 in
theorem bldString_some (L:Lays.n169 P ρ) (X:Builder.Extra P ρ) (b g cap:Nat) (p:Value) (cur:Array Value) (l:List UInt8) (w:World) (hl0:l.length≠0) (hbk:w.heap[b]?=some (.cells #[p,.slice (some ⟨g,0,none⟩) l.length cap] (ρ.t 72) (0,0)))
  (hg:w.heap[g]?=some (.cells cur (ρ.t 5) (0,0))) (hnc:l.length<=cap) (hcm:l.length<=9223372036854775807) (hcs:cur.size=cap*1) (hcell:∀j x,l[j]?=some x->w.cell? ((⟨g,0,none⟩:Addr).add j)=some (.int .u8 x.toNat)) :
  Calls P (ρ.f 169) #[.pointer (some ⟨b,0,none⟩)] w fun e w'=>e=.returned (.string ⟨l.toArray⟩)/\w'=w.drew.freeze ⟨g,0,none⟩ l.length:=by
 have c1:w.drew.cell? ⟨b,1,none⟩=some (.slice (some ⟨g,0,none⟩) l.length cap):=by
  have:w.drew.heap[b]?=some (.cells #[p,.slice (some ⟨g,0,none⟩) l.length cap] (ρ.t 72) (0,0)):=hbk;rw [Lib.cell_of_heap this]; rfl
 have hSD:(Builtin.unsafeSliceData_ #[(ρ.t 37)] (ρ.t 127) #[.slice (some ⟨g,0,none⟩) l.length cap]).run P w.drew=.ok (.pointer (some ⟨g,0,none⟩)) w.drew :=
  Lib.run_unsafeSliceData_row _ _ _ _ _ _ (by omega)
 have hUS:(Builtin.unsafeString_ #[(ρ.t 127),(ρ.t 3)] (ρ.t 9) #[.pointer (some ⟨g,0,none⟩),.int .i64 l.length]).run P w.drew=.ok (.string ⟨l.toArray⟩) (w.drew.freeze ⟨g,0,none⟩ l.length):=by
  refine Lib.run_unsafeString_row w.drew (ρ.t 127) (ρ.t 3) (ρ.t 9) (ρ.t 5) L.t127 X.cellsByte g cur.size (by have hg':w.drew.heap[g]?=some (.cells cur (ρ.t 5) (0,0)):=hg; simp [World.shape?,hg']) l (by simpa using hl0) (by omega) hcm ?_;intro j x hx;exact hcell j x hx
 have mixed:=L.mixed;have t72:=L.t72; have a72:=L.a72; have z72:=L.z72; have v72:=L.v72; have u72:=run_underlying L.t72;have t70:=L.t70; have a70:=L.a70; have z70:=L.z70; have v70:=L.v70; have u70:=run_underlying L.t70;have t37:=L.t37; have a37:=L.a37; have z37:=L.z37; have v37:=L.v37; have u37:=run_underlying L.t37;have t127:=L.t127; have a127:=L.a127; have z127:=L.z127; have v127:=L.v127; have u127:=run_underlying L.t127
 have t3:=L.t3; have a3:=L.a3; have z3:=L.z3; have v3:=L.v3; have u3:=run_underlying L.t3;have t9:=L.t9; have a9:=L.a9; have z9:=L.z9; have v9:=L.v9; have u9:=run_underlying L.t9;have t5:=X.t5; have a5:=X.a5; have z5:=X.z5; have v5:=X.v5; have u5:=run_underlying X.t5
 go_enter L.f169,Body.n169_ntmps ρ
 go_wp2
 go_region_o
 all_goals (go_wp2; go_ret; exact⟨rfl,rfl⟩)
set_option maxHeartbeats 2000000 in
set_option maxRecDepth 100000 in
theorem bldString_nil (L:Lays.n169 P ρ) (X:Builder.Extra P ρ) (b:Nat) (p:Value) (w:World) (hbk:w.heap[b]?=some (.cells #[p,.slice none 0 0] (ρ.t 72) (0,0))) :
  Calls P (ρ.f 169) #[.pointer (some ⟨b,0,none⟩)] w fun e w'=>e=.returned (.string ⟨#[]⟩)/\w'=w.drew:=by
 have hUS:=Any.unsafeString_none L X;have c1:w.drew.cell? ⟨b,1,none⟩=some (.slice none 0 0):=by
  have:w.drew.heap[b]?=some (.cells #[p,.slice none 0 0] (ρ.t 72) (0,0)):=hbk;rw [Lib.cell_of_heap this]; rfl
 have hSD:(Builtin.unsafeSliceData_ #[(ρ.t 37)] (ρ.t 127) #[.slice none 0 0]).run P w.drew=.ok (.pointer none) w.drew:=rfl;have mixed:=L.mixed;have t72:=L.t72; have a72:=L.a72; have z72:=L.z72; have v72:=L.v72; have u72:=run_underlying L.t72;have t70:=L.t70; have a70:=L.a70; have z70:=L.z70; have v70:=L.v70; have u70:=run_underlying L.t70;have t37:=L.t37; have a37:=L.a37; have z37:=L.z37; have v37:=L.v37; have u37:=run_underlying L.t37
 have t127:=L.t127; have a127:=L.a127; have z127:=L.z127; have v127:=L.v127; have u127:=run_underlying L.t127;have t3:=L.t3; have a3:=L.a3; have z3:=L.z3; have v3:=L.v3; have u3:=run_underlying L.t3;have t9:=L.t9; have a9:=L.a9; have z9:=L.z9; have v9:=L.v9; have u9:=run_underlying L.t9;have t5:=X.t5; have a5:=X.a5; have z5:=X.z5; have v5:=X.v5; have u5:=run_underlying X.t5
 go_enter L.f169,Body.n169_ntmps ρ
 go_wp2
 go_region_o
 all_goals (go_wp2; go_ret; exact⟨rfl,rfl⟩)
end Go.Proofs
namespace Go.Ab
open Go Go.RowKit Go.Proofs Go.Shelf
variable {lou:Lou}
structure Strings_Builder where
 Faddr:Bool
 Fbuf:Sl Int
def Strings_Builder.zero:Strings_Builder:=⟨false,Sl.nil⟩
noncomputable def Strings_Builder.cg (i:Nat) (t:Option Nat) (x:Strings_Builder):List D:=[bif x.Faddr then .ptr i 0 else .nilptr,Sl.d 1 (intE .u8) t x.Fbuf]
theorem ORel.tcells {j:J}{w:World}{id:Nat}{T:TypeId}{xs:List D}(h:ORel j w id (.tcells T xs)):Loc1 j w (j.out id) xs:=by
 obtain⟨cs,h1,h2,h3⟩:=h;exact⟨cs,T,h1,h2,h3⟩
section
variable {P:Program}{ts:Ts}{ls:List (List D)}{h:Heap}{dst:Option Tmp}{ty:TypeId}{pos:String}{aft:Array Edge}{g:Option (Nat×Bool)}
theorem Cert.loadPT {t:TypeId}{ti:TI}{x:Operand}{id off:Nat}{T:TypeId}{xs:List D}{v:A}(hT:mkTI P t=some ti) (hk:ti.k.isO=false) (hx:ev ts x=.a (.d (.ptr id off))) (hh:h id=some (.tcells T xs)) (hv:loadA ti xs off=some v) :
  Cert P (mk dst (.load t x) ty pos aft g) ts ls h { rh:=true } (.a v) ls h :=
 PureE.cert ⟨rfl,rfl,fun L H _ hH j w jl a hl ho=>by
  have h1:=ho x (by simp [Op.operands]);rw [hx] at h1;obtain⟨e,_⟩:=rel_ptr h1;rw [hH rfl] at hl;obtain⟨cv,h3,h4⟩:=loadVar_rel (P:=P) (hl.1.obj id _ hh).2.tcells.cells hT (K.ne_other hk) hv;rw [Nat.zero_add] at h3;exact⟨cv,by simp [execOp,Instr.loadAt,Instr.sureAddr,e,h3],h4⟩⟩
theorem Cert.storePT {t:TypeId}{ti:TI}{x y:Operand}{id off:Nat}{T:TypeId}{xs xs':List D}{v:D}(hT:mkTI P t=some ti) (hx:ev ts x=.a (.d (.ptr id off))) (hy:ev ts y=.a (.d v)) (hl:h id=some (.tcells T xs))
  (hsz:ti.size=1) (hv:SetAt v xs off xs'):Cert P (mk none (.store t x y) ty pos aft g) ts ls h { wh:=true } .any ls (h.set id (some (.tcells T xs'))):=by
 obtain⟨hoff,hxs'⟩:=hv.spec;refine Cert.of_run fun L H _ hH j w jl a hh ho=>?_;have hH':=hH rfl;subst hH';have h1:=ho x (by simp [Op.operands]);have h2:=ho y (by simp [Op.operands]);rw [hx] at h1; rw [hy] at h2;have h2:ARel j w (.d v) (a.eval y):=h2;obtain⟨e,hid⟩:=rel_ptr h1;obtain⟨cs,hg,hall,hF⟩:=(hh.1.obj id _ hl).2;obtain⟨w',h3,h4⟩:=storeVar_upd (lou:=lou) (P:=P) (off:=off) hg hT h2 (by rw [hsz]; rfl) (by rw [<- hall.length,hsz]; omega)
 have hle':=h4.le (j:=j) hF;obtain⟨h5,h6⟩:=hh.setObj (o':=.tcells T xs') hl rfl rfl hF h4 ⟨_,h4.here,by
  have:=(hall.spl off h2.cells).imp fun _ _ h=>h.mono hle';rw [hxs']; exact this,hF⟩
 refine⟨.skip,w',undef,j,jl, ?_,.inr ⟨rfl,rfl⟩,trivial,h5,Ext.refl _,h6⟩;simp [execOp,Instr.storeAt,Instr.sureAddr,e,h3]
theorem StepE.allocT {e:TypeId}{ti:TI}{z:A}(hT:mkTI P e=some ti) (hz:ti.zero=some z) :
  StepE P (mk dst (.alloc e) ty pos aft g) ts ls h fun v ls' h'=>∃id,h id=none/\v=.a (.d (.ptr id 0))/\ls'=ls/\h'=h.set id (some (.tcells e (cellsA z))):=by
 obtain⟨inf,d,h1,_,_,_,_,h2⟩:=mkTI_spec hT;rw [hz] at h2;obtain⟨v,h3,h4⟩:=zeroF_rel h2;intro j w jl a hl ho K Q hk;have hr:(execOp a.eval (mk dst (.alloc e) ty pos aft g)).run P w=.ok (.value (.pointer (some ⟨w.heap.size,0,none⟩))) (w.alloc (.cells v.cells e)):=by simp [execOp,Instr.alloc,zeroValue,typeInfo,h1,h3,newVar,newRow]
 have hle:Le j w (j.obj w.heap.size) (w.alloc (.cells v.cells e)) :=
  ((hl.data (lou:=lou) (.cells v.cells e) 0).2.toLe.trans (by
   rw [J.frz_zero (hl.1.fresh _ (Nat.le_refl _))];exact⟨by simp [J.obj],fun id hi=>by simp only [J.obj]; rw [if_neg (by omega)],fun _=>Nat.le_refl _,fun _ _ _=>rfl,fun _ _=>.inl rfl⟩))
 obtain⟨h5,h6⟩:=hl.obj (lou:=lou) (.cells v.cells e) (.tcells e (cellsA z)) rfl ⟨v.cells.toList,by
  simp only [J.obj,if_true]; rw [Array.toArray_toList]; exact heap_alloc_new w _,(h4 j w).cells.imp fun _ _ h=>h.mono hle,by
   simp only [J.obj,if_true]; exact hl.1.fresh _ (Nat.le_refl _)⟩
 unfold Oper.wp;rw [hr,Oper.upon_value];refine hk _ _ _ _ (j.obj w.heap.size) _ jl ⟨j.next,hl.1.next_none (Nat.le_refl _),rfl,rfl,rfl⟩ ?_ h5 (Ext.refl _) h6;have:=DRel.ptr (j:=j.obj w.heap.size) (w:=w.alloc (.cells v.cells e)) j.next 0 (by simp [J.obj])
 simpa [J.obj,VRel,ARel] using this
end
theorem Own.reobj {j:J}{h:Heap}{c:Nat}{o o':Obj}(hc:h c=some o) (hb:blkOf j c o'=blkOf j c o){jl:List Nat}{b:Nat}:Own j (h.set c (some o')) jl b↔Own j h jl b:=by
 constructor
 ·rintro (h1|⟨id,o1,h1,h2⟩)
  ·exact .inl h1
  ·by_cases e:id=c
   ·subst e; rw [Heap.set_same] at h1; simp only [Option.some.injEq] at h1; subst h1;exact .inr ⟨id,_,hc,hb▸h2⟩
   ·rw [Heap.set_other _ _ e] at h1; exact .inr ⟨id,o1,h1,h2⟩
 ·rintro (h1|⟨id,o1,h1,h2⟩)
  ·exact .inl h1
  ·by_cases e:id=c
   ·subst e; rw [hc] at h1; simp only [Option.some.injEq] at h1; subst h1;exact .inr ⟨id,_,Heap.set_same _ _ _,hb.trans h2⟩
   ·exact .inr ⟨id,o1,by rw [Heap.set_other _ _ e]; exact h1,h2⟩
theorem HRel.reobj {j:J}{w:World}{h:Heap}{c:Nat}{o o':Obj}(hr:HRel j w h) (hc:h c=some o) (hb:blkOf j c o'=blkOf j c o) (ho:ORel j w c o->ORel j w c o'):HRel j w (h.set c (some o')):=by
 have key:∀id o1,(h.set c (some o')) id=some o1->∃o2,h id=some o2/\blkOf j id o1=blkOf j id o2:=by
  intro id o1 h1;by_cases e:id=c
  ·subst e; rw [Heap.set_same] at h1; simp only [Option.some.injEq] at h1; subst h1;exact⟨_,hc,hb⟩
  ·rw [Heap.set_other _ _ e] at h1; exact⟨o1,h1,rfl⟩
 refine⟨fun id o1 h1=>?_,fun id1 o1 id2 o2 b h1 h2 e1 e2=>?_,hr.fresh⟩
 ·by_cases e:id=c
  ·subst e; rw [Heap.set_same] at h1; simp only [Option.some.injEq] at h1; subst h1;exact⟨(hr.obj _ _ hc).1,ho (hr.obj _ _ hc).2⟩
  ·rw [Heap.set_other _ _ e] at h1; exact hr.obj _ _ h1
 ·obtain⟨q1,k1,k2⟩:=key id1 o1 h1;obtain⟨q2,k3,k4⟩:=key id2 o2 h2;exact hr.inj id1 q1 id2 q2 b k1 k3 (k2▸e1) (k4▸e2)
theorem AOps.recellT {P:Program}{ops:Array Oper}{rest:List Oper}{Q:St->Prop}{n:Nat}{ts:Ts}{ls:List (List D)}{h:Heap}{amb:Amb}(id:Nat){T:TypeId}{xs:List D}(ys:List D) (hc:h id=some (.tcells T xs)) (hy:∀j w cs,HRel j w h->All2 (DRel j w) xs cs->All2 (DRel j w) ys cs)
  (hw:AOps P ops rest Q ⟨n,ts,ls,h.set id (some (.tcells T ys))⟩):AOps P ops rest Q ⟨n,ts,ls,h⟩:=by
 intro j w jl a hsr Qc hk;have hl:=hsr.hl;have ho:ORel j w id (.tcells T xs)->ORel j w id (.tcells T ys):=fun⟨cs,h1,h2,h3⟩=>⟨cs,h1,hy j w cs hl.1 h2,h3⟩;refine hw j w jl a ⟨hsr.defers,hsr.size,hsr.tmps,⟨hl.1.reobj (o':=.tcells T ys) hc rfl ho,⟨hl.2.each,hl.2.nodup,fun b hb hown=>hl.2.apart b hb ((Own.reobj (o':=.tcells T ys) hc rfl).1 hown)⟩⟩⟩ Qc fun σ' j' w' jl' a' hq hs' hev=>hk σ' j' w' jl' a' hq hs' (Evolve.trans ?_ hev)
 exact { Evolve.refl j _ (Own j h jl) with own:=fun b _ hown=>(Own.reobj (o':=.tcells T ys) hc rfl).1 hown }
theorem AOps.tokE {P:Program}{ops:Array Oper}{rest:List Oper}{Q:St->Prop}{n:Nat}{ts:Ts}{ls:List (List D)}{h:Heap}{amb:Amb}(k:Nat) (E:TypeId) (hw:∀t,h t=none->AOps P ops rest Q ⟨n,ts,ls,h.set t (some (.tok k 0 (some E)))⟩):AOps P ops rest Q ⟨n,ts,ls,h⟩:=by
 intro j w jl a hsr Qc hk;obtain⟨hl1,hev1⟩:=hsr.hl.newTok (lou:=lou) k (some E);have hle:=hev1.toLe;refine hw j.next (hsr.hl.1.next_none (Nat.le_refl _)) j.newTok w jl a ⟨hsr.defers,hsr.size,fun k=>(hsr.tmps k).mono hle (Ext.refl _),hl1⟩ Qc fun σ' j' w' jl' a' hq hs' hev=>hk σ' j' w' jl' a' hq hs' (hev1.trans hev)
theorem bld_check {P:Program}{ρ:Ren}(L:Lays.n240 P ρ) (X:Builder.X72 P ρ){F:Nat}(hF:F=ρ.f 240){T:TypeId}(hT:T=ρ.t 72){H:Heap}{i:Nat}{t:Option Nat}{x:Strings_Builder}(hc:H i=some (.tcells T (x.cg i t))) :
  AC P F [.d (.ptr i 0)] H fun v h'=>v=.tup []/\h'=H.set i (some (.tcells T (Strings_Builder.cg i t ⟨true,x.Fbuf⟩))):=by
 subst hF hT;refine⟨enters_of L.f240 (by kernel_rfl) rfl,fun j w c hr ha=>?_⟩;have hl:HL j w [] [] H:=⟨hr,⟨.nil,by simp,by simp⟩⟩;cases ha with
 | cons a1 ha =>
 cases ha
 rename_i v1
 have a1':DRel j w (.ptr i 0) v1:=a1;cases a1' with
 | ptr _ _ hid =>
 obtain⟨hn,cs,hg,hall,hF0⟩:=hr.obj i _ hc;unfold Strings_Builder.cg at hall;cases hall with
 | @cons _ p _ _ hp hall =>
 cases hall with
 | @cons _ v _ _ hv hall =>
 cases hall;cases hx:x.Faddr with
 | true =>
  rw [hx] at hp;have hp':DRel j w (.ptr i 0) p:=hp;cases hp' with
  | ptr _ _ _ =>
  have h0:w.cell? ⟨j.out i,0,none⟩=some (.pointer (some ⟨j.out i,0,none⟩)):=by rw [cell_of_row w (j.out i) 0 _ (ρ.t 72) (0,0) hg]; rfl
  refine(Any.Builder_copyCheck_used L X (j.out i) w h0).mono ?_;rintro e w' ⟨rfl,rfl⟩;have hset:H.set i (some (.tcells (ρ.t 72) (Strings_Builder.cg i t ⟨true,x.Fbuf⟩)))=H:=by
   refine Heap.set_self H i _ ?_;rw [hc]; unfold Strings_Builder.cg; rw [hx]
  exact⟨.tup [],.tuple #[],j,H,rfl,⟨rfl,hset.symm⟩,⟨[],rfl,.nil⟩,hr,Evolve.refl _ _ _⟩
 | false =>
  rw [hx] at hp;have hp':DRel j w .nilptr p:=hp;cases hp';have h0:w.cell? ⟨j.out i,0,none⟩=some (.pointer none):=by rw [cell_of_row w (j.out i) 0 _ (ρ.t 72) (0,0) hg]; rfl
  have hsh:w.shape? (j.out i)=some (ρ.t 72,2):=by simp [World.shape?,hg]
  have hfz:w.frozen? ⟨j.out i,0,none⟩=false:=frozen_of_row w (j.out i) _ _ (ρ.t 72) hg;refine(Any.Builder_copyCheck_fresh L X (j.out i) w h0 hsh hfz).mono ?_;rintro e w' ⟨rfl,rfl⟩;have hu:=Upd.setCell (lou:=lou) (i:=0) hg (.pointer (some ⟨j.out i,0,none⟩));have hle:=hu.le (j:=j) hF0;obtain⟨h5,h6⟩:=hl.setObj (o':=.tcells (ρ.t 72) (Strings_Builder.cg i t ⟨true,x.Fbuf⟩)) hc rfl rfl hF0 hu ⟨_,hu.here,by
   unfold Strings_Builder.cg;exact .cons (DRel.ptr i 0 hn) (.cons (hv.mono hle) .nil),hF0⟩
  exact⟨.tup [],.tuple #[],j,_,rfl,⟨rfl,rfl⟩,⟨[],rfl,.nil⟩,h5.1,h6⟩
def bldStr (x:Strings_Builder):Option Bs:=if x.Fbuf.l.all (fun n=>decide (0<=n/\n<256))=true/\(x.Fbuf.nl=true/\x.Fbuf.l=[]\/x.Fbuf.nl=false/\x.Fbuf.l≠[]) then some (bytesC x.Fbuf) else none
theorem HRel.sub {j:J}{w:World}{h h':Heap}(hr:HRel j w h) (hs:∀id o,h' id=some o->h id=some o):HRel j w h' :=
 ⟨fun id o hi=>hr.obj id o (hs id o hi),fun id1 o1 id2 o2 b h1 h2 e1 e2=>hr.inj id1 o1 id2 o2 b (hs _ _ h1) (hs _ _ h2) e1 e2,hr.fresh⟩
theorem Own.sub {j:J}{h h':Heap}(hs:∀id o,h' id=some o->h id=some o){jl:List Nat}{b:Nat}(ho:Own j h' jl b):Own j h jl b:=by
 rcases ho with h1|⟨id,o,h1,h2⟩
 ·exact .inl h1
 ·exact .inr ⟨id,o,hs id o h1,h2⟩
theorem cell_freeze (w:World) (a b:Addr) (n:Nat):(w.freeze a n).cell? b=w.cell? b:=by
 unfold World.freeze
 split
 ·rfl
 ·unfold World.cell?;simp only [Array.getElem?_modify];by_cases e:a.block=b.block
  ·rw [if_pos e];cases w.heap[b.block]? with
   | none=>rfl
   | some o=>cases o<;>rfl
  ·rw [if_neg e]
theorem heap_freeze (w:World) (a:Addr) (n:Nat){b:Nat}(hb:b≠a.block):(w.freeze a n).heap[b]?=w.heap[b]?:=by
 unfold World.freeze
 split
 ·rfl
 ·simp only [Array.getElem?_modify];rw [if_neg (Ne.symm hb)]
theorem size_freeze (w:World) (a:Addr) (n:Nat):(w.freeze a n).heap.size=w.heap.size:=by
 unfold World.freeze
 split
 ·rfl
 ·simp
theorem rest_freeze (w:World) (a:Addr) (n:Nat):(w.freeze a n).os=w.os/\(w.freeze a n).tape=w.tape/\(w.freeze a n).output=w.output/\(w.freeze a n).drawn=w.drawn:=by
 unfold World.freeze
 split<;>exact⟨rfl,rfl,rfl,rfl⟩
theorem HL.freezeB {j:J}{w:World}{h h':Heap}(hl:HL j w [] [] h) (hs:∀id o,h' id=some o->h id=some o){b n:Nat}(hb:Own j h [] b) (hb':¬Own j h' [] b) :
  HL j (w.freeze ⟨b,0,none⟩ n) [] [] h'/\Evolve j w (Own j h []) j (w.freeze ⟨b,0,none⟩ n) (Own j h' []):=by
 have hle:Le j w j (w.freeze ⟨b,0,none⟩ n):=⟨Nat.le_refl _,fun _ _=>rfl,fun _=>Nat.le_refl _,fun _ _ _=>cell_freeze _ _ _ _,fun _ _=>.inl rfl⟩;have hl':HL j w [] [] h':=⟨hl.1.sub hs,⟨.nil,by simp,by simp⟩⟩;have hk:=hl'.keep hle (fun x ho=>⟨heap_freeze _ _ _ (fun e=>hb' (by have e':x=b:=e; rw [<- e']; exact ho)),rfl⟩) (fun _ _ _=>rfl) (fun x hx=>hl.1.fresh x (by rw [size_freeze] at hx; exact hx));obtain⟨e1,e2,e3,e4⟩:=rest_freeze w ⟨b,0,none⟩ n
 exact⟨hk.1,{ toLe:=hle,size:=by rw [size_freeze]; exact Nat.le_refl _,frame:=fun x _ hn=>⟨heap_freeze _ _ _ (fun e=>hn (by have e':x=b:=e; rw [e']; exact hb)),rfl⟩,own:=fun x _ ho=>Own.sub hs ho,os:=e1,tape:=e2,output:=⟨e3,by rw [e4]; exact .inl (Nat.le_refl _)⟩ }⟩
theorem bld_string {P:Program}{ρ:Ren}(L:Lays.n169 P ρ) (X:Builder.Extra P ρ){F:Nat}(hF:F=ρ.f 169){T E:TypeId}(hT:T=ρ.t 72) (hEE:E=ρ.t 5){H:Heap}{i tk:Nat}{x:Strings_Builder}{r:Bs}(hE:bldStr x=some r)
  (hc:H i=some (.tcells T (x.cg i (some tk)))) (ht:H tk=some (.tok 1 x.Fbuf.l.length (some E))) :
  AC P F [.d (.ptr i 0)] H fun v h'=>v=.a (.d (.str r))/\h'=(H.set tk none).set i none:=by
 subst hF hT hEE;unfold bldStr at hE
 split at hE
 case isFalse=>cases hE
 rename_i hcond
 obtain⟨hbytes,hshape⟩:=hcond;obtain rfl:=Option.some.inj hE;refine⟨enters_of L.f169 (by kernel_rfl) rfl,fun j w c hr ha=>?_⟩;cases ha with
 | cons a1 ha =>
 cases ha
 rename_i v1
 have a1':DRel j w (.ptr i 0) v1:=a1;cases a1' with
 | ptr _ _ hid =>
 obtain⟨hn,cs,hg,hall,hF0⟩:=hr.obj i _ hc;obtain⟨htn,blk,htok,hblk,hE0⟩:=hr.obj tk _ ht;unfold Strings_Builder.cg at hall;cases hall with
 | @cons _ p _ _ hp hall =>
 cases hall with
 | @cons _ v _ _ hv hall =>
 cases hall;have hsub:∀id o,((H.set tk none).set i none) id=some o->H id=some o:=by
  intro id o h;simp only [Heap.set] at h
  split at h
  ·cases h
  ·split at h
   ·cases h
   ·exact h
 have hv':DRel j w (.slice 1 (some tk) x.Fbuf.nl (x.Fbuf.l.map (intE .u8))) v:=hv;rcases hshape with ⟨hnl,hl0⟩|⟨hnl,hl0⟩
 ·rw [hnl,hl0] at hv';cases hv';refine(bldString_nil L X (j.out i) p w hg).mono ?_;rintro e w' ⟨rfl,rfl⟩;have hb:bytesC x.Fbuf=[]:=by simp [bytesC,hl0]
  rw [hb];refine⟨_,_,j,_,rfl,⟨rfl,rfl⟩,DRel.str [] (by simp [maxS]),((HL.drew (⟨hr,⟨.nil,by simp,by simp⟩⟩:HL j w [] [] H)).1).sub hsub,(Evolve.drew j w _).trans ?_⟩;exact { Evolve.refl j _ (Own j H []) with own:=fun b _ ho=>Own.sub hsub ho }
 ·rw [hnl] at hv';generalize hrow:x.Fbuf.l.map (intE .u8)=rows at hv';cases hv' with
  | slice _ _ _ ad cap cv hk hnn hcc hat hrr htk =>
  subst hrow;rw [List.length_map] at hnn hcc;obtain⟨_,htk2⟩:=htk tk rfl;obtain⟨_,htk3⟩:=htk2 _ htok;rw [List.length_map] at htk3;have hlen0:x.Fbuf.l.length≠0:=by simpa using hl0
  rcases htk3 rfl with ⟨hb0,_⟩|⟨b,hbb,had⟩
  ·exact absurd (hE0 rfl hb0) hlen0
  ·subst had;have hbb':blk=some (b,cap):=hbb;obtain⟨cur,ce,hgb,hcsz,hFb,hmc,hce⟩:=hblk b cap hbb';have hce':ce=ρ.t 5:=hce _ rfl;subst hce';have hcell:∀k y,(bytesC x.Fbuf)[k]?=some y->w.cell? ((⟨b,0,none⟩:Addr).add k)=some (.int .u8 y.toNat):=by
    intro k y hk';unfold bytesC at hk';rw [List.getElem?_map] at hk';cases hxk:x.Fbuf.l[k]? with
    | none=>rw [hxk] at hk'; cases hk'
    | some z =>
     rw [hxk] at hk';simp only [Option.map_some,Option.some.injEq] at hk';have hfl:(x.Fbuf.l.map (intE .u8)).flatten=x.Fbuf.l.map (D.int .u8):=by
      generalize x.Fbuf.l=l;induction l with
      | nil=>rfl
      | cons a r ih=>simp [intE,ih]
     have hk2:k<(x.Fbuf.l.map (intE .u8)).flatten.length:=by rw [hfl,List.length_map]; exact(List.getElem?_eq_some_iff.1 hxk).1
     have h1:=(hat.2 k hk2).2;have h2:=hrr k hk2;have h3:(x.Fbuf.l.map (intE .u8)).flatten[k]=D.int .u8 z:=by
      have h4:(x.Fbuf.l.map (intE .u8)).flatten[k]?=some (D.int .u8 z):=by rw [hfl,List.getElem?_map,hxk]; rfl
      rw [List.getElem?_eq_getElem hk2] at h4; simpa using h4
     rw [h3] at h2;generalize cv k=cvk at h1 h2;cases h2;rw [add_plain,Nat.zero_add];have hz:=List.all_eq_true.1 hbytes z (List.mem_of_getElem? hxk);have hz':0<=z/\z<256:=of_decide_eq_true hz;rw [Nat.zero_add] at h1;rw [h1,<- hk'];have:(UInt8.ofNat z.toNat).toNat=z.toNat:=by
      rw [UInt8.toNat_ofNat']; omega
     rw [this,Int.toNat_of_nonneg hz'.1]
   have hbl:(bytesC x.Fbuf).length=x.Fbuf.l.length:=by simp [bytesC]
   have hg':w.heap[j.out i]?=some (.cells #[p,.slice (some ⟨b,0,none⟩) (bytesC x.Fbuf).length cap] (ρ.t 72) (0,0)):=by rw [hbl]; simpa using hg
   refine(bldString_some L X (j.out i) b cap p cur (bytesC x.Fbuf) w (by rw [hbl]; exact hlen0) hg' hgb (by rw [hbl]; exact hcc) (by rw [hbl]; unfold maxN at hnn; omega) hcsz hcell).mono ?_;rintro e w' ⟨rfl,rfl⟩;have hbk:blkOf j tk (.tok 1 x.Fbuf.l.length (some (ρ.t 5)))=some b:=by simp [blkOf,htok,hbb']
   have hnb:¬Own j ((H.set tk none).set i none) [] b:=by
    rintro (h1|⟨id,o,h1,h2⟩)
    ·cases h1
    ·have:=hr.inj id o tk _ b (hsub _ _ h1) ht h2 hbk;subst this;by_cases e:id=i
     ·subst e; rw [Heap.set_same] at h1; cases h1
     ·rw [Heap.set_other _ _ e,Heap.set_same] at h1; cases h1
   have hl00:HL j w [] [] H:=⟨hr,⟨.nil,by simp,by simp⟩⟩;have hl0:HL j w.drew [] [] H:=hl00.drew;obtain⟨h5,h6⟩:=hl0.freezeB (lou:=lou) hsub (n:=(bytesC x.Fbuf).length) (.inr ⟨tk,_,ht,hbk⟩) hnb;exact⟨_,_,j,_,rfl,⟨rfl,rfl⟩,DRel.str (bytesC x.Fbuf) (by rw [hbl]; unfold maxN at hnn; unfold maxS; omega),h5.1,(Evolve.drew j w _).trans h6⟩
section
variable {P:Program}{ts:Ts}{ls:List (List D)}{h:Heap}{dst:Option Tmp}{ty:TypeId}{pos:String}{aft:Array Edge}{g:Option (Nat×Bool)}
def strSl (s:Bs):Sl Int:=⟨false,s.map fun b=>(b.toNat:Int)⟩
theorem Cert.appMT {t u e:TypeId}{ti ui ei:TI}{x y:Operand}{tk k k' m:Nat}{E:TypeId}{tok':Option Nat}{s r v:Sl Int}{z:A}(hT:mkTI P t=some ti) (hk:ti.k=.slice e) (hE:mkTI P e=some ei) (hU:mkTI P u=some ui) (huk:∃e,ui.k=.slice e)
  (hz:ei.zero=some z) (hzs:(cellsA z).length=ei.size) (hsz:ei.size≠0) (hx:ev ts x=.a (.d (s.d k (intE .u8) (some tk)))) (hy:ev ts y=.a (.d (r.d k' (intE .u8) tok'))) (hkk:k=ei.size) (hkk':k'=ei.size)
  (htk:h tk=some (.tok ei.size m (some E))) (hm:m=s.l.length) (hEE:E=e) (hr:appC ei.bytes s r=some v) :
  Cert P (mk dst (.call { callee:=.builtin .append,args:=#[x,y],argTypes:=#[t,u] }) ty pos aft g) ts ls h { rh:=true,wh:=true } (.a (.d (v.d k (intE .u8) (some tk)))) ls (h.set tk (some (.tok ei.size v.l.length (some E)))):=by
 obtain⟨e,h1,h2⟩:=appC_some hr;subst e;have:=Cert.appendG (lou:=lou) (P:=P) (dst:=dst) (ty:=ty) (pos:=pos) (aft:=aft) (g:=g) (ls:=ls) (rows':=r.l.map (intE .u8)) hT hk hE hU (.inl huk) hz hzs hsz hx (fun j w jl cv hv=>by
  have hv':DRel j w (.slice k' tok' r.nl (r.l.map (intE .u8))) cv:=by rw [hy] at hv; exact hv
  refine Src.slice hv' fun r hr=>?_;obtain⟨_,_,_,_,_,_,_,hh,_⟩:=rel_slice (jl:=jl) hv';rw [<- hkk'];exact hh r hr) (.inl hkk) htk (by rw [hm]; simp) (by simpa using h1) (by simpa using h2) (fun T h=>by cases h; exact hEE)
 simp only [List.length_map,List.length_append] at this ⊢;rw [<- List.map_append,List.isEmpty_map,<- hkk] at this;rw [<- hkk];exact this
theorem Cert.appST {t u e:TypeId}{ti ui ei:TI}{x y:Operand}{tk k m:Nat}{E:TypeId}{s v:Sl Int}{r:Bs}{z:A}(hT:mkTI P t=some ti) (hk:ti.k=.slice e) (hE:mkTI P e=some ei) (hU:mkTI P u=some ui) (huk:ui.k=.str)
  (hz:ei.zero=some z) (hzs:(cellsA z).length=ei.size) (hsz:ei.size=1) (hx:ev ts x=.a (.d (s.d k (intE .u8) (some tk)))) (hy:ev ts y=.a (.d (.str r))) (hkk:k=ei.size)
  (htk:h tk=some (.tok ei.size m (some E))) (hm:m=s.l.length) (hEE:E=e) (hr:appC ei.bytes s (strSl r)=some v) :
  Cert P (mk dst (.call { callee:=.builtin .append,args:=#[x,y],argTypes:=#[t,u] }) ty pos aft g) ts ls h { rh:=true,wh:=true } (.a (.d (v.d k (intE .u8) (some tk)))) ls (h.set tk (some (.tok ei.size v.l.length (some E)))):=by
 obtain⟨e,h1,h2⟩:=appC_some hr;subst e;have hb:bytesR r=(strSl r).l.map (intE .u8):=by simp [bytesR,strSl,intE]
 have:=Cert.appendS (lou:=lou) (P:=P) (dst:=dst) (ty:=ty) (pos:=pos) (aft:=aft) (g:=g) (ls:=ls) hT hk hE hU huk hz hzs hsz hx hy (.inl hkk) htk (by rw [hm]; simp) (by rw [hb]; simpa using h1) (by rw [hb]; simpa using h2) (fun T h=>by cases h; exact hEE);rw [hb] at this;simp only [List.length_map,List.length_append] at this ⊢;rw [<- List.map_append,List.isEmpty_map,<- hkk] at this;rw [<- hkk];exact this
theorem Cert.shrI {t u:TypeId}{x y:Operand}{k k':IntKind}{m n:Int}(hx:ev ts x=.a (.d (.int k m))) (hy:ev ts y=.a (.d (.int k' n))) (hn:0<=n) :
  Cert P (mk dst (.binOp .shr t x y u) ty pos aft g) ts ls h {} (.a (.d (.int k (m.fdiv (2 ^ (min n.toNat k.bits)))))) ls h :=
 Cert.of_ops fun j w jl a ho=>by
  have h1:=ho x (by simp [Op.operands]);have h2:=ho y (by simp [Op.operands]);rw [hx] at h1; rw [hy] at h2;have hg:(eqGuard .shr t x y (.int k m) (.int k' n)).run P w=.ok () w:=by unfold eqGuard; simp
  exact⟨_,by simp [execOp,rel_int h1,rel_int h2,hg,binOp,Op.shift,show ¬n<0 by omega],DRel.int _ _⟩
theorem Cert.andI {t u:TypeId}{x y:Operand}{k:IntKind}{m n:Int}(hx:ev ts x=.a (.d (.int k m))) (hy:ev ts y=.a (.d (.int k n))) :
  Cert P (mk dst (.binOp .and t x y u) ty pos aft g) ts ls h {} (.a (.d (.int k (k.wrap ((BitVec.ofInt k.bits m &&& BitVec.ofInt k.bits n).toNat:Int))))) ls h :=
 Cert.of_ops fun j w jl a ho=>by
  have h1:=ho x (by simp [Op.operands]);have h2:=ho y (by simp [Op.operands]);rw [hx] at h1; rw [hy] at h2;exact⟨_,by simp [execOp,rel_int h1,rel_int h2,eqGuard_int,binOp,Op.intBits],DRel.int _ _⟩
end
class IsLoud (lou:Lou):Prop where
 is:lou.loud
instance:IsLoud Lou.on:=⟨trivial⟩
theorem HL.below [hq:IsLoud lou] {j:J}{w w':World}{jl:List Nat}{ls:List (List D)}{h:Heap}(hl:HL j w jl ls h) (hb:Below w.heap.size w w'):HL j w' jl ls h/\Evolve j w (Own j h jl) j w' (Own j h jl):=by
 have hle:Le j w j w':=⟨Nat.le_refl _,fun _ _=>rfl,fun _=>Nat.le_refl _,fun b o ho=>cell?_eq (hb.block b (by
  rcases Nat.lt_or_ge b w.heap.size with h|h
  ·exact h
  ·rw [hl.1.fresh b h] at ho; omega)),fun _ _=>.inl rfl⟩
 have hk:=hl.keep hle (fun b ho=>⟨hb.block b (ho.lt hl),rfl⟩) (fun _ _ _=>rfl) (fun b h=>hl.1.fresh b (by have:=hb.size; omega));exact⟨hk.1,{ toLe:=hle,size:=hb.size,frame:=fun b h _=>⟨hb.block b h,rfl⟩,own:=fun b _ ho=>ho,os:=hb.os,tape:=hb.tape,output:=⟨hb.output,.inr hq.is⟩ }⟩
def joinA (s:Sl Bs) (sep:Bs):Option Bs:=if s.l.length<=maxN/\(Lib.join s.l sep).length<=maxN then some (Lib.join s.l sep) else none
theorem joinA_calls {P:Program}{ρ:Ren} [IsLoud lou] (L:Lays.n156 P ρ) (X:Builder.Extra P ρ){s:Sl Bs}{sep r:Bs}{w0:Option Nat}(hE:joinA s sep=some r){F:Nat}(hF:F=ρ.f 156){H:Heap} :
  AC P F [.d (Sl.d 1 strE w0 s),.d (.str sep)] H fun v h'=>v=.a (.d (.str r))/\h'=H:=by
 by_cases h0:s.l=[]
 ·refine join_calls L X (s:=s) ?_ hF;unfold joinA at hE
  split at hE
  ·rw [<- hE]; unfold joinC; rw [h0]; rfl
  ·cases hE
 subst hF;unfold joinA at hE
 split at hE
 case isFalse=>cases hE
 rename_i hc
 obtain rfl:=Option.some.inj hE;refine⟨enters_of L.f156 (by kernel_rfl) rfl,fun j w c hr ha=>?_⟩;cases ha with
 | cons a1 ha =>
 cases ha with
 | cons a2 ha =>
 cases ha
 rename_i v1 v2
 have a2':DRel j w (.str sep) v2:=a2;have a1':DRel j w (.slice 1 w0 s.nl (s.l.map strE)) v1:=a1;cases a2' with
 | str _ hs =>
 generalize hrow:s.l.map strE=rows at a1';generalize s.nl=nl at a1';cases a1' with
 | snil=>exact absurd (List.map_eq_nil_iff.1 hrow) h0
 | slice _ _ _ a cap cv hk hn hcc hat hr1 htk =>
  subst hrow;have hsp:a.spot=none:=hat.1.resolve_left (fun e=>h0 (List.map_eq_nil_iff.1 e));obtain⟨b,o,sp⟩:=a;simp only at hsp; subst hsp;have hfl:(s.l.map strE).flatten=s.l.map D.str:=by
   generalize s.l=l;induction l with
   | nil=>rfl
   | cons a r ih=>simp [strE,ih]
  have hlenf:(s.l.map strE).flatten.length=s.l.length:=by rw [hfl,List.length_map]
  have hcell:∀(k:Nat) x,(s.l.map fun x=>(⟨x.toArray⟩:ByteArray))[k]?=some x->w.cell? ⟨b,o+k,none⟩=some (.string x):=by
   intro k x hx;rw [List.getElem?_map] at hx;cases hxk:s.l[k]? with
   | none=>rw [hxk] at hx; cases hx
   | some z =>
    rw [hxk] at hx;simp only [Option.map_some,Option.some.injEq] at hx;have hk2:k<(s.l.map strE).flatten.length:=by rw [hlenf]; exact(List.getElem?_eq_some_iff.1 hxk).1
    have h1:=(hat.2 k hk2).2;have h2:=hr1 k hk2;have h3:(s.l.map strE).flatten[k]=D.str z:=by
     have h4:(s.l.map strE).flatten[k]?=some (D.str z):=by rw [hfl,List.getElem?_map,hxk]; rfl
     rw [List.getElem?_eq_getElem hk2] at h4; simpa using h4
    rw [h3] at h2;generalize cv k=cvk at h1 h2;cases h2;rw [h1,<- hx]
  have hbk:b<w.heap.size:=by
   have hp:0<s.l.length:=List.length_pos_iff.2 h0;obtain⟨z,hz⟩:∃z,s.l[0]?=some z:=⟨_,List.getElem?_eq_getElem hp⟩;have h1:=hcell 0 ⟨z.toArray⟩ (by rw [List.getElem?_map,hz]; rfl);unfold World.cell? at h1;cases h2:w.heap[b]? with
   | none=>rw [show (⟨b,o+0,none⟩:Addr).block=b from rfl,h2] at h1; cases h1
   | some q=>exact lt_of_heap h2
  have hmm:(s.l.map fun x=>(⟨x.toArray⟩:ByteArray)).map (·.data.toList)=s.l:=by
   rw [List.map_map]; conv=>rhs; rw [<- List.map_id s.l]
   exact List.map_congr_left fun _ _=>by simp
  have:=Any.strings_Join L X b o cap (s.l.map fun x=>(⟨x.toArray⟩:ByteArray)) ⟨sep.toArray⟩ w hcell hbk (by rw [List.length_map]; exact hc.1) (by rw [List.length_map]; simpa using hcc) (by rw [hmm]; exact hc.2);rw [hmm] at this;simp only [List.length_map] at this ⊢;refine this.mono ?_;rintro e w' ⟨rfl,hbl⟩;have hl:HL j w [] [] H:=⟨hr,⟨.nil,by simp,by simp⟩⟩;obtain⟨h5,h6⟩:=hl.below (lou:=lou) hbl;exact⟨_,_,j,H,rfl,⟨rfl,rfl⟩,DRel.str _ (by have:=hc.2; unfold maxN at this; unfold maxS; simp at this ⊢; omega),h5.1,h6⟩
end Go.Ab

/-
 strings.IndexRune and strings.IndexAny at runes beyond ASCII,over signs that are ASCII. No program text.
-/
namespace Go.Proofs
open Go Go.Shelf Go.RowKit Go.Lib
def Grew (w w':World):Prop:=∃n os,w'=Sort.grow (Sort.ahead w n) os
theorem Grew.refl (w:World):Grew w w:=⟨0,#[],by simp⟩
theorem Grew.iter (w:World) (s:ByteArray) (pos:Nat):Grew w (w.iter s pos):=⟨0,#[.stringIter s pos],Sort.alloc_eq_grow _ _⟩
variable {P:Program}{ρ:Ren}

set_option maxHeartbeats 4000000 in
set_option maxRecDepth 1000000 in
theorem indexRune_err (L:Lays.n152 P ρ) (s:ByteArray) (w:World) (hascii:∀(j:Nat) b,s.data.toList[j]?=some b->b.toNat<128) :
  Calls P (ρ.f 152) #[.string s,.int .i32 65533] w fun e w'=>e=.returned (.int .i64 (-1))/\Grew w w':=by
 have HA:Aside (∀(j:Nat) b,s.data.toList[j]?=some b->b.toNat<128):=hascii;clear hascii;have t3:=L.t3; have a3:=L.a3; have z3:=L.z3; have v3:=L.v3;have t4:=L.t4; have a4:=L.a4; have z4:=L.z4; have v4:=L.v4;have t5:=L.t5; have a5:=L.a5; have z5:=L.z5; have v5:=L.v5;have t9:=L.t9; have a9:=L.a9; have z9:=L.z9; have v9:=L.v9;have t21:=L.t21; have a21:=L.a21; have z21:=L.z21; have v21:=L.v21
 go_enter L.f152,Body.n152_ntmps ρ
 go_wp2
 go_loopg [5,6] s.size (fun g _ _ wx=>∃i:Nat,i+g=s.size/\wx=w.iter s i)
 case atStart=>exact⟨0,by omega,rfl⟩
 case round =>
  obtain⟨i,hig,rfl⟩:=hrel;cases gk with
  | zero =>
   obtain rfl:i=s.size:=by omega
   have hnx:=run_next_end (P:=P) w s s.size
   go_wp2
   go_ret
   exact⟨rfl,Grew.iter _ _ _⟩
  | succ g =>
   have hi:i<s.size:=by omega
   obtain⟨x,hx⟩:∃x:UInt8,s[i]'hi=x:=⟨_,rfl⟩;have hxl:s.data.toList[i]?=some x:=by rw [<- hx]; exact Lib.data_getElem? s i hi
   have hx128:x.toNat<128:=HA.out i x hxl;have hnx:=fun ty=>run_next_ascii (P:=P) w s i ty hi (by rw [hx]; exact hx128);rw [hx] at hnx;clear hxl hx;have hne:((x.toNat:Int)==65533)=false:=beq_eq_false_iff_ne.2 (by omega)
   go_wp2
   go_roundg g
   case measure=>omega
   case rel=>exact⟨i+1,by omega,rfl⟩

set_option maxHeartbeats 8000000 in
set_option maxRecDepth 1000000 in
theorem indexRune_far (L:Lays.n152 P ρ) (s:ByteArray) (r:Int) (w:World) (h0:128<=r) (h1:r<=1114111) (hr:r≠65533) (hs:s.size<=4611686018427387904) (hascii:∀(j:Nat) b,s.data.toList[j]?=some b->b.toNat<128) :
  Calls P (ρ.f 152) #[.string s,.int .i32 r] w fun e w'=>e=.returned (.int .i64 (-1))/\∃n,w'=Sort.ahead w n:=by
 have HA:Aside (∀(j:Nat) b,s.data.toList[j]?=some b->b.toNat<128):=hascii;clear hascii;have t3:=L.t3; have a3:=L.a3; have z3:=L.z3; have v3:=L.v3;have t4:=L.t4; have a4:=L.a4; have z4:=L.z4; have v4:=L.v4;have t5:=L.t5; have a5:=L.a5; have z5:=L.z5; have v5:=L.v5;have t9:=L.t9; have a9:=L.a9; have z9:=L.z9; have v9:=L.v9;have t21:=L.t21; have a21:=L.a21; have z21:=L.z21; have v21:=L.v21;have mixed:=L.mixed
 have e119:∀args w,(callFunc (ρ.f 119) args).run P w=.ok (.enter (ρ.f 119) args) w:=enters_of L.f119 (by kernel_rfl) rfl;have e137:∀args w,(callFunc (ρ.f 137) args).run P w=.ok (.enter (ρ.f 137) args) w:=enters_of L.f137 (by kernel_rfl) rfl;have hlt:¬r<128:=by omega
 have hne:(r==65533)=false:=beq_eq_false_iff_ne.2 hr
 go_enter L.f152,Body.n152_ntmps ρ
 cases hv:Lib.validRune r
 ·go_wp2_with (go_at_fn (ρ.f 119); refine(Any.utf8_ValidRune { L with } _ _).mono ?_; rintro e w' ⟨rfl,hw⟩; rw [hw,hv])
  go_ret
  exact⟨rfl,0,rfl⟩
 ·have hval:Utf8.valid r=true:=by
   unfold Lib.validRune at hv; unfold Utf8.valid;simp at hv ⊢; omega
  obtain⟨e1,e2,e3⟩:=encode_facts r hval h0
  go_wp2_with (go_at_fn (ρ.f 119); refine(Any.utf8_ValidRune { L with } _ _).mono ?_; rintro e w' ⟨rfl,hw⟩; rw [hw,hv])
  go_step3
  go_wp2
  generalize Utf8.encode r=rs at *;obtain⟨k,hk⟩:∃k,rs.size=k+1:=⟨rs.size-1,by omega⟩;have hk1:((rs.size:Int)-1)=(k:Int):=by omega
  have hkr:k<rs.size:=by omega
  rw [hk1];obtain⟨y,hy⟩:∃y:UInt8,rs[k]'hkr=y:=⟨_,rfl⟩;have hy128:128<=y.toNat:=by
   have h8:=e3 (by omega);have h9:rs.size-1=k:=by omega
   simp only [h9,hy] at h8;exact h8
  have hidx2:∀w,(Instr.index (ρ.t 9) (.string rs) (.int .i64 (k:Int))).run P w=.ok (.int .u8 y.toNat) w:=fun w=>by
   rw [run_index_string w _ _ _ _ t9,dif_pos ⟨by omega,by omega⟩]; simp only [Int.toNat_natCast,hy]
  go_loopg [9,10,11,12] 1 (fun g s9 _ _ _ wx=>s9=.int .i64 (k:Int)/\wx=w)
  case atStart=>exact⟨by go_num,rfl⟩
  case round =>
   obtain⟨rfl,rfl⟩:=hrel;by_cases hlt2:(k:Int)<(s.size:Int)
   ·have hi:k<s.size:=by omega
    obtain⟨x,hx⟩:∃x:UInt8,s[k]'hi=x:=⟨_,rfl⟩;have hx128:x.toNat<128:=HA.out k x (by rw [<- hx]; exact Lib.data_getElem? s _ hi);have hidx:∀w,(Instr.index (ρ.t 9) (.string s) (.int .i64 (k:Int))).run P w=.ok (.int .u8 x.toNat) w:=fun w=>by
     rw [run_index_string w _ _ _ _ t9,dif_pos ⟨by omega,by omega⟩]; simp only [Int.toNat_natCast,hx]
    have h33:((x.toNat:Int)==(y.toNat:Int))=false:=beq_eq_false_iff_ne.2 (by omega);have hsl:∀w,(Instr.slice (ρ.t 9) (.string s) (some (.int .i64 ((k:Int)+1))) none none).run P w=.ok (.string (s.extract (k+1) s.size)) w:=fun w=>by
     rw [run_slice_string_l (ht:=t9) (h0:=by omega) (h1:=by omega)]; rfl
    have hwr:IntKind.i64.wrap ((k:Int)+1)=(k:Int)+1:=wrap_small _ (by omega) (by omega);have hle:(k:Int)+1<=(s.size:Int):=by omega
    have hge:(0:Int)<=(k:Int)+1:=by omega
    have hno:Lib.indexByte (s.extract (k+1) s.size).data.toList (y.toNat:Int).toNat.toUInt8 = -1:=by
     have hb:(y.toNat:Int).toNat.toUInt8=y:=by simp
     rw [hb];have hc:=Lib.contains_iff_indexByte (s.extract (k+1) s.size).data.toList y;have hn:(s.extract (k+1) s.size).data.toList.contains y=false:=by
      rw [Lib.extract_data];cases hq:((s.data.toList.drop (k+1)).take (s.size-(k+1))).contains y with
      | false=>rfl
      | true =>
       have h5:y∈(s.data.toList.drop (k+1)).take (s.size-(k+1)):=by simpa using hq
       have h6:y∈s.data.toList:=List.mem_of_mem_drop (List.mem_of_mem_take h5);obtain⟨q,hq1,hq2⟩:=List.mem_iff_getElem.1 h6;have h7:=HA.out q y (by rw [<- hq2]; exact List.getElem?_eq_getElem hq1);omega
     rw [hn] at hc;have h8:=of_decide_eq_false hc.symm;have h9:=Lib.indexByte_ge (s.extract (k+1) s.size).data.toList y;omega
    go_wp2
    go_step3
    go_wp2
    go_region_o
    all_goals go_wp2
    all_goals go_region_with_o (go_at_fn (ρ.f 137); refine(Any.strings_IndexByte { L with } _ _ _).mono ?_; rintro e w' ⟨rfl,hw⟩; rw [hw,hno])
    all_goals (
     go_wp2
     simp only [Exit.noGoto_ret,Exit.inBlock,Exit.then]
     go_ret
     exact⟨rfl,2,rfl⟩)
   ·go_wp2
    go_ret
    exact⟨rfl,0,rfl⟩

theorem indexRune_high (L:Lays.n152 P ρ) (s:ByteArray) (r:Int) (w:World) (h0:128<=r) (h1:r<=1114111) (hs:s.size<=4611686018427387904) (hascii:∀(j:Nat) b,s.data.toList[j]?=some b->b.toNat<128) :
  Calls P (ρ.f 152) #[.string s,.int .i32 r] w fun e w'=>e=.returned (.int .i64 (-1))/\Grew w w':=by
 by_cases h:r=65533
 ·subst h; exact indexRune_err L s w hascii
 ·refine(indexRune_far L s r w h0 h1 h hs hascii).mono ?_;rintro e w' ⟨h2,n,rfl⟩;exact⟨h2,n,#[],by simp⟩
def idxRune (s:List UInt8) (r:Int):Int:=if r<128 then Lib.indexByte s r.toNat.toUInt8 else -1
theorem indexRune_all (L:Lays.n152 P ρ) (s:ByteArray) (r:Int) (w:World) (h0:0<=r) (h1:r<=1114111) (hs:s.size<=4611686018427387904) (hascii:∀(j:Nat) b,s.data.toList[j]?=some b->b.toNat<128) :
  Calls P (ρ.f 152) #[.string s,.int .i32 r] w fun e w'=>e=.returned (.int .i64 (idxRune s.data.toList r))/\Grew w w':=by
 unfold idxRune;by_cases h:r<128
 ·rw [if_pos h];refine(Any.strings_IndexRune_ascii L s r w h0 h).mono ?_;rintro e w' ⟨h2,rfl⟩;exact⟨h2,Grew.refl _⟩
 ·rw [if_neg h]; exact indexRune_high L s r w (by omega) h1 hs hascii

end Go.Proofs

/-
 strings.IndexAny of whatever string,over two or more ASCII signs. No program text.
-/
namespace Go.Proofs
open Go Go.Shelf Go.RowKit Go.Lib
variable {P:Program}{ρ:Ren}
theorem get!_data (s:ByteArray) (i:Nat) (h:i<s.size):s.get! i=s[i]'h:=by
 simp [ByteArray.get!,getElem!_pos,h]; rfl
theorem decode_high (s:ByteArray) (i:Nat) (h:i<s.size) (ha:128<=(s[i]'h).toNat) :
  128<=(Utf8.decode s i).1/\i+(Utf8.decode s i).2<=s.size/\∀j b,i<=j->j<i+(Utf8.decode s i).2->s.data.toList[j]?=some b->128<=b.toNat:=by
 have key:∀(R K:Nat),(128<=R)->(∀k,k<K->i+k<s.size/\128<=(s.get! (i+k)).toNat)->128<=R/\i+K<=s.size/\∀j b,i<=j->j<i+K->s.data.toList[j]?=some b->128<=b.toNat:=by
  intro R K hR hK;refine⟨hR, ?_,fun j b h1 h2 h3=>?_⟩
  ·cases K with
   | zero=>omega
   | succ K=>have:=(hK K (by omega)).1; omega
  ·obtain⟨h4,h5⟩:=hK (j-i) (by omega);have h6:i+(j-i)=j:=by omega
   rw [h6] at h4 h5;rw [get!_data s j h4] at h5;have h7:=Lib.data_getElem? s j h4;rw [h7] at h3;obtain rfl:=Option.some.inj h3;exact h5
 have h0:i+0<s.size/\128<=(s.get! (i+0)).toNat:=⟨h,by rw [Nat.add_zero,get!_data s i h]; exact ha⟩;have hc:∀k,(decide (i+k<s.size)&&((s.get! (i+k)).toNat / 64==2))=true->i+k<s.size/\128<=(s.get! (i+k)).toNat:=fun k hk=>by
  simp only [Bool.and_eq_true,decide_eq_true_eq,beq_iff_eq] at hk;exact⟨hk.1,by omega⟩
 have hnot:¬(s.get! (i+0)).toNat<128:=by omega
 unfold Utf8.decode;simp only [hnot,if_false];have one:∀R,128<=R->128<=R/\i+1<=s.size/\∀j b,i<=j->j<i+1->s.data.toList[j]?=some b->128<=b.toNat:=fun R hR=>key R 1 hR fun k hk=>by
  obtain rfl:k=0:=by omega
  exact h0
 have hre:128<=Utf8.runeError:=by decide
 split
 ·rename_i h1
  simp only [Bool.and_eq_true] at h1
  split
  ·rename_i h2
   refine key _ 2 (by simpa using h2) fun k hk=>?_;rcases (by omega:k=0\/k=1) with rfl|rfl
   ·exact h0
   ·exact hc 1 (by simpa using h1.2)
  ·exact one _ hre
 ·split
  ·rename_i h1
   simp only [Bool.and_eq_true] at h1
   split
   ·rename_i h2
    simp only [Bool.and_eq_true,decide_eq_true_eq] at h2;refine key _ 3 (by omega) fun k hk=>?_;rcases (by omega:k=0\/k=1\/k=2) with rfl|rfl|rfl
    ·exact h0
    ·exact hc 1 (by simpa using h1.1.2)
    ·exact hc 2 (by simpa using h1.2)
   ·exact one _ hre
  ·split
   ·rename_i h1
    simp only [Bool.and_eq_true] at h1
    split
    ·rename_i h2
     simp only [Bool.and_eq_true,decide_eq_true_eq] at h2;refine key _ 4 (by omega) fun k hk=>?_;rcases (by omega:k=0\/k=1\/k=2\/k=3) with rfl|rfl|rfl|rfl
     ·exact h0
     ·exact hc 1 (by simpa using h1.1.1.2)
     ·exact hc 2 (by simpa using h1.1.2)
     ·exact hc 3 (by simpa using h1.2)
    ·exact one _ hre
   ·exact one _ hre
theorem NoAny.plus {s chars:List UInt8}{i K:Nat}(h:Lib.NoAny s chars i) (hk:∀j b,i<=j->j<i+K->s[j]?=some b->chars.contains b=false):Lib.NoAny s chars (i+K):=by
 intro j b hj hb;by_cases h2:j<i
 ·exact h j b h2 hb
 ·exact hk j b (by omega) hj hb
def IterW (w:World) (s:ByteArray) (i:Nat) (wx:World):Prop:=∃n os,wx=Sort.grow (Sort.ahead w n) (#[Obj.stringIter s i]++os)
theorem IterW.heap {w wx:World}{s:ByteArray}{i:Nat}(h:IterW w s i wx):wx.heap[w.heap.size]?=some (.stringIter s i):=by
 obtain⟨n,os,rfl⟩:=h;show (w.heap++(#[Obj.stringIter s i]++os))[w.heap.size]?=_;rw [Array.getElem?_append_right (by omega),Array.getElem?_append_left (by simp)];simp
theorem IterW.at {w wx:World}{s:ByteArray}{i:Nat}(h:IterW w s i wx) (k:Nat):IterW w s k (wx.iterAt w.heap.size s k):=by
 obtain⟨n,os,rfl⟩:=h;refine⟨n,os, ?_⟩;simp only [World.iterAt,Sort.grow,Sort.ahead]
 congr 1
 apply Array.ext'
 rw [Array.toList_setIfInBounds];simp only [Array.toList_append,List.cons_append,List.nil_append];rw [<- Array.length_toList,List.set_append_right _ _ (Nat.le_refl _)];simp
theorem IterW.grew {w wx w2:World}{s:ByteArray}{i:Nat}(h:IterW w s i wx) (h2:Grew wx w2):IterW w s i w2:=by
 obtain⟨n,os,rfl⟩:=h; obtain⟨m,os2,rfl⟩:=h2;exact⟨n+m,os++os2,by rw [Sort.ahead_grow,Sort.grow_grow,Sort.ahead_ahead,Array.append_assoc]⟩
theorem IterW.toGrew {w wx:World}{s:ByteArray}{i:Nat}(h:IterW w s i wx):Grew w wx:=by obtain⟨n,os,rfl⟩:=h; exact⟨n,_,rfl⟩
set_option maxHeartbeats 8000000 in
set_option maxRecDepth 1000000 in
theorem indexAny_short (L:Lays.n153 P ρ) (s chars:ByteArray) (w:World) (h2:2<=chars.size) (h8:s.size<=8) (hcs:chars.size<=1000) (hascii:∀(j:Nat) b,chars.data.toList[j]?=some b->b.toNat<128) :
  Calls P (ρ.f 153) #[.string s,.string chars] w fun e w'=>e=.returned (.int .i64 (Lib.indexAny s.data.toList chars.data.toList))/\Grew w w':=by
 have hbig:∀b:UInt8,128<=b.toNat->chars.data.toList.contains b=false:=fun b hb=>by
  cases hq:chars.data.toList.contains b with
  | false=>rfl
  | true =>
   have h5:b∈chars.data.toList:=by simpa using hq
   obtain⟨q,hq1,hq2⟩:=List.mem_iff_getElem.1 h5;have h7:=hascii q b (by rw [<- hq2]; exact List.getElem?_eq_getElem hq1);omega
 have cR:=fun(r:Int) (w:World) (h0:0<=r) (h1:r<=1114111)=>indexRune_all (P:=P) (ρ:=ρ) { L with } chars r w h0 h1 (by omega) hascii;have CR:Aside (∀(r:Int) (w:World) (h0:0<=r) (h1:r<=1114111),Calls P (ρ.f 152) #[.string chars,.int .i32 r] w fun e w'=>e=.returned (.int .i64 (idxRune chars.data.toList r))/\Grew w w'):=cR;have HB:Aside (∀b:UInt8,128<=b.toNat->chars.data.toList.contains b=false):=hbig;clear hascii cR hbig
 have hemp:chars.toList.isEmpty=false:=by
  rw [Lib.toList_data];cases h:chars.data.toList with
  | nil=>have:=Lib.size_eq chars; rw [h,List.length_nil] at this; omega
  | cons _ _=>rfl
 have hn1:((chars.size:Int)==1)=false:=beq_eq_false_iff_ne.2 (by omega);have h8z:decide ((8:Int)<(s.size:Int))=false:=decide_eq_false (by omega);have t3:=L.t3; have a3:=L.a3; have z3:=L.z3; have v3:=L.v3;have t4:=L.t4; have a4:=L.a4; have z4:=L.z4; have v4:=L.v4;have t5:=L.t5; have a5:=L.a5; have z5:=L.z5; have v5:=L.v5;have t9:=L.t9; have a9:=L.a9; have z9:=L.z9; have v9:=L.v9;have t21:=L.t21; have a21:=L.a21; have z21:=L.z21; have v21:=L.v21
 have e152:∀args w,(callFunc (ρ.f 152) args).run P w=.ok (.enter (ρ.f 152) args) w:=enters_of L.f152 (by kernel_rfl) rfl;have e226:∀args w,(callFunc (ρ.f 226) args).run P w=.ok (.enter (ρ.f 226) args) w:=enters_of L.f226 (by kernel_rfl) rfl
 go_enter L.f153,Body.n153_ntmps ρ
 go_wp2_with (go_at_fn (ρ.f 226); refine(Any.strings_shouldUseASCIISet { L with } _ _).mono ?_; rintro e w' ⟨rfl,hw⟩; rw [hw,h8z])
 go_loopg [9,10] s.size (fun g _ _ wx=>∃i:Nat,s.size<=i+g/\i<=s.size/\IterW w s i wx/\Lib.NoAny s.data.toList chars.data.toList i)
 case atStart=>exact⟨0,by omega,by omega,⟨0,#[],by simp [World.iter,Sort.alloc_eq_grow]⟩,Lib.NoAny.zero _ _⟩
 case round =>
  obtain⟨i,hig,hle,hit,hno⟩:=hrel;have HN:Aside (Lib.NoAny s.data.toList chars.data.toList i):=hno;have HI:Aside (IterW w s i wr):=hit;have hh:=hit.heap;clear hno hit;by_cases hi:i<s.size
  ·obtain⟨g,rfl⟩:∃g,gk=g+1:=⟨gk-1,by omega⟩;have hnx:∀ty,(Instr.next (.pointer (some ⟨w.heap.size,0,none⟩)) true ty).run P wr=_:=fun ty=>Lib.run_next_any_at wr w.heap.size s i ty hh hi;obtain⟨x,hx⟩:∃x:UInt8,s[i]'hi=x:=⟨_,rfl⟩;have hxl:s.data.toList[i]?=some x:=by rw [<- hx]; exact Lib.data_getElem? s i hi
   have hdec:(Utf8.decode s i=(x.toNat,1)/\x.toNat<128)\/(128<=(Utf8.decode s i).1/\i+(Utf8.decode s i).2<=s.size/\∀j b,i<=j->j<i+(Utf8.decode s i).2->s.data.toList[j]?=some b->128<=b.toNat):=by
    by_cases hlt:x.toNat<128
    ·exact .inl ⟨by rw [decode_ascii s i hi (by rw [hx]; exact hlt),hx],hlt⟩
    ·exact .inr (decode_high s i hi (by rw [hx]; omega))
   have hwd:=Lib.width_pos s i;have hrl:=Lib.rune_le s i;obtain⟨R,hR⟩:∃R,(Utf8.decode s i).1=R:=⟨_,rfl⟩;obtain⟨K,hK⟩:∃K,(Utf8.decode s i).2=K:=⟨_,rfl⟩;rw [hR,hK] at hnx hdec;rw [hK] at hwd;rw [hR] at hrl;have HI2:Aside (IterW w s (i+K) (wr.iterAt w.heap.size s (i+K))):=HI.out.at _;have HX:Aside (s.data.toList[i]?=some x):=hxl;have HD:Aside ((x.toNat=R/\K=1/\x.toNat<128)\/(128<=R/\i+K<=s.size/\∀j b,i<=j->j<i+K->s.data.toList[j]?=some b->128<=b.toNat)):=by
    rcases hdec with ⟨h1,h2⟩|h1
    ·left; rw [h1] at hR hK; exact⟨hR,hK.symm,h2⟩
    ·exact .inr h1
   clear hdec hxl hx hR hK;generalize wr.iterAt w.heap.size s (i+K)=W at *;cases hge:decide (0<=idxRune chars.data.toList (R:Int))
   ·have hlt:¬((0:Int)<=idxRune chars.data.toList (R:Int)):=of_decide_eq_false hge
    go_wp2_with (go_at_fn (ρ.f 152); refine(CR.out _ _ (by omega) (by omega)).mono ?_; rintro e w' ⟨rfl,hw⟩)
    go_roundg g
    case measure=>omega
    case rel =>
     refine⟨i+K,by omega, ?_,HI2.out.grew hw, ?_⟩
     ·rcases HD.out with ⟨_,h1,_⟩|⟨_,h1,_⟩<;>omega
     ·refine NoAny.plus HN.out fun j b h3 h4 h5=>?_;rcases HD.out with ⟨h6,h7,h8⟩|⟨h6,h7,h8⟩
      ·obtain rfl:j=i:=by omega
       have h9:=HX.out;rw [h5] at h9;obtain rfl:=Option.some.inj h9;have h10:=Lib.contains_iff_indexByte chars.data.toList b;rw [h10];unfold idxRune at hlt;rw [if_pos (by omega),<- h6] at hlt;have hback:((b.toNat:Int)).toNat.toUInt8=b:=by simp
       rw [hback] at hlt;exact decide_eq_false (by omega)
      ·exact HB.out b (h8 j b h3 h4 h5)
   ·have hge':(0:Int)<=idxRune chars.data.toList (R:Int):=of_decide_eq_true hge
    go_wp2_with (go_at_fn (ρ.f 152); refine(CR.out _ _ (by omega) (by omega)).mono ?_; rintro e w' ⟨rfl,hw⟩)
    go_ret
    refine⟨?_,(HI2.out.grew hw).toGrew⟩;rcases HD.out with ⟨h6,h7,h8⟩|⟨h6,h7,h8⟩
    ·have h10:=Lib.contains_iff_indexByte chars.data.toList x;unfold idxRune at hge';rw [if_pos (by omega),<- h6] at hge';have hback:((x.toNat:Int)).toNat.toUInt8=x:=by simp
     rw [hback] at hge';rw [decide_eq_true hge'] at h10;rw [Lib.indexAny_hit HN.out HX.out h10]; rfl
    ·unfold idxRune at hge';rw [if_neg (by omega)] at hge';omega
  ·obtain rfl:i=s.size:=by omega
   have hnx:∀ty,(Instr.next (.pointer (some ⟨w.heap.size,0,none⟩)) true ty).run P wr=_:=fun ty=>Lib.run_next_end_at wr w.heap.size s s.size ty hh hi
   go_wp2
   go_ret
   exact⟨by rw [Lib.indexAny_none (by rw [<- Lib.size_eq]; exact HN.out)]; rfl,HI.out.toGrew⟩
theorem indexAny_all (L:Lays.n153 P ρ) (h116:(P.info? (ρ.t 116)).map (fun i=>(i.zero,i.size))=some (some (.agg (Array.replicate 256 (.bool false))),256)) (s chars:ByteArray) (w:World) (h2:2<=chars.size) (hcs:chars.size<=1000) (hs:s.size<4294967281) (hascii:∀(j:Nat) b,chars.data.toList[j]?=some b->b.toNat<128) :
  Calls P (ρ.f 153) #[.string s,.string chars] w fun e w'=>e=.returned (.int .i64 (Lib.indexAny s.data.toList chars.data.toList))/\Grew w w':=by
 by_cases h8:s.size<=8
 ·exact indexAny_short L s chars w h2 h8 hcs hascii
 ·refine(Any.strings_IndexAny_long L (zero_of_info h116).1 (zero_of_info h116).2 s chars w h2 (by omega) hs (by omega) hascii).mono ?_;rintro e w' ⟨h1,h3⟩;rw [h3,Sort.alloc_eq_grow,Sort.alloc_eq_grow,Sort.grow_grow];exact⟨h1,0,_,by rw [Sort.ahead_zero]⟩
end Go.Proofs

/-
 The library's searches in strings,strconv.Atoi,as contracts. No program text.
-/
namespace Go.Ab
open Go Go.RowKit Go.Proofs Go.Shelf
variable {lou:Lou}
theorem AC.grew {P:Program}{f:FuncId}{args:List A}{H:Heap}{r:A}{cv:Value}(enter:∀(cargs:Array Value) (w:World),(callFunc f cargs).run P w=.ok (.enter f cargs) w)
  (hc:∀j w c,HRel j w H->All2 (ARel j w) args c->(∀j w,ARel j w r cv)/\Calls P f c.toArray w fun e w'=>e=.returned cv/\Grew w w'):AC P f args H fun v h'=>v=.a r/\h'=H:=by
 refine⟨enter,fun j w c hr ha=>?_⟩;obtain⟨h2,h3⟩:=hc j w c hr ha;refine h3.mono ?_;rintro e w' ⟨rfl,k,os,rfl⟩;have hl:HL j w [] [] H:=⟨hr,⟨.nil,by simp,by simp⟩⟩;obtain⟨h5,h6⟩:=hl.grown k os;exact⟨_,_,j,H,rfl,⟨rfl,rfl⟩,h2 _ _,h5.1,h6⟩
def isAscii (s:Bs):Bool:=s.all fun b=>decide (b.toNat<128)
theorem isAscii_at {s:Bs}(h:isAscii s=true):∀(j:Nat) b,(⟨s.toArray⟩:ByteArray).data.toList[j]?=some b->b.toNat<128:=fun j b hb=>by
 have h1:s[j]?=some b:=by simpa using hb
 have h2:=List.mem_of_getElem? h1;have h3:=List.all_eq_true.1 h b h2
 simpa using h3
def idxRuneC (s:Bs) (r:Int):Option Int:=if 0<=r/\r<=1114111/\s.length<=1000/\isAscii s=true then some (idxRune s r) else none
theorem idxRune_calls {P:Program}{ρ:Ren}(L:Lays.n152 P ρ){s:Bs}{r x:Int}(hE:idxRuneC s r=some x){F:Nat}(hF:F=ρ.f 152){H:Heap} :
  AC P F [.d (.str s),.d (.int .i32 r)] H fun v h'=>v=.a (.d (.int .i64 x))/\h'=H:=by
 subst hF;unfold idxRuneC at hE
 split at hE
 ·rename_i h
  obtain rfl:=Option.some.inj hE;refine AC.grew (cv:=.int .i64 (idxRune s r)) (enters_of L.f152 (by kernel_rfl) rfl) fun j w c hr ha=>?_;cases ha with
  | cons a1 ha =>
  cases ha with
  | cons a2 ha =>
  cases ha
  rename_i v1 v2
  have a1':DRel j w (.str s) v1:=a1;have a2':DRel j w (.int .i32 r) v2:=a2;cases a1'; cases a2';refine⟨fun _ _=>DRel.int _ _, ?_⟩;have h5:=indexRune_all L ⟨s.toArray⟩ r w h.1 h.2.1 (by have:=h.2.2.1; simp [ByteArray.size]; omega) (isAscii_at h.2.2.2)
  simpa using h5
 ·cases hE
def idxAnyC (s chars:Bs):Option Int:=if 2<=chars.length/\chars.length<=1000/\s.length<4294967281/\isAscii chars=true then some (Lib.indexAny s chars) else none
theorem idxAny_calls {P:Program}{ρ:Ren}(L:Lays.n153 P ρ) (h116:(P.info? (ρ.t 116)).map (fun i=>(i.zero,i.size))=some (some (.agg (Array.replicate 256 (.bool false))),256)){s chars:Bs}{x:Int}(hE:idxAnyC s chars=some x){F:Nat}(hF:F=ρ.f 153){H:Heap} :
  AC P F [.d (.str s),.d (.str chars)] H fun v h'=>v=.a (.d (.int .i64 x))/\h'=H:=by
 subst hF;unfold idxAnyC at hE
 split at hE
 ·rename_i h
  obtain rfl:=Option.some.inj hE;refine AC.grew (cv:=.int .i64 (Lib.indexAny s chars)) (enters_of L.f153 (by kernel_rfl) rfl) fun j w c hr ha=>?_;cases ha with
  | cons a1 ha =>
  cases ha with
  | cons a2 ha =>
  cases ha
  rename_i v1 v2
  have a1':DRel j w (.str s) v1:=a1;have a2':DRel j w (.str chars) v2:=a2;cases a1'; cases a2';refine⟨fun _ _=>DRel.int _ _, ?_⟩;have h5:=indexAny_all L h116 ⟨s.toArray⟩ ⟨chars.toArray⟩ w (by have:=h.1; simp [ByteArray.size]; omega) (by have:=h.2.1; simp [ByteArray.size]; omega) (by have:=h.2.2.1; simp [ByteArray.size]; omega) (isAscii_at h.2.2.2)
  simpa using h5
 ·cases hE
theorem idxByte_calls {P:Program}{ρ:Ren}(L:Lays.n137 P ρ){s:Bs}{c:Int}{F:Nat}(hF:F=ρ.f 137){H:Heap} :
  AC P F [.d (.str s),.d (.int .u8 c)] H fun v h'=>v=.a (.d (.int .i64 (Lib.indexByte s c.toNat.toUInt8)))/\h'=H:=by
 subst hF;refine AC.compute (cargs:=[]) (cv:=.int .i64 (Lib.indexByte s c.toNat.toUInt8)) (enters_of L.f137 (by kernel_rfl) rfl) fun j w c' hr ha=>?_;cases ha with
 | cons a1 ha =>
 cases ha with
 | cons a2 ha =>
 cases ha
 rename_i v1 v2
 have a1':DRel j w (.str s) v1:=a1;have a2':DRel j w (.int .u8 c) v2:=a2;cases a1'; cases a2';refine⟨DRel.int _ _, ?_⟩;have h5:=Any.strings_IndexByte L ⟨s.toArray⟩ c w
 simpa using h5
theorem cmpS_calls {P:Program}{ρ:Ren}(L:Lays.n106 P ρ){s t:Bs}{F:Nat}(hF:F=ρ.f 106){H:Heap} :
  AC P F [.d (.str s),.d (.str t)] H fun v h'=>v=.a (.d (.int .i64 (Lib.compareBytes s t)))/\h'=H:=by
 subst hF;refine AC.compute (cargs:=[]) (cv:=.int .i64 (Lib.compareBytes s t)) (enters_of L.f106 (by kernel_rfl) rfl) fun j w c' hr ha=>?_;cases ha with
 | cons a1 ha =>
 cases ha with
 | cons a2 ha =>
 cases ha
 rename_i v1 v2
 have a1':DRel j w (.str s) v1:=a1;have a2':DRel j w (.str t) v2:=a2;cases a1'; cases a2';refine⟨DRel.int _ _, ?_⟩;have h5:=Any.strings_Compare L ⟨s.toArray⟩ ⟨t.toArray⟩ w
 simpa using h5
end Go.Ab

/-
 slices.Reverse over a slice that may be stored to; variables whose field is such a slice. No program text.
-/
namespace Go.Ab
open Go Go.RowKit Go.Proofs Go.Shelf Go.Sort
variable {lou:Lou}
def Sl.rev {α:Type}(s:Sl α):Sl α:=⟨s.nl,s.l.reverse⟩
section
variable {P:Program}{ρ:Ren}{T:Type} [Inhabited T] {v:T->Value}{d1:T->D}
theorem rev_calls (L:SlLaysE.n35 P ρ) (hO:OneCell v) (hinv:∀j w x cv,DRel j w (d1 x) cv->cv=v x)
  {H:Heap}{id:Nat}{nl:Bool}{l:List T}(hH:H id=some (.arr 1 (l.map fun x=>[d1 x]))) :
  AC P (ρ.f 35) [.d (.arr 1 id nl l.length)] H fun r h'=>r=.tup []/\h'=H.set id (some (.arr 1 (l.reverse.map fun x=>[d1 x]))):=by
 refine⟨L.f35.enters rfl,fun j w cargs hr ha=>?_⟩;have hl:HL j w [] [] H:=⟨hr,⟨.nil,by simp,by simp⟩⟩;cases ha with
 | cons h1 ha =>
 cases ha
 rename_i v1
 have hmx:l.length<=maxN:=by obtain⟨_,_,_,_,_,hmx,_⟩:=hr.obj id _ hH; simpa using hmx
 rcases hl.arrAt hH (by simp) (k':=1) (n:=l.length) (cv:=v1) h1 with ⟨base,e1,hnl1,hrows,htok⟩|⟨b,cap,csA,ce,e1,hnl1,htok,hg1,hcsz,hF,hcap,hkr,hall⟩
 ·subst e1;have hl0:l=[]:=by simpa using hrows
  subst hl0;refine(AnyE.slices_Reverse_empty L base 0 w).mono ?_;rintro e w' ⟨rfl,rfl⟩;exact⟨.tup [],_,j,H,rfl,⟨rfl,by rw [List.reverse_nil,Heap.set_self H id _ hH]⟩,⟨[],rfl,.nil⟩,hr,Evolve.refl _ _ _⟩
 ·subst e1;rw [List.length_map] at hcap hall;simp only [Nat.mul_one] at hall hcsz;have hfl:∀m:List T,(m.map fun x=>[d1 x]).flatten=m.map d1:=fun m=>by induction m with
   | nil=>rfl
   | cons a r ih=>simp [ih]
  rw [hfl] at hall;have hcells:∀i,w.cell? ⟨b,i,none⟩=csA[i]?:=fun i=>cell_of_row w b i csA ce (0,0) hg1;have hold:csA.toList.take l.length=l.map v:=by
   refine List.ext_getElem? fun i=>?_;by_cases hi:i<l.length
   ·obtain⟨u,hu,hr1⟩:=hall.get (i:=i) (x:=d1 l[i]) (by rw [List.getElem?_map,List.getElem?_eq_getElem hi]; rfl);rw [hu,hinv _ _ _ _ hr1,List.getElem?_map,List.getElem?_eq_getElem hi]; rfl
   ·rw [List.getElem?_eq_none (by rw [<- hall.length]; simp; omega),List.getElem?_eq_none (by simp; omega)]
  have hHo:Holds v w b 0 l.toArray:=by
   intro i hi;rw [List.size_toArray] at hi;refine⟨?_,frozen_of_row w b _ csA ce hg1⟩;rw [Nat.zero_add,hcells];have h4:(csA.toList.take l.length)[i]?=(l.map v)[i]?:=by rw [hold]
   rw [List.getElem?_take,if_pos hi,Array.getElem?_toList,List.getElem?_map,List.getElem?_eq_getElem hi] at h4;rw [h4]; simp [hi]
  have hcall:=AnyE.slices_Reverse L v hO b 0 cap l w hHo (by unfold maxN at hmx; omega);rw [show [Value.slice (some ⟨b,0,none⟩) (l.map fun x=>[d1 x]).length cap].toArray=#[.slice (some ⟨b,0,none⟩) l.length cap] by simp];refine hcall.mono ?_;rintro e w' ⟨rfl,q,rfl⟩;generalize hnw:l.reverse=new;have hnl:new.length=l.length:=by rw [<- hnw]; simp
  let cs':List Value:=(putCells v 0 new.toArray csA).toList
  have hcs':cs'=new.map v++csA.toList.drop l.length:=by
   refine List.ext_getElem? fun i=>?_;show (putCells v 0 new.toArray csA).toList[i]?=_;unfold putCells;rw [Array.getElem?_toList,Array.getElem?_mapIdx,List.getElem?_append];by_cases hi:i<l.length
   ·have hi1:i<csA.size:=by omega
    have hi2:i<new.toArray.size:=by simp [hnl,hi]
    have g1:csA[i]?=some csA[i]:=Array.getElem?_eq_getElem hi1;rw [if_pos (by simp [hnl,hi]),g1,Option.map_some,if_pos ⟨Nat.zero_le _,by rw [Nat.zero_add]; exact hi2⟩,Nat.sub_zero,getElem!_pos _ i hi2,List.getElem?_map,List.getElem?_eq_getElem (by omega)];simp
   ·rw [if_neg (by simp [hnl,hi]),List.length_map,hnl,List.getElem?_drop,show l.length+(i-l.length)=i by omega,Array.getElem?_toList];cases csA[i]? with
    | none=>rfl
    | some y=>rw [Option.map_some,if_neg (by simp [hnl]; omega)]
  have hupd:Upd w (putRow v w b 0 new.toArray) b (.cells cs'.toArray ce (0,0)):=by
   refine⟨by simp [putRow,mapBlock], ?_,fun x hx=>?_,rfl,rfl,Outs.rfl⟩
   ·simp only [putRow,mapBlock,Array.getElem?_modify,if_true,hg1,Option.map_some];show some (Go.Obj.cells _ ce (0,0))=some (Go.Obj.cells cs'.toArray ce (0,0));simp [cs']
   ·simp only [putRow,mapBlock,Array.getElem?_modify];rw [if_neg (fun e=>hx e.symm)]
  have hle:=hupd.le (j:=j) hF;have hne:(l.map fun x=>[d1 x])=[]->some (b,cap)=none:=fun e=>by
   obtain⟨_,blk,g1,g2,_⟩:=hr.obj id _ hH;rw [htok] at g1;simp only [Option.some.injEq,Tk.mk.injEq] at g1;rw [g1.1]; exact g2.2 e
  have hblk:∀rows',blkOf j id (.arr 1 rows')=some b:=fun _=>by simp [blkOf,htok]
  have hrel:∀x∈new,DRel j (putRow v w b 0 new.toArray) (d1 x) (v x):=fun x hx=>by
   rw [<- hnw] at hx;obtain⟨i,hi⟩:=List.getElem?_of_mem (List.mem_reverse.1 hx);obtain⟨u,_,hr1⟩:=hall.get (i:=i) (x:=d1 x) (by rw [List.getElem?_map,hi]; rfl);have e:=hinv _ _ _ _ hr1;rw [e] at hr1;exact hr1.mono hle
  have hcl0:csA.toList.length=cap:=by simpa using hcsz
  obtain⟨h5,h6⟩:=hl.setObj (o':=.arr 1 (new.map fun x=>[d1 x])) hH (hblk _) (hblk _) hF hupd (by
   refine⟨some (b,cap),by simp only [List.length_map,hnl]; simpa using htok,⟨by simp,fun e=>hne (by rw [List.map_eq_nil_iff] at e; rw [e] at hnl; exact List.map_eq_nil_iff.2 (List.eq_nil_of_length_eq_zero hnl.symm))⟩,fun r hr'=>?_,by simpa [hnl] using hmx,fun b' cap' e'=>?_⟩
   ·obtain⟨q,hq,rfl⟩:=List.mem_map.1 hr';rfl
   ·simp only [Option.some.injEq,Prod.mk.injEq] at e';obtain⟨rfl,rfl⟩:=e';refine⟨cs',ce,hupd.here, ?_,hF,by simpa [hnl] using hcap, ?_⟩
    ·rw [hcs',List.length_append,List.length_map,List.length_drop,hnl,hcl0]; omega
    ·rw [hfl,List.length_map,hnl,Nat.mul_one,hcs',List.take_left' (by simp [hnl])];clear hcs' hupd hle hnw hcall hHo hold hall;induction new with
     | nil=>exact .nil
     | cons a r ih=>exact .cons (hrel a (by simp)) (by
       refine All2.of_get (by simp) fun i x y hx hy=>?_;rw [List.getElem?_map] at hx hy;cases e:r[i]? with
       | none=>rw [e] at hx; cases hx
       | some z =>
        rw [e] at hx hy;simp only [Option.map_some,Option.some.injEq] at hx hy;subst hx hy;exact hrel z (by simp [List.mem_of_getElem? e])))
  obtain⟨h7,h8⟩:=h5.grown q #[];have hw:putRow v (Sort.ahead w q) b 0 new.toArray=Sort.grow (Sort.ahead (putRow v w b 0 new.toArray) q) #[]:=by rw [grow_empty]; rfl
  rw [hw];exact⟨.tup [],_,j,_,rfl,⟨rfl,rfl⟩,⟨[],rfl,.nil⟩,h7.1,h6.trans h8⟩
end
theorem revI_calls {P:Program}{ρ:Ren}(L:SlLaysE.n35 P ρ){H:Heap}{id m:Nat}{nl:Bool}{s:Sl Int}(hH:H id=some (.arr 1 (s.l.map (intE .i64)))) (hm:m=s.l.length){F:Nat}(hF:F=ρ.f 35) :
  AC P F [.d (.arr 1 id nl m)] H fun r h'=>r=.tup []/\h'=H.set id (some (.arr 1 ((Sl.rev s).l.map (intE .i64)))):=by
 subst hm hF;exact rev_calls (v:=Value.int .i64) (d1:=D.int .i64) L (fun _=>rfl) (fun j w x cv h=>by cases h; rfl) hH
theorem arr_cell {j:J}{w:World}{h:Heap}{t k:Nat}{xs:List D}{cs:List Value}(i k0 k1:Nat) (hh:HRel j w h) (ht:h t=some (.arr k [])) (hx:All2 (DRel j w) xs cs) (hi:xs[i]?=some (.slice k0 none true [])) :
  All2 (DRel j w) (xs.set i (.arr k1 t true 0)) cs:=by
 refine All2.of_get (by rw [List.length_set,hx.length]) fun n x v hn hv=>?_;rw [List.getElem?_set] at hn
 split at hn
 ·rename_i e
  subst e
  split at hn
  ·simp only [Option.some.injEq] at hn; subst hn;obtain⟨v',hv',hr⟩:=hx.get hi;rw [hv] at hv'; simp only [Option.some.injEq] at hv'; subst hv';exact nil_arr hh ht hr
  ·cases hn
 ·obtain⟨v',hv',hr⟩:=hx.get hn;rw [hv] at hv'; simp only [Option.some.injEq] at hv'; subst hv';exact hr
theorem AWp.frzL {P:Program}{c:Code}{Q:Exit->St->Prop}{n:Nat}{ts:Ts}{ls:List (List D)}{h:Heap}(i o id:Nat){xs:List D}{k k' m:Nat}{nl:Bool}{rows:List (List D)}(hc:ls[i]?=some xs) (ho:xs[o]?=some (.arr k' id nl m))
  (hi:h id=some (.arr k rows)) (hm:m=rows.length) (hw:AWp P c Q ⟨n,ts,ls.set i (xs.set o (.slice k none nl rows)),h.set id none⟩):AWp P c Q ⟨n,ts,ls,h⟩:=by
 intro j w jl a hsr;obtain⟨b,hb,hL⟩:=hsr.hl.2.each.get hc;obtain⟨cs,e,hcell,hall,hF⟩:=hL;obtain⟨v,hv,hr⟩:=hall.get ho;rw [hm] at hr;obtain⟨j',h1,h2,h3⟩:=HL.freezeA hsr.hl hi (k':=k') (cv:=v) (show VRel j w jl (.a (.d (.arr k' id nl rows.length))) v from hr);have hea:All2 (fun xs b=>Loc1 j' w b xs) (ls.set i (xs.set o (.slice k none nl rows))) jl:=by
  refine All2.of_get (by rw [List.length_set,h1.2.each.length]) fun q x y hx hy=>?_;rw [List.getElem?_set] at hx
  split at hx
  ·rename_i e0
   subst e0
   split at hx
   ·simp only [Option.some.injEq] at hx; subst hx;obtain⟨y',hy',hL'⟩:=h1.2.each.get hc;rw [hy] at hy'; simp only [Option.some.injEq] at hy'; subst hy';obtain⟨cs',e',hcell',hall',hF'⟩:=hL';rw [hb] at hy; simp only [Option.some.injEq] at hy; subst hy;have hce:cs'=cs:=by
     rw [hcell] at hcell';simp only [Option.some.injEq,Go.Obj.cells.injEq] at hcell';have:=hcell'.1
     simpa using this.symm
    subst hce;refine⟨cs',e',hcell',All2.of_get (by rw [List.length_set,hall'.length]) fun q x u hq hu=>?_,hF'⟩;rw [List.getElem?_set] at hq
    split at hq
    ·rename_i e1
     subst e1
     split at hq
     ·simp only [Option.some.injEq] at hq; subst hq;rw [hv] at hu; simp only [Option.some.injEq] at hu; subst hu;exact h3
     ·cases hq
    ·obtain⟨u',hu',hr'⟩:=hall'.get hq;rw [hu] at hu'; simp only [Option.some.injEq] at hu'; subst hu';exact hr'
   ·cases hx
  ·obtain⟨y',hy',hL'⟩:=h1.2.each.get hx;rw [hy] at hy'; simp only [Option.some.injEq] at hy'; subst hy';exact hL'
 have hsr':SRel j' w jl ⟨n,ts,ls.set i (xs.set o (.slice k none nl rows)),h.set id none⟩ a :=
  ⟨hsr.defers,hsr.size,fun q=>(hsr.tmps q).mono h2.toLe (Ext.refl _),⟨h1.1,⟨hea,h1.2.nodup,h1.2.apart⟩⟩⟩
 exact wp_mono (hw j' w jl a hsr') fun e a w hq=>AQ.trans h2 hq

end Go.Ab

/-
 Strings as slices of bytes; errors; strconv.Atoi. No program text.
-/
namespace Go.Ab
open Go Go.RowKit Go.Proofs Go.Shelf
variable {lou:Lou}
section
variable {P:Program}{ts:Ts}{ls:List (List D)}{h:Heap}{dst:Option Tmp}{ty:TypeId}{pos:String}{aft:Array Edge}{g:Option (Nat×Bool)}
def bytesOf (y:Bs):Option (Sl Int):=if y.length<=maxN then some (strSl y) else none
theorem flat_one (l:Bs):(l.map (intE .u8 ∘ fun b:UInt8=>(b.toNat:Int))).flatten=l.map fun b=>D.int .u8 (b.toNat:Int):=by
 induction l with
 | nil=>rfl
 | cons a r ih=>rw [List.map_cons,List.flatten_cons,ih]; rfl
theorem Cert.convSB {s e t:TypeId}{si ei ti:TI}{x:Operand}{y:Bs}{r:Sl Int}(hS:mkTI P s=some si) (hsk:si.k=.str) (hT:mkTI P t=some ti) (ht:ti.k=.slice e) (hE:mkTI P e=some ei) (he:ei.k=.int .u8)
  (hx:ev ts x=.a (.d (.str y))) (hr:bytesOf y=some r):Cert P (mk dst (.convert s t x) ty pos aft g) ts ls h {} (.a (.d (Sl.d 1 (intE .u8) none r))) ls h:=by
 unfold bytesOf at hr
 split at hr
 ·rename_i hlen
  obtain rfl:=Option.some.inj hr;refine Cert.of_run fun L H _ _ j w jl a hl ho=>?_;have h1:=ho x (by simp [Op.operands]);rw [hx] at h1;have h1':DRel j w (.str y) (a.eval x):=h1;generalize hv:a.eval x=v at h1';cases h1';obtain⟨ds,hds,_⟩:=under_ofL hS;have hrun:=run_bytes_of_string (P:=P) w s t e ⟨y.toArray⟩ (str_of hS hsk) (slice_of hT ht) (int_ofL hE he);generalize hcap:grownCap w (ByteArray.mk y.toArray).size 0 e=cap at hrun
  obtain⟨hg1,hg2⟩:=hl.grown 1 #[];have hdr:Sort.grow (Sort.ahead w 1) #[]=w.drew:=by rw [Sort.grow_empty]; rfl
  rw [hdr] at hg1 hg2;obtain⟨hd1,hd2⟩:=hg1.data (.cells (bytesRow ⟨y.toArray⟩ cap) e ((bytesRow ⟨y.toArray⟩ cap).size,(bytesRow ⟨y.toArray⟩ cap).size+1)) (y.length*1);have hsz:(ByteArray.mk y.toArray).size=y.length:=by simp [ByteArray.size]
  have hcp:y.length<=cap:=by rw [<- hcap,<- hsz]; exact grownCap_ge _ _ _ _
  rw [hsz] at hrun;refine⟨_,_,.slice (some ⟨w.heap.size,0,none⟩) y.length cap,_,jl,by simp [execOp,hv,hrun],.inl rfl, ?_,hd1,Ext.refl _,hg2.trans hd2⟩;have hm:=mk_slice (j:=j.frz w.drew.heap.size (y.length*1)) (w:=w.drew.alloc (.cells (bytesRow ⟨y.toArray⟩ cap) e ((bytesRow ⟨y.toArray⟩ cap).size,(bytesRow ⟨y.toArray⟩ cap).size+1))) (k:=1) (tok:=none) (rows:=(strSl y).l.map (intE .u8)) (b:=w.drew.heap.size) (o:=0) (cap:=cap)
   (fun r hr=>by obtain⟨q,_,rfl⟩:=List.mem_map.1 hr; rfl) (by simpa [strSl] using hlen) (by simpa [strSl] using hcp) (fun i x hx=>?_) (fun t' ht'=>by simp at ht')
  ·have e1:((strSl y).l.map (intE .u8)).length=y.length:=by simp [strSl]
   rw [e1] at hm;exact hm
  ·have hfl:((strSl y).l.map (intE .u8)).flatten=y.map fun b=>D.int .u8 (b.toNat:Int):=by
    simp only [strSl,List.map_map];exact flat_one y
   rw [hfl] at hx;rw [List.getElem?_map] at hx;have hil:i<y.length:=by
    rcases Nat.lt_or_ge i y.length with h|h
    ·exact h
    ·rw [List.getElem?_eq_none h] at hx; cases hx
   rw [List.getElem?_eq_getElem hil] at hx;simp only [Option.map_some,Option.some.injEq] at hx;subst hx;refine⟨by simp only [J.frz,if_true]; omega,.int .u8 (y[i].toNat:Int), ?_,DRel.int _ _⟩;rw [cell_of_row _ w.drew.heap.size _ _ e _ (heap_alloc_new w.drew _),Nat.zero_add];have:=bytesRow_at ⟨y.toArray⟩ cap i (by simpa using hil)
   simpa using this
 ·cases hr
theorem Cert.orI {t u:TypeId}{x y:Operand}{k:IntKind}{m n:Int}(hx:ev ts x=.a (.d (.int k m))) (hy:ev ts y=.a (.d (.int k n))) :
  Cert P (mk dst (.binOp .or t x y u) ty pos aft g) ts ls h {} (.a (.d (.int k (k.wrap ((BitVec.ofInt k.bits m ||| BitVec.ofInt k.bits n).toNat:Int))))) ls h :=
 Cert.of_ops fun j w jl a ho=>by
  have h1:=ho x (by simp [Op.operands]);have h2:=ho y (by simp [Op.operands]);rw [hx] at h1; rw [hy] at h2;exact⟨_,by simp [execOp,rel_int h1,rel_int h2,eqGuard_int,binOp,Op.intBits],DRel.int _ _⟩
def errE (T:TypeId) (b:Bool):D:=bif b then .iface T (.view []) else .nilIface
theorem equalIn_nilI {t:TypeId}{ms:_}(hu:P.underlying t=some (.interface ms)) (d:Nat) (w:World):(Op.equalIn (d+1) t .nilIface .nilIface).run P w=.ok true w:=by
 unfold Op.equalIn;simp only [Sem.run_bind,run_under hu,Result.andThen];simp
theorem equalIn_someI {t T:TypeId}{p:Value}{ms:_}(hu:P.underlying t=some (.interface ms)) (d:Nat) (w:World):(Op.equalIn (d+1) t (.iface T p) .nilIface).run P w=.ok false w:=by
 unfold Op.equalIn;simp only [Sem.run_bind,run_under hu,Result.andThen];simp
theorem equal_nilI {t:TypeId}{ms:_}(hu:P.underlying t=some (.interface ms)) (w:World):(Op.equal t .nilIface .nilIface).run P w=.ok true w:=equalIn_nilI hu 9999 w
theorem equal_someI {t T:TypeId}{p:Value}{ms:_}(hu:P.underlying t=some (.interface ms)) (w:World):(Op.equal t (.iface T p) .nilIface).run P w=.ok false w:=equalIn_someI hu 9999 w
theorem guard_nilI {t:TypeId}{op:BinOp}(x:Operand) (w:World):(eqGuard op t x (.const .nilIface) .nilIface .nilIface).run P w=.ok () w:=by
 unfold eqGuard;simp
theorem guard_someI {t T:TypeId}{p:Value}{op:BinOp}(x y:Operand) (w:World):(eqGuard op t x y (.iface T p) .nilIface).run P w=.ok () w:=by
 unfold eqGuard;simp
theorem Cert.neErr {t u T:TypeId}{ti:TI}{x:Operand}{b:Bool}(hT:mkTI P t=some ti) (hk:ti.k=.iface) (hx:ev ts x=.a (.d (errE T b))) :
  Cert P (mk dst (.binOp .neq t x (.const .nilIface) u) ty pos aft g) ts ls h {} (.a (.d (.bool b))) ls h :=
 Cert.of_ops fun j w jl act ho=>by
  have h1:=ho x (by simp [Op.operands]);rw [hx] at h1;have e2:act.eval (.const .nilIface)=.nilIface:=rfl;obtain⟨d,hd,hdk⟩:=under_ofL hT;rw [hk] at hdk;obtain⟨ms,rfl⟩:∃ms,d=.interface ms:=by cases d<;>simp [kOf] at hdk; exact⟨_,rfl⟩
  refine⟨.bool b, ?_,DRel.bool _⟩;cases b with
  | false =>
   have h2:DRel j w .nilIface (act.eval x):=h1;generalize hv:act.eval x=v at h2;cases h2;simp only [execOp,hv,e2,Sem.run_bind,guard_nilI,Result.andThen,binOp,equal_nilI hd,Sem.run_pure,Bool.not_true]
  | true =>
   have h2:DRel j w (.iface T (.view [])) (act.eval x):=h1;generalize hv:act.eval x=v at h2;cases h2;simp only [execOp,hv,e2,Sem.run_bind,guard_someI,Result.andThen,binOp,equal_someI hd,Sem.run_pure,Bool.not_false]
end
def IsErr (P:Program) (o:Ab.Obj):Prop:=∃g tp p t fr,o=.fix g (.cells #[.iface tp p] t fr)/\P.globalNamed "strconv.ErrRange"=some g
theorem IsErr.var {P:Program}{o:Ab.Obj}(h:IsErr P o){j:J}{w:World}{id:Nat}(hr:ORel j w id o):∃tp p,w.var? P "strconv.ErrRange"=some #[.iface tp p]:=by
 obtain⟨g,tp,p,t,fr,rfl,hg⟩:=h;have hr':w.heap[g]?=some _:=hr;exact⟨tp,p,by unfold World.var?; rw [hg,Option.bind_some,hr']⟩
def atoiC (s:Bs):Option (Int×Bool):=if s.length<=281474976710656 then(match Lib.atoiAll s with|.ok v=>some (v,false)|.range=>some (Lib.atoiSat s,true)|.syntax=>none) else none
theorem atoi_calls {P:Program}{ρ:Ren} [IsLoud lou] (L:LaysC.n172 P ρ){s:Bs}{r:Int×Bool}(hE:atoiC s=some r){F T:Nat}(hF:F=ρ.f 172) (hT:T=ρ.t 168){H:Heap}{gE:Nat}{oE:Ab.Obj}(hgE:H gE=some oE) (ho:IsErr P oE) :
  AC P F [.d (.str s)] H fun v h'=>v=.tup [.d (.int .i64 r.1),.d (errE T r.2)]/\h'=H:=by
 subst hF hT;unfold atoiC at hE
 split at hE
 case isFalse=>cases hE
 rename_i hlen
 refine⟨enters_of L.f172 (by kernel_rfl) rfl,fun j w c hr ha=>?_⟩;cases ha with
 | cons a1 ha =>
 cases ha
 rename_i v1
 have a1':DRel j w (.str s) v1:=a1;cases a1';have hl:HL j w [] [] H:=⟨hr,⟨.nil,by simp,by simp⟩⟩;have hsz:(ByteArray.mk s.toArray).size=s.length:=by simp [ByteArray.size]
 have hls:(ByteArray.mk s.toArray).data.toList=s:=by simp
 split at hE
 ·rename_i v hv
  obtain rfl:=Option.some.inj hE;refine(Any.strconv_Atoi_ok L ⟨s.toArray⟩ (by rw [hsz]; omega) v (by rw [hls]; exact hv) w).mono ?_;rintro e w' ⟨rfl,hw⟩;have hb:Below w.heap.size w w':=by
   rcases hw with rfl|⟨t,rfl⟩
   ·exact Below.refl _ _
   ·exact Lib.bytesWorld_below _ _ _
  obtain⟨h5,h6⟩:=HL.below (lou:=lou) hl hb;exact⟨.tup _,_,j,H,rfl,⟨rfl,rfl⟩,⟨_,rfl,.cons (DRel.int _ _) (.cons DRel.nilIface .nil)⟩,h5.1,h6⟩
 ·rename_i hv
  obtain rfl:=Option.some.inj hE;obtain⟨tp,p,hvar⟩:=ho.var (hr.obj gE oE hgE).2;refine(Any.strconv_Atoi_range_var L ⟨s.toArray⟩ (by rw [hsz]; exact hlen) (by rw [hls]; exact hv) tp p w hvar).mono ?_;rintro e w' ⟨N,rfl,_,_,hb⟩;obtain⟨h5,h6⟩:=HL.below (lou:=lou) hl hb;rw [hls];refine⟨.tup _,_,j,H,rfl,⟨rfl,rfl⟩,⟨_,rfl,.cons (DRel.int _ _) (.cons (DRel.iface _ _ _ (DRel.view [] ⟨N,0,none⟩ (fun _=>undef) ⟨rfl,fun i hi=>absurd hi (Nat.not_lt_zero i)⟩ fun i hi=>absurd hi (Nat.not_lt_zero i))) .nil)⟩,h5.1,h6⟩
 ·cases hE
end Go.Ab

namespace Go.Ab
variable {lou:Lou}
def on {α β:Sort _}(v:α) (k:α->β):β:=k v
namespace Q
universe u
variable {R O O2 Z:Type}{α:Type}
theorem condT {c:Bool}{a b r:α}(h:c=true) (h2:a=r):cond c a b=r:=by rw [h]; exact h2
theorem condF {c:Bool}{a b r:α}(h:c=false) (h2:b=r):cond c a b=r:=by rw [h]; exact h2
theorem condP {c:Bool}{a b:Option R}{x y:O}{K:O->Option R}(h1:a=K x) (h2:b=K y):cond c a b=K (cond c x y):=by cases c<;>assumption
theorem condO {c:Bool}{a b:Option R}{x y:Option O}{K:O->Option R}(h1:a=Option.bind x K) (h2:b=Option.bind y K):cond c a b=Option.bind (cond c x y) K:=by cases c<;>assumption
theorem bindP {o:Option α}{v:α}{k:α->Option R}{K:O->Option R}{b:α->O}(h:o=some v) (h2:∀x,x=v->k x=K (b x)):o.bind k=K (on v b):=by rw [h]; exact h2 v rfl
theorem bindPO {o:Option α}{v:α}{k:α->Option R}{K:O->Option R}{b:α->Option O}(h:o=some v) (h2:∀x,x=v->k x=Option.bind (b x) K):o.bind k=Option.bind (on v b) K:=by rw [h]; exact h2 v rfl
theorem bindO {o o':Option α}{k:α->Option R}{K:O->Option R}{b:α->Option O}(h:o=o') (h2:∀x,k x=Option.bind (b x) K):o.bind k=Option.bind (o'.bind b) K:=by
 rw [h]; cases o' with
 | none=>rfl
 | some v=>exact h2 v
theorem guardP {c:Bool}{o:Option α}{v d:α}{k:α->Option R}{K:O->Option R}{b:α->O}(h:o=some v) (h2:∀x,x=cond c v d->k x=K (b x)):guardO c o d k=K (on (cond c v d) b):=by
 rw [h]; cases c<;>exact h2 _ rfl
theorem guardPO {c:Bool}{o:Option α}{v d:α}{k:α->Option R}{K:O->Option R}{b:α->Option O}(h:o=some v) (h2:∀x,x=cond c v d->k x=Option.bind (b x) K):guardO c o d k=Option.bind (on (cond c v d) b) K:=by
 rw [h]; cases c<;>exact h2 _ rfl
theorem guardT {c:Bool}{o:Option α}{v d:α}{k:α->Option R}{K:O->Option R}{b:α->O}(h:c=true->o=some v) (h2:∀x,x=cond c v d->k x=K (b x)):guardO c o d k=K (on (cond c v d) b):=by
 cases c with
 | true=>rw [h rfl]; exact h2 _ rfl
 | false=>exact h2 _ rfl
theorem guardTO {c:Bool}{o:Option α}{v d:α}{k:α->Option R}{K:O->Option R}{b:α->Option O}(h:c=true->o=some v) (h2:∀x,x=cond c v d->k x=Option.bind (b x) K):guardO c o d k=Option.bind (on (cond c v d) b) K:=by
 cases c with
 | true=>rw [h rfl]; exact h2 _ rfl
 | false=>exact h2 _ rfl
theorem guardOO {c:Bool}{o o':Option α}{d:α}{k:α->Option R}{K:O->Option R}{b:α->Option O}(h:o=o') (h2:∀x,k x=Option.bind (b x) K):guardO c o d k=Option.bind (guardO c o' d b) K:=by
 rw [h]; cases c with
 | false=>exact h2 d
 | true =>
  cases o' with
  | none=>rfl
  | some v=>exact h2 v
variable {lhs:Option R}
theorem wrapPO {q:Z}{b:Z->Option O}{K:O->Option R}(h:∀Kb:Z->Option R,(∀o,Kb o=Option.bind (b o) K)->lhs=Kb q):lhs=Option.bind (on q b) K:=h (fun o=>Option.bind (b o) K) fun _=>rfl
theorem wrapOO {q:Option Z}{b:Z->Option O}{K:O->Option R}(h:∀Kb:Z->Option R,(∀o,Kb o=Option.bind (b o) K)->lhs=Option.bind q Kb):lhs=Option.bind (Option.bind q b) K:=by
 rw [h (fun o=>Option.bind (b o) K) fun _=>rfl]; cases q<;>rfl
theorem mixO {φ:Sort _}{F:φ}{t:φ->Option O}{K:O->Option R}(h:∀k,k=F->lhs=Option.bind (t k) K):lhs=Option.bind (on F t) K:=h F rfl
theorem some_bind {α:Type}(o:Option α):Option.bind o some=o:=by cases o<;>rfl
theorem drop_of {l:List α}{i:Nat}{x:α}(h:l[i]?=some x):l.drop i=x::l.drop (i+1):=by
 obtain⟨hi,rfl⟩:=List.getElem?_eq_some_iff.1 h;exact List.drop_eq_getElem_cons hi
theorem ltT {i n:Nat}(h:i<n):decide ((i:Int)<(n:Int))=true:=by simpa using h
theorem ltF {i n:Nat}(h:¬i<n):decide ((i:Int)<(n:Int))=false:=by simpa using h
end Q
end Go.Ab
namespace Go.Ab
variable {lou:Lou}
theorem Q.getD_some {α:Type}{l:List α}{i:Nat}{d:α}(h:i<l.length):l[i]?=some (l[i]?.getD d):=by simp [h]
theorem Q.cutC_take {s:Bs}{n:Nat}(h:n<=s.length):cutC s none (some ((n:Nat):Int))=some (List.take n s):=by
 unfold cutC; rw [if_pos (by simp; omega)]; simp
end Go.Ab
namespace Go.Ab
variable {lou:Lou}
end Go.Ab
namespace Go.Ab
variable {lou:Lou}
end Go.Ab

namespace Go.Ab
variable {lou:Lou}
def Ok {α:Type}(o:Option α):Prop:=∃r,o=some r
namespace Tot
variable {α β:Type}
theorem some (a:α):Ok (Option.some a):=⟨a,rfl⟩
theorem bind {o:Option α}{k:α->Option β}(h:Ok o) (h2:∀v,o=Option.some v->Ok (k v)):Ok (o.bind k):=by
 obtain⟨v,hv⟩:=h; rw [hv]; exact h2 v hv
theorem cond {c:Bool}{a b:Option α}(h:c=true->Ok a) (h2:c=false->Ok b):Ok (_root_.cond c a b):=by
 cases c with
 | false=>exact h2 rfl
 | true=>exact h rfl
theorem on {v:α}{k:α->Option β}(h:∀x,x=v->Ok (k x)):Ok (Go.Ab.on v k):=h v rfl
end Tot
theorem addC_ok {a b:Int}(h : -9223372036854775808<=a+b/\a+b<=9223372036854775807):addC a b=some (a+b):=by unfold addC; rw [if_pos h]
theorem subC_ok {a b:Int}(h : -9223372036854775808<=a-b/\a-b<=9223372036854775807):subC a b=some (a-b):=by unfold subC; rw [if_pos h]
theorem appC_ok {α:Type}{z:Nat}{s r:Sl α}(hz:z<=64) (h:s.l.length+r.l.length<=1099511627776):appC z s r=some ⟨s.nl&&r.l.isEmpty,s.l++r.l⟩:=by
 unfold appC; rw [if_pos];have:(s.l.length+r.l.length)*z<=(s.l.length+r.l.length)*64:=Nat.mul_le_mul_left _ hz;unfold maxN; omega
theorem catC_ok {a b:Bs}(h:a.length+b.length<=1152921504606846976):catC a b=some (a++b):=by
 unfold catC; rw [if_pos (by unfold maxS; omega)]
theorem partC_tail {α:Type}{s:Sl α}(h:1<=s.l.length):partC s (some (1:Int)) none=some ⟨s.nl,s.l.drop 1⟩:=by
 unfold partC; rw [if_pos (by simp; omega)]; simp
theorem F0_eq:F0=4611686018427387904:=rfl
end Go.Ab
namespace Go.Ab
variable {lou:Lou}
def SOk {α:Type}(s:Sl α):Prop:=(s.nl=true->s.l=[])/\s.l.length<=1048576
end Go.Ab

/-
 Inputs: what a call is handed,read as plain data; what it leaves.
-/
namespace Go.Ab
open Go Go.RowKit Go.ChangeShapes Go.WideShapes Go.ChangeAt
variable {lou:Lou}

def j0 (w:World):J:=⟨fun _=>0,fun b=>match w.heap[b]? with|some (.cells cs _ _)=>cs.size|_=>0,fun _=>none,0⟩
def h0:Heap:=fun _=>none
structure Bulk {H:Type}(B:DataW H->Nat):Prop where
 one:∀d,1<=B d
 str:∀b,b.length+1<=B (.lit (.string b))
 slice:∀e s,(e.map B).sum+1<=B (.slice e s)
 agg:∀l,(l.map B).sum<=B (.agg l)

structure RdN {H:Type}(P:Program) (B:DataW H->Nat) (N:Nat) (t:TypeId){α:Type}(R:α->List D) (sz:α->Nat) (wf:α->Prop):Prop where
 rd:∀{enc:TypeId×Value->H}{w:World}{base:Nat}{sp:Nat->Bool}{held:Bool}{fuel:Nat}{cs:List Value}{x:DataW H×List MemPlace},
  fuel<=N->DataW.trod enc P w base sp held fuel t cs=some x->B x.1<=1048576->∃a,All2 (DRel (j0 w) w) (R a) cs/\sz a<=B x.1/\wf a

theorem RdN.zero {H:Type}{P:Program}{B:DataW H->Nat}{t:TypeId}{α:Type}{R:α->List D}{sz:α->Nat}{wf:α->Prop}:RdN P B 0 t R sz wf :=
 ⟨fun hf h _=>by rw [Nat.le_zero.1 hf] at h; simp [DataW.trod] at h⟩
theorem cellsOf_of {P:Program}{t:TypeId}{ti:TI}(hT:mkTI P t=some ti):P.cellsOf t=ti.size:=by
 obtain⟨i,d,h1,_,h2,_⟩:=mkTI_spec hT;unfold Program.cellsOf; rw [h1]; exact h2
theorem under_of {P:Program}{t:TypeId}{ti:TI}(hT:mkTI P t=some ti):∃d,P.underlying t=some d/\kOf d=ti.k:=by
 obtain⟨i,d,_,h1,_,_,h2,_⟩:=mkTI_spec hT;exact⟨d,h1,h2⟩
theorem strU_of {P:Program}{t:TypeId}{ti:TI}(hT:mkTI P t=some ti) (hk:ti.k=.str):P.underlying t=some .string:=by
 obtain⟨d,h1,h2⟩:=under_of hT;rw [hk] at h2; cases d<;>simp [kOf] at h2; exact h1
theorem int_of {P:Program}{t:TypeId}{ti:TI}{k:IntKind}(hT:mkTI P t=some ti) (hk:ti.k=.int k):P.underlying t=some (.int k):=by
 obtain⟨d,h1,h2⟩:=under_of hT;rw [hk] at h2; cases d<;>simp [kOf] at h2; subst h2; exact h1
theorem structU_of {P:Program}{t:TypeId}{ti:TI}{ps:List (Nat×TypeId)}(hT:mkTI P t=some ti) (hk:ti.k=.struct ps):∃fs:Array Go.Field,P.underlying t=some (.struct fs)/\fs.toList.map (fun f=>(f.offset,f.type))=ps:=by
 obtain⟨d,h1,h2⟩:=under_of hT;rw [hk] at h2; cases d<;>simp [kOf] at h2; exact⟨_,h1,by simpa using h2⟩

def Str.sz (s:Str):Nat:=s.1.length+1
def i64 (n:Int):Prop := -9223372036854775808<=n/\n<=9223372036854775807

section
variable {H:Type}{P:Program}{B:DataW H->Nat}(hB:Bulk B){N:Nat}
include hB
theorem RdN.str {t:TypeId}{ti:TI}(hT:mkTI P t=some ti) (hk:ti.k=.str):RdN P B N t strC Str.sz fun _=>True:=by
 refine⟨fun {enc w base sp held fuel cs x} _ h hb=>?_⟩;obtain⟨s,rfl,rfl,hs⟩:=DataW.trod_string (strU_of hT hk) h;have h1:=hB.str s.data.toList;have h2:s.data.toList.length<=1048576:=by dsimp only at hb; omega
 refine⟨⟨s.data.toList,by simp only [maxN]; omega⟩,.cons ?_ .nil,h1,trivial⟩;have:=DRel.str (j:=j0 w) (w:=w) s.data.toList (by simp only [maxS]; omega)
 simpa using this
theorem RdN.int {t:TypeId}{ti:TI}(hT:mkTI P t=some ti) (hk:ti.k=.int .i64):RdN P B N t intC (fun _=>1) i64:=by
 refine⟨fun _ h _=>?_⟩;obtain⟨n,rfl,rfl,hw⟩:=DataW.trod_int (int_of hT hk) h;refine⟨n,.cons (.int _ _) .nil,hB.one _, ?_⟩
 simpa [Lit.wf,IntKind.min,IntKind.max,IntKind.signed,IntKind.bits,i64] using hw

structure RdP {H:Type}(P:Program) (B:DataW H->Nat) (N n o:Nat) (ps:List (Nat×TypeId)){α:Type}(R:α->List D) (sz:α->Nat) (wf:α->Prop):Prop where
 rd:∀{enc:TypeId×Value->H}{w:World}{base:Nat}{sp:Nat->Bool}{held:Bool}{fuel:Nat}{cs:List Value}{xs:List (DataW H×List MemPlace)},fuel<=N->cs.length=n->xs.length=ps.length ->
  (∀(i:Nat) p,ps[i]?=some p->DataW.trod enc P w base sp held fuel p.2 ((cs.drop p.1).take (P.cellsOf p.2))=xs[i]?)->(xs.map (fun x=>B x.1)).sum<=1048576 ->
  ∃a,All2 (DRel (j0 w) w) (R a) (cs.drop o)/\sz a<=(xs.map (fun x=>B x.1)).sum/\wf a
omit hB in
theorem RdP.nil {n:Nat}:RdP P B N n n [] (fun _:Unit=>[]) (fun _=>0) fun _=>True:=by
 refine⟨fun _ h1 h2 _ _=>⟨(), ?_,Nat.zero_le _,trivial⟩⟩;rw [List.drop_of_length_le (by omega)]; exact .nil
omit hB in
theorem RdP.cons {α β:Type}{n o o':Nat}{ty:TypeId}{ti:TI}{ps:List (Nat×TypeId)}{R:α->List D}{sz:α->Nat}{wf:α->Prop}{R':β->List D}{sz':β->Nat}{wf':β->Prop}(hT:mkTI P ty=some ti) (ho:o+ti.size=o') (h:RdN P B N ty R sz wf)
  (ht:RdP P B N n o' ps R' sz' wf'):RdP P B N n o ((o,ty)::ps) (fun p:α×β=>R p.1++R' p.2) (fun p=>sz p.1+sz' p.2) fun p=>wf p.1/\wf' p.2:=by
 refine⟨fun {enc w base sp held fuel cs xs} hfu h1 h2 h3 h4=>?_⟩
 match xs,h2 with
 | x::xs,h2 =>
  simp only [List.map_cons,List.sum_cons] at h4 ⊢;have h5:=h3 0 (o,ty) rfl;simp only [List.getElem?_cons_zero] at h5;obtain⟨a,ha1,ha2,ha3⟩:=h.rd hfu h5 (by omega);obtain⟨b,hb1,hb2,hb3⟩:=ht.rd (xs:=xs) hfu h1 (by simpa using h2) (fun i g hg=>by simpa using h3 (i+1) g (by simpa using hg)) (by omega);refine⟨(a,b), ?_,by dsimp only; omega,ha3,hb3⟩;have e:cs.drop o=(cs.drop o).take (P.cellsOf ty)++cs.drop o':=by
   rw [<- ho,<- cellsOf_of hT,<- List.drop_drop]; exact(List.take_append_drop _ _).symm
  rw [e];exact ha1.append hb1
theorem RdN.struct {α β:Type}{t:TypeId}{ti:TI}{ps:List (Nat×TypeId)}{R:α->List D}{sz:α->Nat}{wf:α->Prop}(hT:mkTI P t=some ti) (hk:ti.k=.struct ps) (h:RdP P B N ti.size 0 ps R sz wf) (g:α->β){R':β->List D}{sz':β->Nat}{wf':β->Prop}
  (hR:∀a,R' (g a)=R a) (hs:∀a,sz' (g a)<=sz a) (hw:∀a,wf a->wf' (g a)):RdN P B (N+1) t R' sz' wf':=by
 refine⟨fun {enc w base sp held fuel cs x} hfu hx hb=>?_⟩;obtain⟨fs,ht,hps⟩:=structU_of hT hk;obtain⟨xs,n,hfn,rfl,h1,h2,h3⟩:=DataW.trod_struct ht hx;have hb2:=hB.agg (xs.map (·.1));rw [List.map_map] at hb2;obtain⟨a,ha1,ha2,ha3⟩:=h.rd (xs:=xs) (enc:=enc) (w:=w) (base:=base) (sp:=sp) (held:=held) (fuel:=n) (cs:=cs) (by omega) (h1.trans (cellsOf_of hT)) (by rw [<- hps]; simpa using h2) (fun i p hp=>by
  rw [<- hps,List.getElem?_map] at hp;cases hf:fs.toList[i]? with
  | none=>rw [hf] at hp; cases hp
  | some f =>
   rw [hf] at hp; simp at hp; subst hp;exact h3 i f (by simpa using hf)) (by dsimp only at hb; exact Nat.le_trans hb2 hb)
 exact⟨g a,by rw [hR]; simpa using ha1,Nat.le_trans (hs a) (Nat.le_trans ha2 hb2),hw _ ha3⟩
end

section
variable {H:Type}{enc:TypeId×Value->H}{P:Program}{B:DataW H->Nat}{W:World}
theorem arg_struct {α:Type}{R:α->List D}{sz:α->Nat}{wf:α->Prop}{r:Reach}{b0:Nat}{t:TypeId}{ti:TI}{fs:List (Nat×TypeId)}{v:Value}{d:DataW H}{ps:List MemPlace}(hT:mkTI P t=some ti) (hk:ti.k=.struct fs) (hr:∀N,RdN P B N t R sz wf) (hval:Value.okWide P W r b0 t v)
  (hd:DataW.Trod enc P W 0 (fun _=>true) true t v d ps) (hb:B d<=1048576):∃a:α,ARel (j0 W) W (.agg (R a)) v/\sz a<=B d/\wf a:=by
 obtain⟨_,ht,_⟩:=structU_of hT hk;obtain⟨cs,rfl,_⟩:=okWide_struct ht hval;obtain⟨fuel,hf⟩:=hd;obtain⟨a,h1,h2,h3⟩:=(hr fuel).rd (Nat.le_refl _) hf hb;exact⟨a,⟨cs.toList,by simp,h1⟩,h2,h3⟩
end

theorem Below.trodAll {H:Type}{enc:TypeId×Value->H}{P:Program}(hl:laidOutB P=true){W W':World}(hb:Below W.heap.size W W') :
  ∀{ts:List TypeId}{vs:List Value}{ds:List (DataW H)}{ps:List MemPlace},(∀t∈ts,P.readableRec t=true/\t<P.types.size)->DataW.TrodAll enc P W 0 (fun _=>true) true ts vs ds ps->(∀x∈ps,x.block<W.heap.size) ->
  ∀sp':Nat->Bool,(∀x∈ps,sp' x.block=true)->DataW.TrodAll enc P W' 0 sp' true ts vs ds ps
 | [],_,_,_,_,h,_,_,_=>by obtain⟨rfl,rfl,rfl⟩:=trodAll_nil h; exact rfl
 | _::_,_,_,_,ht,h,hlt,sp',hs=>by
  obtain⟨v,vs1,d,ds1,a,b,rfl,rfl,rfl,h1,h2⟩:=trodAll_cons h;exact⟨a,b,WideElems.Trod_stays hl (ht _ (by simp)).1 (ht _ (by simp)).2 h1 (fun x hx=>hb.same (hlt x (by simp [hx]))) (fun x hx=>hs x (by simp [hx])),
   Below.trodAll hl hb (fun t h=>ht t (by simp [h])) h2 (fun x hx=>hlt x (by simp [hx])) sp' (fun x hx=>hs x (by simp [hx])),rfl⟩

theorem post_true {H:Type}{enc:TypeId×Value->H}{P:Program}{f:Func}{s:ChangeSpec}{fresh handsOn again:Bool}{W W':World}{args:Array Value}{ds:List (DataW H)}{before:List MemPlace}{tb:TypeId}
  (hv:s.vars=[]) (hW:DataW.Whole enc P f.params.toList s.vars false W args.toList ds [] before) (hb:Below W.heap.size W W') (hl:laidOutB P=true) (hp:∀t∈f.params.toList,P.readableRec t=true/\t<P.types.size)
  (hr:f.resultTypes=#[tb]) (htb:P.underlying tb=some .bool) (hs:s.fn H ds={ results:=[.lit (.bool true)],args:=ds }):s.post enc P f false fresh handsOn again W args (.bool true) W':=by
 have hW0:=hW;have hlt:∀x∈before,x.block<W.heap.size:=fun x hx=>by simpa using hW0.lt x hx
 obtain⟨p,q,hA,hV,rfl,hz,hn⟩:=hW;rw [hv] at hV;obtain⟨_,rfl⟩:=trodVars_none hV;simp only [List.append_nil] at hlt hz;have hargs:∀sp:Nat->Bool,(∀x∈p,sp x.block=true)->DataW.TrodAll enc P W' 0 sp true f.params.toList args.toList ds p:=fun sp hsp=>Below.trodAll hl hb hp hA hlt sp hsp;have hres:∀(b:Nat) (sp:Nat->Bool) (hd:Bool),DataW.TrodAll enc P W' b sp hd f.resultTypes.toList ((Value.bool true).resultList f.resultTypes.size) [.lit (.bool true)] []:=by
  intro b sp hd;rw [hr];exact trodAll_cons_mk (shut_bool htb _) trodAll_mk0
 refine⟨ds,[],p++[],[],p,[],hW0, ?_, ?_, ?_,World.keptBut_mono (fun x hx=>⟨hx, ?_⟩) (hb.frame (·∈p++[])),fun _=>⟨?_,[.lit (.bool true)]++ds,[],p,⟨p,[], ?_, ?_,by simp, ?_,fun h=>by cases h⟩,fun x hx _=>by simpa using hx⟩⟩
 ·rw [List.append_nil,hs]; exact hres _ _ _
 ·rw [List.append_nil,hs]; exact hargs _ fun x hx=>by simpa using hlt x hx
 ·rw [hv,List.append_nil,hs]; exact rfl
 ·exact .inr (.inl (by simpa using hx))
 ·exact ok_one hr rfl (okWide_bool_mk htb _)
 ·exact trodAll_append (hargs _ fun _ _=>rfl) (hres _ _ _)
 ·rw [hv]; exact rfl
 ·intro b off hx;have hblk:=hlt _ hx;rw [World.frozen?_of_block (w:=W) (hb.block _ hblk)];exact hz b off hx
end Go.Ab

/-
 The readings of package api's types,at whatever depth.
-/
namespace Go.Ab
open Go Go.RowKit
section
variable {H:Type}{P:Program}{B:DataW H->Nat}(hB:Bulk B)
include hB
theorem RdA.struct {α β:Type}{t:TypeId}{ti:TI}{ps:List (Nat×TypeId)}{R:α->List D}{sz:α->Nat}{wf:α->Prop}(hT:mkTI P t=some ti) (hk:ti.k=.struct ps) (h:∀N,RdP P B N ti.size 0 ps R sz wf) (g:α->β){R':β->List D}{sz':β->Nat}{wf':β->Prop}
  (hR:∀a,R' (g a)=R a) (hs:∀a,sz' (g a)<=sz a) (hw:∀a,wf a->wf' (g a)):∀N,RdN P B N t R' sz' wf'
 | 0=>.zero
 | N+1=>RdN.struct hB hT hk (h N) g hR hs hw
end
end Go.Ab

/-
 The readings of the models' types.
-/
namespace Go.Ab
open Go Go.RowKit
variable {lou:Lou}
def Bs.sz (s:Bs):Nat:=s.length+1
section
variable {H:Type}{P:Program}{B:DataW H->Nat}
theorem RdN.imap {α β:Type}{N:Nat}{t:TypeId}{R:α->List D}{sz:α->Nat}{wf:α->Prop}(h:RdN P B N t R sz wf) (g:α->β){R':β->List D}{sz':β->Nat}{wf':β->Prop}
  (hR:∀a,R' (g a)=R a) (hs:∀a,sz' (g a)<=sz a) (hw:∀a,wf a->wf' (g a)):RdN P B N t R' sz' wf' :=
 ⟨fun hf ht hb=>by
  obtain⟨a,h1,h2,h3⟩:=h.rd hf ht hb;exact⟨g a,by rw [hR]; exact h1,Nat.le_trans (hs a) h2,hw a h3⟩⟩
variable (hB:Bulk B)
include hB
theorem RdS.str {t:TypeId}{ti:TI}(hT:mkTI P t=some ti) (hk:ti.k=.str) (N:Nat):RdN P B N t strE Bs.sz fun _=>True :=
 (RdN.str hB hT hk).imap (fun s:Str=>s.1) (fun _=>rfl) (fun _=>Nat.le_refl _) fun _ _=>trivial
theorem RdS.int {t:TypeId}{ti:TI}(hT:mkTI P t=some ti) (hk:ti.k=.int .i64) (N:Nat):RdN P B N t (intE .i64) (fun _=>1) i64 :=
 (RdN.int hB hT hk).imap id (fun _=>rfl) (fun _=>Nat.le_refl _) fun _ h=>h
end
end Go.Ab
namespace Go.Ab
variable {lou:Lou}
end Go.Ab

/-
 Short forms of the rules,for the packed texts.
-/
namespace Go.Ab
open Go Go.RowKit
variable {lou:Lou}
class Tabs (P:Program) where
 T:List TI
 ok:TabOk P T
theorem TKc {P:Program} [Tabs P] {i:TypeId}{ti:TI}(h:(Tabs.T P)[i]?=some ti):mkTI P i=some ti:=Tabs.ok i ti h
section
variable {P:Program}{Q:Exit->St->Prop}{σ:St}
theorem AWp.cE {c:Operand}{u v:Code}{b:Bool}{α:Type}{A B:Option α}{r:α}(hE:(bif b then A else B)=some r) (ht:b=true->A=some r->AWp P u Q σ) (hf:b=false->B=some r->AWp P v Q σ) (hc:ev σ.ts c=.a (.d (.bool b)):=by exact rfl):AWp P (.cond c u v) Q σ:=AWp.condE hE hc ht hf
end
theorem AC.oW {P:Program} [Tabs P] (n:Nat) (rs:List ResultVar){f:FuncId}{fn:Func}{c:Code}{args:List A}{h:Heap}{Post:V->Heap->Prop}(hcall:∀(cargs:Array Value) (w:World),(callFunc f cargs).run P w=.ok (.enter f cargs) w) (hf:P.funcs[f]?=some fn)
  (hw:AWp P c (retQ (Tabs.T P) rs Post) ⟨n,argTs 0 args,[],h⟩) (hb:fn.body=some c:=by exact rfl) (hn:fn.ntmps=n:=by exact rfl) (hrs:fn.results.toList=rs:=by exact rfl) (hl:Nat.ble args.length n=true:=by exact rfl):AC P f args h Post :=
 AC.of_wp Tabs.ok hcall hf hb hn hrs hl hw
variable {amb:Amb}
section
variable {P:Program}{ops:Array Oper}{rest:List Oper}{Q:St->Prop}{n:Nat}{ts:Ts}{ls ls':List (List D)}{h h':Heap}{fx:Fx}{v:V}{d dg gi:Nat}{op:Op}{ty:TypeId}{pos:String}{aft:Array Edge}{want b C:Bool}{done:List Fx}
-- RULES
variable {o:Oper}{c c':Bool}{x x':A}{f:Operand}{args:Array Operand}{ats:Array TypeId}{fid:FuncId}{caps:List D}{xs:List A}
theorem gI {C c:Bool}(h:C=true->c=true:=by intro hC; first|assumption|exact andL (by assumption)|exact andL (andL (by assumption))|exact andL (andL (andL (by assumption)))|exact andR (by assumption)|simp_all):C=true->c=true:=h
theorem S (hs:Cert P ⟨some d,op,ty,pos,aft,none⟩ ts ls h fx v ls h) (hr:AOps P ops rest Q ⟨n,(d,v)::ts,ls,h⟩) (hd:Nat.blt d n=true:=by exact rfl):AOps P ops (⟨some d,op,ty,pos,aft,none⟩::rest) Q ⟨n,ts,ls,h⟩:=AOps.s0 hs hd hr
theorem Sd (hs:Cert P ⟨some d,op,ty,pos,aft,none⟩ ts ls h fx v ls h) (hr:DOps P ops n rest (fx.plain::done) Q ⟨n,(d,v)::ts,ls,h⟩) (hd:Nat.blt d n=true:=by exact rfl):DOps P ops n (⟨some d,op,ty,pos,aft,none⟩::rest) done Q ⟨n,ts,ls,h⟩:=DOps.s0 hs hd hr
theorem G0 (hs:Cert P ⟨some d,op,ty,pos,aft,some (gi,want)⟩ ts ls h fx v ls h) (hr:AOps P ops rest Q ⟨n,(d,v.under C)::ts,ls,h⟩) (hg:(ops[gi]?).bind (·.dst)=some dg:=by exact rfl) (hc:gc (get ts dg) want=some C:=by exact rfl) (hd:Nat.blt d n=true:=by exact rfl):AOps P ops (⟨some d,op,ty,pos,aft,some (gi,want)⟩::rest) Q ⟨n,ts,ls,h⟩:=AOps.gC hg hc (fun _=>hs) hd hr
theorem G1 (k:Nat) (hk:Ab.get ts k=.gd c x) (hs:Cert P ⟨some d,op,ty,pos,aft,some (gi,want)⟩ ((k,.a x)::ts) ls h fx v ls h) (hr:AOps P ops rest Q ⟨n,(d,v.under C)::ts,ls,h⟩) (hg:(ops[gi]?).bind (·.dst)=some dg:=by exact rfl) (hc:gc (get ts dg) want=some C:=by exact rfl) (hd:Nat.blt d n=true:=by exact rfl) (hi:C=true->c=true:=by exact gI):AOps P ops (⟨some d,op,ty,pos,aft,some (gi,want)⟩::rest) Q ⟨n,ts,ls,h⟩:=AOps.gC hg hc (fun hC=>Cert.ungd hk (hi hC) hs) hd hr
theorem G2 (k k':Nat) (hk:Ab.get ts k=.gd c x) (hk':Ab.get ((k,.a x)::ts) k'=.gd c' x') (hs:Cert P ⟨some d,op,ty,pos,aft,some (gi,want)⟩ ((k',.a x')::(k,.a x)::ts) ls h fx v ls h) (hr:AOps P ops rest Q ⟨n,(d,v.under C)::ts,ls,h⟩) (hg:(ops[gi]?).bind (·.dst)=some dg:=by exact rfl) (hc:gc (get ts dg) want=some C:=by exact rfl) (hd:Nat.blt d n=true:=by exact rfl) (hi:C=true->c=true:=by exact gI) (hi':C=true->c'=true:=by exact gI):AOps P ops (⟨some d,op,ty,pos,aft,some (gi,want)⟩::rest) Q ⟨n,ts,ls,h⟩:=AOps.gC hg hc (fun hC=>Cert.ungd hk (hi hC) (Cert.ungd hk' (hi' hC) hs)) hd hr
theorem Gc1 (k:Nat) (hg:(ops[gi]?).bind (·.dst)=some dg) (hc:gc (get ts dg) want=some C) (hk:Ab.get ts k=.gd c x) (hf:ev ((k,.a x)::ts) f=.a (.d (.func fid caps))) (ha:evAs ((k,.a x)::ts) args.toList=some xs) (hc2:C=true->∀H:Heap,AC P fid (xs++caps.map A.d) H fun r h'=>r=v/\h'=H) (hr:AOps P ops rest Q ⟨n,(d,v.under C)::ts,ls,h⟩) (hi:C=true->c=true:=by exact gI) (hd:Nat.blt d n=true:=by exact rfl):AOps P ops (⟨some d,.call { callee:=.value f,args:=args,argTypes:=ats },ty,pos,aft,some (gi,want)⟩::rest) Q ⟨n,ts,ls,h⟩:=AOps.gC hg hc (fun hC=>Cert.ungd hk (hi hC) (Cert.callP hf ha (hc2 hC))) hd hr
theorem Gc2 (k k':Nat) (hg:(ops[gi]?).bind (·.dst)=some dg) (hc:gc (get ts dg) want=some C) (hk:Ab.get ts k=.gd c x) (hk':Ab.get ((k,.a x)::ts) k'=.gd c' x') (hf:ev ((k',.a x')::(k,.a x)::ts) f=.a (.d (.func fid caps))) (ha:evAs ((k',.a x')::(k,.a x)::ts) args.toList=some xs) (hc2:C=true->∀H:Heap,AC P fid (xs++caps.map A.d) H fun r h'=>r=v/\h'=H) (hr:AOps P ops rest Q ⟨n,(d,v.under C)::ts,ls,h⟩) (hi:C=true->c=true:=by exact gI) (hi':C=true->c'=true:=by exact gI) (hd:Nat.blt d n=true:=by exact rfl):AOps P ops (⟨some d,.call { callee:=.value f,args:=args,argTypes:=ats },ty,pos,aft,some (gi,want)⟩::rest) Q ⟨n,ts,ls,h⟩:=AOps.gC hg hc (fun hC=>Cert.ungd hk (hi hC) (Cert.ungd hk' (hi' hC) (Cert.callP hf ha (hc2 hC)))) hd hr
theorem G0d (hs:Cert P ⟨some d,op,ty,pos,aft,some (gi,want)⟩ ts ls h fx v ls h) (hr:DOps P ops n rest (fx.plain::done) Q ⟨n,(d,v.under C)::ts,ls,h⟩) (hg:(ops[gi]?).bind (·.dst)=some dg:=by exact rfl) (hc:gc (get ts dg) want=some C:=by exact rfl) (hd:Nat.blt d n=true:=by exact rfl):DOps P ops n (⟨some d,op,ty,pos,aft,some (gi,want)⟩::rest) done Q ⟨n,ts,ls,h⟩:=DOps.gC hg hc (fun _=>hs) hd hr
theorem G1d (k:Nat) (hk:Ab.get ts k=.gd c x) (hs:Cert P ⟨some d,op,ty,pos,aft,some (gi,want)⟩ ((k,.a x)::ts) ls h fx v ls h) (hr:DOps P ops n rest (fx.plain::done) Q ⟨n,(d,v.under C)::ts,ls,h⟩) (hg:(ops[gi]?).bind (·.dst)=some dg:=by exact rfl) (hc:gc (get ts dg) want=some C:=by exact rfl) (hd:Nat.blt d n=true:=by exact rfl) (hi:C=true->c=true:=by exact gI):DOps P ops n (⟨some d,op,ty,pos,aft,some (gi,want)⟩::rest) done Q ⟨n,ts,ls,h⟩:=DOps.gC hg hc (fun hC=>Cert.ungd hk (hi hC) hs) hd hr
theorem Gc1d (k:Nat) (hg:(ops[gi]?).bind (·.dst)=some dg) (hc:gc (get ts dg) want=some C) (hk:Ab.get ts k=.gd c x) (hf:ev ((k,.a x)::ts) f=.a (.d (.func fid caps))) (ha:evAs ((k,.a x)::ts) args.toList=some xs) (hc2:C=true->∀H:Heap,AC P fid (xs++caps.map A.d) H fun r h'=>r=v/\h'=H) (hr:DOps P ops n rest (Fx.plain {}::done) Q ⟨n,(d,v.under C)::ts,ls,h⟩) (hi:C=true->c=true:=by exact gI) (hd:Nat.blt d n=true:=by exact rfl):DOps P ops n (⟨some d,.call { callee:=.value f,args:=args,argTypes:=ats },ty,pos,aft,some (gi,want)⟩::rest) done Q ⟨n,ts,ls,h⟩:=DOps.gC hg hc (fun hC=>Cert.ungd hk (hi hC) (Cert.callP hf ha (hc2 hC))) hd hr
theorem Gc2d (k k':Nat) (hg:(ops[gi]?).bind (·.dst)=some dg) (hc:gc (get ts dg) want=some C) (hk:Ab.get ts k=.gd c x) (hk':Ab.get ((k,.a x)::ts) k'=.gd c' x') (hf:ev ((k',.a x')::(k,.a x)::ts) f=.a (.d (.func fid caps))) (ha:evAs ((k',.a x')::(k,.a x)::ts) args.toList=some xs) (hc2:C=true->∀H:Heap,AC P fid (xs++caps.map A.d) H fun r h'=>r=v/\h'=H) (hr:DOps P ops n rest (Fx.plain {}::done) Q ⟨n,(d,v.under C)::ts,ls,h⟩) (hi:C=true->c=true:=by exact gI) (hi':C=true->c'=true:=by exact gI) (hd:Nat.blt d n=true:=by exact rfl):DOps P ops n (⟨some d,.call { callee:=.value f,args:=args,argTypes:=ats },ty,pos,aft,some (gi,want)⟩::rest) done Q ⟨n,ts,ls,h⟩:=DOps.gC hg hc (fun hC=>Cert.ungd hk (hi hC) (Cert.ungd hk' (hi' hC) (Cert.callP hf ha (hc2 hC)))) hd hr
theorem Mv [Tabs P] (e:Cert P o ts ls h fx v ls' h':=by exact Cert.moveA):Cert P o ts ls h fx v ls' h':=e
theorem As [Tabs P] (e:Cert P o ts ls h fx v ls' h':=by exact Cert.assignA):Cert P o ts ls h fx v ls' h':=e
theorem Ld [Tabs P] (e:Cert P o ts ls h fx v ls' h':=by exact Cert.loadV (TKc rfl) rfl rfl rfl):Cert P o ts ls h fx v ls' h':=e
theorem Fv [Tabs P] (e:Cert P o ts ls h fx v ls' h':=by exact Cert.fieldVA (TKc rfl) rfl rfl (TKc rfl) rfl rfl):Cert P o ts ls h fx v ls' h':=e
theorem BI [Tabs P] (e:Cert P o ts ls h fx v ls' h':=by exact Cert.binI rfl rfl rfl):Cert P o ts ls h fx v ls' h':=e
theorem BS [Tabs P] (e:Cert P o ts ls h fx v ls' h':=by exact Cert.binS rfl rfl rfl):Cert P o ts ls h fx v ls' h':=e
theorem PA [Tabs P] (e:Cert P o ts ls h fx v ls' h':=by exact Cert.pickAndA rfl rfl rfl):Cert P o ts ls h fx v ls' h':=e
theorem PO [Tabs P] (e:Cert P o ts ls h fx v ls' h':=by exact Cert.pickOrA rfl rfl rfl):Cert P o ts ls h fx v ls' h':=e
theorem NB [Tabs P] (e:Cert P o ts ls h fx v ls' h':=by exact Cert.notB rfl):Cert P o ts ls h fx v ls' h':=e
theorem EX [Tabs P] (e:Cert P o ts ls h fx v ls' h':=by exact Cert.extract rfl rfl):Cert P o ts ls h fx v ls' h':=e
theorem BX [Tabs P] (e:Cert P o ts ls h fx v ls' h':=by exact Cert.boxV rfl):Cert P o ts ls h fx v ls' h':=e
theorem LL [Tabs P] (e:Cert P o ts ls h fx v ls' h':=by exact Cert.loadL (TKc rfl) rfl rfl rfl rfl):Cert P o ts ls h fx v ls' h':=e
theorem FL [Tabs P] (e:Cert P o ts ls h fx v ls' h':=by exact Cert.fieldL (TKc rfl) rfl rfl (TKc rfl) rfl rfl):Cert P o ts ls h fx v ls' h':=e
theorem BU [Tabs P] (e:Cert P o ts ls h fx v ls' h':=by exact Cert.build Tabs.ok rfl rfl rfl rfl rfl rfl):Cert P o ts ls h fx v ls' h':=e
theorem BV [Tabs P] (e:Cert P o ts ls h fx v ls' h':=by exact Cert.buildSlice (TKc rfl) rfl (TKc rfl) rfl rfl rfl rfl rfl rfl):Cert P o ts ls h fx v ls' h':=e
theorem NP [Tabs P] (e:Cert P o ts ls h fx v ls' h':=by exact Cert.nilP rfl):Cert P o ts ls h fx v ls' h':=e
theorem AOps.SI {t u:TypeId}{x y:Operand}{p q:Int}(hr:AOps P ops rest Q ⟨n,(d,.a (.d (.int .i64 (p+q))))::ts,ls,h⟩) (hx:ev ts x=.a (.d (.int .i64 p)):=by exact rfl) (hy:ev ts y=.a (.d (.int .i64 q)):=by exact rfl)
  (h1 : -9223372036854775808<=p+q:=by first|omega|(dsimp only; omega)|(simp at *; omega)) (h2:p+q<=9223372036854775807:=by first|omega|(dsimp only; omega)|(simp at *; omega)) (hd:Nat.blt d n=true:=by exact rfl) :
  AOps P ops (⟨some d,.binOp .add t x y u,ty,pos,aft,none⟩::rest) Q ⟨n,ts,ls,h⟩:=AOps.s0 (Cert.addI hx hy h1 h2) hd hr
theorem AOps.Sc {f:Operand}{args:Array Operand}{ats:Array TypeId}{fid:FuncId}{caps:List D}{xs:List A}(hf:ev ts f=.a (.d (.func fid caps))) (ha:evAs ts args.toList=some xs)
  (hc:∀H:Heap,AC P fid (xs++caps.map A.d) H fun r h'=>r=v/\h'=H) (hr:AOps P ops rest Q ⟨n,(d,v)::ts,ls,h⟩) (hd:Nat.blt d n=true:=by exact rfl):AOps P ops (⟨some d,.call { callee:=.value f,args:=args,argTypes:=ats },ty,pos,aft,none⟩::rest) Q ⟨n,ts,ls,h⟩:=AOps.s0 (Cert.callP hf ha hc) hd hr
theorem AOps.Sl [Tabs P] (hr:AOps P ops rest Q ⟨n,(d,v)::ts,ls',h⟩) (hs:Cert P ⟨some d,op,ty,pos,aft,none⟩ ts ls h { wl:=true } v ls' h:=by exact Cert.allocLA (TKc rfl) rfl) (hd:Nat.blt d n=true:=by exact rfl) :
  AOps P ops (⟨some d,op,ty,pos,aft,none⟩::rest) Q ⟨n,ts,ls,h⟩:=AOps.sL hs hd hr
theorem AOps.Sf [Tabs P] (hr:AOps P ops rest Q ⟨n,ts,ls',h⟩) (hs:Cert P ⟨none,op,ty,pos,aft,none⟩ ts ls h { wl:=true } v ls' h:=by first|exact Cert.storeLFA (TKc rfl) rfl rfl rfl rfl rfl|exact Cert.storeL1 (TKc rfl) rfl rfl rfl rfl (by repeat (first|exact SetAt.zero|apply SetAt.succ)) (by repeat (first|exact SetAt.zero|apply SetAt.succ))) :
  AOps P ops (⟨none,op,ty,pos,aft,none⟩::rest) Q ⟨n,ts,ls,h⟩:=AOps.sLn hs hr
theorem AOps.hq {h:Heap}(h':Heap) (hw:AOps P ops rest Q ⟨n,ts,ls,h'⟩) (e:h=h':=by first|rfl|(rw [Heap.set_set]; rfl)|(funext n_; simp only [Heap.set]; (repeat' split)<;>first|rfl|(exfalso; simp_all; done)|(simp_all; done))):AOps P ops rest Q ⟨n,ts,ls,h⟩:=AOps.heq e hw
theorem DOps.Dh {h:Heap}(h':Heap) (hw:DOps P ops n rest done Q ⟨n,ts,ls,h'⟩) (e:h=h':=by first|rfl|(rw [Heap.set_set]; rfl)|(funext n_; simp only [Heap.set]; (repeat' split)<;>first|rfl|(exfalso; simp_all; done)|(simp_all; done))):DOps P ops n rest done Q ⟨n,ts,ls,h⟩:=DOps.heq e hw
end
section
variable {P:Program}{Q:Exit->St->Prop}{σ:St}
theorem AWp.seqR {id:Nat}{l:List Oper}{y:Code}(h:AOps P l.toArray l (fun σ'=>AWp P y Q σ') σ):AWp P (.seq (.region id l.toArray false) y) Q σ:=AWp.seq (AWp.region h)
theorem AWp.seqD {id:Nat}{l:List Oper}{y:Code}(h:DOps P l.toArray σ.n l [] (fun σ'=>AWp P y Q σ') σ) (hm:P.follows .mixedOrders=true:=by exact rfl):AWp P (.seq (.region id l.toArray true) y) Q σ:=AWp.seq (AWp.draw hm h)
theorem AWp.sk {A K:St->Prop}(hK:∀σ,A σ->K σ) (h:A σ) (e:K σ->Q .normal σ:=by exact id):AWp P .skip Q σ:=AWp.skip (e (hK _ h))
theorem AWp.rt {α:Type}{a r:α}(hE:some a=some r) (h:a=r->Q .ret σ:=by intro e; subst e; (repeat (first|refine xBlock_ret ?_|refine xThen_ret ?_)); exact retQ.retF _ rfl ⟨rfl,rfl⟩ (fun _ _ h=>h)):AWp P .ret Q σ:=AWp.ret (h (Option.some.inj hE))
end
theorem bO {α β:Type}{o:Option α}{k:α->Option β}{r:β}(h:o.bind k=some r):∃x,o=some x/\k x=some r:=bindO_some h
theorem gO {α β:Type}{c:Bool}{o:Option α}{d:α}{k:α->Option β}{r:β}(h:guardO c o d k=some r):∃x,(c=true->o=some x)/\k x=some r:=guardO_some h
theorem Keeps.KA {ts:Ts}{m:Nat}{v:V}{r:Ts}(k:Nat) (t:Keeps ts m r) (h:Ab.get ts k=v:=by conv=>lhs; whnf) (hv:v.noL m=true:=by rfl):Keeps ts m ((k,v)::r):=Keeps.c h hv t
theorem KeepsT.TA {ts:Ts}{v:V}{r:Ts}(k:Nat) (t:KeepsT ts r) (h:Ab.get ts k=v:=by conv=>lhs; whnf):KeepsT ts ((k,v)::r):=KeepsT.cons h t
section
variable {P:Program}{α:Type}{ts:Ts}{ls ls':List (List D)}{h h':Heap}{dst:Option Tmp}{ty:TypeId}{pos:String}{aft:Array Edge}{g:Option (Nat×Bool)}{ops:Array Oper}{rest:List Oper}{Q:St->Prop}{n d:Nat}{v:V}{op:Op}{done:List Fx}
theorem ix [Tabs P] (f:α->List D) (n:Nat){t e:TypeId}{ti ei:TI}{x i:Operand}{tok:Option Nat}{s:Sl α}{ik:IntKind}{y:α}{k:Nat}(hr:s.l[n]?=some y) (hT:mkTI P t=some ti:=by exact TKc rfl) (hk:ti.k=.slice e:=by exact rfl) (hE:mkTI P e=some ei:=by exact TKc rfl)
  (hx:ev ts x=.a (.d (s.d k f tok)):=by exact rfl) (hi:ev ts i=.a (.d (.int ik (n:Int))):=by exact rfl) (hkk:k=ei.size:=by exact rfl):Cert P ⟨dst,.indexAddr t x i,ty,pos,aft,g⟩ ts ls h {} (.a (.d (.view (f y)))) ls h:=Cert.idxMn hT hk hE hx hi hkk hr
theorem am {t u e:TypeId}{ti ui ei:TI}(f:α->List D){x y:Operand}{tk k k' m:Nat}{tok':Option Nat}{s r w:Sl α}{z:A}(hT:mkTI P t=some ti) (hk:ti.k=.slice e) (hE:mkTI P e=some ei) (hU:mkTI P u=some ui) (hr:appC ei.bytes s r=some w) (huk:∃e,ui.k=.slice e:=by exact⟨_,rfl⟩)
  (hz:ei.zero=some z:=by exact rfl) (hzs:(cellsA z).length=ei.size:=by exact rfl) (hsz:ei.size≠0:=by decide) (hx:ev ts x=.a (.d (s.d k f (some tk))):=by exact rfl) (hy:ev ts y=.a (.d (r.d k' f tok')):=by exact rfl) (hkk:k=ei.size:=by exact rfl) (hkk':k'=ei.size:=by exact rfl)
  (htk:h tk=some (.tok ei.size m):=by exact hpG) (hm:m=s.l.length:=by exact rfl):Cert P ⟨dst,.call { callee:=.builtin .append,args:=#[x,y],argTypes:=#[t,u] },ty,pos,aft,g⟩ ts ls h { rh:=true,wh:=true } (.a (.d (w.d k f (some tk)))) ls (h.set tk (some (.tok ei.size w.l.length))) :=
 Cert.appM hT hk hE hU huk hz hzs hsz hx hy hkk hkk' htk hm hr
theorem SH (hs:Cert P ⟨some d,op,ty,pos,aft,none⟩ ts ls h { rh:=true,wh:=true } v ls h') (hr:AOps P ops rest Q ⟨n,(d,v)::ts,ls,h'⟩) (hd:Nat.blt d n=true:=by exact rfl):AOps P ops (⟨some d,op,ty,pos,aft,none⟩::rest) Q ⟨n,ts,ls,h⟩:=AOps.sH hs hd hr
theorem Scd {f:Operand}{args:Array Operand}{ats:Array TypeId}{fid:FuncId}{caps:List D}{xs:List A}(hf:ev ts f=.a (.d (.func fid caps))) (ha:evAs ts args.toList=some xs)
  (hc:∀H:Heap,AC P fid (xs++caps.map A.d) H fun r h'=>r=v/\h'=H) (hr:DOps P ops n rest (Fx.plain {}::done) Q ⟨n,(d,v)::ts,ls,h⟩) (hd:Nat.blt d n=true:=by exact rfl):DOps P ops n (⟨some d,.call { callee:=.value f,args:=args,argTypes:=ats },ty,pos,aft,none⟩::rest) done Q ⟨n,ts,ls,h⟩:=DOps.s0 (Cert.callP hf ha hc) hd hr
end
theorem Qe {α:Type}{a b c:α}(h:c=b) (e:a=b):a=c:=e.trans h.symm
theorem Qs {α:Type}{o p:Option α}(h:o=p.bind some):o=p:=h.trans (Q.some_bind p)
theorem QT {α:Type}{i n:Nat}{a b r:α}(h:i<n) (e:a=r):cond (decide ((i:Int)<(n:Int))) a b=r:=Q.condT (Q.ltT h) e
theorem QF {α:Type}{i n:Nat}{a b r:α}(h:¬i<n) (e:b=r):cond (decide ((i:Int)<(n:Int))) a b=r:=Q.condF (Q.ltF h) e
theorem Qa {α:Type}{l:List α}{i:Nat}(h:i<l.length):∃x,l[i]?=some x:=⟨_,List.getElem?_eq_getElem h⟩
theorem dL {α:Type}{i:Nat}{l:List α}(h:l.length<=i):l.drop i=[]:=List.drop_of_length_le h
end Go.Ab

/-
 A law's call beside the library's table of powers of ten. No program text.
-/
namespace Go.Ab
open Go Go.RowKit Go.Proofs Go.ChangeShapes Go.WideShapes Go.ChangeAt
variable {lou:Lou}

theorem tab_of {P:Program}{W:World}{l:List (String×DataW Unit)}{name:String}{k:IntKind}{zs:List Int}{g:Nat}{t e:TypeId}{n:Nat}(hg:P.globalNamed name=some g) (hty:(P.globals[g]?).map (·.type)=some t) (ht:P.underlying t=some (.array n e))
  (he:P.underlying e=some (.int k)) (hce:P.cellsOf e=1) (hct:P.cellsOf t=n) (h:laidMet P l W) (hm:(name,Lib.tabData k zs)∈l):∃u fr,W.heap[g]?=some (.cells (zs.map fun z=>Value.int k z).toArray u fr):=by
 obtain⟨g',t',cs,fuel,p,hg',ht',hv,hd⟩:=Lib.laidMet.reads h hm;obtain rfl:=Option.some.inj (hg.symm.trans hg');obtain rfl:=Option.some.inj (hty.symm.trans ht');have hc:=Lib.cells_of_tab ht he hce hct hd;unfold World.var? at hv;rw [hg,Option.bind_some] at hv
 split at hv
 ·rename_i c u fr hb
  simp only [Option.some.injEq] at hv;subst hv;refine⟨u,fr, ?_⟩;rw [<- hc];exact hb
 ·cases hv
def hTab (g:Nat) (o:Go.Obj):Heap:=fun i=>if i=0 then some (.fix g o) else none
theorem IsTab.of {P:Program}{g:Nat}{u:TypeId}{fr:Nat×Nat}(hg:P.globalNamed "internal/strconv.uint64pow10"=some g):IsTab P (.fix g (.cells (Lib.pow10Tab.map fun z=>Value.int .u64 z).toArray u fr)):=⟨g,u,fr,rfl,hg⟩
end Go.Ab

/-
 A law's call beside the variable strconv.ErrRange. No program text.
-/
namespace Go.Ab
open Go Go.RowKit Go.Proofs Go.ChangeShapes Go.WideShapes Go.ChangeAt
variable {lou:Lou}
theorem err_of {P:Program}{W:World}{l:List (String×DataW Unit)}{g:Nat}{ti:TypeId}{nm:String}{d:DataW Unit}(hg:P.globalNamed "strconv.ErrRange"=some g) (hty:(P.globals[g]?).map (·.type)=some ti)
  (hi:(match P.underlying ti with|some (.interface _)=>true|_=>false)=true) (h:laidMet P l W) (hm:("strconv.ErrRange",.iface nm d)∈l):∃tp p u fr,W.heap[g]?=some (.cells #[.iface tp p] u fr):=by
 obtain⟨ms,hi⟩:∃ms,P.underlying ti=some (.interface ms):=by
  split at hi
  ·rename_i ms he; exact⟨ms,he⟩
  ·cases hi
 obtain⟨g',t',cs,fuel,p,hg',ht',hv,hd⟩:=Lib.laidMet.reads h hm;obtain rfl:=Option.some.inj (hg.symm.trans hg');obtain rfl:=Option.some.inj (hty.symm.trans ht');obtain⟨f1,u,v,hc,hn,h1⟩:=iface_of_trod hi hd;unfold World.var? at hv;rw [hg,Option.bind_some] at hv
 split at hv
 ·rename_i c u2 fr hb
  simp only [Option.some.injEq] at hv;subst hv;refine⟨u,v,u2,fr, ?_⟩;have hc':c=#[.iface u v]:=by apply Array.ext'; simpa using hc
  rw [hb,hc']
 ·cases hv
theorem IsErr.of {P:Program}{g:Nat}{tp:TypeId}{p:Value}{u:TypeId}{fr:Nat×Nat}(hg:P.globalNamed "strconv.ErrRange"=some g):IsErr P (.fix g (.cells #[.iface tp p] u fr)):=⟨g,tp,p,u,fr,rfl,hg⟩
end Go.Ab

/-
 strings.Contains,beside the library's variable internal/bytealg.MaxLen; a law's call beside two variables. No program text.
-/
namespace Go.Ab
open Go Go.Shelf Go.RowKit Go.Proofs Go.ChangeShapes Go.WideShapes Go.ChangeAt
variable {lou:Lou}
def IsMax (P:Program) (o:Ab.Obj):Prop:=∃g cs t fr,o=.fix g (.cells cs t fr)/\(P.globalNamed "internal/bytealg.MaxLen"=some g/\∃m,cs[0]?=some (.int .i64 m))
theorem IsMax.cell {P:Program}{o:Ab.Obj}(h:IsMax P o){j:J}{w:World}{id:Nat}(hr:ORel j w id o):∃g m,P.globalNamed "internal/bytealg.MaxLen"=some g/\w.cell? ⟨g,0,none⟩=some (.int .i64 m):=by
 obtain⟨g,cs,t,fr,rfl,hg,m,hm⟩:=h;have hr':w.heap[g]?=some _:=hr;refine⟨g,m,hg, ?_⟩;unfold World.cell?;simp [hr',hm]
def containsC (s t:Bs):Option Bool:=if s.length<4294967281 then some (Lib.contains s t) else none
theorem contains_calls {P:Program}{ρ:Ren}(L:LaysM.n144 P ρ){s t:Bs}{r:Bool}(hE:containsC s t=some r){F:Nat}(hF:F=ρ.f 144){H:Heap}{gM:Nat}{oM:Ab.Obj}(hgM:H gM=some oM) (ho:IsMax P oM) :
  AC P F [.d (.str s),.d (.str t)] H fun v h'=>v=.a (.d (.bool r))/\h'=H:=by
 subst hF;unfold containsC at hE
 split at hE
 ·rename_i hl
  obtain rfl:=Option.some.inj hE;refine⟨enters_of L.f144 (by kernel_rfl) rfl,fun j w c hr ha=>?_⟩;cases ha with
  | cons a1 ha =>
  cases ha with
  | cons a2 ha =>
  cases ha
  rename_i v1 v2
  have a1':DRel j w (.str s) v1:=a1;have a2':DRel j w (.str t) v2:=a2;cases a1'; cases a2';obtain⟨g,m,hg,hm⟩:=ho.cell (hr.obj gM oM hgM).2;obtain rfl:=Option.some.inj (L.m1.symm.trans hg);refine(Any.strings_Contains L.ton144 ⟨s.toArray⟩ ⟨t.toArray⟩ m w (by show s.toArray.size<_; simpa using hl) hm).mono ?_;rintro e w' ⟨rfl,rfl⟩;exact⟨_,_,j,H,rfl,⟨rfl,rfl⟩,DRel.bool _,hr,Evolve.refl _ _ _⟩
 ·cases hE
end Go.Ab

/-
 A law's call beside some variables of the library's own. No program text.
-/
namespace Go.Ab
open Go Go.RowKit Go.Proofs Go.ChangeShapes Go.WideShapes Go.ChangeAt
def hTabN (l:List (Nat×Go.Obj)):Heap:=fun i=>(l[i]?).map fun p=>.fix p.1 p.2
def jTN (n:Nat) (w:World):J:={ j0 w with next:=n }
theorem jTN_le (n:Nat) (w:World):Le (j0 w) w (jTN n w) w:=⟨Nat.zero_le _,fun _ h=>absurd h (Nat.not_lt_zero _),fun _=>Nat.le_refl _,fun _ _ _=>rfl,fun _ h=>absurd h (Nat.not_lt_zero _)⟩
theorem hTabN_get {l:List (Nat×Go.Obj)}{i:Nat}{ob:Ab.Obj}(h:hTabN l i=some ob):∃p,l[i]?=some p/\ob=.fix p.1 p.2:=by
 unfold hTabN at h;cases e:l[i]? with
 | none=>rw [e] at h; cases h
 | some p=>rw [e] at h; exact⟨p,rfl,(Option.some.inj h).symm⟩
theorem hrelTN {w:World}{l:List (Nat×Go.Obj)}(h:∀p∈l,w.heap[p.1]?=some p.2) (hd:(l.map Prod.fst).Nodup):HRel (jTN l.length w) w (hTabN l):=by
 refine⟨fun id ob hi=>?_,fun id1 o1 id2 ob2 b e1 e2 q1 q2=>?_,fun b hb=>(by simp [jTN,j0,Array.getElem?_eq_none hb])⟩
 ·obtain⟨p,hp,rfl⟩:=hTabN_get hi;exact⟨(List.getElem?_eq_some_iff.1 hp).1,h p (List.mem_of_getElem? hp)⟩
 ·obtain⟨p,hp,rfl⟩:=hTabN_get e1;obtain⟨q,hq,rfl⟩:=hTabN_get e2;simp only [blkOf,Option.some.injEq] at q1 q2;have h1:(l.map Prod.fst)[id1]?=some p.1:=by rw [List.getElem?_map,hp]; rfl
  have h2:(l.map Prod.fst)[id2]?=some p.1:=by rw [List.getElem?_map,hq]; exact congrArg some (q2.trans q1.symm)
  obtain⟨l1,g1⟩:=List.getElem?_eq_some_iff.1 h1;obtain⟨l2,g2⟩:=List.getElem?_eq_some_iff.1 h2;exact(List.getElem_inj hd).1 (g1.trans g2.symm)
theorem law_callsTN {P:Program}{f:FuncId}{xs:List A}{l:List (Nat×Go.Obj)}(hc:@AC Lou.on P f xs (hTabN l) fun r h'=>r=.a (.d (.bool true))/\h'=hTabN l){W:World}{args:List Value}(hg:∀p∈l,W.heap[p.1]?=some p.2) (hd:(l.map Prod.fst).Nodup) (ha:All2 (ARel (j0 W) W) xs args) :
  Calls P f args.toArray W fun e W'=>e=.returned (.bool true)/\Below W.heap.size W W':=by
 letI:Lou:=Lou.on
 refine(hc.runs (jTN l.length W) W args (hrelTN hg hd) (ha.imp fun _ _ h=>h.mono (jTN_le l.length W))).mono ?_;rintro e W' ⟨r,cv,j',h',rfl,⟨rfl,rfl⟩,hv,hr,hev⟩;have hv':DRel j' W' (.bool true) cv:=hv;cases hv';refine⟨rfl,hev.os,hev.tape,hev.output.1,hev.size,fun k hk=>?_⟩;by_cases hkl:∃p∈l,p.1=k
 ·obtain⟨p,hp,rfl⟩:=hkl;obtain⟨i,hi,he⟩:=List.mem_iff_getElem.1 hp;have h0:hTabN l i=some (.fix p.1 p.2):=by unfold hTabN; rw [List.getElem?_eq_getElem hi,he]; rfl
  have h1:W'.heap[p.1]?=some p.2:=(hr.obj i (.fix p.1 p.2) h0).2;rw [h1,hg p hp]
 ·refine(hev.frame k hk ?_).1;rintro (h|⟨id,ob,h,hb⟩)
  ·cases h
  ·obtain⟨p,hp,rfl⟩:=hTabN_get h;simp only [blkOf,Option.some.injEq] at hb;exact hkl ⟨p,List.mem_of_getElem? hp,hb⟩
end Go.Ab
namespace Go.Ab
theorem oB {α β : Type} (a : α) (f : α → Option β) : (some a).bind f = f a := rfl
theorem oJ {α : Type} {a b : α} (h : some a = some b) : a = b := Option.some.inj h
theorem nS (n : Nat) : n < n.succ := Nat.lt_succ_self n
theorem oD {p : Prop} [Decidable p] (h : decide p = true) : p := of_decide_eq_true h
theorem dF {p : Prop} [Decidable p] (h : ¬ p) : decide p = false := decide_eq_false h
theorem dT {p : Prop} [Decidable p] (h : p) : decide p = true := decide_eq_true h
theorem kN {ts : Ts} : KeepsT ts [] := .nil
end Go.Ab
