import Derived.Test.YtbghdiaepdaaeaaGreatDoorE2
import Derived.Defers
import Derived.Scope
import Derived.Laws.IdiomRangeMap
import Derived.Sort.Grow
import Derived.Shelf.SlSortCmp.NoneTotal
import Derived.Shelf.SlicesE.DeleteFunc
import Derived.Laws.BytesString
import Derived.Shelf.Strconv.Itoa3
import Derived.Shelf.Strings.OnBuilder
import Derived.Shelf.Strings.Builder1
import Derived.Shelf.Strings.IndexAnyAll
import Derived.Shelf.Small.Utf8
import Derived.Laws.Runes
import Derived.Lib.TrimU
import Derived.Lib.OthersKept
import Derived.WalkMore
import Derived.Shelf.RegionOpenPlain
import Derived.Shelf.Small.Strs
import Derived.RangeFuncFrom
import Derived.RangeFuncLeaves
import Derived.LoopNIn
import Derived.RangeFuncCalls
import Derived.WalkKit
import Derived.ProofKit
import Derived.OpenShut
import Derived.JoinedCond
import Derived.Carry
import Derived.Lib.LaidU8
set_option maxRecDepth 100000
set_option maxHeartbeats 2000000
set_option linter.unusedVariables false
set_option linter.unusedSimpArgs false
/-
 The rules as a walk applies them.
-/
namespace Go.Ab
open Go Go.RowKit
variable {lou:Lou}
variable {amb:Amb}
section
variable {P:Program}{ops:Array Oper}{rest:List Oper}{Q:St->Prop}{n:Nat}{ts:Ts}{ls ls':List (List D)}{h h':Heap}{fx:Fx}{v:V}{d dg gi:Nat}{op:Op}{ty:TypeId}{pos:String}{aft:Array Edge}{want b:Bool}

theorem okDst_some (h:Nat.blt d n=true):okDst (some d) n=true:=h

theorem AOps.s0 (hs:Cert P ⟨some d,op,ty,pos,aft,none⟩ ts ls h fx v ls h) (hd:Nat.blt d n=true) (hr:AOps P ops rest Q ⟨n,(d,v)::ts,ls,h⟩):AOps P ops (⟨some d,op,ty,pos,aft,none⟩::rest) Q ⟨n,ts,ls,h⟩ :=
 AOps.step hs rfl hd (by cases fx.wl<;>cases fx.wh<;>exact hr)
theorem AOps.sL (hs:Cert P ⟨some d,op,ty,pos,aft,none⟩ ts ls h { wl:=true } v ls' h) (hd:Nat.blt d n=true) (hr:AOps P ops rest Q ⟨n,(d,v)::ts,ls',h⟩):AOps P ops (⟨some d,op,ty,pos,aft,none⟩::rest) Q ⟨n,ts,ls,h⟩ :=
 AOps.step hs rfl hd hr
theorem AOps.sLn (hs:Cert P ⟨none,op,ty,pos,aft,none⟩ ts ls h { wl:=true } v ls' h) (hr:AOps P ops rest Q ⟨n,ts,ls',h⟩):AOps P ops (⟨none,op,ty,pos,aft,none⟩::rest) Q ⟨n,ts,ls,h⟩ :=
 AOps.step hs rfl rfl hr
theorem AOps.sH (hs:Cert P ⟨some d,op,ty,pos,aft,none⟩ ts ls h { rh:=true,wh:=true } v ls h') (hd:Nat.blt d n=true) (hr:AOps P ops rest Q ⟨n,(d,v)::ts,ls,h'⟩):AOps P ops (⟨some d,op,ty,pos,aft,none⟩::rest) Q ⟨n,ts,ls,h⟩ :=
 AOps.step hs rfl hd hr
theorem AOps.sHn (hs:Cert P ⟨none,op,ty,pos,aft,none⟩ ts ls h fx v ls h') (hf:fx.wl=false) (hf':fx.wh=true) (hr:AOps P ops rest Q ⟨n,ts,ls,h'⟩):AOps P ops (⟨none,op,ty,pos,aft,none⟩::rest) Q ⟨n,ts,ls,h⟩ :=
 AOps.step hs rfl rfl (by rw [hf,hf']; exact hr)
theorem AOps.sE {R:V->List (List D)->Heap->Prop}(hs:StepE P ⟨some d,op,ty,pos,aft,none⟩ ts ls h R) (hd:Nat.blt d n=true) (hr:∀v ls' h',R v ls' h'->AOps P ops rest Q ⟨n,(d,v)::ts,ls',h'⟩) :
  AOps P ops (⟨some d,op,ty,pos,aft,none⟩::rest) Q ⟨n,ts,ls,h⟩:=AOps.stepE hs rfl hd hr
theorem guardOf_mk (hg:(ops[gi]?).bind (·.dst)=some dg){dst:Option Tmp}:guardOf ops ⟨dst,op,ty,pos,aft,some (gi,want)⟩=some (dg,want):=by
 simp only [guardOf,hg]

variable {done:List Fx}
theorem DOps.s0 (hs:Cert P ⟨some d,op,ty,pos,aft,none⟩ ts ls h fx v ls h) (hd:Nat.blt d n=true) (hr:DOps P ops n rest (fx.plain::done) Q ⟨n,(d,v)::ts,ls,h⟩):DOps P ops n (⟨some d,op,ty,pos,aft,none⟩::rest) done Q ⟨n,ts,ls,h⟩ :=
 DOps.cons (CertG.plain hs rfl hd) (by cases fx with|mk a b c d e=>cases b<;>cases d<;>exact hr)
theorem Born.alloc {e:TypeId}{ti:TI}{z:A}{i:Nat}{ls':List (List D)}(hT:mkTI P e=some ti) (hz:ti.zero=some z) (hs:Snoc (cellsA z) ls i ls'):Born P ⟨some d,.alloc e,ty,pos,aft,none⟩ (.lptr i 0) ls ls':=by
 obtain⟨inf,dd,h1,_,_,_,_,h2⟩:=mkTI_spec hT;rw [hz] at h2;obtain⟨v,h3,h4⟩:=zeroF_rel h2;obtain⟨e1,e2⟩:=hs.spec;refine⟨cellsA z,d,rfl,rfl,by rw [e1],e2,v.cells.toList,e,fun j w=>(h4 j w).cells,fun a w K Q hk=>?_⟩;have hrun:(execOp a.eval (⟨some d,.alloc e,ty,pos,aft,none⟩:Oper)).run P w=.ok (.value (.pointer (some ⟨w.heap.size,0,none⟩))) (w.alloc (.cells v.cells e)):=by
  simp [execOp,Instr.alloc,zeroValue,typeInfo,h1,h3,newVar,newRow]
 unfold Oper.wp;rw [hrun,Oper.upon_value];rw [Array.toArray_toList] at hk;exact hk
theorem DOps.sB {e:TypeId}{ti:TI}{z:A}{i:Nat}{ls':List (List D)}(hT:mkTI P e=some ti) (hz:ti.zero=some z) (hd:Nat.blt d n=true) (hr:DOps P ops n rest ({ wl:=true,nu:=true }::done) Q ⟨n,(d,.lptr i 0)::ts,ls',h⟩)
  (hs:Snoc (cellsA z) ls i ls':=by repeat (first|exact Snoc.nil|apply Snoc.cons)):DOps P ops n (⟨some d,.alloc e,ty,pos,aft,none⟩::rest) done Q ⟨n,ts,ls,h⟩:=DOps.born (Born.alloc hT hz hs) hd hr
theorem DOps.sLn (hs:Cert P ⟨none,op,ty,pos,aft,none⟩ ts ls h { wl:=true } v ls' h) (hr:DOps P ops n rest ({ wl:=true }::done) Q ⟨n,ts,ls',h⟩):DOps P ops n (⟨none,op,ty,pos,aft,none⟩::rest) done Q ⟨n,ts,ls,h⟩ :=
 DOps.cons (CertG.plain hs rfl rfl) hr
theorem DOps.sH (hs:Cert P ⟨some d,op,ty,pos,aft,none⟩ ts ls h { rh:=true,wh:=true } v ls h') (hd:Nat.blt d n=true) (hr:DOps P ops n rest ({ rh:=true,wh:=true }::done) Q ⟨n,(d,v)::ts,ls,h'⟩) :
  DOps P ops n (⟨some d,op,ty,pos,aft,none⟩::rest) done Q ⟨n,ts,ls,h⟩:=DOps.cons (CertG.plain hs rfl hd) hr
theorem DOps.sHn (hs:Cert P ⟨none,op,ty,pos,aft,none⟩ ts ls h fx v ls h') (hf:fx.wl=false) (hf':fx.wh=true) (hr:DOps P ops n rest (fx.plain::done) Q ⟨n,ts,ls,h'⟩):DOps P ops n (⟨none,op,ty,pos,aft,none⟩::rest) done Q ⟨n,ts,ls,h⟩ :=
 DOps.cons (CertG.plain hs rfl rfl) (by rw [hf,hf']; exact hr)
end

section
variable {P:Program}{ops:Array Oper}{rest:List Oper}{Q:St->Prop}{n:Nat}{ts:Ts}{ls ls':List (List D)}{h h':Heap}{fx:Fx}{x:A}{d dg gi:Nat}{op:Op}{ty:TypeId}{pos:String}{aft:Array Edge}{want C:Bool}

def gc:V->Bool->Option Bool
 | .a (.d (.bool b)),true=>some b
 | .a (.d (.bool b)),false=>some (!b)
 | .gd c (.d (.bool b)),true=>some (c&&b)
 | .gd c (.d (.bool b)),false=>some (c&&!b)
 | _,_=>none

theorem wanted_gc {j:J}{w:World}{jl:List Nat}{a:Act}{o:Oper}(hg:guardOf ops o=some (dg,want)) (hc:gc (get ts dg) want=some C) (h:VRel j w jl (get ts dg) (a.tmps.getD dg undef)) :
  Region.wanted o (yielded ops a.tmps)=C:=by
 cases hv:get ts dg with
 | a y =>
  cases y with
  | d z =>
   cases z with
   | bool b =>
    rw [hv] at hc;cases want<;>simp only [gc,Option.some.injEq] at hc<;>subst hc<;>rw [wanted_some hg hv h]<;>cases b<;>rfl
   | _=>rw [hv] at hc; cases want<;>simp [gc] at hc
  | agg z=>rw [hv] at hc; cases want<;>simp [gc] at hc
 | gd c y =>
  cases y with
  | agg z=>rw [hv] at hc; cases want<;>simp [gc] at hc
  | d z =>
   cases z with
   | bool b =>
    rw [hv] at hc;rw [hv] at h;cases c with
    | true =>
     have h1:VRel j w jl (get [(dg,.a (.d (.bool b)))] dg) (a.tmps.getD dg undef):=by rw [get_same]; exact h.1 rfl
     cases want<;>simp only [gc,Option.some.injEq,Bool.true_and] at hc<;>subst hc<;>rw [wanted_some (ts:=[(dg,.a (.d (.bool b)))]) hg (get_same _ _ _) h1]<;>cases b<;>rfl
    | false =>
     have h2:=h.2 rfl;have hC:C=false:=by cases want<;>simp [gc] at hc<;>exact hc
     subst hC;unfold guardOf at hg
     split at hg
     ·simp at hg
     ·rename_i g wnt hgd
      split at hg
      ·rename_i d' hd'
       simp only [Option.some.injEq,Prod.mk.injEq] at hg;obtain⟨rfl,rfl⟩:=hg;have hs:a.tmps[d']?=none\/a.tmps[d']?=some (.tuple #[]):=by
        rw [Array.getD_eq_getD_getElem?] at h2;cases e:a.tmps[d']? with
        | none=>exact .inl rfl
        | some y=>rw [e] at h2; simp at h2; rw [h2]; exact .inr rfl
       simp only [Region.wanted,hgd,yielded,hd',Option.bind_some];rcases hs with e|e<;>rw [e]<;>rfl
      ·simp at hg
   | _=>rw [hv] at hc; cases want<;>simp [gc] at hc
 | any=>rw [hv] at hc; cases want<;>simp [gc] at hc
 | lptr _ _=>rw [hv] at hc; cases want<;>simp [gc] at hc
 | tup _=>rw [hv] at hc; cases want<;>simp [gc] at hc
 | gdl _ _ _=>rw [hv] at hc; cases want<;>simp [gc] at hc
 | full _ _=>rw [hv] at hc; cases want<;>simp [gc] at hc
 | gdf _ _ _=>rw [hv] at hc; cases want<;>simp [gc] at hc

theorem Cert.ungd {o:Oper}{v:V}{k:Nat}{c:Bool}(hk:get ts k=.gd c x) (hc:c=true) (hs:Cert P o ((k,.a x)::ts) ls h fx v ls' h'):Cert P o ts ls h fx v ls' h':=by
 intro L H hL hH j w jl a hl ho;refine hs L H hL hH j w jl a hl fun y hy=>?_;have h1:=ho y hy;cases y with
 | tmp t =>
  by_cases e:k=t
  ·subst e;simp only [ev] at h1 ⊢;rw [get_same];rw [hk] at h1;exact h1.1 hc
  ·simp only [ev] at h1 ⊢;rw [get_other _ _ e]; exact h1
 | _=>exact h1

theorem Cert.ungdL {o:Oper}{v:V}{k:Nat}{c:Bool}{i off:Nat}(hk:get ts k=.gdl c i off) (hc:c=true) (hs:Cert P o ((k,.lptr i off)::ts) ls h fx v ls' h'):Cert P o ts ls h fx v ls' h':=by
 intro L H hL hH j w jl a hl ho;refine hs L H hL hH j w jl a hl fun y hy=>?_;have h1:=ho y hy;cases y with
 | tmp t =>
  by_cases e:k=t
  ·subst e;simp only [ev] at h1 ⊢;rw [get_same];rw [hk] at h1;exact h1.1 hc
  ·simp only [ev] at h1 ⊢;rw [get_other _ _ e]; exact h1
 | _=>exact h1
theorem AOps.gC {v:V}(hg:(ops[gi]?).bind (·.dst)=some dg) (hc:gc (get ts dg) want=some C) (hs:C=true->Cert P ⟨some d,op,ty,pos,aft,some (gi,want)⟩ ts ls h fx v ls h) (hd:Nat.blt d n=true)
  (hr:AOps P ops rest Q ⟨n,(d,v.under C)::ts,ls,h⟩):AOps P ops (⟨some d,op,ty,pos,aft,some (gi,want)⟩::rest) Q ⟨n,ts,ls,h⟩:=by
 intro j w jl a hsr Qc hk;have hwant:=wanted_gc (o:=⟨some d,op,ty,pos,aft,some (gi,want)⟩) (guardOf_mk hg) hc (hsr.tmps dg);refine wpList_step fun K hK=>?_;rw [hwant];cases C with
 | true =>
  rw [if_pos rfl];refine(hs rfl).step j w jl a hsr.hl (fun x _=>ev_rel hsr.tmps x) K Qc fun v0 l k cv j' w' jl' ⟨e1,e2,e3⟩ hv hl hx hev=>hK _ _ ?_;have e2':l=ls:=by rw [e2]; cases fx.wl<;>rfl
  have e3':k=h:=by rw [e3]; cases fx.wh<;>rfl
  subst e1 e2' e3';exact hr j' w' jl' _ (hsr.put hev.toLe hx (dst:=some d) hd (v:=_) (V.under_true hv) hl) Qc fun σ' j2 w2 jl2 a2 hq hs2 hev2=>hk σ' j2 w2 jl2 a2 hq hs2 (hev.trans hev2)
 | false =>
  simp only [Bool.false_eq_true,if_false];exact hK _ _ (hr j w jl _ (hsr.put (Le.refl _ _) (Ext.refl _) (dst:=some d) hd (v:=v.under false) (V.under_false v) hsr.hl) Qc hk)

theorem DOps.gC {v:V}{done:List Fx}(hg:(ops[gi]?).bind (·.dst)=some dg) (hc:gc (get ts dg) want=some C) (hs:C=true->Cert P ⟨some d,op,ty,pos,aft,some (gi,want)⟩ ts ls h fx v ls h) (hd:Nat.blt d n=true)
  (hr:DOps P ops n rest (fx.plain::done) Q ⟨n,(d,v.under C)::ts,ls,h⟩):DOps P ops n (⟨some d,op,ty,pos,aft,some (gi,want)⟩::rest) done Q ⟨n,ts,ls,h⟩:=by
 refine DOps.cons (fx:=fx) (v:=v.under C) (ls':=ls) (h':=h) ⟨hd,fun L H hL hH j w jl a hl ho K Q hk=>?_⟩ (by cases fx with|mk a b c d e=>cases b<;>cases d<;>exact hr);have hwant:=wanted_gc (o:=⟨some d,op,ty,pos,aft,some (gi,want)⟩) (guardOf_mk hg) hc (ho dg (guard_looks (guardOf_mk hg)));rw [hwant];cases C with
 | true =>
  rw [if_pos rfl];exact hs rfl L H hL hH j w jl a hl (ev_rel_looks ho) K Q fun _ _ _ cv j' w' jl' ⟨e1,e2,e3⟩=>by subst e1 e2 e3; exact fun hv=>hk cv j' w' jl' (V.under_true hv)
 | false =>
  simp only [Bool.false_eq_true,if_false];refine hk undef j w jl (V.under_false v) ?_ (Ext.refl _) ?_
  ·have e1:(bif fx.wl then ls else L)=L:=by cases hw:fx.wl with
    | true=>exact(hL (by rw [hw]; simp)).symm
    | false=>rfl
   have e2:(bif fx.wh then h else H)=H:=by cases hw:fx.wh with
    | true=>exact(hH (by rw [hw]; simp)).symm
    | false=>rfl
   rw [e1,e2]; exact hl
  ·have e2:(bif fx.wh then h else H)=H:=by cases hw:fx.wh with
    | true=>exact(hH (by rw [hw]; simp)).symm
    | false=>rfl
   rw [e2]; exact Evolve.refl _ _ _

variable {dst:Option Tmp}{g:Option (Nat×Bool)}
theorem Cert.pickAnd {c y z:Operand}{b r cy:Bool}(hc:ev ts c=.a (.d (.bool b))) (hy:ev ts y=.gd cy (.d (.bool r))) (himp:b=true->cy=true) (hz:ev ts z=.a (.d (.bool false))) :
  Cert P (mk dst (.pick c y z) ty pos aft g) ts ls h {} (.a (.d (.bool (b&&r)))) ls h :=
 Cert.of_ops fun j w jl a ho=>by
  have h1:=ho c (by simp [Op.operands]);have h2:=ho y (by simp [Op.operands]);have h3:=ho z (by simp [Op.operands]);rw [hc] at h1; rw [hy] at h2; rw [hz] at h3;cases b with
  | true =>
   have h4:VRel j w jl (.a (.d (.bool r))) (a.eval y):=h2.1 (himp rfl);exact⟨.bool r,by simp [execOp,rel_bool h1,rel_bool h4,asBool],by simp only [Bool.true_and]; exact DRel.bool _⟩
  | false=>exact⟨.bool false,by simp [execOp,rel_bool h1,rel_bool h3,asBool],by simp only [Bool.false_and]; exact DRel.bool _⟩
theorem Cert.pickOr {c y z:Operand}{b r cz:Bool}(hc:ev ts c=.a (.d (.bool b))) (hy:ev ts y=.a (.d (.bool true))) (hz:ev ts z=.gd cz (.d (.bool r))) (himp:b=false->cz=true) :
  Cert P (mk dst (.pick c y z) ty pos aft g) ts ls h {} (.a (.d (.bool (b||r)))) ls h :=
 Cert.of_ops fun j w jl a ho=>by
  have h1:=ho c (by simp [Op.operands]);have h2:=ho y (by simp [Op.operands]);have h3:=ho z (by simp [Op.operands]);rw [hc] at h1; rw [hy] at h2; rw [hz] at h3;cases b with
  | false =>
   have h4:VRel j w jl (.a (.d (.bool r))) (a.eval z):=h3.1 (himp rfl);exact⟨.bool r,by simp [execOp,rel_bool h1,rel_bool h4,asBool],by simp only [Bool.false_or]; exact DRel.bool _⟩
  | true=>exact⟨.bool true,by simp [execOp,rel_bool h1,rel_bool h2,asBool],by simp only [Bool.true_or]; exact DRel.bool _⟩
theorem andL {a b:Bool}(h:(a&&b)=true):a=true:=by cases a<;>simp_all
theorem andR {a b:Bool}(h:(a&&b)=true):b=true:=by cases a<;>simp_all
theorem notT {b:Bool}(h:b=false):(!b)=true:=by simp [h]
theorem andI {a b:Bool}(h:a=true) (h':b=true):(a&&b)=true:=by simp [h,h']
end

section
variable {P:Program}{Q:Exit->St->Prop}{σ:St}
theorem xBlock_ret {id:Nat}(h:Q .ret σ):xBlock id Q .ret σ:=h
theorem xThen_ret {K:St->Prop}(h:Q .ret σ):xThen K Q .ret σ:=h
theorem AWp.seqK {x y:Code}(h:∀K:St->Prop,(∀σ,AWp P y Q σ->K σ)->AWp P x (xThen K Q) σ):AWp P (.seq x y) Q σ:=AWp.seq (h _ fun _ h=>h)

theorem AWp.loopW {α:Type}{c:Code}(inv:α->St) (m:α->Nat) (pre:α->Prop) (x0:α) (hσ:Weak σ (inv x0)) (h0:pre x0)
  (hr:∀x,pre x->∀K:St->Prop,(∀σ' y,Weak σ' (inv y)->pre y->m y<m x->K σ')->AWp P c (xThen K Q) (inv x)):AWp P (.loop c) Q σ:=by
 refine AWp.weak hσ (AWp.loop inv m pre x0 h0 fun x hx=>AWp.post (AWp.mono (hr x hx (fun σ'=>∃y,Weak σ' (inv y)/\pre y/\m y<m x) fun σ' y h1 h2 h3=>⟨y,h1,h2,h3⟩) ?_));intro e σ1 hq;cases e with
 | normal=>obtain⟨y,h1,h2,h3⟩:=hq; exact⟨inv y,h1,y,rfl,h2,h3⟩
 | exit _=>exact⟨σ1,Weak.refl _,hq⟩
 | goto _=>exact⟨σ1,Weak.refl _,hq⟩
 | ret=>exact⟨σ1,Weak.refl _,hq⟩
 | panic _=>exact⟨σ1,Weak.refl _,hq⟩
 | outgrown=>exact⟨σ1,Weak.refl _,hq⟩

theorem Weak.keepL {n:Nat}{ts ts':Ts}{ls ls':List (List D)}{h h':Heap}(m:Nat) (hk:Keeps ts m ts') (hl:ls.take m=ls') (hh:h=h'):Weak ⟨n,ts,ls,h⟩ ⟨n,ts',ls',h'⟩:=by
 subst hl hh; exact Weak.keep m hk

def V.noL (m:Nat):V->Bool
 | .lptr i _=>Nat.blt i m
 | .gdl _ i _=>Nat.blt i m
 | _=>true
theorem Keeps.c {ts:Ts}{m:Nat}{k:Nat}{v:V}{r:Ts}(h:Ab.get ts k=v) (hv:v.noL m=true) (t:Keeps ts m r):Keeps ts m ((k,v)::r) :=
 .cons h ⟨fun i off e=>by subst e; simpa [V.noL,Nat.blt_eq] using hv,fun c i off e=>by subst e; simpa [V.noL,Nat.blt_eq] using hv⟩ t
end

inductive KeepsT (ts:Ts):Ts->Prop where
 | nil:KeepsT ts []
 | cons {k:Nat}{v:V}{r:Ts}(h:Ab.get ts k=v) (t:KeepsT ts r):KeepsT ts ((k,v)::r)
theorem KeepsT.get {ts ts':Ts}(h:KeepsT ts ts') (k:Nat):Ab.get ts' k=.any\/Ab.get ts' k=Ab.get ts k:=by
 induction h with
 | nil=>exact .inl rfl
 | @cons k' v r h t ih =>
  by_cases e:k'=k
  ·subst e; rw [get_same]; exact .inr h.symm
  ·rw [get_other _ _ e]; exact ih
inductive Pfx {α:Type}:List α->List α->Prop where
 | nil {l:List α}:Pfx [] l
 | cons {a:α}{l l':List α}(h:Pfx l l'):Pfx (a::l) (a::l')
theorem Pfx.take {α:Type}{l l':List α}(h:Pfx l l'):l'.take l.length=l:=by
 induction h with
 | nil=>simp
 | cons _ ih=>simp [ih]

theorem Weak.to {n:Nat}{ts ts':Ts}{ls ls':List (List D)}{h h':Heap}(hk:Keeps ts ls'.length ts') (hl:Pfx ls' ls) (hh:h=h'):Weak ⟨n,ts,ls,h⟩ ⟨n,ts',ls',h'⟩ :=
 Weak.keepL ls'.length hk hl.take hh
theorem Weak.toF {n:Nat}{ts ts':Ts}{ls ls':List (List D)}{h h':Heap}(hk:Keeps ts ls'.length ts') (hl:Pfx ls' ls) (hh:∀id o,h' id=some o->h id=some o):Weak ⟨n,ts,ls,h⟩ ⟨n,ts',ls',h'⟩ :=
 (Weak.to hk hl rfl).trans (Weak.forget hh)

section
variable {P:Program}{Q:Exit->St->Prop}{n:Nat}{ts0 ts:Ts}{ls:List (List D)}{h:Heap}
theorem AWp.loopO {α:Type}{c:Code}(_:KeepsT ts0 ts) (over:α->Ts) (lo:α->List (List D)) (hh:α->Heap) (m:α->Nat) (pre:α->Prop) (x0:α) (h0:pre x0) (hi:Weak ⟨n,ts0,ls,h⟩ ⟨n,over x0++ts,lo x0,hh x0⟩)
  (hr:∀x,pre x->∀K:St->Prop,(∀σ' y,Weak σ' ⟨n,over y++ts,lo y,hh y⟩->pre y->m y<m x->K σ')->AWp P c (xThen K Q) ⟨n,over x++ts,lo x,hh x⟩):AWp P (.loop c) Q ⟨n,ts0,ls,h⟩ :=
 AWp.loopW (fun x=>⟨n,over x++ts,lo x,hh x⟩) m pre x0 hi h0 hr
theorem AWp.seqJ {α:Type}{x y:Code}(_:KeepsT ts0 ts) (over:α->Ts) (lo:α->List (List D)) (hh:α->Heap) (pre:α->Prop)
  (hx:∀K:St->Prop,(∀σ' y,Weak σ' ⟨n,over y++ts,lo y,hh y⟩->pre y->K σ')->AWp P x (xThen K Q) ⟨n,ts0,ls,h⟩) (hy:∀z,pre z->AWp P y Q ⟨n,over z++ts,lo z,hh z⟩):AWp P (.seq x y) Q ⟨n,ts0,ls,h⟩:=by
 refine AWp.seq (AWp.post (AWp.mono (hx (fun σ'=>∃z,Weak σ' ⟨n,over z++ts,lo z,hh z⟩/\pre z) fun σ' z h1 h2=>⟨z,h1,h2⟩) ?_));intro e σ1 hq;cases e with
 | normal=>obtain⟨z,h1,h2⟩:=hq; exact⟨_,h1,hy z h2⟩
 | exit _=>exact⟨σ1,Weak.refl _,hq⟩
 | goto _=>exact⟨σ1,Weak.refl _,hq⟩
 | ret=>exact⟨σ1,Weak.refl _,hq⟩
 | panic _=>exact⟨σ1,Weak.refl _,hq⟩
 | outgrown=>exact⟨σ1,Weak.refl _,hq⟩

theorem AWp.loopH {α:Type}{c:Code}(_:KeepsT ts0 ts) (over:α->Ts) (hh:α->Heap) (m:α->Nat) (pre:α->Prop) (x0:α) (h0:pre x0) (hi:Weak ⟨n,ts0,ls,h⟩ ⟨n,over x0++ts,ls,hh x0⟩)
  (hr:∀x,pre x->∀K:St->Prop,(∀σ' y,Weak σ' ⟨n,over y++ts,ls,hh y⟩->pre y->m y<m x->K σ')->AWp P c (xThen K Q) ⟨n,over x++ts,ls,hh x⟩):AWp P (.loop c) Q ⟨n,ts0,ls,h⟩ :=
 AWp.loopO ‹_› over (fun _=>ls) hh m pre x0 h0 hi hr
theorem AWp.seqJH {α:Type}{x y:Code}(_:KeepsT ts0 ts) (over:α->Ts) (hh:α->Heap) (pre:α->Prop)
  (hx:∀K:St->Prop,(∀σ' y,Weak σ' ⟨n,over y++ts,ls,hh y⟩->pre y->K σ')->AWp P x (xThen K Q) ⟨n,ts0,ls,h⟩) (hy:∀z,pre z->AWp P y Q ⟨n,over z++ts,ls,hh z⟩):AWp P (.seq x y) Q ⟨n,ts0,ls,h⟩ :=
 AWp.seqJ ‹_› over (fun _=>ls) hh pre hx hy
end
end Go.Ab

/-
 The program's data types (package api) as plain Lean types,and how each is laid out in cells.
-/
namespace Go.Ab
open Go Go.RowKit
variable {lou:Lou}

abbrev Str:={ s:List UInt8 // s.length<=maxN }

structure Slc (α:Type) where
 nil:Bool
 l:List α
 ok:l.length<=maxN
 nn:nil=true->l=[]

def Slc.d {α:Type}(k:Nat) (f:α->List D) (s:Slc α):D:=.slice k none s.nil (s.l.map f)
def strC (s:Str):List D:=[.str s.1]
def intC (n:Int):List D:=[.int .i64 n]

end Go.Ab

/-
 What the functions of package schema compute,in plain terms.
-/
namespace Go.Ab.Sch
open Go Go.Ab
end Go.Ab.Sch

/-
 Heaps in normal form; nil slices given a token where they are passed.
-/
namespace Go.Ab
open Go Go.RowKit
variable {lou:Lou}
variable {amb:Amb}

theorem Heap.sub_set {h:Heap}{i:Nat}{o:Option Obj}(hi:h i=none):∀id ob,h id=some ob->(h.set i o) id=some ob:=by
 intro id ob e; rw [Heap.set_other]; exact e;intro he; rw [he,hi] at e; cases e

inductive AsArg (h:Heap):A->A->Prop where
 | refl (x:A):AsArg h x x
 | nil {k k' t:Nat}{o:Obj}(ht:h t=some o):AsArg h (.d (.slice k none true [])) (.d (.slice k' (some t) true []))
 | nil0 {k k':Nat}:AsArg h (.d (.slice k none true [])) (.d (.slice k' none true []))
theorem AsArg.rel {h:Heap}{x y:A}(ha:AsArg h x y){j:J}{w:World}{v:Value}(hh:HRel j w h) (hx:ARel j w x v):ARel j w y v:=by
 cases ha with
 | refl=>exact hx
 | @nil k k' t o ht =>
  have hv':DRel j w (.slice k none true []) v:=hx;cases hv';exact DRel.snil _ _ fun t' e=>by simp at e; subst e; exact(hh.obj _ _ ht).1
 | @nil0 k k' =>
  have hv':DRel j w (.slice k none true []) v:=hx;cases hv';exact DRel.snil _ _ fun t' e=>by cases e

theorem AWp.tok {P:Program}{c:Code}{Q:Exit->St->Prop}{n:Nat}{ts:Ts}{ls:List (List D)}{h:Heap}(k:Nat)
  (hw:∀t,h t=none->AWp P c Q ⟨n,ts,ls,h.set t (some (.tok k 0))⟩):AWp P c Q ⟨n,ts,ls,h⟩:=by
 intro j w jl a hsr;obtain⟨h1,h2⟩:=hsr.hl.newTok k;have hnone:=hsr.hl.1.next_none (Nat.le_refl _);refine wp_mono (hw j.next hnone j.newTok w jl a ⟨hsr.defers,hsr.size,fun i=>(hsr.tmps i).mono h2.toLe (Ext.refl _),h1⟩) fun e a w hq=>AQ.trans h2 hq
theorem AWp.nilTok {P:Program}{c:Code}{Q:Exit->St->Prop}{n:Nat}{ts:Ts}{ls:List (List D)}{h:Heap}(s k t:Nat){o:Obj}{k0:Nat}(hs:get ts s=.a (.d (.slice k0 none true []))) (ht:h t=some o)
  (hw:AWp P c Q ⟨n,(s,.a (.d (.slice k (some t) true [])))::ts,ls,h⟩):AWp P c Q ⟨n,ts,ls,h⟩:=by
 intro j w jl a hsr;refine hw j w jl a ⟨hsr.defers,hsr.size,fun i=>?_,hsr.hl⟩;by_cases e:s=i
 ·subst e;show VRel _ _ _ (get ((s,_)::ts) s) _;rw [get_same];have hv:VRel j w jl (get ts s) (a.tmps.getD s undef):=hsr.tmps s;rw [hs] at hv;exact(AsArg.nil (k':=k) ht).rel hsr.hl.1 hv
 ·show VRel _ _ _ (get ((s,_)::ts) i) _;rw [get_other _ _ e];exact hsr.tmps i
theorem AWp.dropTok {P:Program}{c:Code}{Q:Exit->St->Prop}{n:Nat}{ts:Ts}{ls:List (List D)}{h:Heap}(s:Nat){k:Nat}{tk:Option Nat}{nl:Bool}{rows:List (List D)}(hs:get ts s=.a (.d (.slice k tk nl rows)))
  (hw:AWp P c Q ⟨n,(s,.a (.d (.slice k none nl rows)))::ts,ls,h⟩):AWp P c Q ⟨n,ts,ls,h⟩:=by
 intro j w jl a hsr;refine hw j w jl a ⟨hsr.defers,hsr.size,fun i=>?_,hsr.hl⟩;by_cases e:s=i
 ·subst e;show VRel _ _ _ (get ((s,_)::ts) s) _;rw [get_same];have hv:VRel j w jl (get ts s) (a.tmps.getD s undef):=hsr.tmps s;rw [hs] at hv;have hv':DRel j w (.slice k tk nl rows) (a.tmps.getD s undef):=hv;generalize a.tmps.getD s undef=x at hv' ⊢;cases hv' with
  | snil=>exact DRel.snil _ _ fun t e=>by cases e
  | slice _ _ _ a cap cv hk hn hc hat hr ht=>exact DRel.slice _ _ _ a cap cv hk hn hc hat hr fun t e=>by cases e
 ·show VRel _ _ _ (get ((s,_)::ts) i) _;rw [get_other _ _ e];exact hsr.tmps i
theorem retQ.retF {T:List TI}{rs:List ResultVar}{Post:V->Heap->Prop}{σ:St}{xs:List A}(h':Heap) (h:resAs T σ rs=some xs) (hp:Post (resV xs) h') (hs:∀id o,h' id=some o->σ.h id=some o):retQ T rs Post .ret σ:=⟨.inr rfl,xs,h',h,hs,hp⟩
theorem retQ.normalF {T:List TI}{rs:List ResultVar}{Post:V->Heap->Prop}{σ:St}{xs:List A}(h':Heap) (h:resAs T σ rs=some xs) (hp:Post (resV xs) h') (hs:∀id o,h' id=some o->σ.h id=some o):retQ T rs Post .normal σ:=⟨.inl rfl,xs,h',h,hs,hp⟩
section
variable {P:Program}{dst:Option Tmp}{ty:TypeId}{pos:String}{aft:Array Edge}{g:Option (Nat×Bool)}{ts:Ts}{ls:List (List D)}{h:Heap}
end
def seenM (l:List (List UInt8)):List (D×A):=l.map fun s=>(.str s,.d (.bool true))
def insS (l:List (List UInt8)) (s:List UInt8):List (List UInt8):=if l.contains s then l else l++[s]
theorem seen_find (l:List (List UInt8)) (s:List UInt8):findM (.str s) (seenM l)=some (if l.contains s then some (.d (.bool true)) else none):=by
 induction l with
 | nil=>rfl
 | cons x r ih =>
  simp only [seenM,List.map_cons,findM,eqKey,List.contains_cons];by_cases e:s=x
  ·subst e; simp
  ·have e1:(s==x)=false:=by simpa using e
   have e2:(x==s)=false:=by simpa using fun h=>e h.symm
   simp only [e1,e2,Bool.false_or]; exact ih
theorem seen_upd (l:List (List UInt8)) (s:List UInt8):updM (.str s) (.d (.bool true)) (seenM l)=some (seenM (insS l s)):=by
 induction l with
 | nil=>rfl
 | cons x r ih =>
  simp only [seenM,List.map_cons,updM,eqKey,insS,List.contains_cons];by_cases e:s=x
  ·subst e; simp
  ·have e1:(s==x)=false:=by simpa using e
   have e2:(x==s)=false:=by simpa using fun h=>e h.symm
   have ih':=ih;simp only [seenM,insS] at ih';simp only [e1,e2,Bool.false_or,ih']
   split<;>simp_all
section
variable {P:Program}{dst:Option Tmp}{ty:TypeId}{pos:String}{aft:Array Edge}{g:Option (Nat×Bool)}{ts:Ts}{ls:List (List D)}{h:Heap}
theorem Cert.lookupSeen {t kt et:TypeId}{ti ki ei:TI}{x y:Operand}{id:Nat}{l:List (List UInt8)}{s:List UInt8}(hT:mkTI P t=some ti) (hk:ti.k=.map kt et) (hK:mkTI P kt=some ki) (hE:mkTI P et=some ei) (hz:ei.zero=some (.d (.bool false)))
  (hx:ev ts x=.a (.d (.map id))) (hy:ev ts y=.a (.d (.str s))) (hkk:keyK ki.k (.str s)=true) (hm:h id=some (.map (seenM l))):Cert P (mk dst (.lookup t x y false) ty pos aft g) ts ls h { rh:=true } (.a (.d (.bool (l.contains s)))) ls h:=by
 have h1:=seen_find l s;cases hc:l.contains s with
 | true=>rw [hc] at h1; exact Cert.lookupHit hT hk hK hx hy hkk hm h1
 | false=>rw [hc] at h1; exact Cert.lookupMiss hT hk hK hE hz hx hy hkk hm h1
end
end Go.Ab

/-
 Variables that turn no more: a box that is only read,and a local that becomes data.
-/
namespace Go.Ab
open Go Go.RowKit
variable {lou:Lou}
variable {amb:Amb}

theorem view_of {j:J}{w:World}{b:Nat}{xs:List D}{cs:List Value}{e:TypeId}{n:Nat}(hh:w.heap[b]?=some (.cells cs.toArray e (0,0))) (hx:All2 (DRel j w) xs cs) (hF:xs.length<=j.F b) :
  DRel j w (.view xs) (.pointer (some ⟨b,0,none⟩)):=by
 refine DRel.view xs _ (fun i=>cs.getD i default) ⟨rfl,fun i hi=>?_⟩ fun i hi=>?_
 ·have hi':i<cs.length:=hx.length▸hi;refine⟨by show 0+i<j.F b; omega, ?_⟩;show w.cell? ⟨b,0+i,none⟩=_;rw [Nat.zero_add,cell_of_row w b i cs.toArray e (0,0) hh];simp [hi']
 ·obtain⟨v,hv,hr⟩:=hx.get (List.getElem?_eq_getElem hi);have:cs.getD i default=v:=by rw [List.getD_eq_getElem?_getD,hv]; rfl
  rw [this]; exact hr

section
variable {P:Program}{dst:Option Tmp}{ty:TypeId}{pos:String}{aft:Array Edge}{g:Option (Nat×Bool)}{ts:Ts}{ls:List (List D)}{h:Heap}
theorem Cert.boxV {e:TypeId}{x:Operand}{y:A}(hx:ev ts x=.a y):Cert P (mk dst (.box e x) ty pos aft g) ts ls h {} (.a (.d (.view (cellsA y)))) ls h:=by
 refine Cert.of_run fun L H _ _ j w jl a hl ho=>?_;have h1:=ho x (by simp [Op.operands]);rw [hx] at h1;have h1':ARel j w y (a.eval x):=h1;obtain⟨hd1,hd2⟩:=hl.data (.cells (a.eval x).cells e) (cellsA y).length;refine⟨.value (.pointer (some ⟨w.heap.size,0,none⟩)),_,.pointer (some ⟨w.heap.size,0,none⟩),j.frz w.heap.size (cellsA y).length,jl,by simp [execOp,Instr.box,newVar,newRow],.inl rfl, ?_,hd1,Ext.refl _,hd2⟩
 refine view_of (n:=0) (cs:=(a.eval x).cells.toList) (e:=e) ?_ (h1'.cells.imp fun _ _ h=>h.mono hd2.toLe) (by simp [J.frz]);rw [Array.toArray_toList]; exact heap_alloc_new w _

variable {c:Code}{Q:Exit->St->Prop}{n:Nat}
theorem Weak.freeze {ts':Ts}{ls':List (List D)}{xs:List D}(s i:Nat) (hs:get ts s=.lptr i 0) (hl:Snoc xs ls' i ls) (hk:Keeps ts i ts'):Weak ⟨n,ts,ls,h⟩ ⟨n,(s,.a (.d (.view xs)))::ts',ls',h⟩:=by
 obtain⟨hi,e⟩:=hl.spec;subst hi e;intro j w jl a hsr;have hlr:=hsr.hl;obtain⟨b,hb,hbv⟩:∃b,jl[ls'.length]?=some b/\a.tmps.getD s undef=.pointer (some ⟨b,0,none⟩):=by
  have:=hsr.tmps s;have this:VRel j w jl (get ts s) (a.tmps.getD s undef):=this;rw [hs] at this; exact this
 obtain⟨xs',hxs,cs,te,hheap,hcs,hF⟩:∃xs',(ls'++[xs])[ls'.length]?=some xs'/\Loc1 j w b xs':=hlr.2.each.get' hb;simp at hxs; subst hxs;have hlt:=lt_of_heap hheap;have htr:=hlr.trim (lou:=lou) ls'.length;rw [List.take_left' rfl] at htr;have hnb:b∉jl.take ls'.length:=by
  intro hm;obtain⟨k,hk1,hk2⟩:=List.getElem_of_mem hm;rw [List.length_take] at hk1;have h1:jl[k]?=some b:=by rw [<- hk2,List.getElem_take]; exact List.getElem?_eq_getElem _
  have h2:=(List.getElem?_inj (by omega) hlr.2.nodup).1 (h1.trans hb.symm);omega
 have hnown:¬Own j h (jl.take ls'.length) b:=by
  rintro (hm|⟨id,o,h1,h2⟩)
  ·exact hnb hm
  ·exact hlr.2.apart b (List.mem_of_getElem? hb) (.inr ⟨id,o,h1,h2⟩)
 have hle:Le j w (j.frz b xs.length) w:=⟨Nat.le_refl _,fun _ _=>rfl,fun b'=>by
  simp only [J.frz]
  split
  ·rename_i e; rw [e,hF]; exact Nat.zero_le _
  ·exact Nat.le_refl _,fun _ _ _=>rfl,fun _ _=>.inl rfl⟩
 have hsame:∀b',b'≠b->(j.frz b xs.length).F b'=j.F b':=fun b' hne=>by simp only [J.frz]; rw [if_neg hne]
 have hk2:=htr.1.keep hle (fun b' ho=>⟨rfl,hsame b' (fun e=>hnown (e▸ho))⟩) (fun _ _ _=>rfl) (fun b' hb'=>by rw [hsame b' (by omega)]; exact hlr.1.fresh b' hb');refine⟨j.frz b xs.length,jl.take ls'.length,⟨hsr.defers,hsr.size,fun k=>?_,hk2.1⟩, ?_⟩
 ·by_cases e:s=k
  ·subst e;show VRel _ _ _ (get ((s,_)::ts') s) _;rw [get_same];have hbv:a.tmps.getD s undef=.pointer (some ⟨b,0,none⟩):=hbv;rw [hbv];exact view_of (n:=0) hheap (hcs.imp fun _ _ h=>h.mono hle) (by simp [J.frz])
  ·show VRel _ _ _ (get ((s,_)::ts') k) _;rw [get_other _ _ e];obtain⟨j2,jl2,hs2,_⟩:=Weak.keep (lou:=lou) (n:=n) (ls:=ls'++[xs]) (h:=h) ls'.length hk j w jl a hsr;have hv:VRel j w jl (get ts k) (a.tmps.getD k undef):=hsr.tmps k;rcases hk.get k with e2|⟨e2,hlt1,hlt2⟩
   ·rw [e2]; trivial
   ·rw [<- e2] at hv;cases hx:get ts' k with
    | any=>trivial
    | a x=>rw [hx] at hv; exact ARel.mono hle hv
    | lptr i off =>
     rw [hx] at hv;obtain⟨b2,hb2,e'⟩:=hv;exact⟨b2,by rw [List.getElem?_take_of_lt (hlt1 i off hx)]; exact hb2,e'⟩
    | tup xs=>rw [hx] at hv; obtain⟨cs,e,hh⟩:=hv; exact⟨cs,e,hh.imp fun _ _ h=>h.mono hle⟩
    | gd c x=>rw [hx] at hv; exact⟨fun hc=>ARel.mono hle (hv.1 hc),hv.2⟩
    | full k rows=>rw [hx] at hv; exact⟨DRel.mono hle hv.1,hv.2⟩
    | gdf c k rows=>rw [hx] at hv; exact⟨fun hc=>⟨DRel.mono hle (hv.1 hc).1,(hv.1 hc).2⟩,hv.2⟩
    | gdl c i off =>
     rw [hx] at hv;refine⟨fun hc=>?_,hv.2⟩;obtain⟨b2,hb2,e'⟩:=hv.1 hc;exact⟨b2,by rw [List.getElem?_take_of_lt (hlt2 c i off hx)]; exact hb2,e'⟩
 ·refine { toLe:=hle,size:=Nat.le_refl _,frame:=fun b' _ ho=>⟨rfl,hsame b' fun e=>ho (.inl (e▸List.mem_of_getElem? hb))⟩,own:=fun b' _ ho=>?_,os:=rfl,tape:=rfl,output:=Outs.rfl };rcases (hk2.2 b').1 ho with hm|hm
  ·exact .inl (List.mem_of_mem_take hm)
  ·exact .inr hm
theorem AWp.freeze {ts':Ts}{ls':List (List D)}{xs:List D}(s i:Nat) (hs:get ts s=.lptr i 0) (hl:Snoc xs ls' i ls) (hk:Keeps ts i ts') (hw:AWp P c Q ⟨n,(s,.a (.d (.view xs)))::ts',ls',h⟩):AWp P c Q ⟨n,ts,ls,h⟩ :=
 AWp.weak (Weak.freeze s i hs hl hk) hw
end
theorem slice_dropTok {k:Nat}{tk:Option Nat}{nl:Bool}{rows:List (List D)}(j:J) (w:World) (cv:Value) (h:VRel j w [] (.a (.d (.slice k tk nl rows))) cv):VRel j w [] (.a (.d (.slice k none nl rows))) cv:=by
 have h':DRel j w (.slice k tk nl rows) cv:=h;cases h' with
 | snil=>exact DRel.snil _ _ fun t e=>by cases e
 | slice _ _ _ a cap cv hk hn hc hat hr ht=>exact DRel.slice _ _ _ a cap cv hk hn hc hat hr fun t e=>by cases e
end Go.Ab

/-
 Names and violations in plain terms; the reference's functions of layer 10.
-/
namespace Go.Ab.Sch
open Go Go.Ab
end Go.Ab.Sch

/-
 Layer 10: input types that contain themselves,plainly: the reference's list and what can be reached.
-/
namespace Go.Ab.Sch
open Go Go.Ab

end Go.Ab.Sch

/-
 The checker of package schema as an object.
-/
namespace Go.Ab
open Go Go.RowKit
variable {lou:Lou}
variable {amb:Amb}
theorem Own.recell {j:J}{h:Heap}{c:Nat}{xs ys:List D}(hc:h c=some (.cells xs)){jl:List Nat}{b:Nat}:Own j (h.set c (some (.cells ys))) jl b↔Own j h jl b:=by
 constructor
 ·rintro (h1|⟨id,o,h1,h2⟩)
  ·exact .inl h1
  ·by_cases e:id=c
   ·subst e; rw [Heap.set_same] at h1; simp only [Option.some.injEq] at h1; subst h1;exact .inr ⟨id,_,hc,h2⟩
   ·rw [Heap.set_other _ _ e] at h1; exact .inr ⟨id,o,h1,h2⟩
 ·rintro (h1|⟨id,o,h1,h2⟩)
  ·exact .inl h1
  ·by_cases e:id=c
   ·subst e; rw [hc] at h1; simp only [Option.some.injEq] at h1; subst h1;exact .inr ⟨id,_,Heap.set_same _ _ _,h2⟩
   ·exact .inr ⟨id,o,by rw [Heap.set_other _ _ e]; exact h1,h2⟩
theorem HRel.recell {j:J}{w:World}{h:Heap}{c:Nat}{xs ys:List D}(hr:HRel j w h) (hc:h c=some (.cells xs)) (hy:∀cs,All2 (DRel j w) xs cs->All2 (DRel j w) ys cs):HRel j w (h.set c (some (.cells ys))):=by
 have key:∀id o,(h.set c (some (.cells ys))) id=some o->∃o',h id=some o'/\blkOf j id o=blkOf j id o':=by
  intro id o ho;by_cases e:id=c
  ·subst e; rw [Heap.set_same] at ho; simp only [Option.some.injEq] at ho; subst ho;exact⟨_,hc,rfl⟩
  ·rw [Heap.set_other _ _ e] at ho; exact⟨o,ho,rfl⟩
 refine⟨fun id o ho=>?_,fun id1 o1 id2 o2 b h1 h2 e1 e2=>?_,hr.fresh⟩
 ·by_cases e:id=c
  ·subst e; rw [Heap.set_same] at ho; simp only [Option.some.injEq] at ho; subst ho;obtain⟨hn,cs,te,h1,h2,h3⟩:=hr.obj _ _ hc;exact⟨hn,cs,te,h1,hy _ h2,h3⟩
  ·rw [Heap.set_other _ _ e] at ho; exact hr.obj _ _ ho
 ·obtain⟨p1,hp1,ep1⟩:=key _ _ h1;obtain⟨p2,hp2,ep2⟩:=key _ _ h2;exact hr.inj _ _ _ _ b hp1 hp2 (ep1▸e1) (ep2▸e2)
theorem AWp.recell {P:Program}{c:Code}{Q:Exit->St->Prop}{n:Nat}{ts:Ts}{ls:List (List D)}{h:Heap}(id:Nat){xs:List D}(ys:List D) (hc:h id=some (.cells xs)) (hy:∀j w cs,HRel j w h->All2 (DRel j w) xs cs->All2 (DRel j w) ys cs)
  (hw:AWp P c Q ⟨n,ts,ls,h.set id (some (.cells ys))⟩):AWp P c Q ⟨n,ts,ls,h⟩:=by
 intro j w jl a hsr;have hl:=hsr.hl;refine wp_mono (hw j w jl a ⟨hsr.defers,hsr.size,hsr.tmps,⟨hl.1.recell hc (hy j w · hl.1),⟨hl.2.each,hl.2.nodup,fun b hb ho=>hl.2.apart b hb ((Own.recell hc).1 ho)⟩⟩⟩) fun e a w hq=>AQ.trans ?_ hq;exact { Evolve.refl j _ (Own j h jl) with own:=fun b _ ho=>(Own.recell hc).1 ho }
theorem AWp.relocal {P:Program}{c:Code}{Q:Exit->St->Prop}{n:Nat}{ts:Ts}{ls:List (List D)}{h:Heap}(i:Nat){xs:List D}(ys:List D) (hc:ls[i]?=some xs) (hy:∀j w cs,HRel j w h->All2 (DRel j w) xs cs->All2 (DRel j w) ys cs)
  (hw:AWp P c Q ⟨n,ts,ls.set i ys,h⟩):AWp P c Q ⟨n,ts,ls,h⟩:=by
 intro j w jl a hsr;have hl:=hsr.hl;have hea:All2 (fun xs b=>Loc1 j w b xs) (ls.set i ys) jl:=by
  refine All2.of_get (by rw [List.length_set,hl.2.each.length]) fun k x b hx hb=>?_;rw [List.getElem?_set] at hx
  split at hx
  ·rename_i e
   subst e
   split at hx
   ·simp only [Option.some.injEq] at hx; subst hx;obtain⟨b',hb',cs,te,h1,h2,h3⟩:=hl.2.each.get hc;rw [hb] at hb'; simp only [Option.some.injEq] at hb'; subst hb';exact⟨cs,te,h1,hy j w _ hl.1 h2,h3⟩
   ·cases hx
  ·obtain⟨b',hb',h1⟩:=hl.2.each.get hx;rw [hb] at hb'; simp only [Option.some.injEq] at hb'; subst hb';exact h1
 exact hw j w jl a ⟨hsr.defers,hsr.size,hsr.tmps,⟨hl.1,⟨hea,hl.2.nodup,hl.2.apart⟩⟩⟩
end Go.Ab
namespace Go.Ab.Sch
open Go Go.Ab
end Go.Ab.Sch

/-
 Models: functions that may have no answer; the rules by which a walk follows its function's model.
-/
namespace Go.Ab
open Go Go.RowKit
variable {lou:Lou}
variable {amb:Amb}

structure Sl (α:Type) where
 nl:Bool
 l:List α
abbrev Bs:=List UInt8
def Sl.d {α:Type}(k:Nat) (f:α->List D) (t:Option Nat) (s:Sl α):D:=.slice k t s.nl (s.l.map f)
def Sl.nil {α:Type}:Sl α:=⟨true,[]⟩
def strE (s:Bs):List D:=[.str s]
def boolE (b:Bool):List D:=[.bool b]
def intE (k:IntKind) (n:Int):List D:=[.int k n]

def addC (a b:Int):Option Int:=if -9223372036854775808<=a+b/\a+b<=9223372036854775807 then some (a+b) else none
def idxC {α:Type}(l:List α) (n:Int):Option α:=if 0<=n then l[n.toNat]? else none
def catC (a b:Bs):Option Bs:=if a.length+b.length<=maxS then some (a++b) else none
def appC {α:Type}(z:Nat) (s r:Sl α):Option (Sl α):=if (s.l.length+r.l.length)*z<=maxN/\s.l.length+r.l.length<=maxN then some ⟨s.nl&&r.l.isEmpty,s.l++r.l⟩ else none
def partC {α:Type}(s:Sl α) (lo hi:Option Int):Option (Sl α) :=
 if 0<=lo.getD 0/\lo.getD 0<=hi.getD s.l.length/\hi.getD s.l.length<=s.l.length then some ⟨s.nl,(s.l.take (hi.getD s.l.length).toNat).drop (lo.getD 0).toNat⟩ else none
def cutC (s:Bs) (lo hi:Option Int):Option Bs :=
 if 0<=lo.getD 0/\lo.getD 0<=hi.getD s.length/\hi.getD s.length<=s.length then some ((s.take (hi.getD s.length).toNat).drop (lo.getD 0).toNat) else none
def guardO {α β:Type}(c:Bool) (o:Option α) (d:α) (k:α->Option β):Option β:=if c=true then o.bind k else k d

theorem addC_some {a b x:Int}(h:addC a b=some x):x=a+b /\ -9223372036854775808<=a+b/\a+b<=9223372036854775807:=by
 unfold addC at h; split at h
 ·rename_i h2; simp at h; exact⟨h.symm,h2⟩
 ·cases h
theorem idxC_some {α:Type}{l:List α}{n:Int}{x:α}(h:idxC l n=some x):0<=n/\l[n.toNat]?=some x:=by
 unfold idxC at h; split at h
 ·rename_i h2; exact⟨h2,h⟩
 ·cases h
theorem catC_some {a b x:Bs}(h:catC a b=some x):x=a++b/\a.length+b.length<=maxS:=by
 unfold catC at h; split at h
 ·rename_i h2; simp at h; exact⟨h.symm,h2⟩
 ·cases h
theorem appC_some {α:Type}{z:Nat}{s r x:Sl α}(h:appC z s r=some x):x=⟨s.nl&&r.l.isEmpty,s.l++r.l⟩/\(s.l.length+r.l.length)*z<=maxN/\s.l.length+r.l.length<=maxN:=by
 unfold appC at h; split at h
 ·rename_i h2; simp only [Option.some.injEq] at h; exact⟨h.symm,h2⟩
 ·cases h
theorem guardO_some {α β:Type}{c:Bool}{o:Option α}{d:α}{k:α->Option β}{r:β}(h:guardO c o d k=some r):∃x,(c=true->o=some x)/\k x=some r:=by
 unfold guardO at h; split at h
 ·obtain⟨x,h1,h2⟩:=Option.bind_eq_some_iff.1 h; exact⟨x,fun _=>h1,h2⟩
 ·rename_i h2; exact⟨d,fun e=>absurd e h2,h⟩
theorem bindO_some {α β:Type}{o:Option α}{k:α->Option β}{r:β}(h:o.bind k=some r):∃x,o=some x/\k x=some r:=Option.bind_eq_some_iff.1 h
theorem condT {α:Type}{c:Bool}{A B:Option α}{r:α}(hc:c=true) (h:(bif c then A else B)=some r):A=some r:=by subst hc; exact h
theorem condF {α:Type}{c:Bool}{A B:Option α}{r:α}(hc:c=false) (h:(bif c then A else B)=some r):B=some r:=by subst hc; exact h

section
variable {P:Program}{dst:Option Tmp}{ty:TypeId}{pos:String}{aft:Array Edge}{g:Option (Nat×Bool)}{ts:Ts}{ls:List (List D)}{h:Heap}{α:Type}{f:α->List D}
theorem Cert.lenM' {t e:TypeId}{ti:TI}{x:Operand}{ats:Array TypeId}{k:Nat}{tok:Option Nat}{s:Sl α}(hT:mkTI P t=some ti) (hk:ti.k=.slice e) (hat:ats[0]?=some t)
  (hx:ev ts x=.a (.d (s.d k f tok))):Cert P (mk dst (.call { callee:=.builtin .len,args:=#[x],argTypes:=ats }) ty pos aft g) ts ls h {} (.a (.d (.int .i64 (s.l.length:Int)))) ls h:=by
 have:=Cert.lenA (lou:=lou) (P:=P) (dst:=dst) (ty:=ty) (pos:=pos) (aft:=aft) (g:=g) (ls:=ls) (h:=h) hT hk hat hx
 rwa [List.length_map] at this
theorem Cert.idxM {t e:TypeId}{ti ei:TI}{x ix:Operand}{tok:Option Nat}{s:Sl α}{ik:IntKind}{n:Int}{y:α}{k:Nat}(hT:mkTI P t=some ti) (hk:ti.k=.slice e) (hE:mkTI P e=some ei)
  (hx:ev ts x=.a (.d (s.d k f tok))) (hi:ev ts ix=.a (.d (.int ik n))) (hkk:k=ei.size) (hr:idxC s.l n=some y) :
  Cert P (mk dst (.indexAddr t x ix) ty pos aft g) ts ls h {} (.a (.d (.view (f y)))) ls h:=by
 obtain⟨h1,h2⟩:=idxC_some hr;exact Cert.indexA hT hk hE hx hi hkk h1 (by rw [List.getElem?_map,h2]; rfl)
theorem Cert.idxMn {t e:TypeId}{ti ei:TI}{x ix:Operand}{tok:Option Nat}{s:Sl α}{ik:IntKind}{n:Nat}{y:α}{k:Nat}(hT:mkTI P t=some ti) (hk:ti.k=.slice e) (hE:mkTI P e=some ei)
  (hx:ev ts x=.a (.d (s.d k f tok))) (hi:ev ts ix=.a (.d (.int ik (n:Int)))) (hkk:k=ei.size) (hr:s.l[n]?=some y) :
  Cert P (mk dst (.indexAddr t x ix) ty pos aft g) ts ls h {} (.a (.d (.view (f y)))) ls h :=
 Cert.indexA hT hk hE hx hi hkk (by omega) (by rw [Int.toNat_natCast,List.getElem?_map,hr]; rfl)
theorem Cert.idxS {t:TypeId}{ti:TI}{x ix:Operand}{s:Bs}{ik:IntKind}{n:Int}{c:UInt8}(hT:mkTI P t=some ti) (hk:ti.k=.str) (hx:ev ts x=.a (.d (.str s))) (hi:ev ts ix=.a (.d (.int ik n))) (hr:idxC s n=some c) :
  Cert P (mk dst (.index t x ix) ty pos aft g) ts ls h {} (.a (.d (.int .u8 (c.toNat:Int)))) ls h:=by
 obtain⟨h1,h2⟩:=idxC_some hr;exact Cert.indexS hT hk hx hi h1 h2
theorem Cert.idxSn {t:TypeId}{ti:TI}{x ix:Operand}{s:Bs}{ik:IntKind}{n:Nat}{c:UInt8}(hT:mkTI P t=some ti) (hk:ti.k=.str) (hx:ev ts x=.a (.d (.str s))) (hi:ev ts ix=.a (.d (.int ik (n:Int)))) (hr:s[n]?=some c) :
  Cert P (mk dst (.index t x ix) ty pos aft g) ts ls h {} (.a (.d (.int .u8 (c.toNat:Int)))) ls h :=
 Cert.indexS hT hk hx hi (by omega) (by rw [Int.toNat_natCast]; exact hr)
theorem Cert.addM {t u:TypeId}{x y:Operand}{m n r:Int}(hx:ev ts x=.a (.d (.int .i64 m))) (hy:ev ts y=.a (.d (.int .i64 n))) (hr:addC m n=some r):Cert P (mk dst (.binOp .add t x y u) ty pos aft g) ts ls h {} (.a (.d (.int .i64 r))) ls h:=by
 obtain⟨e,h1,h2⟩:=addC_some hr;subst e; exact Cert.addI hx hy h1 h2
theorem Cert.catM {t u:TypeId}{x y:Operand}{a b r:Bs}(hx:ev ts x=.a (.d (.str a))) (hy:ev ts y=.a (.d (.str b))) (hr:catC a b=some r):Cert P (mk dst (.binOp .add t x y u) ty pos aft g) ts ls h {} (.a (.d (.str r))) ls h:=by
 obtain⟨e,h1⟩:=catC_some hr;subst e; exact Cert.concat hx hy h1
theorem Cert.partA {t e:TypeId}{ti ei:TI}{x:Operand}{lo hi:Option Operand}{k:Nat}{tok:Option Nat}{nl:Bool}{rows:List (List D)}{l r:Nat}(hT:mkTI P t=some ti) (hk:ti.k=.slice e) (hE:mkTI P e=some ei)
  (hx:ev ts x=.a (.d (.slice k tok nl rows))) (hkk:k=ei.size)
  (hlo:match lo with|none=>l=0|some o=>∃ik n,ev ts o=.a (.d (.int ik n))/\0<=n/\l=n.toNat) (hhi:match hi with|none=>r=rows.length|some o=>∃ik n,ev ts o=.a (.d (.int ik n))/\0<=n/\r=n.toNat)
  (hlr:l<=r) (hrr:r<=rows.length):Cert P (mk dst (.slice t x lo hi none) ty pos aft g) ts ls h {} (.a (.d (.slice k none nl ((rows.take r).drop l)))) ls h:=by
 cases nl with
 | false=>exact Cert.part hT hk hE hx hkk hlo hhi hlr hrr
 | true =>
  refine Cert.of_ops fun j w jl act ho=>?_;have h1:=ho x (by simp [Op.operands]);rw [hx] at h1;obtain⟨b,cap,e1,hn,hc,hnil,hnone,hkr,hb⟩:=rel_slice h1;cases b with
  | some b=>simp at hnil
  | none =>
   obtain⟨rfl,rfl⟩:=hnone rfl;simp only [List.length_nil,Nat.le_zero] at hrr;subst hrr;have hl0:l=0:=by omega
   subst hl0;have hb1:(match lo.map act.eval with|some v=>Instr.sliceBound v 0 .sliceB|none=>pure 0).run P w=.ok 0 w:=by
    cases lo with
    | none=>simp
    | some o =>
     obtain⟨ik,n,h2,h3,h4⟩:=hlo;have:=bound_run (P:=P) (cap:=0) h2 (ho o (by simp [Op.operands])) h3 (by omega) .sliceB;simp only [Option.map_some]; rw [this,<- h4]
   have hb2:(match hi.map act.eval with|some v=>Instr.sliceBound v 0 .sliceAcap|none=>pure ([]:List (List D)).length).run P w=.ok 0 w:=by
    cases hi with
    | none=>simp
    | some o =>
     obtain⟨ik,n,h2,h3,h4⟩:=hhi;have:=bound_run (P:=P) (cap:=0) h2 (ho o (by simp [Op.operands])) h3 (by omega) .sliceAcap;simp only [Option.map_some]; rw [this,<- h4]
   refine⟨.slice none 0 0, ?_,DRel.snil _ _ (by simp)⟩;have:=slice_run hT hk hE (a:=none) (len:=0) (cap:=0) hb1 hb2;simp only [List.length_nil] at e1;simp only [execOp,Sem.run_bind,e1,Option.map_none,this,Result.andThen,Sem.run_pure];simp
theorem Cert.partM {t e:TypeId}{ti ei:TI}{x:Operand}{lo hi:Option Operand}{l r:Option Int}{k:Nat}{tok:Option Nat}{s y:Sl α}(hT:mkTI P t=some ti) (hk:ti.k=.slice e) (hE:mkTI P e=some ei)
  (hx:ev ts x=.a (.d (s.d k f tok))) (hkk:k=ei.size)
  (hlo:match lo,l with|none,none=>True|some o,some n=>ev ts o=.a (.d (.int .i64 n))|_,_=>False) (hhi:match hi,r with|none,none=>True|some o,some n=>ev ts o=.a (.d (.int .i64 n))|_,_=>False)
  (hr:partC s l r=some y):Cert P (mk dst (.slice t x lo hi none) ty pos aft g) ts ls h {} (.a (.d (y.d k f none))) ls h:=by
 unfold partC at hr
 split at hr
 ·rename_i hc
  simp only [Option.some.injEq] at hr;have:=Cert.partA (lou:=lou) (P:=P) (dst:=dst) (ty:=ty) (pos:=pos) (aft:=aft) (g:=g) (ls:=ls) (h:=h) (l:=(l.getD 0).toNat) (r:=(r.getD s.l.length).toNat) hT hk hE (lo:=lo) (hi:=hi) hx hkk
   (by cases lo with
     | none=>cases l with
      | none=>rfl
      | some n=>exact hlo.elim
     | some o=>cases l with
      | none=>exact hlo.elim
      | some n=>exact⟨_,n,hlo,hc.1,rfl⟩)
   (by cases hi with
     | none=>cases r with
      | none=>simp
      | some n=>exact hhi.elim
     | some o=>cases r with
      | none=>exact hhi.elim
      | some n=>exact⟨_,n,hhi,Int.le_trans hc.1 hc.2.1,rfl⟩) (by omega) (by simp; omega)
  rw [<- List.map_take,<- List.map_drop] at this;rw [<- hr]; exact this
 ·cases hr
theorem Cert.appM {t u e:TypeId}{ti ui ei:TI}{x y:Operand}{tk k k' m:Nat}{tok':Option Nat}{s r v:Sl α}{z:A}(hT:mkTI P t=some ti) (hk:ti.k=.slice e) (hE:mkTI P e=some ei) (hU:mkTI P u=some ui) (huk:∃e,ui.k=.slice e)
  (hz:ei.zero=some z) (hzs:(cellsA z).length=ei.size) (hsz:ei.size≠0) (hx:ev ts x=.a (.d (s.d k f (some tk)))) (hy:ev ts y=.a (.d (r.d k' f tok'))) (hkk:k=ei.size) (hkk':k'=ei.size)
  (htk:h tk=some (.tok ei.size m)) (hm:m=s.l.length) (hr:appC ei.bytes s r=some v) :
  Cert P (mk dst (.call { callee:=.builtin .append,args:=#[x,y],argTypes:=#[t,u] }) ty pos aft g) ts ls h { rh:=true,wh:=true } (.a (.d (v.d k f (some tk)))) ls (h.set tk (some (.tok ei.size v.l.length))):=by
 obtain⟨e,h1,h2⟩:=appC_some hr;subst e;have:=Cert.append (lou:=lou) (P:=P) (dst:=dst) (ty:=ty) (pos:=pos) (aft:=aft) (g:=g) (ls:=ls) hT hk hE hU (.inl huk) hz hzs hsz hx hy (.inl hkk) (.inl hkk') htk (by rw [hm]; simp) (by simpa using h1) (by simpa using h2);simp only [List.length_map,List.length_append] at this ⊢;rw [<- List.map_append,List.isEmpty_map,<- hkk] at this;rw [<- hkk];exact this
end
section
variable {P:Program}{dst:Option Tmp}{ty:TypeId}{pos:String}{aft:Array Edge}{g:Option (Nat×Bool)}{ts:Ts}{ls:List (List D)}{h:Heap}{α:Type}{f:α->List D}
theorem nil_any {k k':Nat}(j:J) (w:World) (cv:Value) (h:VRel j w [] (.a (.d (.slice k none true []))) cv):VRel j w [] (.a (.d (.slice k' none true []))) cv:=by
 have h':DRel j w (.slice k none true []) cv:=h;cases h';exact DRel.snil _ _ fun t e=>by cases e
theorem Cert.assignNil {x:Operand}{k k':Nat}(hx:ev ts x=.a (.d (.slice k none true []))):Cert P (mk dst (.assign x) ty pos aft g) ts ls h {} (.a (.d (.slice k' none true []))) ls h :=
 (Cert.assign hx).weakV fun j w _ cv h=>nil_any j w cv h
theorem Cert.appF {t u e:TypeId}{ti ui ei:TI}{s:Nat}{y:Operand}{k k':Nat}{tok':Option Nat}{nl':Bool}{rows rows':List (List D)}{z:A}(hT:mkTI P t=some ti) (hkt:ti.k=.slice e) (hE:mkTI P e=some ei) (hU:mkTI P u=some ui) (huk:(∃e,ui.k=.slice e)\/ui.k=.str)
  (hz:ei.zero=some z) (hzs:(cellsA z).length=ei.size) (hsz:ei.size≠0) (hx:get ts s=.full k rows) (hy:ev ts y=.a (.d (.slice k' tok' nl' rows'))) (hys:∀q,y=.tmp q->s≠q) (hkk:k=ei.size) (hkk':k'=ei.size\/rows'=[])
  (hfit:(rows.length+rows'.length)*ei.bytes<=maxN) (hlen:rows.length+rows'.length<=maxN) :
  Cert P (mk dst (.call { callee:=.builtin .append,args:=#[.tmp s,y],argTypes:=#[t,u] }) ty pos aft g) ts ls h {} (.a (.d (.slice ei.size none false (rows++rows')))) ls h:=by
 intro L H _ _ j w jl a hl ho K Q hK;have h1:VRel j w jl (get ts s) (a.eval (.tmp s)):=ho (.tmp s) (by simp [Op.operands,Call.operands]);rw [hx] at h1;obtain⟨hd,ad,hv⟩:=h1;obtain⟨hl1,hev1⟩:=hl.newTokM k rows.length;have hnone:=hl.1.next_none (Nat.le_refl _);have hd1:DRel (j.newTokM rows.length) w (.slice k (some j.next) false rows) (a.eval (.tmp s)):=by
  have hd2:=DRel.mono hev1.toLe hd;rw [hv] at hd2 ⊢;cases hd2 with
  | slice _ _ _ a' cap f hk hn hc hat hr ht =>
   refine DRel.slice _ _ _ _ _ f hk hn hc hat hr fun t' e'=>?_;simp only [Option.some.injEq] at e';subst e';exact⟨by simp [J.newTokM],fun kk hkk=>by simp [J.newTokM] at hkk; subst hkk; exact⟨Nat.le_refl _,fun _=>.inl ⟨rfl,rfl⟩⟩⟩
 have hy2:ev ((s,V.a (.d (.slice k (some j.next) false rows)))::ts) y=.a (.d (.slice k' tok' nl' rows')):=by
  cases y with
  | tmp q=>simp only [ev] at hy ⊢; rw [get_other _ _ (hys q rfl)]; exact hy
  | _=>exact hy
 have hc:=Cert.append (lou:=lou) (P:=P) (dst:=dst) (ty:=ty) (pos:=pos) (aft:=aft) (g:=g) (ls:=L) (h:=H.set j.next (some (.tok k rows.length))) (ts:=(s,V.a (.d (.slice k (some j.next) false rows)))::ts) (x:=.tmp s) (y:=y) (tk:=j.next) (m:=rows.length)
  hT hkt hE hU huk hz hzs hsz (by simp only [ev]; rw [get_same]) hy2 (.inl hkk) hkk' (by rw [Heap.set_same,hkk]) rfl hfit hlen
 refine hc.step (j.newTokM rows.length) w jl a hl1 (fun x hxm=>?_) K Q ?_
 ·cases x with
  | tmp q =>
   by_cases e:s=q
   ·subst e;simp only [ev]; rw [get_same];exact hd1
   ·simp only [ev]; rw [get_other _ _ e];exact(ho (.tmp q) hxm).mono hev1.toLe (Ext.refl _)
  | const c=>exact(ho (.const c) hxm).mono hev1.toLe (Ext.refl _)
  | global c=>trivial
  | func c=>exact(ho (.func c) hxm).mono hev1.toLe (Ext.refl _)
 ·rintro v l hh cv j' w' jl' ⟨rfl,rfl,rfl⟩ hvr hl' hx' hev;obtain⟨hl2,hev2⟩:=hl'.forget (h':=H) (fun id o hi=>by
   have hne:id≠j.next:=fun e=>by rw [e,hnone] at hi; cases hi
   show ((H.set _ _).set _ _) id=_;rw [Heap.set_other _ _ hne,Heap.set_other _ _ hne]; exact hi)
  refine hK _ _ _ cv j' w' jl' ⟨rfl,rfl,rfl⟩ ?_ hl2 hx' ((hev1.trans hev).trans hev2);have hvr':DRel j' w' (.slice ei.size (some j.next) (false&&rows'.isEmpty) (rows++rows')) cv:=hvr;simp only [Bool.false_and] at hvr';cases hvr' with
  | slice _ _ _ a' cap f hk hn hc hat hr ht=>exact DRel.slice _ _ _ _ _ f hk hn hc hat hr fun t e=>by cases e
theorem Cert.appFM {t u e:TypeId}{ti ui ei:TI}{s k k':Nat}{y:Operand}{tok':Option Nat}{x r v:Sl α}{z:A}(hT:mkTI P t=some ti) (hkt:ti.k=.slice e) (hE:mkTI P e=some ei) (hU:mkTI P u=some ui) (huk:∃e,ui.k=.slice e)
  (hz:ei.zero=some z) (hzs:(cellsA z).length=ei.size) (hsz:ei.size≠0) (hx:get ts s=.full k (x.l.map f)) (hnl:x.nl=false) (hy:ev ts y=.a (.d (r.d k' f tok'))) (hys:∀q,y=.tmp q->s≠q) (hkk:k=ei.size) (hkk':k'=ei.size)
  (hr:appC ei.bytes x r=some v) :
  Cert P (mk dst (.call { callee:=.builtin .append,args:=#[.tmp s,y],argTypes:=#[t,u] }) ty pos aft g) ts ls h {} (.a (.d (v.d k f none))) ls h:=by
 obtain⟨e,h1,h2⟩:=appC_some hr;subst e;have:=Cert.appF (lou:=lou) (P:=P) (dst:=dst) (ty:=ty) (pos:=pos) (aft:=aft) (g:=g) (ls:=ls) (h:=h) hT hkt hE hU (.inl huk) hz hzs hsz hx hy hys hkk (.inl hkk') (by simpa using h1) (by simpa using h2);rw [<- List.map_append,<- hkk] at this;simp only [hnl,Bool.false_and];exact this
theorem equalIn_nil {t e:TypeId}(hu:P.underlying t=some (.slice e)) (d:Nat) (b:Option Addr) (n cap:Nat) (w:World):(Op.equalIn (d+1) t (.slice b n cap) (.slice none 0 0)).run P w=.ok b.isNone w:=by
 unfold Op.equalIn;simp only [Sem.run_bind,run_under hu,Result.andThen];cases b<;>simp
theorem equal_nil {t e:TypeId}(hu:P.underlying t=some (.slice e)) (b:Option Addr) (n cap:Nat) (w:World):(Op.equal t (.slice b n cap) (.slice none 0 0)).run P w=.ok b.isNone w:=by
 exact equalIn_nil hu 9999 b n cap w
theorem guard_nil {t e:TypeId}{op:BinOp}(x y:Operand) (b:Option Addr) (n cap:Nat) (w:World):(eqGuard op t x y (.slice b n cap) (.slice none 0 0)).run P w=.ok () w:=by
 unfold eqGuard;simp
theorem Cert.eqNil {t e u:TypeId}{ti:TI}{x:Operand}{k:Nat}{tok:Option Nat}{nl:Bool}{rows:List (List D)}(hT:mkTI P t=some ti) (hk:ti.k=.slice e) (hx:ev ts x=.a (.d (.slice k tok nl rows))) :
  Cert P (mk dst (.binOp .eql t x (.const (.slice none 0 0)) u) ty pos aft g) ts ls h {} (.a (.d (.bool nl))) ls h :=
 Cert.of_ops fun j w jl act ho=>by
  have h1:=ho x (by simp [Op.operands]);rw [hx] at h1;obtain⟨b,cap,e1,_,_,hnil,_⟩:=rel_slice h1;have hu:=slice_of hT hk;subst hnil;have e2:act.eval (.const (.slice none 0 0))=.slice none 0 0:=rfl;refine⟨.bool b.isNone, ?_,DRel.bool _⟩;simp only [execOp,e1,e2,Sem.run_bind,guard_nil (e:=e),Result.andThen,binOp,Sem.run_map,equal_nil hu,Sem.run_pure]
theorem Cert.maxM {x y:Operand}{ats:Array TypeId}{k:IntKind}{m n:Int}(hx:ev ts x=.a (.d (.int k m))) (hy:ev ts y=.a (.d (.int k n))) :
  Cert P (mk dst (.call { callee:=.builtin .max,args:=#[x,y],argTypes:=ats }) ty pos aft g) ts ls h {} (.a (.d (.int k (if n>m then n else m)))) ls h :=
 Cert.of_ops fun j w jl act ho=>by
  have h1:=ho x (by simp [Op.operands,Call.operands]);have h2:=ho y (by simp [Op.operands,Call.operands]);rw [hx] at h1; rw [hy] at h2;exact⟨_,by simp only [execOp,resolve,invoke,builtin,List.map_toArray,List.map_cons,List.map_nil,rel_int h1,rel_int h2]; simp [run_max_int2],DRel.int _ _⟩
theorem Cert.minM {x y:Operand}{ats:Array TypeId}{k:IntKind}{m n:Int}(hx:ev ts x=.a (.d (.int k m))) (hy:ev ts y=.a (.d (.int k n))) :
  Cert P (mk dst (.call { callee:=.builtin .min,args:=#[x,y],argTypes:=ats }) ty pos aft g) ts ls h {} (.a (.d (.int k (if n<m then n else m)))) ls h :=
 Cert.of_ops fun j w jl act ho=>by
  have h1:=ho x (by simp [Op.operands,Call.operands]);have h2:=ho y (by simp [Op.operands,Call.operands]);rw [hx] at h1; rw [hy] at h2;exact⟨_,by simp only [execOp,resolve,invoke,builtin,List.map_toArray,List.map_cons,List.map_nil,rel_int h1,rel_int h2]; simp [run_min_int2],DRel.int _ _⟩
theorem Cert.cutM {t:TypeId}{ti:TI}{x:Operand}{lo hi:Option Operand}{l r:Option Int}{s y:Bs}(hT:mkTI P t=some ti) (hk:ti.k=.str) (hx:ev ts x=.a (.d (.str s)))
  (hlo:match lo,l with|none,none=>True|some o,some n=>ev ts o=.a (.d (.int .i64 n))|_,_=>False) (hhi:match hi,r with|none,none=>True|some o,some n=>ev ts o=.a (.d (.int .i64 n))|_,_=>False)
  (hne:lo.isSome=true\/hi.isSome=true) (hr:cutC s l r=some y):Cert P (mk dst (.slice t x lo hi none) ty pos aft g) ts ls h {} (.a (.d (.str y))) ls h:=by
 unfold cutC at hr
 split at hr
 ·rename_i hc
  simp only [Option.some.injEq] at hr;cases lo with
  | none =>
   cases l with
   | some n=>exact hlo.elim
   | none =>
    cases hi with
    | none=>simp at hne
    | some o =>
     cases r with
     | none=>exact hhi.elim
     | some n =>
      have:=Cert.cutH (lou:=lou) (P:=P) (dst:=dst) (ty:=ty) (pos:=pos) (aft:=aft) (g:=g) (ls:=ls) (h:=h) hT hk hx hhi (by simpa using hc.2.1) (by simpa using hc.2.2);rw [<- hr]; simpa using this
  | some o =>
   cases l with
   | none=>exact hlo.elim
   | some n =>
    cases hi with
    | none =>
     cases r with
     | some m=>exact hhi.elim
     | none =>
      have:=Cert.cutL (lou:=lou) (P:=P) (dst:=dst) (ty:=ty) (pos:=pos) (aft:=aft) (g:=g) (ls:=ls) (h:=h) hT hk hx hlo (by simpa using hc.1) (by simpa using hc.2.1);rw [<- hr]; simpa using this
    | some o' =>
     cases r with
     | none=>exact hhi.elim
     | some m =>
      have:=Cert.cutLH (lou:=lou) (P:=P) (dst:=dst) (ty:=ty) (pos:=pos) (aft:=aft) (g:=g) (ls:=ls) (h:=h) hT hk hx hlo hhi (by simpa using hc.1) (by simpa using hc.2.1) (by simpa using hc.2.2);rw [<- hr];simp only [Option.getD_some];rw [List.drop_take];exact this
 ·cases hr
end
theorem AOps.sLen {P:Program}{ops:Array Oper}{rest:List Oper}{Q:St->Prop}{n:Nat}{ts:Ts}{ls:List (List D)}{h:Heap}{d:Nat}{ty:TypeId}{pos:String}{aft:Array Edge}{t e:TypeId}{ti:TI}{x:Operand}{ats:Array TypeId}{k:Nat}{tok:Option Nat}{α:Type}{f:α->List D}{s:Sl α}
  (hT:mkTI P t=some ti) (hk:ti.k=.slice e) (hat:ats[0]?=some t) (hx:ev ts x=.a (.d (s.d k f tok))) (hd:Nat.blt d n=true)
  (hr:s.l.length<=140737488355328->AOps P ops rest Q ⟨n,(d,.a (.d (.int .i64 (s.l.length:Int))))::ts,ls,h⟩) :
  AOps P ops (⟨some d,.call { callee:=.builtin .len,args:=#[x],argTypes:=ats },ty,pos,aft,none⟩::rest) Q ⟨n,ts,ls,h⟩:=by
 intro j w jl a hsr Qc hk2;have hlen:s.l.length<=140737488355328:=by
  have h1:=ev_rel hsr.tmps x;rw [hx] at h1;obtain⟨_,_,_,hn,_⟩:=rel_slice h1
  simpa [maxN] using hn
 exact AOps.s0 (Cert.lenM' hT hk hat hx) hd (hr hlen) j w jl a hsr Qc hk2
theorem AOps.sLenS {P:Program}{ops:Array Oper}{rest:List Oper}{Q:St->Prop}{n:Nat}{ts:Ts}{ls:List (List D)}{h:Heap}{d:Nat}{ty:TypeId}{pos:String}{aft:Array Edge}{t:TypeId}{ti:TI}{x:Operand}{ats:Array TypeId}{s:Bs}
  (hT:mkTI P t=some ti) (hk:ti.k=.str) (hat:ats[0]?=some t) (hx:ev ts x=.a (.d (.str s))) (hd:Nat.blt d n=true)
  (hr:s.length<=4611686018427387904->AOps P ops rest Q ⟨n,(d,.a (.d (.int .i64 (s.length:Int))))::ts,ls,h⟩) :
  AOps P ops (⟨some d,.call { callee:=.builtin .len,args:=#[x],argTypes:=ats },ty,pos,aft,none⟩::rest) Q ⟨n,ts,ls,h⟩:=by
 intro j w jl a hsr Qc hk2;have hlen:s.length<=4611686018427387904:=by
  have h1:=ev_rel hsr.tmps x;rw [hx] at h1;exact(rel_str h1).2
 exact AOps.s0 (Cert.lenS hT hk hat hx) hd (hr hlen) j w jl a hsr Qc hk2
theorem AOps.heq {P:Program}{ops:Array Oper}{rest:List Oper}{Q:St->Prop}{n:Nat}{ts:Ts}{ls:List (List D)}{h h':Heap}(e:h=h') (hw:AOps P ops rest Q ⟨n,ts,ls,h'⟩):AOps P ops rest Q ⟨n,ts,ls,h⟩:=e▸hw
theorem DOps.heq {P:Program}{ops:Array Oper}{m:Nat}{rest:List Oper}{done:List Fx}{Q:St->Prop}{n:Nat}{ts:Ts}{ls:List (List D)}{h h':Heap}(e:h=h') (hw:DOps P ops m rest done Q ⟨n,ts,ls,h'⟩):DOps P ops m rest done Q ⟨n,ts,ls,h⟩:=e▸hw
theorem AWp.heqA {P:Program}{c:Code}{Q:Exit->St->Prop}{n:Nat}{ts:Ts}{ls:List (List D)}{h h':Heap}(e:h=h') (hw:AWp P c Q ⟨n,ts,ls,h'⟩):AWp P c Q ⟨n,ts,ls,h⟩:=e▸hw
theorem Heap.set_fresh {h:Heap}{i r:Nat}{o:Obj}(e:(h.set i (some o)) r=none):r≠i/\h r=none:=by
 have h1:r≠i:=fun e2=>by rw [e2,Heap.set_same] at e; cases e
 exact⟨h1,by rw [Heap.set_other _ _ h1] at e; exact e⟩
section
variable {P:Program}{ops:Array Oper}{rest:List Oper}{Q:St->Prop}{n:Nat}{ts:Ts}{ls:List (List D)}{h:Heap}
theorem AOps.recell (id:Nat){xs:List D}(ys:List D) (hc:h id=some (.cells xs)) (hy:∀j w cs,HRel j w h->All2 (DRel j w) xs cs->All2 (DRel j w) ys cs)
  (hw:AOps P ops rest Q ⟨n,ts,ls,h.set id (some (.cells ys))⟩):AOps P ops rest Q ⟨n,ts,ls,h⟩:=by
 intro j w jl a hsr Qc hk;have hl:=hsr.hl;refine hw j w jl a ⟨hsr.defers,hsr.size,hsr.tmps,⟨hl.1.recell hc (hy j w · hl.1),⟨hl.2.each,hl.2.nodup,fun b hb ho=>hl.2.apart b hb ((Own.recell hc).1 ho)⟩⟩⟩ Qc fun σ' j' w' jl' a' hq hs' hev=>hk σ' j' w' jl' a' hq hs' (Evolve.trans ?_ hev);exact { Evolve.refl j _ (Own j h jl) with own:=fun b _ ho=>(Own.recell hc).1 ho }
theorem AOps.relocal (i:Nat){xs:List D}(ys:List D) (hc:ls[i]?=some xs) (hy:∀j w cs,HRel j w h->All2 (DRel j w) xs cs->All2 (DRel j w) ys cs)
  (hw:AOps P ops rest Q ⟨n,ts,ls.set i ys,h⟩):AOps P ops rest Q ⟨n,ts,ls,h⟩:=by
 intro j w jl a hsr;have hl:=hsr.hl;have hea:All2 (fun xs b=>Loc1 j w b xs) (ls.set i ys) jl:=by
  refine All2.of_get (by rw [List.length_set,hl.2.each.length]) fun k x b hx hb=>?_;rw [List.getElem?_set] at hx
  split at hx
  ·rename_i e
   subst e
   split at hx
   ·simp only [Option.some.injEq] at hx; subst hx;obtain⟨b',hb',cs,te,h1,h2,h3⟩:=hl.2.each.get hc;rw [hb] at hb'; simp only [Option.some.injEq] at hb'; subst hb';exact⟨cs,te,h1,hy j w _ hl.1 h2,h3⟩
   ·cases hx
  ·obtain⟨b',hb',h1⟩:=hl.2.each.get hx;rw [hb] at hb'; simp only [Option.some.injEq] at hb'; subst hb';exact h1
 exact hw j w jl a ⟨hsr.defers,hsr.size,hsr.tmps,⟨hl.1,⟨hea,hl.2.nodup,hl.2.apart⟩⟩⟩
theorem AOps.tok (k:Nat) (hw:∀t,h t=none->AOps P ops rest Q ⟨n,ts,ls,h.set t (some (.tok k 0))⟩):AOps P ops rest Q ⟨n,ts,ls,h⟩:=by
 intro j w jl a hsr Qc hk;obtain⟨h1,h2⟩:=hsr.hl.newTok k;have hnone:=hsr.hl.1.next_none (Nat.le_refl _);exact hw j.next hnone j.newTok w jl a ⟨hsr.defers,hsr.size,fun i=>(hsr.tmps i).mono h2.toLe (Ext.refl _),h1⟩ Qc fun σ' j' w' jl' a' hq hs' hev=>hk σ' j' w' jl' a' hq hs' (h2.trans hev)
theorem AOps.nilTok (s k t:Nat){o:Obj}{k0:Nat}(hs:get ts s=.a (.d (.slice k0 none true []))) (ht:h t=some o)
  (hw:AOps P ops rest Q ⟨n,(s,.a (.d (.slice k (some t) true [])))::ts,ls,h⟩):AOps P ops rest Q ⟨n,ts,ls,h⟩:=by
 intro j w jl a hsr;refine hw j w jl a ⟨hsr.defers,hsr.size,fun i=>?_,hsr.hl⟩;by_cases e:s=i
 ·subst e;show VRel _ _ _ (get ((s,_)::ts) s) _;rw [get_same];have hv:VRel j w jl (get ts s) (a.tmps.getD s undef):=hsr.tmps s;rw [hs] at hv;exact(AsArg.nil (k':=k) ht).rel hsr.hl.1 hv
 ·show VRel _ _ _ (get ((s,_)::ts) i) _;rw [get_other _ _ e];exact hsr.tmps i
theorem AOps.dropTok (s:Nat){k:Nat}{tk:Option Nat}{nl:Bool}{rows:List (List D)}(hs:get ts s=.a (.d (.slice k tk nl rows)))
  (hw:AOps P ops rest Q ⟨n,(s,.a (.d (.slice k none nl rows)))::ts,ls,h⟩):AOps P ops rest Q ⟨n,ts,ls,h⟩:=by
 intro j w jl a hsr;refine hw j w jl a ⟨hsr.defers,hsr.size,fun i=>?_,hsr.hl⟩;by_cases e:s=i
 ·subst e;show VRel _ _ _ (get ((s,_)::ts) s) _;rw [get_same];have hv:VRel j w jl (get ts s) (a.tmps.getD s undef):=hsr.tmps s;rw [hs] at hv;exact slice_dropTok j w _ hv
 ·show VRel _ _ _ (get ((s,_)::ts) i) _;rw [get_other _ _ e];exact hsr.tmps i
end
theorem tok_cell {j:J}{w:World}{h:Heap}{t:Nat}{o:Obj}{xs:List D}{cs:List Value}(i k k':Nat) (hh:HRel j w h) (ht:h t=some o) (hx:All2 (DRel j w) xs cs) (hi:xs[i]?=some (.slice k none true [])) :
  All2 (DRel j w) (xs.set i (.slice k' (some t) true [])) cs:=by
 refine All2.of_get (by rw [List.length_set,hx.length]) fun n x v hn hv=>?_;rw [List.getElem?_set] at hn
 split at hn
 ·rename_i e
  subst e
  split at hn
  ·simp only [Option.some.injEq] at hn; subst hn;obtain⟨v',hv',hr⟩:=hx.get hi;rw [hv] at hv'; simp only [Option.some.injEq] at hv'; subst hv';exact(AsArg.nil (k:=k) (k':=k') ht).rel hh (x:=.d (.slice k none true [])) hr
  ·cases hn
 ·obtain⟨v',hv',hr⟩:=hx.get hn;rw [hv] at hv'; simp only [Option.some.injEq] at hv'; subst hv';exact hr
theorem untok_cell {j:J}{w:World}{xs:List D}{cs:List Value}(i:Nat){k:Nat}{tk:Option Nat}{nl:Bool}{rows:List (List D)}(hx:All2 (DRel j w) xs cs) (hi:xs[i]?=some (.slice k tk nl rows)) :
  All2 (DRel j w) (xs.set i (.slice k none nl rows)) cs:=by
 refine All2.of_get (by rw [List.length_set,hx.length]) fun n x v hn hv=>?_;rw [List.getElem?_set] at hn
 split at hn
 ·rename_i e
  subst e
  split at hn
  ·simp only [Option.some.injEq] at hn; subst hn;obtain⟨v',hv',hr⟩:=hx.get hi;rw [hv] at hv'; simp only [Option.some.injEq] at hv'; subst hv';exact slice_dropTok j w v hr
  ·cases hn
 ·obtain⟨v',hv',hr⟩:=hx.get hn;rw [hv] at hv'; simp only [Option.some.injEq] at hv'; subst hv';exact hr
def F0:Nat:=4611686018427387904
theorem wA {n:Nat}{ts ts':Ts}{ls ls':List (List D)}{h h':Heap}(hk:Keeps ts ls'.length ts':=by repeat (first|exact Keeps.nil|refine Keeps.c rfl rfl ?_|refine Keeps.c (by(first|(first|rfl|((conv=>lhs; whnf); first|(simp [cellsA,faultsT,faultsD,namesD,Fault.mk_c,Nat.add_assoc,empty_append,Bool.and_assoc]; done)|(simp [cellsA,faultsT,faultsD,namesD,Nat.add_assoc,empty_append,Bool.and_assoc]; repeat (first|rfl|constructor))))|rfl|(simp only [get_same,ev]; done)|(simp [*,cellsA]; done)|(show V.a (A.d (D.slice _ _ _ _))=V.a (A.d (D.slice _ _ _ _)); simp [*,cellsA]; done))) rfl ?_)) (hl:Pfx ls' ls:=by repeat (first|exact Pfx.nil|apply Pfx.cons)) (hh:h=h':=by first|rfl|(first|rfl|(simp only [Heap.set_set,List.length_append,List.length_nil,List.length_cons,List.length_map,List.length_singleton,Nat.zero_add]; done)|(simp [Heap.set_set,Nat.add_assoc]; done))|(((funext n; simp only [Heap.set]; (repeat' split)<;>simp_all))<;>first|rfl|exact⟨rfl,rfl⟩)):Weak ⟨n,ts,ls,h⟩ ⟨n,ts',ls',h'⟩:=Weak.to hk hl hh
theorem Weak.toFA {n:Nat}{ts ts':Ts}{ls ls':List (List D)}{h h':Heap}(hh:∀id o,h' id=some o->h id=some o) (hk:Keeps ts ls'.length ts':=by repeat (first|exact Keeps.nil|refine Keeps.c rfl rfl ?_|refine Keeps.c (by(first|(first|rfl|((conv=>lhs; whnf); first|(simp [cellsA,faultsT,faultsD,namesD,Fault.mk_c,Nat.add_assoc,empty_append,Bool.and_assoc]; done)|(simp [cellsA,faultsT,faultsD,namesD,Nat.add_assoc,empty_append,Bool.and_assoc]; repeat (first|rfl|constructor))))|rfl|(simp only [get_same,ev]; done)|(simp [*,cellsA]; done)|(show V.a (A.d (D.slice _ _ _ _))=V.a (A.d (D.slice _ _ _ _)); simp [*,cellsA]; done))) rfl ?_)) (hl:Pfx ls' ls:=by repeat (first|exact Pfx.nil|apply Pfx.cons)):Weak ⟨n,ts,ls,h⟩ ⟨n,ts',ls',h'⟩:=Weak.toF hk hl hh
theorem hpG {h:Heap}{i:Nat}{o:Option Obj}(hg:h i=o:=by(first|assumption|exact Heap.set_same _ _ _|((repeat (refine(Heap.set_other _ _ (by first|assumption|(apply Ne.symm; assumption))).trans ?_)); first|assumption|exact Heap.set_same _ _ _)|(simp only [Heap.set_set,Heap.set_same]; done)|(simp [Heap.set, *]; done))):h i=o:=hg
theorem and_left {a b:Bool}(h:(a&&b)=true):a=true:=by cases a<;>simp_all
end Go.Ab
namespace Go.Ab
open Go Go.RowKit
variable {lou:Lou}
section
variable {P:Program}{ts:Ts}{ls ls':List (List D)}{h h':Heap}{fx:Fx}{x:A}{dst:Option Tmp}{ty:TypeId}{pos:String}{aft:Array Edge}{g:Option (Nat×Bool)}
theorem Cert.ungdA {o:Oper}{v:V}{k:Nat}{c:Bool}(hk:get ts k=.gd c x) (hs:Cert P o ((k,.a x)::ts) ls h fx v ls' h') (hc:c=true:=by first|assumption|exact andL (by assumption)|exact andL (andL (by assumption))|exact andL (andL (andL (by assumption)))|exact andR (by assumption)|simp_all):Cert P o ts ls h fx v ls' h':=Cert.ungd hk hc hs
theorem Cert.ungdLA {o:Oper}{v:V}{k:Nat}{c:Bool}{i off:Nat}(hk:get ts k=.gdl c i off) (hs:Cert P o ((k,.lptr i off)::ts) ls h fx v ls' h') (hc:c=true:=by first|assumption|exact andL (by assumption)|exact andL (andL (by assumption))|exact andL (andL (andL (by assumption)))|exact andR (by assumption)|simp_all):Cert P o ts ls h fx v ls' h':=Cert.ungdL hk hc hs
theorem Cert.pickAndA {c y z:Operand}{b r cy:Bool}(hc:ev ts c=.a (.d (.bool b))) (hy:ev ts y=.gd cy (.d (.bool r))) (hz:ev ts z=.a (.d (.bool false))) (himp:b=true->cy=true:=by intro hh; first|exact hh|exact notT hh|exact andI (by assumption) hh|exact andI (by assumption) (notT hh)|simp_all) :
  Cert P (mk dst (.pick c y z) ty pos aft g) ts ls h {} (.a (.d (.bool (b&&r)))) ls h:=Cert.pickAnd hc hy himp hz
theorem Cert.pickOrA {c y z:Operand}{b r cz:Bool}(hc:ev ts c=.a (.d (.bool b))) (hy:ev ts y=.a (.d (.bool true))) (hz:ev ts z=.gd cz (.d (.bool r))) (himp:b=false->cz=true:=by intro hh; first|exact hh|exact notT hh|exact andI (by assumption) hh|exact andI (by assumption) (notT hh)|simp_all) :
  Cert P (mk dst (.pick c y z) ty pos aft g) ts ls h {} (.a (.d (.bool (b||r)))) ls h:=Cert.pickOr hc hy hz himp
theorem Cert.moveA {x:Operand}{v:V}(hx:ev ts x=v:=by conv=>lhs; whnf):Cert P (mk dst (.move x) ty pos aft g) ts ls h {} v ls h:=Cert.move hx
theorem Cert.assignA {x:Operand}{v:V}(hx:ev ts x=v:=by conv=>lhs; whnf):Cert P (mk dst (.assign x) ty pos aft g) ts ls h {} v ls h:=Cert.assign hx
theorem Cert.fieldVA {t:TypeId}{ti fi:TI}{fs:List (Nat×TypeId)}{x:Operand}{f o:Nat}{xs ys:List D}{ft:TypeId}(hT:mkTI P t=some ti) (hk:ti.k=.struct fs) (hf:fs[f]?=some (o,ft)) (hF:mkTI P ft=some fi)
  (hz:Nat.beq fi.size 0=false) (hx:ev ts x=.a (.d (.view xs))) (hy:xs.drop o=ys:=by conv=>lhs; whnf):Cert P (mk dst (.fieldAddr t x f) ty pos aft g) ts ls h {} (.a (.d (.view ys))) ls h:=Cert.fieldV hT hk hf hF hz hx hy
theorem KeepsT.A {ts:Ts}{k:Nat}{v:V}{r:Ts}(t:KeepsT ts r) (h:Ab.get ts k=v:=by conv=>lhs; whnf):KeepsT ts ((k,v)::r):=KeepsT.cons h t
theorem Cert.allocLA {e:TypeId}{ti:TI}{z:A}{i:Nat}{ls':List (List D)}(hT:mkTI P e=some ti) (hz:ti.zero=some z) (hs:Snoc (cellsA z) ls i ls':=by repeat (first|exact Snoc.nil|apply Snoc.cons)) :
  Cert P (mk dst (.alloc e) ty pos aft g) ts ls h { wl:=true } (.lptr i 0) ls' h:=Cert.allocL hT hz hs
theorem Cert.storeLFA {t:TypeId}{ti:TI}{x y:Operand}{i:Nat}{xs ys:List D}{ls':List (List D)}(hT:mkTI P t=some ti) (hx:ev ts x=.lptr i 0) (hy:ev ts y=.a (.agg ys)) (hl:ls[i]?=some xs)
  (hsz:ys.length=ti.size) (hle:xs.length=ti.size) (hs:SetAt ys ls i ls':=by repeat (first|exact SetAt.zero|apply SetAt.succ)):Cert P (mk none (.store t x y) ty pos aft g) ts ls h { wl:=true } .any ls' h:=Cert.storeLF hT hx hy hl hsz hle hs
theorem AWp.freezeA {c:Code}{Q:Exit->St->Prop}{n:Nat}{ts':Ts}{ls':List (List D)}{xs:List D}(s i:Nat) (hs:get ts s=.lptr i 0) (hk:Keeps ts i ts') (hw:AWp P c Q ⟨n,(s,.a (.d (.view xs)))::ts',ls',h⟩) (hl:Snoc xs ls' i ls:=by repeat (first|exact Snoc.nil|apply Snoc.cons)):AWp P c Q ⟨n,ts,ls,h⟩:=AWp.freeze s i hs hl hk hw
theorem AWp.condE {c:Operand}{u v:Code}{Q:Exit->St->Prop}{σ:St}{b:Bool}{α:Type}{A B:Option α}{r:α}(hE:(bif b then A else B)=some r) (hc:ev σ.ts c=.a (.d (.bool b))) (ht:b=true->A=some r->AWp P u Q σ) (hf:b=false->B=some r->AWp P v Q σ):AWp P (.cond c u v) Q σ :=
 AWp.cond hc (fun h=>ht h (Go.Ab.condT h hE)) (fun h=>hf h (Go.Ab.condF h hE))
end
end Go.Ab

/-
 Slices that may be stored to: their object holds the rows; the slot tells the object and the length.
-/
namespace Go.Ab
open Go Go.RowKit
variable {lou:Lou}
variable {amb:Amb}

theorem HL.newArr {j:J}{w:World}{jl:List Nat}{ls:List (List D)}{h:Heap}(hl:HL j w jl ls h) (k:Nat) :
  HL j.newTok w jl ls (h.set j.next (some (.arr k [])))/\Evolve j w (Own j h jl) j.newTok w (Own j.newTok (h.set j.next (some (.arr k []))) jl):=by
 have hle:Le j w j.newTok w:=⟨by simp [J.newTok],fun _ _=>rfl,fun _=>Nat.le_refl _,fun _ _ _=>rfl,fun t ht=>.inl (by simp only [J.newTok]; rw [if_neg (by omega)])⟩;have hk:=hl.keep hle (fun _ _=>⟨rfl,rfl⟩) (fun id hid _=>by simp only [J.newTok]; rw [if_neg (by omega)]) hl.1.fresh;have hnew:∀b,blkOf j.newTok j.next (.arr k [])≠some b:=by intro b; simp [blkOf,J.newTok]
 have hown:∀jl x,Own j.newTok (h.set j.next (some (.arr k []))) jl x->Own j.newTok h jl x:=by
  rintro jl x (hm|⟨n,q,hn,e⟩)
  ·exact .inl hm
  ·by_cases c:n=j.next
   ·subst c; rw [Heap.set_same] at hn; simp only [Option.some.injEq] at hn; subst hn;exact absurd e (hnew x)
   ·rw [Heap.set_other h _ c] at hn; exact .inr ⟨n,q,hn,e⟩
 refine⟨⟨⟨fun id o hi=>?_,fun n1 q1 n2 q2 x h1 h2 e1 e2=>?_,hl.1.fresh⟩,⟨hk.1.2.each,hk.1.2.nodup,fun x hx ho=>hk.1.2.apart x hx (hown [] x ho)⟩⟩,
  { (Evolve.refl j w (Own j h jl)) with toLe:=hle,frame:=fun _ _ _=>⟨rfl,rfl⟩,own:=fun b _ ho=>(hk.2 b).1 (hown jl b ho) }⟩
 ·by_cases c:id=j.next
  ·subst c; rw [Heap.set_same] at hi; simp only [Option.some.injEq] at hi; subst hi;exact⟨by simp [J.newTok],none,by simp [J.newTok],⟨fun _=>rfl,fun _=>rfl⟩,by simp,by simp,by simp⟩
  ·rw [Heap.set_other h _ c] at hi; exact hk.1.1.obj id o hi
 ·by_cases c1:n1=j.next
  ·subst c1; rw [Heap.set_same] at h1; simp only [Option.some.injEq] at h1; subst h1;exact absurd e1 (hnew x)
  ·by_cases c2:n2=j.next
   ·subst c2; rw [Heap.set_same] at h2; simp only [Option.some.injEq] at h2; subst h2;exact absurd e2 (hnew x)
   ·rw [Heap.set_other h _ c1] at h1; rw [Heap.set_other h _ c2] at h2;exact hk.1.1.inj n1 q1 n2 q2 x h1 h2 e1 e2

theorem HL.growA {j:J}{w w':World}{jl:List Nat}{ls:List (List D)}{h:Heap}(hl:HL j w jl ls h){t k:Nat}{rows rows':List (List D)}(ht:h t=some (.arr k rows)) (hm:rows.length<rows'.length)
  {b cap:Nat}{cs:List Value}{e:TypeId}(hb:w'.heap[b]?=some (.cells cs.toArray e (0,0))) (hsz:cs.length=cap*k) (hcap:rows'.length<=cap) (hkr:∀r∈rows',r.length=k) (hmx:rows'.length<=maxN)
  (hother:∀x,x≠b->x<w.heap.size->w'.heap[x]?=w.heap[x]?) (hsize:w.heap.size<=w'.heap.size) (hbs:w'.heap.size<=max w.heap.size (b+1))
  (hcase:w.heap.size<=b\/blkOf j t (.arr k rows)=some b)
  (hcells:∀j',Le j w j' w'->All2 (DRel j' w') rows'.flatten (cs.take (rows'.length*k)))
  (hos:w'.os=w.os) (htape:w'.tape=w.tape) (hout:Outs w w') :
  HL (j.retok t ⟨some (b,cap),rows'.length⟩ b 0) w' jl ls (h.set t (some (.arr k rows'))) /\
   Evolve j w (Own j h jl) (j.retok t ⟨some (b,cap),rows'.length⟩ b 0) w' (Own (j.retok t ⟨some (b,cap),rows'.length⟩ b 0) (h.set t (some (.arr k rows'))) jl):=by
 obtain⟨htn,blk,htok,_,_,_,hblk⟩:=hl.1.obj t _ ht;have hF0:j.F b=0:=by
  rcases hcase with hc|hc
  ·exact hl.1.fresh b hc
  ·simp only [blkOf,htok,Option.bind_some] at hc;cases blk with
   | none=>simp at hc
   | some bc =>
    obtain⟨b',cap'⟩:=bc;simp only [Option.map_some,Option.some.injEq] at hc;subst hc;obtain⟨_,_,_,_,h3,_⟩:=hblk _ _ rfl;exact h3
 have hle:Le j w (j.retok t ⟨some (b,cap),rows'.length⟩ b (0)) w':=by
  refine⟨Nat.le_refl _,fun _ _=>rfl,fun x=>?_,fun x o ho=>?_,fun x hx=>?_⟩
  ·simp only [J.retok]; split
   ·rename_i c; rw [c,hF0]; exact Nat.le_refl _
   ·exact Nat.le_refl _
  ·by_cases c:x=b
   ·subst c;rw [hF0] at ho; omega
   ·refine cell?_eq (hother x c ?_);rcases Nat.lt_or_ge x w.heap.size with h1|h1
    ·exact h1
    ·rw [hl.1.fresh x h1] at ho; omega
  ·by_cases c:x=t
   ·subst c; exact .inr ⟨_,⟨some (b,cap),rows'.length⟩,htok,by simp [J.retok],hm⟩
   ·exact .inl (by simp [J.retok,c])
 -- the others' blocks are not b
 have hsepO:∀n q x,h n=some q->n≠t->blkOf j n q=some x->x≠b:=fun n q x hn hne hx c=>by
  subst c;rcases hcase with hc|hc
  ·have:=Own.lt hl (.inr ⟨n,q,hn,hx⟩); omega
  ·exact hne (hl.1.inj n q t _ x hn ht hx hc)
 have hsepL:∀x,x∈jl->x≠b:=fun x hx c=>by
  subst c;rcases hcase with hc|hc
  ·have:=Own.lt hl (.inl hx); omega
  ·exact hl.2.apart x hx (.inr ⟨t,_,ht,hc⟩)
 have hF:∀x,x≠b->(j.retok t ⟨some (b,cap),rows'.length⟩ b (0)).F x=j.F x:=fun x hx=>by simp [J.retok,hx]
 have hkeep:∀n q,h n=some q->n≠t->ORel (j.retok t ⟨some (b,cap),rows'.length⟩ b (0)) w' n q/\blkOf (j.retok t ⟨some (b,cap),rows'.length⟩ b (0)) n q=blkOf j n q:=fun n q hn hne =>
  (hl.1.obj n q hn).2.keep hle (hl.1.obj n q hn).1 (fun x hx=>⟨hother x (hsepO n q x hn hne hx) (Own.lt hl (.inr ⟨n,q,hn,hx⟩)),hF x (hsepO n q x hn hne hx)⟩)
   (fun _=>by simp [J.retok,hne])
 have hnew:blkOf (j.retok t ⟨some (b,cap),rows'.length⟩ b (0)) t (.arr k rows')=some b:=by simp [blkOf,J.retok]
 have hown:∀jl x,Own (j.retok t ⟨some (b,cap),rows'.length⟩ b (0)) (h.set t (some (.arr k rows'))) jl x->x=b\/Own j h jl x:=by
  rintro jl x (hx|⟨n,q,hn,hx⟩)
  ·exact .inr (.inl hx)
  ·by_cases c:n=t
   ·subst c; rw [Heap.set_same] at hn; simp only [Option.some.injEq] at hn; subst hn;rw [hnew] at hx; simp only [Option.some.injEq] at hx; exact .inl hx.symm
   ·rw [Heap.set_other h _ c] at hn;exact .inr (.inr ⟨n,q,hn,(hkeep n q hn c).2▸hx⟩)
 refine⟨⟨⟨fun n q hn=>?_,fun n1 q1 n2 q2 x h1 h2 e1 e2=>?_,fun x hx=>?_⟩,
  ⟨all2_imp_mem hl.2.each fun xs x hx h=>h.keep hle ⟨hother x (hsepL x hx) (Own.lt hl (.inl hx)),hF x (hsepL x hx)⟩,hl.2.nodup,fun x hx ho=>?_⟩⟩, ?_⟩
 ·by_cases c:n=t
  ·subst c; rw [Heap.set_same] at hn; simp only [Option.some.injEq] at hn; subst hn;refine⟨htn,some (b,cap),by simp [J.retok],⟨by simp,fun e=>by rw [e] at hm; simp at hm⟩,hkr,hmx,fun b' cap' e'=>?_⟩;simp only [Option.some.injEq,Prod.mk.injEq] at e';obtain⟨rfl,rfl⟩:=e';exact⟨cs,e,hb,hsz,by simp [J.retok],hcap,hcells _ hle⟩
  ·rw [Heap.set_other h _ c] at hn;exact⟨(hl.1.obj n q hn).1,(hkeep n q hn c).1⟩
 ·by_cases c1:n1=t<;>by_cases c2:n2=t
  ·omega
  ·subst c1; rw [Heap.set_same] at h1; simp only [Option.some.injEq] at h1; subst h1;rw [Heap.set_other h _ c2] at h2;rw [hnew] at e1; simp only [Option.some.injEq] at e1;exact absurd e1.symm (hsepO n2 q2 x h2 c2 ((hkeep n2 q2 h2 c2).2▸e2))
  ·subst c2; rw [Heap.set_same] at h2; simp only [Option.some.injEq] at h2; subst h2;rw [Heap.set_other h _ c1] at h1;rw [hnew] at e2; simp only [Option.some.injEq] at e2;exact absurd e2.symm (hsepO n1 q1 x h1 c1 ((hkeep n1 q1 h1 c1).2▸e1))
  ·rw [Heap.set_other h _ c1] at h1; rw [Heap.set_other h _ c2] at h2;exact hl.1.inj n1 q1 n2 q2 x h1 h2 ((hkeep n1 q1 h1 c1).2▸e1) ((hkeep n2 q2 h2 c2).2▸e2)
 ·have hbl:=lt_of_heap hb;rw [hF x (by omega)];exact hl.1.fresh x (by omega)
 ·rcases hown [] x ho with c|c
  ·exact hsepL x hx c
  ·exact hl.2.apart x hx c
 ·refine { toLe:=hle,size:=hsize,frame:=fun x hx hn=>?_,own:=fun x hx ho=>?_,os:=hos,tape:=htape,output:=hout }
  ·have hne:x≠b:=fun c=>by
    subst c;rcases hcase with hc|hc
    ·omega
    ·exact hn (.inr ⟨t,_,ht,hc⟩)
   exact⟨hother x hne hx,hF x hne⟩
  ·rcases hown jl x ho with c|c
   ·subst c;rcases hcase with hc|hc
    ·omega
    ·exact .inr ⟨t,_,ht,hc⟩
   ·exact c


theorem rel_arr {j:J}{w:World}{jl:List Nat}{k id:Nat}{nl:Bool}{len:Nat}{cv:Value}(h:VRel j w jl (.a (.d (.arr k id nl len))) cv):∃a cap,cv=.slice a len cap/\id<j.next/\ArrOk j id nl len a cap:=by
 have h':DRel j w (.arr k id nl len) cv:=h;cases h' with
 | arr _ _ _ _ a cap hid hv=>exact⟨a,cap,rfl,hid,hv⟩
theorem rel_aptr {j:J}{w:World}{jl:List Nat}{id m off:Nat}{cv:Value}(h:VRel j w jl (.a (.d (.aptr id m off))) cv) :
  ∃b,cv=.pointer (some ⟨b,off,none⟩)/\id<j.next/\∀tk,j.tok id=some tk->m<=tk.m/\(m=tk.m->∃c,tk.blk=some (b,c)):=by
 have h':DRel j w (.aptr id m off) cv:=h;cases h' with
 | aptr _ _ _ b hid hv=>exact⟨b,rfl,hid,hv⟩
theorem HL.arrAt {j:J}{w:World}{jl:List Nat}{ls:List (List D)}{h:Heap}(hl:HL j w jl ls h){k k' id n:Nat}{nl:Bool}{rows:List (List D)}(hi:h id=some (.arr k rows)) (hn:n=rows.length){cv:Value}
  (hx:VRel j w jl (.a (.d (.arr k' id nl n))) cv) :
  (∃a,cv=.slice a 0 0/\nl=a.isNone/\rows=[]/\j.tok id=some ⟨none,0⟩)\/∃b cap cs e,cv=.slice (some ⟨b,0,none⟩) rows.length cap/\nl=false/\j.tok id=some ⟨some (b,cap),rows.length⟩/\w.heap[b]?=some (.cells cs e (0,0)) /\
   cs.size=cap*k/\j.F b=0/\rows.length<=cap/\(∀r∈rows,r.length=k)/\All2 (DRel j w) rows.flatten (cs.toList.take (rows.length*k)):=by
 subst hn;obtain⟨a,cap,e1,hid,hv⟩:=rel_arr hx;obtain⟨_,blk,htok,hnone,hkr,hmx,hblk⟩:=hl.1.obj id _ hi;obtain⟨_,hv⟩:=hv _ htok;rcases hv rfl with ⟨h1,h2,h3⟩|⟨b,h1,h2,h3⟩
 ·dsimp only at h1;subst h1 h3;have:=hnone.1 rfl;subst this;exact .inl ⟨a,e1,h2,rfl,htok⟩
 ·dsimp only at h1;subst h1 h2;obtain⟨cs,e,g1,g2,g3,g4,g5⟩:=hblk _ _ rfl;exact .inr ⟨b,cap,cs.toArray,e,e1,h3,htok,g1,by simpa using g2,g3,g4,hkr,by simpa using g5⟩

theorem get_flat {rows:List (List D)}{k i o:Nat}{row:List D}(hk:∀r∈rows,r.length=k) (hr:rows[i]?=some row) (ho:o<k):rows.flatten[i*k+o]?=row[o]?:=(flatten_row hk).2 i row hr o ho
theorem set_flat {rows:List (List D)}{k:Nat}(hk:∀r∈rows,r.length=k):∀{i o:Nat}{row:List D}{v:D},rows[i]?=some row->o<k->rows.flatten.set (i*k+o) v=(rows.set i (row.set o v)).flatten:=by
 induction rows with
 | nil=>intro i o row v hr; simp at hr
 | cons r rs ih =>
  intro i o row v hr ho;have hrl:r.length=k:=hk r (by simp);cases i with
  | zero =>
   simp at hr; subst hr;rw [Nat.zero_mul,Nat.zero_add,List.flatten_cons,List.set_append_left _ _ (by omega)]; rfl
  | succ i =>
   have:=ih (fun x hx=>hk x (by simp [hx])) (i:=i) (o:=o) (v:=v) (by simpa using hr) ho;rw [List.flatten_cons,Nat.succ_mul,List.set_append_right _ _ (by omega),show i*k+k+o-r.length=i*k+o by omega,this]; rfl
theorem spl_flat {rows:List (List D)}{k i:Nat}(hk:∀r∈rows,r.length=k):∀{o:Nat}{vs row:List D},rows[i]?=some row->o+vs.length<=k->spl rows.flatten (i*k+o) vs=(rows.set i (spl row o vs)).flatten:=by
 intro o vs;induction vs generalizing o rows with
 | nil =>
  intro row hr _;show rows.flatten=(rows.set i row).flatten
  congr 1
  refine List.ext_getElem? fun n=>?_;rw [List.getElem?_set]; split
  ·rename_i e; subst e; rw [hr]; simp [(List.getElem?_eq_some_iff.1 hr).1]
  ·rfl
 | cons v vs ih =>
  intro row hr ho;simp only [List.length_cons] at ho;have hi:=(List.getElem?_eq_some_iff.1 hr).1;rw [spl,set_flat hk hr (by omega),Nat.add_assoc,ih (rows:=rows.set i (row.set o v)) (row:=row.set o v) (fun r hr'=>?_) (by simp [hi]) (by omega)]
  ·rw [List.set_set]; rfl
  ·rcases List.mem_or_eq_of_mem_set hr' with h|h
   ·exact hk r h
   ·rw [h,List.length_set]; exact hk row (List.mem_of_getElem? hr)
theorem spl_append {α:Type}:∀(l z:List α) (n:Nat) (r:List α),n+r.length<=l.length->spl (l++z) n r=spl l n r++z
 | _,_,_,[],_=>rfl
 | l,z,n,v::r,h=>by
  simp only [List.length_cons] at h;rw [spl,spl,List.set_append_left _ _ (by omega),spl_append _ _ _ _ (by simp; omega)]

section
variable {P:Program}{ts:Ts}{ls:List (List D)}{h:Heap}{dst:Option Tmp}{ty:TypeId}{pos:String}{aft:Array Edge}{g:Option (Nat×Bool)}{α:Type}{f:α->List D}
theorem Cert.idxR {t e:TypeId}{ti ei:TI}{x ix:Operand}{ik:IntKind}{n:Nat}{k id m:Nat}{nl:Bool}{l:List α}{y:α}(hT:mkTI P t=some ti) (hk:ti.k=.slice e) (hE:mkTI P e=some ei)
  (hx:ev ts x=.a (.d (.arr k id nl m))) (hi:ev ts ix=.a (.d (.int ik (n:Int)))) (hkk:k=ei.size) (hh:h id=some (.arr k (l.map f))) (hm:m=l.length) (hr:l[n]?=some y) :
  Cert P (mk dst (.indexAddr t x ix) ty pos aft g) ts ls h { rh:=true } (.a (.d (.aptr id m (n*k)))) ls h :=
 PureE.cert ⟨rfl,rfl,fun L H _ hH j w jl a hl ho=>by
  have h1:=ho x (by simp [Op.operands]);have h2:=ho ix (by simp [Op.operands]);rw [hx] at h1; rw [hi] at h2;rw [hH rfl] at hl;subst hm;have hlt:=(List.getElem?_eq_some_iff.1 hr).1;rcases hl.arrAt hh (by simp) h1 with ⟨_,_,_,h3,_⟩|⟨b,cap,cs,ce,e1,_,htok,_⟩
  ·simp at h3; subst h3; simp at hr
  ·refine⟨.pointer (some ⟨b,n*k,none⟩), ?_,DRel.aptr id l.length (n*k) b (hl.1.obj id _ hh).1 fun tk htk=>?_⟩
   ·simp [execOp,e1,rel_int h2,Instr.indexAt,asIntOf,run_under (slice_of hT hk),sizeOf_run hE,hlt,<- hkk,add_plain]
   ·rw [htok] at htk; simp only [Option.some.injEq] at htk; subst htk;exact⟨by simp,fun _=>⟨cap,rfl⟩⟩⟩
theorem Cert.fieldR {t:TypeId}{ti fi:TI}{fs:List (Nat×TypeId)}{x:Operand}{fn o id m off:Nat}{ft:TypeId}(hT:mkTI P t=some ti) (hk:ti.k=.struct fs) (hf:fs[fn]?=some (o,ft)) (hF:mkTI P ft=some fi)
  (hz:Nat.beq fi.size 0=false) (hx:ev ts x=.a (.d (.aptr id m off))):Cert P (mk dst (.fieldAddr t x fn) ty pos aft g) ts ls h {} (.a (.d (.aptr id m (off+o)))) ls h :=
 Cert.of_ops fun j w jl a ho=>by
  have h1:=ho x (by simp [Op.operands]);rw [hx] at h1;obtain⟨b,e,hi,hv⟩:=rel_aptr h1;exact⟨.pointer (some ⟨b,off+o,none⟩),by simp [execOp,e,fieldAt_run hT hk hf hF (fun e=>by rw [e] at hz; simp at hz),add_plain],DRel.aptr _ _ _ _ hi hv⟩
theorem HL.aptrAt {j:J}{w:World}{jl:List Nat}{ls:List (List D)}{h:Heap}(hl:HL j w jl ls h){k id off:Nat}{rows:List (List D)}(hi:h id=some (.arr k rows)){cv:Value}
  (hx:VRel j w jl (.a (.d (.aptr id rows.length off))) cv) :
  ∃b cap cs e,cv=.pointer (some ⟨b,off,none⟩)/\j.tok id=some ⟨some (b,cap),rows.length⟩/\w.heap[b]?=some (.cells (cs:List Value).toArray e (0,0))/\cs.length=cap*k/\j.F b=0/\rows.length<=cap /\
   (∀r∈rows,r.length=k)/\All2 (DRel j w) rows.flatten (cs.take (rows.length*k))/\rows.length<=maxN:=by
 obtain⟨b,e1,hid,hv⟩:=rel_aptr hx;obtain⟨_,blk,htok,hnone,hkr,hmx,hblk⟩:=hl.1.obj id _ hi;obtain⟨_,hv⟩:=hv _ htok;obtain⟨cap,hb⟩:=hv rfl;dsimp only at hb;subst hb;obtain⟨cs,e,g1,g2,g3,g4,g5⟩:=hblk _ _ rfl;exact⟨b,cap,cs,e,e1,htok,g1,g2,g3,g4,hkr,g5,hmx⟩
theorem Cert.loadR {t:TypeId}{ti:TI}{x:Operand}{k id m off i o:Nat}{l:List α}{y:α}{v:A}(hT:mkTI P t=some ti) (hk:ti.k.isO=false) (hx:ev ts x=.a (.d (.aptr id m off)))
  (hh:h id=some (.arr k (l.map f))) (hm:m=l.length) (hr:l[i]?=some y) (ho:off=i*k+o) (hv:loadA ti (f y) o=some v) :
  Cert P (mk dst (.load t x) ty pos aft g) ts ls h { rh:=true } (.a v) ls h :=
 PureE.cert ⟨rfl,rfl,fun L H _ hH j w jl a hl hop=>by
  have h1:=hop x (by simp [Op.operands]);rw [hx] at h1;rw [hH rfl] at hl;rw [hm,<- List.length_map f] at h1;obtain⟨b,cap,cs,ce,e1,_,hg,hcl,_,hcap,hkr,hall,_⟩:=hl.aptrAt hh h1;have hrow:(l.map f)[i]?=some (f y):=by rw [List.getElem?_map,hr]; rfl
  have hyl:(f y).length=k:=hkr _ (List.mem_of_getElem? hrow);have hc:Cells j w b (i*k) (f y):=by
   intro n d hn;have hn':=(List.getElem?_eq_some_iff.1 hn).1;have h3:=get_flat hkr hrow (o:=n) (by omega);rw [hn] at h3;obtain⟨v,h4,h5⟩:=hall.get h3;refine⟨v, ?_,h5⟩;rw [cell_of_row w b _ cs.toArray ce (0,0) hg];rw [List.getElem?_take] at h4; split at h4
   ·simpa using h4
   ·cases h4
  obtain⟨cv,h3,h4⟩:=loadVar_rel (P:=P) hc hT (K.ne_other hk) hv;exact⟨cv,by simp [execOp,Instr.loadAt,Instr.sureAddr,e1,ho,h3],h4⟩⟩
theorem Cert.storeR {t:TypeId}{ti:TI}{x y:Operand}{k id m off i o:Nat}{l:List α}{u u':α}{v:A}(hT:mkTI P t=some ti) (hx:ev ts x=.a (.d (.aptr id m off))) (hy:ev ts y=.a v)
  (hh:h id=some (.arr k (l.map f))) (hm:m=l.length) (hr:l[i]?=some u) (ho:off=i*k+o) (hsz:(cellsA v).length=ti.size) (hle:o+ti.size<=k) (hu:spl (f u) o (cellsA v)=f u') (hd:dst=none) :
  Cert P (mk dst (.store t x y) ty pos aft g) ts ls h { wh:=true } .any ls (h.set id (some (.arr k ((l.set i u').map f)))):=by
 refine Cert.of_run fun L H _ hH j w jl a hl hop=>?_;have hH':=hH rfl;subst hH';have h1:=hop x (by simp [Op.operands]);have h2:=hop y (by simp [Op.operands]);rw [hx] at h1; rw [hy] at h2;rw [hm,<- List.length_map f] at h1;obtain⟨b,cap,cs,ce,e1,htok,hg,hcl,hF,hcap,hkr,hall,hmx⟩:=hl.aptrAt hh h1;have hrow:(l.map f)[i]?=some (f u):=by rw [List.getElem?_map,hr]; rfl
 have hi:=(List.getElem?_eq_some_iff.1 hr).1;have hik:i*k+k<=l.length*k:=by rw [<- Nat.succ_mul]; exact Nat.mul_le_mul_right _ hi
 have hlk:l.length*k<=cap*k:=Nat.mul_le_mul_right _ (by simpa using hcap);obtain⟨w',h3,h4⟩:=storeVar_upd (lou:=lou) (P:=P) (off:=off) hg hT h2 hsz (by omega);have hle':=h4.le (j:=j) hF;have hlv:(a.eval y).cells.toList.length=ti.size:=by have:=h2.cells.length; rw [hsz] at this; exact this.symm
 have hblk:∀rows',blkOf j id (.arr k rows')=some b:=fun _=>by simp [blkOf,htok]
 obtain⟨h5,h6⟩:=hl.setObj (o':=.arr k ((l.set i u').map f)) hh (hblk _) (hblk _) hF h4 (by
  refine⟨some (b,cap),by simpa using htok,⟨by simp,fun e=>by simp at e; subst e; simp at hr⟩,fun r hr'=>?_,by simpa using hmx,fun b' cap' e'=>?_⟩
  ·obtain⟨q,hq,rfl⟩:=List.mem_map.1 hr';rcases List.mem_or_eq_of_mem_set hq with hq|hq
   ·exact hkr _ (List.mem_map.2 ⟨q,hq,rfl⟩)
   ·subst hq; rw [<- hu,spl_length]; exact hkr _ (List.mem_of_getElem? hrow)
  ·simp only [Option.some.injEq,Prod.mk.injEq] at e';obtain⟨rfl,rfl⟩:=e';refine⟨_,ce,h4.here,by rw [spl_length]; exact hcl,hF,by simpa using hcap, ?_⟩;have hfl:((l.set i u').map f).flatten=spl (l.map f).flatten (i*k+o) (cellsA v):=by
    rw [spl_flat hkr hrow (by omega),List.map_set,hu]
   rw [hfl,List.length_map,List.length_set];have hsplit:cs=cs.take (l.length*k)++cs.drop (l.length*k):=(List.take_append_drop _ _).symm;have htl:(cs.take (l.length*k)).length=l.length*k:=by rw [List.length_take]; omega
   have:(spl cs off (a.eval y).cells.toList).take (l.length*k)=spl (cs.take (l.length*k)) off (a.eval y).cells.toList:=by
    conv=>lhs; rw [hsplit]
    rw [spl_append _ _ _ _ (by rw [htl,hlv]; omega)];rw [List.take_left' (by rw [spl_length,htl])]
   rw [show _=(spl cs off (a.eval y).cells.toList) from rfl,this,ho];rw [List.length_map] at hall;exact(hall.imp fun _ _ h=>h.mono hle').spl _ (h2.cells.imp fun _ _ h=>h.mono hle'))
 refine⟨.skip,w',undef,j,jl, ?_,.inr ⟨rfl,rfl⟩,trivial,h5,Ext.refl _,h6⟩;simp [execOp,Instr.storeAt,Instr.sureAddr,e1,h3]
end

section
variable {P:Program}{ts:Ts}{ls:List (List D)}{h:Heap}{dst:Option Tmp}{ty:TypeId}{pos:String}{aft:Array Edge}{g:Option (Nat×Bool)}{α:Type}{f:α->List D}
theorem Cert.appendR {t u e:TypeId}{ti ui ei:TI}{x y:Operand}{id k k' m:Nat}{tok':Option Nat}{nl nl':Bool}{rows rows':List (List D)}{z:A}(hT:mkTI P t=some ti) (hk:ti.k=.slice e) (hE:mkTI P e=some ei) (hU:mkTI P u=some ui) (huk:(∃e,ui.k=.slice e)\/ui.k=.str)
  (hz:ei.zero=some z) (hzs:(cellsA z).length=ei.size)
  (hx:ev ts x=.a (.d (.arr k id nl m))) (hy:ev ts y=.a (.d (.slice k' tok' nl' rows'))) (hkk:k=ei.size) (hkk':k'=ei.size\/rows'=[])
  (htk:h id=some (.arr k rows)) (hm:m=rows.length) (hfit:(rows.length+rows'.length)*ei.bytes<=maxN) (hlen:rows.length+rows'.length<=maxN) :
  Cert P (mk dst (.call { callee:=.builtin .append,args:=#[x,y],argTypes:=#[t,u] }) ty pos aft g) ts ls h { rh:=true,wh:=true }
   (.a (.d (.arr k id (nl&&rows'.isEmpty) (rows.length+rows'.length)))) ls (h.set id (some (.arr k (rows++rows')))):=by
 refine Cert.of_run fun L H _ hH j w jl a hl ho=>?_;have hH':=hH rfl;subst hH' hm;have h1:VRel j w jl (.a (.d (.arr k id nl rows.length))) (a.eval x):=by have:=ho x (by simp [Op.operands,Call.operands]); rw [hx] at this; exact this
 have h2:DRel j w (.slice k' tok' nl' rows') (a.eval y):=by have:=ho y (by simp [Op.operands,Call.operands]); rw [hy] at this; exact this
 obtain⟨einf,ed,hei,_,hes,heb,_,hez⟩:=mkTI_spec hE;rw [hz] at hez;obtain⟨zv,hzv,hzr⟩:=zeroF_rel hez;have hzsize:zv.cells.size=ei.size:=by have:=(hzr j w).cells.length; rw [hzs] at this; simpa using this.symm
 obtain⟨du,hu,hdu⟩:=slice_or_str hU huk;have ht:=slice_of hT hk;have hkr':∀r∈rows',r.length=ei.size:=by
  obtain⟨_,_,_,_,_,_,_,hh,_⟩:=rel_slice (jl:=jl) h2;rcases hkk' with e|e
  ·rw [<- e]; exact hh
  ·rw [e]; simp
 obtain⟨news,hn1,hn2⟩:=first_rel (P:=P) h2 hkr';have hlenx:=slice_len h2 P w;have hfl':=(flatten_row hkr').1;have hnl:news.length=rows'.length*ei.size:=by rw [<- hn1.length,hfl']
 have hexec:∀(v:Value) (w':World),(Builtin.append_ #[t,u] ty #[a.eval x,a.eval y]).run P w=.ok v w' ->
   (execOp a.eval (mk dst (.call { callee:=.builtin .append,args:=#[x,y],argTypes:=#[t,u] }) ty pos aft g)).run P w=.ok (.value v) w':=fun v w' hr=>by
  simp [execOp,resolve,invoke,builtin,hr]
 have htotal:(rows++rows').length=rows.length+rows'.length:=by simp
 have hmaxN:maxN=140737488355328:=rfl;have hidn:=(hl.1.obj id _ htk).1;rcases hl.arrAt htk rfl h1 with ⟨base,e1,hnl1,hrows,htok⟩|⟨b,cap,csA,ce,e1,hnl1,htok,hg,hcsz,hF,hcap,hkr,hall⟩
 ·-- nil so far
  subst hrows;by_cases hempty:rows'=[]
  ·subst hempty;have hnews:news=[]:=List.eq_nil_of_length_eq_zero (by simpa using hnl);subst hnews;have hrun:(Builtin.append_ #[t,u] ty #[a.eval x,a.eval y]).run P w=.ok (a.eval x) w:=by
    rw [e1];cases base with
    | none=>exact append_nilnil ht hu hdu hei (by simpa using hlenx) (by rw [hes]; simpa using hn2 w (fun _ _ _=>rfl))
    | some ad =>
     have:=append_fit (P:=P) (ty:=ty) (sCap:=0) (sLen:=0) (m:=0) (a:=ad) (news:=[]) (w':=w) ht hu hdu hei (by simpa using hlenx) (by rw [hes]; simpa using hn2 w (fun _ _ _=>rfl)) (by omega) (by simp [storeCells])
     simpa using this
   refine⟨_,w,a.eval x,j,jl,hexec _ _ hrun,.inl rfl, ?_, ?_,Ext.refl _, ?_⟩
   ·simpa using h1
   ·simp only [List.isEmpty_nil,Bool.and_true,List.append_nil,cond_true];rw [Heap.set_self H id _ htk]; exact hl
   ·simp only [List.isEmpty_nil,Bool.and_true,List.append_nil,cond_true];rw [Heap.set_self H id _ htk]; exact Evolve.refl _ _ _
  ·have hpos:0<rows'.length:=List.length_pos_iff.2 hempty;have hfalse:(nl&&rows'.isEmpty)=false:=by cases rows' with|nil=>exact absurd rfl hempty|cons _ _=>simp
   rw [hfalse];have hrun:=append_big (P:=P) (ty:=ty) (w:=w) (base:=base) (sLen:=0) (sCap:=0) (m:=rows'.length) (x:=a.eval y) (olds:=[]) (news:=news) ht hu hdu hei hzv hlenx
    (by cases base<;>simp [Builtin.firstCells,loadCells,loadCellsFrom]) (by rw [hes]; exact hn2 w.drew fun _ _ _=>rfl) (by omega) (by simp at hlen; omega) (growslice_fits (by omega) (by rw [heb]; simpa [maxN] using hfit))
   rw [<- e1] at hrun;generalize hcap':grownCap w (0+rows'.length) 0 e=cap' at hrun;have hge:rows'.length<=cap':=by rw [<- hcap']; have:=grownCap_ge w (0+rows'.length) 0 e; omega
   generalize hcells':[]++news++(Builtin.zeroCells zv.cells (cap'-(0+rows'.length))).toList=cells' at hrun;have hcl:cells'.length=cap'*ei.size:=by
    rw [<- hcells'];simp only [List.nil_append,List.length_append,hnl,Array.length_toList,size_zeroCells,hzsize,<- Nat.add_mul]
    congr 1; omega
   have hnew:=heap_alloc_new w.drew (.cells cells'.toArray e);obtain⟨hgrow,hev⟩:=hl.drew.growA (w':=w.drew.alloc (.cells cells'.toArray e)) (rows':=[]++rows') htk (by simpa using hpos) (b:=w.heap.size) (cap:=cap') hnew (by rw [hkk]; exact hcl) (by simpa using hge) (by simpa [hkk] using hkr') (by simpa using hlen)
    (fun x hx hlt=>heap_alloc_ne hlt) (by simp) (by simp) (.inl (Nat.le_refl _)) (fun j' hle=>by
     have htk':cells'.take (rows'.length*k)=news:=by rw [<- hcells',List.nil_append,hkk,List.take_left' (by rw [hnl])]
     rw [List.nil_append,htk'];exact hn1.imp fun _ _ h=>(h.mono ((Evolve.drew j w (fun _=>False)).toLe)).mono hle) rfl rfl Outs.rfl
   refine⟨_,_,_,_,jl,hexec _ _ hrun,.inl rfl, ?_,hgrow,Ext.refl _,(Evolve.drew j w _).trans hev⟩;refine DRel.arr _ _ _ _ _ _ (Nat.lt_of_lt_of_le hidn hev.toLe.next) fun tk htk=>?_;simp only [J.retok,if_true,Option.some.injEq] at htk;subst htk;exact⟨by simp,fun _=>.inr ⟨_,rfl,rfl,rfl⟩⟩
 ·have hfl:=(flatten_row hkr).1;subst hnl1;rw [Bool.false_and];by_cases hempty:rows'=[]
  ·subst hempty;have hnews:news=[]:=List.eq_nil_of_length_eq_zero (by simpa using hnl);subst hnews;have hrun:(Builtin.append_ #[t,u] ty #[a.eval x,a.eval y]).run P w=.ok (a.eval x) w:=by
    rw [e1];have:=append_fit (P:=P) (ty:=ty) (sCap:=cap) (sLen:=rows.length) (m:=0) (a:=⟨b,0,none⟩) (news:=[]) (w':=w) ht hu hdu hei (by simpa using hlenx) (by rw [hes]; simpa using hn2 w (fun _ _ _=>rfl)) (by omega) (by simp [storeCells])
    simpa using this
   refine⟨_,w,a.eval x,j,jl,hexec _ _ hrun,.inl rfl, ?_, ?_,Ext.refl _, ?_⟩
   ·simpa using h1
   ·simp only [List.append_nil,cond_true];rw [Heap.set_self H id _ htk]; exact hl
   ·simp only [List.append_nil,cond_true];rw [Heap.set_self H id _ htk]; exact Evolve.refl _ _ _
  ·have hpos:0<rows'.length:=List.length_pos_iff.2 hempty;have hkall:∀r∈rows++rows',r.length=k:=fun r hr=>(List.mem_append.1 hr).elim (hkr r) (fun h=>by rw [hkk]; exact hkr' r h);by_cases hroom:rows.length+rows'.length<=cap
   ·-- in place
    have hg':w.heap[b]?=some (.cells csA.toList.toArray ce (0,0)):=by simpa using hg
    obtain⟨w',hst,hupd⟩:=storeCells_upd (lou:=lou) (P:=P) (off:=rows.length*ei.size) news 0 csA.toList w hg' (by
     rw [hnl]; simp only [Array.length_toList,hcsz]; rw [Nat.add_zero,<- Nat.add_mul,hkk]; exact Nat.mul_le_mul_right _ hroom) (all2_one hn1)
    rw [Nat.add_zero] at hupd;have hrun:(Builtin.append_ #[t,u] ty #[a.eval x,a.eval y]).run P w=.ok (.slice (some ⟨b,0,none⟩) (rows.length+rows'.length) cap) w':=by
     rw [e1];exact append_fit ht hu hdu hei hlenx (by rw [hes]; exact hn2 w fun _ _ _=>rfl) hroom (by rw [add_plain,hes,Nat.zero_add]; exact hst)
    have hblkb:blkOf j id (.arr k rows)=some b:=by simp [blkOf,htok]
    have hclen:(rows++rows').length*k<=csA.toList.length:=by
     rw [htotal]; simp only [Array.length_toList,hcsz]; exact Nat.mul_le_mul_right _ hroom
    obtain⟨hgrow,hev⟩:=hl.growA (w':=w') (rows':=rows++rows') htk (by rw [htotal]; omega) (b:=b) (cap:=cap) hupd.here (by simp [spl_length,hcsz]) (by rw [htotal]; exact hroom) hkall (by rw [htotal]; exact hlen) (fun x hx _=>hupd.other x hx)
     (by rw [hupd.size]; exact Nat.le_refl _) (by rw [hupd.size]; omega) (.inr hblkb) (fun j' hle=>by
      rw [List.flatten_append];have h3:(spl csA.toList (rows.length*ei.size) news).take ((rows++rows').length*k)=csA.toList.take (rows.length*k)++news:=by
       refine List.ext_getElem? fun i=>?_;rw [List.getElem?_take];by_cases hi:i<rows.length*k
       ·rw [if_pos (by rw [htotal,Nat.add_mul]; omega),spl_lt _ _ _ _ (by rw [<- hkk]; exact hi),List.getElem?_append_left (by rw [List.length_take]; simp only [htotal,Nat.add_mul] at hclen; omega),List.getElem?_take,if_pos hi]
       ·rw [List.getElem?_append_right (by rw [List.length_take]; omega)];have hlt:(csA.toList.take (rows.length*k)).length=rows.length*k:=by rw [List.length_take]; simp only [htotal,Nat.add_mul] at hclen; omega
        rw [hlt];by_cases hi2:i<(rows++rows').length*k
        ·rw [if_pos hi2];have hi3:i-rows.length*k<news.length:=by rw [hnl,<- hkk]; rw [htotal,Nat.add_mul] at hi2; omega
         have:=spl_at csA.toList (rows.length*ei.size) news (i-rows.length*k) _ (List.getElem?_eq_getElem hi3) (by rw [hnl,<- hkk]; simp only [htotal,Nat.add_mul] at hclen; exact hclen);rw [<- hkk,show rows.length*k+(i-rows.length*k)=i by omega] at this;rw [<- hkk,this,List.getElem?_eq_getElem hi3]
        ·rw [if_neg hi2]
         symm; apply List.getElem?_eq_none; rw [hnl,<- hkk]; rw [htotal,Nat.add_mul] at hi2; omega
      rw [h3];exact(hall.imp fun _ _ h=>h.mono hle).append (hn1.imp fun _ _ h=>h.mono hle)) hupd.os hupd.tape hupd.output
    rw [htotal] at hev hgrow;refine⟨_,w',_,_,jl,hexec _ _ hrun,.inl rfl, ?_,hgrow,Ext.refl _,hev⟩;refine DRel.arr _ _ _ _ _ _ (Nat.lt_of_lt_of_le hidn hev.toLe.next) fun tk htk=>?_;simp only [J.retok,if_true,Option.some.injEq] at htk;subst htk;exact⟨Nat.le_refl _,fun _=>.inr ⟨_,rfl,rfl,rfl⟩⟩
   ·-- a new array
    obtain⟨olds,holds,hol⟩:∃olds,olds=csA.toList.take (rows.length*k)/\olds.length=rows.length*ei.size:=⟨_,rfl,by
     have h9:csA.toList.length=cap*k:=by simpa using hcsz
     have:=Nat.mul_le_mul_right k hcap;rw [List.length_take,h9,<- hkk];omega⟩
    rw [<- holds] at hall;have hfo:(Builtin.firstCells ei.size rows.length (.slice (some ⟨b,0,none⟩) rows.length cap)).run P w.drew=.ok olds.toArray w.drew:=by
     rw [Builtin.firstCells,<- hol];exact run_loadCells_list w.drew _ olds fun n v hv=>by
      rw [add_plain,Nat.zero_add];have:w.drew.cell? ⟨b,n,none⟩=w.cell? ⟨b,n,none⟩:=rfl;rw [this,cell_of_row w b n csA ce (0,0) hg];rw [holds,List.getElem?_take] at hv
      split at hv
      ·simpa using hv
      ·cases hv
    have hrun:=append_big (P:=P) (ty:=ty) (w:=w) (base:=some ⟨b,0,none⟩) (sLen:=rows.length) (sCap:=cap) (m:=rows'.length) (x:=a.eval y) (olds:=olds) (news:=news) ht hu hdu hei hzv hlenx
     (by rw [hes]; exact hfo) (by rw [hes]; exact hn2 w.drew fun _ _ _=>rfl) (by omega) (by omega) (growslice_fits (by omega) (by rw [heb]; exact hfit))
    rw [<- e1] at hrun;generalize hcap':grownCap w (rows.length+rows'.length) cap e=cap' at hrun;have hge:rows.length+rows'.length<=cap':=by rw [<- hcap']; exact grownCap_ge _ _ _ _
    generalize hcells':olds++news++(Builtin.zeroCells zv.cells (cap'-(rows.length+rows'.length))).toList=cells' at hrun;have hcl:cells'.length=cap'*ei.size:=by
     rw [<- hcells'];simp only [List.length_append,hol,hnl,Array.length_toList,size_zeroCells,hzsize,<- Nat.add_mul]
     congr 1; omega
    have hnew:=heap_alloc_new w.drew (.cells cells'.toArray e);obtain⟨hgrow,hev⟩:=hl.drew.growA (w':=w.drew.alloc (.cells cells'.toArray e)) (rows':=rows++rows') htk (by rw [htotal]; omega) (b:=w.heap.size) (cap:=cap') hnew (by rw [hkk]; exact hcl) (by rw [htotal]; exact hge) hkall (by rw [htotal]; exact hlen)
     (fun x hx hlt=>heap_alloc_ne hlt) (by simp) (by simp) (.inl (Nat.le_refl _)) (fun j' hle=>by
      have htk':cells'.take ((rows++rows').length*k)=olds++news:=by rw [<- hcells',List.take_left' (by rw [List.length_append,hol,hnl,htotal,hkk,Nat.add_mul])]
      rw [htk',List.flatten_append];have hd:=(Evolve.drew j w (fun _=>False)).toLe;exact(hall.imp fun _ _ h=>(h.mono hd).mono hle).append (hn1.imp fun _ _ h=>(h.mono hd).mono hle)) rfl rfl Outs.rfl
    rw [htotal] at hev hgrow;refine⟨_,_,_,_,jl,hexec _ _ hrun,.inl rfl, ?_,hgrow,Ext.refl _,(Evolve.drew j w _).trans hev⟩;refine DRel.arr _ _ _ _ _ _ (Nat.lt_of_lt_of_le hidn hev.toLe.next) fun tk htk=>?_;simp only [J.retok,if_true,Option.some.injEq] at htk;subst htk;exact⟨Nat.le_refl _,fun _=>.inr ⟨_,rfl,rfl,rfl⟩⟩
end

section
variable {P:Program}{ts:Ts}{ls:List (List D)}{h:Heap}{dst:Option Tmp}{ty:TypeId}{pos:String}{aft:Array Edge}{g:Option (Nat×Bool)}{α:Type}{f:α->List D}
theorem Cert.appR {t u e:TypeId}{ti ui ei:TI}{x y:Operand}{id k k' m:Nat}{nl:Bool}{tok':Option Nat}{s r v:Sl α}{z:A}(hT:mkTI P t=some ti) (hk:ti.k=.slice e) (hE:mkTI P e=some ei) (hU:mkTI P u=some ui) (huk:∃e,ui.k=.slice e)
  (hz:ei.zero=some z) (hzs:(cellsA z).length=ei.size) (hx:ev ts x=.a (.d (.arr k id nl m))) (hy:ev ts y=.a (.d (r.d k' f tok'))) (hkk:k=ei.size) (hkk':k'=ei.size)
  (htk:h id=some (.arr k (s.l.map f))) (hm:m=s.l.length) (hnl:nl=s.nl) (hr:appC ei.bytes s r=some v) :
  Cert P (mk dst (.call { callee:=.builtin .append,args:=#[x,y],argTypes:=#[t,u] }) ty pos aft g) ts ls h { rh:=true,wh:=true } (.a (.d (.arr k id v.nl v.l.length))) ls (h.set id (some (.arr k (v.l.map f)))):=by
 obtain⟨e,h1,h2⟩:=appC_some hr;subst e hnl;have:=Cert.appendR (lou:=lou) (P:=P) (dst:=dst) (ty:=ty) (pos:=pos) (aft:=aft) (g:=g) (ls:=ls) hT hk hE hU (.inl huk) hz hzs hx hy hkk (.inl hkk') htk (by simpa using hm) (by simpa using h1) (by simpa using h2);simp only [List.length_map,List.isEmpty_map] at this;rw [<- List.map_append] at this
 simpa using this

theorem HL.freezeA {j:J}{w:World}{jl:List Nat}{ls:List (List D)}{h:Heap}(hl:HL j w jl ls h){k k' id:Nat}{nl:Bool}{rows:List (List D)}(hi:h id=some (.arr k rows)){cv:Value}
  (hx:VRel j w jl (.a (.d (.arr k' id nl rows.length))) cv) :
  ∃j',HL j' w jl ls (h.set id none)/\Evolve j w (Own j h jl) j' w (Own j' (h.set id none) jl)/\DRel j' w (.slice k none nl rows) cv:=by
 obtain⟨hf,hev⟩:=hl.forget (h':=h.set id none) fun n o hn=>by
  by_cases c:n=id
  ·subst c; rw [Heap.set_same] at hn; cases hn
  ·rwa [Heap.set_other h _ c] at hn
 have hmx:rows.length<=maxN:=by obtain⟨_,_,_,_,_,hmx,_⟩:=hl.1.obj id _ hi; exact hmx
 rcases hl.arrAt hi rfl hx with ⟨base,e1,hnl1,hrows,htok⟩|⟨b,cap,csA,ce,e1,hnl1,htok,hg,hcsz,hF,hcap,hkr,hall⟩
 ·subst e1 hnl1 hrows;cases base with
  | none=>exact⟨j,hf,hev,.snil _ _ (by simp)⟩
  | some ad=>exact⟨j,hf,hev,.slice k none [] ad 0 (fun _=>undef) (by simp) (by simp) (by simp) ⟨.inl rfl,by simp⟩ (by simp) (fun t ht=>by cases ht)⟩
 ·subst e1 hnl1;have hlt:=lt_of_heap hg;have hblk:blkOf j id (.arr k rows)=some b:=by simp [blkOf,htok]
  have hnown:¬Own j (h.set id none) jl b:=by
   rintro (hm|⟨n,o,h1,h2⟩)
   ·exact hl.2.apart b hm (.inr ⟨id,_,hi,hblk⟩)
   ·have c:n≠id:=fun c=>by subst c; rw [Heap.set_same] at h1; cases h1
    rw [Heap.set_other h _ c] at h1;exact c (hl.1.inj n o id _ b h1 hi h2 hblk)
  have hle:Le j w (j.frz b (rows.length*k)) w:=⟨Nat.le_refl _,fun _ _=>rfl,fun b'=>by
   simp only [J.frz]
   split
   ·rename_i e; rw [e,hF]; exact Nat.zero_le _
   ·exact Nat.le_refl _,fun _ _ _=>rfl,fun _ _=>.inl rfl⟩
  have hsame:∀b',b'≠b->(j.frz b (rows.length*k)).F b'=j.F b':=fun b' hne=>by simp only [J.frz]; rw [if_neg hne]
  have hk2:=hf.keep hle (fun b' ho=>⟨rfl,hsame b' (fun e=>hnown (e▸ho))⟩) (fun _ _ _=>rfl) (fun b' hb'=>by rw [hsame b' (by omega)]; exact hl.1.fresh b' hb');refine⟨j.frz b (rows.length*k),hk2.1,{ toLe:=hle,size:=Nat.le_refl _,frame:=fun b' _ ho=>⟨rfl,hsame b' fun e=>ho (e▸.inr ⟨id,_,hi,hblk⟩)⟩,own:=fun b' hb' ho=>hev.own b' hb' ((hk2.2 b').1 ho),os:=rfl,tape:=rfl,output:=Outs.rfl }, ?_⟩;refine mk_slice hkr hmx hcap (fun i x hx=>?_) fun t ht=>by cases ht
  obtain⟨v,hv,hr⟩:=hall.get hx;have hin:i<rows.length*k:=by
   rcases Nat.lt_or_ge i (rows.length*k) with h|h
   ·exact h
   ·rw [List.getElem?_take,if_neg (by omega)] at hv; cases hv
  refine⟨by simp only [J.frz,if_true]; omega,v, ?_,hr.mono hle⟩;rw [Nat.zero_add,cell_of_row w b i csA ce (0,0) hg];rw [List.getElem?_take,if_pos hin] at hv
  simpa using hv
variable {c:Code}{Q:Exit->St->Prop}{n:Nat}{ops:Array Oper}{rest:List Oper}{Q':St->Prop}
theorem SRel.frzR {j:J}{w:World}{jl:List Nat}{a:Act}(s id:Nat){k k' m:Nat}{nl:Bool}{rows:List (List D)}(hs:get ts s=.a (.d (.arr k' id nl m))) (hi:h id=some (.arr k rows)) (hm:m=rows.length)
  (hsr:SRel j w jl ⟨n,ts,ls,h⟩ a):∃j',SRel j' w jl ⟨n,(s,.a (.d (.slice k none nl rows)))::ts,ls,h.set id none⟩ a/\Evolve j w (Own j h jl) j' w (Own j' (h.set id none) jl):=by
 have hv:VRel j w jl (get ts s) (a.tmps.getD s undef):=hsr.tmps s;rw [hs,hm] at hv;obtain⟨j',h1,h2,h3⟩:=HL.freezeA hsr.hl hi hv;refine⟨j',⟨hsr.defers,hsr.size,fun i=>?_,h1⟩,h2⟩;by_cases e:s=i
 ·subst e;show VRel _ _ _ (get ((s,_)::ts) s) _;rw [get_same]; exact h3
 ·show VRel _ _ _ (get ((s,_)::ts) i) _;rw [get_other _ _ e];exact(hsr.tmps i).mono h2.toLe (Ext.refl _)
theorem AWp.frzR (s id:Nat){k k' m:Nat}{nl:Bool}{rows:List (List D)}(hs:get ts s=.a (.d (.arr k' id nl m))) (hi:h id=some (.arr k rows)) (hm:m=rows.length)
  (hw:AWp P c Q ⟨n,(s,.a (.d (.slice k none nl rows)))::ts,ls,h.set id none⟩):AWp P c Q ⟨n,ts,ls,h⟩:=by
 intro j w jl a hsr;obtain⟨j',h1,h2⟩:=SRel.frzR s id hs hi hm hsr;exact wp_mono (hw j' w jl a h1) fun e a w hq=>AQ.trans h2 hq
theorem AWp.arrO (k:Nat) (hw:∀t,h t=none->AWp P c Q ⟨n,ts,ls,h.set t (some (.arr k []))⟩):AWp P c Q ⟨n,ts,ls,h⟩:=by
 intro j w jl a hsr;obtain⟨h1,h2⟩:=hsr.hl.newArr k;have hnone:=hsr.hl.1.next_none (Nat.le_refl _);refine wp_mono (hw j.next hnone j.newTok w jl a ⟨hsr.defers,hsr.size,fun i=>(hsr.tmps i).mono h2.toLe (Ext.refl _),h1⟩) fun e a w hq=>AQ.trans h2 hq
theorem nil_arr {j:J}{w:World}{h:Heap}{t k k0 k1:Nat}(hh:HRel j w h) (ht:h t=some (.arr k [])){cv:Value}(hx:DRel j w (.slice k0 none true []) cv):DRel j w (.arr k1 t true 0) cv:=by
 cases hx;obtain⟨h0,blk,h1,h2,_⟩:=hh.obj _ _ ht;have h3:=h2.2 rfl;refine .arr _ _ _ _ _ _ h0 fun tk htk=>?_;rw [h1] at htk; simp only [Option.some.injEq] at htk; subst htk;exact⟨by simp,fun _=>.inl ⟨h3,rfl,rfl⟩⟩
theorem Cert.idxRi {t e:TypeId}{ti ei:TI}{x ix:Operand}{ik:IntKind}{z:Int}{k id m:Nat}{nl:Bool}{l:List α}{y:α}(hT:mkTI P t=some ti) (hk:ti.k=.slice e) (hE:mkTI P e=some ei)
  (hx:ev ts x=.a (.d (.arr k id nl m))) (hi:ev ts ix=.a (.d (.int ik z))) (hkk:k=ei.size) (hh:h id=some (.arr k (l.map f))) (hm:m=l.length) (hr:idxC l z=some y) :
  Cert P (mk dst (.indexAddr t x ix) ty pos aft g) ts ls h { rh:=true } (.a (.d (.aptr id m (z.toNat*k)))) ls h:=by
 obtain⟨h1,h2⟩:=idxC_some hr;exact Cert.idxR hT hk hE hx (by rw [hi,Int.toNat_of_nonneg h1]) hkk hh hm h2
end
end Go.Ab

/-
 A function that lays one deferred call and returns: the deferred closure is called behind the body,then the results are read. No program text.
-/
namespace Go.Ab
open Go Go.RowKit
variable {lou:Lou}

structure ACallsD [Lou] (P:Program) (f:FuncId) (args:List A) (h:Heap) (Post:V->Heap->Prop):Prop where
 enter:∀(cargs:Array Value) (w:World),(callFunc f cargs).run P w=.ok (.enter f cargs) w
 runs:∀(j:J) (w:World) (cargs:List Value),HRel j w h->All2 (ARel j w) args cargs->∀u,CallsD P f cargs.toArray u w fun e u' w'=>u'=u /\
  ∃r cv j' h',e=.returned cv/\Post r h'/\VRel j' w' [] r cv/\HRel j' w' h'/\Evolve j w (Own j h []) j' w' (Own j' h' [])

theorem start_rel {j:J}{w:World}{h:Heap}{fn:Func}{n:Nat}(hn:fn.ntmps=n){args:List A}{cargs:List Value}(hl:Nat.ble args.length n=true) (hr:HRel j w h) (ha:All2 (ARel j w) args cargs) :
  SRel j w [] ⟨n,argTs 0 args,[],h⟩ { tmps:=cargs.toArray++Array.replicate (fn.ntmps-cargs.toArray.size) undef,defers:=[] }:=by
 subst hn;have hl:=Nat.le_of_ble_eq_true hl;have hlen:=ha.length;refine⟨rfl,by simp; omega,fun t=>?_,⟨hr,⟨.nil,by simp,by simp⟩⟩⟩;refine argTs_rel (fun t=>(cargs.toArray++Array.replicate (fn.ntmps-cargs.toArray.size) undef).getD t undef) 0 args cargs ha (fun i v hv=>?_) t;rw [Nat.zero_add,Array.getD_eq_getD_getElem?,Array.getElem?_append];have:i<cargs.length:=(List.getElem?_eq_some_iff.1 hv).1;simp [this]
 exact(List.getElem?_eq_some_iff.1 hv).2

theorem ACallsD.of_wp {P:Program}{T:List TI}(hTab:TabOk P T){f:FuncId}{fn:Func}{c:Code}{args:List A}{h:Heap}{Post:V->Heap->Prop}(hcall:∀(cargs:Array Value) (w:World),(callFunc f cargs).run P w=.ok (.enter f cargs) w) (hf:P.funcs[f]?=some fn) (hb:fn.body=some c){n:Nat}(hn:fn.ntmps=n){rs:List ResultVar}(hrs:fn.results.toList=rs) (hl:Nat.ble args.length n=true)
  (hw:AWp P c (retQ T rs Post) ⟨n,argTs 0 args,[],h⟩):ACallsD P f args h Post:=by
 refine⟨hcall,fun j w cargs hr ha u=>?_⟩;refine callsD_of_wp hf hb (wp_mono (hw j w [] _ (start_rel hn hl hr ha)) ?_);rintro e a' w' ⟨σ',j',jl',⟨he,xs,h',hres,hh',hpost⟩,hs',hev⟩;obtain⟨v,hv,hvr⟩:=results_run (P:=P) hTab hs' hrs hres;obtain⟨hl1,hev1⟩:=hs'.hl.trim 0;obtain⟨hl2,hev2⟩:=hl1.forget hh';have hfin:∃r cv j'' h'',Ending.returned v=.returned cv/\Post r h''/\VRel j'' w' [] r cv/\HRel j'' w' h''/\Evolve j w (Own j h []) j'' w' (Own j'' h'' []) :=
  ⟨resV xs,v,j',h',rfl,hpost,hvr,hl2.1,(hev.trans hev1).trans hev2⟩
 rcases he with he|he<;>subst he
 ·exact⟨hs'.defers,v,hv,hfin⟩
 ·exact⟨hs'.defers,v,hv,hfin⟩

def Via [Lou] (P:Program) (c Y:Code) (M:St->Prop) (σ:St):Prop :=
 ∀(Qc:Exit->Act->World->Prop) (j:J) (w:World) (jl:List Nat) (a:Act),SRel j w jl σ a ->
  (∀σ' j' w' jl' a',M σ'->SRel j' w' jl' σ' a'->Evolve j w (Own j σ.h jl) j' w' (Own j' σ'.h jl')->Y.wp P Qc a' w')->c.wp P Qc a w
section
variable {P:Program}{M:St->Prop}{σ:St}{Y:Code}
theorem Via.done (h:M σ):Via P Y Y M σ:=fun _ _ _ _ _ hs hk=>hk _ _ _ _ _ h hs (Evolve.refl _ _ _)
theorem Via.seqK {x y:Code}(h:∀K:St->Prop,(∀σ,Via P y Y M σ->K σ)->AWp P x (xThen K fun _ _=>False) σ):Via P (.seq x y) Y M σ:=by
 intro Qc j w jl a hs hk;refine wp_seq (wp_mono (h (Via P y Y M) (fun _ h=>h) j w jl a hs) ?_);rintro e a' w' ⟨σ',j',jl',hq,hs',hev⟩;cases e with
 | normal=>exact hq Qc j' w' jl' a' hs' fun σ2 j2 w2 jl2 a2 hM hs2 hev2=>hk σ2 j2 w2 jl2 a2 hM hs2 (hev.trans hev2)
 | exit _=>exact hq.elim
 | goto _=>exact hq.elim
 | ret=>exact hq.elim
 | panic _=>exact hq.elim
 | outgrown=>exact hq.elim
theorem Via.weak {c:Code}{σ':St}(hw:Weak σ σ') (h:Via P c Y M σ'):Via P c Y M σ:=by
 intro Qc j w jl a hs hk;obtain⟨j',jl',hs',hev⟩:=hw j w jl a hs;exact h Qc j' w jl' a hs' fun σ2 j2 w2 jl2 a2 hM hs2 hev2=>hk σ2 j2 w2 jl2 a2 hM hs2 (hev.trans hev2)
theorem Via.freeze {c:Code}{n:Nat}{ts:Ts}{ls:List (List D)}{h:Heap}{ts':Ts}{ls':List (List D)}{xs:List D}(s i:Nat) (hs:get ts s=.lptr i 0) (hl:Snoc xs ls' i ls) (hk:Keeps ts i ts') (hw:Via P c Y M ⟨n,(s,.a (.d (.view xs)))::ts',ls',h⟩):Via P c Y M ⟨n,ts,ls,h⟩ :=
 Via.weak (Weak.freeze s i hs hl hk) hw
end

def defQ [Lou] (P:Program) (T:List TI) (rs:List ResultVar) (g:FuncId) (caps:List D) (Post:V->Heap->Prop):Exit->St->Prop:=fun e σ =>
 (e=.normal\/e=.ret)/\ACallsD P g (caps.map .d) σ.h fun _ h'=>∃xs h'',resAs T { σ with h:=h' } rs=some xs/\(∀id o,h'' id=some o->h' id=some o)/\Post (resV xs) h''

def Door [Lou] (P:Program) (T:List TI) (rs:List ResultVar) (g:FuncId) (caps:List Operand) (dt:Nat) (Z:Code) (Post:V->Heap->Prop):St->Prop:=fun σ =>
 ∃xs,evDs σ.ts caps=some xs/\Nat.blt dt σ.n=true/\∀amb:Amb,@AWp _ amb P Z (defQ P T rs g xs Post) ⟨σ.n,(dt,.any)::σ.ts,σ.ls,σ.h⟩

theorem HL.called {j j':J}{w w':World}{jl:List Nat}{ls:List (List D)}{h h':Heap}(hl:HL j w jl ls h) (hh:HRel j' w' h') (hev:Evolve j w (Own j h []) j' w' (Own j' h' [])) :
  HL j' w' jl ls h'/\Evolve j w (Own j h jl) j' w' (Own j' h' jl):=by
 have hjl:∀b,b∈jl->b<w.heap.size:=fun b hb=>Own.lt hl (.inl hb);have hloc:∀b,b∈jl->w'.heap[b]?=w.heap[b]?/\j'.F b=j.F b:=fun b hb=>hev.frame b (hjl b hb) (hl.2.apart b hb);refine⟨⟨hh,⟨all2_imp_mem hl.2.each fun xs b hb h=>h.keep hev.toLe (hloc b hb),hl.2.nodup,fun b hb ho=>hl.2.apart b hb (hev.own b (hjl b hb) ho)⟩⟩, ?_⟩;refine { hev with frame:=fun b hb hn=>hev.frame b hb (fun ho=>hn ?_),own:=fun b hb ho=>?_ }
 ·rcases ho with ho|ho
  ·simp at ho
  ·exact .inr ho
 ·rcases ho with ho|ho
  ·exact .inl ho
  ·rcases hev.own b hb (.inr ho) with h|h
   ·simp at h
   ·exact .inr h

theorem AC.of_wpD {P:Program}{T:List TI}(hTab:TabOk P T){f:FuncId}{fn:Func}{c:Code}{args:List A}{h:Heap}{Post:V->Heap->Prop}(hcall:∀(cargs:Array Value) (w:World),(callFunc f cargs).run P w=.ok (.enter f cargs) w) (hf:P.funcs[f]?=some fn) (hb:fn.body=some c){n:Nat}(hn:fn.ntmps=n){rs:List ResultVar}(hrs:fn.results.toList=rs) (hl:Nat.ble args.length n=true)
  {rid dt:Nat}{g:FuncId}{caps:Array Operand}{Z:Code}{ty1 ty2:TypeId}{pos1 pos2:String}{aft1 aft2:Array Edge}{ats:Array TypeId}
  (hw:Via P c (.seq (.region rid #[⟨some dt,.makeFunc (.func g) #[] caps,ty1,pos1,aft1,none⟩,⟨none,.defer { callee:=.value (.tmp dt),args:=#[],argTypes:=ats },ty2,pos2,aft2,none⟩] false) Z) (Door P T rs g caps.toList dt Z Post) ⟨n,argTs 0 args,[],h⟩):AC P f args h Post:=by
 refine⟨hcall,fun j w cargs hr ha=>?_⟩;refine calls_of_wp_defers hf hb (hw _ j w [] _ (start_rel hn hl hr ha) fun σ j1 w1 jl1 a1 hM hs1 hev1=>?_);obtain⟨xs,hx,hdt,hZ⟩:=hM;have hxs:=evDs_rel (j:=j1) (w:=w1) (jl:=jl1) (act:=a1) caps.toList xs hx fun x _=>ev_rel hs1.tmps x;have hdt':dt<a1.tmps.size:=by rw [hs1.size]; simpa [Nat.blt_eq] using hdt
 have hd0:a1.defers=[]:=hs1.defers;refine wp_seq (wp_region_lit ?_);refine wpList_step fun K hK=>?_;rw [if_pos (wanted_none rfl)];unfold Oper.wp;have e1:(execOp a1.eval ⟨some dt,.makeFunc (.func g) #[] caps,ty1,pos1,aft1,none⟩).run P w1=.ok (.value (.func (.func g) #[] (caps.toList.map a1.eval).toArray)) w1:=by
  simp [execOp,Instr.makeFunc]
  apply Array.ext'; simp
 rw [e1,Oper.upon_value];refine hK _ _ ?_;refine wpList_step fun K2 hK2=>?_;rw [if_pos (wanted_none rfl)];unfold Oper.wp;have hev:(a1.put (some dt) (.func (.func g) #[] (caps.toList.map a1.eval).toArray)).eval (.tmp dt)=.func (.func g) #[] (caps.toList.map a1.eval).toArray:=by
  show (a1.put (some dt) _).tmps.getD dt undef=_;simp [Act.put,Array.getD_eq_getD_getElem?,hdt']
 have e2:(execOp (a1.put (some dt) (.func (.func g) #[] (caps.toList.map a1.eval).toArray)).eval ⟨none,.defer { callee:=.value (.tmp dt),args:=#[],argTypes:=ats },ty2,pos2,aft2,none⟩).run P w1=.ok (.defer { target:=.fn (.func g) (caps.toList.map a1.eval).toArray,args:=#[] }) w1:=by
  simp only [execOp,resolve,hev,Deferred.ofValue,Sem.run_bind,Sem.run_pure,Result.andThen];simp
 rw [e2,Oper.upon_defer];refine hK2 _ _ ?_;show Code.wp P _ _ _ w1;have hsr:=hs1.put (Le.refl j1 w1) (Ext.refl jl1) (dst:=some dt) (okDst_some hdt) (v:=.any) (cv:=.func (.func g) #[] (caps.toList.map a1.eval).toArray) trivial hs1.hl;have hd1:(a1.put (some dt) (Value.func (.func g) #[] (caps.toList.map a1.eval).toArray)).defers=[]:=by rw [put_defers]; exact hd0
 have hq1:=hsr.size;have hq2:=hsr.tmps;have hq3:=hsr.hl
 let amb:Amb:=⟨[{ target:=.fn (.func g) (caps.toList.map a1.eval).toArray,args:=#[] }]⟩
 have hz:=hZ amb;refine wp_mono (hz j1 w1 jl1 _ ⟨?_,hq1,hq2,hq3⟩) ?_
 ·show _::_=_;rw [hd1]; rfl
 ·rintro e a4 w4 ⟨σ4,j4,jl4,⟨he,hcd⟩,hs4,hev4⟩;have hd4:a4.defers=[{ target:=.fn (.func g) (caps.toList.map a1.eval).toArray,args:=#[] }]:=hs4.defers;have hleaves:Leaves P fn a4.tmps (fun e w'=>∃r cv j' h',e=.returned cv/\Post r h'/\VRel j' w' [] r cv/\HRel j' w' h'/\Evolve j w (Own j h []) j' w' (Own j' h' [])) a4.defers .returning w4:=by
   rw [hd4];refine leaves_cons (f:=g) (args:=(caps.toList.map a1.eval).toArray) (by simp) (by rw [invoke,Array.empty_append]; exact hcd.enter _ _) ?_;refine(hcd.runs j4 w4 _ hs4.hl.1 (All2.of_get (by rw [List.length_map]; exact hxs.length) fun i x y hx hy=>?_) .returning).mono ?_
   ·rw [List.getElem?_map] at hx;cases e:xs[i]? with
    | none=>rw [e] at hx; simp at hx
    | some z =>
     rw [e] at hx; simp at hx; subst hx;obtain⟨y',hy',hr⟩:=hxs.get e;rw [hy] at hy';simp only [Option.some.injEq] at hy';subst hy';exact hr.mono hev4.toLe
   ·rintro e5 u5 w5 ⟨rfl,r,cv,j5,h5,rfl,⟨ys,h6,hres,hsub,hpost⟩,hv,hh,hev5⟩;obtain⟨hl5,hev6⟩:=hs4.hl.called hh hev5;have hs5:@SRel amb j5 w5 jl4 ⟨σ4.n,σ4.ts,σ4.ls,h5⟩ a4:=⟨hs4.defers,hs4.size,fun k=>(hs4.tmps k).mono hev5.toLe (Ext.refl _),hl5⟩;obtain⟨v,hv1,hv2⟩:=results_run (P:=P) hTab hs5 hrs hres;obtain⟨hl7,hev7⟩:=hl5.trim 0;obtain⟨hl8,hev8⟩:=hl7.forget hsub;exact⟨v,hv1,resV ys,v,j5,h6,rfl,hpost,hv2,hl8.1,((((hev1.trans hev4).trans hev6).trans hev7).trans hev8)⟩
  rcases he with he|he<;>subst he<;>exact hleaves
end Go.Ab
namespace Go.Ab
open Go Go.RowKit
variable {lou:Lou}
def V.shift (i:Nat):V->V
 | .lptr q off=>bif Nat.beq q i then .any else bif Nat.blt i q then .lptr (q-1) off else .lptr q off
 | .gdl c q off=>bif Nat.beq q i then .any else bif Nat.blt i q then .gdl c (q-1) off else .gdl c q off
 | v=>v
def shiftTs (i:Nat):Ts->Ts
 | []=>[]
 | (k,v)::r=>(k,v.shift i)::shiftTs i r
theorem get_shift (i:Nat):∀(ts:Ts) (k:Nat),get (shiftTs i ts) k=(get ts k).shift i
 | [],_=>rfl
 | (k',v)::r,k=>by
  simp only [shiftTs];by_cases e:k'=k
  ·subst e; rw [get_same,get_same]
  ·rw [get_other _ _ e,get_other _ _ e,get_shift i r k]
theorem get_erase {α:Type}{l:List α}{i a:Nat}(h:a≠i):(l.eraseIdx i)[if i<a then a-1 else a]?=l[a]?:=by
 rw [List.getElem?_eraseIdx];by_cases c:i<a
 ·rw [if_pos c,if_neg (by omega)]; congr 1; omega
 ·rw [if_neg c,if_pos (by omega)]
theorem all2_erase {α β:Type}{R:α->β->Prop}{l:List α}{m:List β}(h:All2 R l m):∀(i:Nat),All2 R (l.eraseIdx i) (m.eraseIdx i):=by
 induction h with
 | nil=>intro i; exact .nil
 | cons x t ih =>
  intro i;cases i with
  | zero=>exact t
  | succ i=>exact .cons x (ih i)
theorem V.shift_lptr (i q off:Nat):V.shift i (.lptr q off)=bif Nat.beq q i then .any else .lptr (if i<q then q-1 else q) off:=by
 show (bif Nat.beq q i then V.any else bif Nat.blt i q then .lptr (q-1) off else .lptr q off)=_;cases c:Nat.blt i q
 ·rw [if_neg (fun h=>by rw [show Nat.blt i q=true by simpa [Nat.blt_eq] using h] at c; cases c)]; rfl
 ·rw [if_pos (by simpa [Nat.blt_eq] using c)]; rfl
theorem V.shift_gdl (i:Nat) (g:Bool) (q off:Nat):V.shift i (.gdl g q off)=bif Nat.beq q i then .any else .gdl g (if i<q then q-1 else q) off:=by
 show (bif Nat.beq q i then V.any else bif Nat.blt i q then .gdl g (q-1) off else .gdl g q off)=_;cases c:Nat.blt i q
 ·rw [if_neg (fun h=>by rw [show Nat.blt i q=true by simpa [Nat.blt_eq] using h] at c; cases c)]; rfl
 ·rw [if_pos (by simpa [Nat.blt_eq] using c)]; rfl
theorem VRel.shift {j:J}{w:World}{jl:List Nat}{i:Nat}{v:V}{cv:Value}(h:VRel j w jl v cv):VRel j w (jl.eraseIdx i) (v.shift i) cv:=by
 cases v with
 | lptr q off =>
  rw [V.shift_lptr];cases c1:Nat.beq q i
  ·obtain⟨b,hb,e⟩:=h;exact⟨b,by rw [get_erase (Nat.ne_of_beq_eq_false c1)]; exact hb,e⟩
  ·exact True.intro
 | gdl c q off =>
  rw [V.shift_gdl];cases c1:Nat.beq q i
  ·refine⟨fun hc=>?_,h.2⟩;obtain⟨b,hb,e⟩:=h.1 hc;exact⟨b,by rw [get_erase (Nat.ne_of_beq_eq_false c1)]; exact hb,e⟩
  ·exact True.intro
 | any=>exact True.intro
 | a x=>exact h
 | tup xs=>exact h
 | gd c x=>exact h
 | full k rows=>exact h
 | gdf c k rows=>exact h
theorem Weak.freezeAt {amb:Amb}{n:Nat}{ts:Ts}{ls:List (List D)}{h:Heap}{xs:List D}(s i:Nat) (hs:get ts s=.lptr i 0) (hx:ls[i]?=some xs) :
  Weak ⟨n,ts,ls,h⟩ ⟨n,(s,.a (.d (.view xs)))::shiftTs i ts,ls.eraseIdx i,h⟩:=by
 intro j w jl a hsr;have hlr:=hsr.hl;obtain⟨b,hb,hbv⟩:∃b,jl[i]?=some b/\a.tmps.getD s undef=.pointer (some ⟨b,0,none⟩):=by
  have:=hsr.tmps s;have this:VRel j w jl (get ts s) (a.tmps.getD s undef):=this;rw [hs] at this; exact this
 obtain⟨xs',hxs,cs,te,hheap,hcs,hF⟩:∃xs',ls[i]?=some xs'/\Loc1 j w b xs':=hlr.2.each.get' hb;rw [hx] at hxs; simp only [Option.some.injEq] at hxs; subst hxs;have hlt:=lt_of_heap hheap;have hnb:b∉jl.eraseIdx i:=by
  intro hm;obtain⟨k,hk1,hk2⟩:=List.getElem_of_mem hm;have h0:(jl.eraseIdx i)[k]?=some b:=by rw [List.getElem?_eq_getElem hk1,hk2]
  rw [List.getElem?_eraseIdx] at h0;have hi:i<jl.length:=(List.getElem?_eq_some_iff.1 hb).1;by_cases c:k<i
  ·rw [if_pos c] at h0;have h2:=(List.getElem?_inj (by omega) hlr.2.nodup).1 (h0.trans hb.symm);omega
  ·rw [if_neg c] at h0;have hk:k+1<jl.length:=(List.getElem?_eq_some_iff.1 h0).1;have h2:=(List.getElem?_inj hk hlr.2.nodup).1 (h0.trans hb.symm);omega
 have hsub:∀x,x∈jl.eraseIdx i->x∈jl:=fun x hm=>List.mem_of_mem_eraseIdx hm;have hownsub:∀x,Own j h (jl.eraseIdx i) x->Own j h jl x:=fun x ho=>ho.elim (fun hm=>.inl (hsub x hm)) .inr;have hnown:¬Own j h (jl.eraseIdx i) b:=by
  rintro (hm|⟨id,o,h1,h2⟩)
  ·exact hnb hm
  ·exact hlr.2.apart b (List.mem_of_getElem? hb) (.inr ⟨id,o,h1,h2⟩)
 have hbase:HL j w (jl.eraseIdx i) (ls.eraseIdx i) h:=⟨hlr.1,⟨all2_erase hlr.2.each i,hlr.2.nodup.eraseIdx i,fun x hm ho=>hlr.2.apart x (hsub x hm) ho⟩⟩;have hle:Le j w (j.frz b xs.length) w:=⟨Nat.le_refl _,fun _ _=>rfl,fun b'=>by
  simp only [J.frz]
  split
  ·rename_i e; rw [e,hF]; exact Nat.zero_le _
  ·exact Nat.le_refl _,fun _ _ _=>rfl,fun _ _=>.inl rfl⟩
 have hsame:∀b',b'≠b->(j.frz b xs.length).F b'=j.F b':=fun b' hne=>by simp only [J.frz]; rw [if_neg hne]
 have hk2:=hbase.keep hle (fun b' ho=>⟨rfl,hsame b' (fun e=>hnown (e▸ho))⟩) (fun _ _ _=>rfl) (fun b' hb'=>by rw [hsame b' (by omega)]; exact hlr.1.fresh b' hb');refine⟨j.frz b xs.length,jl.eraseIdx i,⟨hsr.defers,hsr.size,fun k=>?_,hk2.1⟩, ?_⟩
 ·by_cases e:s=k
  ·subst e;show VRel _ _ _ (get ((s,_)::shiftTs i ts) s) _;rw [get_same,hbv];exact view_of (n:=0) hheap (hcs.imp fun _ _ h=>h.mono hle) (by simp [J.frz])
  ·show VRel _ _ _ (get ((s,_)::shiftTs i ts) k) _;rw [get_other _ _ e,get_shift];have hv:VRel j w jl (get ts k) (a.tmps.getD k undef):=hsr.tmps k;exact(hv.shift (i:=i)).mono hle (Ext.refl _)
 ·refine { toLe:=hle,size:=Nat.le_refl _,frame:=fun b' _ ho=>⟨rfl,hsame b' fun e=>ho (.inl (e▸List.mem_of_getElem? hb))⟩,own:=fun b' _ ho=>hownsub b' ((hk2.2 b').1 ho),os:=rfl,tape:=rfl,output:=Outs.rfl }
theorem AWp.freezeAt {amb:Amb}{P:Program}{c:Code}{Q:Exit->St->Prop}{n:Nat}{ts:Ts}{ls:List (List D)}{h:Heap}{xs:List D}(s i:Nat) (hs:get ts s=.lptr i 0) (hx:ls[i]?=some xs)
  (hw:AWp P c Q ⟨n,(s,.a (.d (.view xs)))::shiftTs i ts,ls.eraseIdx i,h⟩):AWp P c Q ⟨n,ts,ls,h⟩:=AWp.weak (Weak.freezeAt s i hs hx) hw
theorem AWp.seqJD {amb:Amb}{P:Program}{Q:Exit->St->Prop}{n:Nat}{ts0 ts:Ts}{ls:List (List D)}{h:Heap}{α:Type}{x y:Code}(_:KeepsT ts0 ts) (over:α->Ts) (lo:α->List (List D)) (hh:α->Heap) (pre:α->Prop)
  (hx:∀K:St->Prop,(∀σ' y,Weak σ' ⟨n,over y++ts,lo y,hh y⟩->pre y->K σ')->(∀σ',AWp P y Q σ'->K σ')->AWp P x (xThen K Q) ⟨n,ts0,ls,h⟩) (hy:∀z,pre z->AWp P y Q ⟨n,over z++ts,lo z,hh z⟩):AWp P (.seq x y) Q ⟨n,ts0,ls,h⟩:=by
 exact AWp.seq (hx (AWp P y Q) (fun σ' z h1 h2=>AWp.weak h1 (hy z h2)) fun σ' h=>h)
end Go.Ab
namespace Go.Ab
variable {lou:Lou}
theorem ACallsD.mono {P:Go.Program}{f:Go.FuncId}{args:List A}{h:Heap}{Post Post':V->Heap->Prop}(hc:ACallsD P f args h Post) (hp:∀r h',Post r h'->Post' r h'):ACallsD P f args h Post' :=
 ⟨hc.enter,fun j w cargs hr ha u=>(hc.runs j w cargs hr ha u).mono fun _ _ _ ⟨e0,r,cv,j',h',e,p,rest⟩=>⟨e0,r,cv,j',h',e,hp r h' p,rest⟩⟩
end Go.Ab
namespace Go.Ab
variable {lou:Lou}
theorem Via.heqA {P:Go.Program}{M:St->Prop}{c Y:Go.Code}{n:Nat}{ts:Ts}{ls:List (List D)}{h h':Heap}(e:h=h') (hw:Via P c Y M ⟨n,ts,ls,h'⟩):Via P c Y M ⟨n,ts,ls,h⟩:=by subst e; exact hw
end Go.Ab

/-
 Arrays that are built at once and then only read.
-/
namespace Go.Ab
open Go Go.RowKit
variable {lou:Lou}
section
variable {P:Program}{T:List TI}{ts:Ts}{ls:List (List D)}{h:Heap}{dst:Option Tmp}{ty:TypeId}{pos:String}{aft:Array Edge}{g:Option (Nat×Bool)}
end
end Go.Ab

/-
 Scopes: code that no jump leaves.
-/
namespace Go.Ab
open Go Go.RowKit
variable {lou:Lou}
def noG (Q:Exit->St->Prop):Exit->St->Prop
 | .goto _,_=>False
 | e,σ=>Q e σ
theorem AWp.scope [Amb] {P:Program}{Q:Exit->St->Prop}{σ:St}{c:Code}(h:AWp P c (noG Q) σ):AWp P (.scope c) Q σ:=fun j w jl a hs =>
 wp_scope_straight (wp_mono (h j w jl a hs) fun e a' w' hq=>by
  cases e with
  | goto l=>obtain⟨_,_,_,hf,_⟩:=hq; exact hf.elim
  | normal=>exact hq
  | exit id=>exact hq
  | ret=>exact hq
  | panic ch=>exact hq
  | outgrown=>exact hq)
theorem noG_ret {Q:Exit->St->Prop}{σ:St}(h:Q .ret σ):noG Q .ret σ:=h
end Go.Ab

/-
 Ranging over a set of strings: the map as it is,the iterator,its steps,delete.
-/
namespace Go.Ab
open Go Go.RowKit
variable {lou:Lou}{amb:Amb}
def mE (p:List (List UInt8×Nat)):List MapEntry:=p.map fun x=>⟨.string ⟨x.1.toArray⟩,.bool true,x.2⟩
structure Pop (l:List (List UInt8)) (p:List (List UInt8×Nat)) (clk:Nat):Prop where
 keys:p.map (·.1)=l
 nodup:(p.map (·.2)).Nodup
 uniq:l.Nodup
 lt:∀x∈p,x.2<clk
 len:∀s∈l,s.length<=maxS
theorem keys_nodup {p:List (List UInt8×Nat)}(h:((mE p).map (·.key)).Nodup):(p.map (·.1)).Nodup:=by
 have:(mE p).map (·.key)=(p.map (·.1)).map fun s=>Value.string ⟨s.toArray⟩:=by simp [mE,Function.comp_def]
 rw [this] at h;rw [List.nodup_iff_pairwise_ne,List.pairwise_map] at h;rw [List.nodup_iff_pairwise_ne];exact h.imp fun hne e=>hne (by rw [e])
theorem nodup_keys {p:List (List UInt8×Nat)}(h:(p.map (·.1)).Nodup):((mE p).map (·.key)).Nodup:=by
 have:(mE p).map (·.key)=(p.map (·.1)).map fun s=>Value.string ⟨s.toArray⟩:=by simp [mE,Function.comp_def]
 rw [this];rw [List.nodup_iff_pairwise_ne] at h ⊢;rw [List.pairwise_map];exact h.imp fun hne e=>hne (by
  have e:=Value.string.inj e
  simpa using e)
theorem seen_ex {j:J}{w:World}:∀{l:List (List UInt8)}{ms:List MapEntry},All2 (ERel j w) (seenM l) ms->∃p,ms=mE p/\p.map (·.1)=l/\∀s∈l,s.length<=maxS
 | [],ms,h=>by cases h; exact⟨[],rfl,rfl,fun _ h=>by cases h⟩
 | s::l,ms,h=>by
  cases h with
  | @cons _ m _ ms h t =>
   obtain⟨p,e1,e2,e3⟩:=seen_ex (l:=l) t;obtain⟨k,v,b⟩:=m;obtain⟨hk,hv⟩:=h;have hk:DRel j w (.str s) k:=hk;have hv:DRel j w (.bool true) v:=hv;cases hk with
   | str _ hs =>
    cases hv;exact⟨(s,b)::p,by rw [e1]; rfl,by simp [e2],fun x hx=>(List.mem_cons.1 hx).elim (fun e=>e▸hs) (e3 x)⟩
theorem seen_of {j:J}{w:World}:∀(p:List (List UInt8×Nat)),(∀x∈p,x.1.length<=maxS)->All2 (ERel j w) (seenM (p.map (·.1))) (mE p)
 | [],_=>.nil
 | x::p,h=>.cons ⟨DRel.str _ (h x (.head _)),DRel.bool _⟩ (seen_of p fun y hy=>h y (.tail _ hy))
theorem Own.reobjR {j:J}{h:Heap}{c:Nat}{o o':Obj}(hc:h c=some o) (hb:blkOf j c o'=blkOf j c o){jl:List Nat}{b:Nat}:Own j (h.set c (some o')) jl b↔Own j h jl b:=by
 constructor
 ·rintro (h1|⟨id,q,h1,h2⟩)
  ·exact .inl h1
  ·by_cases e:id=c
   ·subst e; rw [Heap.set_same] at h1; simp only [Option.some.injEq] at h1; subst h1;exact .inr ⟨id,_,hc,hb▸h2⟩
   ·rw [Heap.set_other _ _ e] at h1; exact .inr ⟨id,q,h1,h2⟩
 ·rintro (h1|⟨id,q,h1,h2⟩)
  ·exact .inl h1
  ·by_cases e:id=c
   ·subst e; rw [hc] at h1; simp only [Option.some.injEq] at h1; subst h1;exact .inr ⟨id,_,Heap.set_same _ _ _,hb.symm▸h2⟩
   ·exact .inr ⟨id,q,by rw [Heap.set_other _ _ e]; exact h1,h2⟩
theorem HRel.reobjR {j:J}{w:World}{h:Heap}{c:Nat}{o o':Obj}(hr:HRel j w h) (hc:h c=some o) (hb:blkOf j c o'=blkOf j c o) (ho:ORel j w c o'):HRel j w (h.set c (some o')):=by
 have key:∀id q,(h.set c (some o')) id=some q->∃q',h id=some q'/\blkOf j id q=blkOf j id q':=by
  intro id q hq;by_cases e:id=c
  ·subst e; rw [Heap.set_same] at hq; simp only [Option.some.injEq] at hq; subst hq;exact⟨_,hc,hb⟩
  ·rw [Heap.set_other _ _ e] at hq; exact⟨q,hq,rfl⟩
 refine⟨fun id q hq=>?_,fun id1 o1 id2 o2 b h1 h2 e1 e2=>?_,hr.fresh⟩
 ·by_cases e:id=c
  ·subst e; rw [Heap.set_same] at hq; simp only [Option.some.injEq] at hq; subst hq;exact⟨(hr.obj _ _ hc).1,ho⟩
  ·rw [Heap.set_other _ _ e] at hq; exact hr.obj _ _ hq
 ·obtain⟨p1,hp1,ep1⟩:=key _ _ h1;obtain⟨p2,hp2,ep2⟩:=key _ _ h2;exact hr.inj _ _ _ _ b hp1 hp2 (ep1▸e1) (ep2▸e2)
section
variable {P:Program}{c:Code}{Q:Exit->St->Prop}{n:Nat}{ts:Ts}{ls:List (List D)}{h:Heap}
theorem AWp.exMap (id:Nat){l:List (List UInt8)}(hi:h id=some (.map (seenM l))) (hw:∀b p clk,Pop l p clk->AWp P c Q ⟨n,ts,ls,h.set id (some (.fixt b (.map (mE p).toArray clk)))⟩):AWp P c Q ⟨n,ts,ls,h⟩:=by
 intro j w jl a hsr;have hl:=hsr.hl;obtain⟨hn,b,cc,ms,clk,htk,hg,hall,hF,hB⟩:=hl.1.obj id _ hi;obtain⟨p,rfl,e2,e3⟩:=seen_ex hall;have hpop:Pop l p clk:=⟨e2,by have:=hB.1; simpa [mE,Function.comp_def] using this,by rw [<- e2]; exact keys_nodup hB.2.2,fun x hx=>hB.2.1 _ (List.mem_map_of_mem hx),e3⟩;have hblk:blkOf j id (.fixt b (.map (mE p).toArray clk))=blkOf j id (.map (seenM l)):=by simp [blkOf,htk]
 refine wp_mono (hw b p clk hpop j w jl a ⟨hsr.defers,hsr.size,hsr.tmps,⟨hl.1.reobjR hi hblk ⟨cc,htk,hg,hF⟩,⟨hl.2.each,hl.2.nodup,fun b hb ho=>hl.2.apart b hb ((Own.reobjR hi hblk).1 ho)⟩⟩⟩) fun e a w hq=>AQ.trans ?_ hq;exact { Evolve.refl j _ (Own j h jl) with own:=fun b _ ho=>(Own.reobjR hi hblk).1 ho }
theorem AWp.mapEx (id:Nat){b clk:Nat}{p:List (List UInt8×Nat)}(hi:h id=some (.fixt b (.map (mE p).toArray clk))) (hp:Pop (p.map (·.1)) p clk) (hw:AWp P c Q ⟨n,ts,ls,h.set id (some (.map (seenM (p.map (·.1)))))⟩):AWp P c Q ⟨n,ts,ls,h⟩:=by
 intro j w jl a hsr;have hl:=hsr.hl;obtain⟨hn,cc,htk,hg,hF⟩:=hl.1.obj id _ hi;have hblk:blkOf j id (.map (seenM (p.map (·.1))))=blkOf j id (.fixt b (.map (mE p).toArray clk)):=by simp [blkOf,htk]
 have hB:Births (mE p) clk:=⟨by have:=hp.nodup; simpa [mE,Function.comp_def] using this,(fun m hm=>by obtain⟨x,hx,rfl⟩:=List.mem_map.1 hm; exact hp.lt x hx),nodup_keys hp.uniq⟩;refine wp_mono (hw j w jl a ⟨hsr.defers,hsr.size,hsr.tmps,⟨hl.1.reobjR hi hblk ⟨b,cc,_,clk,htk,hg,seen_of p (fun x hx=>hp.len _ (List.mem_map_of_mem hx)),hF,hB⟩,⟨hl.2.each,hl.2.nodup,fun b hb ho=>hl.2.apart b hb ((Own.reobjR hi hblk).1 ho)⟩⟩⟩) fun e a w hq=>AQ.trans ?_ hq
 exact { Evolve.refl j _ (Own j h jl) with own:=fun b _ ho=>(Own.reobjR hi hblk).1 ho }
end
theorem HL.bornFix {j:J}{w:World}{jl:List Nat}{ls:List (List D)}{h:Heap}(hl:HL j w jl ls h){t k:Nat}(ht:h t=some (.tok k 0)) (go:Go.Obj) :
  HL (j.retok t ⟨some (w.heap.size,0),1⟩ w.heap.size 0) (w.alloc go) jl ls (h.set t (some (.fixt w.heap.size go))) /\
   Evolve j w (Own j h jl) (j.retok t ⟨some (w.heap.size,0),1⟩ w.heap.size 0) (w.alloc go) (Own (j.retok t ⟨some (w.heap.size,0),1⟩ w.heap.size 0) (h.set t (some (.fixt w.heap.size go))) jl) /\
   VRel (j.retok t ⟨some (w.heap.size,0),1⟩ w.heap.size 0) (w.alloc go) jl (.a (.d (.aptr t 1 0))) (.pointer (some ⟨w.heap.size,0,none⟩)):=by
 obtain⟨htn,blk,htok,hblk,_⟩:=hl.1.obj t _ ht;have hF0:j.F w.heap.size=0:=hl.1.fresh _ (Nat.le_refl _);have hother:∀x,x<w.heap.size->(w.alloc go).heap[x]?=w.heap[x]?:=fun x hx=>heap_alloc_ne hx;generalize hj':j.retok t ⟨some (w.heap.size,0),1⟩ w.heap.size 0=j';have hFx:∀x,j'.F x=j.F x:=fun x=>by
  subst hj'; simp only [J.retok]; split
  ·rename_i c; rw [c,hF0]
  ·rfl
 have hnx:j'.next=j.next:=by subst hj'; rfl
 have htk:j'.tok t=some ⟨some (w.heap.size,0),1⟩:=by subst hj'; simp [J.retok]
 have hto:∀x,x≠t->j'.tok x=j.tok x:=fun x hx=>by subst hj'; simp [J.retok,hx]
 have hle:Le j w j' (w.alloc go):=by
  refine⟨by rw [hnx]; exact Nat.le_refl _,fun _ _=>by subst hj'; rfl,fun x=>by rw [hFx]; exact Nat.le_refl _,fun x o ho=>?_,fun x hx=>?_⟩
  ·refine cell?_eq (hother x ?_);rcases Nat.lt_or_ge x w.heap.size with h1|h1
   ·exact h1
   ·rw [hl.1.fresh x h1] at ho; omega
  ·by_cases c:x=t
   ·subst c; exact .inr ⟨_,_,htok,htk,Nat.zero_lt_one⟩
   ·exact .inl (hto x c)
 have hsepO:∀n q x,h n=some q->blkOf j n q=some x->x<w.heap.size:=fun n q x hn hx=>Own.lt hl (.inr ⟨n,q,hn,hx⟩);have hsepL:∀x,x∈jl->x<w.heap.size:=fun x hx=>Own.lt hl (.inl hx);have hkeep:∀n q,h n=some q->n≠t->ORel j' (w.alloc go) n q/\blkOf j' n q=blkOf j n q:=fun n q hn hne =>
  (hl.1.obj n q hn).2.keep hle (hl.1.obj n q hn).1 (fun x hx=>⟨hother x (hsepO n q x hn hx),hFx x⟩) (fun _=>hto n hne)
 have hnew:blkOf j' t (.fixt w.heap.size go)=some w.heap.size:=rfl;have hown:∀jl x,Own j' (h.set t (some (.fixt w.heap.size go))) jl x->x=w.heap.size\/Own j h jl x:=by
  rintro jl x (hx|⟨n,q,hn,hx⟩)
  ·exact .inr (.inl hx)
  ·by_cases c:n=t
   ·subst c; rw [Heap.set_same] at hn; simp only [Option.some.injEq] at hn; subst hn;rw [hnew] at hx; simp only [Option.some.injEq] at hx; exact .inl hx.symm
   ·rw [Heap.set_other h _ c] at hn;exact .inr (.inr ⟨n,q,hn,(hkeep n q hn c).2▸hx⟩)
 refine⟨⟨⟨fun n q hn=>?_,fun n1 q1 n2 q2 x h1 h2 e1 e2=>?_,fun x hx=>?_⟩,
  ⟨all2_imp_mem hl.2.each fun xs x hx h=>h.keep hle ⟨hother x (hsepL x hx),hFx x⟩,hl.2.nodup,fun x hx ho=>?_⟩⟩, ?_, ?_⟩
 ·rw [hnx];by_cases c:n=t
  ·subst c; rw [Heap.set_same] at hn; simp only [Option.some.injEq] at hn; subst hn;exact⟨htn,0,htk,heap_alloc_new w _,by rw [hFx]; exact hF0⟩
  ·rw [Heap.set_other h _ c] at hn;exact⟨(hl.1.obj n q hn).1,(hkeep n q hn c).1⟩
 ·by_cases c1:n1=t<;>by_cases c2:n2=t
  ·omega
  ·subst c1; rw [Heap.set_same] at h1; simp only [Option.some.injEq] at h1; subst h1;rw [Heap.set_other h _ c2] at h2;rw [hnew] at e1; simp only [Option.some.injEq] at e1;have:=hsepO n2 q2 x h2 ((hkeep n2 q2 h2 c2).2▸e2); omega
  ·subst c2; rw [Heap.set_same] at h2; simp only [Option.some.injEq] at h2; subst h2;rw [Heap.set_other h _ c1] at h1;rw [hnew] at e2; simp only [Option.some.injEq] at e2;have:=hsepO n1 q1 x h1 ((hkeep n1 q1 h1 c1).2▸e1); omega
  ·rw [Heap.set_other h _ c1] at h1; rw [Heap.set_other h _ c2] at h2;exact hl.1.inj n1 q1 n2 q2 x h1 h2 ((hkeep n1 q1 h1 c1).2▸e1) ((hkeep n2 q2 h2 c2).2▸e2)
 ·rw [hFx];simp only [World.size_alloc] at hx;exact hl.1.fresh x (by omega)
 ·rcases hown [] x ho with c|c
  ·have:=hsepL x hx; omega
  ·exact hl.2.apart x hx c
 ·refine { toLe:=hle,size:=(by simp),frame:=fun x hx hn=>⟨hother x hx,hFx x⟩,own:=fun x hx ho=>?_,os:=rfl,tape:=rfl,output:=Outs.rfl };rcases hown jl x ho with c|c
  ·omega
  ·exact c
 ·show DRel j' (w.alloc go) (.aptr t 1 0) (.pointer (some ⟨w.heap.size,0,none⟩));refine .aptr t 1 0 w.heap.size (by rw [hnx]; exact htn) fun tk hk=>?_;rw [htk] at hk;obtain rfl:=Option.some.inj hk;exact⟨Nat.le_refl _,fun _=>⟨0,rfl⟩⟩

theorem rel_mapF {j:J}{w:World}{jl:List Nat}{id b:Nat}{o:Go.Obj}{cv:Value}(ho:ORel j w id (.fixt b o)) (h:VRel j w jl (.a (.d (.map id))) cv):cv=.map (some b)/\w.heap[b]?=some o/\j.F b=0:=by
 have h':DRel j w (.map id) cv:=h;obtain⟨c,h1,h2,h3⟩:=ho;cases h' with
 | map _ b' hi hv =>
  obtain⟨_,h5⟩:=hv _ h1;obtain⟨c',h6⟩:=h5 rfl;simp only [Option.some.injEq,Prod.mk.injEq] at h6;obtain⟨rfl,rfl⟩:=h6;exact⟨rfl,h2,h3⟩
theorem rel_aptrF {j:J}{w:World}{jl:List Nat}{id b:Nat}{o:Go.Obj}{cv:Value}(ho:ORel j w id (.fixt b o)) (h:VRel j w jl (.a (.d (.aptr id 1 0))) cv):cv=.pointer (some ⟨b,0,none⟩)/\w.heap[b]?=some o/\j.F b=0:=by
 have h':DRel j w (.aptr id 1 0) cv:=h;obtain⟨c,h1,h2,h3⟩:=ho;cases h' with
 | aptr _ _ _ b' hi hv =>
  obtain⟨_,h5⟩:=hv _ h1;obtain⟨c',h6⟩:=h5 rfl;simp only [Option.some.injEq,Prod.mk.injEq] at h6;obtain⟨rfl,rfl⟩:=h6;exact⟨rfl,h2,h3⟩
section
variable {P:Program}{ts:Ts}{ls:List (List D)}{h:Heap}{dst:Option Tmp}{ty:TypeId}{pos:String}{aft:Array Edge}{g:Option (Nat×Bool)}
theorem StepE.rangeM {t kt et:TypeId}{ti:TI}{x:Operand}{id b clk:Nat}{es:Array MapEntry}(hT:mkTI P t=some ti) (hk:ti.k=.map kt et) (hx:ev ts x=.a (.d (.map id))) (hm:h id=some (.fixt b (.map es clk))) :
  StepE P (mk dst (.range t x) ty pos aft g) ts ls h fun v ls' h'=>∃it r,h it=none/\v=.a (.d (.aptr it 1 0))/\ls'=ls/\h'=h.set it (some (.fixt r (.mapIter (some b) clk #[] clk))):=by
 intro j w jl a hl ho K Q hk';have h1:=ho x (by simp [Op.operands]);rw [hx] at h1;obtain⟨e,hg,_⟩:=rel_mapF (hl.1.obj id _ hm).2 h1;have hr:(execOp a.eval (mk dst (.range t x) ty pos aft g)).run P w=.ok (.value (.pointer (some ⟨w.heap.size,0,none⟩))) (w.alloc (.mapIter (some b) clk #[] clk)):=by
  simp [execOp,e,run_range_map w t kt et b es clk (map_of hT hk) hg,Result.andThen]
 obtain⟨h1,h2⟩:=hl.newTok 0;obtain⟨h3,h4,h5⟩:=h1.bornFix (Heap.set_same _ _ _) (.mapIter (some b) clk #[] clk);unfold Oper.wp;rw [hr,Oper.upon_value];exact hk' _ _ _ _ _ _ jl ⟨j.next,w.heap.size,hl.1.next_none (Nat.le_refl _),rfl,rfl,(Heap.set_set _ _ _ _)⟩ h5 h3 (Ext.refl _) (h2.trans h4)
def leftP (p:List (List UInt8×Nat)) (seen:Array Nat):List (List UInt8×Nat):=p.filter fun x=>!seen.contains x.2
theorem leftP_map (p:List (List UInt8×Nat)) (seen:Array Nat):(mE p).toArray.filter (fun e=>!seen.contains e.born)=(mE (leftP p seen)).toArray:=by
 apply Array.toList_inj.1
 simp [mE,leftP,List.filter_map,Function.comp_def]
theorem StepE.nextM {it id b r clk:Nat}{x:Operand}{p:List (List UInt8×Nat)}{seen:Array Nat}(hx:ev ts x=.a (.d (.aptr it 1 0))) (hit:h it=some (.fixt r (.mapIter (some b) clk seen clk))) (hm:h id=some (.fixt b (.map (mE p).toArray clk))) (hlt:∀x∈p,x.2<clk) (hlen:∀x∈p,x.1.length<=maxS) :
  StepE P (mk dst (.next x false) ty pos aft g) ts ls h fun v ls' h'=>ls'=ls/\((leftP p seen=[]/\v=.tup [.d (.bool false)]/\h'=h) \/
   ∃s n,(s,n)∈leftP p seen/\v=.tup [.d (.bool true),.d (.str s),.d (.bool true)]/\h'=h.set it (some (.fixt r (.mapIter (some b) clk (seen.push n) clk)))):=by
 intro j w jl a hl ho K Q hk';have h1:=ho x (by simp [Op.operands]);rw [hx] at h1;obtain⟨e,hg,hF⟩:=rel_aptrF (hl.1.obj it _ hit).2 h1;have hgm:w.heap[b]?=some (.map (mE p).toArray clk):=by obtain⟨_,_,_,h2,_⟩:=hl.1.obj id _ hm; exact h2
 have hold:∀x∈(mE p).toArray.toList,x.born<clk:=fun y hy=>by
  have hy:y∈mE p:=by simpa using hy
  obtain⟨z,hz,rfl⟩:=List.mem_map.1 hy;exact hlt z hz
 have hmem:∀y∈leftP p seen,y∈p:=fun y hy=>(List.mem_filter.1 hy).1;have e1:(mE (leftP p seen)).toArray.filter (fun x=>decide (x.born<clk))=(mE (leftP p seen)).toArray:=Array.filter_eq_self.2 (fun y hy=>by
  have hy:y∈mE (leftP p seen):=by simpa using hy
  obtain⟨z,hz,rfl⟩:=List.mem_map.1 hy
  simpa using hlt z (hmem z hz))
 have e2:(mE (leftP p seen)).toArray.filter (fun x=>decide (x.born>=clk))=#[]:=by
  rw [Array.filter_eq_empty_iff];intro y hy;have hy:y∈mE (leftP p seen):=by simpa using hy
  obtain⟨z,hz,rfl⟩:=List.mem_map.1 hy;have:=hlt z (hmem z hz);simp;omega
 by_cases h0:leftP p seen=[]
 ·have hr:(execOp a.eval (mk dst (.next x false) ty pos aft g)).run P w=.ok (.value (.tuple #[.bool false])) w:=by
   simp only [execOp,e,Instr.next,getObj,Sem.run_bind,Sem.run,hg,hgm,Result.andThen,next_test_false seen _ clk clk hold (Nat.le_refl _),Bool.false_eq_true,if_false,leftP_map,e1,e2,Array.append_empty,h0];simp [mE,choose,Sem.run,Question.forced,Result.andThen]
  unfold Oper.wp;rw [hr,Oper.upon_value];exact hk' _ _ _ _ _ _ jl ⟨rfl,.inl ⟨h0,rfl,rfl⟩⟩ ⟨[.bool false],rfl,.cons (DRel.bool _) .nil⟩ hl (Ext.refl _) (Evolve.refl _ _ _)
 ·obtain⟨i,w1,hi,hw1,hrun⟩:∃(i:Nat) (w1:World),i<(leftP p seen).length/\(w1=w\/w1=w.drew)/\(choose (Question.mapNext (leftP p seen).length)).run P w=.ok i w1:=by
   by_cases hf:(leftP p seen).length<=1
   ·exact⟨0,w,by have:=List.length_pos_iff.2 h0; omega,.inl rfl,by simp [choose,Sem.run,Question.forced,hf]⟩
   ·exact⟨_,w.drew,Nat.mod_lt _ (by omega),.inr rfl,by
     simp only [choose,Sem.run,Question.forced,decide_eq_true_eq,hf,if_false,Question.cut];rfl⟩
  have hl1:HL j w1 jl ls h/\Evolve j w (Own j h jl) j w1 (Own j h jl):=by
   rcases hw1 with rfl|rfl
   ·exact⟨hl,Evolve.refl _ _ _⟩
   ·exact⟨hl.drew,Evolve.drew _ _ _⟩
  have hg1:w1.heap[r]?=some (.mapIter (some b) clk seen clk):=by rcases hw1 with rfl|rfl<;>exact hg
  have hr:(execOp a.eval (mk dst (.next x false) ty pos aft g)).run P w=.ok (.value (.tuple #[.bool true,.string ⟨(leftP p seen)[i].1.toArray⟩,.bool true])) { w1 with heap:=w1.heap.setIfInBounds r (.mapIter (some b) clk (seen.push (leftP p seen)[i].2) clk) }:=by
   have hne:(mE (leftP p seen)).toArray.isEmpty=false:=by
    cases hq:leftP p seen with
    | nil=>exact absurd hq h0
    | cons y q=>rfl
   have hsz:((#[]:Array (Option MapEntry))++Array.map some (mE (leftP p seen)).toArray).size=(leftP p seen).length:=by simp [mE]
   simp only [execOp,e,Instr.next,getObj,Sem.run_bind,Sem.run,hg,hgm,Result.andThen,next_test_false seen _ clk clk hold (Nat.le_refl _),Bool.false_eq_true,if_false,leftP_map,e1,e2,Array.append_empty,hne,hsz,hrun];simp [mE,hi,setObj,Sem.run,hg1,Result.andThen]
  have hin:((leftP p seen)[i].1,(leftP p seen)[i].2)∈leftP p seen:=List.getElem_mem hi;have hupd:=Upd.setObj (lou:=lou) (o':=.mapIter (some b) clk (seen.push (leftP p seen)[i].2) clk) hg1;obtain⟨hn,c,htk,_,_⟩:=hl1.1.1.obj it _ hit;obtain⟨h5,h6⟩:=hl1.1.setObj (o':=.fixt r (.mapIter (some b) clk (seen.push (leftP p seen)[i].2) clk)) hit rfl rfl hF hupd ⟨c,htk,hupd.here,hF⟩;unfold Oper.wp;rw [hr,Oper.upon_value]
  exact hk' _ _ _ _ _ _ jl ⟨rfl,.inr ⟨_,_,hin,rfl,rfl⟩⟩ ⟨[.bool true,_,.bool true],rfl,.cons (DRel.bool _) (.cons (DRel.str _ (hlen _ (hmem _ hin))) (.cons (DRel.bool _) .nil))⟩ h5 (Ext.refl _) (hl1.2.trans h6)
end
def delP (p:List (List UInt8×Nat)) (s:List UInt8):List (List UInt8×Nat):=p.eraseP fun x=>s==x.1
theorem delP_keys (s:List UInt8):∀p:List (List UInt8×Nat),(delP p s).map (·.1)=(p.map (·.1)).erase s
 | []=>rfl
 | x::p=>by
  unfold delP;rw [List.eraseP_cons,List.map_cons,List.erase_cons];rw [show (x.1==s)=(s==x.1) from Bool.beq_comm];cases s==x.1
  ·exact congrArg (x.1::·) (delP_keys s p)
  ·rfl
theorem delP_sub (p:List (List UInt8×Nat)) (s:List UInt8):(delP p s).Sublist p:=List.eraseP_sublist
theorem Pop.del {l:List (List UInt8)}{p:List (List UInt8×Nat)}{clk:Nat}(h:Pop l p clk) (s:List UInt8):Pop (l.erase s) (delP p s) clk :=
 ⟨by rw [delP_keys,h.keys],h.nodup.sublist ((delP_sub p s).map _),h.uniq.erase s,fun x hx=>h.lt x ((delP_sub p s).subset hx),fun x hx=>h.len x (List.erase_subset hx)⟩
theorem find_mE {d:TypeDesc}{s:List UInt8}(hd:keyK (kOf d) (.str s)=true) (hs:s.length<=maxS):∀(p:List (List UInt8×Nat)) (n:Nat),(∀x∈p,x.1.length<=maxS) ->
  (Instr.findNow d (.string ⟨s.toArray⟩) (mE p) n=some none/\delP p s=p)\/∃i,Instr.findNow d (.string ⟨s.toArray⟩) (mE p) n=some (some (n+i,.bool true))/\i<p.length/\delP p s=p.eraseIdx i
 | [],n,_=>.inl ⟨rfl,rfl⟩
 | x::p,n,h=>by
  have hn:=sameNow_rel (j:=⟨fun _=>0,fun _=>0,fun _=>none,0⟩) (w:=default) hd (DRel.str s hs) (DRel.str x.1 (h x (.head _))) rfl;unfold delP;rw [List.eraseP_cons];show (Instr.findNow d _ (⟨.string ⟨x.1.toArray⟩,.bool true,x.2⟩::mE p) n=_/\_)\/∃i,Instr.findNow d _ (⟨.string ⟨x.1.toArray⟩,.bool true,x.2⟩::mE p) n=_/\_;simp only [Instr.findNow,hn];cases s==x.1
  ·rcases find_mE hd hs p (n+1) (fun y hy=>h y (.tail _ hy)) with ⟨h1,h2⟩|⟨i,h1,h2,h3⟩
   ·exact .inl ⟨h1,congrArg (x::·) h2⟩
   ·exact .inr ⟨i+1,by rw [h1,show n+1+i=n+(i+1) by omega],by simp only [List.length_cons]; omega,congrArg (x::·) h3⟩
  ·exact .inr ⟨0,rfl,by simp,rfl⟩
theorem mE_erase:∀(p:List (List UInt8×Nat)) (i:Nat),mE (p.eraseIdx i)=(mE p).eraseIdx i
 | [],_=>rfl
 | _::_,0=>rfl
 | x::p,i+1=>congrArg ((⟨.string ⟨x.1.toArray⟩,.bool true,x.2⟩:MapEntry)::·) (mE_erase p i)
theorem delete_run {P:Program}{w:World}{b clk:Nat}{t kt et ty:TypeId}{ti ki:TI}{ats:Array TypeId}{p:List (List UInt8×Nat)}{s:List UInt8}(hT:mkTI P t=some ti) (hk:ti.k=.map kt et) (hK:mkTI P kt=some ki) (hkk:keyK ki.k (.str s)=true) (hat:ats[0]?=some t)
  (hg:w.heap[b]?=some (.map (mE p).toArray clk)) (hs:s.length<=maxS) (hp:∀x∈p,x.1.length<=maxS) :
  (Builtin.delete_ ats ty #[.map (some b),.string ⟨s.toArray⟩]).run P w=.ok (.tuple #[]) { w with heap:=w.heap.setIfInBounds b (.map (mE (delP p s)).toArray clk) }:=by
 obtain⟨ki',kd,_,hku,_,_,hkd,_⟩:=mkTI_spec hK;rw [<- hkd] at hkk;have hck:∀e,(Instr.checkKey e 10000 kt (.string ⟨s.toArray⟩)).run P w=.ok () w:=fun e=>checkKey_run (j:=⟨fun _=>0,fun _=>0,fun _=>none,0⟩) (w0:=default) hku hkk (DRel.str s hs);rcases find_mE hkk hs p 0 hp with ⟨h1,h2⟩|⟨i,h1,h2,h3⟩
 ·simp [Builtin.delete_,hat,run_under (map_of hT hk),getObj_run hg,hck,Instr.findKey,run_under hku,h1,h2,setObj,Sem.run,hg,Result.andThen]
 ·rw [Nat.zero_add] at h1;have hl:i<(mE p).length:=by simpa [mE] using h2
  simp [Builtin.delete_,hat,run_under (map_of hT hk),getObj_run hg,hck,Instr.findKey,run_under hku,h1,h3,mE_erase,setObj,Sem.run,hg,Result.andThen,Array.eraseIdxIfInBounds,hl]
section
variable {P:Program}{ts:Ts}{ls:List (List D)}{h:Heap}{dst:Option Tmp}{ty:TypeId}{pos:String}{aft:Array Edge}{g:Option (Nat×Bool)}
theorem Cert.deleteF {t kt et:TypeId}{ti ki:TI}{x y:Operand}{ats:Array TypeId}{id b clk:Nat}{p:List (List UInt8×Nat)}{s:List UInt8}(hT:mkTI P t=some ti) (hk:ti.k=.map kt et) (hK:mkTI P kt=some ki) (hkk:keyK ki.k (.str s)=true) (hat:ats[0]?=some t)
  (hx:ev ts x=.a (.d (.map id))) (hy:ev ts y=.a (.d (.str s))) (hm:h id=some (.fixt b (.map (mE p).toArray clk))) (hp:∀x∈p,x.1.length<=maxS) :
  Cert P (mk dst (.call { callee:=.builtin .delete,args:=#[x,y],argTypes:=ats }) ty pos aft g) ts ls h { rh:=true,wh:=true } (.tup []) ls (h.set id (some (.fixt b (.map (mE (delP p s)).toArray clk)))):=by
 refine Cert.of_run fun L H _ hH j w jl a hl ho=>?_;have hH':=hH rfl;subst hH';have h1:=ho x (by simp [Op.operands,Call.operands]);have h2:=ho y (by simp [Op.operands,Call.operands]);rw [hx] at h1; rw [hy] at h2;obtain⟨e,hg,hF⟩:=rel_mapF (hl.1.obj id _ hm).2 h1;obtain⟨hn,c,htk,_,_⟩:=hl.1.obj id _ hm;have h2:DRel j w (.str s) (a.eval y):=h2;generalize hv:a.eval y=kv at h2;cases h2 with
 | str _ hs =>
  have hr:=delete_run (ty:=ty) hT hk hK hkk hat hg hs hp;have hupd:=Upd.setObj (lou:=lou) (o':=.map (mE (delP p s)).toArray clk) hg;obtain⟨h5,h6⟩:=hl.setObj (o':=.fixt b (.map (mE (delP p s)).toArray clk)) hm rfl rfl hF hupd ⟨c,htk,hupd.here,hF⟩;exact⟨.value (.tuple #[]),_,_,j,jl,by simp [execOp,resolve,invoke,builtin,e,hv,hr,Result.andThen],.inl rfl,⟨[],rfl,.nil⟩,h5,Ext.refl _,h6⟩
theorem Cert.deleteM {t kt et:TypeId}{ti ki:TI}{x y:Operand}{ats:Array TypeId}{id:Nat}{l:List (List UInt8)}{s:List UInt8}(hT:mkTI P t=some ti) (hk:ti.k=.map kt et) (hK:mkTI P kt=some ki) (hkk:keyK ki.k (.str s)=true) (hat:ats[0]?=some t)
  (hx:ev ts x=.a (.d (.map id))) (hy:ev ts y=.a (.d (.str s))) (hm:h id=some (.map (seenM l))) :
  Cert P (mk dst (.call { callee:=.builtin .delete,args:=#[x,y],argTypes:=ats }) ty pos aft g) ts ls h { rh:=true,wh:=true } (.tup []) ls (h.set id (some (.map (seenM (l.erase s))))):=by
 refine Cert.of_run fun L H _ hH j w jl a hl ho=>?_;have hH':=hH rfl;subst hH';have h1:=ho x (by simp [Op.operands,Call.operands]);have h2:=ho y (by simp [Op.operands,Call.operands]);rw [hx] at h1; rw [hy] at h2;obtain⟨b,e,c,ms,clk,htk,hg,hall,hF,hB⟩:=rel_map (hl.1.obj id _ hm).2 h1;obtain⟨p,rfl,e2,e3⟩:=seen_ex hall;have hpop:Pop l p clk:=⟨e2,by have:=hB.1; simpa [mE,Function.comp_def] using this,by rw [<- e2]; exact keys_nodup hB.2.2,fun x hx=>hB.2.1 _ (List.mem_map_of_mem hx),e3⟩
 have hp:∀x∈p,x.1.length<=maxS:=fun x hx=>e3 _ (e2▸List.mem_map_of_mem hx);have h2:DRel j w (.str s) (a.eval y):=h2;generalize hv:a.eval y=kv at h2;cases h2 with
 | str _ hs =>
  have hr:=delete_run (ty:=ty) hT hk hK hkk hat hg hs hp;have hupd:=Upd.setObj (lou:=lou) (o':=.map (mE (delP p s)).toArray clk) hg;have hq:=hpop.del s;have hall':All2 (ERel j { w with heap:=w.heap.setIfInBounds b (.map (mE (delP p s)).toArray clk) }) (seenM (l.erase s)) (mE (delP p s)):=by
   rw [<- hq.keys]; exact seen_of _ fun x hx=>hq.len _ (hq.keys▸List.mem_map_of_mem hx)
  have hB':Births (mE (delP p s)) clk:=⟨by have:=hq.nodup; simpa [mE,Function.comp_def] using this,(fun m hm=>by obtain⟨x,hx,rfl⟩:=List.mem_map.1 hm; exact hq.lt x hx),nodup_keys (by rw [hq.keys]; exact hq.uniq)⟩;obtain⟨h5,h6⟩:=hl.setObj (o':=.map (seenM (l.erase s))) hm (by simp [blkOf,htk]) (by simp [blkOf,htk]) hF hupd ⟨b,c,_,clk,htk,hupd.here,hall',hF,hB'⟩;exact⟨.value (.tuple #[]),_,_,j,jl,by simp [execOp,resolve,invoke,builtin,e,hv,hr,Result.andThen],.inl rfl,⟨[],rfl,.nil⟩,h5,Ext.refl _,h6⟩
end
def filtO (f:List UInt8->Option Bool):List (List UInt8)->Option (List (List UInt8))
 | []=>some []
 | s::l=>(f s).bind fun b=>(filtO f l).bind fun r=>some (bif b then s::r else r)
theorem filtO_some {f:List UInt8->Option Bool}:∀{l r:List (List UInt8)},filtO f l=some r->(∀s∈l,∃b,f s=some b)/\r=l.filter fun s=>f s==some true
 | [],r,h=>by cases h; exact⟨(fun _ h=>by cases h),rfl⟩
 | s::l,r,h=>by
  obtain⟨b,h1,h⟩:=Option.bind_eq_some_iff.1 h;obtain⟨q,h2,h⟩:=Option.bind_eq_some_iff.1 h;obtain⟨h3,h4⟩:=filtO_some h2;cases h;refine⟨fun x hx=>?_, ?_⟩
  ·rcases List.mem_cons.1 hx with rfl|hx
   ·exact⟨b,h1⟩
   ·exact h3 x hx
  ·rw [List.filter_cons,h1,<- h4];cases b<;>rfl
theorem nodup_inj {α β:Type}{f:α->β}:∀{l:List α},(l.map f).Nodup->∀{x y:α},x∈l->y∈l->f x=f y->x=y
 | [],_,_,_,h,_,_=>by cases h
 | a::l,hn,x,y,hx,hy,e=>by
  rw [List.map_cons,List.nodup_cons] at hn;rcases List.mem_cons.1 hx with rfl|hx1
  ·rcases List.mem_cons.1 hy with rfl|hy1
   ·rfl
   ·exact absurd (List.mem_map.2 ⟨y,hy1,e.symm⟩) hn.1
  ·rcases List.mem_cons.1 hy with rfl|hy1
   ·exact absurd (List.mem_map.2 ⟨x,hx1,e⟩) hn.1
   ·exact nodup_inj hn.2 hx1 hy1 e
structure RInv (f:List UInt8->Option Bool) (r:List (List UInt8)) (clk:Nat) (z:List (List UInt8×Nat)×Array Nat):Prop where
 pop:Pop (z.1.map (·.1)) z.1 clk
 told:∀x∈z.1,∃b,f x.1=some b
 seen:∀x∈z.1,z.2.contains x.2=true->f x.1=some true
 rest:(z.1.map (·.1)).filter (fun s=>f s==some true)=r
section
variable {f:List UInt8->Option Bool}{r:List (List UInt8)}{clk:Nat}{p:List (List UInt8×Nat)}{seen:Array Nat}{s:List UInt8}{n:Nat}
theorem RInv.start {l:List (List UInt8)}(h:filtO f l=some r) (hp:Pop l p clk):RInv f r clk (p,#[]):=by
 obtain⟨h1,h2⟩:=filtO_some h;refine⟨by rw [hp.keys]; exact hp,fun x hx=>h1 _ (by rw [<- hp.keys]; exact List.mem_map_of_mem hx),fun x _ hx=>by simp at hx,by rw [hp.keys]; exact h2.symm⟩
theorem leftP_mem {x:List UInt8×Nat}(h:x∈leftP p seen):x∈p/\seen.contains x.2=false:=by
 obtain⟨h1,h2⟩:=List.mem_filter.1 h;exact⟨h1,by simpa using h2⟩
theorem leftP_push (hx:(s,n)∈leftP p seen):(leftP p (seen.push n)).length<(leftP p seen).length:=by
 have e:leftP p (seen.push n)=(leftP p seen).filter fun x=>!(x.2==n):=by
  unfold leftP;rw [List.filter_filter];refine List.filter_congr fun x _=>?_;rw [show (seen.push n).contains x.2=(seen.contains x.2||x.2==n) by
   rw [Bool.eq_iff_iff];simp [Array.contains_eq_mem]]
  cases seen.contains x.2<;>simp
 rw [e];refine List.length_filter_lt_length_iff_exists.2 ⟨_,hx,by simp⟩
theorem contains_push {x:Nat}(h:(seen.push n).contains x=true):seen.contains x=true\/x=n:=by
 simpa [Array.contains_eq_mem] using h
theorem RInv.keep (h:RInv f r clk (p,seen)) (hx:(s,n)∈leftP p seen) (hf:f s=some true):RInv f r clk (p,seen.push n)/\(leftP p (seen.push n)).length<(leftP p seen).length:=by
 obtain⟨hm,-⟩:=leftP_mem hx;refine⟨⟨h.pop,h.told,fun x hx' hc=>?_,h.rest⟩,leftP_push hx⟩;rcases contains_push hc with hc|hc
 ·exact h.seen x hx' hc
 ·rw [nodup_inj h.pop.nodup hx' hm hc]; exact hf
theorem RInv.drop (h:RInv f r clk (p,seen)) (hx:(s,n)∈leftP p seen) (hf:f s=some false):RInv f r clk (delP p s,seen.push n)/\(leftP (delP p s) (seen.push n)).length<(leftP p seen).length:=by
 obtain⟨hm,-⟩:=leftP_mem hx;have hu:(p.map (·.1)).Nodup:=h.pop.uniq;have hsub:=delP_sub p s;have hpop:=h.pop.del s;refine⟨⟨by rw [delP_keys]; exact hpop,fun x hx'=>h.told x (hsub.subset hx'),fun x hx' hc=>?_, ?_⟩, ?_⟩
 ·rcases contains_push hc with hc|hc
  ·exact h.seen x (hsub.subset hx') hc
  ·have e:=nodup_inj h.pop.nodup (hsub.subset hx') hm hc;have h1:s∈(delP p s).map (·.1):=List.mem_map.2 ⟨x,hx',by rw [e]⟩;rw [delP_keys,hu.mem_erase_iff] at h1;exact absurd rfl h1.1
 ·show ((delP p s).map (·.1)).filter _=r;rw [delP_keys,hu.erase_eq_filter,List.filter_filter,<- h.rest];refine List.filter_congr fun x _=>?_;by_cases e:x=s
  ·subst e; rw [hf]; simp
  ·simp [e]
 ·exact Nat.lt_of_le_of_lt ((hsub.filter _).length_le) (leftP_push hx)
theorem RInv.done (h:RInv f r clk (p,seen)) (hx:leftP p seen=[]):p.map (·.1)=r:=by
 have hall:∀x∈p,f x.1=some true:=fun x hm=>h.seen x hm (by
  have:x∉leftP p seen:=by rw [hx]; simp
  cases hc:seen.contains x.2
  ·exact absurd (List.mem_filter.2 ⟨hm,by rw [hc]; rfl⟩) this
  ·rfl)
 rw [<- h.rest];refine(List.filter_eq_self.2 fun s hs=>?_).symm;obtain⟨x,hm,rfl⟩:=List.mem_map.1 hs;rw [hall x hm]; rfl
end
theorem find_born {s:List UInt8}{n:Nat}:∀{p:List (List UInt8×Nat)},(p.map (·.2)).Nodup->(s,n)∈p->(mE p).find? (fun e=>e.born==n)=some ⟨.string ⟨s.toArray⟩,.bool true,n⟩
 | [],_,h=>by cases h
 | x::p,hn,h=>by
  rw [List.map_cons,List.nodup_cons] at hn;show (⟨.string ⟨x.1.toArray⟩,.bool true,x.2⟩::mE p:List MapEntry).find? _=_;rw [List.find?_cons];rcases List.mem_cons.1 h with e|h
  ·subst e; simp
  ·have hne:x.2≠n:=fun e=>hn.1 (List.mem_map.2 ⟨(s,n),h,e.symm⟩);rw [show ((⟨.string ⟨x.1.toArray⟩,.bool true,x.2⟩:MapEntry).born==n)=false by simpa using hne];exact find_born hn.2 h
section
variable {P:Program}{ts:Ts}{ls:List (List D)}{h:Heap}{dst:Option Tmp}{ty:TypeId}{pos:String}{aft:Array Edge}{g:Option (Nat×Bool)}
theorem Cert.entryM {it id b r clk n:Nat}{x:Operand}{p:List (List UInt8×Nat)}{seen:Array Nat}{s:List UInt8}(hx:ev ts x=.a (.d (.aptr it 1 0))) (hit:h it=some (.fixt r (.mapIter (some b) clk (seen.push n) clk))) (hm:h id=some (.fixt b (.map (mE p).toArray clk))) (hmem:(s,n)∈p) (hnd:(p.map (·.2)).Nodup) (hs:s.length<=maxS) :
  Cert P (mk dst (.entry x) ty pos aft g) ts ls h { rh:=true } (.tup [.d (.str s),.d (.bool true)]) ls h :=
 PureE.cert ⟨rfl,rfl,fun L H _ hH j w jl a hl ho=>by
  have h1:=ho x (by simp [Op.operands]);rw [hx] at h1;rw [hH rfl] at hl;obtain⟨e,hg,_⟩:=rel_aptrF (hl.1.obj it _ hit).2 h1;have hgm:w.heap[b]?=some (.map (mE p).toArray clk):=by obtain⟨_,_,_,h2,_⟩:=hl.1.obj id _ hm; exact h2
  have hf:(mE p).toArray.find? (fun e=>e.born==n)=some ⟨.string ⟨s.toArray⟩,.bool true,n⟩:=by
   rw [List.find?_toArray]; exact find_born hnd hmem
  exact⟨.tuple #[.string ⟨s.toArray⟩,.bool true],by simp [execOp,e,Instr.entry,getObj,Sem.run_bind,Sem.run,hg,hgm,Result.andThen,hf],[.string ⟨s.toArray⟩,.bool true],rfl,.cons (DRel.str s hs) (.cons (DRel.bool _) .nil)⟩⟩
end
end Go.Ab

/-
 Calls that only lay new blocks. No program text.
-/
namespace Go.Ab
open Go Go.RowKit Go.Sort
variable {lou:Lou}

theorem HL.grown {j:J}{w:World}{jl:List Nat}{ls:List (List D)}{h:Heap}(hl:HL j w jl ls h) (n:Nat) (os:Array Go.Obj):HL j (Sort.grow (Sort.ahead w n) os) jl ls h/\Evolve j w (Own j h jl) j (Sort.grow (Sort.ahead w n) os) (Own j h jl):=by
 have hb:∀b,b<w.heap.size->(Sort.grow (Sort.ahead w n) os).heap[b]?=w.heap[b]?:=fun b hb=>heap_grow_old _ _ hb;have hle:Le j w j (Sort.grow (Sort.ahead w n) os):=⟨Nat.le_refl _,fun _ _=>rfl,fun _=>Nat.le_refl _,fun b o ho=>cell?_eq (hb b (by
  rcases Nat.lt_or_ge b w.heap.size with h|h
  ·exact h
  ·rw [hl.1.fresh b h] at ho; omega)),fun _ _=>.inl rfl⟩
 have hk:=hl.keep hle (fun b ho=>⟨hb b (ho.lt hl),rfl⟩) (fun _ _ _=>rfl) (fun b hb=>hl.1.fresh b (by simp at hb; omega));exact⟨hk.1,{ toLe:=hle,size:=by simp,frame:=fun b h _=>⟨hb b h,rfl⟩,own:=fun b _ ho=>ho,os:=rfl,tape:=rfl,output:=⟨rfl,by simp [Sort.grow,Sort.ahead]⟩ }⟩

end Go.Ab

/-
 slices.SortFunc over a slice that may be stored to: the shelf's contract,read in the abstract state. No program text.
-/
namespace Go.Ab
open Go Go.RowKit Go.Proofs Go.Shelf Go.Sort
variable {lou:Lou}

section
variable {P:Program}{ρ:Ren}{T:Type} [Inhabited T] (c:T->List D) (k:Nat)
end

section
variable {P:Program}{ρ:Ren}{T:Type} [Inhabited T] {c:T->List D}{k:Nat}
end

end Go.Ab

/-
 slices.DeleteFunc over a slice that may be stored to and is not used any more: the shelf's contract,read in the abstract state. No program text.
-/
namespace Go.Proofs
open Go.Shelf Go.RowKit Go.Lib Go.Sort
variable {P:Program}{ρ:Ren}
end Go.Proofs
namespace Go.Ab
open Go Go.RowKit Go.Proofs Go.Shelf Go.Sort
variable {lou:Lou}
section
variable {P:Program}{ρ:Ren}
variable {T:Type} [Inhabited T] {v:T->Value}{d1:T->D}
end
end Go.Ab

/-
 Functions of the library that only compute,division,conversions; a block that stays as it is. No program text.
-/

namespace Go.Ab
open Go Go.RowKit Go.Proofs Go.Shelf
variable {lou:Lou}
section
variable {P:Program}{ts:Ts}{ls:List (List D)}{h:Heap}{dst:Option Tmp}{ty:TypeId}{pos:String}{aft:Array Edge}{g:Option (Nat×Bool)}
def bytesC (s:Sl Int):Bs:=s.l.map fun n=>UInt8.ofNat n.toNat
end
theorem AC.compute {P:Program}{f:FuncId}{args:List A}{H:Heap}{r:A}{cargs:List Value}{cv:Value}(enter:∀(cargs:Array Value) (w:World),(callFunc f cargs).run P w=.ok (.enter f cargs) w)
  (hc:∀j w c,HRel j w H->All2 (ARel j w) args c->ARel j w r cv/\Calls P f c.toArray w fun e w'=>e=.returned cv/\w'=w):AC P f args H fun v h'=>v=.a r/\h'=H:=by
 refine⟨enter,fun j w c hr ha=>?_⟩;obtain⟨h2,h3⟩:=hc j w c hr ha;refine h3.mono ?_;rintro e w' ⟨rfl,rfl⟩;exact⟨_,cv,j,H,rfl,⟨rfl,rfl⟩,h2,hr,Evolve.refl _ _ _⟩
def IsTab (P:Program) (o:Ab.Obj):Prop:=∃g t fr,o=.fix g (.cells (Lib.pow10Tab.map fun z=>Value.int .u64 z).toArray t fr)/\P.globalNamed "internal/strconv.uint64pow10"=some g
theorem IsTab.tab {P:Program}{o:Ab.Obj}(h:IsTab P o){j:J}{w:World}{id:Nat}(hr:ORel j w id o):Lib.TabIs P w "internal/strconv.uint64pow10" .u64 Lib.pow10Tab:=by
 obtain⟨g,t,fr,rfl,hg⟩:=h;have hr':w.heap[g]?=some _:=hr;unfold Lib.TabIs World.var?;rw [hg,Option.bind_some,hr']
theorem itoa_calls {P:Program}{ρ:Ren}(L:LaysM.n171 P ρ){n:Int}(h0 : -9223372036854775808<=n) (h1:n<=9223372036854775807){F:Nat}(hF:F=ρ.f 171){H:Heap}{gT:Nat}{oT:Ab.Obj}(hT:H gT=some oT) (ho:IsTab P oT) (hb:(Lib.itoa n).length<=maxS) :
  AC P F [.d (.int .i64 n)] H fun v h'=>v=.a (.d (.str (Lib.itoa n)))/\h'=H:=by
 subst hF;refine⟨enters_of L.f171 (by kernel_rfl) rfl,fun j w c hr ha=>?_⟩;cases ha with
 | cons a1 ha =>
 cases ha;have a1':DRel j w (.int .i64 n) _:=a1;cases a1';refine(Any.strconv_Itoa L n h0 h1 w (ho.tab (hr.obj gT oT hT).2)).mono ?_;rintro e w' ⟨rfl,k,os,rfl⟩;have hl:HL j w [] [] H:=⟨hr,⟨.nil,by simp,by simp⟩⟩;obtain⟨h5,h6⟩:=hl.grown k os;exact⟨_,_,j,H,rfl,⟨rfl,rfl⟩,DRel.str _ hb,h5.1,h6⟩
def joinC (s:Sl Bs) (_:Bs):Option Bs:=match s.l with
 | []=>some []
 | [x]=>some x
 | _=>none
theorem join_calls {P:Program}{ρ:Ren}(L:Lays.n156 P ρ) (X:Builder.Extra P ρ){s:Sl Bs}{sep r:Bs}{w0:Option Nat}(hE:joinC s sep=some r){F:Nat}(hF:F=ρ.f 156){H:Heap} :
  AC P F [.d (Sl.d 1 strE w0 s),.d (.str sep)] H fun v h'=>v=.a (.d (.str r))/\h'=H:=by
 subst hF;refine⟨enters_of L.f156 (by kernel_rfl) rfl,fun j w c hr ha=>?_⟩;cases ha with
 | cons a1 ha =>
 cases ha with
 | cons a2 ha =>
 cases ha
 rename_i v1 v2
 have a2':DRel j w (.str sep) v2:=a2;have a1':DRel j w (.slice 1 w0 s.nl (s.l.map strE)) v1:=a1;unfold joinC at hE;cases a2' with
 | str _ hs =>
 split at hE
 ·rename_i hl
  obtain rfl:=Option.some.inj hE;rw [hl] at a1';have key:∃a cap,v1=.slice a 0 cap:=by
   generalize hrow:([]:List Bs).map strE=rows at a1';generalize s.nl=nl at a1';cases a1' with
   | snil=>exact⟨none,0,rfl⟩
   | slice _ _ _ a cap=>subst hrow; exact⟨some a,cap,rfl⟩
  obtain⟨a,cap,rfl⟩:=key;refine(Any.strings_Join_none L X a cap ⟨sep.toArray⟩ w).mono ?_;rintro e w' ⟨rfl,rfl⟩;exact⟨_,_,j,H,rfl,⟨rfl,rfl⟩,DRel.str [] (by simp [maxS]),hr,Evolve.refl _ _ _⟩
 ·rename_i x hl
  obtain rfl:=Option.some.inj hE;rw [hl] at a1';generalize hrow:[x].map strE=rows at a1';generalize s.nl=nl at a1';cases a1' with
  | snil=>cases hrow
  | slice _ _ _ a cap cv hk hn hc hat hr1 htk =>
   subst hrow;have hsp:a.spot=none:=hat.1.resolve_left (by simp);obtain⟨b,o,sp⟩:=a;simp only at hsp; subst hsp;have hlen:0<([x].map strE).flatten.length:=by simp [strE]
   have h1:=hat.2 0 hlen;have h2:=hr1 0 hlen;have h3:DRel j w (.str x) (cv 0):=h2;generalize hcv:cv 0=c0 at h3;cases h3 with
   | str _ hx =>
   refine(Any.strings_Join_one L X b o cap ⟨x.toArray⟩ ⟨sep.toArray⟩ w (by have:=h1.2; rw [hcv] at this; simpa using this)).mono ?_;rintro e w' ⟨rfl,rfl⟩;exact⟨_,_,j,H,rfl,⟨rfl,rfl⟩,DRel.str x hx,hr,Evolve.refl _ _ _⟩
 ·cases hE
end Go.Ab

/-
 strings.Builder: an object whose buffer grows. No program text.
-/
namespace Go.Proofs
open Go.Shelf Go.RowKit
variable {P:Program}{ρ:Ren}
set_option linter.unusedVariables false
set_option maxHeartbeats 2000000 in
set_option maxRecDepth 100000 in
theorem bldString_some (L:Lays.n169 P ρ) (X:Builder.Extra P ρ) (b g cap:Nat) (p:Value) (cur:Array Value) (l:List UInt8) (w:World) (hl0:l.length≠0) (hbk:w.heap[b]?=some (.cells #[p,.slice (some ⟨g,0,none⟩) l.length cap] (ρ.t 72) (0,0)))
  (hg:w.heap[g]?=some (.cells cur (ρ.t 5) (0,0))) (hnc:l.length<=cap) (hcm:l.length<=9223372036854775807) (hcs:cur.size=cap*1) (hcell:∀j x,l[j]?=some x->w.cell? ((⟨g,0,none⟩:Addr).add j)=some (.int .u8 x.toNat)) :
  Calls P (ρ.f 169) #[.pointer (some ⟨b,0,none⟩)] w fun e w'=>e=.returned (.string ⟨l.toArray⟩)/\w'=w.drew.freeze ⟨g,0,none⟩ l.length:=by
 have c1:w.drew.cell? ⟨b,1,none⟩=some (.slice (some ⟨g,0,none⟩) l.length cap):=by
  have:w.drew.heap[b]?=some (.cells #[p,.slice (some ⟨g,0,none⟩) l.length cap] (ρ.t 72) (0,0)):=hbk;rw [Lib.cell_of_heap this]; rfl
 have hSD:(Builtin.unsafeSliceData_ #[(ρ.t 37)] (ρ.t 127) #[.slice (some ⟨g,0,none⟩) l.length cap]).run P w.drew=.ok (.pointer (some ⟨g,0,none⟩)) w.drew :=
  Lib.run_unsafeSliceData_row _ _ _ _ _ _ (by omega)
 have hUS:(Builtin.unsafeString_ #[(ρ.t 127),(ρ.t 3)] (ρ.t 9) #[.pointer (some ⟨g,0,none⟩),.int .i64 l.length]).run P w.drew=.ok (.string ⟨l.toArray⟩) (w.drew.freeze ⟨g,0,none⟩ l.length):=by
  refine Lib.run_unsafeString_row w.drew (ρ.t 127) (ρ.t 3) (ρ.t 9) (ρ.t 5) L.t127 X.cellsByte g cur.size (by have hg':w.drew.heap[g]?=some (.cells cur (ρ.t 5) (0,0)):=hg; simp [World.shape?,hg']) l (by simpa using hl0) (by omega) hcm ?_;intro j x hx;exact hcell j x hx
 have mixed:=L.mixed;have t72:=L.t72; have a72:=L.a72; have z72:=L.z72; have v72:=L.v72; have u72:=run_underlying L.t72;have t70:=L.t70; have a70:=L.a70; have z70:=L.z70; have v70:=L.v70; have u70:=run_underlying L.t70;have t37:=L.t37; have a37:=L.a37; have z37:=L.z37; have v37:=L.v37; have u37:=run_underlying L.t37;have t127:=L.t127; have a127:=L.a127; have z127:=L.z127; have v127:=L.v127; have u127:=run_underlying L.t127
 have t3:=L.t3; have a3:=L.a3; have z3:=L.z3; have v3:=L.v3; have u3:=run_underlying L.t3;have t9:=L.t9; have a9:=L.a9; have z9:=L.z9; have v9:=L.v9; have u9:=run_underlying L.t9;have t5:=X.t5; have a5:=X.a5; have z5:=X.z5; have v5:=X.v5; have u5:=run_underlying X.t5
 go_enter L.f169,Body.n169_ntmps ρ
 go_wp2
 go_region_o
 all_goals (go_wp2; go_ret; exact⟨rfl,rfl⟩)
set_option maxHeartbeats 2000000 in
set_option maxRecDepth 100000 in
theorem bldString_nil (L:Lays.n169 P ρ) (X:Builder.Extra P ρ) (b:Nat) (p:Value) (w:World) (hbk:w.heap[b]?=some (.cells #[p,.slice none 0 0] (ρ.t 72) (0,0))) :
  Calls P (ρ.f 169) #[.pointer (some ⟨b,0,none⟩)] w fun e w'=>e=.returned (.string ⟨#[]⟩)/\w'=w.drew:=by
 have hUS:=Any.unsafeString_none L X;have c1:w.drew.cell? ⟨b,1,none⟩=some (.slice none 0 0):=by
  have:w.drew.heap[b]?=some (.cells #[p,.slice none 0 0] (ρ.t 72) (0,0)):=hbk;rw [Lib.cell_of_heap this]; rfl
 have hSD:(Builtin.unsafeSliceData_ #[(ρ.t 37)] (ρ.t 127) #[.slice none 0 0]).run P w.drew=.ok (.pointer none) w.drew:=rfl;have mixed:=L.mixed;have t72:=L.t72; have a72:=L.a72; have z72:=L.z72; have v72:=L.v72; have u72:=run_underlying L.t72;have t70:=L.t70; have a70:=L.a70; have z70:=L.z70; have v70:=L.v70; have u70:=run_underlying L.t70;have t37:=L.t37; have a37:=L.a37; have z37:=L.z37; have v37:=L.v37; have u37:=run_underlying L.t37
 have t127:=L.t127; have a127:=L.a127; have z127:=L.z127; have v127:=L.v127; have u127:=run_underlying L.t127;have t3:=L.t3; have a3:=L.a3; have z3:=L.z3; have v3:=L.v3; have u3:=run_underlying L.t3;have t9:=L.t9; have a9:=L.a9; have z9:=L.z9; have v9:=L.v9; have u9:=run_underlying L.t9;have t5:=X.t5; have a5:=X.a5; have z5:=X.z5; have v5:=X.v5; have u5:=run_underlying X.t5
 go_enter L.f169,Body.n169_ntmps ρ
 go_wp2
 go_region_o
 all_goals (go_wp2; go_ret; exact⟨rfl,rfl⟩)
end Go.Proofs
namespace Go.Ab
open Go Go.RowKit Go.Proofs Go.Shelf
variable {lou:Lou}
structure Strings_Builder where
 Faddr:Bool
 Fbuf:Sl Int
def Strings_Builder.zero:Strings_Builder:=⟨false,Sl.nil⟩
noncomputable def Strings_Builder.cg (i:Nat) (t:Option Nat) (x:Strings_Builder):List D:=[bif x.Faddr then .ptr i 0 else .nilptr,Sl.d 1 (intE .u8) t x.Fbuf]
theorem ORel.tcells {j:J}{w:World}{id:Nat}{T:TypeId}{xs:List D}(h:ORel j w id (.tcells T xs)):Loc1 j w (j.out id) xs:=by
 obtain⟨cs,h1,h2,h3⟩:=h;exact⟨cs,T,h1,h2,h3⟩
section
variable {P:Program}{ts:Ts}{ls:List (List D)}{h:Heap}{dst:Option Tmp}{ty:TypeId}{pos:String}{aft:Array Edge}{g:Option (Nat×Bool)}
theorem Cert.loadPT {t:TypeId}{ti:TI}{x:Operand}{id off:Nat}{T:TypeId}{xs:List D}{v:A}(hT:mkTI P t=some ti) (hk:ti.k.isO=false) (hx:ev ts x=.a (.d (.ptr id off))) (hh:h id=some (.tcells T xs)) (hv:loadA ti xs off=some v) :
  Cert P (mk dst (.load t x) ty pos aft g) ts ls h { rh:=true } (.a v) ls h :=
 PureE.cert ⟨rfl,rfl,fun L H _ hH j w jl a hl ho=>by
  have h1:=ho x (by simp [Op.operands]);rw [hx] at h1;obtain⟨e,_⟩:=rel_ptr h1;rw [hH rfl] at hl;obtain⟨cv,h3,h4⟩:=loadVar_rel (P:=P) (hl.1.obj id _ hh).2.tcells.cells hT (K.ne_other hk) hv;rw [Nat.zero_add] at h3;exact⟨cv,by simp [execOp,Instr.loadAt,Instr.sureAddr,e,h3],h4⟩⟩
theorem Cert.storePT {t:TypeId}{ti:TI}{x y:Operand}{id off:Nat}{T:TypeId}{xs xs':List D}{v:D}(hT:mkTI P t=some ti) (hx:ev ts x=.a (.d (.ptr id off))) (hy:ev ts y=.a (.d v)) (hl:h id=some (.tcells T xs))
  (hsz:ti.size=1) (hv:SetAt v xs off xs'):Cert P (mk none (.store t x y) ty pos aft g) ts ls h { wh:=true } .any ls (h.set id (some (.tcells T xs'))):=by
 obtain⟨hoff,hxs'⟩:=hv.spec;refine Cert.of_run fun L H _ hH j w jl a hh ho=>?_;have hH':=hH rfl;subst hH';have h1:=ho x (by simp [Op.operands]);have h2:=ho y (by simp [Op.operands]);rw [hx] at h1; rw [hy] at h2;have h2:ARel j w (.d v) (a.eval y):=h2;obtain⟨e,hid⟩:=rel_ptr h1;obtain⟨cs,hg,hall,hF⟩:=(hh.1.obj id _ hl).2;obtain⟨w',h3,h4⟩:=storeVar_upd (lou:=lou) (P:=P) (off:=off) hg hT h2 (by rw [hsz]; rfl) (by rw [<- hall.length,hsz]; omega)
 have hle':=h4.le (j:=j) hF;obtain⟨h5,h6⟩:=hh.setObj (o':=.tcells T xs') hl rfl rfl hF h4 ⟨_,h4.here,by
  have:=(hall.spl off h2.cells).imp fun _ _ h=>h.mono hle';rw [hxs']; exact this,hF⟩
 refine⟨.skip,w',undef,j,jl, ?_,.inr ⟨rfl,rfl⟩,trivial,h5,Ext.refl _,h6⟩;simp [execOp,Instr.storeAt,Instr.sureAddr,e,h3]
theorem StepE.allocT {e:TypeId}{ti:TI}{z:A}(hT:mkTI P e=some ti) (hz:ti.zero=some z) :
  StepE P (mk dst (.alloc e) ty pos aft g) ts ls h fun v ls' h'=>∃id,h id=none/\v=.a (.d (.ptr id 0))/\ls'=ls/\h'=h.set id (some (.tcells e (cellsA z))):=by
 obtain⟨inf,d,h1,_,_,_,_,h2⟩:=mkTI_spec hT;rw [hz] at h2;obtain⟨v,h3,h4⟩:=zeroF_rel h2;intro j w jl a hl ho K Q hk;have hr:(execOp a.eval (mk dst (.alloc e) ty pos aft g)).run P w=.ok (.value (.pointer (some ⟨w.heap.size,0,none⟩))) (w.alloc (.cells v.cells e)):=by simp [execOp,Instr.alloc,zeroValue,typeInfo,h1,h3,newVar,newRow]
 have hle:Le j w (j.obj w.heap.size) (w.alloc (.cells v.cells e)) :=
  ((hl.data (lou:=lou) (.cells v.cells e) 0).2.toLe.trans (by
   rw [J.frz_zero (hl.1.fresh _ (Nat.le_refl _))];exact⟨by simp [J.obj],fun id hi=>by simp only [J.obj]; rw [if_neg (by omega)],fun _=>Nat.le_refl _,fun _ _ _=>rfl,fun _ _=>.inl rfl⟩))
 obtain⟨h5,h6⟩:=hl.obj (lou:=lou) (.cells v.cells e) (.tcells e (cellsA z)) rfl ⟨v.cells.toList,by
  simp only [J.obj,if_true]; rw [Array.toArray_toList]; exact heap_alloc_new w _,(h4 j w).cells.imp fun _ _ h=>h.mono hle,by
   simp only [J.obj,if_true]; exact hl.1.fresh _ (Nat.le_refl _)⟩
 unfold Oper.wp;rw [hr,Oper.upon_value];refine hk _ _ _ _ (j.obj w.heap.size) _ jl ⟨j.next,hl.1.next_none (Nat.le_refl _),rfl,rfl,rfl⟩ ?_ h5 (Ext.refl _) h6;have:=DRel.ptr (j:=j.obj w.heap.size) (w:=w.alloc (.cells v.cells e)) j.next 0 (by simp [J.obj])
 simpa [J.obj,VRel,ARel] using this
end
theorem Own.reobj {j:J}{h:Heap}{c:Nat}{o o':Obj}(hc:h c=some o) (hb:blkOf j c o'=blkOf j c o){jl:List Nat}{b:Nat}:Own j (h.set c (some o')) jl b↔Own j h jl b:=by
 constructor
 ·rintro (h1|⟨id,o1,h1,h2⟩)
  ·exact .inl h1
  ·by_cases e:id=c
   ·subst e; rw [Heap.set_same] at h1; simp only [Option.some.injEq] at h1; subst h1;exact .inr ⟨id,_,hc,hb▸h2⟩
   ·rw [Heap.set_other _ _ e] at h1; exact .inr ⟨id,o1,h1,h2⟩
 ·rintro (h1|⟨id,o1,h1,h2⟩)
  ·exact .inl h1
  ·by_cases e:id=c
   ·subst e; rw [hc] at h1; simp only [Option.some.injEq] at h1; subst h1;exact .inr ⟨id,_,Heap.set_same _ _ _,hb.trans h2⟩
   ·exact .inr ⟨id,o1,by rw [Heap.set_other _ _ e]; exact h1,h2⟩
theorem HRel.reobj {j:J}{w:World}{h:Heap}{c:Nat}{o o':Obj}(hr:HRel j w h) (hc:h c=some o) (hb:blkOf j c o'=blkOf j c o) (ho:ORel j w c o->ORel j w c o'):HRel j w (h.set c (some o')):=by
 have key:∀id o1,(h.set c (some o')) id=some o1->∃o2,h id=some o2/\blkOf j id o1=blkOf j id o2:=by
  intro id o1 h1;by_cases e:id=c
  ·subst e; rw [Heap.set_same] at h1; simp only [Option.some.injEq] at h1; subst h1;exact⟨_,hc,hb⟩
  ·rw [Heap.set_other _ _ e] at h1; exact⟨o1,h1,rfl⟩
 refine⟨fun id o1 h1=>?_,fun id1 o1 id2 o2 b h1 h2 e1 e2=>?_,hr.fresh⟩
 ·by_cases e:id=c
  ·subst e; rw [Heap.set_same] at h1; simp only [Option.some.injEq] at h1; subst h1;exact⟨(hr.obj _ _ hc).1,ho (hr.obj _ _ hc).2⟩
  ·rw [Heap.set_other _ _ e] at h1; exact hr.obj _ _ h1
 ·obtain⟨q1,k1,k2⟩:=key id1 o1 h1;obtain⟨q2,k3,k4⟩:=key id2 o2 h2;exact hr.inj id1 q1 id2 q2 b k1 k3 (k2▸e1) (k4▸e2)
theorem AOps.recellT {P:Program}{ops:Array Oper}{rest:List Oper}{Q:St->Prop}{n:Nat}{ts:Ts}{ls:List (List D)}{h:Heap}{amb:Amb}(id:Nat){T:TypeId}{xs:List D}(ys:List D) (hc:h id=some (.tcells T xs)) (hy:∀j w cs,HRel j w h->All2 (DRel j w) xs cs->All2 (DRel j w) ys cs)
  (hw:AOps P ops rest Q ⟨n,ts,ls,h.set id (some (.tcells T ys))⟩):AOps P ops rest Q ⟨n,ts,ls,h⟩:=by
 intro j w jl a hsr Qc hk;have hl:=hsr.hl;have ho:ORel j w id (.tcells T xs)->ORel j w id (.tcells T ys):=fun⟨cs,h1,h2,h3⟩=>⟨cs,h1,hy j w cs hl.1 h2,h3⟩;refine hw j w jl a ⟨hsr.defers,hsr.size,hsr.tmps,⟨hl.1.reobj (o':=.tcells T ys) hc rfl ho,⟨hl.2.each,hl.2.nodup,fun b hb hown=>hl.2.apart b hb ((Own.reobj (o':=.tcells T ys) hc rfl).1 hown)⟩⟩⟩ Qc fun σ' j' w' jl' a' hq hs' hev=>hk σ' j' w' jl' a' hq hs' (Evolve.trans ?_ hev)
 exact { Evolve.refl j _ (Own j h jl) with own:=fun b _ hown=>(Own.reobj (o':=.tcells T ys) hc rfl).1 hown }
theorem AOps.tokE {P:Program}{ops:Array Oper}{rest:List Oper}{Q:St->Prop}{n:Nat}{ts:Ts}{ls:List (List D)}{h:Heap}{amb:Amb}(k:Nat) (E:TypeId) (hw:∀t,h t=none->AOps P ops rest Q ⟨n,ts,ls,h.set t (some (.tok k 0 (some E)))⟩):AOps P ops rest Q ⟨n,ts,ls,h⟩:=by
 intro j w jl a hsr Qc hk;obtain⟨hl1,hev1⟩:=hsr.hl.newTok (lou:=lou) k (some E);have hle:=hev1.toLe;refine hw j.next (hsr.hl.1.next_none (Nat.le_refl _)) j.newTok w jl a ⟨hsr.defers,hsr.size,fun k=>(hsr.tmps k).mono hle (Ext.refl _),hl1⟩ Qc fun σ' j' w' jl' a' hq hs' hev=>hk σ' j' w' jl' a' hq hs' (hev1.trans hev)
theorem bld_check {P:Program}{ρ:Ren}(L:Lays.n240 P ρ) (X:Builder.X72 P ρ){F:Nat}(hF:F=ρ.f 240){T:TypeId}(hT:T=ρ.t 72){H:Heap}{i:Nat}{t:Option Nat}{x:Strings_Builder}(hc:H i=some (.tcells T (x.cg i t))) :
  AC P F [.d (.ptr i 0)] H fun v h'=>v=.tup []/\h'=H.set i (some (.tcells T (Strings_Builder.cg i t ⟨true,x.Fbuf⟩))):=by
 subst hF hT;refine⟨enters_of L.f240 (by kernel_rfl) rfl,fun j w c hr ha=>?_⟩;have hl:HL j w [] [] H:=⟨hr,⟨.nil,by simp,by simp⟩⟩;cases ha with
 | cons a1 ha =>
 cases ha
 rename_i v1
 have a1':DRel j w (.ptr i 0) v1:=a1;cases a1' with
 | ptr _ _ hid =>
 obtain⟨hn,cs,hg,hall,hF0⟩:=hr.obj i _ hc;unfold Strings_Builder.cg at hall;cases hall with
 | @cons _ p _ _ hp hall =>
 cases hall with
 | @cons _ v _ _ hv hall =>
 cases hall;cases hx:x.Faddr with
 | true =>
  rw [hx] at hp;have hp':DRel j w (.ptr i 0) p:=hp;cases hp' with
  | ptr _ _ _ =>
  have h0:w.cell? ⟨j.out i,0,none⟩=some (.pointer (some ⟨j.out i,0,none⟩)):=by rw [cell_of_row w (j.out i) 0 _ (ρ.t 72) (0,0) hg]; rfl
  refine(Any.Builder_copyCheck_used L X (j.out i) w h0).mono ?_;rintro e w' ⟨rfl,rfl⟩;have hset:H.set i (some (.tcells (ρ.t 72) (Strings_Builder.cg i t ⟨true,x.Fbuf⟩)))=H:=by
   refine Heap.set_self H i _ ?_;rw [hc]; unfold Strings_Builder.cg; rw [hx]
  exact⟨.tup [],.tuple #[],j,H,rfl,⟨rfl,hset.symm⟩,⟨[],rfl,.nil⟩,hr,Evolve.refl _ _ _⟩
 | false =>
  rw [hx] at hp;have hp':DRel j w .nilptr p:=hp;cases hp';have h0:w.cell? ⟨j.out i,0,none⟩=some (.pointer none):=by rw [cell_of_row w (j.out i) 0 _ (ρ.t 72) (0,0) hg]; rfl
  have hsh:w.shape? (j.out i)=some (ρ.t 72,2):=by simp [World.shape?,hg]
  have hfz:w.frozen? ⟨j.out i,0,none⟩=false:=frozen_of_row w (j.out i) _ _ (ρ.t 72) hg;refine(Any.Builder_copyCheck_fresh L X (j.out i) w h0 hsh hfz).mono ?_;rintro e w' ⟨rfl,rfl⟩;have hu:=Upd.setCell (lou:=lou) (i:=0) hg (.pointer (some ⟨j.out i,0,none⟩));have hle:=hu.le (j:=j) hF0;obtain⟨h5,h6⟩:=hl.setObj (o':=.tcells (ρ.t 72) (Strings_Builder.cg i t ⟨true,x.Fbuf⟩)) hc rfl rfl hF0 hu ⟨_,hu.here,by
   unfold Strings_Builder.cg;exact .cons (DRel.ptr i 0 hn) (.cons (hv.mono hle) .nil),hF0⟩
  exact⟨.tup [],.tuple #[],j,_,rfl,⟨rfl,rfl⟩,⟨[],rfl,.nil⟩,h5.1,h6⟩
def bldStr (x:Strings_Builder):Option Bs:=if x.Fbuf.l.all (fun n=>decide (0<=n/\n<256))=true/\(x.Fbuf.nl=true/\x.Fbuf.l=[]\/x.Fbuf.nl=false/\x.Fbuf.l≠[]) then some (bytesC x.Fbuf) else none
theorem HRel.sub {j:J}{w:World}{h h':Heap}(hr:HRel j w h) (hs:∀id o,h' id=some o->h id=some o):HRel j w h' :=
 ⟨fun id o hi=>hr.obj id o (hs id o hi),fun id1 o1 id2 o2 b h1 h2 e1 e2=>hr.inj id1 o1 id2 o2 b (hs _ _ h1) (hs _ _ h2) e1 e2,hr.fresh⟩
theorem Own.sub {j:J}{h h':Heap}(hs:∀id o,h' id=some o->h id=some o){jl:List Nat}{b:Nat}(ho:Own j h' jl b):Own j h jl b:=by
 rcases ho with h1|⟨id,o,h1,h2⟩
 ·exact .inl h1
 ·exact .inr ⟨id,o,hs id o h1,h2⟩
theorem cell_freeze (w:World) (a b:Addr) (n:Nat):(w.freeze a n).cell? b=w.cell? b:=by
 unfold World.freeze
 split
 ·rfl
 ·unfold World.cell?;simp only [Array.getElem?_modify];by_cases e:a.block=b.block
  ·rw [if_pos e];cases w.heap[b.block]? with
   | none=>rfl
   | some o=>cases o<;>rfl
  ·rw [if_neg e]
theorem heap_freeze (w:World) (a:Addr) (n:Nat){b:Nat}(hb:b≠a.block):(w.freeze a n).heap[b]?=w.heap[b]?:=by
 unfold World.freeze
 split
 ·rfl
 ·simp only [Array.getElem?_modify];rw [if_neg (Ne.symm hb)]
theorem size_freeze (w:World) (a:Addr) (n:Nat):(w.freeze a n).heap.size=w.heap.size:=by
 unfold World.freeze
 split
 ·rfl
 ·simp
theorem rest_freeze (w:World) (a:Addr) (n:Nat):(w.freeze a n).os=w.os/\(w.freeze a n).tape=w.tape/\(w.freeze a n).output=w.output/\(w.freeze a n).drawn=w.drawn:=by
 unfold World.freeze
 split<;>exact⟨rfl,rfl,rfl,rfl⟩
theorem HL.freezeB {j:J}{w:World}{h h':Heap}(hl:HL j w [] [] h) (hs:∀id o,h' id=some o->h id=some o){b n:Nat}(hb:Own j h [] b) (hb':¬Own j h' [] b) :
  HL j (w.freeze ⟨b,0,none⟩ n) [] [] h'/\Evolve j w (Own j h []) j (w.freeze ⟨b,0,none⟩ n) (Own j h' []):=by
 have hle:Le j w j (w.freeze ⟨b,0,none⟩ n):=⟨Nat.le_refl _,fun _ _=>rfl,fun _=>Nat.le_refl _,fun _ _ _=>cell_freeze _ _ _ _,fun _ _=>.inl rfl⟩;have hl':HL j w [] [] h':=⟨hl.1.sub hs,⟨.nil,by simp,by simp⟩⟩;have hk:=hl'.keep hle (fun x ho=>⟨heap_freeze _ _ _ (fun e=>hb' (by have e':x=b:=e; rw [<- e']; exact ho)),rfl⟩) (fun _ _ _=>rfl) (fun x hx=>hl.1.fresh x (by rw [size_freeze] at hx; exact hx));obtain⟨e1,e2,e3,e4⟩:=rest_freeze w ⟨b,0,none⟩ n
 exact⟨hk.1,{ toLe:=hle,size:=by rw [size_freeze]; exact Nat.le_refl _,frame:=fun x _ hn=>⟨heap_freeze _ _ _ (fun e=>hn (by have e':x=b:=e; rw [e']; exact hb)),rfl⟩,own:=fun x _ ho=>Own.sub hs ho,os:=e1,tape:=e2,output:=⟨e3,by rw [e4]; exact .inl (Nat.le_refl _)⟩ }⟩
theorem bld_string {P:Program}{ρ:Ren}(L:Lays.n169 P ρ) (X:Builder.Extra P ρ){F:Nat}(hF:F=ρ.f 169){T E:TypeId}(hT:T=ρ.t 72) (hEE:E=ρ.t 5){H:Heap}{i tk:Nat}{x:Strings_Builder}{r:Bs}(hE:bldStr x=some r)
  (hc:H i=some (.tcells T (x.cg i (some tk)))) (ht:H tk=some (.tok 1 x.Fbuf.l.length (some E))) :
  AC P F [.d (.ptr i 0)] H fun v h'=>v=.a (.d (.str r))/\h'=(H.set tk none).set i none:=by
 subst hF hT hEE;unfold bldStr at hE
 split at hE
 case isFalse=>cases hE
 rename_i hcond
 obtain⟨hbytes,hshape⟩:=hcond;obtain rfl:=Option.some.inj hE;refine⟨enters_of L.f169 (by kernel_rfl) rfl,fun j w c hr ha=>?_⟩;cases ha with
 | cons a1 ha =>
 cases ha
 rename_i v1
 have a1':DRel j w (.ptr i 0) v1:=a1;cases a1' with
 | ptr _ _ hid =>
 obtain⟨hn,cs,hg,hall,hF0⟩:=hr.obj i _ hc;obtain⟨htn,blk,htok,hblk,hE0⟩:=hr.obj tk _ ht;unfold Strings_Builder.cg at hall;cases hall with
 | @cons _ p _ _ hp hall =>
 cases hall with
 | @cons _ v _ _ hv hall =>
 cases hall;have hsub:∀id o,((H.set tk none).set i none) id=some o->H id=some o:=by
  intro id o h;simp only [Heap.set] at h
  split at h
  ·cases h
  ·split at h
   ·cases h
   ·exact h
 have hv':DRel j w (.slice 1 (some tk) x.Fbuf.nl (x.Fbuf.l.map (intE .u8))) v:=hv;rcases hshape with ⟨hnl,hl0⟩|⟨hnl,hl0⟩
 ·rw [hnl,hl0] at hv';cases hv';refine(bldString_nil L X (j.out i) p w hg).mono ?_;rintro e w' ⟨rfl,rfl⟩;have hb:bytesC x.Fbuf=[]:=by simp [bytesC,hl0]
  rw [hb];refine⟨_,_,j,_,rfl,⟨rfl,rfl⟩,DRel.str [] (by simp [maxS]),((HL.drew (⟨hr,⟨.nil,by simp,by simp⟩⟩:HL j w [] [] H)).1).sub hsub,(Evolve.drew j w _).trans ?_⟩;exact { Evolve.refl j _ (Own j H []) with own:=fun b _ ho=>Own.sub hsub ho }
 ·rw [hnl] at hv';generalize hrow:x.Fbuf.l.map (intE .u8)=rows at hv';cases hv' with
  | slice _ _ _ ad cap cv hk hnn hcc hat hrr htk =>
  subst hrow;rw [List.length_map] at hnn hcc;obtain⟨_,htk2⟩:=htk tk rfl;obtain⟨_,htk3⟩:=htk2 _ htok;rw [List.length_map] at htk3;have hlen0:x.Fbuf.l.length≠0:=by simpa using hl0
  rcases htk3 rfl with ⟨hb0,_⟩|⟨b,hbb,had⟩
  ·exact absurd (hE0 rfl hb0) hlen0
  ·subst had;have hbb':blk=some (b,cap):=hbb;obtain⟨cur,ce,hgb,hcsz,hFb,hmc,hce⟩:=hblk b cap hbb';have hce':ce=ρ.t 5:=hce _ rfl;subst hce';have hcell:∀k y,(bytesC x.Fbuf)[k]?=some y->w.cell? ((⟨b,0,none⟩:Addr).add k)=some (.int .u8 y.toNat):=by
    intro k y hk';unfold bytesC at hk';rw [List.getElem?_map] at hk';cases hxk:x.Fbuf.l[k]? with
    | none=>rw [hxk] at hk'; cases hk'
    | some z =>
     rw [hxk] at hk';simp only [Option.map_some,Option.some.injEq] at hk';have hfl:(x.Fbuf.l.map (intE .u8)).flatten=x.Fbuf.l.map (D.int .u8):=by
      generalize x.Fbuf.l=l;induction l with
      | nil=>rfl
      | cons a r ih=>simp [intE,ih]
     have hk2:k<(x.Fbuf.l.map (intE .u8)).flatten.length:=by rw [hfl,List.length_map]; exact(List.getElem?_eq_some_iff.1 hxk).1
     have h1:=(hat.2 k hk2).2;have h2:=hrr k hk2;have h3:(x.Fbuf.l.map (intE .u8)).flatten[k]=D.int .u8 z:=by
      have h4:(x.Fbuf.l.map (intE .u8)).flatten[k]?=some (D.int .u8 z):=by rw [hfl,List.getElem?_map,hxk]; rfl
      rw [List.getElem?_eq_getElem hk2] at h4; simpa using h4
     rw [h3] at h2;generalize cv k=cvk at h1 h2;cases h2;rw [add_plain,Nat.zero_add];have hz:=List.all_eq_true.1 hbytes z (List.mem_of_getElem? hxk);have hz':0<=z/\z<256:=of_decide_eq_true hz;rw [Nat.zero_add] at h1;rw [h1,<- hk'];have:(UInt8.ofNat z.toNat).toNat=z.toNat:=by
      rw [UInt8.toNat_ofNat']; omega
     rw [this,Int.toNat_of_nonneg hz'.1]
   have hbl:(bytesC x.Fbuf).length=x.Fbuf.l.length:=by simp [bytesC]
   have hg':w.heap[j.out i]?=some (.cells #[p,.slice (some ⟨b,0,none⟩) (bytesC x.Fbuf).length cap] (ρ.t 72) (0,0)):=by rw [hbl]; simpa using hg
   refine(bldString_some L X (j.out i) b cap p cur (bytesC x.Fbuf) w (by rw [hbl]; exact hlen0) hg' hgb (by rw [hbl]; exact hcc) (by rw [hbl]; unfold maxN at hnn; omega) hcsz hcell).mono ?_;rintro e w' ⟨rfl,rfl⟩;have hbk:blkOf j tk (.tok 1 x.Fbuf.l.length (some (ρ.t 5)))=some b:=by simp [blkOf,htok,hbb']
   have hnb:¬Own j ((H.set tk none).set i none) [] b:=by
    rintro (h1|⟨id,o,h1,h2⟩)
    ·cases h1
    ·have:=hr.inj id o tk _ b (hsub _ _ h1) ht h2 hbk;subst this;by_cases e:id=i
     ·subst e; rw [Heap.set_same] at h1; cases h1
     ·rw [Heap.set_other _ _ e,Heap.set_same] at h1; cases h1
   have hl00:HL j w [] [] H:=⟨hr,⟨.nil,by simp,by simp⟩⟩;have hl0:HL j w.drew [] [] H:=hl00.drew;obtain⟨h5,h6⟩:=hl0.freezeB (lou:=lou) hsub (n:=(bytesC x.Fbuf).length) (.inr ⟨tk,_,ht,hbk⟩) hnb;exact⟨_,_,j,_,rfl,⟨rfl,rfl⟩,DRel.str (bytesC x.Fbuf) (by rw [hbl]; unfold maxN at hnn; unfold maxS; omega),h5.1,(Evolve.drew j w _).trans h6⟩
section
variable {P:Program}{ts:Ts}{ls:List (List D)}{h:Heap}{dst:Option Tmp}{ty:TypeId}{pos:String}{aft:Array Edge}{g:Option (Nat×Bool)}
def strSl (s:Bs):Sl Int:=⟨false,s.map fun b=>(b.toNat:Int)⟩
theorem Cert.appMT {t u e:TypeId}{ti ui ei:TI}{x y:Operand}{tk k k' m:Nat}{E:TypeId}{tok':Option Nat}{s r v:Sl Int}{z:A}(hT:mkTI P t=some ti) (hk:ti.k=.slice e) (hE:mkTI P e=some ei) (hU:mkTI P u=some ui) (huk:∃e,ui.k=.slice e)
  (hz:ei.zero=some z) (hzs:(cellsA z).length=ei.size) (hsz:ei.size≠0) (hx:ev ts x=.a (.d (s.d k (intE .u8) (some tk)))) (hy:ev ts y=.a (.d (r.d k' (intE .u8) tok'))) (hkk:k=ei.size) (hkk':k'=ei.size)
  (htk:h tk=some (.tok ei.size m (some E))) (hm:m=s.l.length) (hEE:E=e) (hr:appC ei.bytes s r=some v) :
  Cert P (mk dst (.call { callee:=.builtin .append,args:=#[x,y],argTypes:=#[t,u] }) ty pos aft g) ts ls h { rh:=true,wh:=true } (.a (.d (v.d k (intE .u8) (some tk)))) ls (h.set tk (some (.tok ei.size v.l.length (some E)))):=by
 obtain⟨e,h1,h2⟩:=appC_some hr;subst e;have:=Cert.appendG (lou:=lou) (P:=P) (dst:=dst) (ty:=ty) (pos:=pos) (aft:=aft) (g:=g) (ls:=ls) (rows':=r.l.map (intE .u8)) hT hk hE hU (.inl huk) hz hzs hsz hx (fun j w jl cv hv=>by
  have hv':DRel j w (.slice k' tok' r.nl (r.l.map (intE .u8))) cv:=by rw [hy] at hv; exact hv
  refine Src.slice hv' fun r hr=>?_;obtain⟨_,_,_,_,_,_,_,hh,_⟩:=rel_slice (jl:=jl) hv';rw [<- hkk'];exact hh r hr) (.inl hkk) htk (by rw [hm]; simp) (by simpa using h1) (by simpa using h2) (fun T h=>by cases h; exact hEE)
 simp only [List.length_map,List.length_append] at this ⊢;rw [<- List.map_append,List.isEmpty_map,<- hkk] at this;rw [<- hkk];exact this
theorem Cert.appST {t u e:TypeId}{ti ui ei:TI}{x y:Operand}{tk k m:Nat}{E:TypeId}{s v:Sl Int}{r:Bs}{z:A}(hT:mkTI P t=some ti) (hk:ti.k=.slice e) (hE:mkTI P e=some ei) (hU:mkTI P u=some ui) (huk:ui.k=.str)
  (hz:ei.zero=some z) (hzs:(cellsA z).length=ei.size) (hsz:ei.size=1) (hx:ev ts x=.a (.d (s.d k (intE .u8) (some tk)))) (hy:ev ts y=.a (.d (.str r))) (hkk:k=ei.size)
  (htk:h tk=some (.tok ei.size m (some E))) (hm:m=s.l.length) (hEE:E=e) (hr:appC ei.bytes s (strSl r)=some v) :
  Cert P (mk dst (.call { callee:=.builtin .append,args:=#[x,y],argTypes:=#[t,u] }) ty pos aft g) ts ls h { rh:=true,wh:=true } (.a (.d (v.d k (intE .u8) (some tk)))) ls (h.set tk (some (.tok ei.size v.l.length (some E)))):=by
 obtain⟨e,h1,h2⟩:=appC_some hr;subst e;have hb:bytesR r=(strSl r).l.map (intE .u8):=by simp [bytesR,strSl,intE]
 have:=Cert.appendS (lou:=lou) (P:=P) (dst:=dst) (ty:=ty) (pos:=pos) (aft:=aft) (g:=g) (ls:=ls) hT hk hE hU huk hz hzs hsz hx hy (.inl hkk) htk (by rw [hm]; simp) (by rw [hb]; simpa using h1) (by rw [hb]; simpa using h2) (fun T h=>by cases h; exact hEE);rw [hb] at this;simp only [List.length_map,List.length_append] at this ⊢;rw [<- List.map_append,List.isEmpty_map,<- hkk] at this;rw [<- hkk];exact this
theorem Cert.shrI {t u:TypeId}{x y:Operand}{k k':IntKind}{m n:Int}(hx:ev ts x=.a (.d (.int k m))) (hy:ev ts y=.a (.d (.int k' n))) (hn:0<=n) :
  Cert P (mk dst (.binOp .shr t x y u) ty pos aft g) ts ls h {} (.a (.d (.int k (m.fdiv (2 ^ (min n.toNat k.bits)))))) ls h :=
 Cert.of_ops fun j w jl a ho=>by
  have h1:=ho x (by simp [Op.operands]);have h2:=ho y (by simp [Op.operands]);rw [hx] at h1; rw [hy] at h2;have hg:(eqGuard .shr t x y (.int k m) (.int k' n)).run P w=.ok () w:=by unfold eqGuard; simp
  exact⟨_,by simp [execOp,rel_int h1,rel_int h2,hg,binOp,Op.shift,show ¬n<0 by omega],DRel.int _ _⟩
theorem Cert.andI {t u:TypeId}{x y:Operand}{k:IntKind}{m n:Int}(hx:ev ts x=.a (.d (.int k m))) (hy:ev ts y=.a (.d (.int k n))) :
  Cert P (mk dst (.binOp .and t x y u) ty pos aft g) ts ls h {} (.a (.d (.int k (k.wrap ((BitVec.ofInt k.bits m &&& BitVec.ofInt k.bits n).toNat:Int))))) ls h :=
 Cert.of_ops fun j w jl a ho=>by
  have h1:=ho x (by simp [Op.operands]);have h2:=ho y (by simp [Op.operands]);rw [hx] at h1; rw [hy] at h2;exact⟨_,by simp [execOp,rel_int h1,rel_int h2,eqGuard_int,binOp,Op.intBits],DRel.int _ _⟩
end
class IsLoud (lou:Lou):Prop where
 is:lou.loud
instance:IsLoud Lou.on:=⟨trivial⟩
theorem HL.below [hq:IsLoud lou] {j:J}{w w':World}{jl:List Nat}{ls:List (List D)}{h:Heap}(hl:HL j w jl ls h) (hb:Below w.heap.size w w'):HL j w' jl ls h/\Evolve j w (Own j h jl) j w' (Own j h jl):=by
 have hle:Le j w j w':=⟨Nat.le_refl _,fun _ _=>rfl,fun _=>Nat.le_refl _,fun b o ho=>cell?_eq (hb.block b (by
  rcases Nat.lt_or_ge b w.heap.size with h|h
  ·exact h
  ·rw [hl.1.fresh b h] at ho; omega)),fun _ _=>.inl rfl⟩
 have hk:=hl.keep hle (fun b ho=>⟨hb.block b (ho.lt hl),rfl⟩) (fun _ _ _=>rfl) (fun b h=>hl.1.fresh b (by have:=hb.size; omega));exact⟨hk.1,{ toLe:=hle,size:=hb.size,frame:=fun b h _=>⟨hb.block b h,rfl⟩,own:=fun b _ ho=>ho,os:=hb.os,tape:=hb.tape,output:=⟨hb.output,.inr hq.is⟩ }⟩
def joinA (s:Sl Bs) (sep:Bs):Option Bs:=if s.l.length<=maxN/\(Lib.join s.l sep).length<=maxN then some (Lib.join s.l sep) else none
theorem joinA_calls {P:Program}{ρ:Ren} [IsLoud lou] (L:Lays.n156 P ρ) (X:Builder.Extra P ρ){s:Sl Bs}{sep r:Bs}{w0:Option Nat}(hE:joinA s sep=some r){F:Nat}(hF:F=ρ.f 156){H:Heap} :
  AC P F [.d (Sl.d 1 strE w0 s),.d (.str sep)] H fun v h'=>v=.a (.d (.str r))/\h'=H:=by
 by_cases h0:s.l=[]
 ·refine join_calls L X (s:=s) ?_ hF;unfold joinA at hE
  split at hE
  ·rw [<- hE]; unfold joinC; rw [h0]; rfl
  ·cases hE
 subst hF;unfold joinA at hE
 split at hE
 case isFalse=>cases hE
 rename_i hc
 obtain rfl:=Option.some.inj hE;refine⟨enters_of L.f156 (by kernel_rfl) rfl,fun j w c hr ha=>?_⟩;cases ha with
 | cons a1 ha =>
 cases ha with
 | cons a2 ha =>
 cases ha
 rename_i v1 v2
 have a2':DRel j w (.str sep) v2:=a2;have a1':DRel j w (.slice 1 w0 s.nl (s.l.map strE)) v1:=a1;cases a2' with
 | str _ hs =>
 generalize hrow:s.l.map strE=rows at a1';generalize s.nl=nl at a1';cases a1' with
 | snil=>exact absurd (List.map_eq_nil_iff.1 hrow) h0
 | slice _ _ _ a cap cv hk hn hcc hat hr1 htk =>
  subst hrow;have hsp:a.spot=none:=hat.1.resolve_left (fun e=>h0 (List.map_eq_nil_iff.1 e));obtain⟨b,o,sp⟩:=a;simp only at hsp; subst hsp;have hfl:(s.l.map strE).flatten=s.l.map D.str:=by
   generalize s.l=l;induction l with
   | nil=>rfl
   | cons a r ih=>simp [strE,ih]
  have hlenf:(s.l.map strE).flatten.length=s.l.length:=by rw [hfl,List.length_map]
  have hcell:∀(k:Nat) x,(s.l.map fun x=>(⟨x.toArray⟩:ByteArray))[k]?=some x->w.cell? ⟨b,o+k,none⟩=some (.string x):=by
   intro k x hx;rw [List.getElem?_map] at hx;cases hxk:s.l[k]? with
   | none=>rw [hxk] at hx; cases hx
   | some z =>
    rw [hxk] at hx;simp only [Option.map_some,Option.some.injEq] at hx;have hk2:k<(s.l.map strE).flatten.length:=by rw [hlenf]; exact(List.getElem?_eq_some_iff.1 hxk).1
    have h1:=(hat.2 k hk2).2;have h2:=hr1 k hk2;have h3:(s.l.map strE).flatten[k]=D.str z:=by
     have h4:(s.l.map strE).flatten[k]?=some (D.str z):=by rw [hfl,List.getElem?_map,hxk]; rfl
     rw [List.getElem?_eq_getElem hk2] at h4; simpa using h4
    rw [h3] at h2;generalize cv k=cvk at h1 h2;cases h2;rw [h1,<- hx]
  have hbk:b<w.heap.size:=by
   have hp:0<s.l.length:=List.length_pos_iff.2 h0;obtain⟨z,hz⟩:∃z,s.l[0]?=some z:=⟨_,List.getElem?_eq_getElem hp⟩;have h1:=hcell 0 ⟨z.toArray⟩ (by rw [List.getElem?_map,hz]; rfl);unfold World.cell? at h1;cases h2:w.heap[b]? with
   | none=>rw [show (⟨b,o+0,none⟩:Addr).block=b from rfl,h2] at h1; cases h1
   | some q=>exact lt_of_heap h2
  have hmm:(s.l.map fun x=>(⟨x.toArray⟩:ByteArray)).map (·.data.toList)=s.l:=by
   rw [List.map_map]; conv=>rhs; rw [<- List.map_id s.l]
   exact List.map_congr_left fun _ _=>by simp
  have:=Any.strings_Join L X b o cap (s.l.map fun x=>(⟨x.toArray⟩:ByteArray)) ⟨sep.toArray⟩ w hcell hbk (by rw [List.length_map]; exact hc.1) (by rw [List.length_map]; simpa using hcc) (by rw [hmm]; exact hc.2);rw [hmm] at this;simp only [List.length_map] at this ⊢;refine this.mono ?_;rintro e w' ⟨rfl,hbl⟩;have hl:HL j w [] [] H:=⟨hr,⟨.nil,by simp,by simp⟩⟩;obtain⟨h5,h6⟩:=hl.below (lou:=lou) hbl;exact⟨_,_,j,H,rfl,⟨rfl,rfl⟩,DRel.str _ (by have:=hc.2; unfold maxN at this; unfold maxS; simp at this ⊢; omega),h5.1,h6⟩
end Go.Ab

/-
 strings.IndexRune and strings.IndexAny at runes beyond ASCII,over signs that are ASCII. No program text.
-/
namespace Go.Proofs
open Go Go.Shelf Go.RowKit Go.Lib
variable {P:Program}{ρ:Ren}

end Go.Proofs

/-
 strings.IndexAny of whatever string,over two or more ASCII signs. No program text.
-/
namespace Go.Proofs
open Go Go.Shelf Go.RowKit Go.Lib
variable {P:Program}{ρ:Ren}
theorem get!_data (s:ByteArray) (i:Nat) (h:i<s.size):s.get! i=s[i]'h:=by
 simp [ByteArray.get!,getElem!_pos,h]; rfl
end Go.Proofs

/-
 The library's searches in strings,strconv.Atoi,as contracts. No program text.
-/
namespace Go.Ab
open Go Go.RowKit Go.Proofs Go.Shelf
variable {lou:Lou}
def isAscii (s:Bs):Bool:=s.all fun b=>decide (b.toNat<128)
theorem isAscii_at {s:Bs}(h:isAscii s=true):∀(j:Nat) b,(⟨s.toArray⟩:ByteArray).data.toList[j]?=some b->b.toNat<128:=fun j b hb=>by
 have h1:s[j]?=some b:=by simpa using hb
 have h2:=List.mem_of_getElem? h1;have h3:=List.all_eq_true.1 h b h2
 simpa using h3
theorem cmpS_calls {P:Program}{ρ:Ren}(L:Lays.n106 P ρ){s t:Bs}{F:Nat}(hF:F=ρ.f 106){H:Heap} :
  AC P F [.d (.str s),.d (.str t)] H fun v h'=>v=.a (.d (.int .i64 (Lib.compareBytes s t)))/\h'=H:=by
 subst hF;refine AC.compute (cargs:=[]) (cv:=.int .i64 (Lib.compareBytes s t)) (enters_of L.f106 (by kernel_rfl) rfl) fun j w c' hr ha=>?_;cases ha with
 | cons a1 ha =>
 cases ha with
 | cons a2 ha =>
 cases ha
 rename_i v1 v2
 have a1':DRel j w (.str s) v1:=a1;have a2':DRel j w (.str t) v2:=a2;cases a1'; cases a2';refine⟨DRel.int _ _, ?_⟩;have h5:=Any.strings_Compare L ⟨s.toArray⟩ ⟨t.toArray⟩ w
 simpa using h5
end Go.Ab

/-
 strings.ToLower on ASCII text,as a contract. No program text.
-/
namespace Go.Ab
open Go Go.RowKit Go.Proofs Go.Shelf
variable {lou:Lou}
def lowerC (s:Bs):Option Bs:=if s.length<=maxN/\isAscii s=true then some (Lib.toLowerA s) else none
theorem lower_calls {P:Program}{ρ:Ren} [IsLoud lou] (L:Lays.n159 P ρ) (X:Builder.Extra P ρ){s r:Bs}(hE:lowerC s=some r){F:Nat}(hF:F=ρ.f 159){H:Heap} :
  AC P F [.d (.str s)] H fun v h'=>v=.a (.d (.str r))/\h'=H:=by
 subst hF;unfold lowerC at hE
 split at hE
 case isFalse=>cases hE
 rename_i hc
 obtain rfl:=Option.some.inj hE;refine⟨enters_of L.f159 (by kernel_rfl) rfl,fun j w c hr ha=>?_⟩;cases ha with
 | cons a1 ha =>
 cases ha
 rename_i v1
 have a1':DRel j w (.str s) v1:=a1;cases a1';have h5:=Any.strings_ToLower_ascii L X ⟨s.toArray⟩ w (by have:=hc.1; unfold maxN at this; simp [ByteArray.size]; omega) (isAscii_at hc.2);refine h5.mono ?_;rintro e w' ⟨rfl,hbl⟩;have hl:HL j w [] [] H:=⟨hr,⟨.nil,by simp,by simp⟩⟩;obtain⟨h6,h7⟩:=hl.below (lou:=lou) hbl;have he:(⟨(Lib.toLowerA (⟨s.toArray⟩:ByteArray).data.toList).toArray⟩:ByteArray)=⟨(Lib.toLowerA s).toArray⟩:=by simp
 rw [he];exact⟨_,_,j,H,rfl,⟨rfl,rfl⟩,DRel.str _ (by have:=hc.1; unfold maxN at this; unfold maxS; simp [Lib.toLowerA]; omega),h6.1,h7⟩
end Go.Ab

/-
 Functions that call a yield; loops over a function. No program text.
-/
namespace Go.Ab
open Go Go.RowKit
variable {lou:Lou}

def hNone:Heap:=fun _=>none
structure Keep (C:List Nat) (W W':World):Prop where
 size:W.heap.size<=W'.heap.size
 cells:∀b o,W.heap[b]?=some o->o.isCells=true->b∉C->W'.heap[b]?=some o
theorem Keep.refl (C:List Nat) (W:World):Keep C W W:=⟨Nat.le_refl _,fun _ _ h _ _=>h⟩
theorem Keep.trans {C:List Nat}{A B W:World}(h:Keep C A B) (k:Keep C B W):Keep C A W:=⟨Nat.le_trans h.size k.size,fun b o hb ho hc=>k.cells b o (h.cells b o hb ho hc) ho hc⟩
theorem Keep.grown {C:List Nat}{A B:World}(h:A.grownBy B none):Keep C A B:=⟨h.size,fun b o hb _ _=>(h.block b (lt_of_heap hb) (by simp)).trans hb⟩
theorem Keep.put {C:List Nat}(W:World) (l:Nat) (o o':Go.Obj) (h:W.heap[l]?=some o) (hc:o.isCells=false):Keep C W (W.putObj l o'):=by
 refine⟨by simp,fun b ob hb ho _=>?_⟩;have hne:b≠l:=fun e=>by subst e; rw [h] at hb; cases hb; rw [hc] at ho; cases ho
 rw [World.putObj_heap_other hne]; exact hb

theorem cells_of_cell {W:World}{b o:Nat}{c:Value}(h:W.cell? ⟨b,o,none⟩=some c):∃ob:Go.Obj,W.heap[b]?=some ob/\ob.isCells=true:=by
 unfold World.cell? at h;cases ho:W.heap[b]? with
 | none=>simp [ho] at h
 | some ob=>exact⟨ob,rfl,by cases ob<;>simp_all [Go.Obj.isCells]⟩
theorem Keep.data {C:List Nat}{j:J}{W W':World}(hk:Keep C W W') (hC:∀b∈C,j.F b=0){b o:Nat}{c:Value}(ho:o<j.F b) (h:W.cell? ⟨b,o,none⟩=some c):W'.cell? ⟨b,o,none⟩=some c:=by
 obtain⟨ob,h1,h2⟩:=cells_of_cell h;have h3:=hk.cells b ob h1 h2 (fun hb=>by rw [hC b hb] at ho; omega);rw [<- h];unfold World.cell?;simp only [h1,h3]
theorem DRel.kept {j:J}{W W':World}(hd:∀b o c,o<j.F b->W.cell? ⟨b,o,none⟩=some c->W'.cell? ⟨b,o,none⟩=some c){x:D}{v:Value}(h:DRel j W x v):DRel j W' x v:=by
 induction h with
 | bool b=>exact .bool b
 | int k n=>exact .int k n
 | str s h=>exact .str s h
 | snil k tok ht=>exact .snil k tok ht
 | slice k tok rows a cap cv hk hn hc hat hr ht ih=>exact .slice k tok rows a cap cv hk hn hc ⟨hat.1,fun i hi=>⟨(hat.2 i hi).1,hd _ _ _ (hat.2 i hi).1 (hat.2 i hi).2⟩⟩ ih ht
 | arr k id nl len a cap hid hv=>exact .arr k id nl len a cap hid hv
 | aptr id m off b hid hv=>exact .aptr id m off b hid hv
 | nilptr=>exact .nilptr
 | ptr id off h=>exact .ptr id off h
 | view cells a cv hat hr ih=>exact .view cells a cv ⟨hat.1,fun i hi=>⟨(hat.2 i hi).1,hd _ _ _ (hat.2 i hi).1 (hat.2 i hi).2⟩⟩ ih
 | nilmap=>exact .nilmap
 | map id b hid hv=>exact .map id b hid hv
 | nilFunc=>exact .nilFunc
 | func f caps cvs hl hr ih=>exact .func f caps cvs hl ih
 | yield l=>exact .yield l
 | fany t b c=>exact .fany t b c
 | nilIface=>exact .nilIface
 | iface t x v h ih=>exact .iface t x v ih
theorem ARel.kept {j:J}{W W':World}(hd:∀b o c,o<j.F b->W.cell? ⟨b,o,none⟩=some c->W'.cell? ⟨b,o,none⟩=some c){x:A}{v:Value}(h:ARel j W x v):ARel j W' x v:=by
 cases x with
 | d x=>exact DRel.kept hd h
 | agg xs=>obtain⟨cs,e,h⟩:=h; exact⟨cs,e,h.imp fun _ _ h=>h.kept hd⟩
theorem VRel.kept {j:J}{W W':World}(hd:∀b o c,o<j.F b->W.cell? ⟨b,o,none⟩=some c->W'.cell? ⟨b,o,none⟩=some c){jl:List Nat}{x:V}{v:Value}(h:VRel j W jl x v):VRel j W' jl x v:=by
 cases x with
 | any=>trivial
 | a x=>exact ARel.kept hd h
 | lptr i off=>exact h
 | tup xs=>obtain⟨cs,e,h⟩:=h; exact⟨cs,e,h.imp fun _ _ h=>h.kept hd⟩
 | gd c x=>exact⟨fun hc=>ARel.kept hd (h.1 hc),h.2⟩
 | gdl c i off=>exact h
 | full k rows=>exact⟨h.1.kept hd,h.2⟩
 | gdf c k rows=>exact⟨fun hc=>⟨(h.1 hc).1.kept hd,(h.1 hc).2⟩,h.2⟩
theorem hnone_rel {j:J}{w:World}(h:∀b,w.heap.size<=b->j.F b=0):HL j w [] [] hNone:=⟨⟨fun _ _ h=>(by cases h),fun _ _ _ _ _ h=>(by cases h),h⟩,⟨.nil,by simp,by simp⟩⟩

def Live (C:List Nat) (Jw:World->Prop) (W0:World) (n:Nat) (ts:Ts) (a:Act) (w:World):Prop :=
 ∃j:J,SRel j w [] ⟨n,ts,[],hNone⟩ a/\(∀b∈C,b<w.heap.size/\j.F b=0)/\Keep C W0 w/\Jw w
def Stable (Jw:World->Prop):Prop:=∀A B:World,Jw A->A.grownBy B none->Jw B

theorem not_own {j:J}{b:Nat}:¬Own j hNone [] b:=by
 rintro (h|⟨id,o,h,_⟩)
 ·cases h
 ·cases h
section
variable {C:List Nat}{Jw:World->Prop}{W0:World}{P:Program}{n m:Nat}{ts:Ts}{a:Act}{w:World}
theorem Live.next (hJ:Stable Jw){j j':J}{w':World}{a':Act}{ts':Ts}(hC:∀b∈C,b<w.heap.size/\j.F b=0) (hk:Keep C W0 w) (hj:Jw w) (hs':SRel j' w' [] ⟨n,ts',[],hNone⟩ a') (hev:Evolve j w (Own j hNone []) j' w' (Own j' hNone [])) :
  Live C Jw W0 n ts' a' w':=by
 have hg:w.grownBy w' none:=⟨hev.os,hev.tape,hev.output.1,hev.size,fun k hk _=>(hev.frame k hk not_own).1⟩;exact⟨j',hs',fun b hb=>⟨Nat.lt_of_lt_of_le (hC b hb).1 hev.size,(hev.frame b (hC b hb).1 not_own).2.trans (hC b hb).2⟩,hk.trans (.grown hg),hJ _ _ hj hg⟩
theorem Live.seqK {x y:Code}(hJ:Stable Jw) (h:Live C Jw W0 n ts a w){Q:Exit->Act->World->Prop}
  (hx:∀K:Ts->Prop,(∀ts',(∀a' w',Live C Jw W0 n ts' a' w'->y.wpIn Fence.wide m P Q a' w')->K ts')->AWp P x (fun e σ'=>e=.normal/\σ'.n=n/\σ'.ls=[]/\σ'.h=hNone/\K σ'.ts) ⟨n,ts,[],hNone⟩):(Code.seq x y).wpIn Fence.wide m P Q a w:=by
 refine wpIn_seq ?_;obtain⟨j,hs,hC,hk,hj⟩:=h;refine wpIn_wide.2 (wp_mono (hx (fun ts'=>∀a' w',Live C Jw W0 n ts' a' w'->y.wpIn Fence.wide m P Q a' w') (fun _ h=>h) j w [] a hs) ?_);rintro e a' w' ⟨σ',j',jl',⟨he,h1,h2,h3,h4⟩,hs',hev⟩;obtain⟨n',ts',ls',h'⟩:=σ';simp only at h1 h2 h3 h4;subst he h1 h2 h3;have hjl:jl'=[]:=by have:=hs'.hl.2.each.length; simpa using this.symm
 subst hjl;exact h4 _ _ (Live.next hJ hC hk hj hs' hev)
theorem Live.seqK_end {x:Code}{R:Act->World->Prop}(hJ:Stable Jw) (h:Live C Jw W0 n ts a w){Q:Exit->Act->World->Prop}
  (hx:∀K:Ts->Prop,(∀ts',(∀a' w',Live C Jw W0 n ts' a' w'->R a' w')->K ts')->AWp P x (fun e σ'=>e=.normal/\σ'.n=n/\σ'.ls=[]/\σ'.h=hNone/\K σ'.ts) ⟨n,ts,[],hNone⟩):x.wpIn Fence.wide m P (Exit.then R Q) a w:=by
 obtain⟨j,hs,hC,hk,hj⟩:=h;refine wpIn_wide.2 (wp_mono (hx (fun ts'=>∀a' w',Live C Jw W0 n ts' a' w'->R a' w') (fun _ h=>h) j w [] a hs) ?_);rintro e a' w' ⟨σ',j',jl',⟨he,h1,h2,h3,h4⟩,hs',hev⟩;obtain⟨n',ts',ls',h'⟩:=σ';simp only at h1 h2 h3 h4;subst he h1 h2 h3;have hjl:jl'=[]:=by have:=hs'.hl.2.each.length; simpa using this.symm
 subst hjl;exact h4 _ _ (Live.next hJ hC hk hj hs' hev)
theorem Live.bool {t:Nat}{b:Bool}(h:Live C Jw W0 n ts a w) (hb:get ts t=.a (.d (.bool b))):a.eval (.tmp t)=.bool b:=by
 obtain⟨j,hs,_⟩:=h;have h1:=hs.tmps t;rw [hb] at h1;have h2:DRel j w (.bool b) (a.tmps.getD t undef):=h1;show a.tmps.getD t undef=_;generalize a.tmps.getD t undef=v at h2;cases h2; rfl
theorem Live.weaken {ts':Ts}(h:Live C Jw W0 n ts a w) (hw:∀k,get ts' k=.any\/get ts' k=get ts k):Live C Jw W0 n ts' a w:=by
 obtain⟨j,hs,r⟩:=h;refine⟨j,⟨hs.defers,hs.size,fun k=>?_,hs.hl⟩,r⟩;rcases hw k with e|e
 ·show VRel _ _ _ (get ts' k) _; rw [e]; trivial
 ·show VRel _ _ _ (get ts' k) _; rw [e]; exact hs.tmps k
theorem Live.to {ts':Ts}(h:Live C Jw W0 n ts a w) (hk:KeepsT ts ts':=by(repeat (first|exact KeepsT.nil|refine KeepsT.cons rfl ?_))):Live C Jw W0 n ts' a w:=h.weaken hk.get
theorem Live.core {o:Oper}{Q:Exit->Act->World->Prop}{fx:Fx}{v:V}{ls':List (List D)}{h':Heap}(hJ:Stable Jw) (hs:Cert P o ts [] hNone fx v ls' h') (hf:(fx.wl||fx.wh)=false) (hd:okDst o.dst n=true)
  (h:Live C Jw W0 n ts a w) (K:Act->World->Prop) (hK:∀a' w',Live C Jw W0 n (putTs o.dst v ts) a' w'->K a' w'):o.wpIn Fence.wide m P a w K Q:=by
 obtain⟨j,hsr,hC,hk,hj⟩:=h;have h1:=hs.step j w [] a hsr.hl (fun x _=>ev_rel hsr.tmps x) K Q fun u ls2 h2 cv j' w' jl' r hv hl hx hev=>by
  obtain⟨e1,e2,e3⟩:=r;have hwl:fx.wl=false:=by cases hh:fx.wl<;>simp_all
  have hwh:fx.wh=false:=by cases hh:fx.wh<;>simp_all
  rw [hwl] at e2; rw [hwh] at e3;simp only [cond_false] at e2 e3;subst e1 e2 e3;have hjl:jl'=[]:=by have:=hl.2.each.length; simpa using this.symm
  subst hjl;exact hK _ _ (Live.next hJ hC hk hj (hsr.put hev.toLe hx hd hv hl) hev)
 refine⟨fun _ _=>trivial, ?_⟩;unfold Oper.wp at h1;rw [show o.semAt Fence.wide.round a.eval=execOp a.eval o from rfl];generalize (execOp a.eval o).run P w=r at h1;cases r with
 | ok nx w' =>
  cases nx with
  | enter f args=>exact⟨fun h=>(by cases h),callsIn_wide.2 h1⟩
  | row row args=>exact⟨fun h=>(by cases h),fun c cs _=>by obtain⟨v,w',r,s⟩:=h1 c cs; exact⟨v,w',r,stepsIn_wide.2 s⟩⟩
  | round=>exact h1.elim
  | _=>exact h1
 | halt s w'=>cases s<;>exact h1
theorem Live.op {ops:Array Oper}{rest:List Oper}{o:Oper}{Q:Exit->Act->World->Prop}{fx:Fx}{v:V}{ls':List (List D)}{h':Heap}(hJ:Stable Jw) (h:Live C Jw W0 n ts a w) (hs:Cert P o ts [] hNone fx v ls' h') (hf:(fx.wl||fx.wh)=false) (hg:o.guard=none) (hd:okDst o.dst n=true)
  (hr:∀a' w',Live C Jw W0 n (putTs o.dst v ts) a' w'->wpListIn Fence.wide m P ops Q rest a' w'):wpListIn Fence.wide m P ops Q (o::rest) a w :=
 wpListIn_plain hg fun K hK=>Live.core hJ hs hf hd h K fun a' w' hl=>hK _ _ (hr a' w' hl)
theorem Live.want {ops:Array Oper}{o:Oper}{g:Nat}{want b:Bool}(hg:guardOf ops o=some (g,want)) (hb:get ts g=.a (.d (.bool b))) (h:Live C Jw W0 n ts a w):Region.wanted o (yielded ops a.tmps)=(b==want):=by
 obtain⟨j,hs,_⟩:=h; exact wanted_some hg hb (hs.tmps g)
theorem Live.opG {ops:Array Oper}{rest:List Oper}{o:Oper}{Q:Exit->Act->World->Prop}{fx:Fx}{v:V}{ls':List (List D)}{h':Heap}{g:Nat}{b:Bool}(hJ:Stable Jw) (h:Live C Jw W0 n ts a w) (hs:Cert P o ts [] hNone fx v ls' h') (hf:(fx.wl||fx.wh)=false) (hg:guardOf ops o=some (g,b)) (hb:get ts g=.a (.d (.bool b))) (hd:okDst o.dst n=true)
  (hr:∀a' w',Live C Jw W0 n (putTs o.dst v ts) a' w'->wpListIn Fence.wide m P ops Q rest a' w'):wpListIn Fence.wide m P ops Q (o::rest) a w:=by
 refine wpListIn_step fun K hK=>?_;rw [Live.want hg hb h,if_pos (by simp)];exact Live.core hJ hs hf hd h K fun a' w' hl=>hK _ _ (hr a' w' hl)
theorem Live.skipG {ops:Array Oper}{rest:List Oper}{o:Oper}{Q:Exit->Act->World->Prop}{g:Nat}{b:Bool}(h:Live C Jw W0 n ts a w) (hg:guardOf ops o=some (g,!b)) (hb:get ts g=.a (.d (.bool b))) (hd:okDst o.dst n=true)
  (hr:∀a' w',Live C Jw W0 n (putTs o.dst .any ts) a' w'->wpListIn Fence.wide m P ops Q rest a' w'):wpListIn Fence.wide m P ops Q (o::rest) a w:=by
 refine wpListIn_step fun K hK=>?_;rw [Live.want hg hb h,if_neg (by cases b<;>simp)];obtain⟨j,hs,r⟩:=h;exact⟨fun _ _=>trivial,hK _ _ (hr _ _ ⟨j,hs.put (Le.refl _ _) (Ext.refl _) hd (v:=.any) trivial hs.hl,r⟩)⟩
theorem Live.putAny {d:Nat}{cv:Value}(hd:okDst (some d) n=true) (v:V) (hv:∀j w,VRel j w [] v cv) (h:Live C Jw W0 n ts a w):Live C Jw W0 n ((d,v)::ts) (a.put (some d) cv) w:=by
 obtain⟨j,hs,r⟩:=h;exact⟨j,hs.put (Le.refl _ _) (Ext.refl _) (dst:=some d) hd (v:=v) (hv _ _) hs.hl,r⟩
theorem Live.round {Jw':World->Prop}{w':World}(h:Live C Jw W0 n ts a w) (hk:Keep C w w') (hj:Jw' w'):Live C Jw' W0 n ts a w':=by
 obtain⟨j,hs,hC,hk0,_⟩:=h;have hC0:∀b∈C,j.F b=0:=fun b hb=>(hC b hb).2;have hd:∀b o c,o<j.F b->w.cell? ⟨b,o,none⟩=some c->w'.cell? ⟨b,o,none⟩=some c:=fun b o c ho hc=>hk.data hC0 ho hc;exact⟨j,⟨hs.defers,hs.size,fun k=>(hs.tmps k).kept hd,hnone_rel fun b hb=>hs.hl.1.fresh b (Nat.le_trans hk.size hb)⟩,fun b hb=>⟨Nat.lt_of_lt_of_le (hC b hb).1 hk.size,(hC b hb).2⟩,hk0.trans hk,hj⟩
def Pure (ts:Ts):Prop:=∀j j' w w' (k:Nat) v,VRel j w [] (get ts k) v->VRel j' w' [] (get ts k) v
theorem Live.dead {Jx:World->Prop}{w':World}{ts':Ts}(h:Live C Jw W0 n ts a w) (hw:∀k,get ts' k=.any\/get ts' k=get ts k) (hp:Pure ts') (hj:Jx w'):Live [] Jx w' n ts' a w':=by
 obtain⟨j,hs,_⟩:=Live.weaken h hw;exact⟨⟨fun _=>0,fun _=>0,fun _=>none,0⟩,⟨hs.defers,hs.size,fun k=>hp _ _ _ _ _ _ (hs.tmps k),hnone_rel fun _ _=>rfl⟩,fun b hb=>(by cases hb),.refl _ _,hj⟩
theorem run_callYield {l:Nat}{f:Operand}{args:Array Operand}{ats:Array TypeId}{dst:Option Tmp}{ty:TypeId}{pos:String}{aft:Array Edge}{g:Option (Nat×Bool)}(hf:a.eval f=.func (.yield l) #[] #[]) :
  (execOp a.eval ⟨dst,.call { callee:=.value f,args,argTypes:=ats },ty,pos,aft,g⟩).run P w=(Instr.yield l (args.map a.eval)).run P w:=by
 simp [execOp,resolve,hf,Deferred.ofValue,invoke]
theorem run_callFn {f:FuncId}{args:Array Operand}{ats:Array TypeId}{dst:Option Tmp}{ty:TypeId}{pos:String}{aft:Array Edge}{g:Option (Nat×Bool)}(hc:∀(args:Array Value) (w:World),(callFunc f args).run P w=.ok (.enter f args) w) :
  (execOp a.eval ⟨dst,.call { callee:=.value (.func f),args,argTypes:=ats },ty,pos,aft,g⟩).run P w=.ok (.enter f (args.map a.eval)) w:=by
 simp [execOp,resolve,Act.eval,Deferred.ofValue,invoke,hc]
theorem Live.val {t:Nat}{x:A}(h:Live C Jw W0 n ts a w) (hb:get ts t=.a x):∃j,HRel j w hNone/\(∀b∈C,b<w.heap.size/\j.F b=0)/\ARel j w x (a.eval (.tmp t)):=by
 obtain⟨j,hs,hC,_⟩:=h;have h1:=hs.tmps t;rw [hb] at h1;exact⟨j,hs.hl.1,hC,h1⟩
theorem Live.inv (h:Live C Jw W0 n ts a w):Jw w:=let ⟨_,_,_,_,hj⟩:=h; hj
theorem pure_bool (t:Nat) (b:Bool):Pure [(t,.a (.d (.bool b)))]:=fun j j' w w' k v h=>by
 by_cases e:t=k
 ·subst e;rw [get_same] at h ⊢;have h':DRel j w (.bool b) v:=h;cases h'; exact DRel.bool _
 ·rw [get_other _ _ e]; trivial
theorem pure_nil:Pure []:=fun _ _ _ _ _ _ _=>trivial
theorem Live.retBool {T:List TI}(hTab:TabOk P T){fn:Func}{t:Nat}{b:Bool}(h:Live C Jw W0 n ts a w) (hb:get ts t=.a (.d (.bool b))) (hr:fn.results.toList=[.tmp t]):a.defers=[]/\∃v,(results fn a.tmps).run P w=.ok v w/\v=.bool b:=by
 obtain⟨j,hs,_⟩:=h;obtain⟨v,h1,h2⟩:=results_run (P:=P) hTab hs hr (xs:=[.d (.bool b)]) (by simp [resAs,resA,hb]);refine⟨hs.defers,v,h1, ?_⟩;have h2':DRel j w (.bool b) v:=h2;cases h2'; rfl
end
theorem addC_nat (i n:Nat) (h:i<n) (hn:n<=maxN):addC ((i:Nat):Int) 1=some (((i+1:Nat)):Int):=by
 unfold addC; unfold maxN at hn; rw [if_pos (by omega)]; simp
end Go.Ab

/-
 The rounds of a loop over a function: operations in a round,what a round may have turned; a function that returns behind such a loop. No program text.
-/
namespace Go.Ab
open Go Go.RowKit
variable {lou:Lou}
section
variable {P:Program}{ops:Array Oper}{rest:List Oper}{o:Oper}{Q:Exit->Act->World->Prop}{a:Act}{W W':World}{F:Fence}{m:Nat}{v:Value}
theorem roundV (hF:∀f,F.fn f) (hg:o.guard=none) (hd:∀c,o.op≠.defer c) (hr:(execOp a.eval o).run P W=.ok (.value v) W') (h:wpListIn F m P ops Q rest (a.put o.dst v) W'):wpListIn F m P ops Q (o::rest) a W :=
 wpListIn_plain hg fun K hK=>⟨fun f _=>hF f,by rw [Oper.semAt_eq _ _ _ hd,hr]; exact hK _ _ h⟩
theorem roundS (hF:∀f,F.fn f) (hg:o.guard=none) (hd:∀c,o.op≠.defer c) (hr:(execOp a.eval o).run P W=.ok .skip W') (h:wpListIn F m P ops Q rest (a.put o.dst undef) W'):wpListIn F m P ops Q (o::rest) a W :=
 wpListIn_plain hg fun K hK=>⟨fun f _=>hF f,by rw [Oper.semAt_eq _ _ _ hd,hr]; exact hK _ _ h⟩
theorem roundG (hF:∀f,F.fn f) (hw:Region.wanted o (yielded ops a.tmps)=true) (hd:∀c,o.op≠.defer c) (hr:(execOp a.eval o).run P W=.ok (.value v) W') (h:wpListIn F m P ops Q rest (a.put o.dst v) W'):wpListIn F m P ops Q (o::rest) a W :=
 wpListIn_step fun K hK=>by rw [if_pos hw]; exact⟨fun f _=>hF f,by rw [Oper.semAt_eq _ _ _ hd,hr]; exact hK _ _ h⟩
theorem roundN (hF:∀f,F.fn f) (hw:Region.wanted o (yielded ops a.tmps)=false) (h:wpListIn F m P ops Q rest (a.put o.dst undef) W):wpListIn F m P ops Q (o::rest) a W :=
 wpListIn_step fun K hK=>by rw [hw]; exact⟨fun f _=>hF f,hK _ _ h⟩
theorem wanted_of {g d:Nat}{want b:Bool}(hg:o.guard=some (g,want)) (hd:(ops[g]?).bind (·.dst)=some d) (hs:a.tmps[d]?=some (.bool b)):Region.wanted o (yielded ops a.tmps)=(b==want):=by
 simp only [Region.wanted,hg,yielded,hd,Option.bind_some,hs];cases b<;>cases want<;>rfl
theorem put_at {d k:Nat}(v:Value) (h:d<a.tmps.size):(a.put (some d) v).tmps[k]?=if d=k then some v else a.tmps[k]?:=by
 simp only [Act.put,Array.getElem?_setIfInBounds];by_cases e:d=k
 ·rw [if_pos e,if_pos e,if_pos (e▸h)]
 ·rw [if_neg e,if_neg e]
theorem put_ne {d k:Nat}{v x:Value}(h:a.tmps[k]?=some x) (hd:Nat.beq d k=false):(a.put (some d) v).tmps[k]?=some x:=by
 simp only [Act.put,Array.getElem?_setIfInBounds];rw [if_neg (Nat.ne_of_beq_eq_false hd)]; exact h
theorem put_eq {d:Nat}{v:Value}(h:d<a.tmps.size):(a.put (some d) v).tmps[d]?=some v:=by rw [put_at _ h,if_pos rfl]
theorem eval_of {k:Nat}{v:Value}(h:a.tmps[k]?=some v):a.eval (.tmp k)=v:=by
 show a.tmps.getD k undef=v;rw [Array.getD_eq_getD_getElem?,h]; rfl
section
variable {dst:Option Tmp}{ty:TypeId}{pos:String}{aft:Array Edge}{g:Option (Nat×Bool)}
theorem run_load1 {t:TypeId}{ti:TI}{x:Operand}{b:Nat}{te:TypeId}{d:D}(hT:mkTI P t=some ti) (hk:ti.k.isO=false) (hl:loadA ti [d] 0=some (.d d)) (hx:a.eval x=.pointer (some ⟨b,0,none⟩)) (hb:W.heap[b]?=some (.cells #[v] te (0,0))) (hv:∀v',DRel ⟨fun _=>0,fun _=>0,fun _=>none,0⟩ W d v'↔v'=v) :
  (execOp a.eval ⟨dst,.load t x,ty,pos,aft,g⟩).run P W=.ok (.value v) W:=by
 have hc:Cells ⟨fun _=>0,fun _=>0,fun _=>none,0⟩ W b 0 [d]:=by
  intro i y hi;cases i with
  | zero =>
   simp only [List.getElem?_cons_zero,Option.some.injEq] at hi;subst hi;exact⟨v,by rw [cell_of_row W b _ #[v] te (0,0) hb]; simp,(hv v).2 rfl⟩
  | succ i=>simp at hi
 obtain⟨cv,h3,h4⟩:=loadVar_rel (P:=P) hc hT (K.ne_other hk) hl;have h4':cv=v:=(hv cv).1 h4;subst h4';simp [execOp,Instr.loadAt,Instr.sureAddr,hx,h3]
theorem run_bin {op:BinOp}{t u:TypeId}{x y:Operand}{k:IntKind}{m n:Int}{r:D}(hx:a.eval x=.int k m) (hy:a.eval y=.int k n) (hr:intV op k m n=some r) (hv:∀v',DRel ⟨fun _=>0,fun _=>0,fun _=>none,0⟩ W r v'->v'=v) :
  (execOp a.eval ⟨dst,.binOp op t x y u,ty,pos,aft,g⟩).run P W=.ok (.value v) W:=by
 obtain⟨cv,h3,h4⟩:=intV_run (P:=P) (t:=t) hr W;rw [<- hv cv (h4 _ _)];simp [execOp,hx,hy,eqGuard_int,h3]
theorem run_store1 {t:TypeId}{ti:TI}{x y:Operand}{b:Nat}{te:TypeId}{v0:Value}{d:D}(hT:mkTI P t=some ti) (hsz:ti.size=1) (hx:a.eval x=.pointer (some ⟨b,0,none⟩)) (hy:a.eval y=v) (hb:W.heap[b]?=some (.cells #[v0] te (0,0))) (hv:DRel ⟨fun _=>0,fun _=>0,fun _=>none,0⟩ W d v) :
  ∃W',(execOp a.eval ⟨none,.store t x y,ty,pos,aft,g⟩).run P W=.ok .skip W'/\Upd W W' b (.cells #[v] te (0,0)):=by
 have hv':ARel ⟨fun _=>0,fun _=>0,fun _=>none,0⟩ W (.d d) v:=hv;obtain⟨W',h3,h4⟩:=storeVar_upd (lou:=lou) (P:=P) (cs:=[v0]) (off:=0) hb hT hv' (by rw [hsz]; rfl) (by rw [hsz]; exact Nat.le_refl _);have hc:v.cells=#[v]:=by cases hv<;>rfl
 refine⟨W',by simp [execOp,Instr.storeAt,Instr.sureAddr,hx,hy,h3], ?_⟩;rw [hc] at h4;exact h4
structure UpdB (A B:World) (b:Nat) (o:Go.Obj):Prop where
 size:B.heap.size=A.heap.size
 here:B.heap[b]?=some o
 other:∀k,k≠b->B.heap[k]?=A.heap[k]?
 os:B.os=A.os
 tape:B.tape=A.tape
 output:B.output=A.output
theorem Upd.toB {A B:World}{b:Nat}{o:Go.Obj}(h:Upd A B b o):UpdB A B b o:=⟨h.size,h.here,h.other,h.os,h.tape,h.output.1⟩
theorem run_storeB {t:TypeId}{ti:TI}{x y:Operand}{b:Nat}{te:TypeId}{v0:Value}{d:D}(hT:mkTI P t=some ti) (hsz:ti.size=1) (hx:a.eval x=.pointer (some ⟨b,0,none⟩)) (hy:a.eval y=v) (hb:W.heap[b]?=some (.cells #[v0] te (0,0))) (hv:DRel ⟨fun _=>0,fun _=>0,fun _=>none,0⟩ W d v) :
  ∃W',(execOp a.eval ⟨none,.store t x y,ty,pos,aft,g⟩).run P W=.ok .skip W'/\UpdB W W' b (.cells #[v] te (0,0)):=by
 obtain⟨W',h1,h2⟩:=run_store1 (lou:=Lou.on) (ty:=ty) (pos:=pos) (aft:=aft) (g:=g) hT hsz hx hy hb hv;exact⟨W',h1,Upd.toB (lou:=Lou.on) h2⟩
theorem run_move {x:Operand}(hx:a.eval x=v):(execOp a.eval ⟨dst,.move x,ty,pos,aft,g⟩).run P W=.ok (.value v) W:=by simp [execOp,hx]
theorem run_assign {x:Operand}(hx:a.eval x=v):(execOp a.eval ⟨dst,.assign x,ty,pos,aft,g⟩).run P W=.ok (.value v) W:=by simp [execOp,hx]
theorem run_pickF {c x y:Operand}(hc:a.eval c=.bool false) (hx:a.eval y=v):(execOp a.eval ⟨dst,.pick c x y,ty,pos,aft,g⟩).run P W=.ok (.value v) W:=by simp_all [execOp,asBool]
theorem run_pick {c x y:Operand}{b:Bool}(hc:a.eval c=.bool b) (hx:(if b then a.eval x else a.eval y)=v):(execOp a.eval ⟨dst,.pick c x y,ty,pos,aft,g⟩).run P W=.ok (.value v) W:=by
 cases b<;>simp_all [execOp,asBool]
end
end
theorem round_incr {P:Program}{ops:Array Oper}{rest:List Oper}{Q:Exit->Act->World->Prop}{F:Fence}{m:Nat}(hF:∀f,F.fn f){tp tl ta b t:Nat}{ti:TI}{te:TypeId}{x:Int}{a:Act}{W:World}{ty1 ty2 ty3:TypeId}{p1 p2 p3:String}{f1 f2 f3:Array Edge}
  (hT:mkTI P t=some ti) (hO:ti.k.isO=false) (hz:ti.size=1) (hl:∀d,loadA ti [d] 0=some (.d d)) (h1:a.tmps[tp]?=some (.pointer (some ⟨b,0,none⟩))) (hne:Nat.beq tl tp=false/\Nat.beq ta tp=false) (htl:tl<a.tmps.size) (hta:ta<a.tmps.size)
  (hb:W.heap[b]?=some (.cells #[.int .i64 x] te (0,0))) (hx : -9223372036854775808<=x+1/\x+1<=9223372036854775807)
  (hr:∀(a':Act) (W':World),(∀k,k≠tl->k≠ta->a'.tmps[k]?=a.tmps[k]?)->a'.tmps.size=a.tmps.size->UpdB W W' b (.cells #[.int .i64 (x+1)] te (0,0))->wpListIn F m P ops Q rest a' W') :
  wpListIn F m P ops Q (⟨some tl,.load t (.tmp tp),ty1,p1,f1,none⟩::⟨some ta,.binOp .add t (.tmp tl) (.const (.int .i64 1)) t,ty2,p2,f2,none⟩::⟨none,.store t (.tmp tp) (.tmp ta),ty3,p3,f3,none⟩::rest) a W:=by
 have n1:tl≠tp:=Nat.ne_of_beq_eq_false hne.1;have n2:ta≠tp:=Nat.ne_of_beq_eq_false hne.2;refine roundV hF rfl (by simp) (run_load1 hT hO (hl _) (eval_of h1) hb (d:=.int .i64 x) (fun v'=>⟨fun h=>(by cases h; rfl),fun h=>(by subst h; exact .int _ _)⟩)) ?_;refine roundV hF rfl (by simp) (run_bin (m:=x) (n:=1) (r:=.int .i64 (x+1)) (v:=.int .i64 (x+1)) (k:=.i64) (eval_of (by rw [put_at _ htl,if_pos rfl])) rfl (by simp only [intV,Option.some.injEq,D.int.injEq,true_and]; simp only [IntKind.wrap,IntKind.bits,IntKind.signed]; simp; omega) (fun v' h=>by cases h; rfl)) ?_
 obtain⟨W',hr1,hu1⟩:=run_storeB (P:=P) (t:=t) (a:=(a.put (some tl) (.int .i64 x)).put (some ta) (.int .i64 (x+1))) (x:=.tmp tp) (y:=.tmp ta) (v:=.int .i64 (x+1)) (ty:=ty3) (pos:=p3) (aft:=f3) (g:=none) hT hz
  (eval_of (by rw [put_at _ (by rw [put_size]; exact hta),if_neg n2,put_at _ htl,if_neg n1]; exact h1)) (eval_of (by rw [put_at _ (by rw [put_size]; exact hta),if_pos rfl])) hb (.int _ _)
 refine roundS hF rfl (by simp) hr1 (hr _ _ (fun k hk1 hk2=>?_) (by rw [put_size,put_size,put_size]) hu1);show ((a.put (some tl) _).put (some ta) _).tmps[k]?=_;rw [put_at _ (by rw [put_size]; exact hta),if_neg (Ne.symm hk2),put_at _ htl,if_neg (Ne.symm hk1)]
theorem round_test {P:Program}{ops:Array Oper}{rest:List Oper}{Q:Exit->Act->World->Prop}{F:Fence}{m:Nat}(hF:∀f,F.fn f){tp d1 d2 d3 d4 d5 d6 ty_ b t gi:Nat}{ti:TI}{te:TypeId}{x y p q:Int}{a:Act}{W:World}{ty1 ty2 ty3 ty4 ty5 ty6:TypeId}{p1 p2 p3 p4 p5 p6:String}{f1 f2 f3 f4 f5 f6:Array Edge}
  (hT:mkTI P t=some ti) (hO:ti.k.isO=false) (hl:∀d,loadA ti [d] 0=some (.d d)) (h1:a.tmps[tp]?=some (.pointer (some ⟨b,0,none⟩))) (h2:a.tmps[ty_]?=some (.int .i64 y)) (hb:W.heap[b]?=some (.cells #[.int .i64 x] te (0,0)))
  (hg:(ops[gi]?).bind (·.dst)=some d3) (hd:d1<a.tmps.size/\d2<a.tmps.size/\d3<a.tmps.size/\d4<a.tmps.size/\d5<a.tmps.size/\d6<a.tmps.size)
  (hne:Nat.beq d1 ty_=false/\Nat.beq d2 ty_=false/\Nat.beq d3 ty_=false/\Nat.beq d4 d3=false/\Nat.beq d5 d3=false)
  (hr:∀(a':Act),(∀k,k≠d1->k≠d2->k≠d3->k≠d4->k≠d5->k≠d6->a'.tmps[k]?=a.tmps[k]?)->a'.tmps[d6]?=some (.bool (decide (p<x)||decide (q<y)))->wpListIn F m P ops Q rest a' W) :
  wpListIn F m P ops Q (⟨some d1,.load t (.tmp tp),ty1,p1,f1,none⟩::⟨some d2,.binOp .gtr t (.tmp d1) (.const (.int .i64 p)) t,ty2,p2,f2,none⟩::⟨some d3,.move (.tmp d2),ty3,p3,f3,none⟩ ::
   ⟨some d4,.move (.tmp ty_),ty4,p4,f4,some (gi,false)⟩::⟨some d5,.binOp .gtr t (.tmp d4) (.const (.int .i64 q)) t,ty5,p5,f5,some (gi,false)⟩::⟨some d6,.pick (.tmp d3) (.const (.bool true)) (.tmp d5),ty6,p6,f6,none⟩::rest) a W:=by
 obtain⟨z1,z2,z3,z4,z5,z6⟩:=hd;obtain⟨n1,n2,n3,n4,n5⟩:=hne;have oth:∀(A:Act) (d k:Nat) (v:Value),k≠d->(A.put (some d) v).tmps[k]?=A.tmps[k]?:=fun A d k v h=>by simp only [Act.put,Array.getElem?_setIfInBounds]; rw [if_neg (Ne.symm h)]
 refine roundV hF rfl (by simp) (run_load1 hT hO (hl _) (eval_of h1) hb (d:=.int .i64 x) (fun v'=>⟨fun h=>(by cases h; rfl),fun h=>(by subst h; exact .int _ _)⟩)) ?_;refine roundV hF rfl (by simp) (run_bin (m:=x) (n:=p) (k:=.i64) (r:=.bool (decide (p<x))) (v:=.bool (decide (p<x))) (eval_of (put_eq z1)) rfl rfl (fun v' h=>by cases h; rfl)) ?_;refine roundV hF rfl (by simp) (run_move (v:=.bool (decide (p<x))) (eval_of (put_eq (by rw [put_size]; exact z2)))) ?_
 have g3:=put_eq (a:=(a.put (some d1) (.int .i64 x)).put (some d2) (.bool (decide (p<x)))) (d:=d3) (v:=.bool (decide (p<x))) (by rw [put_size,put_size]; exact z3);cases hc:decide (p<x) with
 | true =>
  rw [hc] at g3;refine roundN hF ((wanted_of rfl hg g3).trans rfl) ?_;refine roundN hF ((wanted_of rfl hg (put_ne g3 n4)).trans rfl) ?_;refine roundV hF rfl (by simp) (run_pick (b:=true) (v:=.bool true) (eval_of (put_ne (put_ne g3 n4) n5)) rfl) ?_;refine hr _ (fun k k1 k2 k3 k4 k5 k6=>?_) (by rw [put_eq (by simp only [put_size]; exact z6),hc]; simp);rw [oth _ _ _ _ k6,oth _ _ _ _ k5,oth _ _ _ _ k4,oth _ _ _ _ k3,oth _ _ _ _ k2,oth _ _ _ _ k1]
 | false =>
  rw [hc] at g3;refine roundG hF ((wanted_of rfl hg g3).trans rfl) (by simp) (run_move (v:=.int .i64 y) (eval_of (put_ne (put_ne (put_ne h2 n1) n2) n3))) ?_;refine roundG hF ((wanted_of rfl hg (put_ne g3 n4)).trans rfl) (by simp) (run_bin (m:=y) (n:=q) (k:=.i64) (r:=.bool (decide (q<y))) (v:=.bool (decide (q<y))) (eval_of (put_eq (by simp only [put_size]; exact z4))) rfl rfl (fun v' h=>by cases h; rfl)) ?_
  refine roundV hF rfl (by simp) (run_pickF (v:=.bool (decide (q<y))) (eval_of (put_ne (put_ne g3 n4) n5)) (eval_of (put_eq (by simp only [put_size]; exact z5)))) ?_;refine hr _ (fun k k1 k2 k3 k4 k5 k6=>?_) (by rw [put_eq (by simp only [put_size]; exact z6),hc]; simp);rw [oth _ _ _ _ k6,oth _ _ _ _ k5,oth _ _ _ _ k4,oth _ _ _ _ k3,oth _ _ _ _ k2,oth _ _ _ _ k1]
structure Upto (bs:List Nat) (w W:World):Prop where
 size:w.heap.size<=W.heap.size
 os:W.os=w.os
 tape:W.tape=w.tape
 output:W.output=w.output
 other:∀k,k<w.heap.size->k∉bs->W.heap[k]?=w.heap[k]?
theorem Upto.refl (bs:List Nat) (w:World):Upto bs w w:=⟨Nat.le_refl _,rfl,rfl,rfl,fun _ _ _=>rfl⟩
theorem Upto.grown {bs:List Nat}{w A B:World}{row:Option Nat}(h:Upto bs w A) (hg:A.grownBy B row) (hr:∀r,row=some r->w.heap.size<=r):Upto bs w B :=
 ⟨Nat.le_trans h.size hg.size,hg.os.trans h.os,hg.tape.trans h.tape,hg.output.trans h.output,fun k hk hb=>(hg.block k (Nat.lt_of_lt_of_le hk h.size) (fun e=>by have:=hr k e.symm; omega)).trans (h.other k hk hb)⟩
theorem Upto.upd {bs:List Nat}{w A B:World}{b:Nat}{o:Go.Obj}(h:Upto bs w A) (hu:UpdB A B b o) (hb:b∈bs):Upto bs w B :=
 ⟨by rw [hu.size]; exact h.size,hu.os.trans h.os,hu.tape.trans h.tape,hu.output.trans h.output,fun k hk hn=>(hu.other k (fun e=>hn (e▸hb))).trans (h.other k hk hn)⟩
theorem UpdB.keepsOthers {A B:World}{b:Nat}{o o0:Go.Obj}(hu:UpdB A B b o) (h0:A.heap[b]?=some o0) (hc:o0.isCells=true):KeepsOthers A B:=by
 exact KeepsOthers.of_grownBy (row:=some b) ⟨hu.os,hu.tape,hu.output,by rw [hu.size]; exact Nat.le_refl _,fun k _ hk=>hu.other k (fun e=>hk (by rw [e]))⟩ fun j o' e ho=>by cases e; rw [h0] at ho; cases ho; exact hc
theorem UpdB.keep {C:List Nat}{A B:World}{b:Nat}{o:Go.Obj}(hu:UpdB A B b o) (hb:b∈C):Keep C A B :=
 ⟨by rw [hu.size]; exact Nat.le_refl _,fun k ob hk _ hn=>(hu.other k (fun e=>hn (e▸hb))).trans hk⟩
theorem Upto.below {bs:List Nat}{w0 w W:World}(h:Upto bs w W) (hb:Below w0.heap.size w0 w) (hn:∀b∈bs,w0.heap.size<=b):Below w0.heap.size w0 W :=
 ⟨h.os.trans hb.os,h.tape.trans hb.tape,h.output.trans hb.output,Nat.le_trans hb.size h.size,fun k hk=>(h.other k (Nat.lt_of_lt_of_le hk hb.size) (fun e=>by have:=hn k e; omega)).trans (hb.block k hk)⟩
theorem Evolve.below {j j':J}{w w':World}{O:Nat->Prop}{O':Nat->Prop}(h:Evolve j w O j' w' O') (hO:∀b,¬O b):Below w.heap.size w w' :=
 ⟨h.os,h.tape,h.output.1,h.size,fun k hk=>(h.frame k hk (hO k)).1⟩
theorem Evolve.fresh {j j':J}{w w':World}{O:Nat->Prop}{O':Nat->Prop}(h:Evolve j w O j' w' O') (hO:∀b,¬O b){b:Nat}(hb:O' b):w.heap.size<=b:=by
 rcases Nat.lt_or_ge b w.heap.size with h1|h1
 ·exact absurd (h.own b h1 hb) (hO b)
 ·exact h1
theorem AWp.seqW {P:Program}{x y:Code}{σ:St}{j:J}{w:World}{jl:List Nat}{a:Act}{m:Nat}{Q:Exit->Act->World->Prop}(hs:SRel j w jl σ a)
  (hx:∀K:St->Prop,(∀σ',(∀j' w' jl' a',SRel j' w' jl' σ' a'->Evolve j w (Own j σ.h jl) j' w' (Own j' σ'.h jl')->y.wpIn Fence.wide m P Q a' w')->K σ')->AWp P x (fun e σ'=>e=.normal/\K σ') σ):(Code.seq x y).wpIn Fence.wide m P Q a w:=by
 refine wpIn_seq (wpIn_wide.2 (wp_mono (hx (fun σ'=>∀j' w' jl' a',SRel j' w' jl' σ' a'->Evolve j w (Own j σ.h jl) j' w' (Own j' σ'.h jl')->y.wpIn Fence.wide m P Q a' w') (fun _ h=>h) j w jl a hs) ?_));rintro e a' w' ⟨σ',j',jl',⟨he,h1⟩,hs',hev⟩;subst he;exact h1 _ _ _ _ hs' hev
theorem DRel.untok {j:J}{w:World}{k:Nat}{tok:Option Nat}{nl:Bool}{rows:List (List D)}{v:Value}(h:DRel j w (.slice k tok nl rows) v):DRel j w (.slice k none nl rows) v:=by
 cases h with
 | snil=>exact .snil _ _ (fun t h=>by cases h)
 | slice _ _ _ a cap cv hk hn hc hat hr ht=>exact .slice _ _ _ a cap cv hk hn hc hat hr (fun t h=>by cases h)
theorem SRel.loc {j:J}{w:World}{jl:List Nat}{n:Nat}{ts:Ts}{ls:List (List D)}{h:Heap}{a:Act}(hs:SRel j w jl ⟨n,ts,ls,h⟩ a){t i:Nat}{xs:List D}(ht:get ts t=.lptr i 0) (hl:ls[i]?=some xs) :
  ∃b cs te,jl[i]?=some b/\a.tmps[t]?=some (.pointer (some ⟨b,0,none⟩))/\w.heap[b]?=some (.cells (List.toArray cs) te (0,0))/\All2 (DRel j w) xs cs/\j.F b=0:=by
 have h1:VRel j w jl (get ts t) (a.tmps.getD t undef):=hs.tmps t;rw [ht] at h1;obtain⟨b,hb,e⟩:=h1;obtain⟨b',hb',cs,te,h2,h3,h4⟩:=hs.hl.2.each.get hl;rw [hb] at hb'; simp only [Option.some.injEq] at hb'; subst hb';refine⟨b,cs,te,hb, ?_,h2,h3,h4⟩;rw [Array.getD_eq_getD_getElem?] at e;cases h5:a.tmps[t]? with
 | none=>rw [h5] at e; simp [undef] at e
 | some x=>rw [h5] at e; simp at e; rw [e]
theorem anyDepth {m m':Nat}{P:Program}{l:Nat}{args:Array Value}{W:World}{R:Ending->World->Prop}(h:YieldAt Fence.wide m P l args W R):YieldAt Fence.wide m' P l args W R:=by
 obtain⟨fn,tmps,assign,body,hy,hR⟩:=h;exact⟨fn,tmps,assign,body,hy,hR.1,fun c cs _=>hR.2 c cs (room_wide _)⟩
section
variable {amb:Amb}
theorem AWp.seqWA {P:Program}{x y:Code}{σ:St}{j:J}{w:World}{jl:List Nat}{a:Act}{m:Nat}{Q:Exit->Act->World->Prop}(hs:SRel j w jl σ a)
  (hx:∀K:St->Prop,(∀σ',(∀j' w' jl' a',SRel j' w' jl' σ' a'->Evolve j w (Own j σ.h jl) j' w' (Own j' σ'.h jl')->y.wpIn Fence.wide m P Q a' w')->K σ')->AWp P x (fun e σ'=>e=.normal/\K σ') σ):(Code.seq x y).wpIn Fence.wide m P Q a w:=by
 refine wpIn_seq (wpIn_wide.2 (wp_mono (hx (fun σ'=>∀j' w' jl' a',SRel j' w' jl' σ' a'->Evolve j w (Own j σ.h jl) j' w' (Own j' σ'.h jl')->y.wpIn Fence.wide m P Q a' w') (fun _ h=>h) j w jl a hs) ?_));rintro e a' w' ⟨σ',j',jl',⟨he,h1⟩,hs',hev⟩;subst he;exact h1 _ _ _ _ hs' hev
def Fin [Lou] (j:J) (w:World) (h:Heap) (Post:V->Heap->Prop):Ending->World->Prop:=fun e w'=>∃r cv j' h',e=.returned cv/\Post r h'/\VRel j' w' [] r cv/\HRel j' w' h'/\Evolve j w (Own j h []) j' w' (Own j' h' [])
theorem leaves_nil {P:Program}{T:List TI}(hTab:TabOk P T){fn:Func}{n:Nat}{j j':J}{w w':World}{jl:List Nat}{h:Heap}{σ:St}{a:Act}{rs:List ResultVar}{xs:List A}{Post:V->Heap->Prop}(hs:SRel j' w' jl σ a) (hrs:fn.results.toList=rs) (hres:resAs T σ rs=some xs)
  (hev:Evolve j w (Own j h []) j' w' (Own j' σ.h jl)) (hp:Post (resV xs) σ.h):LeavesInM Fence.wide n P fn a.tmps (Fin j w h Post) [] .returning w':=by
 obtain⟨v,hv,hvr⟩:=results_run (P:=P) hTab hs hrs hres;obtain⟨hl1,hev1⟩:=hs.hl.trim 0;exact⟨v,hv,resV xs,v,j',σ.h,rfl,hp,hvr,hl1.1,hev.trans hev1⟩
theorem put_le {j:J}{w:World}{D:Nat}(hD:w.heap[D]?=some (.deferred (some []))):Le j w j (w.putObj D (.deferred none)):=by
 refine⟨Nat.le_refl _,fun _ _=>rfl,fun _=>Nat.le_refl _,fun b o _=>?_,fun _ _=>.inl rfl⟩;by_cases e:b=D
 ·subst e;have h1:(w.putObj b (.deferred none)).heap[b]?=some (.deferred none):=World.putObj_heap_same (lt_of_heap hD);unfold World.cell?;simp only [hD,h1]
 ·exact World.cell?_of_block (World.putObj_heap_other e)
theorem leaves_mark {P:Program}{T:List TI}(hTab:TabOk P T){fn:Func}{n:Nat}{j j':J}{w w':World}{jl:List Nat}{h:Heap}{σ:St}{a:Act}{rs:List ResultVar}{xs:List A}{Post:V->Heap->Prop}{D:Nat}(hs:SRel j' w' jl σ a) (hrs:fn.results.toList=rs) (hres:resAs T σ rs=some xs)
  (hev:Evolve j w (Own j h []) j' w' (Own j' σ.h jl)) (hp:Post (resV xs) σ.h) (hD:w'.heap[D]?=some (.deferred (some []))) (hw:w.heap.size<=D) (hn:¬Own j' σ.h jl D) :
  LeavesInM Fence.wide n P fn a.tmps (Fin j w h Post) [{ target:=.collected D,args:=#[] }] .returning w':=by
 refine⟨by simp,.inl ⟨_,_,rfl,run_takeDeferred hD, ?_⟩⟩;have hle:Le j' w' j' (w'.putObj D (.deferred none)):=put_le hD;have hk:=hs.hl.keep hle (fun b hb=>⟨World.putObj_heap_other (fun e=>hn (e▸hb)),rfl⟩) (fun _ _ _=>rfl) (fun b hb=>hs.hl.1.fresh b (by simpa using hb));have hs2:SRel j' (w'.putObj D (.deferred none)) jl σ a:=⟨hs.defers,hs.size,fun k=>(hs.tmps k).mono hle (Ext.refl _),hk.1⟩;refine leaves_nil hTab hs2 hrs hres ⟨hev.toLe.trans hle,by simpa using hev.size,fun b hb ho=>?_,hev.own,hev.os,hev.tape,hev.output⟩ hp
 rw [World.putObj_heap_other (by omega:b≠D)];exact hev.frame b hb ho
end
theorem Upto.le {bs:List Nat}{j:J}{w W:World}(h:Upto bs w W) (hF:∀b∈bs,j.F b=0) (hfr:∀b,w.heap.size<=b->j.F b=0):Le j w j W:=by
 refine⟨Nat.le_refl _,fun _ _=>rfl,fun _=>Nat.le_refl _,fun b o ho=>?_,fun _ _=>.inl rfl⟩;refine World.cell?_of_block (h.other b ?_ ?_)
 ·rcases Nat.lt_or_ge b w.heap.size with h1|h1
  ·exact h1
  ·rw [hfr b h1] at ho; omega
 ·intro hb; rw [hF b hb] at ho; omega
theorem Upto.evolve [hq:IsLoud lou] {bs:List Nat}{j:J}{w W:World}{O O':Nat->Prop}(h:Upto bs w W) (hF:∀b∈bs,j.F b=0) (hfr:∀b,w.heap.size<=b->j.F b=0) (hO:∀b∈bs,O b) (hs:∀b,O' b->O b):Evolve j w O j W O' :=
 { toLe:=h.le hF hfr,size:=h.size,frame:=fun b hb ho=>⟨h.other b hb (fun e=>ho (hO b e)),rfl⟩,own:=fun b _ ho=>hs b ho,os:=h.os,tape:=h.tape,output:=⟨h.output,.inr hq.is⟩ }
theorem Upto.hl {bs:List Nat}{j:J}{w W:World}{jl:List Nat}{ls:List (List D)}{h:Heap}(hu:Upto bs w W) (hF:∀b∈bs,j.F b=0) (hl:HL j w jl ls h) (hn:∀b∈bs,¬Own j h jl b):HL j W jl ls h :=
 (hl.keep (hu.le hF hl.1.fresh) (fun b hb=>⟨hu.other b (hb.lt hl) (fun e=>hn b e hb),rfl⟩) (fun _ _ _=>rfl) (fun b hb=>hl.1.fresh b (Nat.le_trans hu.size hb))).1
end Go.Ab

/-
 append to nil: an immutable slice. No program text.
-/
namespace Go.Ab
open Go Go.RowKit
variable {lou:Lou}
theorem Cert.appendNil {P:Program}{ts:Ts}{ls:List (List D)}{h:Heap}{dst:Option Tmp}{ty:TypeId}{pos:String}{aft:Array Edge}{g:Option (Nat×Bool)}{t u e:TypeId}{ti ui ei:TI}{s s':Nat}{k k':Nat}{rows':List (List D)}{z:A}(hT:mkTI P t=some ti) (hk:ti.k=.slice e) (hE:mkTI P e=some ei) (hU:mkTI P u=some ui) (huk:(∃e,ui.k=.slice e)\/ui.k=.str)
  (hz:ei.zero=some z) (hzs:(cellsA z).length=ei.size) (hsz:ei.size≠0)
  (hx:get ts s=.a (.d (.slice k none true []))) (hy:get ts s'=.full k' rows') (hne:Nat.beq s s'=false) (hkk':k'=ei.size)
  (hfit:rows'.length*ei.bytes<=maxN) (hlen:rows'.length<=maxN) :
  Cert P (mk dst (.call { callee:=.builtin .append,args:=#[.tmp s,.tmp s'],argTypes:=#[t,u] }) ty pos aft g) ts ls h {} (.a (.d (.slice ei.size none rows'.isEmpty rows'))) ls h:=by
 intro L H _ _ j w jl a hl ho K Q hK;obtain⟨h1,h2⟩:=hl.newTok ei.size;have hnone:=hl.1.next_none (Nat.le_refl _);have hc:=Cert.appendG (lou:=lou) (P:=P) (ts:=(s,.a (.d (.slice k (some j.next) true [])))::ts) (ls:=L) (h:=H.set j.next (some (.tok ei.size 0))) (dst:=dst) (ty:=ty) (pos:=pos) (aft:=aft) (g:=g) (x:=.tmp s) (y:=.tmp s') (tk:=j.next) (k:=k) (m:=0) (E:=none) (nl:=true) (rows:=[]) (rows':=rows') (z:=z) hT hk hE hU huk hz hzs hsz (get_same _ _ _)
  (fun j w jl cv hv=>by
   have hv1:VRel j w jl (get ts s') cv:=by
    have:get ((s,.a (.d (.slice k (some j.next) true [])))::ts) s'=get ts s':=get_other _ _ (Nat.ne_of_beq_eq_false hne);have hv0:VRel j w jl (get _ s') cv:=hv;rw [get_other _ _ (Nat.ne_of_beq_eq_false hne)] at hv0; exact hv0
   rw [hy] at hv1;refine Src.slice hv1.1 fun r hr=>?_;obtain⟨_,_,_,_,_,_,_,hh,_⟩:=rel_slice (jl:=jl) hv1.1;rw [<- hkk']; exact hh r hr) (.inr rfl) (Heap.set_same ..) rfl (by simpa using hfit) (by simpa using hlen)
 refine(Cert.step (lou:=lou) hc) j.newTok w jl a h1 (fun x hx'=>?_) K Q ?_
 ·have h3:=ho x hx';cases x with
  | tmp q =>
   by_cases e:s=q
   ·subst e;have h4:VRel j w jl (get ts s) (a.eval (.tmp s)):=h3;rw [hx] at h4;have h5:DRel j w (.slice k none true []) (a.eval (.tmp s)):=h4;show VRel _ _ _ (get _ s) _;rw [get_same];generalize a.eval (.tmp s)=cv at h5;cases h5;exact DRel.snil _ _ (fun t ht=>by cases ht; exact Nat.lt_succ_self _)
   ·show VRel _ _ _ (get _ q) _;rw [get_other _ _ e]; exact VRel.mono h2.toLe (Ext.refl _) h3
  | const v=>exact VRel.mono h2.toLe (Ext.refl _) h3
  | global q=>exact VRel.mono h2.toLe (Ext.refl _) h3
  | func f=>exact VRel.mono h2.toLe (Ext.refl _) h3
 ·rintro v ls' h' cv j' w' jl' ⟨rfl,rfl,rfl⟩ hv hl' hx' hev;have hsub:∀id o,H id=some o->((H.set j.next (some (.tok ei.size 0))).set j.next (some (.tok ei.size (0+rows'.length)))) id=some o:=fun id o ho'=>by
   by_cases e:id=j.next
   ·rw [e,hnone] at ho'; cases ho'
   ·simp only [Heap.set,if_neg e]; exact ho'
  obtain⟨h6,h7⟩:=hl'.forget hsub;have hv':DRel j' w' (.slice ei.size (some j.next) (true&&rows'.isEmpty) ([]++rows')) cv:=hv;exact hK _ _ _ _ j' w' jl' ⟨rfl,rfl,rfl⟩ (show DRel j' w' (.slice ei.size none rows'.isEmpty rows') cv by simpa using hv'.untok) h6 hx' ((h2.trans hev).trans h7)
theorem All2.reSet {α β:Type}{R:α->β->Prop}{l:List α}{m:List β}(h:All2 R l m) (i:Nat){x y:α}(hx:l[i]?=some x) (hr:∀b,R x b->R y b):All2 R (l.set i y) m:=by
 refine All2.of_get (by rw [List.length_set,h.length]) fun k a b ha hb=>?_;rw [List.getElem?_set] at ha
 split at ha
 ·rename_i e
  subst e
  split at ha
  ·obtain rfl:=Option.some.inj ha;obtain⟨b',hb',hr'⟩:=h.get hx;rw [hb] at hb';obtain rfl:=Option.some.inj hb';exact hr _ hr'
  ·cases ha
 ·obtain⟨b',hb',hr'⟩:=h.get ha;rw [hb] at hb';obtain rfl:=Option.some.inj hb';exact hr'
end Go.Ab

/-
 A state in which a local's cells are read in another way is weaker. No program text.
-/
namespace Go.Ab
open Go Go.RowKit
variable {lou:Lou}
theorem Weak.relocal {amb:Amb}{n:Nat}{ts:Ts}{ls:List (List D)}{h:Heap}(i:Nat){xs:List D}(ys:List D) (hc:ls[i]?=some xs) (hy:∀j w cs,HRel j w h->All2 (DRel j w) xs cs->All2 (DRel j w) ys cs) :
  Weak ⟨n,ts,ls,h⟩ ⟨n,ts,ls.set i ys,h⟩:=by
 intro j w jl a hsr;have hl:=hsr.hl;have hea:All2 (fun xs b=>Loc1 j w b xs) (ls.set i ys) jl:=by
  refine All2.of_get (by rw [List.length_set,hl.2.each.length]) fun k x b hx hb=>?_;rw [List.getElem?_set] at hx
  split at hx
  ·rename_i e
   subst e
   split at hx
   ·simp only [Option.some.injEq] at hx; subst hx;obtain⟨b',hb',cs,te,h1,h2,h3⟩:=hl.2.each.get hc;rw [hb] at hb'; simp only [Option.some.injEq] at hb'; subst hb';exact⟨cs,te,h1,hy j w _ hl.1 h2,h3⟩
   ·cases hx
  ·obtain⟨b',hb',h1⟩:=hl.2.each.get hx;rw [hb] at hb'; simp only [Option.some.injEq] at hb'; subst hb';exact h1
 exact⟨j,jl,⟨hsr.defers,hsr.size,hsr.tmps,⟨hl.1,⟨hea,hl.2.nodup,hl.2.apart⟩⟩⟩,Evolve.refl _ _ _⟩
end Go.Ab

namespace Go.Ab
variable {lou:Lou}
def on {α β:Sort _}(v:α) (k:α->β):β:=k v
namespace Q
universe u
variable {R O O2 Z:Type}{α:Type}
theorem condT {c:Bool}{a b r:α}(h:c=true) (h2:a=r):cond c a b=r:=by rw [h]; exact h2
theorem condF {c:Bool}{a b r:α}(h:c=false) (h2:b=r):cond c a b=r:=by rw [h]; exact h2
theorem condP {c:Bool}{a b:Option R}{x y:O}{K:O->Option R}(h1:a=K x) (h2:b=K y):cond c a b=K (cond c x y):=by cases c<;>assumption
theorem condO {c:Bool}{a b:Option R}{x y:Option O}{K:O->Option R}(h1:a=Option.bind x K) (h2:b=Option.bind y K):cond c a b=Option.bind (cond c x y) K:=by cases c<;>assumption
theorem bindP {o:Option α}{v:α}{k:α->Option R}{K:O->Option R}{b:α->O}(h:o=some v) (h2:∀x,x=v->k x=K (b x)):o.bind k=K (on v b):=by rw [h]; exact h2 v rfl
theorem bindPO {o:Option α}{v:α}{k:α->Option R}{K:O->Option R}{b:α->Option O}(h:o=some v) (h2:∀x,x=v->k x=Option.bind (b x) K):o.bind k=Option.bind (on v b) K:=by rw [h]; exact h2 v rfl
theorem bindO {o o':Option α}{k:α->Option R}{K:O->Option R}{b:α->Option O}(h:o=o') (h2:∀x,k x=Option.bind (b x) K):o.bind k=Option.bind (o'.bind b) K:=by
 rw [h]; cases o' with
 | none=>rfl
 | some v=>exact h2 v
theorem guardPO {c:Bool}{o:Option α}{v d:α}{k:α->Option R}{K:O->Option R}{b:α->Option O}(h:o=some v) (h2:∀x,x=cond c v d->k x=Option.bind (b x) K):guardO c o d k=Option.bind (on (cond c v d) b) K:=by
 rw [h]; cases c<;>exact h2 _ rfl
theorem guardOO {c:Bool}{o o':Option α}{d:α}{k:α->Option R}{K:O->Option R}{b:α->Option O}(h:o=o') (h2:∀x,k x=Option.bind (b x) K):guardO c o d k=Option.bind (guardO c o' d b) K:=by
 rw [h]; cases c with
 | false=>exact h2 d
 | true =>
  cases o' with
  | none=>rfl
  | some v=>exact h2 v
variable {lhs:Option R}
theorem wrapPP {q:Z}{b:Z->O}{K:O->Option R}(h:∀Kb:Z->Option R,(∀o,Kb o=K (b o))->lhs=Kb q):lhs=K (on q b):=h (fun o=>K (b o)) fun _=>rfl
theorem wrapPO {q:Z}{b:Z->Option O}{K:O->Option R}(h:∀Kb:Z->Option R,(∀o,Kb o=Option.bind (b o) K)->lhs=Kb q):lhs=Option.bind (on q b) K:=h (fun o=>Option.bind (b o) K) fun _=>rfl
theorem wrapOO {q:Option Z}{b:Z->Option O}{K:O->Option R}(h:∀Kb:Z->Option R,(∀o,Kb o=Option.bind (b o) K)->lhs=Option.bind q Kb):lhs=Option.bind (Option.bind q b) K:=by
 rw [h (fun o=>Option.bind (b o) K) fun _=>rfl]; cases q<;>rfl
theorem some_bind {α:Type}(o:Option α):Option.bind o some=o:=by cases o<;>rfl
theorem drop_of {l:List α}{i:Nat}{x:α}(h:l[i]?=some x):l.drop i=x::l.drop (i+1):=by
 obtain⟨hi,rfl⟩:=List.getElem?_eq_some_iff.1 h;exact List.drop_eq_getElem_cons hi
theorem ltT {i n:Nat}(h:i<n):decide ((i:Int)<(n:Int))=true:=by simpa using h
theorem ltF {i n:Nat}(h:¬i<n):decide ((i:Int)<(n:Int))=false:=by simpa using h
end Q
end Go.Ab
namespace Go.Ab
variable {lou:Lou}
end Go.Ab
namespace Go.Ab
variable {lou:Lou}
theorem Q.condAT {α:Type}{c d:Bool}{a b r:α}(h:c=true) (h2:cond d a b=r):cond (c&&d) a b=r:=by rw [h]; simpa using h2
theorem Q.condAF {α:Type}{c d:Bool}{a b r:α}(h:c=false) (h2:b=r):cond (c&&d) a b=r:=by rw [h]; simpa using h2
end Go.Ab
namespace Go.Ab
variable {lou:Lou}
end Go.Ab

namespace Go.Ab
variable {lou:Lou}
def Ok {α:Type}(o:Option α):Prop:=∃r,o=some r
namespace Tot
variable {α β:Type}
theorem some (a:α):Ok (Option.some a):=⟨a,rfl⟩
theorem bind {o:Option α}{k:α->Option β}(h:Ok o) (h2:∀v,o=Option.some v->Ok (k v)):Ok (o.bind k):=by
 obtain⟨v,hv⟩:=h; rw [hv]; exact h2 v hv
theorem cond {c:Bool}{a b:Option α}(h:c=true->Ok a) (h2:c=false->Ok b):Ok (_root_.cond c a b):=by
 cases c with
 | false=>exact h2 rfl
 | true=>exact h rfl
theorem on {v:α}{k:α->Option β}(h:∀x,x=v->Ok (k x)):Ok (Go.Ab.on v k):=h v rfl
end Tot
theorem addC_ok {a b:Int}(h : -9223372036854775808<=a+b/\a+b<=9223372036854775807):addC a b=some (a+b):=by unfold addC; rw [if_pos h]
theorem F0_eq:F0=4611686018427387904:=rfl
end Go.Ab
namespace Go.Ab
variable {lou:Lou}
end Go.Ab

/-
 Inputs: what a call is handed,read as plain data; what it leaves.
-/
namespace Go.Ab
open Go Go.RowKit Go.ChangeShapes Go.WideShapes Go.ChangeAt
variable {lou:Lou}

def j0 (w:World):J:=⟨fun _=>0,fun b=>match w.heap[b]? with|some (.cells cs _ _)=>cs.size|_=>0,fun _=>none,0⟩
def h0:Heap:=fun _=>none
theorem cell_F {w:World}{b o:Nat}{v:Value}(h:w.cell? ⟨b,o,none⟩=some v):o<(j0 w).F b:=by
 unfold World.cell? at h;simp only [j0]
 split at h
 ·rename_i c t f hc
  simp at h;simp only at hc;rw [hc];exact(Array.getElem?_eq_some_iff.1 h).1
 ·cases h
theorem cell_spot {w:World}{a:Addr}{v:Value}(h:w.cell? a=some v):a.spot=none:=by
 unfold World.cell? at h
 split at h
 ·split at h
  ·cases h
  ·rename_i h2; simpa using h2
 ·cases h

structure Bulk {H:Type}(B:DataW H->Nat):Prop where
 one:∀d,1<=B d
 str:∀b,b.length+1<=B (.lit (.string b))
 slice:∀e s,(e.map B).sum+1<=B (.slice e s)
 agg:∀l,(l.map B).sum<=B (.agg l)

structure RdN {H:Type}(P:Program) (B:DataW H->Nat) (N:Nat) (t:TypeId){α:Type}(R:α->List D) (sz:α->Nat) (wf:α->Prop):Prop where
 rd:∀{enc:TypeId×Value->H}{w:World}{base:Nat}{sp:Nat->Bool}{held:Bool}{fuel:Nat}{cs:List Value}{x:DataW H×List MemPlace},
  fuel<=N->DataW.trod enc P w base sp held fuel t cs=some x->B x.1<=1048576->∃a,All2 (DRel (j0 w) w) (R a) cs/\sz a<=B x.1/\wf a

theorem RdN.zero {H:Type}{P:Program}{B:DataW H->Nat}{t:TypeId}{α:Type}{R:α->List D}{sz:α->Nat}{wf:α->Prop}:RdN P B 0 t R sz wf :=
 ⟨fun hf h _=>by rw [Nat.le_zero.1 hf] at h; simp [DataW.trod] at h⟩
theorem cellsOf_of {P:Program}{t:TypeId}{ti:TI}(hT:mkTI P t=some ti):P.cellsOf t=ti.size:=by
 obtain⟨i,d,h1,_,h2,_⟩:=mkTI_spec hT;unfold Program.cellsOf; rw [h1]; exact h2
theorem under_of {P:Program}{t:TypeId}{ti:TI}(hT:mkTI P t=some ti):∃d,P.underlying t=some d/\kOf d=ti.k:=by
 obtain⟨i,d,_,h1,_,_,h2,_⟩:=mkTI_spec hT;exact⟨d,h1,h2⟩
theorem strU_of {P:Program}{t:TypeId}{ti:TI}(hT:mkTI P t=some ti) (hk:ti.k=.str):P.underlying t=some .string:=by
 obtain⟨d,h1,h2⟩:=under_of hT;rw [hk] at h2; cases d<;>simp [kOf] at h2; exact h1
theorem int_of {P:Program}{t:TypeId}{ti:TI}{k:IntKind}(hT:mkTI P t=some ti) (hk:ti.k=.int k):P.underlying t=some (.int k):=by
 obtain⟨d,h1,h2⟩:=under_of hT;rw [hk] at h2; cases d<;>simp [kOf] at h2; subst h2; exact h1
theorem structU_of {P:Program}{t:TypeId}{ti:TI}{ps:List (Nat×TypeId)}(hT:mkTI P t=some ti) (hk:ti.k=.struct ps):∃fs:Array Go.Field,P.underlying t=some (.struct fs)/\fs.toList.map (fun f=>(f.offset,f.type))=ps:=by
 obtain⟨d,h1,h2⟩:=under_of hT;rw [hk] at h2; cases d<;>simp [kOf] at h2; exact⟨_,h1,by simpa using h2⟩

def Str.sz (s:Str):Nat:=s.1.length+1
def Slc.sz {α:Type}(f:α->Nat) (s:Slc α):Nat:=1+(s.l.map f).sum
def Slc.wf {α:Type}(p:α->Prop) (s:Slc α):Prop:=∀x∈s.l,p x
def i64 (n:Int):Prop := -9223372036854775808<=n/\n<=9223372036854775807

section
variable {H:Type}{P:Program}{B:DataW H->Nat}(hB:Bulk B){N:Nat}
include hB
theorem RdN.str {t:TypeId}{ti:TI}(hT:mkTI P t=some ti) (hk:ti.k=.str):RdN P B N t strC Str.sz fun _=>True:=by
 refine⟨fun {enc w base sp held fuel cs x} _ h hb=>?_⟩;obtain⟨s,rfl,rfl,hs⟩:=DataW.trod_string (strU_of hT hk) h;have h1:=hB.str s.data.toList;have h2:s.data.toList.length<=1048576:=by dsimp only at hb; omega
 refine⟨⟨s.data.toList,by simp only [maxN]; omega⟩,.cons ?_ .nil,h1,trivial⟩;have:=DRel.str (j:=j0 w) (w:=w) s.data.toList (by simp only [maxS]; omega)
 simpa using this
theorem RdN.int {t:TypeId}{ti:TI}(hT:mkTI P t=some ti) (hk:ti.k=.int .i64):RdN P B N t intC (fun _=>1) i64:=by
 refine⟨fun _ h _=>?_⟩;obtain⟨n,rfl,rfl,hw⟩:=DataW.trod_int (int_of hT hk) h;refine⟨n,.cons (.int _ _) .nil,hB.one _, ?_⟩
 simpa [Lit.wf,IntKind.min,IntKind.max,IntKind.signed,IntKind.bits,i64] using hw

omit hB in
theorem exList {α:Type}(p:Nat->α->Prop):∀(n:Nat),(∀i,i<n->∃a,p i a)->∃l:List α,l.length=n/\∀i a,l[i]?=some a->p i a
 | 0,_=>⟨[],rfl,by simp⟩
 | n+1,h=>by
  obtain⟨l,hl,hp⟩:=exList p n fun i hi=>h i (by omega);obtain⟨a,ha⟩:=h n (by omega);refine⟨l++[a],by simp [hl],fun i b hb=>?_⟩;rw [List.getElem?_append] at hb
  split at hb
  ·exact hp i b hb
  ·rename_i hge
   have:i-l.length=0:=by
    have:=(List.getElem?_eq_some_iff.1 hb).1; simp at this; omega
   rw [this] at hb; simp at hb; subst hb;have:i=n:=by omega
   subst this; exact ha

omit hB in
theorem mapM_get {α β:Type}{f:α->Option β}:∀{l:List α}{r:List β},l.mapM f=some r->r.length=l.length/\∀(i:Nat) a,l[i]?=some a->f a=r[i]?
 | [],r,h=>by simp at h; subst h; simp
 | a::l,r,h=>by
  rw [List.mapM_cons] at h;cases hf:f a with
  | none=>rw [hf] at h; cases h
  | some b =>
   rw [hf] at h;cases hm:l.mapM f with
   | none=>rw [hm] at h; cases h
   | some bs =>
    rw [hm] at h;have h':some (b::bs)=some r:=h;simp only [Option.some.injEq] at h';subst h';obtain⟨h1,h2⟩:=mapM_get hm;refine⟨by simp [h1],fun i x hx=>?_⟩;cases i with
    | zero=>simp at hx; subst hx; simpa using hf
    | succ i=>simp at hx; simpa using h2 i x hx

omit hB in
theorem cells_get {w:World}{base:Nat}{a:Addr}{n:Nat}{cs:List Value}(h:w.cells? base a n=some cs):cs.length=n/\∀i v,cs[i]?=some v->w.cell? (a.add i)=some v:=by
 unfold World.cells? at h
 split at h
 ·obtain⟨h1,h2⟩:=mapM_get h;rw [List.length_range] at h1;refine⟨h1,fun i v hv=>?_⟩;have hi:=(List.getElem?_eq_some_iff.1 hv).1;have:=h2 i i (List.getElem?_range (by omega));rw [this]; exact hv
 ·cases h

omit hB in
theorem sum_le {α β:Type}{f:α->Nat}{g:β->Nat}:∀{l:List α}{m:List β},l.length=m.length->(∀(i:Nat) a b,l[i]?=some a->m[i]?=some b->f a<=g b)->(l.map f).sum<=(m.map g).sum
 | [],[],_,_=>by simp
 | [],_::_,h,_=>by simp at h
 | _::_,[],h,_=>by simp at h
 | a::l,b::m,h,hp=>by
  have h1:=hp 0 a b rfl rfl;have h2:=sum_le (l:=l) (m:=m) (by simpa using h) fun i x y hx hy=>hp (i+1) x y (by simpa using hx) (by simpa using hy);simp only [List.map_cons,List.sum_cons]; omega
omit hB in
theorem mem_sum {α:Type}{f:α->Nat}{l:List α}{a:α}(h:a∈l):f a<=(l.map f).sum:=by
 induction l with
 | nil=>cases h
 | cons x r ih =>
  simp only [List.map_cons,List.sum_cons];rcases List.mem_cons.1 h with e|e
  ·subst e; omega
  ·have:=ih e; omega
omit hB in
theorem len_sum {α:Type}{f:α->Nat}:∀(l:List α),(∀a∈l,1<=f a)->l.length<=(l.map f).sum
 | [],_=>by simp
 | a::l,h=>by
  have h1:=h a (by simp);have h2:=len_sum l fun x hx=>h x (by simp [hx]);simp only [List.length_cons,List.map_cons,List.sum_cons]; omega

theorem RdN.slice {α:Type}{t e:TypeId}{ti ei:TI}{k:Nat}{R:α->List D}{sz:α->Nat}{wf:α->Prop}(hT:mkTI P t=some ti) (hkt:ti.k=.slice e) (hE:mkTI P e=some ei) (hks:ei.size=k) (hpos:0<k) (hR:∀a,(R a).length=k) (he:RdN P B N e R sz wf) :
  RdN P B (N+1) t (fun s:Slc α=>[s.d k R]) (Slc.sz sz) (Slc.wf wf):=by
 have ht:=slice_of hT hkt;have hk:P.cellsOf e=k:=(cellsOf_of hE).trans hks;refine⟨fun {enc w base sp held fuel cs x} hfu h hb=>?_⟩;rcases DataW.trod_slice ht h with ⟨rfl,rfl⟩|⟨a,len,cap,elems,rest,n,hfn,rfl,rfl,_,hlc,hcap,hlen,hel,_,_⟩
 ·exact⟨⟨true,[],by simp,fun _=>rfl⟩,.cons (.snil _ _ (by simp)) .nil,by simpa [Slc.sz] using hB.one _,by simp [Slc.wf]⟩
 ·have hbs:=hB.slice (elems.map (·.1)) (rest.map (·.1));have hbe:∀y∈elems,B y.1<=1048576:=fun y hy=>by
   have:=mem_sum (f:=B) (l:=elems.map (·.1)) (a:=y.1) (List.mem_map_of_mem hy);dsimp only at hb; omega
  have hlen2:elems.length<=1048576:=by
   have:=len_sum (f:=B) (elems.map (·.1)) fun d _=>hB.one d;simp only [List.length_map] at this;dsimp only at hb; omega
  have hex:∀i,i<len->∃y:α×List Value,∃z,elems[i]?=some z/\w.cells? base (a.add (i*k)) k=some y.2/\All2 (DRel (j0 w) w) (R y.1) y.2/\sz y.1<=B z.1/\wf y.1:=by
   intro i hi;have h1:=hel i hi;rw [hk] at h1;have hi2:i<elems.length:=by omega
   rw [List.getElem?_eq_getElem hi2] at h1;cases hc:w.cells? base (a.add (i*k)) k with
   | none=>rw [hc] at h1; cases h1
   | some cs =>
    rw [hc] at h1;obtain⟨x,h2,h3,h4⟩:=he.rd (by omega) (show DataW.trod enc P w base sp held n e cs=some elems[i] from h1) (hbe _ (List.getElem_mem hi2));exact⟨(x,cs),elems[i],List.getElem?_eq_getElem hi2,rfl,h2,h3,h4⟩
  obtain⟨l,hl,hp⟩:=exList _ len hex;have hml:(l.map fun y=>y.1).length=len:=by simp [hl]
  refine⟨⟨false,l.map (·.1),by rw [hml]; simp only [maxN]; omega,by simp⟩,.cons ?_ .nil, ?_, ?_⟩
  ·have hrows:∀r∈(l.map (·.1)).map R,r.length=k:=by
    intro r hr;obtain⟨y,_,rfl⟩:=List.mem_map.1 hr;exact hR _
   have hlenr:((l.map (·.1)).map R).length=len:=by simp [hl]
   show DRel (j0 w) w (.slice k none false ((l.map (·.1)).map R)) (.slice (some a) len cap);by_cases h0:len=0
   ·subst h0;have:l=[]:=List.eq_nil_of_length_eq_zero hl;subst this;exact DRel.slice k none [] a cap (fun _=>undef) (by simp) (by simp) (by simp) ⟨.inl rfl,by simp⟩ (by simp) (fun t h=>by cases h)
   ·have hspot:a.spot=none:=by
     have h1:=hp 0 (l[0]'(by omega)) (List.getElem?_eq_getElem (by omega));obtain⟨z,_,h2,_⟩:=h1;obtain⟨h3,h4⟩:=cells_get h2;have h5:=h4 0 _ (List.getElem?_eq_getElem (by omega));rw [Nat.zero_mul] at h5;exact cell_spot h5
    have ha:a=⟨a.block,a.off,none⟩:=by cases a; simp at hspot; simp [hspot]
    have hgoal:DRel (j0 w) w (.slice k none false ((l.map (·.1)).map R)) (.slice (some ⟨a.block,a.off,none⟩) ((l.map (·.1)).map R).length cap):=by
     refine mk_slice hrows (by rw [hlenr]; simp only [maxN]; omega) (by rw [hlenr]; exact hlc) (fun i x hx=>?_) (fun t h=>by cases h);have hi:=(List.getElem?_eq_some_iff.1 hx).1;rw [(flatten_row hrows).1,hlenr] at hi;have hq:i / k<len:=Nat.div_lt_of_lt_mul (by rw [Nat.mul_comm]; exact hi);have hm:i % k<k:=Nat.mod_lt _ hpos;obtain⟨z,_,h2,h3,_⟩:=hp (i / k) (l[i / k]'(by omega)) (List.getElem?_eq_getElem (by omega))
     obtain⟨h4,h5⟩:=cells_get h2;have hrow:((l.map (·.1)).map R)[i / k]?=some (R (l[i / k]'(by omega)).1):=by simp [hl,hq]
     have h6:=(flatten_row hrows).2 (i / k) _ hrow (i % k) hm;rw [Nat.mul_comm,Nat.div_add_mod,hx] at h6;obtain⟨v,hv,hrel⟩:=h3.get h6.symm;have hcell:=h5 _ _ hv;rw [ha,add_plain,add_plain,Nat.add_assoc,Nat.mul_comm,Nat.div_add_mod] at hcell;exact⟨cell_F hcell,v,hcell,hrel⟩
    rw [hlenr,<- ha] at hgoal;exact hgoal
  ·simp only [Slc.sz];have:=sum_le (f:=sz) (g:=B) (l:=l.map (·.1)) (m:=elems.map (·.1)) (by simp [hl,hlen]) fun i x y hx hy=>by
    rw [List.getElem?_map] at hx hy;cases hli:l[i]? with
    | none=>rw [hli] at hx; cases hx
    | some u =>
     rw [hli] at hx; simp at hx; subst hx;obtain⟨z,h1,_,_,h2,_⟩:=hp i u hli;rw [h1] at hy; simp at hy; subst hy; exact h2
   omega
  ·intro x hx;obtain⟨y,hy,rfl⟩:=List.mem_map.1 hx;obtain⟨i,hi,e⟩:=List.getElem_of_mem hy;obtain⟨z,_,_,_,_,h⟩:=hp i y (by rw [List.getElem?_eq_getElem hi,e]);exact h

structure RdP {H:Type}(P:Program) (B:DataW H->Nat) (N n o:Nat) (ps:List (Nat×TypeId)){α:Type}(R:α->List D) (sz:α->Nat) (wf:α->Prop):Prop where
 rd:∀{enc:TypeId×Value->H}{w:World}{base:Nat}{sp:Nat->Bool}{held:Bool}{fuel:Nat}{cs:List Value}{xs:List (DataW H×List MemPlace)},fuel<=N->cs.length=n->xs.length=ps.length ->
  (∀(i:Nat) p,ps[i]?=some p->DataW.trod enc P w base sp held fuel p.2 ((cs.drop p.1).take (P.cellsOf p.2))=xs[i]?)->(xs.map (fun x=>B x.1)).sum<=1048576 ->
  ∃a,All2 (DRel (j0 w) w) (R a) (cs.drop o)/\sz a<=(xs.map (fun x=>B x.1)).sum/\wf a
omit hB in
theorem RdP.nil {n:Nat}:RdP P B N n n [] (fun _:Unit=>[]) (fun _=>0) fun _=>True:=by
 refine⟨fun _ h1 h2 _ _=>⟨(), ?_,Nat.zero_le _,trivial⟩⟩;rw [List.drop_of_length_le (by omega)]; exact .nil
omit hB in
theorem RdP.cons {α β:Type}{n o o':Nat}{ty:TypeId}{ti:TI}{ps:List (Nat×TypeId)}{R:α->List D}{sz:α->Nat}{wf:α->Prop}{R':β->List D}{sz':β->Nat}{wf':β->Prop}(hT:mkTI P ty=some ti) (ho:o+ti.size=o') (h:RdN P B N ty R sz wf)
  (ht:RdP P B N n o' ps R' sz' wf'):RdP P B N n o ((o,ty)::ps) (fun p:α×β=>R p.1++R' p.2) (fun p=>sz p.1+sz' p.2) fun p=>wf p.1/\wf' p.2:=by
 refine⟨fun {enc w base sp held fuel cs xs} hfu h1 h2 h3 h4=>?_⟩
 match xs,h2 with
 | x::xs,h2 =>
  simp only [List.map_cons,List.sum_cons] at h4 ⊢;have h5:=h3 0 (o,ty) rfl;simp only [List.getElem?_cons_zero] at h5;obtain⟨a,ha1,ha2,ha3⟩:=h.rd hfu h5 (by omega);obtain⟨b,hb1,hb2,hb3⟩:=ht.rd (xs:=xs) hfu h1 (by simpa using h2) (fun i g hg=>by simpa using h3 (i+1) g (by simpa using hg)) (by omega);refine⟨(a,b), ?_,by dsimp only; omega,ha3,hb3⟩;have e:cs.drop o=(cs.drop o).take (P.cellsOf ty)++cs.drop o':=by
   rw [<- ho,<- cellsOf_of hT,<- List.drop_drop]; exact(List.take_append_drop _ _).symm
  rw [e];exact ha1.append hb1
theorem RdN.struct {α β:Type}{t:TypeId}{ti:TI}{ps:List (Nat×TypeId)}{R:α->List D}{sz:α->Nat}{wf:α->Prop}(hT:mkTI P t=some ti) (hk:ti.k=.struct ps) (h:RdP P B N ti.size 0 ps R sz wf) (g:α->β){R':β->List D}{sz':β->Nat}{wf':β->Prop}
  (hR:∀a,R' (g a)=R a) (hs:∀a,sz' (g a)<=sz a) (hw:∀a,wf a->wf' (g a)):RdN P B (N+1) t R' sz' wf':=by
 refine⟨fun {enc w base sp held fuel cs x} hfu hx hb=>?_⟩;obtain⟨fs,ht,hps⟩:=structU_of hT hk;obtain⟨xs,n,hfn,rfl,h1,h2,h3⟩:=DataW.trod_struct ht hx;have hb2:=hB.agg (xs.map (·.1));rw [List.map_map] at hb2;obtain⟨a,ha1,ha2,ha3⟩:=h.rd (xs:=xs) (enc:=enc) (w:=w) (base:=base) (sp:=sp) (held:=held) (fuel:=n) (cs:=cs) (by omega) (h1.trans (cellsOf_of hT)) (by rw [<- hps]; simpa using h2) (fun i p hp=>by
  rw [<- hps,List.getElem?_map] at hp;cases hf:fs.toList[i]? with
  | none=>rw [hf] at hp; cases hp
  | some f =>
   rw [hf] at hp; simp at hp; subst hp;exact h3 i f (by simpa using hf)) (by dsimp only at hb; exact Nat.le_trans hb2 hb)
 exact⟨g a,by rw [hR]; simpa using ha1,Nat.le_trans (hs a) (Nat.le_trans ha2 hb2),hw _ ha3⟩
end

section
variable {H:Type}{enc:TypeId×Value->H}{P:Program}{B:DataW H->Nat}{W:World}
theorem arg_struct {α:Type}{R:α->List D}{sz:α->Nat}{wf:α->Prop}{r:Reach}{b0:Nat}{t:TypeId}{ti:TI}{fs:List (Nat×TypeId)}{v:Value}{d:DataW H}{ps:List MemPlace}(hT:mkTI P t=some ti) (hk:ti.k=.struct fs) (hr:∀N,RdN P B N t R sz wf) (hval:Value.okWide P W r b0 t v)
  (hd:DataW.Trod enc P W 0 (fun _=>true) true t v d ps) (hb:B d<=1048576):∃a:α,ARel (j0 W) W (.agg (R a)) v/\sz a<=B d/\wf a:=by
 obtain⟨_,ht,_⟩:=structU_of hT hk;obtain⟨cs,rfl,_⟩:=okWide_struct ht hval;obtain⟨fuel,hf⟩:=hd;obtain⟨a,h1,h2,h3⟩:=(hr fuel).rd (Nat.le_refl _) hf hb;exact⟨a,⟨cs.toList,by simp,h1⟩,h2,h3⟩
end

theorem Below.trodAll {H:Type}{enc:TypeId×Value->H}{P:Program}(hl:laidOutB P=true){W W':World}(hb:Below W.heap.size W W') :
  ∀{ts:List TypeId}{vs:List Value}{ds:List (DataW H)}{ps:List MemPlace},(∀t∈ts,P.readableRec t=true/\t<P.types.size)->DataW.TrodAll enc P W 0 (fun _=>true) true ts vs ds ps->(∀x∈ps,x.block<W.heap.size) ->
  ∀sp':Nat->Bool,(∀x∈ps,sp' x.block=true)->DataW.TrodAll enc P W' 0 sp' true ts vs ds ps
 | [],_,_,_,_,h,_,_,_=>by obtain⟨rfl,rfl,rfl⟩:=trodAll_nil h; exact rfl
 | _::_,_,_,_,ht,h,hlt,sp',hs=>by
  obtain⟨v,vs1,d,ds1,a,b,rfl,rfl,rfl,h1,h2⟩:=trodAll_cons h;exact⟨a,b,WideElems.Trod_stays hl (ht _ (by simp)).1 (ht _ (by simp)).2 h1 (fun x hx=>hb.same (hlt x (by simp [hx]))) (fun x hx=>hs x (by simp [hx])),
   Below.trodAll hl hb (fun t h=>ht t (by simp [h])) h2 (fun x hx=>hlt x (by simp [hx])) sp' (fun x hx=>hs x (by simp [hx])),rfl⟩

theorem post_true {H:Type}{enc:TypeId×Value->H}{P:Program}{f:Func}{s:ChangeSpec}{fresh handsOn again:Bool}{W W':World}{args:Array Value}{ds:List (DataW H)}{before:List MemPlace}{tb:TypeId}
  (hv:s.vars=[]) (hW:DataW.Whole enc P f.params.toList s.vars false W args.toList ds [] before) (hb:Below W.heap.size W W') (hl:laidOutB P=true) (hp:∀t∈f.params.toList,P.readableRec t=true/\t<P.types.size)
  (hr:f.resultTypes=#[tb]) (htb:P.underlying tb=some .bool) (hs:s.fn H ds={ results:=[.lit (.bool true)],args:=ds }):s.post enc P f false fresh handsOn again W args (.bool true) W':=by
 have hW0:=hW;have hlt:∀x∈before,x.block<W.heap.size:=fun x hx=>by simpa using hW0.lt x hx
 obtain⟨p,q,hA,hV,rfl,hz,hn⟩:=hW;rw [hv] at hV;obtain⟨_,rfl⟩:=trodVars_none hV;simp only [List.append_nil] at hlt hz;have hargs:∀sp:Nat->Bool,(∀x∈p,sp x.block=true)->DataW.TrodAll enc P W' 0 sp true f.params.toList args.toList ds p:=fun sp hsp=>Below.trodAll hl hb hp hA hlt sp hsp;have hres:∀(b:Nat) (sp:Nat->Bool) (hd:Bool),DataW.TrodAll enc P W' b sp hd f.resultTypes.toList ((Value.bool true).resultList f.resultTypes.size) [.lit (.bool true)] []:=by
  intro b sp hd;rw [hr];exact trodAll_cons_mk (shut_bool htb _) trodAll_mk0
 refine⟨ds,[],p++[],[],p,[],hW0, ?_, ?_, ?_,World.keptBut_mono (fun x hx=>⟨hx, ?_⟩) (hb.frame (·∈p++[])),fun _=>⟨?_,[.lit (.bool true)]++ds,[],p,⟨p,[], ?_, ?_,by simp, ?_,fun h=>by cases h⟩,fun x hx _=>by simpa using hx⟩⟩
 ·rw [List.append_nil,hs]; exact hres _ _ _
 ·rw [List.append_nil,hs]; exact hargs _ fun x hx=>by simpa using hlt x hx
 ·rw [hv,List.append_nil,hs]; exact rfl
 ·exact .inr (.inl (by simpa using hx))
 ·exact ok_one hr rfl (okWide_bool_mk htb _)
 ·exact trodAll_append (hargs _ fun _ _=>rfl) (hres _ _ _)
 ·rw [hv]; exact rfl
 ·intro b off hx;have hblk:=hlt _ hx;rw [World.frozen?_of_block (w:=W) (hb.block _ hblk)];exact hz b off hx
end Go.Ab

/-
 The readings of package api's types,at whatever depth.
-/
namespace Go.Ab
open Go Go.RowKit
section
variable {H:Type}{P:Program}{B:DataW H->Nat}(hB:Bulk B)
include hB
theorem RdA.struct {α β:Type}{t:TypeId}{ti:TI}{ps:List (Nat×TypeId)}{R:α->List D}{sz:α->Nat}{wf:α->Prop}(hT:mkTI P t=some ti) (hk:ti.k=.struct ps) (h:∀N,RdP P B N ti.size 0 ps R sz wf) (g:α->β){R':β->List D}{sz':β->Nat}{wf':β->Prop}
  (hR:∀a,R' (g a)=R a) (hs:∀a,sz' (g a)<=sz a) (hw:∀a,wf a->wf' (g a)):∀N,RdN P B N t R' sz' wf'
 | 0=>.zero
 | N+1=>RdN.struct hB hT hk (h N) g hR hs hw
end
end Go.Ab

/-
 The readings of the models' types.
-/
namespace Go.Ab
open Go Go.RowKit
variable {lou:Lou}
def Sl.sz {α:Type}(f:α->Nat) (s:Sl α):Nat:=1+(s.l.map f).sum
def Sl.wf {α:Type}(p:α->Prop) (s:Sl α):Prop:=(s.nl=true->s.l=[])/\s.l.length<=maxN/\∀x∈s.l,p x
def Bs.sz (s:Bs):Nat:=s.length+1
section
variable {H:Type}{P:Program}{B:DataW H->Nat}
theorem RdN.imap {α β:Type}{N:Nat}{t:TypeId}{R:α->List D}{sz:α->Nat}{wf:α->Prop}(h:RdN P B N t R sz wf) (g:α->β){R':β->List D}{sz':β->Nat}{wf':β->Prop}
  (hR:∀a,R' (g a)=R a) (hs:∀a,sz' (g a)<=sz a) (hw:∀a,wf a->wf' (g a)):RdN P B N t R' sz' wf' :=
 ⟨fun hf ht hb=>by
  obtain⟨a,h1,h2,h3⟩:=h.rd hf ht hb;exact⟨g a,by rw [hR]; exact h1,Nat.le_trans (hs a) h2,hw a h3⟩⟩
variable (hB:Bulk B)
include hB
theorem RdS.str {t:TypeId}{ti:TI}(hT:mkTI P t=some ti) (hk:ti.k=.str) (N:Nat):RdN P B N t strE Bs.sz fun _=>True :=
 (RdN.str hB hT hk).imap (fun s:Str=>s.1) (fun _=>rfl) (fun _=>Nat.le_refl _) fun _ _=>trivial
theorem RdS.int {t:TypeId}{ti:TI}(hT:mkTI P t=some ti) (hk:ti.k=.int .i64) (N:Nat):RdN P B N t (intE .i64) (fun _=>1) i64 :=
 (RdN.int hB hT hk).imap id (fun _=>rfl) (fun _=>Nat.le_refl _) fun _ h=>h
theorem RdS.sliceN {α:Type}{N:Nat}{t e:TypeId}{ti ei:TI}{k:Nat}{R:α->List D}{sz:α->Nat}{wf:α->Prop}(hT:mkTI P t=some ti) (hkt:ti.k=.slice e) (hE:mkTI P e=some ei) (hks:ei.size=k) (hpos:0<k) (hR:∀a,(R a).length=k)
  (he:RdN P B N e R sz wf):RdN P B (N+1) t (fun s:Sl α=>[Sl.d k R none s]) (Sl.sz sz) (Sl.wf wf) :=
 (RdN.slice hB hT hkt hE hks hpos hR he).imap (fun s:Slc α=>(⟨s.nil,s.l⟩:Sl α)) (fun _=>rfl) (fun _=>Nat.le_refl _) (fun s h=>by unfold Slc.wf at h; exact⟨s.nn,s.ok,h⟩)
theorem RdS.slice {α:Type}{t e:TypeId}{ti ei:TI}{k:Nat}{R:α->List D}{sz:α->Nat}{wf:α->Prop}(hT:mkTI P t=some ti) (hkt:ti.k=.slice e) (hE:mkTI P e=some ei) (hks:ei.size=k) (hpos:0<k) (hR:∀a,(R a).length=k)
  (he:∀N,RdN P B N e R sz wf):∀N,RdN P B N t (fun s:Sl α=>[Sl.d k R none s]) (Sl.sz sz) (Sl.wf wf)
 | 0=>.zero
 | N+1=>RdS.sliceN hB hT hkt hE hks hpos hR (he N)
end
theorem Sl.len_le {α:Type}{f:α->Nat}(s:Sl α) (h:∀a,1<=f a):s.l.length<=s.sz f:=by
 have:=len_sum (f:=f) s.l fun a _=>h a;unfold Sl.sz; omega
theorem Sl.mem_le {α:Type}{f:α->Nat}{s:Sl α}{a:α}(h:a∈s.l):f a<s.sz f:=by
 have:=mem_sum (f:=f) h;unfold Sl.sz; omega
end Go.Ab
namespace Go.Ab
variable {lou:Lou}
theorem Bs.sz_pos (s:Bs):1<=Bs.sz s:=by unfold Bs.sz; omega
end Go.Ab

/-
 Short forms of the rules,for the packed texts.
-/
namespace Go.Ab
open Go Go.RowKit
variable {lou:Lou}
class Tabs (P:Program) where
 T:List TI
 ok:TabOk P T
theorem TKc {P:Program} [Tabs P] {i:TypeId}{ti:TI}(h:(Tabs.T P)[i]?=some ti):mkTI P i=some ti:=Tabs.ok i ti h
section
variable {P:Program}{Q:Exit->St->Prop}{σ:St}
theorem AWp.cE {c:Operand}{u v:Code}{b:Bool}{α:Type}{A B:Option α}{r:α}(hE:(bif b then A else B)=some r) (ht:b=true->A=some r->AWp P u Q σ) (hf:b=false->B=some r->AWp P v Q σ) (hc:ev σ.ts c=.a (.d (.bool b)):=by exact rfl):AWp P (.cond c u v) Q σ:=AWp.condE hE hc ht hf
end
theorem AC.oW {P:Program} [Tabs P] (n:Nat) (rs:List ResultVar){f:FuncId}{fn:Func}{c:Code}{args:List A}{h:Heap}{Post:V->Heap->Prop}(hcall:∀(cargs:Array Value) (w:World),(callFunc f cargs).run P w=.ok (.enter f cargs) w) (hf:P.funcs[f]?=some fn)
  (hw:AWp P c (retQ (Tabs.T P) rs Post) ⟨n,argTs 0 args,[],h⟩) (hb:fn.body=some c:=by exact rfl) (hn:fn.ntmps=n:=by exact rfl) (hrs:fn.results.toList=rs:=by exact rfl) (hl:Nat.ble args.length n=true:=by exact rfl):AC P f args h Post :=
 AC.of_wp Tabs.ok hcall hf hb hn hrs hl hw
variable {amb:Amb}
section
variable {P:Program}{ops:Array Oper}{rest:List Oper}{Q:St->Prop}{n:Nat}{ts:Ts}{ls ls':List (List D)}{h h':Heap}{fx:Fx}{v:V}{d dg gi:Nat}{op:Op}{ty:TypeId}{pos:String}{aft:Array Edge}{want b C:Bool}{done:List Fx}
-- RULES
variable {o:Oper}{c c':Bool}{x x':A}{f:Operand}{args:Array Operand}{ats:Array TypeId}{fid:FuncId}{caps:List D}{xs:List A}
theorem gI {C c:Bool}(h:C=true->c=true:=by intro hC; first|assumption|exact andL (by assumption)|exact andL (andL (by assumption))|exact andL (andL (andL (by assumption)))|exact andR (by assumption)|simp_all):C=true->c=true:=h
theorem S (hs:Cert P ⟨some d,op,ty,pos,aft,none⟩ ts ls h fx v ls h) (hr:AOps P ops rest Q ⟨n,(d,v)::ts,ls,h⟩) (hd:Nat.blt d n=true:=by exact rfl):AOps P ops (⟨some d,op,ty,pos,aft,none⟩::rest) Q ⟨n,ts,ls,h⟩:=AOps.s0 hs hd hr
theorem Sd (hs:Cert P ⟨some d,op,ty,pos,aft,none⟩ ts ls h fx v ls h) (hr:DOps P ops n rest (fx.plain::done) Q ⟨n,(d,v)::ts,ls,h⟩) (hd:Nat.blt d n=true:=by exact rfl):DOps P ops n (⟨some d,op,ty,pos,aft,none⟩::rest) done Q ⟨n,ts,ls,h⟩:=DOps.s0 hs hd hr
theorem G0 (hs:Cert P ⟨some d,op,ty,pos,aft,some (gi,want)⟩ ts ls h fx v ls h) (hr:AOps P ops rest Q ⟨n,(d,v.under C)::ts,ls,h⟩) (hg:(ops[gi]?).bind (·.dst)=some dg:=by exact rfl) (hc:gc (get ts dg) want=some C:=by exact rfl) (hd:Nat.blt d n=true:=by exact rfl):AOps P ops (⟨some d,op,ty,pos,aft,some (gi,want)⟩::rest) Q ⟨n,ts,ls,h⟩:=AOps.gC hg hc (fun _=>hs) hd hr
theorem G1 (k:Nat) (hk:Ab.get ts k=.gd c x) (hs:Cert P ⟨some d,op,ty,pos,aft,some (gi,want)⟩ ((k,.a x)::ts) ls h fx v ls h) (hr:AOps P ops rest Q ⟨n,(d,v.under C)::ts,ls,h⟩) (hg:(ops[gi]?).bind (·.dst)=some dg:=by exact rfl) (hc:gc (get ts dg) want=some C:=by exact rfl) (hd:Nat.blt d n=true:=by exact rfl) (hi:C=true->c=true:=by exact gI):AOps P ops (⟨some d,op,ty,pos,aft,some (gi,want)⟩::rest) Q ⟨n,ts,ls,h⟩:=AOps.gC hg hc (fun hC=>Cert.ungd hk (hi hC) hs) hd hr
theorem G2 (k k':Nat) (hk:Ab.get ts k=.gd c x) (hk':Ab.get ((k,.a x)::ts) k'=.gd c' x') (hs:Cert P ⟨some d,op,ty,pos,aft,some (gi,want)⟩ ((k',.a x')::(k,.a x)::ts) ls h fx v ls h) (hr:AOps P ops rest Q ⟨n,(d,v.under C)::ts,ls,h⟩) (hg:(ops[gi]?).bind (·.dst)=some dg:=by exact rfl) (hc:gc (get ts dg) want=some C:=by exact rfl) (hd:Nat.blt d n=true:=by exact rfl) (hi:C=true->c=true:=by exact gI) (hi':C=true->c'=true:=by exact gI):AOps P ops (⟨some d,op,ty,pos,aft,some (gi,want)⟩::rest) Q ⟨n,ts,ls,h⟩:=AOps.gC hg hc (fun hC=>Cert.ungd hk (hi hC) (Cert.ungd hk' (hi' hC) hs)) hd hr
theorem Gc1 (k:Nat) (hg:(ops[gi]?).bind (·.dst)=some dg) (hc:gc (get ts dg) want=some C) (hk:Ab.get ts k=.gd c x) (hf:ev ((k,.a x)::ts) f=.a (.d (.func fid caps))) (ha:evAs ((k,.a x)::ts) args.toList=some xs) (hc2:C=true->∀H:Heap,AC P fid (xs++caps.map A.d) H fun r h'=>r=v/\h'=H) (hr:AOps P ops rest Q ⟨n,(d,v.under C)::ts,ls,h⟩) (hi:C=true->c=true:=by exact gI) (hd:Nat.blt d n=true:=by exact rfl):AOps P ops (⟨some d,.call { callee:=.value f,args:=args,argTypes:=ats },ty,pos,aft,some (gi,want)⟩::rest) Q ⟨n,ts,ls,h⟩:=AOps.gC hg hc (fun hC=>Cert.ungd hk (hi hC) (Cert.callP hf ha (hc2 hC))) hd hr
theorem Gc2 (k k':Nat) (hg:(ops[gi]?).bind (·.dst)=some dg) (hc:gc (get ts dg) want=some C) (hk:Ab.get ts k=.gd c x) (hk':Ab.get ((k,.a x)::ts) k'=.gd c' x') (hf:ev ((k',.a x')::(k,.a x)::ts) f=.a (.d (.func fid caps))) (ha:evAs ((k',.a x')::(k,.a x)::ts) args.toList=some xs) (hc2:C=true->∀H:Heap,AC P fid (xs++caps.map A.d) H fun r h'=>r=v/\h'=H) (hr:AOps P ops rest Q ⟨n,(d,v.under C)::ts,ls,h⟩) (hi:C=true->c=true:=by exact gI) (hi':C=true->c'=true:=by exact gI) (hd:Nat.blt d n=true:=by exact rfl):AOps P ops (⟨some d,.call { callee:=.value f,args:=args,argTypes:=ats },ty,pos,aft,some (gi,want)⟩::rest) Q ⟨n,ts,ls,h⟩:=AOps.gC hg hc (fun hC=>Cert.ungd hk (hi hC) (Cert.ungd hk' (hi' hC) (Cert.callP hf ha (hc2 hC)))) hd hr
theorem G0d (hs:Cert P ⟨some d,op,ty,pos,aft,some (gi,want)⟩ ts ls h fx v ls h) (hr:DOps P ops n rest (fx.plain::done) Q ⟨n,(d,v.under C)::ts,ls,h⟩) (hg:(ops[gi]?).bind (·.dst)=some dg:=by exact rfl) (hc:gc (get ts dg) want=some C:=by exact rfl) (hd:Nat.blt d n=true:=by exact rfl):DOps P ops n (⟨some d,op,ty,pos,aft,some (gi,want)⟩::rest) done Q ⟨n,ts,ls,h⟩:=DOps.gC hg hc (fun _=>hs) hd hr
theorem G1d (k:Nat) (hk:Ab.get ts k=.gd c x) (hs:Cert P ⟨some d,op,ty,pos,aft,some (gi,want)⟩ ((k,.a x)::ts) ls h fx v ls h) (hr:DOps P ops n rest (fx.plain::done) Q ⟨n,(d,v.under C)::ts,ls,h⟩) (hg:(ops[gi]?).bind (·.dst)=some dg:=by exact rfl) (hc:gc (get ts dg) want=some C:=by exact rfl) (hd:Nat.blt d n=true:=by exact rfl) (hi:C=true->c=true:=by exact gI):DOps P ops n (⟨some d,op,ty,pos,aft,some (gi,want)⟩::rest) done Q ⟨n,ts,ls,h⟩:=DOps.gC hg hc (fun hC=>Cert.ungd hk (hi hC) hs) hd hr
theorem G2d (k k':Nat) (hk:Ab.get ts k=.gd c x) (hk':Ab.get ((k,.a x)::ts) k'=.gd c' x') (hs:Cert P ⟨some d,op,ty,pos,aft,some (gi,want)⟩ ((k',.a x')::(k,.a x)::ts) ls h fx v ls h) (hr:DOps P ops n rest (fx.plain::done) Q ⟨n,(d,v.under C)::ts,ls,h⟩) (hg:(ops[gi]?).bind (·.dst)=some dg:=by exact rfl) (hc:gc (get ts dg) want=some C:=by exact rfl) (hd:Nat.blt d n=true:=by exact rfl) (hi:C=true->c=true:=by exact gI) (hi':C=true->c'=true:=by exact gI):DOps P ops n (⟨some d,op,ty,pos,aft,some (gi,want)⟩::rest) done Q ⟨n,ts,ls,h⟩:=DOps.gC hg hc (fun hC=>Cert.ungd hk (hi hC) (Cert.ungd hk' (hi' hC) hs)) hd hr
theorem Gc1d (k:Nat) (hg:(ops[gi]?).bind (·.dst)=some dg) (hc:gc (get ts dg) want=some C) (hk:Ab.get ts k=.gd c x) (hf:ev ((k,.a x)::ts) f=.a (.d (.func fid caps))) (ha:evAs ((k,.a x)::ts) args.toList=some xs) (hc2:C=true->∀H:Heap,AC P fid (xs++caps.map A.d) H fun r h'=>r=v/\h'=H) (hr:DOps P ops n rest (Fx.plain {}::done) Q ⟨n,(d,v.under C)::ts,ls,h⟩) (hi:C=true->c=true:=by exact gI) (hd:Nat.blt d n=true:=by exact rfl):DOps P ops n (⟨some d,.call { callee:=.value f,args:=args,argTypes:=ats },ty,pos,aft,some (gi,want)⟩::rest) done Q ⟨n,ts,ls,h⟩:=DOps.gC hg hc (fun hC=>Cert.ungd hk (hi hC) (Cert.callP hf ha (hc2 hC))) hd hr
theorem Gc2d (k k':Nat) (hg:(ops[gi]?).bind (·.dst)=some dg) (hc:gc (get ts dg) want=some C) (hk:Ab.get ts k=.gd c x) (hk':Ab.get ((k,.a x)::ts) k'=.gd c' x') (hf:ev ((k',.a x')::(k,.a x)::ts) f=.a (.d (.func fid caps))) (ha:evAs ((k',.a x')::(k,.a x)::ts) args.toList=some xs) (hc2:C=true->∀H:Heap,AC P fid (xs++caps.map A.d) H fun r h'=>r=v/\h'=H) (hr:DOps P ops n rest (Fx.plain {}::done) Q ⟨n,(d,v.under C)::ts,ls,h⟩) (hi:C=true->c=true:=by exact gI) (hi':C=true->c'=true:=by exact gI) (hd:Nat.blt d n=true:=by exact rfl):DOps P ops n (⟨some d,.call { callee:=.value f,args:=args,argTypes:=ats },ty,pos,aft,some (gi,want)⟩::rest) done Q ⟨n,ts,ls,h⟩:=DOps.gC hg hc (fun hC=>Cert.ungd hk (hi hC) (Cert.ungd hk' (hi' hC) (Cert.callP hf ha (hc2 hC)))) hd hr
theorem Mv [Tabs P] (e:Cert P o ts ls h fx v ls' h':=by exact Cert.moveA):Cert P o ts ls h fx v ls' h':=e
theorem As [Tabs P] (e:Cert P o ts ls h fx v ls' h':=by exact Cert.assignA):Cert P o ts ls h fx v ls' h':=e
theorem Ld [Tabs P] (e:Cert P o ts ls h fx v ls' h':=by exact Cert.loadV (TKc rfl) rfl rfl rfl):Cert P o ts ls h fx v ls' h':=e
theorem Fv [Tabs P] (e:Cert P o ts ls h fx v ls' h':=by exact Cert.fieldVA (TKc rfl) rfl rfl (TKc rfl) rfl rfl):Cert P o ts ls h fx v ls' h':=e
theorem BI [Tabs P] (e:Cert P o ts ls h fx v ls' h':=by exact Cert.binI rfl rfl rfl):Cert P o ts ls h fx v ls' h':=e
theorem BS [Tabs P] (e:Cert P o ts ls h fx v ls' h':=by exact Cert.binS rfl rfl rfl):Cert P o ts ls h fx v ls' h':=e
theorem PA [Tabs P] (e:Cert P o ts ls h fx v ls' h':=by exact Cert.pickAndA rfl rfl rfl):Cert P o ts ls h fx v ls' h':=e
theorem PO [Tabs P] (e:Cert P o ts ls h fx v ls' h':=by exact Cert.pickOrA rfl rfl rfl):Cert P o ts ls h fx v ls' h':=e
theorem NB [Tabs P] (e:Cert P o ts ls h fx v ls' h':=by exact Cert.notB rfl):Cert P o ts ls h fx v ls' h':=e
theorem EX [Tabs P] (e:Cert P o ts ls h fx v ls' h':=by exact Cert.extract rfl rfl):Cert P o ts ls h fx v ls' h':=e
theorem BX [Tabs P] (e:Cert P o ts ls h fx v ls' h':=by exact Cert.boxV rfl):Cert P o ts ls h fx v ls' h':=e
theorem LL [Tabs P] (e:Cert P o ts ls h fx v ls' h':=by exact Cert.loadL (TKc rfl) rfl rfl rfl rfl):Cert P o ts ls h fx v ls' h':=e
theorem FL [Tabs P] (e:Cert P o ts ls h fx v ls' h':=by exact Cert.fieldL (TKc rfl) rfl rfl (TKc rfl) rfl rfl):Cert P o ts ls h fx v ls' h':=e
theorem BU [Tabs P] (e:Cert P o ts ls h fx v ls' h':=by exact Cert.build Tabs.ok rfl rfl rfl rfl rfl rfl):Cert P o ts ls h fx v ls' h':=e
theorem BV [Tabs P] (e:Cert P o ts ls h fx v ls' h':=by exact Cert.buildSlice (TKc rfl) rfl (TKc rfl) rfl rfl rfl rfl rfl rfl):Cert P o ts ls h fx v ls' h':=e
theorem NP [Tabs P] (e:Cert P o ts ls h fx v ls' h':=by exact Cert.nilP rfl):Cert P o ts ls h fx v ls' h':=e
theorem AOps.SI {t u:TypeId}{x y:Operand}{p q:Int}(hr:AOps P ops rest Q ⟨n,(d,.a (.d (.int .i64 (p+q))))::ts,ls,h⟩) (hx:ev ts x=.a (.d (.int .i64 p)):=by exact rfl) (hy:ev ts y=.a (.d (.int .i64 q)):=by exact rfl)
  (h1 : -9223372036854775808<=p+q:=by first|omega|(dsimp only; omega)|(simp at *; omega)) (h2:p+q<=9223372036854775807:=by first|omega|(dsimp only; omega)|(simp at *; omega)) (hd:Nat.blt d n=true:=by exact rfl) :
  AOps P ops (⟨some d,.binOp .add t x y u,ty,pos,aft,none⟩::rest) Q ⟨n,ts,ls,h⟩:=AOps.s0 (Cert.addI hx hy h1 h2) hd hr
theorem AOps.Sc {f:Operand}{args:Array Operand}{ats:Array TypeId}{fid:FuncId}{caps:List D}{xs:List A}(hf:ev ts f=.a (.d (.func fid caps))) (ha:evAs ts args.toList=some xs)
  (hc:∀H:Heap,AC P fid (xs++caps.map A.d) H fun r h'=>r=v/\h'=H) (hr:AOps P ops rest Q ⟨n,(d,v)::ts,ls,h⟩) (hd:Nat.blt d n=true:=by exact rfl):AOps P ops (⟨some d,.call { callee:=.value f,args:=args,argTypes:=ats },ty,pos,aft,none⟩::rest) Q ⟨n,ts,ls,h⟩:=AOps.s0 (Cert.callP hf ha hc) hd hr
theorem AOps.Sl [Tabs P] (hr:AOps P ops rest Q ⟨n,(d,v)::ts,ls',h⟩) (hs:Cert P ⟨some d,op,ty,pos,aft,none⟩ ts ls h { wl:=true } v ls' h:=by exact Cert.allocLA (TKc rfl) rfl) (hd:Nat.blt d n=true:=by exact rfl) :
  AOps P ops (⟨some d,op,ty,pos,aft,none⟩::rest) Q ⟨n,ts,ls,h⟩:=AOps.sL hs hd hr
theorem AOps.Sf [Tabs P] (hr:AOps P ops rest Q ⟨n,ts,ls',h⟩) (hs:Cert P ⟨none,op,ty,pos,aft,none⟩ ts ls h { wl:=true } v ls' h:=by first|exact Cert.storeLFA (TKc rfl) rfl rfl rfl rfl rfl|exact Cert.storeL1 (TKc rfl) rfl rfl rfl rfl (by repeat (first|exact SetAt.zero|apply SetAt.succ)) (by repeat (first|exact SetAt.zero|apply SetAt.succ))) :
  AOps P ops (⟨none,op,ty,pos,aft,none⟩::rest) Q ⟨n,ts,ls,h⟩:=AOps.sLn hs hr
theorem AOps.hq {h:Heap}(h':Heap) (hw:AOps P ops rest Q ⟨n,ts,ls,h'⟩) (e:h=h':=by first|rfl|(rw [Heap.set_set]; rfl)|(funext n_; simp only [Heap.set]; (repeat' split)<;>first|rfl|(exfalso; simp_all; done)|(simp_all; done))):AOps P ops rest Q ⟨n,ts,ls,h⟩:=AOps.heq e hw
theorem DOps.Dh {h:Heap}(h':Heap) (hw:DOps P ops n rest done Q ⟨n,ts,ls,h'⟩) (e:h=h':=by first|rfl|(rw [Heap.set_set]; rfl)|(funext n_; simp only [Heap.set]; (repeat' split)<;>first|rfl|(exfalso; simp_all; done)|(simp_all; done))):DOps P ops n rest done Q ⟨n,ts,ls,h⟩:=DOps.heq e hw
end
section
variable {P:Program}{Q:Exit->St->Prop}{σ:St}
theorem AWp.seqR {id:Nat}{l:List Oper}{y:Code}(h:AOps P l.toArray l (fun σ'=>AWp P y Q σ') σ):AWp P (.seq (.region id l.toArray false) y) Q σ:=AWp.seq (AWp.region h)
theorem AWp.seqD {id:Nat}{l:List Oper}{y:Code}(h:DOps P l.toArray σ.n l [] (fun σ'=>AWp P y Q σ') σ) (hm:P.follows .mixedOrders=true:=by exact rfl):AWp P (.seq (.region id l.toArray true) y) Q σ:=AWp.seq (AWp.draw hm h)
theorem AWp.sk {A K:St->Prop}(hK:∀σ,A σ->K σ) (h:A σ) (e:K σ->Q .normal σ:=by exact id):AWp P .skip Q σ:=AWp.skip (e (hK _ h))
theorem AWp.rt {α:Type}{a r:α}(hE:some a=some r) (h:a=r->Q .ret σ:=by intro e; subst e; (repeat (first|refine xBlock_ret ?_|refine xThen_ret ?_)); exact retQ.retF _ rfl ⟨rfl,rfl⟩ (fun _ _ h=>h)):AWp P .ret Q σ:=AWp.ret (h (Option.some.inj hE))
end
theorem bO {α β:Type}{o:Option α}{k:α->Option β}{r:β}(h:o.bind k=some r):∃x,o=some x/\k x=some r:=bindO_some h
theorem gO {α β:Type}{c:Bool}{o:Option α}{d:α}{k:α->Option β}{r:β}(h:guardO c o d k=some r):∃x,(c=true->o=some x)/\k x=some r:=guardO_some h
theorem Keeps.KA {ts:Ts}{m:Nat}{v:V}{r:Ts}(k:Nat) (t:Keeps ts m r) (h:Ab.get ts k=v:=by conv=>lhs; whnf) (hv:v.noL m=true:=by rfl):Keeps ts m ((k,v)::r):=Keeps.c h hv t
theorem KeepsT.TA {ts:Ts}{v:V}{r:Ts}(k:Nat) (t:KeepsT ts r) (h:Ab.get ts k=v:=by conv=>lhs; whnf):KeepsT ts ((k,v)::r):=KeepsT.cons h t
section
variable {P:Program}{α:Type}{ts:Ts}{ls ls':List (List D)}{h h':Heap}{dst:Option Tmp}{ty:TypeId}{pos:String}{aft:Array Edge}{g:Option (Nat×Bool)}{ops:Array Oper}{rest:List Oper}{Q:St->Prop}{n d:Nat}{v:V}{op:Op}{done:List Fx}
theorem ix [Tabs P] (f:α->List D) (n:Nat){t e:TypeId}{ti ei:TI}{x i:Operand}{tok:Option Nat}{s:Sl α}{ik:IntKind}{y:α}{k:Nat}(hr:s.l[n]?=some y) (hT:mkTI P t=some ti:=by exact TKc rfl) (hk:ti.k=.slice e:=by exact rfl) (hE:mkTI P e=some ei:=by exact TKc rfl)
  (hx:ev ts x=.a (.d (s.d k f tok)):=by exact rfl) (hi:ev ts i=.a (.d (.int ik (n:Int))):=by exact rfl) (hkk:k=ei.size:=by exact rfl):Cert P ⟨dst,.indexAddr t x i,ty,pos,aft,g⟩ ts ls h {} (.a (.d (.view (f y)))) ls h:=Cert.idxMn hT hk hE hx hi hkk hr
theorem am {t u e:TypeId}{ti ui ei:TI}(f:α->List D){x y:Operand}{tk k k' m:Nat}{tok':Option Nat}{s r w:Sl α}{z:A}(hT:mkTI P t=some ti) (hk:ti.k=.slice e) (hE:mkTI P e=some ei) (hU:mkTI P u=some ui) (hr:appC ei.bytes s r=some w) (huk:∃e,ui.k=.slice e:=by exact⟨_,rfl⟩)
  (hz:ei.zero=some z:=by exact rfl) (hzs:(cellsA z).length=ei.size:=by exact rfl) (hsz:ei.size≠0:=by decide) (hx:ev ts x=.a (.d (s.d k f (some tk))):=by exact rfl) (hy:ev ts y=.a (.d (r.d k' f tok')):=by exact rfl) (hkk:k=ei.size:=by exact rfl) (hkk':k'=ei.size:=by exact rfl)
  (htk:h tk=some (.tok ei.size m):=by exact hpG) (hm:m=s.l.length:=by exact rfl):Cert P ⟨dst,.call { callee:=.builtin .append,args:=#[x,y],argTypes:=#[t,u] },ty,pos,aft,g⟩ ts ls h { rh:=true,wh:=true } (.a (.d (w.d k f (some tk)))) ls (h.set tk (some (.tok ei.size w.l.length))) :=
 Cert.appM hT hk hE hU huk hz hzs hsz hx hy hkk hkk' htk hm hr
theorem SH (hs:Cert P ⟨some d,op,ty,pos,aft,none⟩ ts ls h { rh:=true,wh:=true } v ls h') (hr:AOps P ops rest Q ⟨n,(d,v)::ts,ls,h'⟩) (hd:Nat.blt d n=true:=by exact rfl):AOps P ops (⟨some d,op,ty,pos,aft,none⟩::rest) Q ⟨n,ts,ls,h⟩:=AOps.sH hs hd hr
theorem Scd {f:Operand}{args:Array Operand}{ats:Array TypeId}{fid:FuncId}{caps:List D}{xs:List A}(hf:ev ts f=.a (.d (.func fid caps))) (ha:evAs ts args.toList=some xs)
  (hc:∀H:Heap,AC P fid (xs++caps.map A.d) H fun r h'=>r=v/\h'=H) (hr:DOps P ops n rest (Fx.plain {}::done) Q ⟨n,(d,v)::ts,ls,h⟩) (hd:Nat.blt d n=true:=by exact rfl):DOps P ops n (⟨some d,.call { callee:=.value f,args:=args,argTypes:=ats },ty,pos,aft,none⟩::rest) done Q ⟨n,ts,ls,h⟩:=DOps.s0 (Cert.callP hf ha hc) hd hr
end
theorem Qe {α:Type}{a b c:α}(h:c=b) (e:a=b):a=c:=e.trans h.symm
theorem Qs {α:Type}{o p:Option α}(h:o=p.bind some):o=p:=h.trans (Q.some_bind p)
theorem QT {α:Type}{i n:Nat}{a b r:α}(h:i<n) (e:a=r):cond (decide ((i:Int)<(n:Int))) a b=r:=Q.condT (Q.ltT h) e
theorem QF {α:Type}{i n:Nat}{a b r:α}(h:¬i<n) (e:b=r):cond (decide ((i:Int)<(n:Int))) a b=r:=Q.condF (Q.ltF h) e
theorem Qa {α:Type}{l:List α}{i:Nat}(h:i<l.length):∃x,l[i]?=some x:=⟨_,List.getElem?_eq_getElem h⟩
theorem dL {α:Type}{i:Nat}{l:List α}(h:l.length<=i):l.drop i=[]:=List.drop_of_length_le h
end Go.Ab

/-
 A law's call beside the library's table of powers of ten. No program text.
-/
namespace Go.Ab
open Go Go.RowKit Go.Proofs Go.ChangeShapes Go.WideShapes Go.ChangeAt
variable {lou:Lou}

theorem tab_of {P:Program}{W:World}{l:List (String×DataW Unit)}{name:String}{k:IntKind}{zs:List Int}{g:Nat}{t e:TypeId}{n:Nat}(hg:P.globalNamed name=some g) (hty:(P.globals[g]?).map (·.type)=some t) (ht:P.underlying t=some (.array n e))
  (he:P.underlying e=some (.int k)) (hce:P.cellsOf e=1) (hct:P.cellsOf t=n) (h:laidMet P l W) (hm:(name,Lib.tabData k zs)∈l):∃u fr,W.heap[g]?=some (.cells (zs.map fun z=>Value.int k z).toArray u fr):=by
 obtain⟨g',t',cs,fuel,p,hg',ht',hv,hd⟩:=Lib.laidMet.reads h hm;obtain rfl:=Option.some.inj (hg.symm.trans hg');obtain rfl:=Option.some.inj (hty.symm.trans ht');have hc:=Lib.cells_of_tab ht he hce hct hd;unfold World.var? at hv;rw [hg,Option.bind_some] at hv
 split at hv
 ·rename_i c u fr hb
  simp only [Option.some.injEq] at hv;subst hv;refine⟨u,fr, ?_⟩;rw [<- hc];exact hb
 ·cases hv
def hTab (g:Nat) (o:Go.Obj):Heap:=fun i=>if i=0 then some (.fix g o) else none
def jT (w:World):J:={ j0 w with next:=1 }
theorem jT_le (w:World):Le (j0 w) w (jT w) w:=⟨Nat.zero_le _,fun _ h=>absurd h (Nat.not_lt_zero _),fun _=>Nat.le_refl _,fun _ _ _=>rfl,fun _ h=>absurd h (Nat.not_lt_zero _)⟩
theorem hrelT {w:World}{g:Nat}{o:Go.Obj}(h:w.heap[g]?=some o):HRel (jT w) w (hTab g o):=by
 refine⟨fun id ob hi=>?_,fun id1 o1 id2 o2 b h1 h2 _ _=>?_,fun b hb=>(by simp [jT,j0,Array.getElem?_eq_none hb])⟩
 ·unfold hTab at hi
  split at hi
  ·rename_i h0; subst h0; cases hi; exact⟨Nat.zero_lt_one,h⟩
  ·cases hi
 ·unfold hTab at h1 h2
  split at h1
  ·split at h2
   ·rename_i h3 h4; rw [h3,h4]
   ·cases h2
  ·cases h1
theorem law_callsT {P:Program}{f:FuncId}{xs:List A}{g:Nat}{o:Go.Obj}(hc:@AC Lou.on P f xs (hTab g o) fun r h'=>r=.a (.d (.bool true))/\h'=hTab g o){W:World}{args:List Value}(hg:W.heap[g]?=some o) (ha:All2 (ARel (j0 W) W) xs args) :
  Calls P f args.toArray W fun e W'=>e=.returned (.bool true)/\Below W.heap.size W W':=by
 letI:Lou:=Lou.on
 refine(hc.runs (jT W) W args (hrelT hg) (ha.imp fun _ _ h=>h.mono (jT_le W))).mono ?_;rintro e W' ⟨r,cv,j',h',rfl,⟨rfl,rfl⟩,hv,hr,hev⟩;have hv':DRel j' W' (.bool true) cv:=hv;cases hv';refine⟨rfl,hev.os,hev.tape,hev.output.1,hev.size,fun k hk=>?_⟩;by_cases hkg:k=g
 ·subst hkg;have h1:W'.heap[k]?=some o:=(hr.obj 0 (.fix k o) rfl).2;rw [h1,hg]
 ·refine(hev.frame k hk ?_).1;rintro (h|⟨id,ob,h,hb⟩)
  ·cases h
  ·unfold hTab at h
   split at h
   ·cases h;simp only [blkOf,Option.some.injEq] at hb;exact hkg hb.symm
   ·cases h
theorem IsTab.of {P:Program}{g:Nat}{u:TypeId}{fr:Nat×Nat}(hg:P.globalNamed "internal/strconv.uint64pow10"=some g):IsTab P (.fix g (.cells (Lib.pow10Tab.map fun z=>Value.int .u64 z).toArray u fr)):=⟨g,u,fr,rfl,hg⟩
end Go.Ab
namespace Go.Ab
theorem oB {α β : Type} (a : α) (f : α → Option β) : (some a).bind f = f a := rfl
theorem oJ {α : Type} {a b : α} (h : some a = some b) : a = b := Option.some.inj h
theorem nS (n : Nat) : n < n.succ := Nat.lt_succ_self n
theorem oD {p : Prop} [Decidable p] (h : decide p = true) : p := of_decide_eq_true h
theorem dF {p : Prop} [Decidable p] (h : ¬ p) : decide p = false := decide_eq_false h
theorem dT {p : Prop} [Decidable p] (h : p) : decide p = true := decide_eq_true h
theorem kN {ts : Ts} : KeepsT ts [] := .nil
end Go.Ab
