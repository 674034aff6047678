import Derived.Test.YtiamohifcjoepaaGreatDoorE2
import Derived.Defers
import Derived.Laws.IdiomRangeMap
import Derived.Sort.Grow
import Derived.Shelf.Spec.SlicesGrow
import Derived.WalkKit
import Derived.ProofKit
import Derived.OpenShut
import Derived.JoinedCond
import Derived.Carry
set_option maxRecDepth 100000
set_option maxHeartbeats 2000000
set_option linter.unusedVariables false
set_option linter.unusedSimpArgs false
/-
 The rules as a walk applies them.
-/
namespace Go.Ab
open Go Go.RowKit
variable {lou:Lou}
variable {amb:Amb}
section
variable {P:Program}{ops:Array Oper}{rest:List Oper}{Q:St->Prop}{n:Nat}{ts:Ts}{ls ls':List (List D)}{h h':Heap}{fx:Fx}{v:V}{d dg gi:Nat}{op:Op}{ty:TypeId}{pos:String}{aft:Array Edge}{want b:Bool}

theorem AOps.s0 (hs:Cert P ⟨some d,op,ty,pos,aft,none⟩ ts ls h fx v ls h) (hd:Nat.blt d n=true) (hr:AOps P ops rest Q ⟨n,(d,v)::ts,ls,h⟩):AOps P ops (⟨some d,op,ty,pos,aft,none⟩::rest) Q ⟨n,ts,ls,h⟩ :=
 AOps.step hs rfl hd (by cases fx.wl<;>cases fx.wh<;>exact hr)
theorem AOps.sL (hs:Cert P ⟨some d,op,ty,pos,aft,none⟩ ts ls h { wl:=true } v ls' h) (hd:Nat.blt d n=true) (hr:AOps P ops rest Q ⟨n,(d,v)::ts,ls',h⟩):AOps P ops (⟨some d,op,ty,pos,aft,none⟩::rest) Q ⟨n,ts,ls,h⟩ :=
 AOps.step hs rfl hd hr
theorem AOps.sLn (hs:Cert P ⟨none,op,ty,pos,aft,none⟩ ts ls h { wl:=true } v ls' h) (hr:AOps P ops rest Q ⟨n,ts,ls',h⟩):AOps P ops (⟨none,op,ty,pos,aft,none⟩::rest) Q ⟨n,ts,ls,h⟩ :=
 AOps.step hs rfl rfl hr
theorem AOps.sH (hs:Cert P ⟨some d,op,ty,pos,aft,none⟩ ts ls h { rh:=true,wh:=true } v ls h') (hd:Nat.blt d n=true) (hr:AOps P ops rest Q ⟨n,(d,v)::ts,ls,h'⟩):AOps P ops (⟨some d,op,ty,pos,aft,none⟩::rest) Q ⟨n,ts,ls,h⟩ :=
 AOps.step hs rfl hd hr
theorem AOps.sHn (hs:Cert P ⟨none,op,ty,pos,aft,none⟩ ts ls h fx v ls h') (hf:fx.wl=false) (hf':fx.wh=true) (hr:AOps P ops rest Q ⟨n,ts,ls,h'⟩):AOps P ops (⟨none,op,ty,pos,aft,none⟩::rest) Q ⟨n,ts,ls,h⟩ :=
 AOps.step hs rfl rfl (by rw [hf,hf']; exact hr)
theorem AOps.sE {R:V->List (List D)->Heap->Prop}(hs:StepE P ⟨some d,op,ty,pos,aft,none⟩ ts ls h R) (hd:Nat.blt d n=true) (hr:∀v ls' h',R v ls' h'->AOps P ops rest Q ⟨n,(d,v)::ts,ls',h'⟩) :
  AOps P ops (⟨some d,op,ty,pos,aft,none⟩::rest) Q ⟨n,ts,ls,h⟩:=AOps.stepE hs rfl hd hr
theorem guardOf_mk (hg:(ops[gi]?).bind (·.dst)=some dg){dst:Option Tmp}:guardOf ops ⟨dst,op,ty,pos,aft,some (gi,want)⟩=some (dg,want):=by
 simp only [guardOf,hg]

variable {done:List Fx}
theorem DOps.s0 (hs:Cert P ⟨some d,op,ty,pos,aft,none⟩ ts ls h fx v ls h) (hd:Nat.blt d n=true) (hr:DOps P ops n rest (fx.plain::done) Q ⟨n,(d,v)::ts,ls,h⟩):DOps P ops n (⟨some d,op,ty,pos,aft,none⟩::rest) done Q ⟨n,ts,ls,h⟩ :=
 DOps.cons (CertG.plain hs rfl hd) (by cases fx with|mk a b c d e=>cases b<;>cases d<;>exact hr)
theorem Born.alloc {e:TypeId}{ti:TI}{z:A}{i:Nat}{ls':List (List D)}(hT:mkTI P e=some ti) (hz:ti.zero=some z) (hs:Snoc (cellsA z) ls i ls'):Born P ⟨some d,.alloc e,ty,pos,aft,none⟩ (.lptr i 0) ls ls':=by
 obtain⟨inf,dd,h1,_,_,_,_,h2⟩:=mkTI_spec hT;rw [hz] at h2;obtain⟨v,h3,h4⟩:=zeroF_rel h2;obtain⟨e1,e2⟩:=hs.spec;refine⟨cellsA z,d,rfl,rfl,by rw [e1],e2,v.cells.toList,e,fun j w=>(h4 j w).cells,fun a w K Q hk=>?_⟩;have hrun:(execOp a.eval (⟨some d,.alloc e,ty,pos,aft,none⟩:Oper)).run P w=.ok (.value (.pointer (some ⟨w.heap.size,0,none⟩))) (w.alloc (.cells v.cells e)):=by
  simp [execOp,Instr.alloc,zeroValue,typeInfo,h1,h3,newVar,newRow]
 unfold Oper.wp;rw [hrun,Oper.upon_value];rw [Array.toArray_toList] at hk;exact hk
theorem DOps.sB {e:TypeId}{ti:TI}{z:A}{i:Nat}{ls':List (List D)}(hT:mkTI P e=some ti) (hz:ti.zero=some z) (hd:Nat.blt d n=true) (hr:DOps P ops n rest ({ wl:=true,nu:=true }::done) Q ⟨n,(d,.lptr i 0)::ts,ls',h⟩)
  (hs:Snoc (cellsA z) ls i ls':=by repeat (first|exact Snoc.nil|apply Snoc.cons)):DOps P ops n (⟨some d,.alloc e,ty,pos,aft,none⟩::rest) done Q ⟨n,ts,ls,h⟩:=DOps.born (Born.alloc hT hz hs) hd hr
theorem DOps.sLn (hs:Cert P ⟨none,op,ty,pos,aft,none⟩ ts ls h { wl:=true } v ls' h) (hr:DOps P ops n rest ({ wl:=true }::done) Q ⟨n,ts,ls',h⟩):DOps P ops n (⟨none,op,ty,pos,aft,none⟩::rest) done Q ⟨n,ts,ls,h⟩ :=
 DOps.cons (CertG.plain hs rfl rfl) hr
theorem DOps.sH (hs:Cert P ⟨some d,op,ty,pos,aft,none⟩ ts ls h { rh:=true,wh:=true } v ls h') (hd:Nat.blt d n=true) (hr:DOps P ops n rest ({ rh:=true,wh:=true }::done) Q ⟨n,(d,v)::ts,ls,h'⟩) :
  DOps P ops n (⟨some d,op,ty,pos,aft,none⟩::rest) done Q ⟨n,ts,ls,h⟩:=DOps.cons (CertG.plain hs rfl hd) hr
theorem DOps.sHn (hs:Cert P ⟨none,op,ty,pos,aft,none⟩ ts ls h fx v ls h') (hf:fx.wl=false) (hf':fx.wh=true) (hr:DOps P ops n rest (fx.plain::done) Q ⟨n,ts,ls,h'⟩):DOps P ops n (⟨none,op,ty,pos,aft,none⟩::rest) done Q ⟨n,ts,ls,h⟩ :=
 DOps.cons (CertG.plain hs rfl rfl) (by rw [hf,hf']; exact hr)
end

section
variable {P:Program}{ops:Array Oper}{rest:List Oper}{Q:St->Prop}{n:Nat}{ts:Ts}{ls ls':List (List D)}{h h':Heap}{fx:Fx}{x:A}{d dg gi:Nat}{op:Op}{ty:TypeId}{pos:String}{aft:Array Edge}{want C:Bool}

def gc:V->Bool->Option Bool
 | .a (.d (.bool b)),true=>some b
 | .a (.d (.bool b)),false=>some (!b)
 | .gd c (.d (.bool b)),true=>some (c&&b)
 | .gd c (.d (.bool b)),false=>some (c&&!b)
 | _,_=>none

theorem wanted_gc {j:J}{w:World}{jl:List Nat}{a:Act}{o:Oper}(hg:guardOf ops o=some (dg,want)) (hc:gc (get ts dg) want=some C) (h:VRel j w jl (get ts dg) (a.tmps.getD dg undef)) :
  Region.wanted o (yielded ops a.tmps)=C:=by
 cases hv:get ts dg with
 | a y =>
  cases y with
  | d z =>
   cases z with
   | bool b =>
    rw [hv] at hc;cases want<;>simp only [gc,Option.some.injEq] at hc<;>subst hc<;>rw [wanted_some hg hv h]<;>cases b<;>rfl
   | _=>rw [hv] at hc; cases want<;>simp [gc] at hc
  | agg z=>rw [hv] at hc; cases want<;>simp [gc] at hc
 | gd c y =>
  cases y with
  | agg z=>rw [hv] at hc; cases want<;>simp [gc] at hc
  | d z =>
   cases z with
   | bool b =>
    rw [hv] at hc;rw [hv] at h;cases c with
    | true =>
     have h1:VRel j w jl (get [(dg,.a (.d (.bool b)))] dg) (a.tmps.getD dg undef):=by rw [get_same]; exact h.1 rfl
     cases want<;>simp only [gc,Option.some.injEq,Bool.true_and] at hc<;>subst hc<;>rw [wanted_some (ts:=[(dg,.a (.d (.bool b)))]) hg (get_same _ _ _) h1]<;>cases b<;>rfl
    | false =>
     have h2:=h.2 rfl;have hC:C=false:=by cases want<;>simp [gc] at hc<;>exact hc
     subst hC;unfold guardOf at hg
     split at hg
     ·simp at hg
     ·rename_i g wnt hgd
      split at hg
      ·rename_i d' hd'
       simp only [Option.some.injEq,Prod.mk.injEq] at hg;obtain⟨rfl,rfl⟩:=hg;have hs:a.tmps[d']?=none\/a.tmps[d']?=some (.tuple #[]):=by
        rw [Array.getD_eq_getD_getElem?] at h2;cases e:a.tmps[d']? with
        | none=>exact .inl rfl
        | some y=>rw [e] at h2; simp at h2; rw [h2]; exact .inr rfl
       simp only [Region.wanted,hgd,yielded,hd',Option.bind_some];rcases hs with e|e<;>rw [e]<;>rfl
      ·simp at hg
   | _=>rw [hv] at hc; cases want<;>simp [gc] at hc
 | any=>rw [hv] at hc; cases want<;>simp [gc] at hc
 | lptr _ _=>rw [hv] at hc; cases want<;>simp [gc] at hc
 | tup _=>rw [hv] at hc; cases want<;>simp [gc] at hc
 | gdl _ _ _=>rw [hv] at hc; cases want<;>simp [gc] at hc
 | full _ _=>rw [hv] at hc; cases want<;>simp [gc] at hc
 | gdf _ _ _=>rw [hv] at hc; cases want<;>simp [gc] at hc

theorem Cert.ungd {o:Oper}{v:V}{k:Nat}{c:Bool}(hk:get ts k=.gd c x) (hc:c=true) (hs:Cert P o ((k,.a x)::ts) ls h fx v ls' h'):Cert P o ts ls h fx v ls' h':=by
 intro L H hL hH j w jl a hl ho;refine hs L H hL hH j w jl a hl fun y hy=>?_;have h1:=ho y hy;cases y with
 | tmp t =>
  by_cases e:k=t
  ·subst e;simp only [ev] at h1 ⊢;rw [get_same];rw [hk] at h1;exact h1.1 hc
  ·simp only [ev] at h1 ⊢;rw [get_other _ _ e]; exact h1
 | _=>exact h1

theorem Cert.ungdL {o:Oper}{v:V}{k:Nat}{c:Bool}{i off:Nat}(hk:get ts k=.gdl c i off) (hc:c=true) (hs:Cert P o ((k,.lptr i off)::ts) ls h fx v ls' h'):Cert P o ts ls h fx v ls' h':=by
 intro L H hL hH j w jl a hl ho;refine hs L H hL hH j w jl a hl fun y hy=>?_;have h1:=ho y hy;cases y with
 | tmp t =>
  by_cases e:k=t
  ·subst e;simp only [ev] at h1 ⊢;rw [get_same];rw [hk] at h1;exact h1.1 hc
  ·simp only [ev] at h1 ⊢;rw [get_other _ _ e]; exact h1
 | _=>exact h1
theorem AOps.gC {v:V}(hg:(ops[gi]?).bind (·.dst)=some dg) (hc:gc (get ts dg) want=some C) (hs:C=true->Cert P ⟨some d,op,ty,pos,aft,some (gi,want)⟩ ts ls h fx v ls h) (hd:Nat.blt d n=true)
  (hr:AOps P ops rest Q ⟨n,(d,v.under C)::ts,ls,h⟩):AOps P ops (⟨some d,op,ty,pos,aft,some (gi,want)⟩::rest) Q ⟨n,ts,ls,h⟩:=by
 intro j w jl a hsr Qc hk;have hwant:=wanted_gc (o:=⟨some d,op,ty,pos,aft,some (gi,want)⟩) (guardOf_mk hg) hc (hsr.tmps dg);refine wpList_step fun K hK=>?_;rw [hwant];cases C with
 | true =>
  rw [if_pos rfl];refine(hs rfl).step j w jl a hsr.hl (fun x _=>ev_rel hsr.tmps x) K Qc fun v0 l k cv j' w' jl' ⟨e1,e2,e3⟩ hv hl hx hev=>hK _ _ ?_;have e2':l=ls:=by rw [e2]; cases fx.wl<;>rfl
  have e3':k=h:=by rw [e3]; cases fx.wh<;>rfl
  subst e1 e2' e3';exact hr j' w' jl' _ (hsr.put hev.toLe hx (dst:=some d) hd (v:=_) (V.under_true hv) hl) Qc fun σ' j2 w2 jl2 a2 hq hs2 hev2=>hk σ' j2 w2 jl2 a2 hq hs2 (hev.trans hev2)
 | false =>
  simp only [Bool.false_eq_true,if_false];exact hK _ _ (hr j w jl _ (hsr.put (Le.refl _ _) (Ext.refl _) (dst:=some d) hd (v:=v.under false) (V.under_false v) hsr.hl) Qc hk)

theorem DOps.gC {v:V}{done:List Fx}(hg:(ops[gi]?).bind (·.dst)=some dg) (hc:gc (get ts dg) want=some C) (hs:C=true->Cert P ⟨some d,op,ty,pos,aft,some (gi,want)⟩ ts ls h fx v ls h) (hd:Nat.blt d n=true)
  (hr:DOps P ops n rest (fx.plain::done) Q ⟨n,(d,v.under C)::ts,ls,h⟩):DOps P ops n (⟨some d,op,ty,pos,aft,some (gi,want)⟩::rest) done Q ⟨n,ts,ls,h⟩:=by
 refine DOps.cons (fx:=fx) (v:=v.under C) (ls':=ls) (h':=h) ⟨hd,fun L H hL hH j w jl a hl ho K Q hk=>?_⟩ (by cases fx with|mk a b c d e=>cases b<;>cases d<;>exact hr);have hwant:=wanted_gc (o:=⟨some d,op,ty,pos,aft,some (gi,want)⟩) (guardOf_mk hg) hc (ho dg (guard_looks (guardOf_mk hg)));rw [hwant];cases C with
 | true =>
  rw [if_pos rfl];exact hs rfl L H hL hH j w jl a hl (ev_rel_looks ho) K Q fun _ _ _ cv j' w' jl' ⟨e1,e2,e3⟩=>by subst e1 e2 e3; exact fun hv=>hk cv j' w' jl' (V.under_true hv)
 | false =>
  simp only [Bool.false_eq_true,if_false];refine hk undef j w jl (V.under_false v) ?_ (Ext.refl _) ?_
  ·have e1:(bif fx.wl then ls else L)=L:=by cases hw:fx.wl with
    | true=>exact(hL (by rw [hw]; simp)).symm
    | false=>rfl
   have e2:(bif fx.wh then h else H)=H:=by cases hw:fx.wh with
    | true=>exact(hH (by rw [hw]; simp)).symm
    | false=>rfl
   rw [e1,e2]; exact hl
  ·have e2:(bif fx.wh then h else H)=H:=by cases hw:fx.wh with
    | true=>exact(hH (by rw [hw]; simp)).symm
    | false=>rfl
   rw [e2]; exact Evolve.refl _ _ _

variable {dst:Option Tmp}{g:Option (Nat×Bool)}
theorem Cert.pickAnd {c y z:Operand}{b r cy:Bool}(hc:ev ts c=.a (.d (.bool b))) (hy:ev ts y=.gd cy (.d (.bool r))) (himp:b=true->cy=true) (hz:ev ts z=.a (.d (.bool false))) :
  Cert P (mk dst (.pick c y z) ty pos aft g) ts ls h {} (.a (.d (.bool (b&&r)))) ls h :=
 Cert.of_ops fun j w jl a ho=>by
  have h1:=ho c (by simp [Op.operands]);have h2:=ho y (by simp [Op.operands]);have h3:=ho z (by simp [Op.operands]);rw [hc] at h1; rw [hy] at h2; rw [hz] at h3;cases b with
  | true =>
   have h4:VRel j w jl (.a (.d (.bool r))) (a.eval y):=h2.1 (himp rfl);exact⟨.bool r,by simp [execOp,rel_bool h1,rel_bool h4,asBool],by simp only [Bool.true_and]; exact DRel.bool _⟩
  | false=>exact⟨.bool false,by simp [execOp,rel_bool h1,rel_bool h3,asBool],by simp only [Bool.false_and]; exact DRel.bool _⟩
theorem Cert.pickOr {c y z:Operand}{b r cz:Bool}(hc:ev ts c=.a (.d (.bool b))) (hy:ev ts y=.a (.d (.bool true))) (hz:ev ts z=.gd cz (.d (.bool r))) (himp:b=false->cz=true) :
  Cert P (mk dst (.pick c y z) ty pos aft g) ts ls h {} (.a (.d (.bool (b||r)))) ls h :=
 Cert.of_ops fun j w jl a ho=>by
  have h1:=ho c (by simp [Op.operands]);have h2:=ho y (by simp [Op.operands]);have h3:=ho z (by simp [Op.operands]);rw [hc] at h1; rw [hy] at h2; rw [hz] at h3;cases b with
  | false =>
   have h4:VRel j w jl (.a (.d (.bool r))) (a.eval z):=h3.1 (himp rfl);exact⟨.bool r,by simp [execOp,rel_bool h1,rel_bool h4,asBool],by simp only [Bool.false_or]; exact DRel.bool _⟩
  | true=>exact⟨.bool true,by simp [execOp,rel_bool h1,rel_bool h2,asBool],by simp only [Bool.true_or]; exact DRel.bool _⟩
theorem andL {a b:Bool}(h:(a&&b)=true):a=true:=by cases a<;>simp_all
theorem andR {a b:Bool}(h:(a&&b)=true):b=true:=by cases a<;>simp_all
theorem notT {b:Bool}(h:b=false):(!b)=true:=by simp [h]
theorem andI {a b:Bool}(h:a=true) (h':b=true):(a&&b)=true:=by simp [h,h']
end

section
variable {P:Program}{Q:Exit->St->Prop}{σ:St}
theorem xBlock_ret {id:Nat}(h:Q .ret σ):xBlock id Q .ret σ:=h
theorem xThen_ret {K:St->Prop}(h:Q .ret σ):xThen K Q .ret σ:=h
theorem AWp.seqK {x y:Code}(h:∀K:St->Prop,(∀σ,AWp P y Q σ->K σ)->AWp P x (xThen K Q) σ):AWp P (.seq x y) Q σ:=AWp.seq (h _ fun _ h=>h)

theorem AWp.loopW {α:Type}{c:Code}(inv:α->St) (m:α->Nat) (pre:α->Prop) (x0:α) (hσ:Weak σ (inv x0)) (h0:pre x0)
  (hr:∀x,pre x->∀K:St->Prop,(∀σ' y,Weak σ' (inv y)->pre y->m y<m x->K σ')->AWp P c (xThen K Q) (inv x)):AWp P (.loop c) Q σ:=by
 refine AWp.weak hσ (AWp.loop inv m pre x0 h0 fun x hx=>AWp.post (AWp.mono (hr x hx (fun σ'=>∃y,Weak σ' (inv y)/\pre y/\m y<m x) fun σ' y h1 h2 h3=>⟨y,h1,h2,h3⟩) ?_));intro e σ1 hq;cases e with
 | normal=>obtain⟨y,h1,h2,h3⟩:=hq; exact⟨inv y,h1,y,rfl,h2,h3⟩
 | exit _=>exact⟨σ1,Weak.refl _,hq⟩
 | goto _=>exact⟨σ1,Weak.refl _,hq⟩
 | ret=>exact⟨σ1,Weak.refl _,hq⟩
 | panic _=>exact⟨σ1,Weak.refl _,hq⟩
 | outgrown=>exact⟨σ1,Weak.refl _,hq⟩

theorem Weak.keepL {n:Nat}{ts ts':Ts}{ls ls':List (List D)}{h h':Heap}(m:Nat) (hk:Keeps ts m ts') (hl:ls.take m=ls') (hh:h=h'):Weak ⟨n,ts,ls,h⟩ ⟨n,ts',ls',h'⟩:=by
 subst hl hh; exact Weak.keep m hk

def V.noL (m:Nat):V->Bool
 | .lptr i _=>Nat.blt i m
 | .gdl _ i _=>Nat.blt i m
 | _=>true
theorem Keeps.c {ts:Ts}{m:Nat}{k:Nat}{v:V}{r:Ts}(h:Ab.get ts k=v) (hv:v.noL m=true) (t:Keeps ts m r):Keeps ts m ((k,v)::r) :=
 .cons h ⟨fun i off e=>by subst e; simpa [V.noL,Nat.blt_eq] using hv,fun c i off e=>by subst e; simpa [V.noL,Nat.blt_eq] using hv⟩ t
end

inductive KeepsT (ts:Ts):Ts->Prop where
 | nil:KeepsT ts []
 | cons {k:Nat}{v:V}{r:Ts}(h:Ab.get ts k=v) (t:KeepsT ts r):KeepsT ts ((k,v)::r)
inductive Pfx {α:Type}:List α->List α->Prop where
 | nil {l:List α}:Pfx [] l
 | cons {a:α}{l l':List α}(h:Pfx l l'):Pfx (a::l) (a::l')
theorem Pfx.take {α:Type}{l l':List α}(h:Pfx l l'):l'.take l.length=l:=by
 induction h with
 | nil=>simp
 | cons _ ih=>simp [ih]

theorem Weak.to {n:Nat}{ts ts':Ts}{ls ls':List (List D)}{h h':Heap}(hk:Keeps ts ls'.length ts') (hl:Pfx ls' ls) (hh:h=h'):Weak ⟨n,ts,ls,h⟩ ⟨n,ts',ls',h'⟩ :=
 Weak.keepL ls'.length hk hl.take hh
theorem Weak.toF {n:Nat}{ts ts':Ts}{ls ls':List (List D)}{h h':Heap}(hk:Keeps ts ls'.length ts') (hl:Pfx ls' ls) (hh:∀id o,h' id=some o->h id=some o):Weak ⟨n,ts,ls,h⟩ ⟨n,ts',ls',h'⟩ :=
 (Weak.to hk hl rfl).trans (Weak.forget hh)

section
variable {P:Program}{Q:Exit->St->Prop}{n:Nat}{ts0 ts:Ts}{ls:List (List D)}{h:Heap}
theorem AWp.loopO {α:Type}{c:Code}(_:KeepsT ts0 ts) (over:α->Ts) (lo:α->List (List D)) (hh:α->Heap) (m:α->Nat) (pre:α->Prop) (x0:α) (h0:pre x0) (hi:Weak ⟨n,ts0,ls,h⟩ ⟨n,over x0++ts,lo x0,hh x0⟩)
  (hr:∀x,pre x->∀K:St->Prop,(∀σ' y,Weak σ' ⟨n,over y++ts,lo y,hh y⟩->pre y->m y<m x->K σ')->AWp P c (xThen K Q) ⟨n,over x++ts,lo x,hh x⟩):AWp P (.loop c) Q ⟨n,ts0,ls,h⟩ :=
 AWp.loopW (fun x=>⟨n,over x++ts,lo x,hh x⟩) m pre x0 hi h0 hr
theorem AWp.seqJ {α:Type}{x y:Code}(_:KeepsT ts0 ts) (over:α->Ts) (lo:α->List (List D)) (hh:α->Heap) (pre:α->Prop)
  (hx:∀K:St->Prop,(∀σ' y,Weak σ' ⟨n,over y++ts,lo y,hh y⟩->pre y->K σ')->AWp P x (xThen K Q) ⟨n,ts0,ls,h⟩) (hy:∀z,pre z->AWp P y Q ⟨n,over z++ts,lo z,hh z⟩):AWp P (.seq x y) Q ⟨n,ts0,ls,h⟩:=by
 refine AWp.seq (AWp.post (AWp.mono (hx (fun σ'=>∃z,Weak σ' ⟨n,over z++ts,lo z,hh z⟩/\pre z) fun σ' z h1 h2=>⟨z,h1,h2⟩) ?_));intro e σ1 hq;cases e with
 | normal=>obtain⟨z,h1,h2⟩:=hq; exact⟨_,h1,hy z h2⟩
 | exit _=>exact⟨σ1,Weak.refl _,hq⟩
 | goto _=>exact⟨σ1,Weak.refl _,hq⟩
 | ret=>exact⟨σ1,Weak.refl _,hq⟩
 | panic _=>exact⟨σ1,Weak.refl _,hq⟩
 | outgrown=>exact⟨σ1,Weak.refl _,hq⟩

theorem AWp.loopH {α:Type}{c:Code}(_:KeepsT ts0 ts) (over:α->Ts) (hh:α->Heap) (m:α->Nat) (pre:α->Prop) (x0:α) (h0:pre x0) (hi:Weak ⟨n,ts0,ls,h⟩ ⟨n,over x0++ts,ls,hh x0⟩)
  (hr:∀x,pre x->∀K:St->Prop,(∀σ' y,Weak σ' ⟨n,over y++ts,ls,hh y⟩->pre y->m y<m x->K σ')->AWp P c (xThen K Q) ⟨n,over x++ts,ls,hh x⟩):AWp P (.loop c) Q ⟨n,ts0,ls,h⟩ :=
 AWp.loopO ‹_› over (fun _=>ls) hh m pre x0 h0 hi hr
theorem AWp.seqJH {α:Type}{x y:Code}(_:KeepsT ts0 ts) (over:α->Ts) (hh:α->Heap) (pre:α->Prop)
  (hx:∀K:St->Prop,(∀σ' y,Weak σ' ⟨n,over y++ts,ls,hh y⟩->pre y->K σ')->AWp P x (xThen K Q) ⟨n,ts0,ls,h⟩) (hy:∀z,pre z->AWp P y Q ⟨n,over z++ts,ls,hh z⟩):AWp P (.seq x y) Q ⟨n,ts0,ls,h⟩ :=
 AWp.seqJ ‹_› over (fun _=>ls) hh pre hx hy
end
end Go.Ab

/-
 The program's data types (package api) as plain Lean types,and how each is laid out in cells.
-/
namespace Go.Ab
open Go Go.RowKit
variable {lou:Lou}

abbrev Str:={ s:List UInt8 // s.length<=maxN }

structure Slc (α:Type) where
 nil:Bool
 l:List α
 ok:l.length<=maxN
 nn:nil=true->l=[]

def Slc.d {α:Type}(k:Nat) (f:α->List D) (s:Slc α):D:=.slice k none s.nil (s.l.map f)
def strC (s:Str):List D:=[.str s.1]
def intC (n:Int):List D:=[.int .i64 n]

end Go.Ab

/-
 What the functions of package schema compute,in plain terms.
-/
namespace Go.Ab.Sch
open Go Go.Ab
end Go.Ab.Sch

/-
 Heaps in normal form; nil slices given a token where they are passed.
-/
namespace Go.Ab
open Go Go.RowKit
variable {lou:Lou}
variable {amb:Amb}

theorem Heap.sub_set {h:Heap}{i:Nat}{o:Option Obj}(hi:h i=none):∀id ob,h id=some ob->(h.set i o) id=some ob:=by
 intro id ob e; rw [Heap.set_other]; exact e;intro he; rw [he,hi] at e; cases e

inductive AsArg (h:Heap):A->A->Prop where
 | refl (x:A):AsArg h x x
 | nil {k k' t:Nat}{o:Obj}(ht:h t=some o):AsArg h (.d (.slice k none true [])) (.d (.slice k' (some t) true []))
 | nil0 {k k':Nat}:AsArg h (.d (.slice k none true [])) (.d (.slice k' none true []))
theorem AsArg.rel {h:Heap}{x y:A}(ha:AsArg h x y){j:J}{w:World}{v:Value}(hh:HRel j w h) (hx:ARel j w x v):ARel j w y v:=by
 cases ha with
 | refl=>exact hx
 | @nil k k' t o ht =>
  have hv':DRel j w (.slice k none true []) v:=hx;cases hv';exact DRel.snil _ _ fun t' e=>by simp at e; subst e; exact(hh.obj _ _ ht).1
 | @nil0 k k' =>
  have hv':DRel j w (.slice k none true []) v:=hx;cases hv';exact DRel.snil _ _ fun t' e=>by cases e

theorem AC.asArgs {P:Program}{f:FuncId}{xs ys:List A}{h:Heap}{Post:V->Heap->Prop}(ha:All2 (AsArg h) xs ys) (hc:AC P f ys h Post):AC P f xs h Post :=
 ⟨hc.enter,fun j w cargs hh hargs=>hc.runs j w cargs hh (by
  refine All2.of_get (by rw [<- ha.length,hargs.length]) fun i y v hy hv=>?_;obtain⟨x,hx,hxy⟩:=ha.get' hy;obtain⟨v',hv',hr⟩:=hargs.get hx;rw [hv] at hv'; simp at hv'; subst hv';exact hxy.rel hh hr)⟩

theorem xBlock_exit {id:Nat}{Q:Exit->St->Prop}{σ:St}(h:Q .normal σ):xBlock id Q (.exit id) σ:=by
 unfold xBlock; simpa using h
theorem xThen_exit {id:Nat}{K:St->Prop}{Q:Exit->St->Prop}{σ:St}(h:Q (.exit id) σ):xThen K Q (.exit id) σ:=h
theorem xBlock_normal {id:Nat}{Q:Exit->St->Prop}{σ:St}(h:Q .normal σ):xBlock id Q .normal σ:=h
theorem AWp.tok {P:Program}{c:Code}{Q:Exit->St->Prop}{n:Nat}{ts:Ts}{ls:List (List D)}{h:Heap}(k:Nat)
  (hw:∀t,h t=none->AWp P c Q ⟨n,ts,ls,h.set t (some (.tok k 0))⟩):AWp P c Q ⟨n,ts,ls,h⟩:=by
 intro j w jl a hsr;obtain⟨h1,h2⟩:=hsr.hl.newTok k;have hnone:=hsr.hl.1.next_none (Nat.le_refl _);refine wp_mono (hw j.next hnone j.newTok w jl a ⟨hsr.defers,hsr.size,fun i=>(hsr.tmps i).mono h2.toLe (Ext.refl _),h1⟩) fun e a w hq=>AQ.trans h2 hq
theorem AWp.nilTok {P:Program}{c:Code}{Q:Exit->St->Prop}{n:Nat}{ts:Ts}{ls:List (List D)}{h:Heap}(s k t:Nat){o:Obj}{k0:Nat}(hs:get ts s=.a (.d (.slice k0 none true []))) (ht:h t=some o)
  (hw:AWp P c Q ⟨n,(s,.a (.d (.slice k (some t) true [])))::ts,ls,h⟩):AWp P c Q ⟨n,ts,ls,h⟩:=by
 intro j w jl a hsr;refine hw j w jl a ⟨hsr.defers,hsr.size,fun i=>?_,hsr.hl⟩;by_cases e:s=i
 ·subst e;show VRel _ _ _ (get ((s,_)::ts) s) _;rw [get_same];have hv:VRel j w jl (get ts s) (a.tmps.getD s undef):=hsr.tmps s;rw [hs] at hv;exact(AsArg.nil (k':=k) ht).rel hsr.hl.1 hv
 ·show VRel _ _ _ (get ((s,_)::ts) i) _;rw [get_other _ _ e];exact hsr.tmps i
theorem AWp.dropTok {P:Program}{c:Code}{Q:Exit->St->Prop}{n:Nat}{ts:Ts}{ls:List (List D)}{h:Heap}(s:Nat){k:Nat}{tk:Option Nat}{nl:Bool}{rows:List (List D)}(hs:get ts s=.a (.d (.slice k tk nl rows)))
  (hw:AWp P c Q ⟨n,(s,.a (.d (.slice k none nl rows)))::ts,ls,h⟩):AWp P c Q ⟨n,ts,ls,h⟩:=by
 intro j w jl a hsr;refine hw j w jl a ⟨hsr.defers,hsr.size,fun i=>?_,hsr.hl⟩;by_cases e:s=i
 ·subst e;show VRel _ _ _ (get ((s,_)::ts) s) _;rw [get_same];have hv:VRel j w jl (get ts s) (a.tmps.getD s undef):=hsr.tmps s;rw [hs] at hv;have hv':DRel j w (.slice k tk nl rows) (a.tmps.getD s undef):=hv;generalize a.tmps.getD s undef=x at hv' ⊢;cases hv' with
  | snil=>exact DRel.snil _ _ fun t e=>by cases e
  | slice _ _ _ a cap cv hk hn hc hat hr ht=>exact DRel.slice _ _ _ a cap cv hk hn hc hat hr fun t e=>by cases e
 ·show VRel _ _ _ (get ((s,_)::ts) i) _;rw [get_other _ _ e];exact hsr.tmps i
theorem retQ.retF {T:List TI}{rs:List ResultVar}{Post:V->Heap->Prop}{σ:St}{xs:List A}(h':Heap) (h:resAs T σ rs=some xs) (hp:Post (resV xs) h') (hs:∀id o,h' id=some o->σ.h id=some o):retQ T rs Post .ret σ:=⟨.inr rfl,xs,h',h,hs,hp⟩
theorem retQ.normalF {T:List TI}{rs:List ResultVar}{Post:V->Heap->Prop}{σ:St}{xs:List A}(h':Heap) (h:resAs T σ rs=some xs) (hp:Post (resV xs) h') (hs:∀id o,h' id=some o->σ.h id=some o):retQ T rs Post .normal σ:=⟨.inl rfl,xs,h',h,hs,hp⟩
section
variable {P:Program}{dst:Option Tmp}{ty:TypeId}{pos:String}{aft:Array Edge}{g:Option (Nat×Bool)}{ts:Ts}{ls:List (List D)}{h:Heap}
end
def seenM (l:List (List UInt8)):List (D×A):=l.map fun s=>(.str s,.d (.bool true))
def insS (l:List (List UInt8)) (s:List UInt8):List (List UInt8):=if l.contains s then l else l++[s]
theorem seen_find (l:List (List UInt8)) (s:List UInt8):findM (.str s) (seenM l)=some (if l.contains s then some (.d (.bool true)) else none):=by
 induction l with
 | nil=>rfl
 | cons x r ih =>
  simp only [seenM,List.map_cons,findM,eqKey,List.contains_cons];by_cases e:s=x
  ·subst e; simp
  ·have e1:(s==x)=false:=by simpa using e
   have e2:(x==s)=false:=by simpa using fun h=>e h.symm
   simp only [e1,e2,Bool.false_or]; exact ih
theorem seen_upd (l:List (List UInt8)) (s:List UInt8):updM (.str s) (.d (.bool true)) (seenM l)=some (seenM (insS l s)):=by
 induction l with
 | nil=>rfl
 | cons x r ih =>
  simp only [seenM,List.map_cons,updM,eqKey,insS,List.contains_cons];by_cases e:s=x
  ·subst e; simp
  ·have e1:(s==x)=false:=by simpa using e
   have e2:(x==s)=false:=by simpa using fun h=>e h.symm
   have ih':=ih;simp only [seenM,insS] at ih';simp only [e1,e2,Bool.false_or,ih']
   split<;>simp_all
section
variable {P:Program}{dst:Option Tmp}{ty:TypeId}{pos:String}{aft:Array Edge}{g:Option (Nat×Bool)}{ts:Ts}{ls:List (List D)}{h:Heap}
theorem Cert.lookupSeen {t kt et:TypeId}{ti ki ei:TI}{x y:Operand}{id:Nat}{l:List (List UInt8)}{s:List UInt8}(hT:mkTI P t=some ti) (hk:ti.k=.map kt et) (hK:mkTI P kt=some ki) (hE:mkTI P et=some ei) (hz:ei.zero=some (.d (.bool false)))
  (hx:ev ts x=.a (.d (.map id))) (hy:ev ts y=.a (.d (.str s))) (hkk:keyK ki.k (.str s)=true) (hm:h id=some (.map (seenM l))):Cert P (mk dst (.lookup t x y false) ty pos aft g) ts ls h { rh:=true } (.a (.d (.bool (l.contains s)))) ls h:=by
 have h1:=seen_find l s;cases hc:l.contains s with
 | true=>rw [hc] at h1; exact Cert.lookupHit hT hk hK hx hy hkk hm h1
 | false=>rw [hc] at h1; exact Cert.lookupMiss hT hk hK hE hz hx hy hkk hm h1
end
end Go.Ab

/-
 Variables that turn no more: a box that is only read,and a local that becomes data.
-/
namespace Go.Ab
open Go Go.RowKit
variable {lou:Lou}
variable {amb:Amb}

theorem view_of {j:J}{w:World}{b:Nat}{xs:List D}{cs:List Value}{e:TypeId}{n:Nat}(hh:w.heap[b]?=some (.cells cs.toArray e (0,0))) (hx:All2 (DRel j w) xs cs) (hF:xs.length<=j.F b) :
  DRel j w (.view xs) (.pointer (some ⟨b,0,none⟩)):=by
 refine DRel.view xs _ (fun i=>cs.getD i default) ⟨rfl,fun i hi=>?_⟩ fun i hi=>?_
 ·have hi':i<cs.length:=hx.length▸hi;refine⟨by show 0+i<j.F b; omega, ?_⟩;show w.cell? ⟨b,0+i,none⟩=_;rw [Nat.zero_add,cell_of_row w b i cs.toArray e (0,0) hh];simp [hi']
 ·obtain⟨v,hv,hr⟩:=hx.get (List.getElem?_eq_getElem hi);have:cs.getD i default=v:=by rw [List.getD_eq_getElem?_getD,hv]; rfl
  rw [this]; exact hr

section
variable {P:Program}{dst:Option Tmp}{ty:TypeId}{pos:String}{aft:Array Edge}{g:Option (Nat×Bool)}{ts:Ts}{ls:List (List D)}{h:Heap}
theorem Cert.boxV {e:TypeId}{x:Operand}{y:A}(hx:ev ts x=.a y):Cert P (mk dst (.box e x) ty pos aft g) ts ls h {} (.a (.d (.view (cellsA y)))) ls h:=by
 refine Cert.of_run fun L H _ _ j w jl a hl ho=>?_;have h1:=ho x (by simp [Op.operands]);rw [hx] at h1;have h1':ARel j w y (a.eval x):=h1;obtain⟨hd1,hd2⟩:=hl.data (.cells (a.eval x).cells e) (cellsA y).length;refine⟨.value (.pointer (some ⟨w.heap.size,0,none⟩)),_,.pointer (some ⟨w.heap.size,0,none⟩),j.frz w.heap.size (cellsA y).length,jl,by simp [execOp,Instr.box,newVar,newRow],.inl rfl, ?_,hd1,Ext.refl _,hd2⟩
 refine view_of (n:=0) (cs:=(a.eval x).cells.toList) (e:=e) ?_ (h1'.cells.imp fun _ _ h=>h.mono hd2.toLe) (by simp [J.frz]);rw [Array.toArray_toList]; exact heap_alloc_new w _

variable {c:Code}{Q:Exit->St->Prop}{n:Nat}
theorem Weak.freeze {ts':Ts}{ls':List (List D)}{xs:List D}(s i:Nat) (hs:get ts s=.lptr i 0) (hl:Snoc xs ls' i ls) (hk:Keeps ts i ts'):Weak ⟨n,ts,ls,h⟩ ⟨n,(s,.a (.d (.view xs)))::ts',ls',h⟩:=by
 obtain⟨hi,e⟩:=hl.spec;subst hi e;intro j w jl a hsr;have hlr:=hsr.hl;obtain⟨b,hb,hbv⟩:∃b,jl[ls'.length]?=some b/\a.tmps.getD s undef=.pointer (some ⟨b,0,none⟩):=by
  have:=hsr.tmps s;have this:VRel j w jl (get ts s) (a.tmps.getD s undef):=this;rw [hs] at this; exact this
 obtain⟨xs',hxs,cs,te,hheap,hcs,hF⟩:∃xs',(ls'++[xs])[ls'.length]?=some xs'/\Loc1 j w b xs':=hlr.2.each.get' hb;simp at hxs; subst hxs;have hlt:=lt_of_heap hheap;have htr:=hlr.trim (lou:=lou) ls'.length;rw [List.take_left' rfl] at htr;have hnb:b∉jl.take ls'.length:=by
  intro hm;obtain⟨k,hk1,hk2⟩:=List.getElem_of_mem hm;rw [List.length_take] at hk1;have h1:jl[k]?=some b:=by rw [<- hk2,List.getElem_take]; exact List.getElem?_eq_getElem _
  have h2:=(List.getElem?_inj (by omega) hlr.2.nodup).1 (h1.trans hb.symm);omega
 have hnown:¬Own j h (jl.take ls'.length) b:=by
  rintro (hm|⟨id,o,h1,h2⟩)
  ·exact hnb hm
  ·exact hlr.2.apart b (List.mem_of_getElem? hb) (.inr ⟨id,o,h1,h2⟩)
 have hle:Le j w (j.frz b xs.length) w:=⟨Nat.le_refl _,fun _ _=>rfl,fun b'=>by
  simp only [J.frz]
  split
  ·rename_i e; rw [e,hF]; exact Nat.zero_le _
  ·exact Nat.le_refl _,fun _ _ _=>rfl,fun _ _=>.inl rfl⟩
 have hsame:∀b',b'≠b->(j.frz b xs.length).F b'=j.F b':=fun b' hne=>by simp only [J.frz]; rw [if_neg hne]
 have hk2:=htr.1.keep hle (fun b' ho=>⟨rfl,hsame b' (fun e=>hnown (e▸ho))⟩) (fun _ _ _=>rfl) (fun b' hb'=>by rw [hsame b' (by omega)]; exact hlr.1.fresh b' hb');refine⟨j.frz b xs.length,jl.take ls'.length,⟨hsr.defers,hsr.size,fun k=>?_,hk2.1⟩, ?_⟩
 ·by_cases e:s=k
  ·subst e;show VRel _ _ _ (get ((s,_)::ts') s) _;rw [get_same];have hbv:a.tmps.getD s undef=.pointer (some ⟨b,0,none⟩):=hbv;rw [hbv];exact view_of (n:=0) hheap (hcs.imp fun _ _ h=>h.mono hle) (by simp [J.frz])
  ·show VRel _ _ _ (get ((s,_)::ts') k) _;rw [get_other _ _ e];obtain⟨j2,jl2,hs2,_⟩:=Weak.keep (lou:=lou) (n:=n) (ls:=ls'++[xs]) (h:=h) ls'.length hk j w jl a hsr;have hv:VRel j w jl (get ts k) (a.tmps.getD k undef):=hsr.tmps k;rcases hk.get k with e2|⟨e2,hlt1,hlt2⟩
   ·rw [e2]; trivial
   ·rw [<- e2] at hv;cases hx:get ts' k with
    | any=>trivial
    | a x=>rw [hx] at hv; exact ARel.mono hle hv
    | lptr i off =>
     rw [hx] at hv;obtain⟨b2,hb2,e'⟩:=hv;exact⟨b2,by rw [List.getElem?_take_of_lt (hlt1 i off hx)]; exact hb2,e'⟩
    | tup xs=>rw [hx] at hv; obtain⟨cs,e,hh⟩:=hv; exact⟨cs,e,hh.imp fun _ _ h=>h.mono hle⟩
    | gd c x=>rw [hx] at hv; exact⟨fun hc=>ARel.mono hle (hv.1 hc),hv.2⟩
    | full k rows=>rw [hx] at hv; exact⟨DRel.mono hle hv.1,hv.2⟩
    | gdf c k rows=>rw [hx] at hv; exact⟨fun hc=>⟨DRel.mono hle (hv.1 hc).1,(hv.1 hc).2⟩,hv.2⟩
    | gdl c i off =>
     rw [hx] at hv;refine⟨fun hc=>?_,hv.2⟩;obtain⟨b2,hb2,e'⟩:=hv.1 hc;exact⟨b2,by rw [List.getElem?_take_of_lt (hlt2 c i off hx)]; exact hb2,e'⟩
 ·refine { toLe:=hle,size:=Nat.le_refl _,frame:=fun b' _ ho=>⟨rfl,hsame b' fun e=>ho (.inl (e▸List.mem_of_getElem? hb))⟩,own:=fun b' _ ho=>?_,os:=rfl,tape:=rfl,output:=Outs.rfl };rcases (hk2.2 b').1 ho with hm|hm
  ·exact .inl (List.mem_of_mem_take hm)
  ·exact .inr hm
theorem AWp.freeze {ts':Ts}{ls':List (List D)}{xs:List D}(s i:Nat) (hs:get ts s=.lptr i 0) (hl:Snoc xs ls' i ls) (hk:Keeps ts i ts') (hw:AWp P c Q ⟨n,(s,.a (.d (.view xs)))::ts',ls',h⟩):AWp P c Q ⟨n,ts,ls,h⟩ :=
 AWp.weak (Weak.freeze s i hs hl hk) hw
end
theorem slice_dropTok {k:Nat}{tk:Option Nat}{nl:Bool}{rows:List (List D)}(j:J) (w:World) (cv:Value) (h:VRel j w [] (.a (.d (.slice k tk nl rows))) cv):VRel j w [] (.a (.d (.slice k none nl rows))) cv:=by
 have h':DRel j w (.slice k tk nl rows) cv:=h;cases h' with
 | snil=>exact DRel.snil _ _ fun t e=>by cases e
 | slice _ _ _ a cap cv hk hn hc hat hr ht=>exact DRel.slice _ _ _ a cap cv hk hn hc hat hr fun t e=>by cases e
end Go.Ab

/-
 Names and violations in plain terms; the reference's functions of layer 10.
-/
namespace Go.Ab.Sch
open Go Go.Ab
end Go.Ab.Sch

/-
 Layer 10: input types that contain themselves,plainly: the reference's list and what can be reached.
-/
namespace Go.Ab.Sch
open Go Go.Ab

end Go.Ab.Sch

/-
 The checker of package schema as an object.
-/
namespace Go.Ab
open Go Go.RowKit
variable {lou:Lou}
variable {amb:Amb}
theorem Own.recell {j:J}{h:Heap}{c:Nat}{xs ys:List D}(hc:h c=some (.cells xs)){jl:List Nat}{b:Nat}:Own j (h.set c (some (.cells ys))) jl b↔Own j h jl b:=by
 constructor
 ·rintro (h1|⟨id,o,h1,h2⟩)
  ·exact .inl h1
  ·by_cases e:id=c
   ·subst e; rw [Heap.set_same] at h1; simp only [Option.some.injEq] at h1; subst h1;exact .inr ⟨id,_,hc,h2⟩
   ·rw [Heap.set_other _ _ e] at h1; exact .inr ⟨id,o,h1,h2⟩
 ·rintro (h1|⟨id,o,h1,h2⟩)
  ·exact .inl h1
  ·by_cases e:id=c
   ·subst e; rw [hc] at h1; simp only [Option.some.injEq] at h1; subst h1;exact .inr ⟨id,_,Heap.set_same _ _ _,h2⟩
   ·exact .inr ⟨id,o,by rw [Heap.set_other _ _ e]; exact h1,h2⟩
theorem HRel.recell {j:J}{w:World}{h:Heap}{c:Nat}{xs ys:List D}(hr:HRel j w h) (hc:h c=some (.cells xs)) (hy:∀cs,All2 (DRel j w) xs cs->All2 (DRel j w) ys cs):HRel j w (h.set c (some (.cells ys))):=by
 have key:∀id o,(h.set c (some (.cells ys))) id=some o->∃o',h id=some o'/\blkOf j id o=blkOf j id o':=by
  intro id o ho;by_cases e:id=c
  ·subst e; rw [Heap.set_same] at ho; simp only [Option.some.injEq] at ho; subst ho;exact⟨_,hc,rfl⟩
  ·rw [Heap.set_other _ _ e] at ho; exact⟨o,ho,rfl⟩
 refine⟨fun id o ho=>?_,fun id1 o1 id2 o2 b h1 h2 e1 e2=>?_,hr.fresh⟩
 ·by_cases e:id=c
  ·subst e; rw [Heap.set_same] at ho; simp only [Option.some.injEq] at ho; subst ho;obtain⟨hn,cs,te,h1,h2,h3⟩:=hr.obj _ _ hc;exact⟨hn,cs,te,h1,hy _ h2,h3⟩
  ·rw [Heap.set_other _ _ e] at ho; exact hr.obj _ _ ho
 ·obtain⟨p1,hp1,ep1⟩:=key _ _ h1;obtain⟨p2,hp2,ep2⟩:=key _ _ h2;exact hr.inj _ _ _ _ b hp1 hp2 (ep1▸e1) (ep2▸e2)
theorem AWp.recell {P:Program}{c:Code}{Q:Exit->St->Prop}{n:Nat}{ts:Ts}{ls:List (List D)}{h:Heap}(id:Nat){xs:List D}(ys:List D) (hc:h id=some (.cells xs)) (hy:∀j w cs,HRel j w h->All2 (DRel j w) xs cs->All2 (DRel j w) ys cs)
  (hw:AWp P c Q ⟨n,ts,ls,h.set id (some (.cells ys))⟩):AWp P c Q ⟨n,ts,ls,h⟩:=by
 intro j w jl a hsr;have hl:=hsr.hl;refine wp_mono (hw j w jl a ⟨hsr.defers,hsr.size,hsr.tmps,⟨hl.1.recell hc (hy j w · hl.1),⟨hl.2.each,hl.2.nodup,fun b hb ho=>hl.2.apart b hb ((Own.recell hc).1 ho)⟩⟩⟩) fun e a w hq=>AQ.trans ?_ hq;exact { Evolve.refl j _ (Own j h jl) with own:=fun b _ ho=>(Own.recell hc).1 ho }
theorem AWp.relocal {P:Program}{c:Code}{Q:Exit->St->Prop}{n:Nat}{ts:Ts}{ls:List (List D)}{h:Heap}(i:Nat){xs:List D}(ys:List D) (hc:ls[i]?=some xs) (hy:∀j w cs,HRel j w h->All2 (DRel j w) xs cs->All2 (DRel j w) ys cs)
  (hw:AWp P c Q ⟨n,ts,ls.set i ys,h⟩):AWp P c Q ⟨n,ts,ls,h⟩:=by
 intro j w jl a hsr;have hl:=hsr.hl;have hea:All2 (fun xs b=>Loc1 j w b xs) (ls.set i ys) jl:=by
  refine All2.of_get (by rw [List.length_set,hl.2.each.length]) fun k x b hx hb=>?_;rw [List.getElem?_set] at hx
  split at hx
  ·rename_i e
   subst e
   split at hx
   ·simp only [Option.some.injEq] at hx; subst hx;obtain⟨b',hb',cs,te,h1,h2,h3⟩:=hl.2.each.get hc;rw [hb] at hb'; simp only [Option.some.injEq] at hb'; subst hb';exact⟨cs,te,h1,hy j w _ hl.1 h2,h3⟩
   ·cases hx
  ·obtain⟨b',hb',h1⟩:=hl.2.each.get hx;rw [hb] at hb'; simp only [Option.some.injEq] at hb'; subst hb';exact h1
 exact hw j w jl a ⟨hsr.defers,hsr.size,hsr.tmps,⟨hl.1,⟨hea,hl.2.nodup,hl.2.apart⟩⟩⟩
end Go.Ab
namespace Go.Ab.Sch
open Go Go.Ab
end Go.Ab.Sch

/-
 Models: functions that may have no answer; the rules by which a walk follows its function's model.
-/
namespace Go.Ab
open Go Go.RowKit
variable {lou:Lou}
variable {amb:Amb}

structure Sl (α:Type) where
 nl:Bool
 l:List α
abbrev Bs:=List UInt8
def Sl.d {α:Type}(k:Nat) (f:α->List D) (t:Option Nat) (s:Sl α):D:=.slice k t s.nl (s.l.map f)
def Sl.nil {α:Type}:Sl α:=⟨true,[]⟩
def strE (s:Bs):List D:=[.str s]
def boolE (b:Bool):List D:=[.bool b]
def intE (k:IntKind) (n:Int):List D:=[.int k n]

def addC (a b:Int):Option Int:=if -9223372036854775808<=a+b/\a+b<=9223372036854775807 then some (a+b) else none
def idxC {α:Type}(l:List α) (n:Int):Option α:=if 0<=n then l[n.toNat]? else none
def catC (a b:Bs):Option Bs:=if a.length+b.length<=maxS then some (a++b) else none
def appC {α:Type}(z:Nat) (s r:Sl α):Option (Sl α):=if (s.l.length+r.l.length)*z<=maxN/\s.l.length+r.l.length<=maxN then some ⟨s.nl&&r.l.isEmpty,s.l++r.l⟩ else none
def partC {α:Type}(s:Sl α) (lo hi:Option Int):Option (Sl α) :=
 if 0<=lo.getD 0/\lo.getD 0<=hi.getD s.l.length/\hi.getD s.l.length<=s.l.length then some ⟨s.nl,(s.l.take (hi.getD s.l.length).toNat).drop (lo.getD 0).toNat⟩ else none
def cutC (s:Bs) (lo hi:Option Int):Option Bs :=
 if 0<=lo.getD 0/\lo.getD 0<=hi.getD s.length/\hi.getD s.length<=s.length then some ((s.take (hi.getD s.length).toNat).drop (lo.getD 0).toNat) else none
def guardO {α β:Type}(c:Bool) (o:Option α) (d:α) (k:α->Option β):Option β:=if c=true then o.bind k else k d

theorem addC_some {a b x:Int}(h:addC a b=some x):x=a+b /\ -9223372036854775808<=a+b/\a+b<=9223372036854775807:=by
 unfold addC at h; split at h
 ·rename_i h2; simp at h; exact⟨h.symm,h2⟩
 ·cases h
theorem idxC_some {α:Type}{l:List α}{n:Int}{x:α}(h:idxC l n=some x):0<=n/\l[n.toNat]?=some x:=by
 unfold idxC at h; split at h
 ·rename_i h2; exact⟨h2,h⟩
 ·cases h
theorem catC_some {a b x:Bs}(h:catC a b=some x):x=a++b/\a.length+b.length<=maxS:=by
 unfold catC at h; split at h
 ·rename_i h2; simp at h; exact⟨h.symm,h2⟩
 ·cases h
theorem appC_some {α:Type}{z:Nat}{s r x:Sl α}(h:appC z s r=some x):x=⟨s.nl&&r.l.isEmpty,s.l++r.l⟩/\(s.l.length+r.l.length)*z<=maxN/\s.l.length+r.l.length<=maxN:=by
 unfold appC at h; split at h
 ·rename_i h2; simp only [Option.some.injEq] at h; exact⟨h.symm,h2⟩
 ·cases h
theorem guardO_some {α β:Type}{c:Bool}{o:Option α}{d:α}{k:α->Option β}{r:β}(h:guardO c o d k=some r):∃x,(c=true->o=some x)/\k x=some r:=by
 unfold guardO at h; split at h
 ·obtain⟨x,h1,h2⟩:=Option.bind_eq_some_iff.1 h; exact⟨x,fun _=>h1,h2⟩
 ·rename_i h2; exact⟨d,fun e=>absurd e h2,h⟩
theorem bindO_some {α β:Type}{o:Option α}{k:α->Option β}{r:β}(h:o.bind k=some r):∃x,o=some x/\k x=some r:=Option.bind_eq_some_iff.1 h
theorem condT {α:Type}{c:Bool}{A B:Option α}{r:α}(hc:c=true) (h:(bif c then A else B)=some r):A=some r:=by subst hc; exact h
theorem condF {α:Type}{c:Bool}{A B:Option α}{r:α}(hc:c=false) (h:(bif c then A else B)=some r):B=some r:=by subst hc; exact h

section
variable {P:Program}{dst:Option Tmp}{ty:TypeId}{pos:String}{aft:Array Edge}{g:Option (Nat×Bool)}{ts:Ts}{ls:List (List D)}{h:Heap}{α:Type}{f:α->List D}
theorem Cert.lenM' {t e:TypeId}{ti:TI}{x:Operand}{ats:Array TypeId}{k:Nat}{tok:Option Nat}{s:Sl α}(hT:mkTI P t=some ti) (hk:ti.k=.slice e) (hat:ats[0]?=some t)
  (hx:ev ts x=.a (.d (s.d k f tok))):Cert P (mk dst (.call { callee:=.builtin .len,args:=#[x],argTypes:=ats }) ty pos aft g) ts ls h {} (.a (.d (.int .i64 (s.l.length:Int)))) ls h:=by
 have:=Cert.lenA (lou:=lou) (P:=P) (dst:=dst) (ty:=ty) (pos:=pos) (aft:=aft) (g:=g) (ls:=ls) (h:=h) hT hk hat hx
 rwa [List.length_map] at this
theorem Cert.idxM {t e:TypeId}{ti ei:TI}{x ix:Operand}{tok:Option Nat}{s:Sl α}{ik:IntKind}{n:Int}{y:α}{k:Nat}(hT:mkTI P t=some ti) (hk:ti.k=.slice e) (hE:mkTI P e=some ei)
  (hx:ev ts x=.a (.d (s.d k f tok))) (hi:ev ts ix=.a (.d (.int ik n))) (hkk:k=ei.size) (hr:idxC s.l n=some y) :
  Cert P (mk dst (.indexAddr t x ix) ty pos aft g) ts ls h {} (.a (.d (.view (f y)))) ls h:=by
 obtain⟨h1,h2⟩:=idxC_some hr;exact Cert.indexA hT hk hE hx hi hkk h1 (by rw [List.getElem?_map,h2]; rfl)
theorem Cert.idxMn {t e:TypeId}{ti ei:TI}{x ix:Operand}{tok:Option Nat}{s:Sl α}{ik:IntKind}{n:Nat}{y:α}{k:Nat}(hT:mkTI P t=some ti) (hk:ti.k=.slice e) (hE:mkTI P e=some ei)
  (hx:ev ts x=.a (.d (s.d k f tok))) (hi:ev ts ix=.a (.d (.int ik (n:Int)))) (hkk:k=ei.size) (hr:s.l[n]?=some y) :
  Cert P (mk dst (.indexAddr t x ix) ty pos aft g) ts ls h {} (.a (.d (.view (f y)))) ls h :=
 Cert.indexA hT hk hE hx hi hkk (by omega) (by rw [Int.toNat_natCast,List.getElem?_map,hr]; rfl)
theorem Cert.idxSn {t:TypeId}{ti:TI}{x ix:Operand}{s:Bs}{ik:IntKind}{n:Nat}{c:UInt8}(hT:mkTI P t=some ti) (hk:ti.k=.str) (hx:ev ts x=.a (.d (.str s))) (hi:ev ts ix=.a (.d (.int ik (n:Int)))) (hr:s[n]?=some c) :
  Cert P (mk dst (.index t x ix) ty pos aft g) ts ls h {} (.a (.d (.int .u8 (c.toNat:Int)))) ls h :=
 Cert.indexS hT hk hx hi (by omega) (by rw [Int.toNat_natCast]; exact hr)
theorem Cert.addM {t u:TypeId}{x y:Operand}{m n r:Int}(hx:ev ts x=.a (.d (.int .i64 m))) (hy:ev ts y=.a (.d (.int .i64 n))) (hr:addC m n=some r):Cert P (mk dst (.binOp .add t x y u) ty pos aft g) ts ls h {} (.a (.d (.int .i64 r))) ls h:=by
 obtain⟨e,h1,h2⟩:=addC_some hr;subst e; exact Cert.addI hx hy h1 h2
theorem Cert.catM {t u:TypeId}{x y:Operand}{a b r:Bs}(hx:ev ts x=.a (.d (.str a))) (hy:ev ts y=.a (.d (.str b))) (hr:catC a b=some r):Cert P (mk dst (.binOp .add t x y u) ty pos aft g) ts ls h {} (.a (.d (.str r))) ls h:=by
 obtain⟨e,h1⟩:=catC_some hr;subst e; exact Cert.concat hx hy h1
theorem Cert.partA {t e:TypeId}{ti ei:TI}{x:Operand}{lo hi:Option Operand}{k:Nat}{tok:Option Nat}{nl:Bool}{rows:List (List D)}{l r:Nat}(hT:mkTI P t=some ti) (hk:ti.k=.slice e) (hE:mkTI P e=some ei)
  (hx:ev ts x=.a (.d (.slice k tok nl rows))) (hkk:k=ei.size)
  (hlo:match lo with|none=>l=0|some o=>∃ik n,ev ts o=.a (.d (.int ik n))/\0<=n/\l=n.toNat) (hhi:match hi with|none=>r=rows.length|some o=>∃ik n,ev ts o=.a (.d (.int ik n))/\0<=n/\r=n.toNat)
  (hlr:l<=r) (hrr:r<=rows.length):Cert P (mk dst (.slice t x lo hi none) ty pos aft g) ts ls h {} (.a (.d (.slice k none nl ((rows.take r).drop l)))) ls h:=by
 cases nl with
 | false=>exact Cert.part hT hk hE hx hkk hlo hhi hlr hrr
 | true =>
  refine Cert.of_ops fun j w jl act ho=>?_;have h1:=ho x (by simp [Op.operands]);rw [hx] at h1;obtain⟨b,cap,e1,hn,hc,hnil,hnone,hkr,hb⟩:=rel_slice h1;cases b with
  | some b=>simp at hnil
  | none =>
   obtain⟨rfl,rfl⟩:=hnone rfl;simp only [List.length_nil,Nat.le_zero] at hrr;subst hrr;have hl0:l=0:=by omega
   subst hl0;have hb1:(match lo.map act.eval with|some v=>Instr.sliceBound v 0 .sliceB|none=>pure 0).run P w=.ok 0 w:=by
    cases lo with
    | none=>simp
    | some o =>
     obtain⟨ik,n,h2,h3,h4⟩:=hlo;have:=bound_run (P:=P) (cap:=0) h2 (ho o (by simp [Op.operands])) h3 (by omega) .sliceB;simp only [Option.map_some]; rw [this,<- h4]
   have hb2:(match hi.map act.eval with|some v=>Instr.sliceBound v 0 .sliceAcap|none=>pure ([]:List (List D)).length).run P w=.ok 0 w:=by
    cases hi with
    | none=>simp
    | some o =>
     obtain⟨ik,n,h2,h3,h4⟩:=hhi;have:=bound_run (P:=P) (cap:=0) h2 (ho o (by simp [Op.operands])) h3 (by omega) .sliceAcap;simp only [Option.map_some]; rw [this,<- h4]
   refine⟨.slice none 0 0, ?_,DRel.snil _ _ (by simp)⟩;have:=slice_run hT hk hE (a:=none) (len:=0) (cap:=0) hb1 hb2;simp only [List.length_nil] at e1;simp only [execOp,Sem.run_bind,e1,Option.map_none,this,Result.andThen,Sem.run_pure];simp
theorem Cert.partM {t e:TypeId}{ti ei:TI}{x:Operand}{lo hi:Option Operand}{l r:Option Int}{k:Nat}{tok:Option Nat}{s y:Sl α}(hT:mkTI P t=some ti) (hk:ti.k=.slice e) (hE:mkTI P e=some ei)
  (hx:ev ts x=.a (.d (s.d k f tok))) (hkk:k=ei.size)
  (hlo:match lo,l with|none,none=>True|some o,some n=>ev ts o=.a (.d (.int .i64 n))|_,_=>False) (hhi:match hi,r with|none,none=>True|some o,some n=>ev ts o=.a (.d (.int .i64 n))|_,_=>False)
  (hr:partC s l r=some y):Cert P (mk dst (.slice t x lo hi none) ty pos aft g) ts ls h {} (.a (.d (y.d k f none))) ls h:=by
 unfold partC at hr
 split at hr
 ·rename_i hc
  simp only [Option.some.injEq] at hr;have:=Cert.partA (lou:=lou) (P:=P) (dst:=dst) (ty:=ty) (pos:=pos) (aft:=aft) (g:=g) (ls:=ls) (h:=h) (l:=(l.getD 0).toNat) (r:=(r.getD s.l.length).toNat) hT hk hE (lo:=lo) (hi:=hi) hx hkk
   (by cases lo with
     | none=>cases l with
      | none=>rfl
      | some n=>exact hlo.elim
     | some o=>cases l with
      | none=>exact hlo.elim
      | some n=>exact⟨_,n,hlo,hc.1,rfl⟩)
   (by cases hi with
     | none=>cases r with
      | none=>simp
      | some n=>exact hhi.elim
     | some o=>cases r with
      | none=>exact hhi.elim
      | some n=>exact⟨_,n,hhi,Int.le_trans hc.1 hc.2.1,rfl⟩) (by omega) (by simp; omega)
  rw [<- List.map_take,<- List.map_drop] at this;rw [<- hr]; exact this
 ·cases hr
theorem Cert.appM {t u e:TypeId}{ti ui ei:TI}{x y:Operand}{tk k k' m:Nat}{tok':Option Nat}{s r v:Sl α}{z:A}(hT:mkTI P t=some ti) (hk:ti.k=.slice e) (hE:mkTI P e=some ei) (hU:mkTI P u=some ui) (huk:∃e,ui.k=.slice e)
  (hz:ei.zero=some z) (hzs:(cellsA z).length=ei.size) (hsz:ei.size≠0) (hx:ev ts x=.a (.d (s.d k f (some tk)))) (hy:ev ts y=.a (.d (r.d k' f tok'))) (hkk:k=ei.size) (hkk':k'=ei.size)
  (htk:h tk=some (.tok ei.size m)) (hm:m=s.l.length) (hr:appC ei.bytes s r=some v) :
  Cert P (mk dst (.call { callee:=.builtin .append,args:=#[x,y],argTypes:=#[t,u] }) ty pos aft g) ts ls h { rh:=true,wh:=true } (.a (.d (v.d k f (some tk)))) ls (h.set tk (some (.tok ei.size v.l.length))):=by
 obtain⟨e,h1,h2⟩:=appC_some hr;subst e;have:=Cert.append (lou:=lou) (P:=P) (dst:=dst) (ty:=ty) (pos:=pos) (aft:=aft) (g:=g) (ls:=ls) hT hk hE hU (.inl huk) hz hzs hsz hx hy (.inl hkk) (.inl hkk') htk (by rw [hm]; simp) (by simpa using h1) (by simpa using h2);simp only [List.length_map,List.length_append] at this ⊢;rw [<- List.map_append,List.isEmpty_map,<- hkk] at this;rw [<- hkk];exact this
end
section
variable {P:Program}{dst:Option Tmp}{ty:TypeId}{pos:String}{aft:Array Edge}{g:Option (Nat×Bool)}{ts:Ts}{ls:List (List D)}{h:Heap}{α:Type}{f:α->List D}
theorem nil_any {k k':Nat}(j:J) (w:World) (cv:Value) (h:VRel j w [] (.a (.d (.slice k none true []))) cv):VRel j w [] (.a (.d (.slice k' none true []))) cv:=by
 have h':DRel j w (.slice k none true []) cv:=h;cases h';exact DRel.snil _ _ fun t e=>by cases e
theorem Cert.assignNil {x:Operand}{k k':Nat}(hx:ev ts x=.a (.d (.slice k none true []))):Cert P (mk dst (.assign x) ty pos aft g) ts ls h {} (.a (.d (.slice k' none true []))) ls h :=
 (Cert.assign hx).weakV fun j w _ cv h=>nil_any j w cv h
theorem equalIn_nil {t e:TypeId}(hu:P.underlying t=some (.slice e)) (d:Nat) (b:Option Addr) (n cap:Nat) (w:World):(Op.equalIn (d+1) t (.slice b n cap) (.slice none 0 0)).run P w=.ok b.isNone w:=by
 unfold Op.equalIn;simp only [Sem.run_bind,run_under hu,Result.andThen];cases b<;>simp
theorem equal_nil {t e:TypeId}(hu:P.underlying t=some (.slice e)) (b:Option Addr) (n cap:Nat) (w:World):(Op.equal t (.slice b n cap) (.slice none 0 0)).run P w=.ok b.isNone w:=by
 exact equalIn_nil hu 9999 b n cap w
theorem guard_nil {t e:TypeId}{op:BinOp}(x y:Operand) (b:Option Addr) (n cap:Nat) (w:World):(eqGuard op t x y (.slice b n cap) (.slice none 0 0)).run P w=.ok () w:=by
 unfold eqGuard;simp
theorem Cert.eqNil {t e u:TypeId}{ti:TI}{x:Operand}{k:Nat}{tok:Option Nat}{nl:Bool}{rows:List (List D)}(hT:mkTI P t=some ti) (hk:ti.k=.slice e) (hx:ev ts x=.a (.d (.slice k tok nl rows))) :
  Cert P (mk dst (.binOp .eql t x (.const (.slice none 0 0)) u) ty pos aft g) ts ls h {} (.a (.d (.bool nl))) ls h :=
 Cert.of_ops fun j w jl act ho=>by
  have h1:=ho x (by simp [Op.operands]);rw [hx] at h1;obtain⟨b,cap,e1,_,_,hnil,_⟩:=rel_slice h1;have hu:=slice_of hT hk;subst hnil;have e2:act.eval (.const (.slice none 0 0))=.slice none 0 0:=rfl;refine⟨.bool b.isNone, ?_,DRel.bool _⟩;simp only [execOp,e1,e2,Sem.run_bind,guard_nil (e:=e),Result.andThen,binOp,Sem.run_map,equal_nil hu,Sem.run_pure]
theorem Cert.cutM {t:TypeId}{ti:TI}{x:Operand}{lo hi:Option Operand}{l r:Option Int}{s y:Bs}(hT:mkTI P t=some ti) (hk:ti.k=.str) (hx:ev ts x=.a (.d (.str s)))
  (hlo:match lo,l with|none,none=>True|some o,some n=>ev ts o=.a (.d (.int .i64 n))|_,_=>False) (hhi:match hi,r with|none,none=>True|some o,some n=>ev ts o=.a (.d (.int .i64 n))|_,_=>False)
  (hne:lo.isSome=true\/hi.isSome=true) (hr:cutC s l r=some y):Cert P (mk dst (.slice t x lo hi none) ty pos aft g) ts ls h {} (.a (.d (.str y))) ls h:=by
 unfold cutC at hr
 split at hr
 ·rename_i hc
  simp only [Option.some.injEq] at hr;cases lo with
  | none =>
   cases l with
   | some n=>exact hlo.elim
   | none =>
    cases hi with
    | none=>simp at hne
    | some o =>
     cases r with
     | none=>exact hhi.elim
     | some n =>
      have:=Cert.cutH (lou:=lou) (P:=P) (dst:=dst) (ty:=ty) (pos:=pos) (aft:=aft) (g:=g) (ls:=ls) (h:=h) hT hk hx hhi (by simpa using hc.2.1) (by simpa using hc.2.2);rw [<- hr]; simpa using this
  | some o =>
   cases l with
   | none=>exact hlo.elim
   | some n =>
    cases hi with
    | none =>
     cases r with
     | some m=>exact hhi.elim
     | none =>
      have:=Cert.cutL (lou:=lou) (P:=P) (dst:=dst) (ty:=ty) (pos:=pos) (aft:=aft) (g:=g) (ls:=ls) (h:=h) hT hk hx hlo (by simpa using hc.1) (by simpa using hc.2.1);rw [<- hr]; simpa using this
    | some o' =>
     cases r with
     | none=>exact hhi.elim
     | some m =>
      have:=Cert.cutLH (lou:=lou) (P:=P) (dst:=dst) (ty:=ty) (pos:=pos) (aft:=aft) (g:=g) (ls:=ls) (h:=h) hT hk hx hlo hhi (by simpa using hc.1) (by simpa using hc.2.1) (by simpa using hc.2.2);rw [<- hr];simp only [Option.getD_some];rw [List.drop_take];exact this
 ·cases hr
end
theorem AOps.sLen {P:Program}{ops:Array Oper}{rest:List Oper}{Q:St->Prop}{n:Nat}{ts:Ts}{ls:List (List D)}{h:Heap}{d:Nat}{ty:TypeId}{pos:String}{aft:Array Edge}{t e:TypeId}{ti:TI}{x:Operand}{ats:Array TypeId}{k:Nat}{tok:Option Nat}{α:Type}{f:α->List D}{s:Sl α}
  (hT:mkTI P t=some ti) (hk:ti.k=.slice e) (hat:ats[0]?=some t) (hx:ev ts x=.a (.d (s.d k f tok))) (hd:Nat.blt d n=true)
  (hr:s.l.length<=140737488355328->AOps P ops rest Q ⟨n,(d,.a (.d (.int .i64 (s.l.length:Int))))::ts,ls,h⟩) :
  AOps P ops (⟨some d,.call { callee:=.builtin .len,args:=#[x],argTypes:=ats },ty,pos,aft,none⟩::rest) Q ⟨n,ts,ls,h⟩:=by
 intro j w jl a hsr Qc hk2;have hlen:s.l.length<=140737488355328:=by
  have h1:=ev_rel hsr.tmps x;rw [hx] at h1;obtain⟨_,_,_,hn,_⟩:=rel_slice h1
  simpa [maxN] using hn
 exact AOps.s0 (Cert.lenM' hT hk hat hx) hd (hr hlen) j w jl a hsr Qc hk2
theorem AOps.sLenS {P:Program}{ops:Array Oper}{rest:List Oper}{Q:St->Prop}{n:Nat}{ts:Ts}{ls:List (List D)}{h:Heap}{d:Nat}{ty:TypeId}{pos:String}{aft:Array Edge}{t:TypeId}{ti:TI}{x:Operand}{ats:Array TypeId}{s:Bs}
  (hT:mkTI P t=some ti) (hk:ti.k=.str) (hat:ats[0]?=some t) (hx:ev ts x=.a (.d (.str s))) (hd:Nat.blt d n=true)
  (hr:s.length<=4611686018427387904->AOps P ops rest Q ⟨n,(d,.a (.d (.int .i64 (s.length:Int))))::ts,ls,h⟩) :
  AOps P ops (⟨some d,.call { callee:=.builtin .len,args:=#[x],argTypes:=ats },ty,pos,aft,none⟩::rest) Q ⟨n,ts,ls,h⟩:=by
 intro j w jl a hsr Qc hk2;have hlen:s.length<=4611686018427387904:=by
  have h1:=ev_rel hsr.tmps x;rw [hx] at h1;exact(rel_str h1).2
 exact AOps.s0 (Cert.lenS hT hk hat hx) hd (hr hlen) j w jl a hsr Qc hk2
theorem AOps.heq {P:Program}{ops:Array Oper}{rest:List Oper}{Q:St->Prop}{n:Nat}{ts:Ts}{ls:List (List D)}{h h':Heap}(e:h=h') (hw:AOps P ops rest Q ⟨n,ts,ls,h'⟩):AOps P ops rest Q ⟨n,ts,ls,h⟩:=e▸hw
theorem DOps.heq {P:Program}{ops:Array Oper}{m:Nat}{rest:List Oper}{done:List Fx}{Q:St->Prop}{n:Nat}{ts:Ts}{ls:List (List D)}{h h':Heap}(e:h=h') (hw:DOps P ops m rest done Q ⟨n,ts,ls,h'⟩):DOps P ops m rest done Q ⟨n,ts,ls,h⟩:=e▸hw
theorem AWp.heqA {P:Program}{c:Code}{Q:Exit->St->Prop}{n:Nat}{ts:Ts}{ls:List (List D)}{h h':Heap}(e:h=h') (hw:AWp P c Q ⟨n,ts,ls,h'⟩):AWp P c Q ⟨n,ts,ls,h⟩:=e▸hw
theorem Heap.set_fresh {h:Heap}{i r:Nat}{o:Obj}(e:(h.set i (some o)) r=none):r≠i/\h r=none:=by
 have h1:r≠i:=fun e2=>by rw [e2,Heap.set_same] at e; cases e
 exact⟨h1,by rw [Heap.set_other _ _ h1] at e; exact e⟩
section
variable {P:Program}{ops:Array Oper}{rest:List Oper}{Q:St->Prop}{n:Nat}{ts:Ts}{ls:List (List D)}{h:Heap}
theorem AOps.recell (id:Nat){xs:List D}(ys:List D) (hc:h id=some (.cells xs)) (hy:∀j w cs,HRel j w h->All2 (DRel j w) xs cs->All2 (DRel j w) ys cs)
  (hw:AOps P ops rest Q ⟨n,ts,ls,h.set id (some (.cells ys))⟩):AOps P ops rest Q ⟨n,ts,ls,h⟩:=by
 intro j w jl a hsr Qc hk;have hl:=hsr.hl;refine hw j w jl a ⟨hsr.defers,hsr.size,hsr.tmps,⟨hl.1.recell hc (hy j w · hl.1),⟨hl.2.each,hl.2.nodup,fun b hb ho=>hl.2.apart b hb ((Own.recell hc).1 ho)⟩⟩⟩ Qc fun σ' j' w' jl' a' hq hs' hev=>hk σ' j' w' jl' a' hq hs' (Evolve.trans ?_ hev);exact { Evolve.refl j _ (Own j h jl) with own:=fun b _ ho=>(Own.recell hc).1 ho }
theorem AOps.relocal (i:Nat){xs:List D}(ys:List D) (hc:ls[i]?=some xs) (hy:∀j w cs,HRel j w h->All2 (DRel j w) xs cs->All2 (DRel j w) ys cs)
  (hw:AOps P ops rest Q ⟨n,ts,ls.set i ys,h⟩):AOps P ops rest Q ⟨n,ts,ls,h⟩:=by
 intro j w jl a hsr;have hl:=hsr.hl;have hea:All2 (fun xs b=>Loc1 j w b xs) (ls.set i ys) jl:=by
  refine All2.of_get (by rw [List.length_set,hl.2.each.length]) fun k x b hx hb=>?_;rw [List.getElem?_set] at hx
  split at hx
  ·rename_i e
   subst e
   split at hx
   ·simp only [Option.some.injEq] at hx; subst hx;obtain⟨b',hb',cs,te,h1,h2,h3⟩:=hl.2.each.get hc;rw [hb] at hb'; simp only [Option.some.injEq] at hb'; subst hb';exact⟨cs,te,h1,hy j w _ hl.1 h2,h3⟩
   ·cases hx
  ·obtain⟨b',hb',h1⟩:=hl.2.each.get hx;rw [hb] at hb'; simp only [Option.some.injEq] at hb'; subst hb';exact h1
 exact hw j w jl a ⟨hsr.defers,hsr.size,hsr.tmps,⟨hl.1,⟨hea,hl.2.nodup,hl.2.apart⟩⟩⟩
theorem AOps.tok (k:Nat) (hw:∀t,h t=none->AOps P ops rest Q ⟨n,ts,ls,h.set t (some (.tok k 0))⟩):AOps P ops rest Q ⟨n,ts,ls,h⟩:=by
 intro j w jl a hsr Qc hk;obtain⟨h1,h2⟩:=hsr.hl.newTok k;have hnone:=hsr.hl.1.next_none (Nat.le_refl _);exact hw j.next hnone j.newTok w jl a ⟨hsr.defers,hsr.size,fun i=>(hsr.tmps i).mono h2.toLe (Ext.refl _),h1⟩ Qc fun σ' j' w' jl' a' hq hs' hev=>hk σ' j' w' jl' a' hq hs' (h2.trans hev)
theorem AOps.nilTok (s k t:Nat){o:Obj}{k0:Nat}(hs:get ts s=.a (.d (.slice k0 none true []))) (ht:h t=some o)
  (hw:AOps P ops rest Q ⟨n,(s,.a (.d (.slice k (some t) true [])))::ts,ls,h⟩):AOps P ops rest Q ⟨n,ts,ls,h⟩:=by
 intro j w jl a hsr;refine hw j w jl a ⟨hsr.defers,hsr.size,fun i=>?_,hsr.hl⟩;by_cases e:s=i
 ·subst e;show VRel _ _ _ (get ((s,_)::ts) s) _;rw [get_same];have hv:VRel j w jl (get ts s) (a.tmps.getD s undef):=hsr.tmps s;rw [hs] at hv;exact(AsArg.nil (k':=k) ht).rel hsr.hl.1 hv
 ·show VRel _ _ _ (get ((s,_)::ts) i) _;rw [get_other _ _ e];exact hsr.tmps i
theorem AOps.dropTok (s:Nat){k:Nat}{tk:Option Nat}{nl:Bool}{rows:List (List D)}(hs:get ts s=.a (.d (.slice k tk nl rows)))
  (hw:AOps P ops rest Q ⟨n,(s,.a (.d (.slice k none nl rows)))::ts,ls,h⟩):AOps P ops rest Q ⟨n,ts,ls,h⟩:=by
 intro j w jl a hsr;refine hw j w jl a ⟨hsr.defers,hsr.size,fun i=>?_,hsr.hl⟩;by_cases e:s=i
 ·subst e;show VRel _ _ _ (get ((s,_)::ts) s) _;rw [get_same];have hv:VRel j w jl (get ts s) (a.tmps.getD s undef):=hsr.tmps s;rw [hs] at hv;exact slice_dropTok j w _ hv
 ·show VRel _ _ _ (get ((s,_)::ts) i) _;rw [get_other _ _ e];exact hsr.tmps i
end
theorem tok_cell {j:J}{w:World}{h:Heap}{t:Nat}{o:Obj}{xs:List D}{cs:List Value}(i k k':Nat) (hh:HRel j w h) (ht:h t=some o) (hx:All2 (DRel j w) xs cs) (hi:xs[i]?=some (.slice k none true [])) :
  All2 (DRel j w) (xs.set i (.slice k' (some t) true [])) cs:=by
 refine All2.of_get (by rw [List.length_set,hx.length]) fun n x v hn hv=>?_;rw [List.getElem?_set] at hn
 split at hn
 ·rename_i e
  subst e
  split at hn
  ·simp only [Option.some.injEq] at hn; subst hn;obtain⟨v',hv',hr⟩:=hx.get hi;rw [hv] at hv'; simp only [Option.some.injEq] at hv'; subst hv';exact(AsArg.nil (k:=k) (k':=k') ht).rel hh (x:=.d (.slice k none true [])) hr
  ·cases hn
 ·obtain⟨v',hv',hr⟩:=hx.get hn;rw [hv] at hv'; simp only [Option.some.injEq] at hv'; subst hv';exact hr
theorem untok_cell {j:J}{w:World}{xs:List D}{cs:List Value}(i:Nat){k:Nat}{tk:Option Nat}{nl:Bool}{rows:List (List D)}(hx:All2 (DRel j w) xs cs) (hi:xs[i]?=some (.slice k tk nl rows)) :
  All2 (DRel j w) (xs.set i (.slice k none nl rows)) cs:=by
 refine All2.of_get (by rw [List.length_set,hx.length]) fun n x v hn hv=>?_;rw [List.getElem?_set] at hn
 split at hn
 ·rename_i e
  subst e
  split at hn
  ·simp only [Option.some.injEq] at hn; subst hn;obtain⟨v',hv',hr⟩:=hx.get hi;rw [hv] at hv'; simp only [Option.some.injEq] at hv'; subst hv';exact slice_dropTok j w v hr
  ·cases hn
 ·obtain⟨v',hv',hr⟩:=hx.get hn;rw [hv] at hv'; simp only [Option.some.injEq] at hv'; subst hv';exact hr
def F0:Nat:=4611686018427387904
theorem wA {n:Nat}{ts ts':Ts}{ls ls':List (List D)}{h h':Heap}(hk:Keeps ts ls'.length ts':=by repeat (first|exact Keeps.nil|refine Keeps.c rfl rfl ?_|refine Keeps.c (by(first|(first|rfl|((conv=>lhs; whnf); first|(simp [cellsA,faultsT,faultsD,namesD,Fault.mk_c,Nat.add_assoc,empty_append,Bool.and_assoc]; done)|(simp [cellsA,faultsT,faultsD,namesD,Nat.add_assoc,empty_append,Bool.and_assoc]; repeat (first|rfl|constructor))))|rfl|(simp only [get_same,ev]; done)|(simp [*,cellsA]; done)|(show V.a (A.d (D.slice _ _ _ _))=V.a (A.d (D.slice _ _ _ _)); simp [*,cellsA]; done))) rfl ?_)) (hl:Pfx ls' ls:=by repeat (first|exact Pfx.nil|apply Pfx.cons)) (hh:h=h':=by first|rfl|(first|rfl|(simp only [Heap.set_set,List.length_append,List.length_nil,List.length_cons,List.length_map,List.length_singleton,Nat.zero_add]; done)|(simp [Heap.set_set,Nat.add_assoc]; done))|(((funext n; simp only [Heap.set]; (repeat' split)<;>simp_all))<;>first|rfl|exact⟨rfl,rfl⟩)):Weak ⟨n,ts,ls,h⟩ ⟨n,ts',ls',h'⟩:=Weak.to hk hl hh
theorem Weak.toFA {n:Nat}{ts ts':Ts}{ls ls':List (List D)}{h h':Heap}(hh:∀id o,h' id=some o->h id=some o) (hk:Keeps ts ls'.length ts':=by repeat (first|exact Keeps.nil|refine Keeps.c rfl rfl ?_|refine Keeps.c (by(first|(first|rfl|((conv=>lhs; whnf); first|(simp [cellsA,faultsT,faultsD,namesD,Fault.mk_c,Nat.add_assoc,empty_append,Bool.and_assoc]; done)|(simp [cellsA,faultsT,faultsD,namesD,Nat.add_assoc,empty_append,Bool.and_assoc]; repeat (first|rfl|constructor))))|rfl|(simp only [get_same,ev]; done)|(simp [*,cellsA]; done)|(show V.a (A.d (D.slice _ _ _ _))=V.a (A.d (D.slice _ _ _ _)); simp [*,cellsA]; done))) rfl ?_)) (hl:Pfx ls' ls:=by repeat (first|exact Pfx.nil|apply Pfx.cons)):Weak ⟨n,ts,ls,h⟩ ⟨n,ts',ls',h'⟩:=Weak.toF hk hl hh
theorem hpG {h:Heap}{i:Nat}{o:Option Obj}(hg:h i=o:=by(first|assumption|exact Heap.set_same _ _ _|((repeat (refine(Heap.set_other _ _ (by first|assumption|(apply Ne.symm; assumption))).trans ?_)); first|assumption|exact Heap.set_same _ _ _)|(simp only [Heap.set_set,Heap.set_same]; done)|(simp [Heap.set, *]; done))):h i=o:=hg
end Go.Ab
namespace Go.Ab
open Go Go.RowKit
variable {lou:Lou}
section
variable {P:Program}{ts:Ts}{ls ls':List (List D)}{h h':Heap}{fx:Fx}{x:A}{dst:Option Tmp}{ty:TypeId}{pos:String}{aft:Array Edge}{g:Option (Nat×Bool)}
theorem Cert.ungdA {o:Oper}{v:V}{k:Nat}{c:Bool}(hk:get ts k=.gd c x) (hs:Cert P o ((k,.a x)::ts) ls h fx v ls' h') (hc:c=true:=by first|assumption|exact andL (by assumption)|exact andL (andL (by assumption))|exact andL (andL (andL (by assumption)))|exact andR (by assumption)|simp_all):Cert P o ts ls h fx v ls' h':=Cert.ungd hk hc hs
theorem Cert.ungdLA {o:Oper}{v:V}{k:Nat}{c:Bool}{i off:Nat}(hk:get ts k=.gdl c i off) (hs:Cert P o ((k,.lptr i off)::ts) ls h fx v ls' h') (hc:c=true:=by first|assumption|exact andL (by assumption)|exact andL (andL (by assumption))|exact andL (andL (andL (by assumption)))|exact andR (by assumption)|simp_all):Cert P o ts ls h fx v ls' h':=Cert.ungdL hk hc hs
theorem Cert.pickAndA {c y z:Operand}{b r cy:Bool}(hc:ev ts c=.a (.d (.bool b))) (hy:ev ts y=.gd cy (.d (.bool r))) (hz:ev ts z=.a (.d (.bool false))) (himp:b=true->cy=true:=by intro hh; first|exact hh|exact notT hh|exact andI (by assumption) hh|exact andI (by assumption) (notT hh)|simp_all) :
  Cert P (mk dst (.pick c y z) ty pos aft g) ts ls h {} (.a (.d (.bool (b&&r)))) ls h:=Cert.pickAnd hc hy himp hz
theorem Cert.pickOrA {c y z:Operand}{b r cz:Bool}(hc:ev ts c=.a (.d (.bool b))) (hy:ev ts y=.a (.d (.bool true))) (hz:ev ts z=.gd cz (.d (.bool r))) (himp:b=false->cz=true:=by intro hh; first|exact hh|exact notT hh|exact andI (by assumption) hh|exact andI (by assumption) (notT hh)|simp_all) :
  Cert P (mk dst (.pick c y z) ty pos aft g) ts ls h {} (.a (.d (.bool (b||r)))) ls h:=Cert.pickOr hc hy hz himp
theorem Cert.moveA {x:Operand}{v:V}(hx:ev ts x=v:=by conv=>lhs; whnf):Cert P (mk dst (.move x) ty pos aft g) ts ls h {} v ls h:=Cert.move hx
theorem Cert.assignA {x:Operand}{v:V}(hx:ev ts x=v:=by conv=>lhs; whnf):Cert P (mk dst (.assign x) ty pos aft g) ts ls h {} v ls h:=Cert.assign hx
theorem Cert.fieldVA {t:TypeId}{ti fi:TI}{fs:List (Nat×TypeId)}{x:Operand}{f o:Nat}{xs ys:List D}{ft:TypeId}(hT:mkTI P t=some ti) (hk:ti.k=.struct fs) (hf:fs[f]?=some (o,ft)) (hF:mkTI P ft=some fi)
  (hz:Nat.beq fi.size 0=false) (hx:ev ts x=.a (.d (.view xs))) (hy:xs.drop o=ys:=by conv=>lhs; whnf):Cert P (mk dst (.fieldAddr t x f) ty pos aft g) ts ls h {} (.a (.d (.view ys))) ls h:=Cert.fieldV hT hk hf hF hz hx hy
theorem KeepsT.A {ts:Ts}{k:Nat}{v:V}{r:Ts}(t:KeepsT ts r) (h:Ab.get ts k=v:=by conv=>lhs; whnf):KeepsT ts ((k,v)::r):=KeepsT.cons h t
theorem Cert.allocLA {e:TypeId}{ti:TI}{z:A}{i:Nat}{ls':List (List D)}(hT:mkTI P e=some ti) (hz:ti.zero=some z) (hs:Snoc (cellsA z) ls i ls':=by repeat (first|exact Snoc.nil|apply Snoc.cons)) :
  Cert P (mk dst (.alloc e) ty pos aft g) ts ls h { wl:=true } (.lptr i 0) ls' h:=Cert.allocL hT hz hs
theorem Cert.storeLFA {t:TypeId}{ti:TI}{x y:Operand}{i:Nat}{xs ys:List D}{ls':List (List D)}(hT:mkTI P t=some ti) (hx:ev ts x=.lptr i 0) (hy:ev ts y=.a (.agg ys)) (hl:ls[i]?=some xs)
  (hsz:ys.length=ti.size) (hle:xs.length=ti.size) (hs:SetAt ys ls i ls':=by repeat (first|exact SetAt.zero|apply SetAt.succ)):Cert P (mk none (.store t x y) ty pos aft g) ts ls h { wl:=true } .any ls' h:=Cert.storeLF hT hx hy hl hsz hle hs
theorem AWp.freezeA {c:Code}{Q:Exit->St->Prop}{n:Nat}{ts':Ts}{ls':List (List D)}{xs:List D}(s i:Nat) (hs:get ts s=.lptr i 0) (hk:Keeps ts i ts') (hw:AWp P c Q ⟨n,(s,.a (.d (.view xs)))::ts',ls',h⟩) (hl:Snoc xs ls' i ls:=by repeat (first|exact Snoc.nil|apply Snoc.cons)):AWp P c Q ⟨n,ts,ls,h⟩:=AWp.freeze s i hs hl hk hw
theorem AWp.condE {c:Operand}{u v:Code}{Q:Exit->St->Prop}{σ:St}{b:Bool}{α:Type}{A B:Option α}{r:α}(hE:(bif b then A else B)=some r) (hc:ev σ.ts c=.a (.d (.bool b))) (ht:b=true->A=some r->AWp P u Q σ) (hf:b=false->B=some r->AWp P v Q σ):AWp P (.cond c u v) Q σ :=
 AWp.cond hc (fun h=>ht h (Go.Ab.condT h hE)) (fun h=>hf h (Go.Ab.condF h hE))
end
end Go.Ab

/-
 Slices that may be stored to: their object holds the rows; the slot tells the object and the length.
-/
namespace Go.Ab
open Go Go.RowKit
variable {lou:Lou}
variable {amb:Amb}

section
variable {P:Program}{ts:Ts}{ls:List (List D)}{h:Heap}{dst:Option Tmp}{ty:TypeId}{pos:String}{aft:Array Edge}{g:Option (Nat×Bool)}{α:Type}{f:α->List D}
end

section
variable {P:Program}{ts:Ts}{ls:List (List D)}{h:Heap}{dst:Option Tmp}{ty:TypeId}{pos:String}{aft:Array Edge}{g:Option (Nat×Bool)}{α:Type}{f:α->List D}
end

section
variable {P:Program}{ts:Ts}{ls:List (List D)}{h:Heap}{dst:Option Tmp}{ty:TypeId}{pos:String}{aft:Array Edge}{g:Option (Nat×Bool)}{α:Type}{f:α->List D}
variable {c:Code}{Q:Exit->St->Prop}{n:Nat}{ops:Array Oper}{rest:List Oper}{Q':St->Prop}
end
end Go.Ab

/-
 A function that lays one deferred call and returns: the deferred closure is called behind the body,then the results are read. No program text.
-/
namespace Go.Ab
open Go Go.RowKit
variable {lou:Lou}

section
variable {P:Program}{M:St->Prop}{σ:St}{Y:Code}
end

end Go.Ab
namespace Go.Ab
open Go Go.RowKit
variable {lou:Lou}
end Go.Ab
namespace Go.Ab
variable {lou:Lou}
end Go.Ab
namespace Go.Ab
variable {lou:Lou}
end Go.Ab

/-
 Arrays that are built at once and then only read.
-/
namespace Go.Ab
open Go Go.RowKit
variable {lou:Lou}
def arrF (n k:Nat) (e:TypeId):List (Nat×TypeId):=(List.range n).map fun i=>(i*k,e)
section
variable {P:Program}{T:List TI}{ts:Ts}{ls:List (List D)}{h:Heap}{dst:Option Tmp}{ty:TypeId}{pos:String}{aft:Array Edge}{g:Option (Nat×Bool)}
theorem Cert.buildArr (hTab:TabOk P T){t e:TypeId}{n:Nat}{ti ei:TI}{zs ys:List D}{parts:Array (Nat×Operand)}{ps:List (Nat×A)}(hu:P.underlying t=some (.array n e)) (hT:T[t]?=some ti) (hE:T[e]?=some ei) (hz:ti.zero=some (.agg zs))
  (hp:evParts ts parts.toList=some ps) (hb:buildA T (arrF n ei.size e) zs ps=some ys):Cert P (mk dst (.build t parts) ty pos aft g) ts ls h {} (.a (.agg ys)) ls h :=
 Cert.of_ops fun j w jl a ho=>by
  have hr:=evParts_rel (j:=j) (w:=w) (jl:=jl) (act:=a) parts.toList ps hp fun x hx=>ho x (by simp [Op.operands] at hx ⊢; exact hx);have hT':=hTab t ti hT;obtain⟨inf,d,h1,_,_,_,_,h2⟩:=mkTI_spec hT';rw [hz] at h2;obtain⟨zv,h3,h4⟩:=zeroF_rel h2;obtain⟨cs',h5,h6⟩:=buildA_spec (j:=j) (w:=w) (T:=T) (fs:=arrF n ei.size e) (place:=fun i=>some (i*ei.size,ei.size)) (fun i o ft fi hi hfi=>by
   unfold arrF at hi;rw [List.getElem?_map] at hi;cases e1:(List.range n)[i]? with
   | none=>rw [e1] at hi; cases hi
   | some q =>
    rw [e1] at hi;simp only [Option.map_some,Option.some.injEq,Prod.mk.injEq] at hi;obtain⟨rfl,rfl⟩:=hi;rw [hE] at hfi; cases hfi;have:=(List.getElem?_eq_some_iff.1 e1).2;rw [List.getElem_range] at this;rw [this]) ps _ zs ys zv.cells hb hr (h4 j w).cells
  refine⟨.agg cs', ?_,⟨cs'.toList,by simp,h6⟩⟩;have hrun:(Instr.build t (parts.map fun(i,x)=>(i,a.eval x))).run P w=.ok (.agg cs') w:=by
   simp only [Instr.build,Sem.run_bind,zeroValue,typeInfo,run_program,h1,h3,Result.andThen,Sem.run_pure,run_under hu,sizeOf_run (hTab e ei hE)];have e:(Array.map (fun(x:Nat×Operand)=>(x.1,a.eval x.2)) parts).toList=parts.toList.map fun p=>(p.1,a.eval p.2):=by simp
   rw [e,h5];simp
  simp only [execOp,Sem.run_bind,hrun,Result.andThen,Sem.run_pure]
end
end Go.Ab

/-
 Ranging over a set of strings: the map as it is,the iterator,its steps,delete.
-/
namespace Go.Ab
open Go Go.RowKit
variable {lou:Lou}{amb:Amb}
section
variable {P:Program}{c:Code}{Q:Exit->St->Prop}{n:Nat}{ts:Ts}{ls:List (List D)}{h:Heap}
end
section
variable {P:Program}{ts:Ts}{ls:List (List D)}{h:Heap}{dst:Option Tmp}{ty:TypeId}{pos:String}{aft:Array Edge}{g:Option (Nat×Bool)}
end
section
variable {P:Program}{ts:Ts}{ls:List (List D)}{h:Heap}{dst:Option Tmp}{ty:TypeId}{pos:String}{aft:Array Edge}{g:Option (Nat×Bool)}
end
section
variable {f:List UInt8->Option Bool}{r:List (List UInt8)}{clk:Nat}{p:List (List UInt8×Nat)}{seen:Array Nat}{s:List UInt8}{n:Nat}
end
section
variable {P:Program}{ts:Ts}{ls:List (List D)}{h:Heap}{dst:Option Tmp}{ty:TypeId}{pos:String}{aft:Array Edge}{g:Option (Nat×Bool)}
end
end Go.Ab

/-
 Calls that only lay new blocks. No program text.
-/
namespace Go.Ab
open Go Go.RowKit Go.Sort
variable {lou:Lou}

end Go.Ab

/-
 slices.Grow of a nil slice: the shelf's contract,read in the abstract state: a slice that may grow. No program text.
-/
namespace Go.Ab
open Go Go.RowKit Go.Proofs Go.Shelf
variable {lou:Lou}

def J.newTokB (j:J) (b cap:Nat):J:={ j with tok:=fun x=>if x=j.next then some ⟨some (b,cap),0⟩ else j.tok x,next:=j.next+1 }
theorem HL.newTokB {j:J}{w:World}{jl:List Nat}{ls:List (List D)}{h:Heap}(hl:HL j w jl ls h) (k:Nat){b cap:Nat}{cs:Array Value}{e:TypeId}(hb:w.heap[b]?=some (.cells cs e (0,0))) (hsz:cs.size=cap*k) (hF:j.F b=0)
  (hno:¬Own j h jl b){w0:World}{O:Nat->Prop}(hev:Evolve j w0 O j w (Own j h jl)) (hw0:w0.heap.size<=b) :
  HL (j.newTokB b cap) w jl ls (h.set j.next (some (.tok k 0)))/\Evolve j w0 O (j.newTokB b cap) w (Own (j.newTokB b cap) (h.set j.next (some (.tok k 0))) jl):=by
 have hle:Le j w (j.newTokB b cap) w:=⟨by simp [J.newTokB],fun _ _=>rfl,fun _=>Nat.le_refl _,fun _ _ _=>rfl,fun t ht=>.inl (by simp only [J.newTokB]; rw [if_neg (by omega)])⟩;have hk:=hl.keep hle (fun _ _=>⟨rfl,rfl⟩) (fun id hid _=>by simp only [J.newTokB]; rw [if_neg (by omega)]) hl.1.fresh;have hnew:blkOf (j.newTokB b cap) j.next (.tok k 0)=some b:=by simp [blkOf,J.newTokB]
 have hnxt:∀n q,h n=some q->n≠j.next:=fun n q hn c=>by rw [c,hl.1.next_none (Nat.le_refl _)] at hn; cases hn
 have hown:∀jl x,Own (j.newTokB b cap) (h.set j.next (some (.tok k 0))) jl x->x=b\/Own (j.newTokB b cap) h jl x:=by
  rintro jl x (hm|⟨n,q,hn,e⟩)
  ·exact .inr (.inl hm)
  ·by_cases c:n=j.next
   ·subst c; rw [Heap.set_same] at hn; simp only [Option.some.injEq] at hn; subst hn;rw [hnew] at e; simp only [Option.some.injEq] at e; exact .inl e.symm
   ·rw [Heap.set_other h _ c] at hn; exact .inr (.inr ⟨n,q,hn,e⟩)
 have hnoB:∀n q,h n=some q->blkOf (j.newTokB b cap) n q≠some b:=fun n q hn e=>hno ((hk.2 b).1 (.inr ⟨n,q,hn,e⟩));refine⟨⟨⟨fun id o hi=>?_,fun n1 q1 n2 q2 x h1 h2 e1 e2=>?_,hl.1.fresh⟩,⟨hk.1.2.each,hk.1.2.nodup,fun x hx ho=>?_⟩⟩,
  { toLe:=hev.toLe.trans hle,size:=hev.size,frame:=fun x hx hn=>hev.frame x hx hn,own:=fun x hx ho=>?_,os:=hev.os,tape:=hev.tape,output:=hev.output }⟩
 ·by_cases c:id=j.next
  ·subst c; rw [Heap.set_same] at hi; simp only [Option.some.injEq] at hi; subst hi;refine⟨by simp [J.newTokB],some (b,cap),by simp [J.newTokB],fun b' cap' e'=>?_,fun h=>by cases h⟩;simp only [Option.some.injEq,Prod.mk.injEq] at e';obtain⟨rfl,rfl⟩:=e';exact⟨cs,e,hb,hsz,by rw [Nat.zero_mul]; exact hF,Nat.zero_le _,fun _ h=>(by cases h)⟩
  ·rw [Heap.set_other h _ c] at hi; exact hk.1.1.obj id o hi
 ·by_cases c1:n1=j.next<;>by_cases c2:n2=j.next
  ·omega
  ·subst c1; rw [Heap.set_same] at h1; simp only [Option.some.injEq] at h1; subst h1;rw [Heap.set_other h _ c2] at h2;rw [hnew] at e1; simp only [Option.some.injEq] at e1; subst e1;exact absurd e2 (hnoB n2 q2 h2)
  ·subst c2; rw [Heap.set_same] at h2; simp only [Option.some.injEq] at h2; subst h2;rw [Heap.set_other h _ c1] at h1;rw [hnew] at e2; simp only [Option.some.injEq] at e2; subst e2;exact absurd e1 (hnoB n1 q1 h1)
  ·rw [Heap.set_other h _ c1] at h1; rw [Heap.set_other h _ c2] at h2;exact hk.1.1.inj n1 q1 n2 q2 x h1 h2 e1 e2
 ·rcases hown [] x ho with c|c
  ·subst c; exact hno (.inl hx)
  ·exact hk.1.2.apart x hx c
 ·rcases hown jl x ho with c|c
  ·omega
  ·exact hev.own x hx ((hk.2 x).1 c)

theorem grow_calls {P:Program}{ρ:Ren}(L:Lays8.n4 P ρ){ei:TI}{z:A}(hE:mkTI P (ρ.t 25)=some ei) (hz:ei.zero=some z) (hzs:(cellsA z).length=ei.size) (hs0:ei.size≠0){n:Int}(h0:0<=n) (hfit:n.toNat*ei.bytes<=maxN) (hn:n.toNat<=maxN)
  {F:Nat}(hF:F=ρ.f 4){T:Type}(c:T->List D){k0:Nat}(H:Heap) :
  AC P F [.d (.slice k0 none true []),.d (.int .i64 n)] H fun v h'=>∃tk,H tk=none/\v=.a (.d (Sl.d ei.size c (some tk) ⟨decide (n=0),[]⟩))/\h'=H.set tk (some (.tok ei.size 0)):=by
 subst hF;refine⟨L.f4.enters rfl,fun j w cargs hr ha=>?_⟩;have hl:HL j w [] [] H:=⟨hr,⟨.nil,by simp,by simp⟩⟩;cases ha with
 | cons h1 ha =>
 cases ha with
 | cons h2 ha =>
 cases ha
 rename_i v1 v2
 obtain⟨einf,ed,hei,_,hes,heb,_,hez⟩:=mkTI_spec hE;rw [hz] at hez;obtain⟨zv,hzv,hzr⟩:=zeroF_rel hez;have hzsize:zv.cells.size=ei.size:=by have:=(hzr j w).cells.length; rw [hzs] at this; simpa using this.symm
 have h1':DRel j w (.slice k0 none true []) v1:=h1;have h2':DRel j w (.int .i64 n) v2:=h2;cases h1';cases h2';have hnone:=hr.next_none (Nat.le_refl _);have hnat:n=(n.toNat:Int):=(Int.toNat_of_nonneg h0).symm;have hmaxN:maxN=140737488355328:=rfl;generalize n.toNat=m at hnat hfit hn;subst hnat;by_cases hm:m=0
 ·subst hm;refine(Any8.slices_Grow_room L none 0 0 0 w (by omega) (by omega) (by omega) (by omega)).mono ?_;rintro e w' ⟨rfl,rfl⟩;obtain⟨h3,h4⟩:=hl.newTok ei.size;refine⟨_,_,j.newTok,_,rfl,⟨j.next,hnone,rfl,rfl⟩, ?_,h3.1,h4⟩;exact DRel.snil _ _ fun t ht=>by simp at ht; subst ht; simp [J.newTok]
 ·refine(Any8.slices_Grow_grow L einf zv hei hzv (by rw [hes]; omega) none 0 0 m [] w (by omega) (by omega) (by rw [heb]; simpa [maxN] using hfit) (by omega) (by simp) (fun _=>rfl) (fun a h=>by cases h)).mono ?_;rintro e w' ⟨rfl,rfl⟩;generalize hcap:grownCap w (0+m) 0 (ρ.t 25)=cap;have hge:m<=cap:=by rw [<- hcap]; have:=grownCap_ge w (0+m) 0 (ρ.t 25); omega
  generalize hcs:(([]:List Value).toArray++Builtin.zeroCells zv.cells (0+m-0)++Builtin.zeroCells zv.cells (cap-(0+m)))=cs;have hsz:cs.size=cap*ei.size:=by
   rw [<- hcs];simp only [Array.size_append,size_zeroCells,hzsize,<- Nat.add_mul,List.size_toArray,List.length_nil,Nat.zero_add]
   congr 1; omega
  have hd:=hl.drew.data (lou:=lou) (.cells cs (ρ.t 25)) 0;have hfz:j.frz w.drew.heap.size 0=j:=J.frz_zero (hl.1.fresh _ (Nat.le_refl _));rw [hfz] at hd;have hdr:(w.drew).heap.size=w.heap.size:=rfl;obtain⟨h3,h4⟩:=hd;obtain⟨h5,h6⟩:=h3.newTokB ei.size (heap_alloc_new w.drew _) hsz (hl.1.fresh _ (Nat.le_refl _)) (fun ho=>by
   have h7:Own j H [] w.heap.size:=by
    rcases ho with hm|⟨i,o,hi,e⟩
    ·simp at hm
    ·exact .inr ⟨i,o,hi,e⟩
   have:=Own.lt hl h7; omega) ((Evolve.drew j w _).trans h4) (Nat.le_refl _)
  refine⟨_,_,_,_,rfl,⟨j.next,hnone,rfl,rfl⟩, ?_,h5.1,h6⟩;have hdec:decide ((m:Int)=0)=false:=decide_eq_false (by omega);show DRel _ _ (.slice ei.size (some j.next) (decide ((m:Int)=0)) []) _;rw [hdec];refine DRel.slice _ _ [] ⟨w.heap.size,0,none⟩ cap (fun _=>undef) (by simp) (by simp) (by simp) ⟨.inl rfl,by simp⟩ (by simp) fun t ht=>?_;simp only [Option.some.injEq] at ht;subst ht;refine⟨by simp [J.newTokB],fun q hq=>?_⟩
  simp only [J.newTokB,if_true,Option.some.injEq] at hq;subst hq;exact⟨by simp,fun _=>.inr ⟨_,rfl,rfl⟩⟩
end Go.Ab

/-
 index of an array by value,whose elements are one cell each. No program text.
-/
namespace Go.Ab
open Go Go.RowKit
variable {lou:Lou}
theorem Cert.indexArr {α:Type}{f:α->D}{P:Program}{ts:Ts}{ls:List (List D)}{h:Heap}{dst:Option Tmp}{ty:TypeId}{pos:String}{aft:Array Edge}{g:Option (Nat×Bool)}{t e:TypeId}{n:Nat}{ei:TI}{x ix:Operand}{ik:IntKind}{z:Int}{l:List α}{y:α}(hu:P.underlying t=some (.array n e)) (hus:P.underlying e=some .string) (hE:mkTI P e=some ei) (hs:ei.size=1) (hx:ev ts x=.a (.agg (l.map f))) (hi:ev ts ix=.a (.d (.int ik z)))
  (hn:n=l.length) (hr:idxC l z=some y):Cert P (mk dst (.index t x ix) ty pos aft g) ts ls h {} (.a (.d (f y))) ls h :=
 Cert.of_ops fun j w jl act ho=>by
  have h1:=ho x (by simp [Op.operands]);have h2:=ho ix (by simp [Op.operands]);rw [hx] at h1; rw [hi] at h2;obtain⟨cs,e1,hrr⟩:=h1;obtain⟨h0,hz⟩:=idxC_some hr;have hlt:=(List.getElem?_eq_some_iff.1 hz).1;have hlt2:z<(n:Int):=by omega
  obtain⟨v,hv,hd⟩:=hrr.get (i:=z.toNat) (x:=f y) (by rw [List.getElem?_map,hz]; rfl);refine⟨v, ?_,hd⟩;simp [execOp,e1,rel_int h2,Instr.index,asIntOf,run_under hu,sizeOf_run hE,h0,hlt2,hs];have hp:(Go.part e cs.toArray z.toNat).run P w=.ok v w:=by simp [Go.part,isAgg,run_underlying hus,hv]
  rw [hp]; rfl
end Go.Ab

/-
 A state in which a local's cells are read in another way is weaker. No program text.
-/
namespace Go.Ab
open Go Go.RowKit
variable {lou:Lou}
theorem Cert.makeFuncF {P:Program}{ts:Ts}{ls:List (List D)}{h:Heap}{dst:Option Tmp}{ty:TypeId}{pos:String}{aft:Array Edge}{g:Option (Nat×Bool)}{f:FuncId}{bnd caps:Array Operand} :
  Cert P (mk dst (.makeFunc (.func f) bnd caps) ty pos aft g) ts ls h {} (.a (.d .fany)) ls h :=
 Cert.of_ops fun j w jl act ho=>⟨.func (.func f) (bnd.map act.eval) (caps.map act.eval),by simp [execOp,Instr.makeFunc],.fany _ _ _⟩
end Go.Ab

namespace Go.Ab
variable {lou:Lou}
def on {α β:Sort _}(v:α) (k:α->β):β:=k v
namespace Q
universe u
variable {R O O2 Z:Type}{α:Type}
theorem condT {c:Bool}{a b r:α}(h:c=true) (h2:a=r):cond c a b=r:=by rw [h]; exact h2
theorem condF {c:Bool}{a b r:α}(h:c=false) (h2:b=r):cond c a b=r:=by rw [h]; exact h2
theorem condP {c:Bool}{a b:Option R}{x y:O}{K:O->Option R}(h1:a=K x) (h2:b=K y):cond c a b=K (cond c x y):=by cases c<;>assumption
theorem condO {c:Bool}{a b:Option R}{x y:Option O}{K:O->Option R}(h1:a=Option.bind x K) (h2:b=Option.bind y K):cond c a b=Option.bind (cond c x y) K:=by cases c<;>assumption
theorem bindP {o:Option α}{v:α}{k:α->Option R}{K:O->Option R}{b:α->O}(h:o=some v) (h2:∀x,x=v->k x=K (b x)):o.bind k=K (on v b):=by rw [h]; exact h2 v rfl
theorem bindPO {o:Option α}{v:α}{k:α->Option R}{K:O->Option R}{b:α->Option O}(h:o=some v) (h2:∀x,x=v->k x=Option.bind (b x) K):o.bind k=Option.bind (on v b) K:=by rw [h]; exact h2 v rfl
theorem bindO {o o':Option α}{k:α->Option R}{K:O->Option R}{b:α->Option O}(h:o=o') (h2:∀x,k x=Option.bind (b x) K):o.bind k=Option.bind (o'.bind b) K:=by
 rw [h]; cases o' with
 | none=>rfl
 | some v=>exact h2 v
theorem guardPO {c:Bool}{o:Option α}{v d:α}{k:α->Option R}{K:O->Option R}{b:α->Option O}(h:o=some v) (h2:∀x,x=cond c v d->k x=Option.bind (b x) K):guardO c o d k=Option.bind (on (cond c v d) b) K:=by
 rw [h]; cases c<;>exact h2 _ rfl
variable {lhs:Option R}
theorem wrapPP {q:Z}{b:Z->O}{K:O->Option R}(h:∀Kb:Z->Option R,(∀o,Kb o=K (b o))->lhs=Kb q):lhs=K (on q b):=h (fun o=>K (b o)) fun _=>rfl
theorem wrapPO {q:Z}{b:Z->Option O}{K:O->Option R}(h:∀Kb:Z->Option R,(∀o,Kb o=Option.bind (b o) K)->lhs=Kb q):lhs=Option.bind (on q b) K:=h (fun o=>Option.bind (b o) K) fun _=>rfl
theorem wrapOO {q:Option Z}{b:Z->Option O}{K:O->Option R}(h:∀Kb:Z->Option R,(∀o,Kb o=Option.bind (b o) K)->lhs=Option.bind q Kb):lhs=Option.bind (Option.bind q b) K:=by
 rw [h (fun o=>Option.bind (b o) K) fun _=>rfl]; cases q<;>rfl
theorem some_bind {α:Type}(o:Option α):Option.bind o some=o:=by cases o<;>rfl
theorem drop_of {l:List α}{i:Nat}{x:α}(h:l[i]?=some x):l.drop i=x::l.drop (i+1):=by
 obtain⟨hi,rfl⟩:=List.getElem?_eq_some_iff.1 h;exact List.drop_eq_getElem_cons hi
theorem ltT {i n:Nat}(h:i<n):decide ((i:Int)<(n:Int))=true:=by simpa using h
theorem ltF {i n:Nat}(h:¬i<n):decide ((i:Int)<(n:Int))=false:=by simpa using h
end Q
end Go.Ab
namespace Go.Ab
variable {lou:Lou}
end Go.Ab
namespace Go.Ab
variable {lou:Lou}
end Go.Ab
namespace Go.Ab
variable {lou:Lou}
end Go.Ab

namespace Go.Ab
variable {lou:Lou}
def Ok {α:Type}(o:Option α):Prop:=∃r,o=some r
namespace Tot
variable {α β:Type}
theorem some (a:α):Ok (Option.some a):=⟨a,rfl⟩
theorem bind {o:Option α}{k:α->Option β}(h:Ok o) (h2:∀v,o=Option.some v->Ok (k v)):Ok (o.bind k):=by
 obtain⟨v,hv⟩:=h; rw [hv]; exact h2 v hv
theorem cond {c:Bool}{a b:Option α}(h:c=true->Ok a) (h2:c=false->Ok b):Ok (_root_.cond c a b):=by
 cases c with
 | false=>exact h2 rfl
 | true=>exact h rfl
theorem on {v:α}{k:α->Option β}(h:∀x,x=v->Ok (k x)):Ok (Go.Ab.on v k):=h v rfl
end Tot
end Go.Ab
namespace Go.Ab
variable {lou:Lou}
end Go.Ab

/-
 Inputs: what a call is handed,read as plain data; what it leaves.
-/
namespace Go.Ab
open Go Go.RowKit Go.ChangeShapes Go.WideShapes Go.ChangeAt
variable {lou:Lou}

def j0 (w:World):J:=⟨fun _=>0,fun b=>match w.heap[b]? with|some (.cells cs _ _)=>cs.size|_=>0,fun _=>none,0⟩
def h0:Heap:=fun _=>none
theorem hrel0 (w:World):HRel (j0 w) w h0 :=
 ⟨fun _ _ h=>(by cases h),fun _ _ _ _ _ h=>(by cases h),fun b hb=>(by simp [j0,Array.getElem?_eq_none hb])⟩
theorem cell_F {w:World}{b o:Nat}{v:Value}(h:w.cell? ⟨b,o,none⟩=some v):o<(j0 w).F b:=by
 unfold World.cell? at h;simp only [j0]
 split at h
 ·rename_i c t f hc
  simp at h;simp only at hc;rw [hc];exact(Array.getElem?_eq_some_iff.1 h).1
 ·cases h
theorem cell_spot {w:World}{a:Addr}{v:Value}(h:w.cell? a=some v):a.spot=none:=by
 unfold World.cell? at h
 split at h
 ·split at h
  ·cases h
  ·rename_i h2; simpa using h2
 ·cases h

structure Bulk {H:Type}(B:DataW H->Nat):Prop where
 one:∀d,1<=B d
 str:∀b,b.length+1<=B (.lit (.string b))
 slice:∀e s,(e.map B).sum+1<=B (.slice e s)
 agg:∀l,(l.map B).sum<=B (.agg l)

structure RdN {H:Type}(P:Program) (B:DataW H->Nat) (N:Nat) (t:TypeId){α:Type}(R:α->List D) (sz:α->Nat) (wf:α->Prop):Prop where
 rd:∀{enc:TypeId×Value->H}{w:World}{base:Nat}{sp:Nat->Bool}{held:Bool}{fuel:Nat}{cs:List Value}{x:DataW H×List MemPlace},
  fuel<=N->DataW.trod enc P w base sp held fuel t cs=some x->B x.1<=1048576->∃a,All2 (DRel (j0 w) w) (R a) cs/\sz a<=B x.1/\wf a

theorem RdN.zero {H:Type}{P:Program}{B:DataW H->Nat}{t:TypeId}{α:Type}{R:α->List D}{sz:α->Nat}{wf:α->Prop}:RdN P B 0 t R sz wf :=
 ⟨fun hf h _=>by rw [Nat.le_zero.1 hf] at h; simp [DataW.trod] at h⟩
theorem cellsOf_of {P:Program}{t:TypeId}{ti:TI}(hT:mkTI P t=some ti):P.cellsOf t=ti.size:=by
 obtain⟨i,d,h1,_,h2,_⟩:=mkTI_spec hT;unfold Program.cellsOf; rw [h1]; exact h2
theorem under_of {P:Program}{t:TypeId}{ti:TI}(hT:mkTI P t=some ti):∃d,P.underlying t=some d/\kOf d=ti.k:=by
 obtain⟨i,d,_,h1,_,_,h2,_⟩:=mkTI_spec hT;exact⟨d,h1,h2⟩
theorem strU_of {P:Program}{t:TypeId}{ti:TI}(hT:mkTI P t=some ti) (hk:ti.k=.str):P.underlying t=some .string:=by
 obtain⟨d,h1,h2⟩:=under_of hT;rw [hk] at h2; cases d<;>simp [kOf] at h2; exact h1
theorem int_of {P:Program}{t:TypeId}{ti:TI}{k:IntKind}(hT:mkTI P t=some ti) (hk:ti.k=.int k):P.underlying t=some (.int k):=by
 obtain⟨d,h1,h2⟩:=under_of hT;rw [hk] at h2; cases d<;>simp [kOf] at h2; subst h2; exact h1
theorem structU_of {P:Program}{t:TypeId}{ti:TI}{ps:List (Nat×TypeId)}(hT:mkTI P t=some ti) (hk:ti.k=.struct ps):∃fs:Array Go.Field,P.underlying t=some (.struct fs)/\fs.toList.map (fun f=>(f.offset,f.type))=ps:=by
 obtain⟨d,h1,h2⟩:=under_of hT;rw [hk] at h2; cases d<;>simp [kOf] at h2; exact⟨_,h1,by simpa using h2⟩

def Str.sz (s:Str):Nat:=s.1.length+1
def Slc.sz {α:Type}(f:α->Nat) (s:Slc α):Nat:=1+(s.l.map f).sum
def Slc.wf {α:Type}(p:α->Prop) (s:Slc α):Prop:=∀x∈s.l,p x
def i64 (n:Int):Prop := -9223372036854775808<=n/\n<=9223372036854775807

section
variable {H:Type}{P:Program}{B:DataW H->Nat}(hB:Bulk B){N:Nat}
include hB
theorem RdN.str {t:TypeId}{ti:TI}(hT:mkTI P t=some ti) (hk:ti.k=.str):RdN P B N t strC Str.sz fun _=>True:=by
 refine⟨fun {enc w base sp held fuel cs x} _ h hb=>?_⟩;obtain⟨s,rfl,rfl,hs⟩:=DataW.trod_string (strU_of hT hk) h;have h1:=hB.str s.data.toList;have h2:s.data.toList.length<=1048576:=by dsimp only at hb; omega
 refine⟨⟨s.data.toList,by simp only [maxN]; omega⟩,.cons ?_ .nil,h1,trivial⟩;have:=DRel.str (j:=j0 w) (w:=w) s.data.toList (by simp only [maxS]; omega)
 simpa using this
theorem RdN.int {t:TypeId}{ti:TI}(hT:mkTI P t=some ti) (hk:ti.k=.int .i64):RdN P B N t intC (fun _=>1) i64:=by
 refine⟨fun _ h _=>?_⟩;obtain⟨n,rfl,rfl,hw⟩:=DataW.trod_int (int_of hT hk) h;refine⟨n,.cons (.int _ _) .nil,hB.one _, ?_⟩
 simpa [Lit.wf,IntKind.min,IntKind.max,IntKind.signed,IntKind.bits,i64] using hw

omit hB in
theorem exList {α:Type}(p:Nat->α->Prop):∀(n:Nat),(∀i,i<n->∃a,p i a)->∃l:List α,l.length=n/\∀i a,l[i]?=some a->p i a
 | 0,_=>⟨[],rfl,by simp⟩
 | n+1,h=>by
  obtain⟨l,hl,hp⟩:=exList p n fun i hi=>h i (by omega);obtain⟨a,ha⟩:=h n (by omega);refine⟨l++[a],by simp [hl],fun i b hb=>?_⟩;rw [List.getElem?_append] at hb
  split at hb
  ·exact hp i b hb
  ·rename_i hge
   have:i-l.length=0:=by
    have:=(List.getElem?_eq_some_iff.1 hb).1; simp at this; omega
   rw [this] at hb; simp at hb; subst hb;have:i=n:=by omega
   subst this; exact ha

omit hB in
theorem mapM_get {α β:Type}{f:α->Option β}:∀{l:List α}{r:List β},l.mapM f=some r->r.length=l.length/\∀(i:Nat) a,l[i]?=some a->f a=r[i]?
 | [],r,h=>by simp at h; subst h; simp
 | a::l,r,h=>by
  rw [List.mapM_cons] at h;cases hf:f a with
  | none=>rw [hf] at h; cases h
  | some b =>
   rw [hf] at h;cases hm:l.mapM f with
   | none=>rw [hm] at h; cases h
   | some bs =>
    rw [hm] at h;have h':some (b::bs)=some r:=h;simp only [Option.some.injEq] at h';subst h';obtain⟨h1,h2⟩:=mapM_get hm;refine⟨by simp [h1],fun i x hx=>?_⟩;cases i with
    | zero=>simp at hx; subst hx; simpa using hf
    | succ i=>simp at hx; simpa using h2 i x hx

omit hB in
theorem cells_get {w:World}{base:Nat}{a:Addr}{n:Nat}{cs:List Value}(h:w.cells? base a n=some cs):cs.length=n/\∀i v,cs[i]?=some v->w.cell? (a.add i)=some v:=by
 unfold World.cells? at h
 split at h
 ·obtain⟨h1,h2⟩:=mapM_get h;rw [List.length_range] at h1;refine⟨h1,fun i v hv=>?_⟩;have hi:=(List.getElem?_eq_some_iff.1 hv).1;have:=h2 i i (List.getElem?_range (by omega));rw [this]; exact hv
 ·cases h

omit hB in
theorem sum_le {α β:Type}{f:α->Nat}{g:β->Nat}:∀{l:List α}{m:List β},l.length=m.length->(∀(i:Nat) a b,l[i]?=some a->m[i]?=some b->f a<=g b)->(l.map f).sum<=(m.map g).sum
 | [],[],_,_=>by simp
 | [],_::_,h,_=>by simp at h
 | _::_,[],h,_=>by simp at h
 | a::l,b::m,h,hp=>by
  have h1:=hp 0 a b rfl rfl;have h2:=sum_le (l:=l) (m:=m) (by simpa using h) fun i x y hx hy=>hp (i+1) x y (by simpa using hx) (by simpa using hy);simp only [List.map_cons,List.sum_cons]; omega
omit hB in
theorem mem_sum {α:Type}{f:α->Nat}{l:List α}{a:α}(h:a∈l):f a<=(l.map f).sum:=by
 induction l with
 | nil=>cases h
 | cons x r ih =>
  simp only [List.map_cons,List.sum_cons];rcases List.mem_cons.1 h with e|e
  ·subst e; omega
  ·have:=ih e; omega
omit hB in
theorem len_sum {α:Type}{f:α->Nat}:∀(l:List α),(∀a∈l,1<=f a)->l.length<=(l.map f).sum
 | [],_=>by simp
 | a::l,h=>by
  have h1:=h a (by simp);have h2:=len_sum l fun x hx=>h x (by simp [hx]);simp only [List.length_cons,List.map_cons,List.sum_cons]; omega

theorem RdN.slice {α:Type}{t e:TypeId}{ti ei:TI}{k:Nat}{R:α->List D}{sz:α->Nat}{wf:α->Prop}(hT:mkTI P t=some ti) (hkt:ti.k=.slice e) (hE:mkTI P e=some ei) (hks:ei.size=k) (hpos:0<k) (hR:∀a,(R a).length=k) (he:RdN P B N e R sz wf) :
  RdN P B (N+1) t (fun s:Slc α=>[s.d k R]) (Slc.sz sz) (Slc.wf wf):=by
 have ht:=slice_of hT hkt;have hk:P.cellsOf e=k:=(cellsOf_of hE).trans hks;refine⟨fun {enc w base sp held fuel cs x} hfu h hb=>?_⟩;rcases DataW.trod_slice ht h with ⟨rfl,rfl⟩|⟨a,len,cap,elems,rest,n,hfn,rfl,rfl,_,hlc,hcap,hlen,hel,_,_⟩
 ·exact⟨⟨true,[],by simp,fun _=>rfl⟩,.cons (.snil _ _ (by simp)) .nil,by simpa [Slc.sz] using hB.one _,by simp [Slc.wf]⟩
 ·have hbs:=hB.slice (elems.map (·.1)) (rest.map (·.1));have hbe:∀y∈elems,B y.1<=1048576:=fun y hy=>by
   have:=mem_sum (f:=B) (l:=elems.map (·.1)) (a:=y.1) (List.mem_map_of_mem hy);dsimp only at hb; omega
  have hlen2:elems.length<=1048576:=by
   have:=len_sum (f:=B) (elems.map (·.1)) fun d _=>hB.one d;simp only [List.length_map] at this;dsimp only at hb; omega
  have hex:∀i,i<len->∃y:α×List Value,∃z,elems[i]?=some z/\w.cells? base (a.add (i*k)) k=some y.2/\All2 (DRel (j0 w) w) (R y.1) y.2/\sz y.1<=B z.1/\wf y.1:=by
   intro i hi;have h1:=hel i hi;rw [hk] at h1;have hi2:i<elems.length:=by omega
   rw [List.getElem?_eq_getElem hi2] at h1;cases hc:w.cells? base (a.add (i*k)) k with
   | none=>rw [hc] at h1; cases h1
   | some cs =>
    rw [hc] at h1;obtain⟨x,h2,h3,h4⟩:=he.rd (by omega) (show DataW.trod enc P w base sp held n e cs=some elems[i] from h1) (hbe _ (List.getElem_mem hi2));exact⟨(x,cs),elems[i],List.getElem?_eq_getElem hi2,rfl,h2,h3,h4⟩
  obtain⟨l,hl,hp⟩:=exList _ len hex;have hml:(l.map fun y=>y.1).length=len:=by simp [hl]
  refine⟨⟨false,l.map (·.1),by rw [hml]; simp only [maxN]; omega,by simp⟩,.cons ?_ .nil, ?_, ?_⟩
  ·have hrows:∀r∈(l.map (·.1)).map R,r.length=k:=by
    intro r hr;obtain⟨y,_,rfl⟩:=List.mem_map.1 hr;exact hR _
   have hlenr:((l.map (·.1)).map R).length=len:=by simp [hl]
   show DRel (j0 w) w (.slice k none false ((l.map (·.1)).map R)) (.slice (some a) len cap);by_cases h0:len=0
   ·subst h0;have:l=[]:=List.eq_nil_of_length_eq_zero hl;subst this;exact DRel.slice k none [] a cap (fun _=>undef) (by simp) (by simp) (by simp) ⟨.inl rfl,by simp⟩ (by simp) (fun t h=>by cases h)
   ·have hspot:a.spot=none:=by
     have h1:=hp 0 (l[0]'(by omega)) (List.getElem?_eq_getElem (by omega));obtain⟨z,_,h2,_⟩:=h1;obtain⟨h3,h4⟩:=cells_get h2;have h5:=h4 0 _ (List.getElem?_eq_getElem (by omega));rw [Nat.zero_mul] at h5;exact cell_spot h5
    have ha:a=⟨a.block,a.off,none⟩:=by cases a; simp at hspot; simp [hspot]
    have hgoal:DRel (j0 w) w (.slice k none false ((l.map (·.1)).map R)) (.slice (some ⟨a.block,a.off,none⟩) ((l.map (·.1)).map R).length cap):=by
     refine mk_slice hrows (by rw [hlenr]; simp only [maxN]; omega) (by rw [hlenr]; exact hlc) (fun i x hx=>?_) (fun t h=>by cases h);have hi:=(List.getElem?_eq_some_iff.1 hx).1;rw [(flatten_row hrows).1,hlenr] at hi;have hq:i / k<len:=Nat.div_lt_of_lt_mul (by rw [Nat.mul_comm]; exact hi);have hm:i % k<k:=Nat.mod_lt _ hpos;obtain⟨z,_,h2,h3,_⟩:=hp (i / k) (l[i / k]'(by omega)) (List.getElem?_eq_getElem (by omega))
     obtain⟨h4,h5⟩:=cells_get h2;have hrow:((l.map (·.1)).map R)[i / k]?=some (R (l[i / k]'(by omega)).1):=by simp [hl,hq]
     have h6:=(flatten_row hrows).2 (i / k) _ hrow (i % k) hm;rw [Nat.mul_comm,Nat.div_add_mod,hx] at h6;obtain⟨v,hv,hrel⟩:=h3.get h6.symm;have hcell:=h5 _ _ hv;rw [ha,add_plain,add_plain,Nat.add_assoc,Nat.mul_comm,Nat.div_add_mod] at hcell;exact⟨cell_F hcell,v,hcell,hrel⟩
    rw [hlenr,<- ha] at hgoal;exact hgoal
  ·simp only [Slc.sz];have:=sum_le (f:=sz) (g:=B) (l:=l.map (·.1)) (m:=elems.map (·.1)) (by simp [hl,hlen]) fun i x y hx hy=>by
    rw [List.getElem?_map] at hx hy;cases hli:l[i]? with
    | none=>rw [hli] at hx; cases hx
    | some u =>
     rw [hli] at hx; simp at hx; subst hx;obtain⟨z,h1,_,_,h2,_⟩:=hp i u hli;rw [h1] at hy; simp at hy; subst hy; exact h2
   omega
  ·intro x hx;obtain⟨y,hy,rfl⟩:=List.mem_map.1 hx;obtain⟨i,hi,e⟩:=List.getElem_of_mem hy;obtain⟨z,_,_,_,_,h⟩:=hp i y (by rw [List.getElem?_eq_getElem hi,e]);exact h

structure RdP {H:Type}(P:Program) (B:DataW H->Nat) (N n o:Nat) (ps:List (Nat×TypeId)){α:Type}(R:α->List D) (sz:α->Nat) (wf:α->Prop):Prop where
 rd:∀{enc:TypeId×Value->H}{w:World}{base:Nat}{sp:Nat->Bool}{held:Bool}{fuel:Nat}{cs:List Value}{xs:List (DataW H×List MemPlace)},fuel<=N->cs.length=n->xs.length=ps.length ->
  (∀(i:Nat) p,ps[i]?=some p->DataW.trod enc P w base sp held fuel p.2 ((cs.drop p.1).take (P.cellsOf p.2))=xs[i]?)->(xs.map (fun x=>B x.1)).sum<=1048576 ->
  ∃a,All2 (DRel (j0 w) w) (R a) (cs.drop o)/\sz a<=(xs.map (fun x=>B x.1)).sum/\wf a
omit hB in
theorem RdP.nil {n:Nat}:RdP P B N n n [] (fun _:Unit=>[]) (fun _=>0) fun _=>True:=by
 refine⟨fun _ h1 h2 _ _=>⟨(), ?_,Nat.zero_le _,trivial⟩⟩;rw [List.drop_of_length_le (by omega)]; exact .nil
omit hB in
theorem RdP.cons {α β:Type}{n o o':Nat}{ty:TypeId}{ti:TI}{ps:List (Nat×TypeId)}{R:α->List D}{sz:α->Nat}{wf:α->Prop}{R':β->List D}{sz':β->Nat}{wf':β->Prop}(hT:mkTI P ty=some ti) (ho:o+ti.size=o') (h:RdN P B N ty R sz wf)
  (ht:RdP P B N n o' ps R' sz' wf'):RdP P B N n o ((o,ty)::ps) (fun p:α×β=>R p.1++R' p.2) (fun p=>sz p.1+sz' p.2) fun p=>wf p.1/\wf' p.2:=by
 refine⟨fun {enc w base sp held fuel cs xs} hfu h1 h2 h3 h4=>?_⟩
 match xs,h2 with
 | x::xs,h2 =>
  simp only [List.map_cons,List.sum_cons] at h4 ⊢;have h5:=h3 0 (o,ty) rfl;simp only [List.getElem?_cons_zero] at h5;obtain⟨a,ha1,ha2,ha3⟩:=h.rd hfu h5 (by omega);obtain⟨b,hb1,hb2,hb3⟩:=ht.rd (xs:=xs) hfu h1 (by simpa using h2) (fun i g hg=>by simpa using h3 (i+1) g (by simpa using hg)) (by omega);refine⟨(a,b), ?_,by dsimp only; omega,ha3,hb3⟩;have e:cs.drop o=(cs.drop o).take (P.cellsOf ty)++cs.drop o':=by
   rw [<- ho,<- cellsOf_of hT,<- List.drop_drop]; exact(List.take_append_drop _ _).symm
  rw [e];exact ha1.append hb1
theorem RdN.struct {α β:Type}{t:TypeId}{ti:TI}{ps:List (Nat×TypeId)}{R:α->List D}{sz:α->Nat}{wf:α->Prop}(hT:mkTI P t=some ti) (hk:ti.k=.struct ps) (h:RdP P B N ti.size 0 ps R sz wf) (g:α->β){R':β->List D}{sz':β->Nat}{wf':β->Prop}
  (hR:∀a,R' (g a)=R a) (hs:∀a,sz' (g a)<=sz a) (hw:∀a,wf a->wf' (g a)):RdN P B (N+1) t R' sz' wf':=by
 refine⟨fun {enc w base sp held fuel cs x} hfu hx hb=>?_⟩;obtain⟨fs,ht,hps⟩:=structU_of hT hk;obtain⟨xs,n,hfn,rfl,h1,h2,h3⟩:=DataW.trod_struct ht hx;have hb2:=hB.agg (xs.map (·.1));rw [List.map_map] at hb2;obtain⟨a,ha1,ha2,ha3⟩:=h.rd (xs:=xs) (enc:=enc) (w:=w) (base:=base) (sp:=sp) (held:=held) (fuel:=n) (cs:=cs) (by omega) (h1.trans (cellsOf_of hT)) (by rw [<- hps]; simpa using h2) (fun i p hp=>by
  rw [<- hps,List.getElem?_map] at hp;cases hf:fs.toList[i]? with
  | none=>rw [hf] at hp; cases hp
  | some f =>
   rw [hf] at hp; simp at hp; subst hp;exact h3 i f (by simpa using hf)) (by dsimp only at hb; exact Nat.le_trans hb2 hb)
 exact⟨g a,by rw [hR]; simpa using ha1,Nat.le_trans (hs a) (Nat.le_trans ha2 hb2),hw _ ha3⟩
end

section
variable {H:Type}{enc:TypeId×Value->H}{P:Program}{B:DataW H->Nat}{W:World}
theorem arg_slice {α:Type}{R:α->D}{sz:α->Nat}{wf:α->Prop}{r:Reach}{b0:Nat}{t e:TypeId}{ti:TI}{v:Value}{d:DataW H}{ps:List MemPlace}(hT:mkTI P t=some ti) (hk:ti.k=.slice e) (hr:∀N,RdN P B N t (fun a=>[R a]) sz wf) (hval:Value.okWide P W r b0 t v) (hd:DataW.Trod enc P W 0 (fun _=>true) true t v d ps) (hb:B d<=1048576) :
  ∃a:α,ARel (j0 W) W (.d (R a)) v/\sz a<=B d/\wf a:=by
 obtain⟨a,l,c,rfl⟩:=okWide_slice (slice_of hT hk) hval;obtain⟨fuel,hf⟩:=hd;obtain⟨a,h1,h2,h3⟩:=(hr fuel).rd (Nat.le_refl _) hf hb;cases h1 with
 | cons h1 _=>exact⟨a,h1,h2,h3⟩
end

theorem law_calls {P:Program}{f:FuncId}{xs:List A}(hc:@AC Lou.on P f xs h0 fun r _=>r=.a (.d (.bool true))){W:World}{args:List Value}(ha:All2 (ARel (j0 W) W) xs args) :
  Calls P f args.toArray W fun e W'=>e=.returned (.bool true)/\Below W.heap.size W W':=by
 letI:Lou:=Lou.on
 refine(hc.runs (j0 W) W args (hrel0 W) ha).mono ?_;rintro e W' ⟨r,cv,j',h',rfl,rfl,hv,_,hev⟩;have hv':DRel j' W' (.bool true) cv:=hv;cases hv';refine⟨rfl,hev.os,hev.tape,hev.output.1,hev.size,fun k hk=>(hev.frame k hk ?_).1⟩;rintro (h|⟨id,o,h,_⟩)
 ·cases h
 ·cases h

theorem Below.trodAll {H:Type}{enc:TypeId×Value->H}{P:Program}(hl:laidOutB P=true){W W':World}(hb:Below W.heap.size W W') :
  ∀{ts:List TypeId}{vs:List Value}{ds:List (DataW H)}{ps:List MemPlace},(∀t∈ts,P.readableRec t=true/\t<P.types.size)->DataW.TrodAll enc P W 0 (fun _=>true) true ts vs ds ps->(∀x∈ps,x.block<W.heap.size) ->
  ∀sp':Nat->Bool,(∀x∈ps,sp' x.block=true)->DataW.TrodAll enc P W' 0 sp' true ts vs ds ps
 | [],_,_,_,_,h,_,_,_=>by obtain⟨rfl,rfl,rfl⟩:=trodAll_nil h; exact rfl
 | _::_,_,_,_,ht,h,hlt,sp',hs=>by
  obtain⟨v,vs1,d,ds1,a,b,rfl,rfl,rfl,h1,h2⟩:=trodAll_cons h;exact⟨a,b,WideElems.Trod_stays hl (ht _ (by simp)).1 (ht _ (by simp)).2 h1 (fun x hx=>hb.same (hlt x (by simp [hx]))) (fun x hx=>hs x (by simp [hx])),
   Below.trodAll hl hb (fun t h=>ht t (by simp [h])) h2 (fun x hx=>hlt x (by simp [hx])) sp' (fun x hx=>hs x (by simp [hx])),rfl⟩

theorem post_true {H:Type}{enc:TypeId×Value->H}{P:Program}{f:Func}{s:ChangeSpec}{fresh handsOn again:Bool}{W W':World}{args:Array Value}{ds:List (DataW H)}{before:List MemPlace}{tb:TypeId}
  (hv:s.vars=[]) (hW:DataW.Whole enc P f.params.toList s.vars false W args.toList ds [] before) (hb:Below W.heap.size W W') (hl:laidOutB P=true) (hp:∀t∈f.params.toList,P.readableRec t=true/\t<P.types.size)
  (hr:f.resultTypes=#[tb]) (htb:P.underlying tb=some .bool) (hs:s.fn H ds={ results:=[.lit (.bool true)],args:=ds }):s.post enc P f false fresh handsOn again W args (.bool true) W':=by
 have hW0:=hW;have hlt:∀x∈before,x.block<W.heap.size:=fun x hx=>by simpa using hW0.lt x hx
 obtain⟨p,q,hA,hV,rfl,hz,hn⟩:=hW;rw [hv] at hV;obtain⟨_,rfl⟩:=trodVars_none hV;simp only [List.append_nil] at hlt hz;have hargs:∀sp:Nat->Bool,(∀x∈p,sp x.block=true)->DataW.TrodAll enc P W' 0 sp true f.params.toList args.toList ds p:=fun sp hsp=>Below.trodAll hl hb hp hA hlt sp hsp;have hres:∀(b:Nat) (sp:Nat->Bool) (hd:Bool),DataW.TrodAll enc P W' b sp hd f.resultTypes.toList ((Value.bool true).resultList f.resultTypes.size) [.lit (.bool true)] []:=by
  intro b sp hd;rw [hr];exact trodAll_cons_mk (shut_bool htb _) trodAll_mk0
 refine⟨ds,[],p++[],[],p,[],hW0, ?_, ?_, ?_,World.keptBut_mono (fun x hx=>⟨hx, ?_⟩) (hb.frame (·∈p++[])),fun _=>⟨?_,[.lit (.bool true)]++ds,[],p,⟨p,[], ?_, ?_,by simp, ?_,fun h=>by cases h⟩,fun x hx _=>by simpa using hx⟩⟩
 ·rw [List.append_nil,hs]; exact hres _ _ _
 ·rw [List.append_nil,hs]; exact hargs _ fun x hx=>by simpa using hlt x hx
 ·rw [hv,List.append_nil,hs]; exact rfl
 ·exact .inr (.inl (by simpa using hx))
 ·exact ok_one hr rfl (okWide_bool_mk htb _)
 ·exact trodAll_append (hargs _ fun _ _=>rfl) (hres _ _ _)
 ·rw [hv]; exact rfl
 ·intro b off hx;have hblk:=hlt _ hx;rw [World.frozen?_of_block (w:=W) (hb.block _ hblk)];exact hz b off hx
end Go.Ab

/-
 The readings of package api's types,at whatever depth.
-/
namespace Go.Ab
open Go Go.RowKit
section
variable {H:Type}{P:Program}{B:DataW H->Nat}(hB:Bulk B)
include hB
theorem RdA.struct {α β:Type}{t:TypeId}{ti:TI}{ps:List (Nat×TypeId)}{R:α->List D}{sz:α->Nat}{wf:α->Prop}(hT:mkTI P t=some ti) (hk:ti.k=.struct ps) (h:∀N,RdP P B N ti.size 0 ps R sz wf) (g:α->β){R':β->List D}{sz':β->Nat}{wf':β->Prop}
  (hR:∀a,R' (g a)=R a) (hs:∀a,sz' (g a)<=sz a) (hw:∀a,wf a->wf' (g a)):∀N,RdN P B N t R' sz' wf'
 | 0=>.zero
 | N+1=>RdN.struct hB hT hk (h N) g hR hs hw
end
end Go.Ab

/-
 The readings of the models' types.
-/
namespace Go.Ab
open Go Go.RowKit
variable {lou:Lou}
def Sl.sz {α:Type}(f:α->Nat) (s:Sl α):Nat:=1+(s.l.map f).sum
def Sl.wf {α:Type}(p:α->Prop) (s:Sl α):Prop:=(s.nl=true->s.l=[])/\s.l.length<=maxN/\∀x∈s.l,p x
def Bs.sz (s:Bs):Nat:=s.length+1
section
variable {H:Type}{P:Program}{B:DataW H->Nat}
theorem RdN.imap {α β:Type}{N:Nat}{t:TypeId}{R:α->List D}{sz:α->Nat}{wf:α->Prop}(h:RdN P B N t R sz wf) (g:α->β){R':β->List D}{sz':β->Nat}{wf':β->Prop}
  (hR:∀a,R' (g a)=R a) (hs:∀a,sz' (g a)<=sz a) (hw:∀a,wf a->wf' (g a)):RdN P B N t R' sz' wf' :=
 ⟨fun hf ht hb=>by
  obtain⟨a,h1,h2,h3⟩:=h.rd hf ht hb;exact⟨g a,by rw [hR]; exact h1,Nat.le_trans (hs a) h2,hw a h3⟩⟩
variable (hB:Bulk B)
include hB
theorem RdS.str {t:TypeId}{ti:TI}(hT:mkTI P t=some ti) (hk:ti.k=.str) (N:Nat):RdN P B N t strE Bs.sz fun _=>True :=
 (RdN.str hB hT hk).imap (fun s:Str=>s.1) (fun _=>rfl) (fun _=>Nat.le_refl _) fun _ _=>trivial
theorem RdS.int {t:TypeId}{ti:TI}(hT:mkTI P t=some ti) (hk:ti.k=.int .i64) (N:Nat):RdN P B N t (intE .i64) (fun _=>1) i64 :=
 (RdN.int hB hT hk).imap id (fun _=>rfl) (fun _=>Nat.le_refl _) fun _ h=>h
theorem RdS.sliceN {α:Type}{N:Nat}{t e:TypeId}{ti ei:TI}{k:Nat}{R:α->List D}{sz:α->Nat}{wf:α->Prop}(hT:mkTI P t=some ti) (hkt:ti.k=.slice e) (hE:mkTI P e=some ei) (hks:ei.size=k) (hpos:0<k) (hR:∀a,(R a).length=k)
  (he:RdN P B N e R sz wf):RdN P B (N+1) t (fun s:Sl α=>[Sl.d k R none s]) (Sl.sz sz) (Sl.wf wf) :=
 (RdN.slice hB hT hkt hE hks hpos hR he).imap (fun s:Slc α=>(⟨s.nil,s.l⟩:Sl α)) (fun _=>rfl) (fun _=>Nat.le_refl _) (fun s h=>by unfold Slc.wf at h; exact⟨s.nn,s.ok,h⟩)
theorem RdS.slice {α:Type}{t e:TypeId}{ti ei:TI}{k:Nat}{R:α->List D}{sz:α->Nat}{wf:α->Prop}(hT:mkTI P t=some ti) (hkt:ti.k=.slice e) (hE:mkTI P e=some ei) (hks:ei.size=k) (hpos:0<k) (hR:∀a,(R a).length=k)
  (he:∀N,RdN P B N e R sz wf):∀N,RdN P B N t (fun s:Sl α=>[Sl.d k R none s]) (Sl.sz sz) (Sl.wf wf)
 | 0=>.zero
 | N+1=>RdS.sliceN hB hT hkt hE hks hpos hR (he N)
end
end Go.Ab
namespace Go.Ab
variable {lou:Lou}
end Go.Ab

/-
 Short forms of the rules,for the packed texts.
-/
namespace Go.Ab
open Go Go.RowKit
variable {lou:Lou}
class Tabs (P:Program) where
 T:List TI
 ok:TabOk P T
theorem TKc {P:Program} [Tabs P] {i:TypeId}{ti:TI}(h:(Tabs.T P)[i]?=some ti):mkTI P i=some ti:=Tabs.ok i ti h
section
variable {P:Program}{Q:Exit->St->Prop}{σ:St}
theorem AWp.cE {c:Operand}{u v:Code}{b:Bool}{α:Type}{A B:Option α}{r:α}(hE:(bif b then A else B)=some r) (ht:b=true->A=some r->AWp P u Q σ) (hf:b=false->B=some r->AWp P v Q σ) (hc:ev σ.ts c=.a (.d (.bool b)):=by exact rfl):AWp P (.cond c u v) Q σ:=AWp.condE hE hc ht hf
end
theorem AC.oW {P:Program} [Tabs P] (n:Nat) (rs:List ResultVar){f:FuncId}{fn:Func}{c:Code}{args:List A}{h:Heap}{Post:V->Heap->Prop}(hcall:∀(cargs:Array Value) (w:World),(callFunc f cargs).run P w=.ok (.enter f cargs) w) (hf:P.funcs[f]?=some fn)
  (hw:AWp P c (retQ (Tabs.T P) rs Post) ⟨n,argTs 0 args,[],h⟩) (hb:fn.body=some c:=by exact rfl) (hn:fn.ntmps=n:=by exact rfl) (hrs:fn.results.toList=rs:=by exact rfl) (hl:Nat.ble args.length n=true:=by exact rfl):AC P f args h Post :=
 AC.of_wp Tabs.ok hcall hf hb hn hrs hl hw
variable {amb:Amb}
section
variable {P:Program}{ops:Array Oper}{rest:List Oper}{Q:St->Prop}{n:Nat}{ts:Ts}{ls ls':List (List D)}{h h':Heap}{fx:Fx}{v:V}{d dg gi:Nat}{op:Op}{ty:TypeId}{pos:String}{aft:Array Edge}{want b C:Bool}{done:List Fx}
-- RULES
variable {o:Oper}{c c':Bool}{x x':A}{f:Operand}{args:Array Operand}{ats:Array TypeId}{fid:FuncId}{caps:List D}{xs:List A}
theorem gI {C c:Bool}(h:C=true->c=true:=by intro hC; first|assumption|exact andL (by assumption)|exact andL (andL (by assumption))|exact andL (andL (andL (by assumption)))|exact andR (by assumption)|simp_all):C=true->c=true:=h
theorem S (hs:Cert P ⟨some d,op,ty,pos,aft,none⟩ ts ls h fx v ls h) (hr:AOps P ops rest Q ⟨n,(d,v)::ts,ls,h⟩) (hd:Nat.blt d n=true:=by exact rfl):AOps P ops (⟨some d,op,ty,pos,aft,none⟩::rest) Q ⟨n,ts,ls,h⟩:=AOps.s0 hs hd hr
theorem Sd (hs:Cert P ⟨some d,op,ty,pos,aft,none⟩ ts ls h fx v ls h) (hr:DOps P ops n rest (fx.plain::done) Q ⟨n,(d,v)::ts,ls,h⟩) (hd:Nat.blt d n=true:=by exact rfl):DOps P ops n (⟨some d,op,ty,pos,aft,none⟩::rest) done Q ⟨n,ts,ls,h⟩:=DOps.s0 hs hd hr
theorem G0 (hs:Cert P ⟨some d,op,ty,pos,aft,some (gi,want)⟩ ts ls h fx v ls h) (hr:AOps P ops rest Q ⟨n,(d,v.under C)::ts,ls,h⟩) (hg:(ops[gi]?).bind (·.dst)=some dg:=by exact rfl) (hc:gc (get ts dg) want=some C:=by exact rfl) (hd:Nat.blt d n=true:=by exact rfl):AOps P ops (⟨some d,op,ty,pos,aft,some (gi,want)⟩::rest) Q ⟨n,ts,ls,h⟩:=AOps.gC hg hc (fun _=>hs) hd hr
theorem G1 (k:Nat) (hk:Ab.get ts k=.gd c x) (hs:Cert P ⟨some d,op,ty,pos,aft,some (gi,want)⟩ ((k,.a x)::ts) ls h fx v ls h) (hr:AOps P ops rest Q ⟨n,(d,v.under C)::ts,ls,h⟩) (hg:(ops[gi]?).bind (·.dst)=some dg:=by exact rfl) (hc:gc (get ts dg) want=some C:=by exact rfl) (hd:Nat.blt d n=true:=by exact rfl) (hi:C=true->c=true:=by exact gI):AOps P ops (⟨some d,op,ty,pos,aft,some (gi,want)⟩::rest) Q ⟨n,ts,ls,h⟩:=AOps.gC hg hc (fun hC=>Cert.ungd hk (hi hC) hs) hd hr
theorem G2 (k k':Nat) (hk:Ab.get ts k=.gd c x) (hk':Ab.get ((k,.a x)::ts) k'=.gd c' x') (hs:Cert P ⟨some d,op,ty,pos,aft,some (gi,want)⟩ ((k',.a x')::(k,.a x)::ts) ls h fx v ls h) (hr:AOps P ops rest Q ⟨n,(d,v.under C)::ts,ls,h⟩) (hg:(ops[gi]?).bind (·.dst)=some dg:=by exact rfl) (hc:gc (get ts dg) want=some C:=by exact rfl) (hd:Nat.blt d n=true:=by exact rfl) (hi:C=true->c=true:=by exact gI) (hi':C=true->c'=true:=by exact gI):AOps P ops (⟨some d,op,ty,pos,aft,some (gi,want)⟩::rest) Q ⟨n,ts,ls,h⟩:=AOps.gC hg hc (fun hC=>Cert.ungd hk (hi hC) (Cert.ungd hk' (hi' hC) hs)) hd hr
theorem Gc1 (k:Nat) (hg:(ops[gi]?).bind (·.dst)=some dg) (hc:gc (get ts dg) want=some C) (hk:Ab.get ts k=.gd c x) (hf:ev ((k,.a x)::ts) f=.a (.d (.func fid caps))) (ha:evAs ((k,.a x)::ts) args.toList=some xs) (hc2:C=true->∀H:Heap,AC P fid (xs++caps.map A.d) H fun r h'=>r=v/\h'=H) (hr:AOps P ops rest Q ⟨n,(d,v.under C)::ts,ls,h⟩) (hi:C=true->c=true:=by exact gI) (hd:Nat.blt d n=true:=by exact rfl):AOps P ops (⟨some d,.call { callee:=.value f,args:=args,argTypes:=ats },ty,pos,aft,some (gi,want)⟩::rest) Q ⟨n,ts,ls,h⟩:=AOps.gC hg hc (fun hC=>Cert.ungd hk (hi hC) (Cert.callP hf ha (hc2 hC))) hd hr
theorem Gc2 (k k':Nat) (hg:(ops[gi]?).bind (·.dst)=some dg) (hc:gc (get ts dg) want=some C) (hk:Ab.get ts k=.gd c x) (hk':Ab.get ((k,.a x)::ts) k'=.gd c' x') (hf:ev ((k',.a x')::(k,.a x)::ts) f=.a (.d (.func fid caps))) (ha:evAs ((k',.a x')::(k,.a x)::ts) args.toList=some xs) (hc2:C=true->∀H:Heap,AC P fid (xs++caps.map A.d) H fun r h'=>r=v/\h'=H) (hr:AOps P ops rest Q ⟨n,(d,v.under C)::ts,ls,h⟩) (hi:C=true->c=true:=by exact gI) (hi':C=true->c'=true:=by exact gI) (hd:Nat.blt d n=true:=by exact rfl):AOps P ops (⟨some d,.call { callee:=.value f,args:=args,argTypes:=ats },ty,pos,aft,some (gi,want)⟩::rest) Q ⟨n,ts,ls,h⟩:=AOps.gC hg hc (fun hC=>Cert.ungd hk (hi hC) (Cert.ungd hk' (hi' hC) (Cert.callP hf ha (hc2 hC)))) hd hr
theorem G0d (hs:Cert P ⟨some d,op,ty,pos,aft,some (gi,want)⟩ ts ls h fx v ls h) (hr:DOps P ops n rest (fx.plain::done) Q ⟨n,(d,v.under C)::ts,ls,h⟩) (hg:(ops[gi]?).bind (·.dst)=some dg:=by exact rfl) (hc:gc (get ts dg) want=some C:=by exact rfl) (hd:Nat.blt d n=true:=by exact rfl):DOps P ops n (⟨some d,op,ty,pos,aft,some (gi,want)⟩::rest) done Q ⟨n,ts,ls,h⟩:=DOps.gC hg hc (fun _=>hs) hd hr
theorem G1d (k:Nat) (hk:Ab.get ts k=.gd c x) (hs:Cert P ⟨some d,op,ty,pos,aft,some (gi,want)⟩ ((k,.a x)::ts) ls h fx v ls h) (hr:DOps P ops n rest (fx.plain::done) Q ⟨n,(d,v.under C)::ts,ls,h⟩) (hg:(ops[gi]?).bind (·.dst)=some dg:=by exact rfl) (hc:gc (get ts dg) want=some C:=by exact rfl) (hd:Nat.blt d n=true:=by exact rfl) (hi:C=true->c=true:=by exact gI):DOps P ops n (⟨some d,op,ty,pos,aft,some (gi,want)⟩::rest) done Q ⟨n,ts,ls,h⟩:=DOps.gC hg hc (fun hC=>Cert.ungd hk (hi hC) hs) hd hr
theorem G2d (k k':Nat) (hk:Ab.get ts k=.gd c x) (hk':Ab.get ((k,.a x)::ts) k'=.gd c' x') (hs:Cert P ⟨some d,op,ty,pos,aft,some (gi,want)⟩ ((k',.a x')::(k,.a x)::ts) ls h fx v ls h) (hr:DOps P ops n rest (fx.plain::done) Q ⟨n,(d,v.under C)::ts,ls,h⟩) (hg:(ops[gi]?).bind (·.dst)=some dg:=by exact rfl) (hc:gc (get ts dg) want=some C:=by exact rfl) (hd:Nat.blt d n=true:=by exact rfl) (hi:C=true->c=true:=by exact gI) (hi':C=true->c'=true:=by exact gI):DOps P ops n (⟨some d,op,ty,pos,aft,some (gi,want)⟩::rest) done Q ⟨n,ts,ls,h⟩:=DOps.gC hg hc (fun hC=>Cert.ungd hk (hi hC) (Cert.ungd hk' (hi' hC) hs)) hd hr
theorem Gc1d (k:Nat) (hg:(ops[gi]?).bind (·.dst)=some dg) (hc:gc (get ts dg) want=some C) (hk:Ab.get ts k=.gd c x) (hf:ev ((k,.a x)::ts) f=.a (.d (.func fid caps))) (ha:evAs ((k,.a x)::ts) args.toList=some xs) (hc2:C=true->∀H:Heap,AC P fid (xs++caps.map A.d) H fun r h'=>r=v/\h'=H) (hr:DOps P ops n rest (Fx.plain {}::done) Q ⟨n,(d,v.under C)::ts,ls,h⟩) (hi:C=true->c=true:=by exact gI) (hd:Nat.blt d n=true:=by exact rfl):DOps P ops n (⟨some d,.call { callee:=.value f,args:=args,argTypes:=ats },ty,pos,aft,some (gi,want)⟩::rest) done Q ⟨n,ts,ls,h⟩:=DOps.gC hg hc (fun hC=>Cert.ungd hk (hi hC) (Cert.callP hf ha (hc2 hC))) hd hr
theorem Mv [Tabs P] (e:Cert P o ts ls h fx v ls' h':=by exact Cert.moveA):Cert P o ts ls h fx v ls' h':=e
theorem As [Tabs P] (e:Cert P o ts ls h fx v ls' h':=by exact Cert.assignA):Cert P o ts ls h fx v ls' h':=e
theorem Ld [Tabs P] (e:Cert P o ts ls h fx v ls' h':=by exact Cert.loadV (TKc rfl) rfl rfl rfl):Cert P o ts ls h fx v ls' h':=e
theorem Fv [Tabs P] (e:Cert P o ts ls h fx v ls' h':=by exact Cert.fieldVA (TKc rfl) rfl rfl (TKc rfl) rfl rfl):Cert P o ts ls h fx v ls' h':=e
theorem BI [Tabs P] (e:Cert P o ts ls h fx v ls' h':=by exact Cert.binI rfl rfl rfl):Cert P o ts ls h fx v ls' h':=e
theorem BS [Tabs P] (e:Cert P o ts ls h fx v ls' h':=by exact Cert.binS rfl rfl rfl):Cert P o ts ls h fx v ls' h':=e
theorem PA [Tabs P] (e:Cert P o ts ls h fx v ls' h':=by exact Cert.pickAndA rfl rfl rfl):Cert P o ts ls h fx v ls' h':=e
theorem PO [Tabs P] (e:Cert P o ts ls h fx v ls' h':=by exact Cert.pickOrA rfl rfl rfl):Cert P o ts ls h fx v ls' h':=e
theorem NB [Tabs P] (e:Cert P o ts ls h fx v ls' h':=by exact Cert.notB rfl):Cert P o ts ls h fx v ls' h':=e
theorem EX [Tabs P] (e:Cert P o ts ls h fx v ls' h':=by exact Cert.extract rfl rfl):Cert P o ts ls h fx v ls' h':=e
theorem BX [Tabs P] (e:Cert P o ts ls h fx v ls' h':=by exact Cert.boxV rfl):Cert P o ts ls h fx v ls' h':=e
theorem LL [Tabs P] (e:Cert P o ts ls h fx v ls' h':=by exact Cert.loadL (TKc rfl) rfl rfl rfl rfl):Cert P o ts ls h fx v ls' h':=e
theorem FL [Tabs P] (e:Cert P o ts ls h fx v ls' h':=by exact Cert.fieldL (TKc rfl) rfl rfl (TKc rfl) rfl rfl):Cert P o ts ls h fx v ls' h':=e
theorem BU [Tabs P] (e:Cert P o ts ls h fx v ls' h':=by exact Cert.build Tabs.ok rfl rfl rfl rfl rfl rfl):Cert P o ts ls h fx v ls' h':=e
theorem BV [Tabs P] (e:Cert P o ts ls h fx v ls' h':=by exact Cert.buildSlice (TKc rfl) rfl (TKc rfl) rfl rfl rfl rfl rfl rfl):Cert P o ts ls h fx v ls' h':=e
theorem NP [Tabs P] (e:Cert P o ts ls h fx v ls' h':=by exact Cert.nilP rfl):Cert P o ts ls h fx v ls' h':=e
theorem AOps.SI {t u:TypeId}{x y:Operand}{p q:Int}(hr:AOps P ops rest Q ⟨n,(d,.a (.d (.int .i64 (p+q))))::ts,ls,h⟩) (hx:ev ts x=.a (.d (.int .i64 p)):=by exact rfl) (hy:ev ts y=.a (.d (.int .i64 q)):=by exact rfl)
  (h1 : -9223372036854775808<=p+q:=by first|omega|(dsimp only; omega)|(simp at *; omega)) (h2:p+q<=9223372036854775807:=by first|omega|(dsimp only; omega)|(simp at *; omega)) (hd:Nat.blt d n=true:=by exact rfl) :
  AOps P ops (⟨some d,.binOp .add t x y u,ty,pos,aft,none⟩::rest) Q ⟨n,ts,ls,h⟩:=AOps.s0 (Cert.addI hx hy h1 h2) hd hr
theorem AOps.Sc {f:Operand}{args:Array Operand}{ats:Array TypeId}{fid:FuncId}{caps:List D}{xs:List A}(hf:ev ts f=.a (.d (.func fid caps))) (ha:evAs ts args.toList=some xs)
  (hc:∀H:Heap,AC P fid (xs++caps.map A.d) H fun r h'=>r=v/\h'=H) (hr:AOps P ops rest Q ⟨n,(d,v)::ts,ls,h⟩) (hd:Nat.blt d n=true:=by exact rfl):AOps P ops (⟨some d,.call { callee:=.value f,args:=args,argTypes:=ats },ty,pos,aft,none⟩::rest) Q ⟨n,ts,ls,h⟩:=AOps.s0 (Cert.callP hf ha hc) hd hr
theorem AOps.Sl [Tabs P] (hr:AOps P ops rest Q ⟨n,(d,v)::ts,ls',h⟩) (hs:Cert P ⟨some d,op,ty,pos,aft,none⟩ ts ls h { wl:=true } v ls' h:=by exact Cert.allocLA (TKc rfl) rfl) (hd:Nat.blt d n=true:=by exact rfl) :
  AOps P ops (⟨some d,op,ty,pos,aft,none⟩::rest) Q ⟨n,ts,ls,h⟩:=AOps.sL hs hd hr
theorem AOps.Sf [Tabs P] (hr:AOps P ops rest Q ⟨n,ts,ls',h⟩) (hs:Cert P ⟨none,op,ty,pos,aft,none⟩ ts ls h { wl:=true } v ls' h:=by first|exact Cert.storeLFA (TKc rfl) rfl rfl rfl rfl rfl|exact Cert.storeL1 (TKc rfl) rfl rfl rfl rfl (by repeat (first|exact SetAt.zero|apply SetAt.succ)) (by repeat (first|exact SetAt.zero|apply SetAt.succ))) :
  AOps P ops (⟨none,op,ty,pos,aft,none⟩::rest) Q ⟨n,ts,ls,h⟩:=AOps.sLn hs hr
theorem AOps.hq {h:Heap}(h':Heap) (hw:AOps P ops rest Q ⟨n,ts,ls,h'⟩) (e:h=h':=by first|rfl|(rw [Heap.set_set]; rfl)|(funext n_; simp only [Heap.set]; (repeat' split)<;>first|rfl|(exfalso; simp_all; done)|(simp_all; done))):AOps P ops rest Q ⟨n,ts,ls,h⟩:=AOps.heq e hw
theorem DOps.Dh {h:Heap}(h':Heap) (hw:DOps P ops n rest done Q ⟨n,ts,ls,h'⟩) (e:h=h':=by first|rfl|(rw [Heap.set_set]; rfl)|(funext n_; simp only [Heap.set]; (repeat' split)<;>first|rfl|(exfalso; simp_all; done)|(simp_all; done))):DOps P ops n rest done Q ⟨n,ts,ls,h⟩:=DOps.heq e hw
end
section
variable {P:Program}{Q:Exit->St->Prop}{σ:St}
theorem AWp.seqR {id:Nat}{l:List Oper}{y:Code}(h:AOps P l.toArray l (fun σ'=>AWp P y Q σ') σ):AWp P (.seq (.region id l.toArray false) y) Q σ:=AWp.seq (AWp.region h)
theorem AWp.seqD {id:Nat}{l:List Oper}{y:Code}(h:DOps P l.toArray σ.n l [] (fun σ'=>AWp P y Q σ') σ) (hm:P.follows .mixedOrders=true:=by exact rfl):AWp P (.seq (.region id l.toArray true) y) Q σ:=AWp.seq (AWp.draw hm h)
theorem AWp.sk {A K:St->Prop}(hK:∀σ,A σ->K σ) (h:A σ) (e:K σ->Q .normal σ:=by exact id):AWp P .skip Q σ:=AWp.skip (e (hK _ h))
theorem AWp.rt {α:Type}{a r:α}(hE:some a=some r) (h:a=r->Q .ret σ:=by intro e; subst e; (repeat (first|refine xBlock_ret ?_|refine xThen_ret ?_)); exact retQ.retF _ rfl ⟨rfl,rfl⟩ (fun _ _ h=>h)):AWp P .ret Q σ:=AWp.ret (h (Option.some.inj hE))
end
theorem bO {α β:Type}{o:Option α}{k:α->Option β}{r:β}(h:o.bind k=some r):∃x,o=some x/\k x=some r:=bindO_some h
theorem gO {α β:Type}{c:Bool}{o:Option α}{d:α}{k:α->Option β}{r:β}(h:guardO c o d k=some r):∃x,(c=true->o=some x)/\k x=some r:=guardO_some h
theorem Keeps.KA {ts:Ts}{m:Nat}{v:V}{r:Ts}(k:Nat) (t:Keeps ts m r) (h:Ab.get ts k=v:=by conv=>lhs; whnf) (hv:v.noL m=true:=by rfl):Keeps ts m ((k,v)::r):=Keeps.c h hv t
theorem KeepsT.TA {ts:Ts}{v:V}{r:Ts}(k:Nat) (t:KeepsT ts r) (h:Ab.get ts k=v:=by conv=>lhs; whnf):KeepsT ts ((k,v)::r):=KeepsT.cons h t
section
variable {P:Program}{α:Type}{ts:Ts}{ls ls':List (List D)}{h h':Heap}{dst:Option Tmp}{ty:TypeId}{pos:String}{aft:Array Edge}{g:Option (Nat×Bool)}{ops:Array Oper}{rest:List Oper}{Q:St->Prop}{n d:Nat}{v:V}{op:Op}{done:List Fx}
theorem ix [Tabs P] (f:α->List D) (n:Nat){t e:TypeId}{ti ei:TI}{x i:Operand}{tok:Option Nat}{s:Sl α}{ik:IntKind}{y:α}{k:Nat}(hr:s.l[n]?=some y) (hT:mkTI P t=some ti:=by exact TKc rfl) (hk:ti.k=.slice e:=by exact rfl) (hE:mkTI P e=some ei:=by exact TKc rfl)
  (hx:ev ts x=.a (.d (s.d k f tok)):=by exact rfl) (hi:ev ts i=.a (.d (.int ik (n:Int))):=by exact rfl) (hkk:k=ei.size:=by exact rfl):Cert P ⟨dst,.indexAddr t x i,ty,pos,aft,g⟩ ts ls h {} (.a (.d (.view (f y)))) ls h:=Cert.idxMn hT hk hE hx hi hkk hr
theorem am {t u e:TypeId}{ti ui ei:TI}(f:α->List D){x y:Operand}{tk k k' m:Nat}{tok':Option Nat}{s r w:Sl α}{z:A}(hT:mkTI P t=some ti) (hk:ti.k=.slice e) (hE:mkTI P e=some ei) (hU:mkTI P u=some ui) (hr:appC ei.bytes s r=some w) (huk:∃e,ui.k=.slice e:=by exact⟨_,rfl⟩)
  (hz:ei.zero=some z:=by exact rfl) (hzs:(cellsA z).length=ei.size:=by exact rfl) (hsz:ei.size≠0:=by decide) (hx:ev ts x=.a (.d (s.d k f (some tk))):=by exact rfl) (hy:ev ts y=.a (.d (r.d k' f tok')):=by exact rfl) (hkk:k=ei.size:=by exact rfl) (hkk':k'=ei.size:=by exact rfl)
  (htk:h tk=some (.tok ei.size m):=by exact hpG) (hm:m=s.l.length:=by exact rfl):Cert P ⟨dst,.call { callee:=.builtin .append,args:=#[x,y],argTypes:=#[t,u] },ty,pos,aft,g⟩ ts ls h { rh:=true,wh:=true } (.a (.d (w.d k f (some tk)))) ls (h.set tk (some (.tok ei.size w.l.length))) :=
 Cert.appM hT hk hE hU huk hz hzs hsz hx hy hkk hkk' htk hm hr
theorem SH (hs:Cert P ⟨some d,op,ty,pos,aft,none⟩ ts ls h { rh:=true,wh:=true } v ls h') (hr:AOps P ops rest Q ⟨n,(d,v)::ts,ls,h'⟩) (hd:Nat.blt d n=true:=by exact rfl):AOps P ops (⟨some d,op,ty,pos,aft,none⟩::rest) Q ⟨n,ts,ls,h⟩:=AOps.sH hs hd hr
theorem Scd {f:Operand}{args:Array Operand}{ats:Array TypeId}{fid:FuncId}{caps:List D}{xs:List A}(hf:ev ts f=.a (.d (.func fid caps))) (ha:evAs ts args.toList=some xs)
  (hc:∀H:Heap,AC P fid (xs++caps.map A.d) H fun r h'=>r=v/\h'=H) (hr:DOps P ops n rest (Fx.plain {}::done) Q ⟨n,(d,v)::ts,ls,h⟩) (hd:Nat.blt d n=true:=by exact rfl):DOps P ops n (⟨some d,.call { callee:=.value f,args:=args,argTypes:=ats },ty,pos,aft,none⟩::rest) done Q ⟨n,ts,ls,h⟩:=DOps.s0 (Cert.callP hf ha hc) hd hr
end
theorem Qe {α:Type}{a b c:α}(h:c=b) (e:a=b):a=c:=e.trans h.symm
theorem Qs {α:Type}{o p:Option α}(h:o=p.bind some):o=p:=h.trans (Q.some_bind p)
theorem QT {α:Type}{i n:Nat}{a b r:α}(h:i<n) (e:a=r):cond (decide ((i:Int)<(n:Int))) a b=r:=Q.condT (Q.ltT h) e
theorem QF {α:Type}{i n:Nat}{a b r:α}(h:¬i<n) (e:b=r):cond (decide ((i:Int)<(n:Int))) a b=r:=Q.condF (Q.ltF h) e
theorem Qa {α:Type}{l:List α}{i:Nat}(h:i<l.length):∃x,l[i]?=some x:=⟨_,List.getElem?_eq_getElem h⟩
theorem dL {α:Type}{i:Nat}{l:List α}(h:l.length<=i):l.drop i=[]:=List.drop_of_length_le h
end Go.Ab
namespace Go.Ab
theorem oB {α β : Type} (a : α) (f : α → Option β) : (some a).bind f = f a := rfl
theorem oJ {α : Type} {a b : α} (h : some a = some b) : a = b := Option.some.inj h
theorem nS (n : Nat) : n < n.succ := Nat.lt_succ_self n
theorem oD {p : Prop} [Decidable p] (h : decide p = true) : p := of_decide_eq_true h
theorem dF {p : Prop} [Decidable p] (h : ¬ p) : decide p = false := decide_eq_false h
theorem dT {p : Prop} [Decidable p] (h : p) : decide p = true := decide_eq_true h
theorem kN {ts : Ts} : KeepsT ts [] := .nil
end Go.Ab
