import Derived.Test.YtbghdiaepdaaeaaGreatDoorE2
import Derived.Defers
import Derived.Scope
import Derived.Laws.IdiomRangeMap
import Derived.Sort.Grow
import Derived.Shelf.SlSortCmp.NoneTotal
import Derived.Shelf.SlicesE.DeleteFunc
import Derived.Laws.BytesString
import Derived.Shelf.Strconv.Itoa3
import Derived.Shelf.Strings.OnBuilder
import Derived.Shelf.Strings.Builder1
import Derived.Shelf.Strings.IndexAnyAll
import Derived.Shelf.Small.Utf8
import Derived.Laws.Runes
import Derived.Lib.TrimU
import Derived.Lib.OthersKept
import Derived.WalkMore
import Derived.Shelf.RegionOpenPlain
import Derived.Shelf.Small.Strs
import Derived.RangeFuncFrom
import Derived.RangeFuncLeaves
import Derived.LoopNIn
import Derived.RangeFuncCalls
import Derived.WalkKit
import Derived.ProofKit
import Derived.OpenShut
import Derived.JoinedCond
import Derived.Carry
import Derived.Lib.LaidU8
set_option maxRecDepth 100000
set_option maxHeartbeats 2000000
set_option linter.unusedVariables false
set_option linter.unusedSimpArgs false
/-
 The rules as a walk applies them.
-/
namespace Go.Ab
open Go Go.RowKit
variable {an:bf}
variable {gv:eN}
section
variable {P:Program}{ops:Array Oper}{rest:List Oper}{Q:St->Prop}{n:Nat}{ts:Ts}{ls aH:List (List D)}{h h':ag}{fx:Fx}{v:V}{d dg gi:Nat}{op:Op}{ty:TypeId}{pos:String}{aC:Array Edge}{want b:Bool}
theorem aS.s0 (b:aq P ⟨some d,op,ty,pos,aC,none⟩ ts ls h fx v ls h) (f:Nat.blt d n=true) (hr:aS P ops rest Q ⟨n,(d,v)::ts,ls,h⟩):aS P ops (⟨some d,op,ty,pos,aC,none⟩::rest) Q ⟨n,ts,ls,h⟩ :=
 aS.step b rfl f (by cases fx.wl<;>cases fx.wh<;>exact hr)
theorem aS.sL (b:aq P ⟨some d,op,ty,pos,aC,none⟩ ts ls h { wl:=true } v aH h) (f:Nat.blt d n=true) (hr:aS P ops rest Q ⟨n,(d,v)::ts,aH,h⟩):aS P ops (⟨some d,op,ty,pos,aC,none⟩::rest) Q ⟨n,ts,ls,h⟩ :=
 aS.step b rfl f hr
theorem aS.dU (b:aq P ⟨none,op,ty,pos,aC,none⟩ ts ls h { wl:=true } v aH h) (hr:aS P ops rest Q ⟨n,ts,aH,h⟩):aS P ops (⟨none,op,ty,pos,aC,none⟩::rest) Q ⟨n,ts,ls,h⟩ :=
 aS.step b rfl rfl hr
theorem aS.sH (b:aq P ⟨some d,op,ty,pos,aC,none⟩ ts ls h { rh:=true,wh:=true } v ls h') (f:Nat.blt d n=true) (hr:aS P ops rest Q ⟨n,(d,v)::ts,ls,h'⟩):aS P ops (⟨some d,op,ty,pos,aC,none⟩::rest) Q ⟨n,ts,ls,h⟩ :=
 aS.step b rfl f hr
theorem aS.iK (b:aq P ⟨none,op,ty,pos,aC,none⟩ ts ls h fx v ls h') (f:fx.wl=false) (g:fx.wh=true) (hr:aS P ops rest Q ⟨n,ts,ls,h'⟩):aS P ops (⟨none,op,ty,pos,aC,none⟩::rest) Q ⟨n,ts,ls,h⟩ :=
 aS.step b rfl rfl (by rw [f,g]; exact hr)
theorem aS.sE {R:V->List (List D)->ag->Prop}(b:dZ P ⟨some d,op,ty,pos,aC,none⟩ ts ls h R) (f:Nat.blt d n=true) (hr:∀v aH h',R v aH h'->aS P ops rest Q ⟨n,(d,v)::ts,aH,h'⟩) :
  aS P ops (⟨some d,op,ty,pos,aC,none⟩::rest) Q ⟨n,ts,ls,h⟩:=aS.Er b rfl f hr
theorem y9 (b:(ops[gi]?).bind (·.dst)=some dg){dst:Option Tmp}:guardOf ops ⟨dst,op,ty,pos,aC,some (gi,want)⟩=some (dg,want):=by
 simp only [guardOf,b]
variable {done:List Fx}
theorem au.s0 (f:aq P ⟨some d,op,ty,pos,aC,none⟩ ts ls h fx v ls h) (g:Nat.blt d n=true) (hr:au P ops n rest (fx.plain::done) Q ⟨n,(d,v)::ts,ls,h⟩):au P ops n (⟨some d,op,ty,pos,aC,none⟩::rest) done Q ⟨n,ts,ls,h⟩ :=
 au.cons (mb.plain f rfl g) (by cases fx with|mk a b c d e=>cases b<;>cases d<;>exact hr)
theorem qH.alloc {e:TypeId}{b:TI}{z:A}{i:Nat}{aH:List (List D)}(g:aL P e=some b) (k:b.zero=some z) (l:bT (cA z) ls i aH):qH P ⟨some d,.alloc e,ty,pos,aC,none⟩ (.dI i 0) ls aH:=by
 obtain⟨inf,s,h1,_,_,_,_,f⟩:=fS g;rw [k] at f;obtain⟨v,m,o⟩:=nF f;obtain⟨p,q⟩:=l.spec;refine⟨cA z,d,rfl,rfl,by rw [p],q,v.cells.toList,e,fun j w=>(o j w).cells,fun a w K Q hk=>?_⟩;have r:(execOp a.eval (⟨some d,.alloc e,ty,pos,aC,none⟩:Oper)).run P w=.ok (.value (.pointer (some ⟨w.heap.size,0,none⟩))) (w.alloc (.cells v.cells e)):=by
  simp [execOp,Instr.alloc,zeroValue,typeInfo,h1,m,newVar,newRow]
 unfold Oper.wp;rw [r,Oper.upon_value];rw [Array.toArray_toList] at hk;exact hk
theorem au.sB {e:TypeId}{b:TI}{z:A}{i:Nat}{aH:List (List D)}(f:aL P e=some b) (g:b.zero=some z) (j:Nat.blt d n=true) (hr:au P ops n rest ({ wl:=true,nu:=true }::done) Q ⟨n,(d,.dI i 0)::ts,aH,h⟩)
  (k:bT (cA z) ls i aH:=by repeat (first|exact bT.nil|apply bT.cons)):au P ops n (⟨some d,.alloc e,ty,pos,aC,none⟩::rest) done Q ⟨n,ts,ls,h⟩:=au.born (qH.alloc f g k) j hr
theorem au.dU (b:aq P ⟨none,op,ty,pos,aC,none⟩ ts ls h { wl:=true } v aH h) (hr:au P ops n rest ({ wl:=true }::done) Q ⟨n,ts,aH,h⟩):au P ops n (⟨none,op,ty,pos,aC,none⟩::rest) done Q ⟨n,ts,ls,h⟩ :=
 au.cons (mb.plain b rfl rfl) hr
theorem au.sH (b:aq P ⟨some d,op,ty,pos,aC,none⟩ ts ls h { rh:=true,wh:=true } v ls h') (f:Nat.blt d n=true) (hr:au P ops n rest ({ rh:=true,wh:=true }::done) Q ⟨n,(d,v)::ts,ls,h'⟩) :
  au P ops n (⟨some d,op,ty,pos,aC,none⟩::rest) done Q ⟨n,ts,ls,h⟩:=au.cons (mb.plain b rfl f) hr
theorem au.iK (b:aq P ⟨none,op,ty,pos,aC,none⟩ ts ls h fx v ls h') (f:fx.wl=false) (g:fx.wh=true) (hr:au P ops n rest (fx.plain::done) Q ⟨n,ts,ls,h'⟩):au P ops n (⟨none,op,ty,pos,aC,none⟩::rest) done Q ⟨n,ts,ls,h⟩ :=
 au.cons (mb.plain b rfl rfl) (by rw [f,g]; exact hr)
end
section
variable {P:Program}{ops:Array Oper}{rest:List Oper}{Q:St->Prop}{n:Nat}{ts:Ts}{ls aH:List (List D)}{h h':ag}{fx:Fx}{x:A}{d dg gi:Nat}{op:Op}{ty:TypeId}{pos:String}{aC:Array Edge}{want C:Bool}
def gc:V->Bool->Option Bool
 | .a (.d (.bool b)),true=>some b
 | .a (.d (.bool b)),false=>some (!b)
 | .gd c (.d (.bool b)),true=>some (c&&b)
 | .gd c (.d (.bool b)),false=>some (c&&!b)
 | _,_=>none
theorem Ff {j:J}{w:World}{jl:List Nat}{a:Act}{o:Oper}(f:guardOf ops o=some (dg,want)) (hc:gc (get ts dg) want=some C) (h:aZ j w jl (get ts dg) (a.tmps.getD dg undef)) :
  Region.wanted o (yielded ops a.tmps)=C:=by
 cases hv:get ts dg with
 | a y =>
  cases y with
  | d z =>
   cases z with
   | bool b =>
    rw [hv] at hc;cases want<;>simp only [gc,Option.some.injEq] at hc<;>subst hc<;>rw [yI f hv h]<;>cases b<;>rfl
   | _=>rw [hv] at hc; cases want<;>simp [gc] at hc
  | agg z=>rw [hv] at hc; cases want<;>simp [gc] at hc
 | gd c y =>
  cases y with
  | agg z=>rw [hv] at hc; cases want<;>simp [gc] at hc
  | d z =>
   cases z with
   | bool b =>
    rw [hv] at hc;rw [hv] at h;cases c with
    | true =>
     have h1:aZ j w jl (get [(dg,.a (.d (.bool b)))] dg) (a.tmps.getD dg undef):=by rw [fQ]; exact h.1 rfl
     cases want<;>simp only [gc,Option.some.injEq,Bool.true_and] at hc<;>subst hc<;>rw [yI (ts:=[(dg,.a (.d (.bool b)))]) f (fQ _ _ _) h1]<;>cases b<;>rfl
    | false =>
     have i:=h.2 rfl;have hC:C=false:=by cases want<;>simp [gc] at hc<;>exact hc
     subst hC;unfold guardOf at f
     split at f
     ·simp at f
     ·rename_i g q l
      split at f
      ·rename_i k m
       simp only [Option.some.injEq,Prod.mk.injEq] at f;obtain⟨rfl,rfl⟩:=f;have p:a.tmps[k]?=none\/a.tmps[k]?=some (.tuple #[]):=by
        rw [Array.getD_eq_getD_getElem?] at i;cases e:a.tmps[k]? with
        | none=>exact .inl rfl
        | some y=>rw [e] at i; simp at i; rw [i]; exact .inr rfl
       simp only [Region.wanted,l,yielded,m,Option.bind_some];rcases p with e|e<;>rw [e]<;>rfl
      ·simp at f
   | _=>rw [hv] at hc; cases want<;>simp [gc] at hc
 | any=>rw [hv] at hc; cases want<;>simp [gc] at hc
 | dI _ _=>rw [hv] at hc; cases want<;>simp [gc] at hc
 | dM _=>rw [hv] at hc; cases want<;>simp [gc] at hc
 | jC _ _ _=>rw [hv] at hc; cases want<;>simp [gc] at hc
 | full _ _=>rw [hv] at hc; cases want<;>simp [gc] at hc
 | o4 _ _ _=>rw [hv] at hc; cases want<;>simp [gc] at hc
theorem aq.jd {o:Oper}{v:V}{k:Nat}{c:Bool}(hk:get ts k=.gd c x) (hc:c=true) (b:aq P o ((k,.a x)::ts) ls h fx v aH h'):aq P o ts ls h fx v aH h':=by
 intro L H f hH j w jl a hl g;refine b L H f hH j w jl a hl fun y i=>?_;have h1:=g y i;cases y with
 | tmp t =>
  by_cases e:k=t
  ·subst e;simp only [ev] at h1 ⊢;rw [fQ];rw [hk] at h1;exact h1.1 hc
  ·simp only [ev] at h1 ⊢;rw [fe _ _ e]; exact h1
 | _=>exact h1
theorem aq.MN {o:Oper}{v:V}{k:Nat}{c:Bool}{i off:Nat}(hk:get ts k=.jC c i off) (hc:c=true) (b:aq P o ((k,.dI i off)::ts) ls h fx v aH h'):aq P o ts ls h fx v aH h':=by
 intro L H f hH j w jl a hl g;refine b L H f hH j w jl a hl fun y l=>?_;have h1:=g y l;cases y with
 | tmp t =>
  by_cases e:k=t
  ·subst e;simp only [ev] at h1 ⊢;rw [fQ];rw [hk] at h1;exact h1.1 hc
  ·simp only [ev] at h1 ⊢;rw [fe _ _ e]; exact h1
 | _=>exact h1
theorem aS.gC {v:V}(p:(ops[gi]?).bind (·.dst)=some dg) (hc:gc (get ts dg) want=some C) (q:C=true->aq P ⟨some d,op,ty,pos,aC,some (gi,want)⟩ ts ls h fx v ls h) (g:Nat.blt d n=true)
  (hr:aS P ops rest Q ⟨n,(d,v.under C)::ts,ls,h⟩):aS P ops (⟨some d,op,ty,pos,aC,some (gi,want)⟩::rest) Q ⟨n,ts,ls,h⟩:=by
 intro j w jl a b f hk;have r:=Ff (o:=⟨some d,op,ty,pos,aC,some (gi,want)⟩) (y9 p) hc (b.tmps dg);refine wpList_step fun K i=>?_;rw [r];cases C with
 | true =>
  rw [if_pos rfl];refine(q rfl).step j w jl a b.hl (fun x _=>nC b.tmps x) K f fun v0 l k cv j' w' s ⟨t,u,y⟩ hv hl hx m=>i _ _ ?_;have z:l=ls:=by rw [u]; cases fx.wl<;>rfl
  have B:k=h:=by rw [y]; cases fx.wh<;>rfl
  subst t z B;exact hr j' w' s _ (b.put m.toLe hx (dst:=some d) g (v:=_) (V.Em hv) hl) f fun E F G H a2 hq I J=>hk E F G H a2 hq I (m.trans J)
 | false =>
  simp only [Bool.false_eq_true,if_false];exact i _ _ (hr j w jl _ (b.put (Le.refl _ _) (Ext.refl _) (dst:=some d) g (v:=v.under false) (V.Eo v) b.hl) f hk)
theorem au.gC {v:V}{done:List Fx}(i:(ops[gi]?).bind (·.dst)=some dg) (hc:gc (get ts dg) want=some C) (m:C=true->aq P ⟨some d,op,ty,pos,aC,some (gi,want)⟩ ts ls h fx v ls h) (p:Nat.blt d n=true)
  (hr:au P ops n rest (fx.plain::done) Q ⟨n,(d,v.under C)::ts,ls,h⟩):au P ops n (⟨some d,op,ty,pos,aC,some (gi,want)⟩::rest) done Q ⟨n,ts,ls,h⟩:=by
 refine au.cons (fx:=fx) (v:=v.under C) (aH:=ls) (h':=h) ⟨p,fun L H k hH j w jl a hl l K Q hk=>?_⟩ (by cases fx with|mk a b c d e=>cases b<;>cases d<;>exact hr);have q:=Ff (o:=⟨some d,op,ty,pos,aC,some (gi,want)⟩) (y9 i) hc (l dg (LZ (y9 i)));rw [q];cases C with
 | true =>
  rw [if_pos rfl];exact m rfl L H k hH j w jl a hl (Es l) K Q fun _ _ _ cv j' w' r ⟨g,f,s⟩=>by subst g f s; exact fun hv=>hk cv j' w' r (V.Em hv)
 | false =>
  simp only [Bool.false_eq_true,if_false];refine hk undef j w jl (V.Eo v) ?_ (Ext.refl _) ?_
  ·have g:(bif fx.wl then ls else L)=L:=by cases hw:fx.wl with
    | true=>exact(k (by rw [hw]; simp)).symm
    | false=>rfl
   have f:(bif fx.wh then h else H)=H:=by cases hw:fx.wh with
    | true=>exact(hH (by rw [hw]; simp)).symm
    | false=>rfl
   rw [g,f]; exact hl
  ·have f:(bif fx.wh then h else H)=H:=by cases hw:fx.wh with
    | true=>exact(hH (by rw [hw]; simp)).symm
    | false=>rfl
   rw [f]; exact bC.refl _ _ _
variable {dst:Option Tmp}{g:Option (Nat×Bool)}
theorem aq.MO {c y z:Operand}{b r i:Bool}(hc:ev ts c=.a (.d (.bool b))) (m:ev ts y=.gd i (.d (.bool r))) (o:b=true->i=true) (p:ev ts z=.a (.d (.bool false))) :
  aq P (mk dst (.pick c y z) ty pos aC g) ts ls h {} (.a (.d (.bool (b&&r)))) ls h :=
 aq.dN fun j w jl a f=>by
  have h1:=f c (by simp [Op.operands]);have k:=f y (by simp [Op.operands]);have l:=f z (by simp [Op.operands]);rw [hc] at h1; rw [m] at k; rw [p] at l;cases b with
  | true =>
   have q:aZ j w jl (.a (.d (.bool r))) (a.eval y):=k.1 (o rfl);exact⟨.bool r,by simp [execOp,jb h1,jb q,asBool],by simp only [Bool.true_and]; exact aA.bool _⟩
  | false=>exact⟨.bool false,by simp [execOp,jb h1,jb l,asBool],by simp only [Bool.false_and]; exact aA.bool _⟩
theorem aq.MP {c y z:Operand}{b r i:Bool}(hc:ev ts c=.a (.d (.bool b))) (m:ev ts y=.a (.d (.bool true))) (o:ev ts z=.gd i (.d (.bool r))) (p:b=false->i=true) :
  aq P (mk dst (.pick c y z) ty pos aC g) ts ls h {} (.a (.d (.bool (b||r)))) ls h :=
 aq.dN fun j w jl a f=>by
  have h1:=f c (by simp [Op.operands]);have k:=f y (by simp [Op.operands]);have l:=f z (by simp [Op.operands]);rw [hc] at h1; rw [m] at k; rw [o] at l;cases b with
  | false =>
   have q:aZ j w jl (.a (.d (.bool r))) (a.eval z):=l.1 (p rfl);exact⟨.bool r,by simp [execOp,jb h1,jb q,asBool],by simp only [Bool.false_or]; exact aA.bool _⟩
  | true=>exact⟨.bool true,by simp [execOp,jb h1,jb k,asBool],by simp only [Bool.true_or]; exact aA.bool _⟩
theorem gE {a b:Bool}(h:(a&&b)=true):a=true:=by cases a<;>simp_all
theorem y_ {a b:Bool}(h:(a&&b)=true):b=true:=by cases a<;>simp_all
theorem vt {b:Bool}(h:b=false):(!b)=true:=by simp [h]
theorem qV {a b:Bool}(h:a=true) (h':b=true):(a&&b)=true:=by simp [h,h']
end
section
variable {P:Program}{Q:Exit->St->Prop}{σ:St}
theorem bM {id:Nat}(h:Q .ret σ):vh id Q .ret σ:=h
theorem bN {K:St->Prop}(h:Q .ret σ):me K Q .ret σ:=h
theorem ah.ay {x y:Code}(h:∀K:St->Prop,(∀σ,ah P y Q σ->K σ)->ah P x (me K Q) σ):ah P (.seq x y) Q σ:=ah.seq (h _ fun _ h=>h)
theorem ah.MQ {α:Type}{c:Code}(inv:α->St) (m:α->Nat) (pre:α->Prop) (g:α) (k:cR σ (inv g)) (h0:pre g)
  (hr:∀x,pre x->∀K:St->Prop,(∀b y,cR b (inv y)->pre y->m y<m x->K b)->ah P c (me K Q) (inv x)):ah P (.loop c) Q σ:=by
 refine ah.EJ k (ah.loop inv m pre g h0 fun x hx=>ah.post (ah.mono (hr x hx (fun b=>∃y,cR b (inv y)/\pre y/\m y<m x) fun b y h1 i j=>⟨y,h1,i,j⟩) ?_));intro e f hq;cases e with
 | normal=>obtain⟨y,h1,i,j⟩:=hq; exact⟨inv y,h1,y,rfl,i,j⟩
 | exit _=>exact⟨f,cR.refl _,hq⟩
 | goto _=>exact⟨f,cR.refl _,hq⟩
 | ret=>exact⟨f,cR.refl _,hq⟩
 | panic _=>exact⟨f,cR.refl _,hq⟩
 | outgrown=>exact⟨f,cR.refl _,hq⟩
theorem cR.MR {n:Nat}{ts ts':Ts}{ls aH:List (List D)}{h h':ag}(m:Nat) (hk:aU ts m ts') (hl:ls.take m=aH) (hh:h=h'):cR ⟨n,ts,ls,h⟩ ⟨n,ts',aH,h'⟩:=by
 subst hl hh; exact cR.keep m hk
def V.vu (m:Nat):V->Bool
 | .dI i _=>Nat.blt i m
 | .jC _ i _=>Nat.blt i m
 | _=>true
theorem aU.c {ts:Ts}{m:Nat}{k:Nat}{v:V}{r:Ts}(h:Ab.get ts k=v) (hv:v.vu m=true) (t:aU ts m r):aU ts m ((k,v)::r) :=
 .cons h ⟨fun i off e=>by subst e; simpa [V.vu,Nat.blt_eq] using hv,fun c i off e=>by subst e; simpa [V.vu,Nat.blt_eq] using hv⟩ t
end
inductive dV (ts:Ts):Ts->Prop where
 | nil:dV ts []
 | cons {k:Nat}{v:V}{r:Ts}(h:Ab.get ts k=v) (t:dV ts r):dV ts ((k,v)::r)
theorem dV.get {ts ts':Ts}(h:dV ts ts') (k:Nat):Ab.get ts' k=.any\/Ab.get ts' k=Ab.get ts k:=by
 induction h with
 | nil=>exact .inl rfl
 | @cons k' v r h t b =>
  by_cases e:k'=k
  ·subst e; rw [fQ]; exact .inr h.symm
  ·rw [fe _ _ e]; exact b
inductive je {α:Type}:List α->List α->Prop where
 | nil {l:List α}:je [] l
 | cons {a:α}{l l':List α}(h:je l l'):je (a::l) (a::l')
theorem je.take {α:Type}{l l':List α}(h:je l l'):l'.take l.length=l:=by
 induction h with
 | nil=>simp
 | cons _ b=>simp [b]
theorem cR.to {n:Nat}{ts ts':Ts}{ls aH:List (List D)}{h h':ag}(hk:aU ts aH.length ts') (hl:je aH ls) (hh:h=h'):cR ⟨n,ts,ls,h⟩ ⟨n,ts',aH,h'⟩ :=
 cR.MR aH.length hk hl.take hh
theorem cR.toF {n:Nat}{ts ts':Ts}{ls aH:List (List D)}{h h':ag}(hk:aU ts aH.length ts') (hl:je aH ls) (hh:∀id o,h' id=some o->h id=some o):cR ⟨n,ts,ls,h⟩ ⟨n,ts',aH,h'⟩ :=
 (cR.to hk hl rfl).trans (cR.forget hh)
section
variable {P:Program}{Q:Exit->St->Prop}{n:Nat}{jG ts:Ts}{ls:List (List D)}{h:ag}
theorem ah.jf {α:Type}{c:Code}(_:dV jG ts) (over:α->Ts) (lo:α->List (List D)) (hh:α->ag) (m:α->Nat) (pre:α->Prop) (b:α) (h0:pre b) (hi:cR ⟨n,jG,ls,h⟩ ⟨n,over b++ts,lo b,hh b⟩)
  (hr:∀x,pre x->∀K:St->Prop,(∀f y,cR f ⟨n,over y++ts,lo y,hh y⟩->pre y->m y<m x->K f)->ah P c (me K Q) ⟨n,over x++ts,lo x,hh x⟩):ah P (.loop c) Q ⟨n,jG,ls,h⟩ :=
 ah.MQ (fun x=>⟨n,over x++ts,lo x,hh x⟩) m pre b hi h0 hr
theorem ah.fO {α:Type}{x y:Code}(_:dV jG ts) (over:α->Ts) (lo:α->List (List D)) (hh:α->ag) (pre:α->Prop)
  (hx:∀K:St->Prop,(∀b y,cR b ⟨n,over y++ts,lo y,hh y⟩->pre y->K b)->ah P x (me K Q) ⟨n,jG,ls,h⟩) (i:∀z,pre z->ah P y Q ⟨n,over z++ts,lo z,hh z⟩):ah P (.seq x y) Q ⟨n,jG,ls,h⟩:=by
 refine ah.seq (ah.post (ah.mono (hx (fun b=>∃z,cR b ⟨n,over z++ts,lo z,hh z⟩/\pre z) fun b z h1 g=>⟨z,h1,g⟩) ?_));intro e f hq;cases e with
 | normal=>obtain⟨z,h1,g⟩:=hq; exact⟨_,h1,i z g⟩
 | exit _=>exact⟨f,cR.refl _,hq⟩
 | goto _=>exact⟨f,cR.refl _,hq⟩
 | ret=>exact⟨f,cR.refl _,hq⟩
 | panic _=>exact⟨f,cR.refl _,hq⟩
 | outgrown=>exact⟨f,cR.refl _,hq⟩
theorem ah.bD {α:Type}{c:Code}(_:dV jG ts) (over:α->Ts) (hh:α->ag) (m:α->Nat) (pre:α->Prop) (b:α) (h0:pre b) (hi:cR ⟨n,jG,ls,h⟩ ⟨n,over b++ts,ls,hh b⟩)
  (hr:∀x,pre x->∀K:St->Prop,(∀f y,cR f ⟨n,over y++ts,ls,hh y⟩->pre y->m y<m x->K f)->ah P c (me K Q) ⟨n,over x++ts,ls,hh x⟩):ah P (.loop c) Q ⟨n,jG,ls,h⟩ :=
 ah.jf ‹_› over (fun _=>ls) hh m pre b h0 hi hr
theorem ah.aP {α:Type}{x y:Code}(_:dV jG ts) (over:α->Ts) (hh:α->ag) (pre:α->Prop)
  (hx:∀K:St->Prop,(∀b y,cR b ⟨n,over y++ts,ls,hh y⟩->pre y->K b)->ah P x (me K Q) ⟨n,jG,ls,h⟩) (f:∀z,pre z->ah P y Q ⟨n,over z++ts,ls,hh z⟩):ah P (.seq x y) Q ⟨n,jG,ls,h⟩ :=
 ah.fO ‹_› over (fun _=>ls) hh pre hx f
end
end Go.Ab
/-
 The program's data types (package api) as plain Lean types,and how each is laid out in cells.
-/
namespace Go.Ab
open Go Go.RowKit
variable {an:bf}
abbrev tG:={ s:List UInt8 // s.length<=cF }
structure iL (α:Type) where
 nil:Bool
 l:List α
 ok:l.length<=cF
 nn:nil=true->l=[]
def iL.d {α:Type}(k:Nat) (f:α->List D) (s:iL α):D:=.slice k none s.nil (s.l.map f)
def MS (s:tG):List D:=[.str s.1]
def MT (n:Int):List D:=[.int .i64 n]
end Go.Ab
/-
 What the functions of package schema compute,in plain terms.
-/
namespace Go.Ab.nI
open Go Go.Ab
end Go.Ab.nI
/-
 Heaps in normal form; nil slices given a token where they are passed.
-/
namespace Go.Ab
open Go Go.RowKit
variable {an:bf}
variable {gv:eN}
theorem ag.bX {h:ag}{i:Nat}{o:Option Obj}(hi:h i=none):∀id b,h id=some b->(h.set i o) id=some b:=by
 intro id b e; rw [ag.bV]; exact e;intro he; rw [he,hi] at e; cases e
inductive lB (h:ag):A->A->Prop where
 | refl (x:A):lB h x x
 | nil {k k' t:Nat}{o:Obj}(ht:h t=some o):lB h (.d (.slice k none true [])) (.d (.slice k' (some t) true []))
 | MU {k k':Nat}:lB h (.d (.slice k none true [])) (.d (.slice k' none true []))
theorem lB.rel {h:ag}{x y:A}(f:lB h x y){j:J}{w:World}{v:Value}(hh:dY j w h) (hx:cT j w x v):cT j w y v:=by
 cases f with
 | refl=>exact hx
 | @nil k k' t o ht =>
  have b:aA j w (.slice k none true []) v:=hx;cases b;exact aA.eU _ _ fun g e=>by simp at e; subst e; exact(hh.obj _ _ ht).1
 | @MU k k' =>
  have b:aA j w (.slice k none true []) v:=hx;cases b;exact aA.eU _ _ fun g e=>by cases e
theorem AC.MV {P:Program}{f:FuncId}{xs g:List A}{h:ag}{Post:V->ag->Prop}(k:aR (lB h) xs g) (hc:AC P f g h Post):AC P f xs h Post :=
 ⟨hc.enter,fun j w dJ hh l=>hc.runs j w dJ hh (by
  refine aR.l_ (by rw [<- k.length,l.length]) fun i y v m hv=>?_;obtain⟨x,hx,o⟩:=k.get' m;obtain⟨p,b,hr⟩:=l.get hx;rw [hv] at b; simp at b; subst b;exact o.rel hh hr)⟩
theorem ah.tok {P:Program}{c:Code}{Q:Exit->St->Prop}{n:Nat}{ts:Ts}{ls:List (List D)}{h:ag}(k:Nat)
  (hw:∀t,h t=none->ah P c Q ⟨n,ts,ls,h.set t (some (.tok k 0))⟩):ah P c Q ⟨n,ts,ls,h⟩:=by
 intro j w jl a b;obtain⟨h1,f⟩:=b.hl.dQ k;have g:=b.hl.1.kq (Nat.le_refl _);refine wp_mono (hw j.next g j.dQ w jl a ⟨b.defers,b.size,fun i=>(b.tmps i).mono f.toLe (Ext.refl _),h1⟩) fun e a w hq=>AQ.trans f hq
theorem ah.fH {P:Program}{c:Code}{Q:Exit->St->Prop}{n:Nat}{ts:Ts}{ls:List (List D)}{h:ag}(s k t:Nat){o:Obj}{f:Nat}(g:get ts s=.a (.d (.slice f none true []))) (ht:h t=some o)
  (hw:ah P c Q ⟨n,(s,.a (.d (.slice k (some t) true [])))::ts,ls,h⟩):ah P c Q ⟨n,ts,ls,h⟩:=by
 intro j w jl a b;refine hw j w jl a ⟨b.defers,b.size,fun i=>?_,b.hl⟩;by_cases e:s=i
 ·subst e;show aZ _ _ _ (get ((s,_)::ts) s) _;rw [fQ];have hv:aZ j w jl (get ts s) (a.tmps.getD s undef):=b.tmps s;rw [g] at hv;exact(lB.nil (k':=k) ht).rel b.hl.1 hv
 ·show aZ _ _ _ (get ((s,_)::ts) i) _;rw [fe _ _ e];exact b.tmps i
theorem ah.f_ {P:Program}{c:Code}{Q:Exit->St->Prop}{n:Nat}{ts:Ts}{ls:List (List D)}{h:ag}(s:Nat){k:Nat}{tk:Option Nat}{nl:Bool}{rows:List (List D)}(g:get ts s=.a (.d (.slice k tk nl rows)))
  (hw:ah P c Q ⟨n,(s,.a (.d (.slice k none nl rows)))::ts,ls,h⟩):ah P c Q ⟨n,ts,ls,h⟩:=by
 intro j w jl a b;refine hw j w jl a ⟨b.defers,b.size,fun i=>?_,b.hl⟩;by_cases e:s=i
 ·subst e;show aZ _ _ _ (get ((s,_)::ts) s) _;rw [fQ];have hv:aZ j w jl (get ts s) (a.tmps.getD s undef):=b.tmps s;rw [g] at hv;have f:aA j w (.slice k tk nl rows) (a.tmps.getD s undef):=hv;generalize a.tmps.getD s undef=x at f ⊢;cases f with
  | eU=>exact aA.eU _ _ fun t e=>by cases e
  | slice _ _ _ a cap cv hk hn hc bJ hr ht=>exact aA.slice _ _ _ a cap cv hk hn hc bJ hr fun t e=>by cases e
 ·show aZ _ _ _ (get ((s,_)::ts) i) _;rw [fe _ _ e];exact b.tmps i
theorem bF.bK {T:List TI}{rs:List ResultVar}{Post:V->ag->Prop}{σ:St}{xs:List A}(h':ag) (h:jD T σ rs=some xs) (b:Post (jE xs) h') (f:∀id o,h' id=some o->σ.h id=some o):bF T rs Post .ret σ:=⟨.inr rfl,xs,h',h,f,b⟩
theorem bF.vv {T:List TI}{rs:List ResultVar}{Post:V->ag->Prop}{σ:St}{xs:List A}(h':ag) (h:jD T σ rs=some xs) (b:Post (jE xs) h') (f:∀id o,h' id=some o->σ.h id=some o):bF T rs Post .normal σ:=⟨.inl rfl,xs,h',h,f,b⟩
section
variable {P:Program}{dst:Option Tmp}{ty:TypeId}{pos:String}{aC:Array Edge}{g:Option (Nat×Bool)}{ts:Ts}{ls:List (List D)}{h:ag}
end
def fm (l:List (List UInt8)):List (D×A):=l.map fun s=>(.str s,.d (.bool true))
def qW (l:List (List UInt8)) (s:List UInt8):List (List UInt8):=if l.contains s then l else l++[s]
theorem MW (l:List (List UInt8)) (s:List UInt8):mj (.str s) (fm l)=some (if l.contains s then some (.d (.bool true)) else none):=by
 induction l with
 | nil=>rfl
 | cons x r b =>
  simp only [fm,List.map_cons,mj,qS,List.contains_cons];by_cases e:s=x
  ·subst e; simp
  ·have f:(s==x)=false:=by simpa using e
   have g:(x==s)=false:=by simpa using fun h=>e h.symm
   simp only [f,g,Bool.false_or]; exact b
theorem MX (l:List (List UInt8)) (s:List UInt8):pH (.str s) (.d (.bool true)) (fm l)=some (fm (qW l s)):=by
 induction l with
 | nil=>rfl
 | cons x r f =>
  simp only [fm,List.map_cons,pH,qS,qW,List.contains_cons];by_cases e:s=x
  ·subst e; simp
  ·have g:(s==x)=false:=by simpa using e
   have i:(x==s)=false:=by simpa using fun h=>e h.symm
   have b:=f;simp only [fm,qW] at b;simp only [g,i,Bool.false_or,b]
   split<;>simp_all
section
variable {P:Program}{dst:Option Tmp}{ty:TypeId}{pos:String}{aC:Array Edge}{g:Option (Nat×Bool)}{ts:Ts}{ls:List (List D)}{h:ag}
theorem aq.MY {t b f:TypeId}{i j m:TI}{x y:Operand}{id:Nat}{l:List (List UInt8)}{s:List UInt8}(o:aL P t=some i) (hk:i.k=.map b f) (p:aL P b=some j) (u:aL P f=some m) (v:m.zero=some (.d (.bool false)))
  (hx:ev ts x=.a (.d (.map id))) (q:ev ts y=.a (.d (.str s))) (r:g_ j.k (.str s)=true) (hm:h id=some (.map (fm l))):aq P (mk dst (.lookup t x y false) ty pos aC g) ts ls h { rh:=true } (.a (.d (.bool (l.contains s)))) ls h:=by
 have h1:=MW l s;cases hc:l.contains s with
 | true=>rw [hc] at h1; exact aq.MK o hk p hx q r hm h1
 | false=>rw [hc] at h1; exact aq.ML o hk p u v hx q r hm h1
end
end Go.Ab
/-
 Variables that turn no more: a box that is only read,and a local that becomes data.
-/
namespace Go.Ab
open Go Go.RowKit
variable {an:bf}
variable {gv:eN}
theorem Fg {j:J}{w:World}{b:Nat}{xs:List D}{cs:List Value}{e:TypeId}{n:Nat}(hh:w.heap[b]?=some (.cells cs.toArray e (0,0))) (hx:aR (aA j w) xs cs) (g:xs.length<=j.F b) :
  aA j w (.view xs) (.pointer (some ⟨b,0,none⟩)):=by
 refine aA.view xs _ (fun i=>cs.getD i default) ⟨rfl,fun i hi=>?_⟩ fun i hi=>?_
 ·have f:i<cs.length:=hx.length▸hi;refine⟨by show 0+i<j.F b; omega, ?_⟩;show w.cell? ⟨b,0+i,none⟩=_;rw [Nat.zero_add,cell_of_row w b i cs.toArray e (0,0) hh];simp [f]
 ·obtain⟨v,hv,hr⟩:=hx.get (List.getElem?_eq_getElem hi);have:cs.getD i default=v:=by rw [List.getD_eq_getElem?_getD,hv]; rfl
  rw [this]; exact hr
section
variable {P:Program}{dst:Option Tmp}{ty:TypeId}{pos:String}{aC:Array Edge}{g:Option (Nat×Bool)}{ts:Ts}{ls:List (List D)}{h:ag}
theorem aq.MZ {e:TypeId}{x:Operand}{y:A}(hx:ev ts x=.a y):aq P (mk dst (.box e x) ty pos aC g) ts ls h {} (.a (.d (.view (cA y)))) ls h:=by
 refine aq.of_run fun L H _ _ j w jl a hl f=>?_;have h1:=f x (by simp [Op.operands]);rw [hx] at h1;have i:cT j w y (a.eval x):=h1;obtain⟨k,b⟩:=hl.data (.cells (a.eval x).cells e) (cA y).length;refine⟨.value (.pointer (some ⟨w.heap.size,0,none⟩)),_,.pointer (some ⟨w.heap.size,0,none⟩),j.eZ w.heap.size (cA y).length,jl,by simp [execOp,Instr.box,newVar,newRow],.inl rfl, ?_,k,Ext.refl _,b⟩
 refine Fg (n:=0) (cs:=(a.eval x).cells.toList) (e:=e) ?_ (i.cells.imp fun _ _ h=>h.mono b.toLe) (by simp [J.eZ]);rw [Array.toArray_toList]; exact heap_alloc_new w _
variable {c:Code}{Q:Exit->St->Prop}{n:Nat}
theorem cR.freeze {ts':Ts}{aH:List (List D)}{xs:List D}(s i:Nat) (H:get ts s=.dI i 0) (hl:bT xs aH i ls) (hk:aU ts i ts'):cR ⟨n,ts,ls,h⟩ ⟨n,(s,.a (.d (.view xs)))::ts',aH,h⟩:=by
 obtain⟨hi,e⟩:=hl.spec;subst hi e;intro j w jl a g;have l:=g.hl;obtain⟨b,p,r⟩:∃b,jl[aH.length]?=some b/\a.tmps.getD s undef=.pointer (some ⟨b,0,none⟩):=by
  have:=g.tmps s;have this:aZ j w jl (get ts s) (a.tmps.getD s undef):=this;rw [H] at this; exact this
 obtain⟨xs',B,cs,S,C,I,K⟩:∃xs',(aH++[xs])[aH.length]?=some xs'/\ko j w b xs':=l.2.each.get' p;simp at B; subst B;have bh:=fN C;have E:=l.trim (an:=an) aH.length;rw [List.take_left' rfl] at E;have L:b∉jl.take aH.length:=by
  intro hm;obtain⟨k,M,q⟩:=List.getElem_of_mem hm;rw [List.length_take] at M;have h1:jl[k]?=some b:=by rw [<- q,List.getElem_take]; exact List.getElem?_eq_getElem _
  have G:=(List.getElem?_inj (by omega) l.2.nodup).1 (h1.trans p.symm);omega
 have N:¬Own j h (jl.take aH.length) b:=by
  rintro (hm|⟨id,o,h1,G⟩)
  ·exact L hm
  ·exact l.2.apart b (List.mem_of_getElem? p) (.inr ⟨id,o,h1,G⟩)
 have hle:Le j w (j.eZ b xs.length) w:=⟨Nat.le_refl _,fun _ _=>rfl,fun f=>by
  simp only [J.eZ]
  split
  ·rename_i e; rw [e,K]; exact Nat.zero_le _
  ·exact Nat.le_refl _,fun _ _ _=>rfl,fun _ _=>.inl rfl⟩
 have t:∀f,f≠b->(j.eZ b xs.length).F f=j.F f:=fun f O=>by simp only [J.eZ]; rw [if_neg O]
 have q:=E.1.keep hle (fun f m=>⟨rfl,t f (fun e=>N (e▸m))⟩) (fun _ _ _=>rfl) (fun f P=>by rw [t f (by omega)]; exact l.1.fresh f P);refine⟨j.eZ b xs.length,jl.take aH.length,⟨g.defers,g.size,fun k=>?_,q.1⟩, ?_⟩
 ·by_cases e:s=k
  ·subst e;show aZ _ _ _ (get ((s,_)::ts') s) _;rw [fQ];have r:a.tmps.getD s undef=.pointer (some ⟨b,0,none⟩):=r;rw [r];exact Fg (n:=0) C (I.imp fun _ _ h=>h.mono hle) (by simp [J.eZ])
  ·show aZ _ _ _ (get ((s,_)::ts') k) _;rw [fe _ _ e];obtain⟨U,W,X,_⟩:=cR.keep (an:=an) (n:=n) (ls:=aH++[xs]) (h:=h) aH.length hk j w jl a g;have hv:aZ j w jl (get ts k) (a.tmps.getD k undef):=g.tmps k;rcases hk.get k with u|⟨u,Q,R⟩
   ·rw [u]; trivial
   ·rw [<- u] at hv;cases hx:get ts' k with
    | any=>trivial
    | a x=>rw [hx] at hv; exact cT.mono hle hv
    | dI i off =>
     rw [hx] at hv;obtain⟨v,y,z⟩:=hv;exact⟨v,by rw [List.getElem?_take_of_lt (Q i off hx)]; exact y,z⟩
    | dM xs=>rw [hx] at hv; obtain⟨cs,e,hh⟩:=hv; exact⟨cs,e,hh.imp fun _ _ h=>h.mono hle⟩
    | gd c x=>rw [hx] at hv; exact⟨fun hc=>cT.mono hle (hv.1 hc),hv.2⟩
    | full k rows=>rw [hx] at hv; exact⟨aA.mono hle hv.1,hv.2⟩
    | o4 c k rows=>rw [hx] at hv; exact⟨fun hc=>⟨aA.mono hle (hv.1 hc).1,(hv.1 hc).2⟩,hv.2⟩
    | jC c i off =>
     rw [hx] at hv;refine⟨fun hc=>?_,hv.2⟩;obtain⟨v,y,z⟩:=hv.1 hc;exact⟨v,by rw [List.getElem?_take_of_lt (R c i off hx)]; exact y,z⟩
 ·refine { toLe:=hle,size:=Nat.le_refl _,frame:=fun f _ m=>⟨rfl,t f fun e=>m (.inl (e▸List.mem_of_getElem? p))⟩,own:=fun f _ m=>?_,os:=rfl,tape:=rfl,output:=fG.rfl };rcases (q.2 f).1 m with hm|hm
  ·exact .inl (List.mem_of_mem_take hm)
  ·exact .inr hm
theorem ah.freeze {ts':Ts}{aH:List (List D)}{xs:List D}(s i:Nat) (b:get ts s=.dI i 0) (hl:bT xs aH i ls) (hk:aU ts i ts') (hw:ah P c Q ⟨n,(s,.a (.d (.view xs)))::ts',aH,h⟩):ah P c Q ⟨n,ts,ls,h⟩ :=
 ah.EJ (cR.freeze s i b hl hk) hw
end
theorem Fh {k:Nat}{tk:Option Nat}{nl:Bool}{rows:List (List D)}(j:J) (w:World) (cv:Value) (h:aZ j w [] (.a (.d (.slice k tk nl rows))) cv):aZ j w [] (.a (.d (.slice k none nl rows))) cv:=by
 have h':aA j w (.slice k tk nl rows) cv:=h;cases h' with
 | eU=>exact aA.eU _ _ fun t e=>by cases e
 | slice _ _ _ a cap cv hk hn hc bJ hr ht=>exact aA.slice _ _ _ a cap cv hk hn hc bJ hr fun t e=>by cases e
end Go.Ab
/-
 Names and violations in plain terms; the reference's functions of layer 10.
-/
namespace Go.Ab.nI
open Go Go.Ab
end Go.Ab.nI
/-
 Layer 10: input types that contain themselves,plainly: the reference's list and what can be reached.
-/
namespace Go.Ab.nI
open Go Go.Ab
end Go.Ab.nI
/-
 The checker of package schema as an object.
-/
namespace Go.Ab
open Go Go.RowKit
variable {an:bf}
variable {gv:eN}
theorem Own.lC {j:J}{h:ag}{c:Nat}{xs g:List D}(hc:h c=some (.cells xs)){jl:List Nat}{b:Nat}:Own j (h.set c (some (.cells g))) jl b↔Own j h jl b:=by
 constructor
 ·rintro (h1|⟨id,o,h1,f⟩)
  ·exact .inl h1
  ·by_cases e:id=c
   ·subst e; rw [ag.cn] at h1; simp only [Option.some.injEq] at h1; subst h1;exact .inr ⟨id,_,hc,f⟩
   ·rw [ag.bV _ _ e] at h1; exact .inr ⟨id,o,h1,f⟩
 ·rintro (h1|⟨id,o,h1,f⟩)
  ·exact .inl h1
  ·by_cases e:id=c
   ·subst e; rw [hc] at h1; simp only [Option.some.injEq] at h1; subst h1;exact .inr ⟨id,_,ag.cn _ _ _,f⟩
   ·exact .inr ⟨id,o,by rw [ag.bV _ _ e]; exact h1,f⟩
theorem dY.lC {j:J}{w:World}{h:ag}{c:Nat}{xs g:List D}(hr:dY j w h) (hc:h c=some (.cells xs)) (k:∀cs,aR (aA j w) xs cs->aR (aA j w) g cs):dY j w (h.set c (some (.cells g))):=by
 have key:∀id o,(h.set c (some (.cells g))) id=some o->∃o',h id=some o'/\bG j id o=bG j id o':=by
  intro id o f;by_cases e:id=c
  ·subst e; rw [ag.cn] at f; simp only [Option.some.injEq] at f; subst f;exact⟨_,hc,rfl⟩
  ·rw [ag.bV _ _ e] at f; exact⟨o,f,rfl⟩
 refine⟨fun id o f=>?_,fun gA o1 gB o2 b h1 i l m=>?_,hr.fresh⟩
 ·by_cases e:id=c
  ·subst e; rw [ag.cn] at f; simp only [Option.some.injEq] at f; subst f;obtain⟨hn,cs,p,h1,i,q⟩:=hr.obj _ _ hc;exact⟨hn,cs,p,h1,k _ i,q⟩
  ·rw [ag.bV _ _ e] at f; exact hr.obj _ _ f
 ·obtain⟨v,r,s⟩:=key _ _ h1;obtain⟨x,t,u⟩:=key _ _ i;exact hr.inj _ _ _ _ b r t (s▸l) (u▸m)
theorem ah.lC {P:Program}{c:Code}{Q:Exit->St->Prop}{n:Nat}{ts:Ts}{ls:List (List D)}{h:ag}(id:Nat){xs:List D}(i:List D) (hc:h id=some (.cells xs)) (k:∀j w cs,dY j w h->aR (aA j w) xs cs->aR (aA j w) i cs)
  (hw:ah P c Q ⟨n,ts,ls,h.set id (some (.cells i))⟩):ah P c Q ⟨n,ts,ls,h⟩:=by
 intro j w jl a f;have hl:=f.hl;refine wp_mono (hw j w jl a ⟨f.defers,f.size,f.tmps,⟨hl.1.lC hc (k j w · hl.1),⟨hl.2.each,hl.2.nodup,fun b l g=>hl.2.apart b l ((Own.lC hc).1 g)⟩⟩⟩) fun e a w hq=>AQ.trans ?_ hq;exact { bC.refl j _ (Own j h jl) with own:=fun b _ g=>(Own.lC hc).1 g }
theorem ah.dX {P:Program}{c:Code}{Q:Exit->St->Prop}{n:Nat}{ts:Ts}{ls:List (List D)}{h:ag}(i:Nat){xs:List D}(l:List D) (hc:ls[i]?=some xs) (o:∀j w cs,dY j w h->aR (aA j w) xs cs->aR (aA j w) l cs)
  (hw:ah P c Q ⟨n,ts,ls.set i l,h⟩):ah P c Q ⟨n,ts,ls,h⟩:=by
 intro j w jl a g;have hl:=g.hl;have p:aR (fun xs b=>ko j w b xs) (ls.set i l) jl:=by
  refine aR.l_ (by rw [List.length_set,hl.2.each.length]) fun k x b hx m=>?_;rw [List.getElem?_set] at hx
  split at hx
  ·rename_i e
   subst e
   split at hx
   ·simp only [Option.some.injEq] at hx; subst hx;obtain⟨q,f,cs,r,h1,s,t⟩:=hl.2.each.get hc;rw [m] at f; simp only [Option.some.injEq] at f; subst f;exact⟨cs,r,h1,o j w _ hl.1 s,t⟩
   ·cases hx
  ·obtain⟨q,f,h1⟩:=hl.2.each.get hx;rw [m] at f; simp only [Option.some.injEq] at f; subst f;exact h1
 exact hw j w jl a ⟨g.defers,g.size,g.tmps,⟨hl.1,⟨p,hl.2.nodup,hl.2.apart⟩⟩⟩
end Go.Ab
namespace Go.Ab.nI
open Go Go.Ab
end Go.Ab.nI
/-
 Models: functions that may have no answer; the rules by which a walk follows its function's model.
-/
namespace Go.Ab
open Go Go.RowKit
variable {an:bf}
variable {gv:eN}
structure Sl (α:Type) where
 nl:Bool
 l:List α
abbrev Bs:=List UInt8
def Sl.d {α:Type}(k:Nat) (f:α->List D) (t:Option Nat) (s:Sl α):D:=.slice k t s.nl (s.l.map f)
def Sl.nil {α:Type}:Sl α:=⟨true,[]⟩
def aM (s:Bs):List D:=[.str s]
def tH (b:Bool):List D:=[.bool b]
def bE (k:IntKind) (n:Int):List D:=[.int k n]
def bY (a b:Int):Option Int:=if -9223372036854775808<=a+b/\a+b<=9223372036854775807 then some (a+b) else none
def pJ (a b:Int):Option Int:=if -9223372036854775808<=a-b/\a-b<=9223372036854775807 then some (a-b) else none
def cq {α:Type}(l:List α) (n:Int):Option α:=if 0<=n then l[n.toNat]? else none
def a_ (a b:Bs):Option Bs:=if a.length+b.length<=eH then some (a++b) else none
def bp {α:Type}(z:Nat) (s r:Sl α):Option (Sl α):=if (s.l.length+r.l.length)*z<=cF/\s.l.length+r.l.length<=cF then some ⟨s.nl&&r.l.isEmpty,s.l++r.l⟩ else none
def nJ {α:Type}(s:Sl α) (lo hi:Option Int):Option (Sl α) :=
 if 0<=lo.getD 0/\lo.getD 0<=hi.getD s.l.length/\hi.getD s.l.length<=s.l.length then some ⟨s.nl,(s.l.take (hi.getD s.l.length).toNat).drop (lo.getD 0).toNat⟩ else none
def vz (s:Bs) (lo hi:Option Int):Option Bs :=
 if 0<=lo.getD 0/\lo.getD 0<=hi.getD s.length/\hi.getD s.length<=s.length then some ((s.take (hi.getD s.length).toNat).drop (lo.getD 0).toNat) else none
def aQ {α β:Type}(c:Bool) (o:Option α) (d:α) (k:α->Option β):Option β:=if c=true then o.bind k else k d
theorem M0 {a b x:Int}(h:bY a b=some x):x=a+b /\ -9223372036854775808<=a+b/\a+b<=9223372036854775807:=by
 unfold bY at h; split at h
 ·rename_i f; simp at h; exact⟨h.symm,f⟩
 ·cases h
theorem M1 {a b x:Int}(h:pJ a b=some x):x=a-b /\ -9223372036854775808<=a-b/\a-b<=9223372036854775807:=by
 unfold pJ at h; split at h
 ·rename_i f; simp at h; exact⟨h.symm,f⟩
 ·cases h
theorem za {α:Type}{l:List α}{n:Int}{x:α}(h:cq l n=some x):0<=n/\l[n.toNat]?=some x:=by
 unfold cq at h; split at h
 ·rename_i b; exact⟨b,h⟩
 ·cases h
theorem M2 {a b x:Bs}(h:a_ a b=some x):x=a++b/\a.length+b.length<=eH:=by
 unfold a_ at h; split at h
 ·rename_i f; simp at h; exact⟨h.symm,f⟩
 ·cases h
theorem pK {α:Type}{z:Nat}{s r x:Sl α}(h:bp z s r=some x):x=⟨s.nl&&r.l.isEmpty,s.l++r.l⟩/\(s.l.length+r.l.length)*z<=cF/\s.l.length+r.l.length<=cF:=by
 unfold bp at h; split at h
 ·rename_i b; simp only [Option.some.injEq] at h; exact⟨h.symm,b⟩
 ·cases h
theorem zb {α β:Type}{c:Bool}{o:Option α}{d:α}{k:α->Option β}{r:β}(h:aQ c o d k=some r):∃x,(c=true->o=some x)/\k x=some r:=by
 unfold aQ at h; split at h
 ·obtain⟨x,h1,b⟩:=Option.bind_eq_some_iff.1 h; exact⟨x,fun _=>h1,b⟩
 ·rename_i b; exact⟨d,fun e=>absurd e b,h⟩
theorem cS {α β:Type}{o:Option α}{k:α->Option β}{r:β}(h:o.bind k=some r):∃x,o=some x/\k x=some r:=Option.bind_eq_some_iff.1 h
theorem py {α:Type}{c:Bool}{A B:Option α}{r:α}(hc:c=true) (h:(bif c then A else B)=some r):A=some r:=by subst hc; exact h
theorem mg {α:Type}{c:Bool}{A B:Option α}{r:α}(hc:c=false) (h:(bif c then A else B)=some r):B=some r:=by subst hc; exact h
section
variable {P:Program}{dst:Option Tmp}{ty:TypeId}{pos:String}{aC:Array Edge}{g:Option (Nat×Bool)}{ts:Ts}{ls:List (List D)}{h:ag}{α:Type}{f:α->List D}
theorem aq.dx {t e:TypeId}{b:TI}{x:Operand}{c_:Array TypeId}{k:Nat}{tok:Option Nat}{s:Sl α}(i:aL P t=some b) (hk:b.k=.slice e) (bJ:c_[0]?=some t)
  (hx:ev ts x=.a (.d (s.d k f tok))):aq P (mk dst (.call { callee:=.builtin .len,args:=#[x],argTypes:=c_ }) ty pos aC g) ts ls h {} (.a (.d (.int .i64 (s.l.length:Int)))) ls h:=by
 have:=aq.Mr (an:=an) (P:=P) (dst:=dst) (ty:=ty) (pos:=pos) (aC:=aC) (g:=g) (ls:=ls) (h:=h) i hk bJ hx
 rwa [List.length_map] at this
theorem aq.fI {t e:TypeId}{b i:TI}{x ix:Operand}{tok:Option Nat}{s:Sl α}{j:IntKind}{n:Int}{y:α}{k:Nat}(m:aL P t=some b) (hk:b.k=.slice e) (o:aL P e=some i)
  (hx:ev ts x=.a (.d (s.d k f tok))) (hi:ev ts ix=.a (.d (.int j n))) (p:k=i.size) (hr:cq s.l n=some y) :
  aq P (mk dst (.indexAddr t x ix) ty pos aC g) ts ls h {} (.a (.d (.view (f y)))) ls h:=by
 obtain⟨h1,q⟩:=za hr;exact aq.EO m hk o hx hi p h1 (by rw [List.getElem?_map,q]; rfl)
theorem aq.eO {t e:TypeId}{b i:TI}{x ix:Operand}{tok:Option Nat}{s:Sl α}{j:IntKind}{n:Nat}{y:α}{k:Nat}(m:aL P t=some b) (hk:b.k=.slice e) (o:aL P e=some i)
  (hx:ev ts x=.a (.d (s.d k f tok))) (hi:ev ts ix=.a (.d (.int j (n:Int)))) (p:k=i.size) (hr:s.l[n]?=some y) :
  aq P (mk dst (.indexAddr t x ix) ty pos aC g) ts ls h {} (.a (.d (.view (f y)))) ls h :=
 aq.EO m hk o hx hi p (by omega) (by rw [Int.toNat_natCast,List.getElem?_map,hr]; rfl)
theorem aq.Fi {t:TypeId}{b:TI}{x ix:Operand}{s:Bs}{f:IntKind}{n:Int}{c:UInt8}(i:aL P t=some b) (hk:b.k=.str) (hx:ev ts x=.a (.d (.str s))) (hi:ev ts ix=.a (.d (.int f n))) (hr:cq s n=some c) :
  aq P (mk dst (.index t x ix) ty pos aC g) ts ls h {} (.a (.d (.int .u8 (c.toNat:Int)))) ls h:=by
 obtain⟨h1,j⟩:=za hr;exact aq.ES i hk hx hi h1 j
theorem aq.mm {t:TypeId}{b:TI}{x ix:Operand}{s:Bs}{f:IntKind}{n:Nat}{c:UInt8}(i:aL P t=some b) (hk:b.k=.str) (hx:ev ts x=.a (.d (.str s))) (hi:ev ts ix=.a (.d (.int f (n:Int)))) (hr:s[n]?=some c) :
  aq P (mk dst (.index t x ix) ty pos aC g) ts ls h {} (.a (.d (.int .u8 (c.toNat:Int)))) ls h :=
 aq.ES i hk hx hi (by omega) (by rw [Int.toNat_natCast]; exact hr)
theorem aq.dc {t u:TypeId}{x y:Operand}{m n r:Int}(hx:ev ts x=.a (.d (.int .i64 m))) (b:ev ts y=.a (.d (.int .i64 n))) (hr:bY m n=some r):aq P (mk dst (.binOp .add t x y u) ty pos aC g) ts ls h {} (.a (.d (.int .i64 r))) ls h:=by
 obtain⟨e,h1,f⟩:=M0 hr;subst e; exact aq.ER hx b h1 f
theorem aq.Fj {t u:TypeId}{x y:Operand}{m n r:Int}(hx:ev ts x=.a (.d (.int .i64 m))) (b:ev ts y=.a (.d (.int .i64 n))) (hr:pJ m n=some r):aq P (mk dst (.binOp .sub t x y u) ty pos aC g) ts ls h {} (.a (.d (.int .i64 r))) ls h:=by
 obtain⟨e,h1,f⟩:=M1 hr;subst e; exact aq.Mm hx b h1 f
theorem aq.bL {t u:TypeId}{x y:Operand}{a b r:Bs}(hx:ev ts x=.a (.d (.str a))) (f:ev ts y=.a (.d (.str b))) (hr:a_ a b=some r):aq P (mk dst (.binOp .add t x y u) ty pos aC g) ts ls h {} (.a (.d (.str r))) ls h:=by
 obtain⟨e,h1⟩:=M2 hr;subst e; exact aq.concat hx f h1
theorem aq.M3 {t e:TypeId}{u y:TI}{x:Operand}{lo hi:Option Operand}{k:Nat}{tok:Option Nat}{nl:Bool}{rows:List (List D)}{l r:Nat}(z:aL P t=some u) (hk:u.k=.slice e) (B:aL P e=some y)
  (hx:ev ts x=.a (.d (.slice k tok nl rows))) (G:k=y.size)
  (C:match lo with|none=>l=0|some o=>∃f n,ev ts o=.a (.d (.int f n))/\0<=n/\l=n.toNat) (E:match hi with|none=>r=rows.length|some o=>∃f n,ev ts o=.a (.d (.int f n))/\0<=n/\r=n.toNat)
  (H:l<=r) (i:r<=rows.length):aq P (mk dst (.slice t x lo hi none) ty pos aC g) ts ls h {} (.a (.d (.slice k none nl ((rows.take r).drop l)))) ls h:=by
 cases nl with
 | false=>exact aq.part z hk B hx G C E H i
 | true =>
  refine aq.dN fun j w jl act m=>?_;have h1:=m x (by simp [Op.operands]);rw [hx] at h1;obtain⟨b,cap,F,hn,hc,I,J,N,O⟩:=kC h1;cases b with
  | some b=>simp at I
  | none =>
   obtain⟨rfl,rfl⟩:=J rfl;simp only [List.length_nil,Nat.le_zero] at i;subst i;have K:l=0:=by omega
   subst K;have L:(match lo.map act.eval with|some v=>Instr.sliceBound v 0 .sliceB|none=>pure 0).run P w=.ok 0 w:=by
    cases lo with
    | none=>simp
    | some o =>
     obtain⟨f,n,p,q,s⟩:=C;have:=nH (P:=P) (cap:=0) p (m o (by simp [Op.operands])) q (by omega) .sliceB;simp only [Option.map_some]; rw [this,<- s]
   have M:(match hi.map act.eval with|some v=>Instr.sliceBound v 0 .sliceAcap|none=>pure ([]:List (List D)).length).run P w=.ok 0 w:=by
    cases hi with
    | none=>simp
    | some o =>
     obtain⟨f,n,p,q,s⟩:=E;have:=nH (P:=P) (cap:=0) p (m o (by simp [Op.operands])) q (by omega) .sliceAcap;simp only [Option.map_some]; rw [this,<- s]
   refine⟨.slice none 0 0, ?_,aA.eU _ _ (by simp)⟩;have:=Fa z hk B (a:=none) (len:=0) (cap:=0) L M;simp only [List.length_nil] at F;simp only [execOp,Sem.run_bind,F,Option.map_none,this,Result.andThen,Sem.run_pure];simp
theorem aq.qX {t e:TypeId}{j m:TI}{x:Operand}{lo hi:Option Operand}{l r:Option Int}{k:Nat}{tok:Option Nat}{s y:Sl α}(p:aL P t=some j) (hk:j.k=.slice e) (q:aL P e=some m)
  (hx:ev ts x=.a (.d (s.d k f tok))) (u:k=m.size)
  (b:match lo,l with|none,none=>True|some o,some n=>ev ts o=.a (.d (.int .i64 n))|_,_=>False) (i:match hi,r with|none,none=>True|some o,some n=>ev ts o=.a (.d (.int .i64 n))|_,_=>False)
  (hr:nJ s l r=some y):aq P (mk dst (.slice t x lo hi none) ty pos aC g) ts ls h {} (.a (.d (y.d k f none))) ls h:=by
 unfold nJ at hr
 split at hr
 ·rename_i hc
  simp only [Option.some.injEq] at hr;have:=aq.M3 (an:=an) (P:=P) (dst:=dst) (ty:=ty) (pos:=pos) (aC:=aC) (g:=g) (ls:=ls) (h:=h) (l:=(l.getD 0).toNat) (r:=(r.getD s.l.length).toNat) p hk q (lo:=lo) (hi:=hi) hx u
   (by cases lo with
     | none=>cases l with
      | none=>rfl
      | some n=>exact b.elim
     | some o=>cases l with
      | none=>exact b.elim
      | some n=>exact⟨_,n,b,hc.1,rfl⟩)
   (by cases hi with
     | none=>cases r with
      | none=>simp
      | some n=>exact i.elim
     | some o=>cases r with
      | none=>exact i.elim
      | some n=>exact⟨_,n,i,Int.le_trans hc.1 hc.2.1,rfl⟩) (by omega) (by simp; omega)
  rw [<- List.map_take,<- List.map_drop] at this;rw [<- hr]; exact this
 ·cases hr
theorem aq.pL {t u e:TypeId}{j o b:TI}{x y:Operand}{tk k k' m:Nat}{tok':Option Nat}{s r v:Sl α}{z:A}(p:aL P t=some j) (hk:j.k=.slice e) (q:aL P e=some b) (w:aL P u=some o) (B:∃e,o.k=.slice e)
  (C:b.zero=some z) (E:(cA z).length=b.size) (F:b.size≠0) (hx:ev ts x=.a (.d (s.d k f (some tk)))) (G:ev ts y=.a (.d (r.d k' f tok'))) (i:k=b.size) (H:k'=b.size)
  (I:h tk=some (.tok b.size m)) (hm:m=s.l.length) (hr:bp b.bytes s r=some v) :
  aq P (mk dst (.call { callee:=.builtin .append,args:=#[x,y],argTypes:=#[t,u] }) ty pos aC g) ts ls h { rh:=true,wh:=true } (.a (.d (v.d k f (some tk)))) ls (h.set tk (some (.tok b.size v.l.length))):=by
 obtain⟨e,h1,J⟩:=pK hr;subst e;have:=aq.append (an:=an) (P:=P) (dst:=dst) (ty:=ty) (pos:=pos) (aC:=aC) (g:=g) (ls:=ls) p hk q w (.inl B) C E F hx G (.inl i) (.inl H) I (by rw [hm]; simp) (by simpa using h1) (by simpa using J);simp only [List.length_map,List.length_append] at this ⊢;rw [<- List.map_append,List.isEmpty_map,<- i] at this;rw [<- i];exact this
end
section
variable {P:Program}{dst:Option Tmp}{ty:TypeId}{pos:String}{aC:Array Edge}{g:Option (Nat×Bool)}{ts:Ts}{ls:List (List D)}{h:ag}{α:Type}{f:α->List D}
theorem M4 {k k':Nat}(j:J) (w:World) (cv:Value) (h:aZ j w [] (.a (.d (.slice k none true []))) cv):aZ j w [] (.a (.d (.slice k' none true []))) cv:=by
 have h':aA j w (.slice k none true []) cv:=h;cases h';exact aA.eU _ _ fun t e=>by cases e
theorem aq.fJ {x:Operand}{k k':Nat}(hx:ev ts x=.a (.d (.slice k none true []))):aq P (mk dst (.assign x) ty pos aC g) ts ls h {} (.a (.d (.slice k' none true []))) ls h :=
 (aq.assign hx).E8 fun j w _ cv h=>M4 j w cv h
theorem aq.M5 {t u e:TypeId}{F B b:TI}{s:Nat}{y:Operand}{k k':Nat}{tok':Option Nat}{G:Bool}{rows aT:List (List D)}{z:A}(R:aL P t=some F) (S:F.k=.slice e) (U:aL P e=some b) (W:aL P u=some B) (X:(∃e,B.k=.slice e)\/B.k=.str)
  (Y:b.zero=some z) (Z:(cA z).length=b.size) (aa:b.size≠0) (hx:get ts s=.full k rows) (C:ev ts y=.a (.d (.slice k' tok' G aT))) (ab:∀q,y=.tmp q->s≠q) (i:k=b.size) (ad:k'=b.size\/aT=[])
  (ae:(rows.length+aT.length)*b.bytes<=cF) (hlen:rows.length+aT.length<=cF) :
  aq P (mk dst (.call { callee:=.builtin .append,args:=#[.tmp s,y],argTypes:=#[t,u] }) ty pos aC g) ts ls h {} (.a (.d (.slice b.size none false (rows++aT)))) ls h:=by
 intro L H _ _ j w jl a hl r K Q af;have h1:aZ j w jl (get ts s) (a.eval (.tmp s)):=r (.tmp s) (by simp [Op.operands,Call.operands]);rw [hx] at h1;obtain⟨ah,ay,hv⟩:=h1;obtain⟨ai,p⟩:=hl.gu k rows.length;have aj:=hl.1.kq (Nat.le_refl _);have ak:aA (j.gu rows.length) w (.slice k (some j.next) false rows) (a.eval (.tmp s)):=by
  have I:=aA.mono p.toLe ah;rw [hv] at I ⊢;cases I with
  | slice _ _ _ al cap f hk hn hc bJ hr ht =>
   refine aA.slice _ _ _ _ _ f hk hn hc bJ hr fun az M=>?_;simp only [Option.some.injEq] at M;subst M;exact⟨by simp [J.gu],fun aB i=>by simp [J.gu] at i; subst i; exact⟨Nat.le_refl _,fun _=>.inl ⟨rfl,rfl⟩⟩⟩
 have am:ev ((s,V.a (.d (.slice k (some j.next) false rows)))::ts) y=.a (.d (.slice k' tok' G aT)):=by
  cases y with
  | tmp q=>simp only [ev] at C ⊢; rw [fe _ _ (ab q rfl)]; exact C
  | _=>exact C
 have hc:=aq.append (an:=an) (P:=P) (dst:=dst) (ty:=ty) (pos:=pos) (aC:=aC) (g:=g) (ls:=L) (h:=H.set j.next (some (.tok k rows.length))) (ts:=(s,V.a (.d (.slice k (some j.next) false rows)))::ts) (x:=.tmp s) (y:=y) (tk:=j.next) (m:=rows.length)
  R S U W X Y Z aa (by simp only [ev]; rw [fQ]) am (.inl i) ad (by rw [ag.cn,i]) rfl ae hlen
 refine hc.step (j.gu rows.length) w jl a ai (fun x E=>?_) K Q ?_
 ·cases x with
  | tmp q =>
   by_cases e:s=q
   ·subst e;simp only [ev]; rw [fQ];exact ak
   ·simp only [ev]; rw [fe _ _ e];exact(r (.tmp q) E).mono p.toLe (Ext.refl _)
  | const c=>exact(r (.const c) E).mono p.toLe (Ext.refl _)
  | global c=>trivial
  | func c=>exact(r (.func c) E).mono p.toLe (Ext.refl _)
 ·rintro v l hh cv j' w' ao ⟨rfl,rfl,rfl⟩ ap ar au av;obtain⟨aw,ax⟩:=ar.forget (h':=H) (fun id o hi=>by
   have N:id≠j.next:=fun e=>by rw [e,aj] at hi; cases hi
   show ((H.set _ _).set _ _) id=_;rw [ag.bV _ _ N,ag.bV _ _ N]; exact hi)
  refine af _ _ _ cv j' w' ao ⟨rfl,rfl,rfl⟩ ?_ aw au ((p.trans av).trans ax);have O:aA j' w' (.slice b.size (some j.next) (false&&aT.isEmpty) (rows++aT)) cv:=ap;simp only [Bool.false_and] at O;cases O with
  | slice _ _ _ al cap f hk hn hc bJ hr ht=>exact aA.slice _ _ _ _ _ f hk hn hc bJ hr fun t e=>by cases e
theorem aq.tI {t u e:TypeId}{i j b:TI}{s k k':Nat}{y:Operand}{tok':Option Nat}{x r v:Sl α}{z:A}(o:aL P t=some i) (p:i.k=.slice e) (w:aL P e=some b) (B:aL P u=some j) (C:∃e,j.k=.slice e)
  (E:b.zero=some z) (F:(cA z).length=b.size) (G:b.size≠0) (hx:get ts s=.full k (x.l.map f)) (H:x.nl=false) (I:ev ts y=.a (.d (r.d k' f tok'))) (J:∀q,y=.tmp q->s≠q) (m:k=b.size) (K:k'=b.size)
  (hr:bp b.bytes x r=some v) :
  aq P (mk dst (.call { callee:=.builtin .append,args:=#[.tmp s,y],argTypes:=#[t,u] }) ty pos aC g) ts ls h {} (.a (.d (v.d k f none))) ls h:=by
 obtain⟨e,h1,L⟩:=pK hr;subst e;have:=aq.M5 (an:=an) (P:=P) (dst:=dst) (ty:=ty) (pos:=pos) (aC:=aC) (g:=g) (ls:=ls) (h:=h) o p w B (.inl C) E F G hx I J m (.inl K) (by simpa using h1) (by simpa using L);rw [<- List.map_append,<- m] at this;simp only [H,Bool.false_and];exact this
theorem M6 {t e:TypeId}(hu:P.underlying t=some (.slice e)) (d:Nat) (b:Option Addr) (n cap:Nat) (w:World):(Op.equalIn (d+1) t (.slice b n cap) (.slice none 0 0)).run P w=.ok b.isNone w:=by
 unfold Op.equalIn;simp only [Sem.run_bind,ff hu,Result.andThen];cases b<;>simp
theorem M7 {t e:TypeId}(hu:P.underlying t=some (.slice e)) (b:Option Addr) (n cap:Nat) (w:World):(Op.equal t (.slice b n cap) (.slice none 0 0)).run P w=.ok b.isNone w:=by
 exact M6 hu 9999 b n cap w
theorem M8 {t e:TypeId}{op:BinOp}(x y:Operand) (b:Option Addr) (n cap:Nat) (w:World):(eqGuard op t x y (.slice b n cap) (.slice none 0 0)).run P w=.ok () w:=by
 unfold eqGuard;simp
theorem aq.Fk {t e u:TypeId}{f:TI}{x:Operand}{k:Nat}{tok:Option Nat}{nl:Bool}{rows:List (List D)}(i:aL P t=some f) (hk:f.k=.slice e) (hx:ev ts x=.a (.d (.slice k tok nl rows))) :
  aq P (mk dst (.binOp .eql t x (.const (.slice none 0 0)) u) ty pos aC g) ts ls h {} (.a (.d (.bool nl))) ls h :=
 aq.dN fun j w jl act l=>by
  have h1:=l x (by simp [Op.operands]);rw [hx] at h1;obtain⟨b,cap,m,_,_,o,_⟩:=kC h1;have hu:=kD i hk;subst o;have p:act.eval (.const (.slice none 0 0))=.slice none 0 0:=rfl;refine⟨.bool b.isNone, ?_,aA.bool _⟩;simp only [execOp,m,p,Sem.run_bind,M8 (e:=e),Result.andThen,binOp,Sem.run_map,M7 hu,Sem.run_pure]
theorem aq.M9 {x y:Operand}{c_:Array TypeId}{k:IntKind}{m n:Int}(hx:ev ts x=.a (.d (.int k m))) (i:ev ts y=.a (.d (.int k n))) :
  aq P (mk dst (.call { callee:=.builtin .max,args:=#[x,y],argTypes:=c_ }) ty pos aC g) ts ls h {} (.a (.d (.int k (if n>m then n else m)))) ls h :=
 aq.dN fun j w jl act b=>by
  have h1:=b x (by simp [Op.operands,Call.operands]);have f:=b y (by simp [Op.operands,Call.operands]);rw [hx] at h1; rw [i] at f;exact⟨_,by simp only [execOp,resolve,invoke,builtin,List.map_toArray,List.map_cons,List.map_nil,gj h1,gj f]; simp [run_max_int2],aA.int _ _⟩
theorem aq.Fl {x y:Operand}{c_:Array TypeId}{k:IntKind}{m n:Int}(hx:ev ts x=.a (.d (.int k m))) (i:ev ts y=.a (.d (.int k n))) :
  aq P (mk dst (.call { callee:=.builtin .min,args:=#[x,y],argTypes:=c_ }) ty pos aC g) ts ls h {} (.a (.d (.int k (if n<m then n else m)))) ls h :=
 aq.dN fun j w jl act b=>by
  have h1:=b x (by simp [Op.operands,Call.operands]);have f:=b y (by simp [Op.operands,Call.operands]);rw [hx] at h1; rw [i] at f;exact⟨_,by simp only [execOp,resolve,invoke,builtin,List.map_toArray,List.map_cons,List.map_nil,gj h1,gj f]; simp [run_min_int2],aA.int _ _⟩
theorem aq.M_ {t:TypeId}{j:TI}{x:Operand}{lo hi:Option Operand}{l r:Option Int}{s y:Bs}(i:aL P t=some j) (hk:j.k=.str) (hx:ev ts x=.a (.d (.str s)))
  (f:match lo,l with|none,none=>True|some o,some n=>ev ts o=.a (.d (.int .i64 n))|_,_=>False) (b:match hi,r with|none,none=>True|some o,some n=>ev ts o=.a (.d (.int .i64 n))|_,_=>False)
  (p:lo.isSome=true\/hi.isSome=true) (hr:vz s l r=some y):aq P (mk dst (.slice t x lo hi none) ty pos aC g) ts ls h {} (.a (.d (.str y))) ls h:=by
 unfold vz at hr
 split at hr
 ·rename_i hc
  simp only [Option.some.injEq] at hr;cases lo with
  | none =>
   cases l with
   | some n=>exact f.elim
   | none =>
    cases hi with
    | none=>simp at p
    | some o =>
     cases r with
     | none=>exact b.elim
     | some n =>
      have:=aq.yL (an:=an) (P:=P) (dst:=dst) (ty:=ty) (pos:=pos) (aC:=aC) (g:=g) (ls:=ls) (h:=h) i hk hx b (by simpa using hc.2.1) (by simpa using hc.2.2);rw [<- hr]; simpa using this
  | some o =>
   cases l with
   | none=>exact f.elim
   | some n =>
    cases hi with
    | none =>
     cases r with
     | some m=>exact b.elim
     | none =>
      have:=aq.vb (an:=an) (P:=P) (dst:=dst) (ty:=ty) (pos:=pos) (aC:=aC) (g:=g) (ls:=ls) (h:=h) i hk hx f (by simpa using hc.1) (by simpa using hc.2.1);rw [<- hr]; simpa using this
    | some o' =>
     cases r with
     | none=>exact b.elim
     | some m =>
      have:=aq.Ms (an:=an) (P:=P) (dst:=dst) (ty:=ty) (pos:=pos) (aC:=aC) (g:=g) (ls:=ls) (h:=h) i hk hx f b (by simpa using hc.1) (by simpa using hc.2.1) (by simpa using hc.2.2);rw [<- hr];simp only [Option.getD_some];rw [List.drop_take];exact this
 ·cases hr
end
theorem aS.sLen {P:Program}{ops:Array Oper}{rest:List Oper}{Q:St->Prop}{n:Nat}{ts:Ts}{ls:List (List D)}{h:ag}{d:Nat}{ty:TypeId}{pos:String}{aC:Array Edge}{t e:TypeId}{b:TI}{x:Operand}{c_:Array TypeId}{k:Nat}{tok:Option Nat}{α:Type}{f:α->List D}{s:Sl α}
  (i:aL P t=some b) (hk:b.k=.slice e) (bJ:c_[0]?=some t) (hx:ev ts x=.a (.d (s.d k f tok))) (m:Nat.blt d n=true)
  (hr:s.l.length<=140737488355328->aS P ops rest Q ⟨n,(d,.a (.d (.int .i64 (s.l.length:Int))))::ts,ls,h⟩) :
  aS P ops (⟨some d,.call { callee:=.builtin .len,args:=#[x],argTypes:=c_ },ty,pos,aC,none⟩::rest) Q ⟨n,ts,ls,h⟩:=by
 intro j w jl a g o p;have hlen:s.l.length<=140737488355328:=by
  have h1:=nC g.tmps x;rw [hx] at h1;obtain⟨_,_,_,hn,_⟩:=kC h1
  simpa [cF] using hn
 exact aS.s0 (aq.dx i hk bJ hx) m (hr hlen) j w jl a g o p
theorem aS.kE {P:Program}{ops:Array Oper}{rest:List Oper}{Q:St->Prop}{n:Nat}{ts:Ts}{ls:List (List D)}{h:ag}{d:Nat}{ty:TypeId}{pos:String}{aC:Array Edge}{t:TypeId}{b:TI}{x:Operand}{c_:Array TypeId}{s:Bs}
  (g:aL P t=some b) (hk:b.k=.str) (bJ:c_[0]?=some t) (hx:ev ts x=.a (.d (.str s))) (i:Nat.blt d n=true)
  (hr:s.length<=4611686018427387904->aS P ops rest Q ⟨n,(d,.a (.d (.int .i64 (s.length:Int))))::ts,ls,h⟩) :
  aS P ops (⟨some d,.call { callee:=.builtin .len,args:=#[x],argTypes:=c_ },ty,pos,aC,none⟩::rest) Q ⟨n,ts,ls,h⟩:=by
 intro j w jl a f l m;have hlen:s.length<=4611686018427387904:=by
  have h1:=nC f.tmps x;rw [hx] at h1;exact(jc h1).2
 exact aS.s0 (aq.vl g hk bJ hx) i (hr hlen) j w jl a f l m
theorem aS.zc {P:Program}{ops:Array Oper}{rest:List Oper}{Q:St->Prop}{n:Nat}{ts:Ts}{ls:List (List D)}{h h':ag}(e:h=h') (hw:aS P ops rest Q ⟨n,ts,ls,h'⟩):aS P ops rest Q ⟨n,ts,ls,h⟩:=e▸hw
theorem au.zc {P:Program}{ops:Array Oper}{m:Nat}{rest:List Oper}{done:List Fx}{Q:St->Prop}{n:Nat}{ts:Ts}{ls:List (List D)}{h h':ag}(e:h=h') (hw:au P ops m rest done Q ⟨n,ts,ls,h'⟩):au P ops m rest done Q ⟨n,ts,ls,h⟩:=e▸hw
theorem ah.ga {P:Program}{c:Code}{Q:Exit->St->Prop}{n:Nat}{ts:Ts}{ls:List (List D)}{h h':ag}(e:h=h') (hw:ah P c Q ⟨n,ts,ls,h'⟩):ah P c Q ⟨n,ts,ls,h⟩:=e▸hw
theorem ag.hG {h:ag}{i r:Nat}{o:Obj}(e:(h.set i (some o)) r=none):r≠i/\h r=none:=by
 have h1:r≠i:=fun b=>by rw [b,ag.cn] at e; cases e
 exact⟨h1,by rw [ag.bV _ _ h1] at e; exact e⟩
section
variable {P:Program}{ops:Array Oper}{rest:List Oper}{Q:St->Prop}{n:Nat}{ts:Ts}{ls:List (List D)}{h:ag}
theorem aS.lC (id:Nat){xs:List D}(i:List D) (hc:h id=some (.cells xs)) (k:∀j w cs,dY j w h->aR (aA j w) xs cs->aR (aA j w) i cs)
  (hw:aS P ops rest Q ⟨n,ts,ls,h.set id (some (.cells i))⟩):aS P ops rest Q ⟨n,ts,ls,h⟩:=by
 intro j w jl a f l hk;have hl:=f.hl;refine hw j w jl a ⟨f.defers,f.size,f.tmps,⟨hl.1.lC hc (k j w · hl.1),⟨hl.2.each,hl.2.nodup,fun b m g=>hl.2.apart b m ((Own.lC hc).1 g)⟩⟩⟩ l fun o j' w' p q hq r s=>hk o j' w' p q hq r (bC.trans ?_ s);exact { bC.refl j _ (Own j h jl) with own:=fun b _ g=>(Own.lC hc).1 g }
theorem aS.dX (i:Nat){xs:List D}(l:List D) (hc:ls[i]?=some xs) (o:∀j w cs,dY j w h->aR (aA j w) xs cs->aR (aA j w) l cs)
  (hw:aS P ops rest Q ⟨n,ts,ls.set i l,h⟩):aS P ops rest Q ⟨n,ts,ls,h⟩:=by
 intro j w jl a g;have hl:=g.hl;have p:aR (fun xs b=>ko j w b xs) (ls.set i l) jl:=by
  refine aR.l_ (by rw [List.length_set,hl.2.each.length]) fun k x b hx m=>?_;rw [List.getElem?_set] at hx
  split at hx
  ·rename_i e
   subst e
   split at hx
   ·simp only [Option.some.injEq] at hx; subst hx;obtain⟨q,f,cs,r,h1,s,t⟩:=hl.2.each.get hc;rw [m] at f; simp only [Option.some.injEq] at f; subst f;exact⟨cs,r,h1,o j w _ hl.1 s,t⟩
   ·cases hx
  ·obtain⟨q,f,h1⟩:=hl.2.each.get hx;rw [m] at f; simp only [Option.some.injEq] at f; subst f;exact h1
 exact hw j w jl a ⟨g.defers,g.size,g.tmps,⟨hl.1,⟨p,hl.2.nodup,hl.2.apart⟩⟩⟩
theorem aS.tok (k:Nat) (hw:∀t,h t=none->aS P ops rest Q ⟨n,ts,ls,h.set t (some (.tok k 0))⟩):aS P ops rest Q ⟨n,ts,ls,h⟩:=by
 intro j w jl a b g hk;obtain⟨h1,f⟩:=b.hl.dQ k;have l:=b.hl.1.kq (Nat.le_refl _);exact hw j.next l j.dQ w jl a ⟨b.defers,b.size,fun i=>(b.tmps i).mono f.toLe (Ext.refl _),h1⟩ g fun m j' w' o p hq q r=>hk m j' w' o p hq q (f.trans r)
theorem aS.fH (s k t:Nat){o:Obj}{f:Nat}(g:get ts s=.a (.d (.slice f none true []))) (ht:h t=some o)
  (hw:aS P ops rest Q ⟨n,(s,.a (.d (.slice k (some t) true [])))::ts,ls,h⟩):aS P ops rest Q ⟨n,ts,ls,h⟩:=by
 intro j w jl a b;refine hw j w jl a ⟨b.defers,b.size,fun i=>?_,b.hl⟩;by_cases e:s=i
 ·subst e;show aZ _ _ _ (get ((s,_)::ts) s) _;rw [fQ];have hv:aZ j w jl (get ts s) (a.tmps.getD s undef):=b.tmps s;rw [g] at hv;exact(lB.nil (k':=k) ht).rel b.hl.1 hv
 ·show aZ _ _ _ (get ((s,_)::ts) i) _;rw [fe _ _ e];exact b.tmps i
theorem aS.f_ (s:Nat){k:Nat}{tk:Option Nat}{nl:Bool}{rows:List (List D)}(f:get ts s=.a (.d (.slice k tk nl rows)))
  (hw:aS P ops rest Q ⟨n,(s,.a (.d (.slice k none nl rows)))::ts,ls,h⟩):aS P ops rest Q ⟨n,ts,ls,h⟩:=by
 intro j w jl a b;refine hw j w jl a ⟨b.defers,b.size,fun i=>?_,b.hl⟩;by_cases e:s=i
 ·subst e;show aZ _ _ _ (get ((s,_)::ts) s) _;rw [fQ];have hv:aZ j w jl (get ts s) (a.tmps.getD s undef):=b.tmps s;rw [f] at hv;exact Fh j w _ hv
 ·show aZ _ _ _ (get ((s,_)::ts) i) _;rw [fe _ _ e];exact b.tmps i
end
theorem tok_cell {j:J}{w:World}{h:ag}{t:Nat}{o:Obj}{xs:List D}{cs:List Value}(i k k':Nat) (hh:dY j w h) (ht:h t=some o) (hx:aR (aA j w) xs cs) (hi:xs[i]?=some (.slice k none true [])) :
  aR (aA j w) (xs.set i (.slice k' (some t) true [])) cs:=by
 refine aR.l_ (by rw [List.length_set,hx.length]) fun n x v hn hv=>?_;rw [List.getElem?_set] at hn
 split at hn
 ·rename_i e
  subst e
  split at hn
  ·simp only [Option.some.injEq] at hn; subst hn;obtain⟨f,b,hr⟩:=hx.get hi;rw [hv] at b; simp only [Option.some.injEq] at b; subst b;exact(lB.nil (k:=k) (k':=k') ht).rel hh (x:=.d (.slice k none true [])) hr
  ·cases hn
 ·obtain⟨f,b,hr⟩:=hx.get hn;rw [hv] at b; simp only [Option.some.injEq] at b; subst b;exact hr
theorem qY {j:J}{w:World}{xs:List D}{cs:List Value}(i:Nat){k:Nat}{tk:Option Nat}{nl:Bool}{rows:List (List D)}(hx:aR (aA j w) xs cs) (hi:xs[i]?=some (.slice k tk nl rows)) :
  aR (aA j w) (xs.set i (.slice k none nl rows)) cs:=by
 refine aR.l_ (by rw [List.length_set,hx.length]) fun n x v hn hv=>?_;rw [List.getElem?_set] at hn
 split at hn
 ·rename_i e
  subst e
  split at hn
  ·simp only [Option.some.injEq] at hn; subst hn;obtain⟨f,b,hr⟩:=hx.get hi;rw [hv] at b; simp only [Option.some.injEq] at b; subst b;exact Fh j w v hr
  ·cases hn
 ·obtain⟨f,b,hr⟩:=hx.get hn;rw [hv] at b; simp only [Option.some.injEq] at b; subst b;exact hr
def F0:Nat:=4611686018427387904
theorem wA {n:Nat}{ts ts':Ts}{ls aH:List (List D)}{h h':ag}(hk:aU ts aH.length ts':=by repeat (first|exact aU.nil|refine aU.c rfl rfl ?_|refine aU.c (by(first|(first|rfl|((conv=>lhs; whnf); first|(simp [cA,ze,zf,zg,Na.Nb,Nat.add_assoc,empty_append,Bool.and_assoc]; done)|(simp [cA,ze,zf,zg,Nat.add_assoc,empty_append,Bool.and_assoc]; repeat (first|rfl|constructor))))|rfl|(simp only [fQ,ev]; done)|(simp [*,cA]; done)|(show V.a (A.d (D.slice _ _ _ _))=V.a (A.d (D.slice _ _ _ _)); simp [*,cA]; done))) rfl ?_)) (hl:je aH ls:=by repeat (first|exact je.nil|apply je.cons)) (hh:h=h':=by first|rfl|(first|rfl|(simp only [ag.set_set,List.length_append,List.length_nil,List.length_cons,List.length_map,List.length_singleton,Nat.zero_add]; done)|(simp [ag.set_set,Nat.add_assoc]; done))|(((funext n; simp only [ag.set]; (repeat' split)<;>simp_all))<;>first|rfl|exact⟨rfl,rfl⟩)):cR ⟨n,ts,ls,h⟩ ⟨n,ts',aH,h'⟩:=cR.to hk hl hh
theorem cR.toFA {n:Nat}{ts ts':Ts}{ls aH:List (List D)}{h h':ag}(hh:∀id o,h' id=some o->h id=some o) (hk:aU ts aH.length ts':=by repeat (first|exact aU.nil|refine aU.c rfl rfl ?_|refine aU.c (by(first|(first|rfl|((conv=>lhs; whnf); first|(simp [cA,ze,zf,zg,Na.Nb,Nat.add_assoc,empty_append,Bool.and_assoc]; done)|(simp [cA,ze,zf,zg,Nat.add_assoc,empty_append,Bool.and_assoc]; repeat (first|rfl|constructor))))|rfl|(simp only [fQ,ev]; done)|(simp [*,cA]; done)|(show V.a (A.d (D.slice _ _ _ _))=V.a (A.d (D.slice _ _ _ _)); simp [*,cA]; done))) rfl ?_)) (hl:je aH ls:=by repeat (first|exact je.nil|apply je.cons)):cR ⟨n,ts,ls,h⟩ ⟨n,ts',aH,h'⟩:=cR.toF hk hl hh
theorem aJ {h:ag}{i:Nat}{o:Option Obj}(b:h i=o:=by(first|assumption|exact ag.cn _ _ _|((repeat (refine(ag.bV _ _ (by first|assumption|(apply Ne.symm; assumption))).trans ?_)); first|assumption|exact ag.cn _ _ _)|(simp only [ag.set_set,ag.cn]; done)|(simp [ag.set, *]; done))):h i=o:=b
theorem and_left {a b:Bool}(h:(a&&b)=true):a=true:=by cases a<;>simp_all
end Go.Ab
namespace Go.Ab
open Go Go.RowKit
variable {an:bf}
section
variable {P:Program}{ts:Ts}{ls aH:List (List D)}{h h':ag}{fx:Fx}{x:A}{dst:Option Tmp}{ty:TypeId}{pos:String}{aC:Array Edge}{g:Option (Nat×Bool)}
theorem aq.aI {o:Oper}{v:V}{k:Nat}{c:Bool}(hk:get ts k=.gd c x) (b:aq P o ((k,.a x)::ts) ls h fx v aH h') (hc:c=true:=by first|assumption|exact gE (by assumption)|exact gE (gE (by assumption))|exact gE (gE (gE (by assumption)))|exact y_ (by assumption)|simp_all):aq P o ts ls h fx v aH h':=aq.jd hk hc b
theorem aq.zh {o:Oper}{v:V}{k:Nat}{c:Bool}{i off:Nat}(hk:get ts k=.jC c i off) (b:aq P o ((k,.dI i off)::ts) ls h fx v aH h') (hc:c=true:=by first|assumption|exact gE (by assumption)|exact gE (gE (by assumption))|exact gE (gE (gE (by assumption)))|exact y_ (by assumption)|simp_all):aq P o ts ls h fx v aH h':=aq.MN hk hc b
theorem aq.gF {c y z:Operand}{b r f:Bool}(hc:ev ts c=.a (.d (.bool b))) (i:ev ts y=.gd f (.d (.bool r))) (j:ev ts z=.a (.d (.bool false))) (k:b=true->f=true:=by intro hh; first|exact hh|exact vt hh|exact qV (by assumption) hh|exact qV (by assumption) (vt hh)|simp_all) :
  aq P (mk dst (.pick c y z) ty pos aC g) ts ls h {} (.a (.d (.bool (b&&r)))) ls h:=aq.MO hc i k j
theorem aq.pM {c y z:Operand}{b r f:Bool}(hc:ev ts c=.a (.d (.bool b))) (i:ev ts y=.a (.d (.bool true))) (j:ev ts z=.gd f (.d (.bool r))) (k:b=false->f=true:=by intro hh; first|exact hh|exact vt hh|exact qV (by assumption) hh|exact qV (by assumption) (vt hh)|simp_all) :
  aq P (mk dst (.pick c y z) ty pos aC g) ts ls h {} (.a (.d (.bool (b||r)))) ls h:=aq.MP hc i j k
theorem aq.nK {x:Operand}{v:V}(hx:ev ts x=v:=by conv=>lhs; whnf):aq P (mk dst (.move x) ty pos aC g) ts ls h {} v ls h:=aq.move hx
theorem aq.Nc {x:Operand}{v:V}(hx:ev ts x=v:=by conv=>lhs; whnf):aq P (mk dst (.assign x) ty pos aC g) ts ls h {} v ls h:=aq.assign hx
theorem aq.Fm {t:TypeId}{b i:TI}{fs:List (Nat×TypeId)}{x:Operand}{f o:Nat}{xs j:List D}{l:TypeId}(m:aL P t=some b) (hk:b.k=.struct fs) (p:fs[f]?=some (o,l)) (q:aL P l=some i)
  (r:Nat.beq i.size 0=false) (hx:ev ts x=.a (.d (.view xs))) (s:xs.drop o=j:=by conv=>lhs; whnf):aq P (mk dst (.fieldAddr t x f) ty pos aC g) ts ls h {} (.a (.d (.view j))) ls h:=aq.Mj m hk p q r hx s
theorem dV.A {ts:Ts}{k:Nat}{v:V}{r:Ts}(t:dV ts r) (h:Ab.get ts k=v:=by conv=>lhs; whnf):dV ts ((k,v)::r):=dV.cons h t
theorem aq.Nf {e:TypeId}{b:TI}{z:A}{i:Nat}{aH:List (List D)}(f:aL P e=some b) (j:b.zero=some z) (k:bT (cA z) ls i aH:=by repeat (first|exact bT.nil|apply bT.cons)) :
  aq P (mk dst (.alloc e) ty pos aC g) ts ls h { wl:=true } (.dI i 0) aH h:=aq.Mu f j k
theorem aq.eA {t:TypeId}{b:TI}{x y:Operand}{i:Nat}{xs f:List D}{aH:List (List D)}(j:aL P t=some b) (hx:ev ts x=.dI i 0) (k:ev ts y=.a (.agg f)) (hl:ls[i]?=some xs)
  (l:f.length=b.size) (hle:xs.length=b.size) (m:dG f ls i aH:=by repeat (first|exact dG.zero|apply dG.succ)):aq P (mk none (.store t x y) ty pos aC g) ts ls h { wl:=true } .any aH h:=aq.Mw j hx k hl l hle m
theorem ah.bH {c:Code}{Q:Exit->St->Prop}{n:Nat}{ts':Ts}{aH:List (List D)}{xs:List D}(s i:Nat) (b:get ts s=.dI i 0) (hk:aU ts i ts') (hw:ah P c Q ⟨n,(s,.a (.d (.view xs)))::ts',aH,h⟩) (hl:bT xs aH i ls:=by repeat (first|exact bT.nil|apply bT.cons)):ah P c Q ⟨n,ts,ls,h⟩:=ah.freeze s i b hl hk hw
theorem ah.eB {c:Operand}{u v:Code}{Q:Exit->St->Prop}{σ:St}{b:Bool}{α:Type}{A B:Option α}{r:α}(f:(bif b then A else B)=some r) (hc:ev σ.ts c=.a (.d (.bool b))) (ht:b=true->A=some r->ah P u Q σ) (g:b=false->B=some r->ah P v Q σ):ah P (.cond c u v) Q σ :=
 ah.cond hc (fun h=>ht h (Go.Ab.py h f)) (fun h=>g h (Go.Ab.mg h f))
end
end Go.Ab
/-
 Slices that may be stored to: their object holds the rows; the slot tells the object and the length.
-/
namespace Go.Ab
open Go Go.RowKit
variable {an:bf}
variable {gv:eN}
theorem HL.Ng {j:J}{w:World}{jl:List Nat}{ls:List (List D)}{h:ag}(hl:HL j w jl ls h) (k:Nat) :
  HL j.dQ w jl ls (h.set j.next (some (.arr k [])))/\bC j w (Own j h jl) j.dQ w (Own j.dQ (h.set j.next (some (.arr k []))) jl):=by
 have hle:Le j w j.dQ w:=⟨by simp [J.dQ],fun _ _=>rfl,fun _=>Nat.le_refl _,fun _ _ _=>rfl,fun t ht=>.inl (by simp only [J.dQ]; rw [if_neg (by omega)])⟩;have hk:=hl.keep hle (fun _ _=>⟨rfl,rfl⟩) (fun id hid _=>by simp only [J.dQ]; rw [if_neg (by omega)]) hl.1.fresh;have g:∀b,bG j.dQ j.next (.arr k [])≠some b:=by intro b; simp [bG,J.dQ]
 have l:∀jl x,Own j.dQ (h.set j.next (some (.arr k []))) jl x->Own j.dQ h jl x:=by
  rintro jl x (hm|⟨n,q,hn,e⟩)
  ·exact .inl hm
  ·by_cases c:n=j.next
   ·subst c; rw [ag.cn] at hn; simp only [Option.some.injEq] at hn; subst hn;exact absurd e (g x)
   ·rw [ag.bV h _ c] at hn; exact .inr ⟨n,q,hn,e⟩
 refine⟨⟨⟨fun id o hi=>?_,fun m u p v x h1 f r s=>?_,hl.1.fresh⟩,⟨hk.1.2.each,hk.1.2.nodup,fun x hx i=>hk.1.2.apart x hx (l [] x i)⟩⟩,
  { (bC.refl j w (Own j h jl)) with toLe:=hle,frame:=fun _ _ _=>⟨rfl,rfl⟩,own:=fun b _ i=>(hk.2 b).1 (l jl b i) }⟩
 ·by_cases c:id=j.next
  ·subst c; rw [ag.cn] at hi; simp only [Option.some.injEq] at hi; subst hi;exact⟨by simp [J.dQ],none,by simp [J.dQ],⟨fun _=>rfl,fun _=>rfl⟩,by simp,by simp,by simp⟩
  ·rw [ag.bV h _ c] at hi; exact hk.1.1.obj id o hi
 ·by_cases c1:m=j.next
  ·subst c1; rw [ag.cn] at h1; simp only [Option.some.injEq] at h1; subst h1;exact absurd r (g x)
  ·by_cases c2:p=j.next
   ·subst c2; rw [ag.cn] at f; simp only [Option.some.injEq] at f; subst f;exact absurd s (g x)
   ·rw [ag.bV h _ c1] at h1; rw [ag.bV h _ c2] at f;exact hk.1.1.inj m u p v x h1 f r s
theorem HL.zi {j:J}{w w':World}{jl:List Nat}{ls:List (List D)}{h:ag}(hl:HL j w jl ls h){t k:Nat}{rows aT:List (List D)}(ht:h t=some (.arr k rows)) (hm:rows.length<aT.length)
  {b cap:Nat}{cs:List Value}{e:TypeId}(I:w'.heap[b]?=some (.cells cs.toArray e (0,0))) (O:cs.length=cap*k) (P:aT.length<=cap) (Q:∀r∈aT,r.length=k) (R:aT.length<=cF)
  (y:∀x,x≠b->x<w.heap.size->w'.heap[x]?=w.heap[x]?) (S:w.heap.size<=w'.heap.size) (af:w'.heap.size<=max w.heap.size (b+1))
  (m:w.heap.size<=b\/bG j t (.arr k rows)=some b)
  (U:∀j',Le j w j' w'->aR (aA j' w') aT.flatten (cs.take (aT.length*k)))
  (W:w'.os=w.os) (X:w'.tape=w.tape) (Y:fG w w') :
  HL (j.cD t ⟨some (b,cap),aT.length⟩ b 0) w' jl ls (h.set t (some (.arr k aT))) /\
   bC j w (Own j h jl) (j.cD t ⟨some (b,cap),aT.length⟩ b 0) w' (Own (j.cD t ⟨some (b,cap),aT.length⟩ b 0) (h.set t (some (.arr k aT))) jl):=by
 obtain⟨Z,dP,K,_,_,_,hblk⟩:=hl.1.obj t _ ht;have L:j.F b=0:=by
  rcases m with hc|hc
  ·exact hl.1.fresh b hc
  ·simp only [bG,K,Option.bind_some] at hc;cases dP with
   | none=>simp at hc
   | some aa =>
    obtain⟨ab,ad⟩:=aa;simp only [Option.map_some,Option.some.injEq] at hc;subst hc;obtain⟨_,_,_,_,ae,_⟩:=hblk _ _ rfl;exact ae
 have hle:Le j w (j.cD t ⟨some (b,cap),aT.length⟩ b (0)) w':=by
  refine⟨Nat.le_refl _,fun _ _=>rfl,fun x=>?_,fun x o i=>?_,fun x hx=>?_⟩
  ·simp only [J.cD]; split
   ·rename_i c; rw [c,L]; exact Nat.le_refl _
   ·exact Nat.le_refl _
  ·by_cases c:x=b
   ·subst c;rw [L] at i; omega
   ·refine ph (y x c ?_);rcases Nat.lt_or_ge x w.heap.size with h1|h1
    ·exact h1
    ·rw [hl.1.fresh x h1] at i; omega
  ·by_cases c:x=t
   ·subst c; exact .inr ⟨_,⟨some (b,cap),aT.length⟩,K,by simp [J.cD],hm⟩
   ·exact .inl (by simp [J.cD,c])
 -- the others' blocks are not b
 have z:∀n q x,h n=some q->n≠t->bG j n q=some x->x≠b:=fun n q x hn g hx c=>by
  subst c;rcases m with hc|hc
  ·have:=Own.lt hl (.inr ⟨n,q,hn,hx⟩); omega
  ·exact g (hl.1.inj n q t _ x hn ht hx hc)
 have G:∀x,x∈jl->x≠b:=fun x hx c=>by
  subst c;rcases m with hc|hc
  ·have:=Own.lt hl (.inl hx); omega
  ·exact hl.2.apart x hx (.inr ⟨t,_,ht,hc⟩)
 have B:∀x,x≠b->(j.cD t ⟨some (b,cap),aT.length⟩ b (0)).F x=j.F x:=fun x hx=>by simp [J.cD,hx]
 have l:∀n q,h n=some q->n≠t->fA (j.cD t ⟨some (b,cap),aT.length⟩ b (0)) w' n q/\bG (j.cD t ⟨some (b,cap),aT.length⟩ b (0)) n q=bG j n q:=fun n q hn g =>
  (hl.1.obj n q hn).2.keep hle (hl.1.obj n q hn).1 (fun x hx=>⟨y x (z n q x hn g hx) (Own.lt hl (.inr ⟨n,q,hn,hx⟩)),B x (z n q x hn g hx)⟩)
   (fun _=>by simp [J.cD,g])
 have H:bG (j.cD t ⟨some (b,cap),aT.length⟩ b (0)) t (.arr k aT)=some b:=by simp [bG,J.cD]
 have M:∀jl x,Own (j.cD t ⟨some (b,cap),aT.length⟩ b (0)) (h.set t (some (.arr k aT))) jl x->x=b\/Own j h jl x:=by
  rintro jl x (hx|⟨n,q,hn,hx⟩)
  ·exact .inr (.inl hx)
  ·by_cases c:n=t
   ·subst c; rw [ag.cn] at hn; simp only [Option.some.injEq] at hn; subst hn;rw [H] at hx; simp only [Option.some.injEq] at hx; exact .inl hx.symm
   ·rw [ag.bV h _ c] at hn;exact .inr (.inr ⟨n,q,hn,(l n q hn c).2▸hx⟩)
 refine⟨⟨⟨fun n q hn=>?_,fun p C s E x h1 f u v=>?_,fun x hx=>?_⟩,
  ⟨pe hl.2.each fun xs x hx h=>h.keep hle ⟨y x (G x hx) (Own.lt hl (.inl hx)),B x (G x hx)⟩,hl.2.nodup,fun x hx i=>?_⟩⟩, ?_⟩
 ·by_cases c:n=t
  ·subst c; rw [ag.cn] at hn; simp only [Option.some.injEq] at hn; subst hn;refine⟨Z,some (b,cap),by simp [J.cD],⟨by simp,fun e=>by rw [e] at hm; simp at hm⟩,Q,R,fun ab ad N=>?_⟩;simp only [Option.some.injEq,Prod.mk.injEq] at N;obtain⟨rfl,rfl⟩:=N;exact⟨cs,e,I,O,by simp [J.cD],P,U _ hle⟩
  ·rw [ag.bV h _ c] at hn;exact⟨(hl.1.obj n q hn).1,(l n q hn c).1⟩
 ·by_cases c1:p=t<;>by_cases c2:s=t
  ·omega
  ·subst c1; rw [ag.cn] at h1; simp only [Option.some.injEq] at h1; subst h1;rw [ag.bV h _ c2] at f;rw [H] at u; simp only [Option.some.injEq] at u;exact absurd u.symm (z s E x f c2 ((l s E f c2).2▸v))
  ·subst c2; rw [ag.cn] at f; simp only [Option.some.injEq] at f; subst f;rw [ag.bV h _ c1] at h1;rw [H] at v; simp only [Option.some.injEq] at v;exact absurd v.symm (z p C x h1 c1 ((l p C h1 c1).2▸u))
  ·rw [ag.bV h _ c1] at h1; rw [ag.bV h _ c2] at f;exact hl.1.inj p C s E x h1 f ((l p C h1 c1).2▸u) ((l s E f c2).2▸v)
 ·have ah:=fN I;rw [B x (by omega)];exact hl.1.fresh x (by omega)
 ·rcases M [] x i with c|c
  ·exact G x hx c
  ·exact hl.2.apart x hx c
 ·refine { toLe:=hle,size:=S,frame:=fun x hx hn=>?_,own:=fun x hx i=>?_,os:=W,tape:=X,output:=Y }
  ·have g:x≠b:=fun c=>by
    subst c;rcases m with hc|hc
    ·omega
    ·exact hn (.inr ⟨t,_,ht,hc⟩)
   exact⟨y x g hx,B x g⟩
  ·rcases M jl x i with c|c
   ·subst c;rcases m with hc|hc
    ·omega
    ·exact .inr ⟨t,_,ht,hc⟩
   ·exact c
theorem Nh {j:J}{w:World}{jl:List Nat}{k id:Nat}{nl:Bool}{len:Nat}{cv:Value}(h:aZ j w jl (.a (.d (.arr k id nl len))) cv):∃a cap,cv=.slice a len cap/\id<j.next/\tf j id nl len a cap:=by
 have h':aA j w (.arr k id nl len) cv:=h;cases h' with
 | arr _ _ _ _ a cap hid hv=>exact⟨a,cap,rfl,hid,hv⟩
theorem Fo {j:J}{w:World}{jl:List Nat}{id m off:Nat}{cv:Value}(h:aZ j w jl (.a (.d (.eY id m off))) cv) :
  ∃b,cv=.pointer (some ⟨b,off,none⟩)/\id<j.next/\∀tk,j.tok id=some tk->m<=tk.m/\(m=tk.m->∃c,tk.dP=some (b,c)):=by
 have h':aA j w (.eY id m off) cv:=h;cases h' with
 | eY _ _ _ b hid hv=>exact⟨b,rfl,hid,hv⟩
theorem HL.zj {j:J}{w:World}{jl:List Nat}{ls:List (List D)}{h:ag}(hl:HL j w jl ls h){k k' id n:Nat}{nl:Bool}{rows:List (List D)}(hi:h id=some (.arr k rows)) (hn:n=rows.length){cv:Value}
  (hx:aZ j w jl (.a (.d (.arr k' id nl n))) cv) :
  (∃a,cv=.slice a 0 0/\nl=a.isNone/\rows=[]/\j.tok id=some ⟨none,0⟩)\/∃b cap cs e,cv=.slice (some ⟨b,0,none⟩) rows.length cap/\nl=false/\j.tok id=some ⟨some (b,cap),rows.length⟩/\w.heap[b]?=some (.cells cs e (0,0)) /\
   cs.size=cap*k/\j.F b=0/\rows.length<=cap/\(∀r∈rows,r.length=k)/\aR (aA j w) rows.flatten (cs.toList.take (rows.length*k)):=by
 subst hn;obtain⟨a,cap,l,hid,hv⟩:=Nh hx;obtain⟨_,dP,f,m,o,p,hblk⟩:=hl.1.obj id _ hi;obtain⟨_,hv⟩:=hv _ f;rcases hv rfl with ⟨h1,g,i⟩|⟨b,h1,g,i⟩
 ·dsimp only at h1;subst h1 i;have:=m.1 rfl;subst this;exact .inl ⟨a,l,g,rfl,f⟩
 ·dsimp only at h1;subst h1 g;obtain⟨cs,e,g1,g2,g3,g4,g5⟩:=hblk _ _ rfl;exact .inr ⟨b,cap,cs.toArray,e,l,i,f,g1,by simpa using g2,g3,g4,o,by simpa using g5⟩
theorem Ni {rows:List (List D)}{k i o:Nat}{row:List D}(hk:∀r∈rows,r.length=k) (hr:rows[i]?=some row) (b:o<k):rows.flatten[i*k+o]?=row[o]?:=(iJ hk).2 i row hr o b
theorem Nj {rows:List (List D)}{k:Nat}(hk:∀r∈rows,r.length=k):∀{i o:Nat}{row:List D}{v:D},rows[i]?=some row->o<k->rows.flatten.set (i*k+o) v=(rows.set i (row.set o v)).flatten:=by
 induction rows with
 | nil=>intro i o row v hr; simp at hr
 | cons r rs b =>
  intro i o row v hr f;have g:r.length=k:=hk r (by simp);cases i with
  | zero =>
   simp at hr; subst hr;rw [Nat.zero_mul,Nat.zero_add,List.flatten_cons,List.set_append_left _ _ (by omega)]; rfl
  | succ i =>
   have:=b (fun x hx=>hk x (by simp [hx])) (i:=i) (o:=o) (v:=v) (by simpa using hr) f;rw [List.flatten_cons,Nat.succ_mul,List.set_append_right _ _ (by omega),show i*k+k+o-r.length=i*k+o by omega,this]; rfl
theorem Nk {rows:List (List D)}{k i:Nat}(hk:∀r∈rows,r.length=k):∀{o:Nat}{b row:List D},rows[i]?=some row->o+b.length<=k->cW rows.flatten (i*k+o) b=(rows.set i (cW row o b)).flatten:=by
 intro o b;induction b generalizing o rows with
 | nil =>
  intro row hr _;show rows.flatten=(rows.set i row).flatten
  congr 1
  refine List.ext_getElem? fun n=>?_;rw [List.getElem?_set]; split
  ·rename_i e; subst e; rw [hr]; simp [(List.getElem?_eq_some_iff.1 hr).1]
  ·rfl
 | cons v b f =>
  intro row hr g;simp only [List.length_cons] at g;have hi:=(List.getElem?_eq_some_iff.1 hr).1;rw [cW,Nj hk hr (by omega),Nat.add_assoc,f (rows:=rows.set i (row.set o v)) (row:=row.set o v) (fun r j=>?_) (by simp [hi]) (by omega)]
  ·rw [List.set_set]; rfl
  ·rcases List.mem_or_eq_of_mem_set j with h|h
   ·exact hk r h
   ·rw [h,List.length_set]; exact hk row (List.mem_of_getElem? hr)
theorem Fp {α:Type}:∀(l z:List α) (n:Nat) (r:List α),n+r.length<=l.length->cW (l++z) n r=cW l n r++z
 | _,_,_,[],_=>rfl
 | l,z,n,v::r,h=>by
  simp only [List.length_cons] at h;rw [cW,cW,List.set_append_left _ _ (by omega),Fp _ _ _ _ (by simp; omega)]
section
variable {P:Program}{ts:Ts}{ls:List (List D)}{h:ag}{dst:Option Tmp}{ty:TypeId}{pos:String}{aC:Array Edge}{g:Option (Nat×Bool)}{α:Type}{f:α->List D}
theorem aq.Nl {t e:TypeId}{o p:TI}{x ix:Operand}{u:IntKind}{n:Nat}{k id m:Nat}{nl:Bool}{l:List α}{y:α}(v:aL P t=some o) (hk:o.k=.slice e) (z:aL P e=some p)
  (hx:ev ts x=.a (.d (.arr k id nl m))) (hi:ev ts ix=.a (.d (.int u (n:Int)))) (B:k=p.size) (hh:h id=some (.arr k (l.map f))) (hm:m=l.length) (hr:l[n]?=some y) :
  aq P (mk dst (.indexAddr t x ix) ty pos aC g) ts ls h { rh:=true } (.a (.d (.eY id m (n*k)))) ls h :=
 kB.mh ⟨rfl,rfl,fun L H _ hH j w jl a hl q=>by
  have h1:=q x (by simp [Op.operands]);have r:=q ix (by simp [Op.operands]);rw [hx] at h1; rw [hi] at r;rw [hH rfl] at hl;subst hm;have bh:=(List.getElem?_eq_some_iff.1 hr).1;rcases hl.zj hh (by simp) h1 with ⟨_,_,_,s,_⟩|⟨b,cap,cs,ce,C,_,E,_⟩
  ·simp at s; subst s; simp at hr
  ·refine⟨.pointer (some ⟨b,n*k,none⟩), ?_,aA.eY id l.length (n*k) b (hl.1.obj id _ hh).1 fun tk i=>?_⟩
   ·simp [execOp,C,gj r,Instr.indexAt,asIntOf,ff (kD v hk),kz z,bh,<- B,add_plain]
   ·rw [E] at i; simp only [Option.some.injEq] at i; subst i;exact⟨by simp,fun _=>⟨cap,rfl⟩⟩⟩
theorem aq.Fs {t:TypeId}{f i:TI}{fs:List (Nat×TypeId)}{x:Operand}{fn o id m off:Nat}{l:TypeId}(q:aL P t=some f) (hk:f.k=.struct fs) (r:fs[fn]?=some (o,l)) (s:aL P l=some i)
  (p:Nat.beq i.size 0=false) (hx:ev ts x=.a (.d (.eY id m off))):aq P (mk dst (.fieldAddr t x fn) ty pos aC g) ts ls h {} (.a (.d (.eY id m (off+o)))) ls h :=
 aq.dN fun j w jl a u=>by
  have h1:=u x (by simp [Op.operands]);rw [hx] at h1;obtain⟨b,e,hi,hv⟩:=Fo h1;exact⟨.pointer (some ⟨b,off+o,none⟩),by simp [execOp,e,vk q hk r s (fun e=>by rw [e] at p; simp at p),add_plain],aA.eY _ _ _ _ hi hv⟩
theorem HL.Ft {j:J}{w:World}{jl:List Nat}{ls:List (List D)}{h:ag}(hl:HL j w jl ls h){k id off:Nat}{rows:List (List D)}(hi:h id=some (.arr k rows)){cv:Value}
  (hx:aZ j w jl (.a (.d (.eY id rows.length off))) cv) :
  ∃b cap cs e,cv=.pointer (some ⟨b,off,none⟩)/\j.tok id=some ⟨some (b,cap),rows.length⟩/\w.heap[b]?=some (.cells (cs:List Value).toArray e (0,0))/\cs.length=cap*k/\j.F b=0/\rows.length<=cap /\
   (∀r∈rows,r.length=k)/\aR (aA j w) rows.flatten (cs.take (rows.length*k))/\rows.length<=cF:=by
 obtain⟨b,i,hid,hv⟩:=Fo hx;obtain⟨_,dP,f,o,l,m,hblk⟩:=hl.1.obj id _ hi;obtain⟨_,hv⟩:=hv _ f;obtain⟨cap,g⟩:=hv rfl;dsimp only at g;subst g;obtain⟨cs,e,g1,g2,g3,g4,g5⟩:=hblk _ _ rfl;exact⟨b,cap,cs,e,i,f,g1,g2,g3,g4,l,g5,m⟩
theorem aq.Nn {t:TypeId}{r:TI}{x:Operand}{k id m off i o:Nat}{l:List α}{y:α}{v:A}(z:aL P t=some r) (hk:r.k.lz=false) (hx:ev ts x=.a (.d (.eY id m off)))
  (hh:h id=some (.arr k (l.map f))) (hm:m=l.length) (hr:l[i]?=some y) (B:off=i*k+o) (hv:kw r (f y) o=some v) :
  aq P (mk dst (.load t x) ty pos aC g) ts ls h { rh:=true } (.a v) ls h :=
 kB.mh ⟨rfl,rfl,fun L H _ hH j w jl a hl C=>by
  have h1:=C x (by simp [Op.operands]);rw [hx] at h1;rw [hH rfl] at hl;rw [hm,<- List.length_map f] at h1;obtain⟨b,cap,cs,ce,E,_,F,J,_,M,s,G,_⟩:=hl.Ft hh h1;have u:(l.map f)[i]?=some (f y):=by rw [List.getElem?_map,hr]; rfl
  have N:(f y).length=k:=s _ (List.mem_of_getElem? u);have hc:Cells j w b (i*k) (f y):=by
   intro n d hn;have O:=(List.getElem?_eq_some_iff.1 hn).1;have q:=Ni s u (o:=n) (by omega);rw [hn] at q;obtain⟨v,p,I⟩:=G.get q;refine⟨v, ?_,I⟩;rw [cell_of_row w b _ cs.toArray ce (0,0) F];rw [List.getElem?_take] at p; split at p
   ·simpa using p
   ·cases p
  obtain⟨cv,q,p⟩:=pE (P:=P) hc z (K.px hk) hv;exact⟨cv,by simp [execOp,Instr.loadAt,Instr.sureAddr,E,B,q],p⟩⟩
theorem aq.No {t:TypeId}{p:TI}{x y:Operand}{k id m off i o:Nat}{l:List α}{u u':α}{v:A}(Q:aL P t=some p) (hx:ev ts x=.a (.d (.eY id m off))) (R:ev ts y=.a v)
  (hh:h id=some (.arr k (l.map f))) (hm:m=l.length) (hr:l[i]?=some u) (S:off=i*k+o) (E:(cA v).length=p.size) (hle:o+p.size<=k) (hu:cW (f u) o (cA v)=f u') (aj:dst=none) :
  aq P (mk dst (.store t x y) ty pos aC g) ts ls h { wh:=true } .any ls (h.set id (some (.arr k ((l.set i u').map f)))):=by
 refine aq.of_run fun L H _ hH j w jl a hl F=>?_;have U:=hH rfl;subst U;have h1:=F x (by simp [Op.operands]);have s:=F y (by simp [Op.operands]);rw [hx] at h1; rw [R] at s;rw [hm,<- List.length_map f] at h1;obtain⟨b,cap,cs,ce,W,G,X,Y,z,I,B,J,Z⟩:=hl.Ft hh h1;have K:(l.map f)[i]?=some (f u):=by rw [List.getElem?_map,hr]; rfl
 have hi:=(List.getElem?_eq_some_iff.1 hr).1;have ak:i*k+k<=l.length*k:=by rw [<- Nat.succ_mul]; exact Nat.mul_le_mul_right _ hi
 have al:l.length*k<=cap*k:=Nat.mul_le_mul_right _ (by simpa using I);obtain⟨w',aa,C⟩:=tr (an:=an) (P:=P) (off:=off) X Q s E (by omega);have M:=C.le (j:=j) z;have ab:(a.eval y).cells.toList.length=p.size:=by have:=s.cells.length; rw [E] at this; exact this.symm
 have hblk:∀aT,bG j id (.arr k aT)=some b:=fun _=>by simp [bG,G]
 obtain⟨ad,ae⟩:=hl.setObj (o':=.arr k ((l.set i u').map f)) hh (hblk _) (hblk _) z C (by
  refine⟨some (b,cap),by simpa using G,⟨by simp,fun e=>by simp at e; subst e; simp at hr⟩,fun r af=>?_,by simpa using Z,fun am ao N=>?_⟩
  ·obtain⟨q,hq,rfl⟩:=List.mem_map.1 af;rcases List.mem_or_eq_of_mem_set hq with hq|hq
   ·exact B _ (List.mem_map.2 ⟨q,hq,rfl⟩)
   ·subst hq; rw [<- hu,qL]; exact B _ (List.mem_of_getElem? K)
  ·simp only [Option.some.injEq,Prod.mk.injEq] at N;obtain⟨rfl,rfl⟩:=N;refine⟨_,ce,C.here,by rw [qL]; exact Y,z,by simpa using I, ?_⟩;have ah:((l.set i u').map f).flatten=cW (l.map f).flatten (i*k+o) (cA v):=by
    rw [Nk B K (by omega),List.map_set,hu]
   rw [ah,List.length_map,List.length_set];have ai:cs=cs.take (l.length*k)++cs.drop (l.length*k):=(List.take_append_drop _ _).symm;have O:(cs.take (l.length*k)).length=l.length*k:=by rw [List.length_take]; omega
   have:(cW cs off (a.eval y).cells.toList).take (l.length*k)=cW (cs.take (l.length*k)) off (a.eval y).cells.toList:=by
    conv=>lhs; rw [ai]
    rw [Fp _ _ _ _ (by rw [O,ab]; omega)];rw [List.take_left' (by rw [qL,O])]
   rw [show _=(cW cs off (a.eval y).cells.toList) from rfl,this,S];rw [List.length_map] at J;exact(J.imp fun _ _ h=>h.mono M).cW _ (s.cells.imp fun _ _ h=>h.mono M))
 refine⟨.skip,w',undef,j,jl, ?_,.inr ⟨rfl,rfl⟩,trivial,ad,Ext.refl _,ae⟩;simp [execOp,Instr.storeAt,Instr.sureAddr,W,aa]
end
section
variable {P:Program}{ts:Ts}{ls:List (List D)}{h:ag}{dst:Option Tmp}{ty:TypeId}{pos:String}{aC:Array Edge}{g:Option (Nat×Bool)}{α:Type}{f:α->List D}
theorem aq.Np {t u e:TypeId}{au ae l:TI}{x y:Operand}{id k k' m:Nat}{tok':Option Nat}{nl av:Bool}{rows aT:List (List D)}{z:A}(aO:aL P t=some au) (hk:au.k=.slice e) (aP:aL P e=some l) (aQ:aL P u=some ae) (aR:(∃e,ae.k=.slice e)\/ae.k=.str)
  (aS:l.zero=some z) (aV:(cA z).length=l.size)
  (hx:ev ts x=.a (.d (.arr k id nl m))) (aW:ev ts y=.a (.d (.slice k' tok' av aT))) (q:k=l.size) (aX:k'=l.size\/aT=[])
  (f:h id=some (.arr k rows)) (hm:m=rows.length) (aw:(rows.length+aT.length)*l.bytes<=cF) (hlen:rows.length+aT.length<=cF) :
  aq P (mk dst (.call { callee:=.builtin .append,args:=#[x,y],argTypes:=#[t,u] }) ty pos aC g) ts ls h { rh:=true,wh:=true }
   (.a (.d (.arr k id (nl&&aT.isEmpty) (rows.length+aT.length)))) ls (h.set id (some (.arr k (rows++aT)))):=by
 refine aq.of_run fun L H _ hH j w jl a hl ax=>?_;have aY:=hH rfl;subst aY hm;have h1:aZ j w jl (.a (.d (.arr k id nl rows.length))) (a.eval x):=by have:=ax x (by simp [Op.operands,Call.operands]); rw [hx] at this; exact this
 have af:aA j w (.slice k' tok' av aT) (a.eval y):=by have:=ax y (by simp [Op.operands,Call.operands]); rw [aW] at this; exact this
 obtain⟨ba,bb,M,_,G,ay,_,az⟩:=fS aP;rw [aS] at az;obtain⟨zv,aB,a0⟩:=nF az;have aD:zv.cells.size=l.size:=by have:=(a0 j w).cells.length; rw [aV] at this; simpa using this.symm
 obtain⟨du,hu,N⟩:=E3 aQ aR;have ht:=kD aO hk;have Y:∀r∈aT,r.length=l.size:=by
  obtain⟨_,_,_,_,_,_,_,hh,_⟩:=kC (jl:=jl) af;rcases aX with e|e
  ·rw [<- e]; exact hh
  ·rw [e]; simp
 obtain⟨news,U,O⟩:=y5 (P:=P) af Y;have Q:=E1 af P w;have a1:=(iJ Y).1;have s:news.length=aT.length*l.size:=by rw [<- U.length,a1]
 have W:∀(v:Value) (w':World),(Builtin.append_ #[t,u] ty #[a.eval x,a.eval y]).run P w=.ok v w' ->
   (execOp a.eval (mk dst (.call { callee:=.builtin .append,args:=#[x,y],argTypes:=#[t,u] }) ty pos aC g)).run P w=.ok (.value v) w':=fun v w' hr=>by
  simp [execOp,resolve,invoke,builtin,hr]
 have o:(rows++aT).length=rows.length+aT.length:=by simp
 have bc:cF=140737488355328:=rfl;have ah:=(hl.1.obj id _ f).1;rcases hl.zj f rfl h1 with ⟨base,R,aE,a2,aF⟩|⟨b,cap,B,ce,R,aE,aF,aG,Z,bd,a3,aH,ai⟩
 ·-- nil so far
  subst a2;by_cases S:aT=[]
  ·subst S;have aj:news=[]:=List.eq_nil_of_length_eq_zero (by simpa using s);subst aj;have p:(Builtin.append_ #[t,u] ty #[a.eval x,a.eval y]).run P w=.ok (a.eval x) w:=by
    rw [R];cases base with
    | none=>exact E0 ht hu N M (by simpa using Q) (by rw [G]; simpa using O w (fun _ _ _=>rfl))
    | some a4 =>
     have:=tC (P:=P) (ty:=ty) (sCap:=0) (sLen:=0) (m:=0) (a:=a4) (news:=[]) (w':=w) ht hu N M (by simpa using Q) (by rw [G]; simpa using O w (fun _ _ _=>rfl)) (by omega) (by simp [storeCells])
     simpa using this
   refine⟨_,w,a.eval x,j,jl,W _ _ p,.inl rfl, ?_, ?_,Ext.refl _, ?_⟩
   ·simpa using h1
   ·simp only [List.isEmpty_nil,Bool.and_true,List.append_nil,cond_true];rw [ag.nB H id _ f]; exact hl
   ·simp only [List.isEmpty_nil,Bool.and_true,List.append_nil,cond_true];rw [ag.nB H id _ f]; exact bC.refl _ _ _
  ·have aI:0<aT.length:=List.length_pos_iff.2 S;have a5:(nl&&aT.isEmpty)=false:=by cases aT with|nil=>exact absurd rfl S|cons _ _=>simp
   rw [a5];have p:=yZ (P:=P) (ty:=ty) (w:=w) (base:=base) (sLen:=0) (sCap:=0) (m:=aT.length) (x:=a.eval y) (olds:=[]) (news:=news) ht hu N M aB Q
    (by cases base<;>simp [Builtin.firstCells,loadCells,loadCellsFrom]) (by rw [G]; exact O w.drew fun _ _ _=>rfl) (by omega) (by simp at hlen; omega) (growslice_fits (by omega) (by rw [ay]; simpa [cF] using aw))
   rw [<- R] at p;generalize ak:grownCap w (0+aT.length) 0 e=E at p;have al:aT.length<=E:=by rw [<- ak]; have:=grownCap_ge w (0+aT.length) 0 e; omega
   generalize X:[]++news++(Builtin.zeroCells zv.cells (E-(0+aT.length))).toList=F at p;have am:F.length=E*l.size:=by
    rw [<- X];simp only [List.nil_append,List.length_append,s,Array.length_toList,size_zeroCells,aD,<- Nat.add_mul]
    congr 1; omega
   have ao:=heap_alloc_new w.drew (.cells F.toArray e);obtain⟨K,C⟩:=hl.drew.zi (w':=w.drew.alloc (.cells F.toArray e)) (aT:=[]++aT) f (by simpa using aI) (b:=w.heap.size) (cap:=E) ao (by rw [q]; exact am) (by simpa using al) (by simpa [q] using Y) (by simpa using hlen)
    (fun x hx bh=>pg bh) (by simp) (by simp) (.inl (Nat.le_refl _)) (fun j' hle=>by
     have ap:F.take (aT.length*k)=news:=by rw [<- X,List.nil_append,q,List.take_left' (by rw [s])]
     rw [List.nil_append,ap];exact U.imp fun _ _ h=>(h.mono ((bC.drew j w (fun _=>False)).toLe)).mono hle) rfl rfl fG.rfl
   refine⟨_,_,_,_,jl,W _ _ p,.inl rfl, ?_,K,Ext.refl _,(bC.drew j w _).trans C⟩;refine aA.arr _ _ _ _ _ _ (Nat.lt_of_lt_of_le ah C.toLe.next) fun tk f=>?_;simp only [J.cD,if_true,Option.some.injEq] at f;subst f;exact⟨by simp,fun _=>.inr ⟨_,rfl,rfl,rfl⟩⟩
 ·have be:=(iJ aH).1;subst aE;rw [Bool.false_and];by_cases S:aT=[]
  ·subst S;have aj:news=[]:=List.eq_nil_of_length_eq_zero (by simpa using s);subst aj;have p:(Builtin.append_ #[t,u] ty #[a.eval x,a.eval y]).run P w=.ok (a.eval x) w:=by
    rw [R];have:=tC (P:=P) (ty:=ty) (sCap:=cap) (sLen:=rows.length) (m:=0) (a:=⟨b,0,none⟩) (news:=[]) (w':=w) ht hu N M (by simpa using Q) (by rw [G]; simpa using O w (fun _ _ _=>rfl)) (by omega) (by simp [storeCells])
    simpa using this
   refine⟨_,w,a.eval x,j,jl,W _ _ p,.inl rfl, ?_, ?_,Ext.refl _, ?_⟩
   ·simpa using h1
   ·simp only [List.append_nil,cond_true];rw [ag.nB H id _ f]; exact hl
   ·simp only [List.append_nil,cond_true];rw [ag.nB H id _ f]; exact bC.refl _ _ _
  ·have aI:0<aT.length:=List.length_pos_iff.2 S;have aK:∀r∈rows++aT,r.length=k:=fun r hr=>(List.mem_append.1 hr).elim (aH r) (fun h=>by rw [q]; exact Y r h);by_cases aa:rows.length+aT.length<=cap
   ·-- in place
    have a6:w.heap[b]?=some (.cells B.toList.toArray ce (0,0)):=by simpa using aG
    obtain⟨w',a7,I⟩:=vi (an:=an) (P:=P) (off:=rows.length*l.size) news 0 B.toList w a6 (by
     rw [s]; simp only [Array.length_toList,Z]; rw [Nat.add_zero,<- Nat.add_mul,q]; exact Nat.mul_le_mul_right _ aa) (yR U)
    rw [Nat.add_zero] at I;have p:(Builtin.append_ #[t,u] ty #[a.eval x,a.eval y]).run P w=.ok (.slice (some ⟨b,0,none⟩) (rows.length+aT.length) cap) w':=by
     rw [R];exact tC ht hu N M Q (by rw [G]; exact O w fun _ _ _=>rfl) aa (by rw [add_plain,G,Nat.zero_add]; exact a7)
    have a8:bG j id (.arr k rows)=some b:=by simp [bG,aF]
    have ab:(rows++aT).length*k<=B.toList.length:=by
     rw [o]; simp only [Array.length_toList,Z]; exact Nat.mul_le_mul_right _ aa
    obtain⟨K,C⟩:=hl.zi (w':=w') (aT:=rows++aT) f (by rw [o]; omega) (b:=b) (cap:=cap) I.here (by simp [qL,Z]) (by rw [o]; exact aa) aK (by rw [o]; exact hlen) (fun x hx _=>I.other x hx)
     (by rw [I.size]; exact Nat.le_refl _) (by rw [I.size]; omega) (.inr a8) (fun j' hle=>by
      rw [List.flatten_append];have a9:(cW B.toList (rows.length*l.size) news).take ((rows++aT).length*k)=B.toList.take (rows.length*k)++news:=by
       refine List.ext_getElem? fun i=>?_;rw [List.getElem?_take];by_cases hi:i<rows.length*k
       ·rw [if_pos (by rw [o,Nat.add_mul]; omega),tB _ _ _ _ (by rw [<- q]; exact hi),List.getElem?_append_left (by rw [List.length_take]; simp only [o,Nat.add_mul] at ab; omega),List.getElem?_take,if_pos hi]
       ·rw [List.getElem?_append_right (by rw [List.length_take]; omega)];have bh:(B.toList.take (rows.length*k)).length=rows.length*k:=by rw [List.length_take]; simp only [o,Nat.add_mul] at ab; omega
        rw [bh];by_cases ad:i<(rows++aT).length*k
        ·rw [if_pos ad];have aM:i-rows.length*k<news.length:=by rw [s,<- q]; rw [o,Nat.add_mul] at ad; omega
         have:=vp B.toList (rows.length*l.size) news (i-rows.length*k) _ (List.getElem?_eq_getElem aM) (by rw [s,<- q]; simp only [o,Nat.add_mul] at ab; exact ab);rw [<- q,show rows.length*k+(i-rows.length*k)=i by omega] at this;rw [<- q,this,List.getElem?_eq_getElem aM]
        ·rw [if_neg ad]
         symm; apply List.getElem?_eq_none; rw [s,<- q]; rw [o,Nat.add_mul] at ad; omega
      rw [a9];exact(ai.imp fun _ _ h=>h.mono hle).append (U.imp fun _ _ h=>h.mono hle)) I.os I.tape I.output
    rw [o] at C K;refine⟨_,w',_,_,jl,W _ _ p,.inl rfl, ?_,K,Ext.refl _,C⟩;refine aA.arr _ _ _ _ _ _ (Nat.lt_of_lt_of_le ah C.toLe.next) fun tk f=>?_;simp only [J.cD,if_true,Option.some.injEq] at f;subst f;exact⟨Nat.le_refl _,fun _=>.inr ⟨_,rfl,rfl,rfl⟩⟩
   ·-- a new array
    obtain⟨olds,holds,ar⟩:∃olds,olds=B.toList.take (rows.length*k)/\olds.length=rows.length*l.size:=⟨_,rfl,by
     have a_:B.toList.length=cap*k:=by simpa using Z
     have:=Nat.mul_le_mul_right k a3;rw [List.length_take,a_,<- q];omega⟩
    rw [<- holds] at ai;have a':(Builtin.firstCells l.size rows.length (.slice (some ⟨b,0,none⟩) rows.length cap)).run P w.drew=.ok olds.toArray w.drew:=by
     rw [Builtin.firstCells,<- ar];exact run_loadCells_list w.drew _ olds fun n v hv=>by
      rw [add_plain,Nat.zero_add];have:w.drew.cell? ⟨b,n,none⟩=w.cell? ⟨b,n,none⟩:=rfl;rw [this,cell_of_row w b n B ce (0,0) aG];rw [holds,List.getElem?_take] at hv
      split at hv
      ·simpa using hv
      ·cases hv
    have p:=yZ (P:=P) (ty:=ty) (w:=w) (base:=some ⟨b,0,none⟩) (sLen:=rows.length) (sCap:=cap) (m:=aT.length) (x:=a.eval y) (olds:=olds) (news:=news) ht hu N M aB Q
     (by rw [G]; exact a') (by rw [G]; exact O w.drew fun _ _ _=>rfl) (by omega) (by omega) (growslice_fits (by omega) (by rw [ay]; exact aw))
    rw [<- R] at p;generalize ak:grownCap w (rows.length+aT.length) cap e=E at p;have al:rows.length+aT.length<=E:=by rw [<- ak]; exact grownCap_ge _ _ _ _
    generalize X:olds++news++(Builtin.zeroCells zv.cells (E-(rows.length+aT.length))).toList=F at p;have am:F.length=E*l.size:=by
     rw [<- X];simp only [List.length_append,ar,s,Array.length_toList,size_zeroCells,aD,<- Nat.add_mul]
     congr 1; omega
    have ao:=heap_alloc_new w.drew (.cells F.toArray e);obtain⟨K,C⟩:=hl.drew.zi (w':=w.drew.alloc (.cells F.toArray e)) (aT:=rows++aT) f (by rw [o]; omega) (b:=w.heap.size) (cap:=E) ao (by rw [q]; exact am) (by rw [o]; exact al) aK (by rw [o]; exact hlen)
     (fun x hx bh=>pg bh) (by simp) (by simp) (.inl (Nat.le_refl _)) (fun j' hle=>by
      have ap:F.take ((rows++aT).length*k)=olds++news:=by rw [<- X,List.take_left' (by rw [List.length_append,ar,s,o,q,Nat.add_mul])]
      rw [ap,List.flatten_append];have aN:=(bC.drew j w (fun _=>False)).toLe;exact(ai.imp fun _ _ h=>(h.mono aN).mono hle).append (U.imp fun _ _ h=>(h.mono aN).mono hle)) rfl rfl fG.rfl
    rw [o] at C K;refine⟨_,_,_,_,jl,W _ _ p,.inl rfl, ?_,K,Ext.refl _,(bC.drew j w _).trans C⟩;refine aA.arr _ _ _ _ _ _ (Nat.lt_of_lt_of_le ah C.toLe.next) fun tk f=>?_;simp only [J.cD,if_true,Option.some.injEq] at f;subst f;exact⟨Nat.le_refl _,fun _=>.inr ⟨_,rfl,rfl,rfl⟩⟩
end
section
variable {P:Program}{ts:Ts}{ls:List (List D)}{h:ag}{dst:Option Tmp}{ty:TypeId}{pos:String}{aC:Array Edge}{g:Option (Nat×Bool)}{α:Type}{f:α->List D}
theorem aq.Nq {t u e:TypeId}{i j b:TI}{x y:Operand}{id k k' m:Nat}{nl:Bool}{tok':Option Nat}{s r v:Sl α}{z:A}(o:aL P t=some i) (hk:i.k=.slice e) (p:aL P e=some b) (q:aL P u=some j) (w:∃e,j.k=.slice e)
  (B:b.zero=some z) (C:(cA z).length=b.size) (hx:ev ts x=.a (.d (.arr k id nl m))) (E:ev ts y=.a (.d (r.d k' f tok'))) (F:k=b.size) (G:k'=b.size)
  (H:h id=some (.arr k (s.l.map f))) (hm:m=s.l.length) (I:nl=s.nl) (hr:bp b.bytes s r=some v) :
  aq P (mk dst (.call { callee:=.builtin .append,args:=#[x,y],argTypes:=#[t,u] }) ty pos aC g) ts ls h { rh:=true,wh:=true } (.a (.d (.arr k id v.nl v.l.length))) ls (h.set id (some (.arr k (v.l.map f)))):=by
 obtain⟨e,h1,J⟩:=pK hr;subst e I;have:=aq.Np (an:=an) (P:=P) (dst:=dst) (ty:=ty) (pos:=pos) (aC:=aC) (g:=g) (ls:=ls) o hk p q (.inl w) B C hx E F (.inl G) H (by simpa using hm) (by simpa using h1) (by simpa using J);simp only [List.length_map,List.isEmpty_map] at this;rw [<- List.map_append] at this
 simpa using this
theorem HL.bH {j:J}{w:World}{jl:List Nat}{ls:List (List D)}{h:ag}(hl:HL j w jl ls h){k k' id:Nat}{nl:Bool}{rows:List (List D)}(hi:h id=some (.arr k rows)){cv:Value}
  (hx:aZ j w jl (.a (.d (.arr k' id nl rows.length))) cv) :
  ∃j',HL j' w jl ls (h.set id none)/\bC j w (Own j h jl) j' w (Own j' (h.set id none) jl)/\aA j' w (.slice k none nl rows) cv:=by
 obtain⟨l,m⟩:=hl.forget (h':=h.set id none) fun n o hn=>by
  by_cases c:n=id
  ·subst c; rw [ag.cn] at hn; cases hn
  ·rwa [ag.bV h _ c] at hn
 have p:rows.length<=cF:=by obtain⟨_,_,_,_,_,p,_⟩:=hl.1.obj id _ hi; exact p
 rcases hl.zj hi rfl hx with ⟨base,q,r,C,y⟩|⟨b,cap,E,ce,q,r,y,z,Q,G,H,I,K⟩
 ·subst q r C;cases base with
  | none=>exact⟨j,l,m,.eU _ _ (by simp)⟩
  | some L=>exact⟨j,l,m,.slice k none [] L 0 (fun _=>undef) (by simp) (by simp) (by simp) ⟨.inl rfl,by simp⟩ (by simp) (fun t ht=>by cases ht)⟩
 ·subst q r;have bh:=fN z;have hblk:bG j id (.arr k rows)=some b:=by simp [bG,y]
  have M:¬Own j (h.set id none) jl b:=by
   rintro (hm|⟨n,o,h1,N⟩)
   ·exact hl.2.apart b hm (.inr ⟨id,_,hi,hblk⟩)
   ·have c:n≠id:=fun c=>by subst c; rw [ag.cn] at h1; cases h1
    rw [ag.bV h _ c] at h1;exact c (hl.1.inj n o id _ b h1 hi N hblk)
  have hle:Le j w (j.eZ b (rows.length*k)) w:=⟨Nat.le_refl _,fun _ _=>rfl,fun f=>by
   simp only [J.eZ]
   split
   ·rename_i e; rw [e,G]; exact Nat.zero_le _
   ·exact Nat.le_refl _,fun _ _ _=>rfl,fun _ _=>.inl rfl⟩
  have s:∀f,f≠b->(j.eZ b (rows.length*k)).F f=j.F f:=fun f O=>by simp only [J.eZ]; rw [if_neg O]
  have B:=l.keep hle (fun f g=>⟨rfl,s f (fun e=>M (e▸g))⟩) (fun _ _ _=>rfl) (fun f u=>by rw [s f (by omega)]; exact hl.1.fresh f u);refine⟨j.eZ b (rows.length*k),B.1,{ toLe:=hle,size:=Nat.le_refl _,frame:=fun f _ g=>⟨rfl,s f fun e=>g (e▸.inr ⟨id,_,hi,hblk⟩)⟩,own:=fun f u g=>m.own f u ((B.2 f).1 g),os:=rfl,tape:=rfl,output:=fG.rfl }, ?_⟩;refine qQ I p H (fun i x hx=>?_) fun t ht=>by cases ht
  obtain⟨v,hv,hr⟩:=K.get hx;have P:i<rows.length*k:=by
   rcases Nat.lt_or_ge i (rows.length*k) with h|h
   ·exact h
   ·rw [List.getElem?_take,if_neg (by omega)] at hv; cases hv
  refine⟨by simp only [J.eZ,if_true]; omega,v, ?_,hr.mono hle⟩;rw [Nat.zero_add,cell_of_row w b i E ce (0,0) z];rw [List.getElem?_take,if_pos P] at hv
  simpa using hv
variable {c:Code}{Q:Exit->St->Prop}{n:Nat}{ops:Array Oper}{rest:List Oper}{Q':St->Prop}
theorem dD.zk {j:J}{w:World}{jl:List Nat}{a:Act}(s id:Nat){k k' m:Nat}{nl:Bool}{rows:List (List D)}(g:get ts s=.a (.d (.arr k' id nl m))) (hi:h id=some (.arr k rows)) (hm:m=rows.length)
  (b:dD j w jl ⟨n,ts,ls,h⟩ a):∃j',dD j' w jl ⟨n,(s,.a (.d (.slice k none nl rows)))::ts,ls,h.set id none⟩ a/\bC j w (Own j h jl) j' w (Own j' (h.set id none) jl):=by
 have hv:aZ j w jl (get ts s) (a.tmps.getD s undef):=b.tmps s;rw [g,hm] at hv;obtain⟨j',h1,f,l⟩:=HL.bH b.hl hi hv;refine⟨j',⟨b.defers,b.size,fun i=>?_,h1⟩,f⟩;by_cases e:s=i
 ·subst e;show aZ _ _ _ (get ((s,_)::ts) s) _;rw [fQ]; exact l
 ·show aZ _ _ _ (get ((s,_)::ts) i) _;rw [fe _ _ e];exact(b.tmps i).mono f.toLe (Ext.refl _)
theorem ah.zk (s id:Nat){k k' m:Nat}{nl:Bool}{rows:List (List D)}(b:get ts s=.a (.d (.arr k' id nl m))) (hi:h id=some (.arr k rows)) (hm:m=rows.length)
  (hw:ah P c Q ⟨n,(s,.a (.d (.slice k none nl rows)))::ts,ls,h.set id none⟩):ah P c Q ⟨n,ts,ls,h⟩:=by
 intro j w jl a f;obtain⟨j',h1,g⟩:=dD.zk s id b hi hm f;exact wp_mono (hw j' w jl a h1) fun e a w hq=>AQ.trans g hq
theorem ah.Nr (k:Nat) (hw:∀t,h t=none->ah P c Q ⟨n,ts,ls,h.set t (some (.arr k []))⟩):ah P c Q ⟨n,ts,ls,h⟩:=by
 intro j w jl a b;obtain⟨h1,f⟩:=b.hl.Ng k;have g:=b.hl.1.kq (Nat.le_refl _);refine wp_mono (hw j.next g j.dQ w jl a ⟨b.defers,b.size,fun i=>(b.tmps i).mono f.toLe (Ext.refl _),h1⟩) fun e a w hq=>AQ.trans f hq
theorem Ns {j:J}{w:World}{h:ag}{t k f g:Nat}(hh:dY j w h) (ht:h t=some (.arr k [])){cv:Value}(hx:aA j w (.slice f none true []) cv):aA j w (.arr g t true 0) cv:=by
 cases hx;obtain⟨h0,dP,h1,i,_⟩:=hh.obj _ _ ht;have l:=i.2 rfl;refine .arr _ _ _ _ _ _ h0 fun tk b=>?_;rw [h1] at b; simp only [Option.some.injEq] at b; subst b;exact⟨by simp,fun _=>.inl ⟨l,rfl,rfl⟩⟩
theorem aq.Fu {t e:TypeId}{b i:TI}{x ix:Operand}{j:IntKind}{z:Int}{k id m:Nat}{nl:Bool}{l:List α}{y:α}(o:aL P t=some b) (hk:b.k=.slice e) (p:aL P e=some i)
  (hx:ev ts x=.a (.d (.arr k id nl m))) (hi:ev ts ix=.a (.d (.int j z))) (q:k=i.size) (hh:h id=some (.arr k (l.map f))) (hm:m=l.length) (hr:cq l z=some y) :
  aq P (mk dst (.indexAddr t x ix) ty pos aC g) ts ls h { rh:=true } (.a (.d (.eY id m (z.toNat*k)))) ls h:=by
 obtain⟨h1,r⟩:=za hr;exact aq.Nl o hk p hx (by rw [hi,Int.toNat_of_nonneg h1]) q hh hm r
end
end Go.Ab
/-
 A function that lays one deferred call and returns: the deferred closure is called behind the body,then the results are read. No program text.
-/
namespace Go.Ab
open Go Go.RowKit
variable {an:bf}
theorem vA {j:J}{w:World}{h:ag}{fn:Func}{n:Nat}(hn:fn.ntmps=n){args:List A}{dJ:List Value}(hl:Nat.ble args.length n=true) (hr:dY j w h) (b:aR (cT j w) args dJ) :
  dD j w [] ⟨n,pz 0 args,[],h⟩ { tmps:=dJ.toArray++Array.replicate (fn.ntmps-dJ.toArray.size) undef,defers:=[] }:=by
 subst hn;have hl:=Nat.le_of_ble_eq_true hl;have hlen:=b.length;refine⟨rfl,by simp; omega,fun t=>?_,⟨hr,⟨.nil,by simp,by simp⟩⟩⟩;refine yP (fun t=>(dJ.toArray++Array.replicate (fn.ntmps-dJ.toArray.size) undef).getD t undef) 0 args dJ b (fun i v hv=>?_) t;rw [Nat.zero_add,Array.getD_eq_getD_getElem?,Array.getElem?_append];have:i<dJ.length:=(List.getElem?_eq_some_iff.1 hv).1;simp [this]
 exact(List.getElem?_eq_some_iff.1 hv).2
section
variable {P:Program}{M:St->Prop}{σ:St}{Y:Code}
end
end Go.Ab
namespace Go.Ab
open Go Go.RowKit
variable {an:bf}
end Go.Ab
namespace Go.Ab
variable {an:bf}
end Go.Ab
/-
 Arrays that are built at once and then only read.
-/
namespace Go.Ab
open Go Go.RowKit
variable {an:bf}
section
variable {P:Program}{T:List TI}{ts:Ts}{ls:List (List D)}{h:ag}{dst:Option Tmp}{ty:TypeId}{pos:String}{aC:Array Edge}{g:Option (Nat×Bool)}
end
end Go.Ab
/-
 Scopes: code that no jump leaves.
-/
namespace Go.Ab
open Go Go.RowKit
variable {an:bf}
def Fw (Q:Exit->St->Prop):Exit->St->Prop
 | .goto _,_=>False
 | e,σ=>Q e σ
theorem ah.scope [eN] {P:Program}{Q:Exit->St->Prop}{σ:St}{c:Code}(h:ah P c (Fw Q) σ):ah P (.scope c) Q σ:=fun j w jl a b =>
 wp_scope_straight (wp_mono (h j w jl a b) fun e g w' hq=>by
  cases e with
  | goto l=>obtain⟨_,_,_,f,_⟩:=hq; exact f.elim
  | normal=>exact hq
  | exit id=>exact hq
  | ret=>exact hq
  | panic i=>exact hq
  | outgrown=>exact hq)
theorem Nt {Q:Exit->St->Prop}{σ:St}(h:Q .ret σ):Fw Q .ret σ:=h
end Go.Ab
/-
 Ranging over a set of strings: the map as it is,the iterator,its steps,delete.
-/
namespace Go.Ab
open Go Go.RowKit
variable {an:bf}{gv:eN}
def mE (p:List (List UInt8×Nat)):List MapEntry:=p.map fun x=>⟨.string ⟨x.1.toArray⟩,.bool true,x.2⟩
structure mo (l:List (List UInt8)) (p:List (List UInt8×Nat)) (bA:Nat):Prop where
 keys:p.map (·.1)=l
 nodup:(p.map (·.2)).Nodup
 zl:l.Nodup
 lt:∀x∈p,x.2<bA
 len:∀s∈l,s.length<=eH
theorem Fy {p:List (List UInt8×Nat)}(h:((mE p).map (·.key)).Nodup):(p.map (·.1)).Nodup:=by
 have:(mE p).map (·.key)=(p.map (·.1)).map fun s=>Value.string ⟨s.toArray⟩:=by simp [mE,Function.comp_def]
 rw [this] at h;rw [List.nodup_iff_pairwise_ne,List.pairwise_map] at h;rw [List.nodup_iff_pairwise_ne];exact h.imp fun b e=>b (by rw [e])
theorem nodup_keys {p:List (List UInt8×Nat)}(h:(p.map (·.1)).Nodup):((mE p).map (·.key)).Nodup:=by
 have:(mE p).map (·.key)=(p.map (·.1)).map fun s=>Value.string ⟨s.toArray⟩:=by simp [mE,Function.comp_def]
 rw [this];rw [List.nodup_iff_pairwise_ne] at h ⊢;rw [List.pairwise_map];exact h.imp fun b e=>b (by
  have e:=Value.string.inj e
  simpa using e)
theorem zm {j:J}{w:World}:∀{l:List (List UInt8)}{f:List MapEntry},aR (iZ j w) (fm l) f->∃p,f=mE p/\p.map (·.1)=l/\∀s∈l,s.length<=eH
 | [],f,h=>by cases h; exact⟨[],rfl,rfl,fun _ h=>by cases h⟩
 | s::l,f,h=>by
  cases h with
  | @cons _ m _ f h t =>
   obtain⟨p,g,i,o⟩:=zm (l:=l) t;obtain⟨k,v,b⟩:=m;obtain⟨hk,hv⟩:=h;have hk:aA j w (.str s) k:=hk;have hv:aA j w (.bool true) v:=hv;cases hk with
   | str _ q =>
    cases hv;exact⟨(s,b)::p,by rw [g]; rfl,by simp [i],fun x hx=>(List.mem_cons.1 hx).elim (fun e=>e▸q) (o x)⟩
theorem zn {j:J}{w:World}:∀(p:List (List UInt8×Nat)),(∀x∈p,x.1.length<=eH)->aR (iZ j w) (fm (p.map (·.1))) (mE p)
 | [],_=>.nil
 | x::p,h=>.cons ⟨aA.str _ (h x (.head _)),aA.bool _⟩ (zn p fun y b=>h y (.tail _ b))
theorem Own.pN {j:J}{h:ag}{c:Nat}{o o':Obj}(hc:h c=some o) (g:bG j c o'=bG j c o){jl:List Nat}{b:Nat}:Own j (h.set c (some o')) jl b↔Own j h jl b:=by
 constructor
 ·rintro (h1|⟨id,q,h1,f⟩)
  ·exact .inl h1
  ·by_cases e:id=c
   ·subst e; rw [ag.cn] at h1; simp only [Option.some.injEq] at h1; subst h1;exact .inr ⟨id,_,hc,g▸f⟩
   ·rw [ag.bV _ _ e] at h1; exact .inr ⟨id,q,h1,f⟩
 ·rintro (h1|⟨id,q,h1,f⟩)
  ·exact .inl h1
  ·by_cases e:id=c
   ·subst e; rw [hc] at h1; simp only [Option.some.injEq] at h1; subst h1;exact .inr ⟨id,_,ag.cn _ _ _,g.symm▸f⟩
   ·exact .inr ⟨id,q,by rw [ag.bV _ _ e]; exact h1,f⟩
theorem dY.pN {j:J}{w:World}{h:ag}{c:Nat}{o o':Obj}(hr:dY j w h) (hc:h c=some o) (g:bG j c o'=bG j c o) (i:fA j w c o'):dY j w (h.set c (some o')):=by
 have key:∀id q,(h.set c (some o')) id=some q->∃f,h id=some f/\bG j id q=bG j id f:=by
  intro id q hq;by_cases e:id=c
  ·subst e; rw [ag.cn] at hq; simp only [Option.some.injEq] at hq; subst hq;exact⟨_,hc,g⟩
  ·rw [ag.bV _ _ e] at hq; exact⟨q,hq,rfl⟩
 refine⟨fun id q hq=>?_,fun gA o1 gB o2 b h1 k l m=>?_,hr.fresh⟩
 ·by_cases e:id=c
  ·subst e; rw [ag.cn] at hq; simp only [Option.some.injEq] at hq; subst hq;exact⟨(hr.obj _ _ hc).1,i⟩
  ·rw [ag.bV _ _ e] at hq; exact hr.obj _ _ hq
 ·obtain⟨u,p,r⟩:=key _ _ h1;obtain⟨v,s,t⟩:=key _ _ k;exact hr.inj _ _ _ _ b p s (r▸l) (t▸m)
section
variable {P:Program}{c:Code}{Q:Exit->St->Prop}{n:Nat}{ts:Ts}{ls:List (List D)}{h:ag}
theorem ah.Nu (id:Nat){l:List (List UInt8)}(hi:h id=some (.map (fm l))) (hw:∀b p bA,mo l p bA->ah P c Q ⟨n,ts,ls,h.set id (some (.eF b (.map (mE p).toArray bA)))⟩):ah P c Q ⟨n,ts,ls,h⟩:=by
 intro j w jl a f;have hl:=f.hl;obtain⟨hn,b,cc,u,bA,i,m,o,q,hB⟩:=hl.1.obj id _ hi;obtain⟨p,rfl,k,r⟩:=zm o;have s:mo l p bA:=⟨k,by have:=hB.1; simpa [mE,Function.comp_def] using this,by rw [<- k]; exact Fy hB.2.2,fun x hx=>hB.2.1 _ (List.mem_map_of_mem hx),r⟩;have hblk:bG j id (.eF b (.map (mE p).toArray bA))=bG j id (.map (fm l)):=by simp [bG,i]
 refine wp_mono (hw b p bA s j w jl a ⟨f.defers,f.size,f.tmps,⟨hl.1.pN hi hblk ⟨cc,i,m,q⟩,⟨hl.2.each,hl.2.nodup,fun b t g=>hl.2.apart b t ((Own.pN hi hblk).1 g)⟩⟩⟩) fun e a w hq=>AQ.trans ?_ hq;exact { bC.refl j _ (Own j h jl) with own:=fun b _ g=>(Own.pN hi hblk).1 g }
theorem ah.Nv (id:Nat){b bA:Nat}{p:List (List UInt8×Nat)}(hi:h id=some (.eF b (.map (mE p).toArray bA))) (f:mo (p.map (·.1)) p bA) (hw:ah P c Q ⟨n,ts,ls,h.set id (some (.map (fm (p.map (·.1)))))⟩):ah P c Q ⟨n,ts,ls,h⟩:=by
 intro j w jl a g;have hl:=g.hl;obtain⟨hn,cc,k,l,o⟩:=hl.1.obj id _ hi;have hblk:bG j id (.map (fm (p.map (·.1))))=bG j id (.eF b (.map (mE p).toArray bA)):=by simp [bG,k]
 have hB:kn (mE p) bA:=⟨by have:=f.nodup; simpa [mE,Function.comp_def] using this,(fun m hm=>by obtain⟨x,hx,rfl⟩:=List.mem_map.1 hm; exact f.lt x hx),nodup_keys f.zl⟩;refine wp_mono (hw j w jl a ⟨g.defers,g.size,g.tmps,⟨hl.1.pN hi hblk ⟨b,cc,_,bA,k,l,zn p (fun x hx=>f.len _ (List.mem_map_of_mem hx)),o,hB⟩,⟨hl.2.each,hl.2.nodup,fun b q i=>hl.2.apart b q ((Own.pN hi hblk).1 i)⟩⟩⟩) fun e a w hq=>AQ.trans ?_ hq
 exact { bC.refl j _ (Own j h jl) with own:=fun b _ i=>(Own.pN hi hblk).1 i }
end
theorem HL.Nw {j:J}{w:World}{jl:List Nat}{ls:List (List D)}{h:ag}(hl:HL j w jl ls h){t k:Nat}(ht:h t=some (.tok k 0)) (go:Go.Obj) :
  HL (j.cD t ⟨some (w.heap.size,0),1⟩ w.heap.size 0) (w.alloc go) jl ls (h.set t (some (.eF w.heap.size go))) /\
   bC j w (Own j h jl) (j.cD t ⟨some (w.heap.size,0),1⟩ w.heap.size 0) (w.alloc go) (Own (j.cD t ⟨some (w.heap.size,0),1⟩ w.heap.size 0) (h.set t (some (.eF w.heap.size go))) jl) /\
   aZ (j.cD t ⟨some (w.heap.size,0),1⟩ w.heap.size 0) (w.alloc go) jl (.a (.d (.eY t 1 0))) (.pointer (some ⟨w.heap.size,0,none⟩)):=by
 obtain⟨G,dP,M,hblk,_⟩:=hl.1.obj t _ ht;have H:j.F w.heap.size=0:=hl.1.fresh _ (Nat.le_refl _);have r:∀x,x<w.heap.size->(w.alloc go).heap[x]?=w.heap[x]?:=fun x hx=>pg hx;generalize i:j.cD t ⟨some (w.heap.size,0),1⟩ w.heap.size 0=j';have f:∀x,j'.F x=j.F x:=fun x=>by
  subst i; simp only [J.cD]; split
  ·rename_i c; rw [c,H]
  ·rfl
 have z:j'.next=j.next:=by subst i; rfl
 have B:j'.tok t=some ⟨some (w.heap.size,0),1⟩:=by subst i; simp [J.cD]
 have I:∀x,x≠t->j'.tok x=j.tok x:=fun x hx=>by subst i; simp [J.cD,hx]
 have hle:Le j w j' (w.alloc go):=by
  refine⟨by rw [z]; exact Nat.le_refl _,fun _ _=>by subst i; rfl,fun x=>by rw [f]; exact Nat.le_refl _,fun x o l=>?_,fun x hx=>?_⟩
  ·refine ph (r x ?_);rcases Nat.lt_or_ge x w.heap.size with h1|h1
   ·exact h1
   ·rw [hl.1.fresh x h1] at l; omega
  ·by_cases c:x=t
   ·subst c; exact .inr ⟨_,_,M,B,Nat.zero_lt_one⟩
   ·exact .inl (I x c)
 have C:∀n q x,h n=some q->bG j n q=some x->x<w.heap.size:=fun n q x hn hx=>Own.lt hl (.inr ⟨n,q,hn,hx⟩);have K:∀x,x∈jl->x<w.heap.size:=fun x hx=>Own.lt hl (.inl hx);have g:∀n q,h n=some q->n≠t->fA j' (w.alloc go) n q/\bG j' n q=bG j n q:=fun n q hn N =>
  (hl.1.obj n q hn).2.keep hle (hl.1.obj n q hn).1 (fun x hx=>⟨r x (C n q x hn hx),f x⟩) (fun _=>I n N)
 have E:bG j' t (.eF w.heap.size go)=some w.heap.size:=rfl;have L:∀jl x,Own j' (h.set t (some (.eF w.heap.size go))) jl x->x=w.heap.size\/Own j h jl x:=by
  rintro jl x (hx|⟨n,q,hn,hx⟩)
  ·exact .inr (.inl hx)
  ·by_cases c:n=t
   ·subst c; rw [ag.cn] at hn; simp only [Option.some.injEq] at hn; subst hn;rw [E] at hx; simp only [Option.some.injEq] at hx; exact .inl hx.symm
   ·rw [ag.bV h _ c] at hn;exact .inr (.inr ⟨n,q,hn,(g n q hn c).2▸hx⟩)
 refine⟨⟨⟨fun n q hn=>?_,fun m s p u x h1 b v y=>?_,fun x hx=>?_⟩,
  ⟨pe hl.2.each fun xs x hx h=>h.keep hle ⟨r x (K x hx),f x⟩,hl.2.nodup,fun x hx l=>?_⟩⟩, ?_, ?_⟩
 ·rw [z];by_cases c:n=t
  ·subst c; rw [ag.cn] at hn; simp only [Option.some.injEq] at hn; subst hn;exact⟨G,0,B,heap_alloc_new w _,by rw [f]; exact H⟩
  ·rw [ag.bV h _ c] at hn;exact⟨(hl.1.obj n q hn).1,(g n q hn c).1⟩
 ·by_cases c1:m=t<;>by_cases c2:p=t
  ·omega
  ·subst c1; rw [ag.cn] at h1; simp only [Option.some.injEq] at h1; subst h1;rw [ag.bV h _ c2] at b;rw [E] at v; simp only [Option.some.injEq] at v;have:=C p u x b ((g p u b c2).2▸y); omega
  ·subst c2; rw [ag.cn] at b; simp only [Option.some.injEq] at b; subst b;rw [ag.bV h _ c1] at h1;rw [E] at y; simp only [Option.some.injEq] at y;have:=C m s x h1 ((g m s h1 c1).2▸v); omega
  ·rw [ag.bV h _ c1] at h1; rw [ag.bV h _ c2] at b;exact hl.1.inj m s p u x h1 b ((g m s h1 c1).2▸v) ((g p u b c2).2▸y)
 ·rw [f];simp only [World.size_alloc] at hx;exact hl.1.fresh x (by omega)
 ·rcases L [] x l with c|c
  ·have:=K x hx; omega
  ·exact hl.2.apart x hx c
 ·refine { toLe:=hle,size:=(by simp),frame:=fun x hx hn=>⟨r x hx,f x⟩,own:=fun x hx l=>?_,os:=rfl,tape:=rfl,output:=fG.rfl };rcases L jl x l with c|c
  ·omega
  ·exact c
 ·show aA j' (w.alloc go) (.eY t 1 0) (.pointer (some ⟨w.heap.size,0,none⟩));refine .eY t 1 0 w.heap.size (by rw [z]; exact G) fun tk hk=>?_;rw [B] at hk;obtain rfl:=Option.some.inj hk;exact⟨Nat.le_refl _,fun _=>⟨0,rfl⟩⟩
theorem Nx {j:J}{w:World}{jl:List Nat}{id b:Nat}{o:Go.Obj}{cv:Value}(g:fA j w id (.eF b o)) (h:aZ j w jl (.a (.d (.map id))) cv):cv=.map (some b)/\w.heap[b]?=some o/\j.F b=0:=by
 have h':aA j w (.map id) cv:=h;obtain⟨c,h1,i,k⟩:=g;cases h' with
 | map _ m hi hv =>
  obtain⟨_,l⟩:=hv _ h1;obtain⟨c',f⟩:=l rfl;simp only [Option.some.injEq,Prod.mk.injEq] at f;obtain⟨rfl,rfl⟩:=f;exact⟨rfl,i,k⟩
theorem Fz {j:J}{w:World}{jl:List Nat}{id b:Nat}{o:Go.Obj}{cv:Value}(g:fA j w id (.eF b o)) (h:aZ j w jl (.a (.d (.eY id 1 0))) cv):cv=.pointer (some ⟨b,0,none⟩)/\w.heap[b]?=some o/\j.F b=0:=by
 have h':aA j w (.eY id 1 0) cv:=h;obtain⟨c,h1,i,k⟩:=g;cases h' with
 | eY _ _ _ m hi hv =>
  obtain⟨_,l⟩:=hv _ h1;obtain⟨c',f⟩:=l rfl;simp only [Option.some.injEq,Prod.mk.injEq] at f;obtain⟨rfl,rfl⟩:=f;exact⟨rfl,i,k⟩
section
variable {P:Program}{ts:Ts}{ls:List (List D)}{h:ag}{dst:Option Tmp}{ty:TypeId}{pos:String}{aC:Array Edge}{g:Option (Nat×Bool)}
theorem dZ.Ny {t f i:TypeId}{l:TI}{x:Operand}{id b bA:Nat}{es:Array MapEntry}(m:aL P t=some l) (hk:l.k=.map f i) (hx:ev ts x=.a (.d (.map id))) (hm:h id=some (.eF b (.map es bA))) :
  dZ P (mk dst (.range t x) ty pos aC g) ts ls h fun v aH h'=>∃it r,h it=none/\v=.a (.d (.eY it 1 0))/\aH=ls/\h'=h.set it (some (.eF r (.mapIter (some b) bA #[] bA))):=by
 intro j w jl a hl o K Q p;have h1:=o x (by simp [Op.operands]);rw [hx] at h1;obtain⟨e,q,_⟩:=Nx (hl.1.obj id _ hm).2 h1;have hr:(execOp a.eval (mk dst (.range t x) ty pos aC g)).run P w=.ok (.value (.pointer (some ⟨w.heap.size,0,none⟩))) (w.alloc (.mapIter (some b) bA #[] bA)):=by
  simp [execOp,e,run_range_map w t f i b es bA (pI m hk) q,Result.andThen]
 obtain⟨h1,s⟩:=hl.dQ 0;obtain⟨u,y,z⟩:=h1.Nw (ag.cn _ _ _) (.mapIter (some b) bA #[] bA);unfold Oper.wp;rw [hr,Oper.upon_value];exact p _ _ _ _ _ _ jl ⟨j.next,w.heap.size,hl.1.kq (Nat.le_refl _),rfl,rfl,(ag.set_set _ _ _ _)⟩ z u (Ext.refl _) (s.trans y)
def dR (p:List (List UInt8×Nat)) (seen:Array Nat):List (List UInt8×Nat):=p.filter fun x=>!seen.contains x.2
theorem FA (p:List (List UInt8×Nat)) (seen:Array Nat):(mE p).toArray.filter (fun e=>!seen.contains e.born)=(mE (dR p seen)).toArray:=by
 apply Array.toList_inj.1
 simp [mE,dR,List.filter_map,Function.comp_def]
theorem dZ.Nz {it id b r bA:Nat}{x:Operand}{p:List (List UInt8×Nat)}{seen:Array Nat}(hx:ev ts x=.a (.d (.eY it 1 0))) (hit:h it=some (.eF r (.mapIter (some b) bA seen bA))) (hm:h id=some (.eF b (.map (mE p).toArray bA))) (bh:∀x∈p,x.2<bA) (hlen:∀x∈p,x.1.length<=eH) :
  dZ P (mk dst (.next x false) ty pos aC g) ts ls h fun v aH h'=>aH=ls/\((dR p seen=[]/\v=.dM [.d (.bool false)]/\h'=h) \/
   ∃s n,(s,n)∈dR p seen/\v=.dM [.d (.bool true),.d (.str s),.d (.bool true)]/\h'=h.set it (some (.eF r (.mapIter (some b) bA (seen.push n) bA)))):=by
 intro j w jl a hl M K Q u;have h1:=M x (by simp [Op.operands]);rw [hx] at h1;obtain⟨e,m,B⟩:=Fz (hl.1.obj it _ hit).2 h1;have C:w.heap[b]?=some (.map (mE p).toArray bA):=by obtain⟨_,_,_,N,_⟩:=hl.1.obj id _ hm; exact N
 have hold:∀x∈(mE p).toArray.toList,x.born<bA:=fun y f=>by
  have f:y∈mE p:=by simpa using f
  obtain⟨z,l,rfl⟩:=List.mem_map.1 f;exact bh z l
 have o:∀y∈dR p seen,y∈p:=fun y f=>(List.mem_filter.1 f).1;have E:(mE (dR p seen)).toArray.filter (fun x=>decide (x.born<bA))=(mE (dR p seen)).toArray:=Array.filter_eq_self.2 (fun y f=>by
  have f:y∈mE (dR p seen):=by simpa using f
  obtain⟨z,l,rfl⟩:=List.mem_map.1 f
  simpa using bh z (o z l))
 have F:(mE (dR p seen)).toArray.filter (fun x=>decide (x.born>=bA))=#[]:=by
  rw [Array.filter_eq_empty_iff];intro y f;have f:y∈mE (dR p seen):=by simpa using f
  obtain⟨z,l,rfl⟩:=List.mem_map.1 f;have:=bh z (o z l);simp;omega
 by_cases h0:dR p seen=[]
 ·have hr:(execOp a.eval (mk dst (.next x false) ty pos aC g)).run P w=.ok (.value (.tuple #[.bool false])) w:=by
   simp only [execOp,e,Instr.next,getObj,Sem.run_bind,Sem.run,m,C,Result.andThen,next_test_false seen _ bA bA hold (Nat.le_refl _),Bool.false_eq_true,if_false,FA,E,F,Array.append_empty,h0];simp [mE,choose,Sem.run,Question.forced,Result.andThen]
  unfold Oper.wp;rw [hr,Oper.upon_value];exact u _ _ _ _ _ _ jl ⟨rfl,.inl ⟨h0,rfl,rfl⟩⟩ ⟨[.bool false],rfl,.cons (aA.bool _) .nil⟩ hl (Ext.refl _) (bC.refl _ _ _)
 ·obtain⟨i,k,hi,G,O⟩:∃(i:Nat) (k:World),i<(dR p seen).length/\(k=w\/k=w.drew)/\(choose (Question.mapNext (dR p seen).length)).run P w=.ok i k:=by
   by_cases H:(dR p seen).length<=1
   ·exact⟨0,w,by have:=List.length_pos_iff.2 h0; omega,.inl rfl,by simp [choose,Sem.run,Question.forced,H]⟩
   ·exact⟨_,w.drew,Nat.mod_lt _ (by omega),.inr rfl,by
     simp only [choose,Sem.run,Question.forced,decide_eq_true_eq,H,if_false,Question.cut];rfl⟩
  have t:HL j k jl ls h/\bC j w (Own j h jl) j k (Own j h jl):=by
   rcases G with rfl|rfl
   ·exact⟨hl,bC.refl _ _ _⟩
   ·exact⟨hl.drew,bC.drew _ _ _⟩
  have I:k.heap[r]?=some (.mapIter (some b) bA seen bA):=by rcases G with rfl|rfl<;>exact m
  have hr:(execOp a.eval (mk dst (.next x false) ty pos aC g)).run P w=.ok (.value (.tuple #[.bool true,.string ⟨(dR p seen)[i].1.toArray⟩,.bool true])) { k with heap:=k.heap.setIfInBounds r (.mapIter (some b) bA (seen.push (dR p seen)[i].2) bA) }:=by
   have R:(mE (dR p seen)).toArray.isEmpty=false:=by
    cases hq:dR p seen with
    | nil=>exact absurd hq h0
    | cons y q=>rfl
   have S:((#[]:Array (Option MapEntry))++Array.map some (mE (dR p seen)).toArray).size=(dR p seen).length:=by simp [mE]
   simp only [execOp,e,Instr.next,getObj,Sem.run_bind,Sem.run,m,C,Result.andThen,next_test_false seen _ bA bA hold (Nat.le_refl _),Bool.false_eq_true,if_false,FA,E,F,Array.append_empty,R,S,O];simp [mE,hi,setObj,Sem.run,I,Result.andThen]
  have J:((dR p seen)[i].1,(dR p seen)[i].2)∈dR p seen:=List.getElem_mem hi;have L:=fB.setObj (an:=an) (o':=.mapIter (some b) bA (seen.push (dR p seen)[i].2) bA) I;obtain⟨hn,c,U,_,_⟩:=t.1.1.obj it _ hit;obtain⟨W,X⟩:=t.1.setObj (o':=.eF r (.mapIter (some b) bA (seen.push (dR p seen)[i].2) bA)) hit rfl rfl B L ⟨c,U,L.here,B⟩;unfold Oper.wp;rw [hr,Oper.upon_value]
  exact u _ _ _ _ _ _ jl ⟨rfl,.inr ⟨_,_,J,rfl,rfl⟩⟩ ⟨[.bool true,_,.bool true],rfl,.cons (aA.bool _) (.cons (aA.str _ (hlen _ (o _ J))) (.cons (aA.bool _) .nil))⟩ W (Ext.refl _) (t.2.trans X)
end
def jH (p:List (List UInt8×Nat)) (s:List UInt8):List (List UInt8×Nat):=p.eraseP fun x=>s==x.1
theorem FB (s:List UInt8):∀p:List (List UInt8×Nat),(jH p s).map (·.1)=(p.map (·.1)).erase s
 | []=>rfl
 | x::p=>by
  unfold jH;rw [List.eraseP_cons,List.map_cons,List.erase_cons];rw [show (x.1==s)=(s==x.1) from Bool.beq_comm];cases s==x.1
  ·exact congrArg (x.1::·) (FB s p)
  ·rfl
theorem FC (p:List (List UInt8×Nat)) (s:List UInt8):(jH p s).Sublist p:=List.eraseP_sublist
theorem mo.del {l:List (List UInt8)}{p:List (List UInt8×Nat)}{bA:Nat}(h:mo l p bA) (s:List UInt8):mo (l.erase s) (jH p s) bA :=
 ⟨by rw [FB,h.keys],h.nodup.sublist ((FC p s).map _),h.zl.erase s,fun x hx=>h.lt x ((FC p s).subset hx),fun x hx=>h.len x (List.erase_subset hx)⟩
theorem FD {d:TypeDesc}{s:List UInt8}(b:g_ (fF d) (.str s)=true) (f:s.length<=eH):∀(p:List (List UInt8×Nat)) (n:Nat),(∀x∈p,x.1.length<=eH) ->
  (Instr.findNow d (.string ⟨s.toArray⟩) (mE p) n=some none/\jH p s=p)\/∃i,Instr.findNow d (.string ⟨s.toArray⟩) (mE p) n=some (some (n+i,.bool true))/\i<p.length/\jH p s=p.eraseIdx i
 | [],n,_=>.inl ⟨rfl,rfl⟩
 | x::p,n,h=>by
  have hn:=tE (j:=⟨fun _=>0,fun _=>0,fun _=>none,0⟩) (w:=default) b (aA.str s f) (aA.str x.1 (h x (.head _))) rfl;unfold jH;rw [List.eraseP_cons];show (Instr.findNow d _ (⟨.string ⟨x.1.toArray⟩,.bool true,x.2⟩::mE p) n=_/\_)\/∃i,Instr.findNow d _ (⟨.string ⟨x.1.toArray⟩,.bool true,x.2⟩::mE p) n=_/\_;simp only [Instr.findNow,hn];cases s==x.1
  ·rcases FD b f p (n+1) (fun y k=>h y (.tail _ k)) with ⟨h1,g⟩|⟨i,h1,g,l⟩
   ·exact .inl ⟨h1,congrArg (x::·) g⟩
   ·exact .inr ⟨i+1,by rw [h1,show n+1+i=n+(i+1) by omega],by simp only [List.length_cons]; omega,congrArg (x::·) l⟩
  ·exact .inr ⟨0,rfl,by simp,rfl⟩
theorem FE:∀(p:List (List UInt8×Nat)) (i:Nat),mE (p.eraseIdx i)=(mE p).eraseIdx i
 | [],_=>rfl
 | _::_,0=>rfl
 | x::p,i+1=>congrArg ((⟨.string ⟨x.1.toArray⟩,.bool true,x.2⟩:MapEntry)::·) (FE p i)
theorem NA {P:Program}{w:World}{b bA:Nat}{t g z ty:TypeId}{q r:TI}{c_:Array TypeId}{p:List (List UInt8×Nat)}{s:List UInt8}(u:aL P t=some q) (hk:q.k=.map g z) (B:aL P g=some r) (l:g_ r.k (.str s)=true) (bJ:c_[0]?=some t)
  (f:w.heap[b]?=some (.map (mE p).toArray bA)) (v:s.length<=eH) (C:∀x∈p,x.1.length<=eH) :
  (Builtin.delete_ c_ ty #[.map (some b),.string ⟨s.toArray⟩]).run P w=.ok (.tuple #[]) { w with heap:=w.heap.setIfInBounds b (.map (mE (jH p s)).toArray bA) }:=by
 obtain⟨G,H,_,m,_,_,E,_⟩:=fS B;rw [<- E] at l;have y:∀e,(Instr.checkKey e 10000 g (.string ⟨s.toArray⟩)).run P w=.ok () w:=fun e=>tF (j:=⟨fun _=>0,fun _=>0,fun _=>none,0⟩) (w0:=default) m l (aA.str s v);rcases FD l v p 0 C with ⟨h1,o⟩|⟨i,h1,o,F⟩
 ·simp [Builtin.delete_,bJ,ff (pI u hk),qU f,y,Instr.findKey,ff m,h1,o,setObj,Sem.run,f,Result.andThen]
 ·rw [Nat.zero_add] at h1;have hl:i<(mE p).length:=by simpa [mE] using o
  simp [Builtin.delete_,bJ,ff (pI u hk),qU f,y,Instr.findKey,ff m,h1,F,FE,setObj,Sem.run,f,Result.andThen,Array.eraseIdxIfInBounds,hl]
section
variable {P:Program}{ts:Ts}{ls:List (List D)}{h:ag}{dst:Option Tmp}{ty:TypeId}{pos:String}{aC:Array Edge}{g:Option (Nat×Bool)}
theorem aq.NC {t q F:TypeId}{r u:TI}{x y:Operand}{c_:Array TypeId}{id:Nat}{l:List (List UInt8)}{s:List UInt8}(G:aL P t=some r) (hk:r.k=.map q F) (I:aL P q=some u) (J:g_ u.k (.str s)=true) (bJ:c_[0]?=some t)
  (hx:ev ts x=.a (.d (.map id))) (K:ev ts y=.a (.d (.str s))) (hm:h id=some (.map (fm l))) :
  aq P (mk dst (.call { callee:=.builtin .delete,args:=#[x,y],argTypes:=c_ }) ty pos aC g) ts ls h { rh:=true,wh:=true } (.dM []) ls (h.set id (some (.map (fm (l.erase s))))):=by
 refine aq.of_run fun L H _ hH j w jl a hl v=>?_;have M:=hH rfl;subst M;have h1:=v x (by simp [Op.operands,Call.operands]);have f:=v y (by simp [Op.operands,Call.operands]);rw [hx] at h1; rw [K] at f;obtain⟨b,e,c,Y,bA,i,z,N,B,hB⟩:=vr (hl.1.obj id _ hm).2 h1;obtain⟨p,rfl,o,C⟩:=zm N;have O:mo l p bA:=⟨o,by have:=hB.1; simpa [mE,Function.comp_def] using this,by rw [<- o]; exact Fy hB.2.2,fun x hx=>hB.2.1 _ (List.mem_map_of_mem hx),C⟩
 have Q:∀x∈p,x.1.length<=eH:=fun x hx=>C _ (o▸List.mem_map_of_mem hx);have f:aA j w (.str s) (a.eval y):=f;generalize hv:a.eval y=Z at f;cases f with
 | str _ R =>
  have hr:=NA (ty:=ty) G hk I J bJ z R Q;have E:=fB.setObj (an:=an) (o':=.map (mE (jH p s)).toArray bA) z;have hq:=O.del s;have S:aR (iZ j { w with heap:=w.heap.setIfInBounds b (.map (mE (jH p s)).toArray bA) }) (fm (l.erase s)) (mE (jH p s)):=by
   rw [<- hq.keys]; exact zn _ fun x hx=>hq.len _ (hq.keys▸List.mem_map_of_mem hx)
  have U:kn (mE (jH p s)) bA:=⟨by have:=hq.nodup; simpa [mE,Function.comp_def] using this,(fun m hm=>by obtain⟨x,hx,rfl⟩:=List.mem_map.1 hm; exact hq.lt x hx),nodup_keys (by rw [hq.keys]; exact hq.zl)⟩;obtain⟨W,X⟩:=hl.setObj (o':=.map (fm (l.erase s))) hm (by simp [bG,i]) (by simp [bG,i]) B E ⟨b,c,_,bA,i,E.here,S,B,U⟩;exact⟨.value (.tuple #[]),_,_,j,jl,by simp [execOp,resolve,invoke,builtin,e,hv,hr,Result.andThen],.inl rfl,⟨[],rfl,.nil⟩,W,Ext.refl _,X⟩
end
def vB (f:List UInt8->Option Bool):List (List UInt8)->Option (List (List UInt8))
 | []=>some []
 | s::l=>(f s).bind fun b=>(vB f l).bind fun r=>some (bif b then s::r else r)
theorem FF {f:List UInt8->Option Bool}:∀{l r:List (List UInt8)},vB f l=some r->(∀s∈l,∃b,f s=some b)/\r=l.filter fun s=>f s==some true
 | [],r,h=>by cases h; exact⟨(fun _ h=>by cases h),rfl⟩
 | s::l,r,h=>by
  obtain⟨b,h1,h⟩:=Option.bind_eq_some_iff.1 h;obtain⟨q,g,h⟩:=Option.bind_eq_some_iff.1 h;obtain⟨i,j⟩:=FF g;cases h;refine⟨fun x hx=>?_, ?_⟩
  ·rcases List.mem_cons.1 hx with rfl|hx
   ·exact⟨b,h1⟩
   ·exact i x hx
  ·rw [List.filter_cons,h1,<- j];cases b<;>rfl
theorem FG {α β:Type}{f:α->β}:∀{l:List α},(l.map f).Nodup->∀{x y:α},x∈l->y∈l->f x=f y->x=y
 | [],_,_,_,h,_,_=>by cases h
 | a::l,hn,x,y,hx,g,e=>by
  rw [List.map_cons,List.nodup_cons] at hn;rcases List.mem_cons.1 hx with rfl|i
  ·rcases List.mem_cons.1 g with rfl|b
   ·rfl
   ·exact absurd (List.mem_map.2 ⟨y,b,e.symm⟩) hn.1
  ·rcases List.mem_cons.1 g with rfl|b
   ·exact absurd (List.mem_map.2 ⟨x,i,e⟩) hn.1
   ·exact FG hn.2 i b e
structure mq (f:List UInt8->Option Bool) (r:List (List UInt8)) (bA:Nat) (z:List (List UInt8×Nat)×Array Nat):Prop where
 pop:mo (z.1.map (·.1)) z.1 bA
 told:∀x∈z.1,∃b,f x.1=some b
 seen:∀x∈z.1,z.2.contains x.2=true->f x.1=some true
 rest:(z.1.map (·.1)).filter (fun s=>f s==some true)=r
section
variable {f:List UInt8->Option Bool}{r:List (List UInt8)}{bA:Nat}{p:List (List UInt8×Nat)}{seen:Array Nat}{s:List UInt8}{n:Nat}
theorem mq.start {l:List (List UInt8)}(h:vB f l=some r) (b:mo l p bA):mq f r bA (p,#[]):=by
 obtain⟨h1,g⟩:=FF h;refine⟨by rw [b.keys]; exact b,fun x hx=>h1 _ (by rw [<- b.keys]; exact List.mem_map_of_mem hx),fun x _ hx=>by simp at hx,by rw [b.keys]; exact g.symm⟩
theorem vC {x:List UInt8×Nat}(h:x∈dR p seen):x∈p/\seen.contains x.2=false:=by
 obtain⟨h1,b⟩:=List.mem_filter.1 h;exact⟨h1,by simpa using b⟩
theorem ND (hx:(s,n)∈dR p seen):(dR p (seen.push n)).length<(dR p seen).length:=by
 have e:dR p (seen.push n)=(dR p seen).filter fun x=>!(x.2==n):=by
  unfold dR;rw [List.filter_filter];refine List.filter_congr fun x _=>?_;rw [show (seen.push n).contains x.2=(seen.contains x.2||x.2==n) by
   rw [Bool.eq_iff_iff];simp [Array.contains_eq_mem]]
  cases seen.contains x.2<;>simp
 rw [e];refine List.length_filter_lt_length_iff_exists.2 ⟨_,hx,by simp⟩
theorem contains_push {x:Nat}(h:(seen.push n).contains x=true):seen.contains x=true\/x=n:=by
 simpa [Array.contains_eq_mem] using h
theorem mq.keep (h:mq f r bA (p,seen)) (hx:(s,n)∈dR p seen) (g:f s=some true):mq f r bA (p,seen.push n)/\(dR p (seen.push n)).length<(dR p seen).length:=by
 obtain⟨hm,-⟩:=vC hx;refine⟨⟨h.pop,h.told,fun x b hc=>?_,h.rest⟩,ND hx⟩;rcases contains_push hc with hc|hc
 ·exact h.seen x b hc
 ·rw [FG h.pop.nodup b hm hc]; exact g
theorem mq.done (h:mq f r bA (p,seen)) (hx:dR p seen=[]):p.map (·.1)=r:=by
 have b:∀x∈p,f x.1=some true:=fun x hm=>h.seen x hm (by
  have:x∉dR p seen:=by rw [hx]; simp
  cases hc:seen.contains x.2
  ·exact absurd (List.mem_filter.2 ⟨hm,by rw [hc]; rfl⟩) this
  ·rfl)
 rw [<- h.rest];refine(List.filter_eq_self.2 fun s g=>?_).symm;obtain⟨x,hm,rfl⟩:=List.mem_map.1 g;rw [b x hm]; rfl
end
theorem find_born {s:List UInt8}{n:Nat}:∀{p:List (List UInt8×Nat)},(p.map (·.2)).Nodup->(s,n)∈p->(mE p).find? (fun e=>e.born==n)=some ⟨.string ⟨s.toArray⟩,.bool true,n⟩
 | [],_,h=>by cases h
 | x::p,hn,h=>by
  rw [List.map_cons,List.nodup_cons] at hn;show (⟨.string ⟨x.1.toArray⟩,.bool true,x.2⟩::mE p:List MapEntry).find? _=_;rw [List.find?_cons];rcases List.mem_cons.1 h with e|h
  ·subst e; simp
  ·have b:x.2≠n:=fun e=>hn.1 (List.mem_map.2 ⟨(s,n),h,e.symm⟩);rw [show ((⟨.string ⟨x.1.toArray⟩,.bool true,x.2⟩:MapEntry).born==n)=false by simpa using b];exact find_born hn.2 h
section
variable {P:Program}{ts:Ts}{ls:List (List D)}{h:ag}{dst:Option Tmp}{ty:TypeId}{pos:String}{aC:Array Edge}{g:Option (Nat×Bool)}
theorem aq.NE {it id b r bA n:Nat}{x:Operand}{p:List (List UInt8×Nat)}{seen:Array Nat}{s:List UInt8}(hx:ev ts x=.a (.d (.eY it 1 0))) (hit:h it=some (.eF r (.mapIter (some b) bA (seen.push n) bA))) (hm:h id=some (.eF b (.map (mE p).toArray bA))) (f:(s,n)∈p) (i:(p.map (·.2)).Nodup) (k:s.length<=eH) :
  aq P (mk dst (.entry x) ty pos aC g) ts ls h { rh:=true } (.dM [.d (.str s),.d (.bool true)]) ls h :=
 kB.mh ⟨rfl,rfl,fun L H _ hH j w jl a hl l=>by
  have h1:=l x (by simp [Op.operands]);rw [hx] at h1;rw [hH rfl] at hl;obtain⟨e,m,_⟩:=Fz (hl.1.obj it _ hit).2 h1;have o:w.heap[b]?=some (.map (mE p).toArray bA):=by obtain⟨_,_,_,q,_⟩:=hl.1.obj id _ hm; exact q
  have t:(mE p).toArray.find? (fun e=>e.born==n)=some ⟨.string ⟨s.toArray⟩,.bool true,n⟩:=by
   rw [List.find?_toArray]; exact find_born i f
  exact⟨.tuple #[.string ⟨s.toArray⟩,.bool true],by simp [execOp,e,Instr.entry,getObj,Sem.run_bind,Sem.run,m,o,Result.andThen,t],[.string ⟨s.toArray⟩,.bool true],rfl,.cons (aA.str s k) (.cons (aA.bool _) .nil)⟩⟩
end
end Go.Ab
/-
 Calls that only lay new blocks. No program text.
-/
namespace Go.Ab
open Go Go.RowKit Go.Sort
variable {an:bf}
theorem HL.grown {j:J}{w:World}{jl:List Nat}{ls:List (List D)}{h:ag}(hl:HL j w jl ls h) (n:Nat) (os:Array Go.Obj):HL j (Sort.grow (Sort.ahead w n) os) jl ls h/\bC j w (Own j h jl) j (Sort.grow (Sort.ahead w n) os) (Own j h jl):=by
 have f:∀b,b<w.heap.size->(Sort.grow (Sort.ahead w n) os).heap[b]?=w.heap[b]?:=fun b f=>heap_grow_old _ _ f;have hle:Le j w j (Sort.grow (Sort.ahead w n) os):=⟨Nat.le_refl _,fun _ _=>rfl,fun _=>Nat.le_refl _,fun b o g=>ph (f b (by
  rcases Nat.lt_or_ge b w.heap.size with h|h
  ·exact h
  ·rw [hl.1.fresh b h] at g; omega)),fun _ _=>.inl rfl⟩
 have hk:=hl.keep hle (fun b g=>⟨f b (g.lt hl),rfl⟩) (fun _ _ _=>rfl) (fun b f=>hl.1.fresh b (by simp at f; omega));exact⟨hk.1,{ toLe:=hle,size:=by simp,frame:=fun b h _=>⟨f b h,rfl⟩,own:=fun b _ g=>g,os:=rfl,tape:=rfl,output:=⟨rfl,by simp [Sort.grow,Sort.ahead]⟩ }⟩
end Go.Ab
/-
 slices.SortFunc over a slice that may be stored to: the shelf's contract,read in the abstract state. No program text.
-/
namespace Go.Ab
open Go Go.RowKit Go.Proofs Go.Shelf Go.Sort
variable {an:bf}
section
variable {P:Program}{ρ:Ren}{T:Type} [Inhabited T] (c:T->List D) (k:Nat)
end
section
variable {P:Program}{ρ:Ren}{T:Type} [Inhabited T] {c:T->List D}{k:Nat}
end
end Go.Ab
/-
 slices.DeleteFunc over a slice that may be stored to and is not used any more: the shelf's contract,read in the abstract state. No program text.
-/
namespace Go.Proofs
open Go.Shelf Go.RowKit Go.Lib Go.Sort
variable {P:Program}{ρ:Ren}
end Go.Proofs
namespace Go.Ab
open Go Go.RowKit Go.Proofs Go.Shelf Go.Sort
variable {an:bf}
section
variable {P:Program}{ρ:Ren}
variable {T:Type} [Inhabited T] {v:T->Value}{d1:T->D}
end
end Go.Ab
/-
 Functions of the library that only compute,division,conversions; a block that stays as it is. No program text.
-/
namespace Go.Ab
open Go Go.RowKit Go.Proofs Go.Shelf
variable {an:bf}
section
variable {P:Program}{ts:Ts}{ls:List (List D)}{h:ag}{dst:Option Tmp}{ty:TypeId}{pos:String}{aC:Array Edge}{g:Option (Nat×Bool)}
theorem aq.FH {t u:TypeId}{x y:Operand}{k:IntKind}{m n:Int}(hx:ev ts x=.a (.d (.int k m))) (i:ev ts y=.a (.d (.int k n))) (hn:n≠0) :
  aq P (mk dst (.binOp .quo t x y u) ty pos aC g) ts ls h {} (.a (.d (.int k (k.wrap (m.tdiv n))))) ls h :=
 aq.dN fun j w jl a b=>by
  have h1:=b x (by simp [Op.operands]);have f:=b y (by simp [Op.operands]);rw [hx] at h1; rw [i] at f;exact⟨_,by simp [execOp,gj h1,gj f,tt,binOp,Op.intDiv,hn],aA.int _ _⟩
theorem aq.FI {t u:TypeId}{x y:Operand}{k:IntKind}{m n:Int}(hx:ev ts x=.a (.d (.int k m))) (i:ev ts y=.a (.d (.int k n))) (hn:n≠0) :
  aq P (mk dst (.binOp .rem t x y u) ty pos aC g) ts ls h {} (.a (.d (.int k (m.tmod n)))) ls h :=
 aq.dN fun j w jl a b=>by
  have h1:=b x (by simp [Op.operands]);have f:=b y (by simp [Op.operands]);rw [hx] at h1; rw [i] at f;exact⟨_,by simp [execOp,gj h1,gj f,tt,binOp,Op.intDiv,hn],aA.int _ _⟩
theorem FJ {P:Program}{t:TypeId}{b:TI}(f:aL P t=some b):∃d,P.underlying t=some d/\fF d=b.k:=by
 obtain⟨i,d,_,g,_,_,j,_⟩:=fS f;exact⟨d,g,j⟩
theorem FK {P:Program}{t:TypeId}{f:TI}{k:IntKind}(g:aL P t=some f) (hk:f.k=.int k):P.underlying t=some (.int k):=by
 obtain⟨d,h1,b⟩:=FJ g;rw [hk] at b;cases d<;>simp [fF] at b;subst b; exact h1
theorem aq.NF {s t:TypeId}{f b:TI}{x:Operand}{k k':IntKind}{n:Int}(hS:aL P s=some f) (i:aL P t=some b) (hk:b.k=.int k') (hx:ev ts x=.a (.d (.int k n))) :
  aq P (mk dst (.convert s t x) ty pos aC g) ts ls h {} (.a (.d (.int k' (k'.wrap n)))) ls h :=
 aq.dN fun j w jl a l=>by
  have h1:=l x (by simp [Op.operands]);rw [hx] at h1;obtain⟨d,m,_⟩:=FJ hS;exact⟨.int k' (k'.wrap n),by simp [execOp,gj h1,convert,run_underlying m,run_underlying (FK i hk),Conv.intToInt],aA.int _ _⟩
def fK (s:Sl Int):Bs:=s.l.map fun n=>UInt8.ofNat n.toNat
theorem FM:∀(l:List Int) (r:ByteArray),l.foldl (fun r n=>r.push (UInt8.ofNat n.toNat)) r=⟨(r.data.toList++l.map fun n=>UInt8.ofNat n.toNat).toArray⟩
 | [],r=>by simp
 | a::l,r=>by rw [List.foldl_cons,FM l]; simp [ByteArray.push]
theorem aq.zo {s e t:TypeId}{q u B:TI}{x:Operand}{tok:Option Nat}{y:Sl Int}(hS:aL P s=some q) (M:q.k=.slice e) (N:aL P e=some u) (he:u.k=.int .u8) (O:aL P t=some B) (ht:B.k=.str)
  (hx:ev ts x=.a (.d (Sl.d 1 (bE .u8) tok y))):aq P (mk dst (.convert s t x) ty pos aC g) ts ls h {} (.a (.d (.str (fK y)))) ls h :=
 aq.dN fun j w jl a Q=>by
  have h1:=Q x (by simp [Op.operands]);rw [hx] at h1;have f:aA j w (.slice 1 tok y.nl (y.l.map (bE .u8))) (a.eval x):=h1;have C:=kD hS M;have E:=FK N he;have F:=qN O ht;generalize hv:a.eval x=v at f;have G:(y.l.map (bE .u8)).flatten=y.l.map (D.int .u8):=by
   induction y.l with
   | nil=>rfl
   | cons a r p=>simp [bE,p]
  generalize H:y.l.map (bE .u8)=rows at f;generalize Z:y.nl=nl at f;cases f with
  | eU _ _ _ =>
   have R:y.l=[]:=by simpa using H
   exact⟨.string .empty,by simp [execOp,hv,run_convert_bytes_string w s t e _ _ _ C E F,Conv.bytesToString],by
    show aA j w (.str (fK y)) _;rw [fK,R]; exact aA.str [] (by simp [eH])⟩
  | slice _ _ _ m cap cv hk hn hc bJ hr aa =>
   subst H;rw [List.length_map] at hn hc;have hlen:(y.l.map (bE .u8)).length=y.l.length:=by simp
   have ab:cF<=eH:=by unfold cF eH; omega
   have S:(loadCells m y.l.length).run P w=.ok (y.l.map (Value.int .u8)).toArray w:=by
    by_cases h0:y.l=[]
    ·rw [h0]; rfl
    ·have I:m.spot=none:=bJ.1.resolve_left (by simpa using h0);obtain⟨b,o,sp⟩:=m;simp only at I; subst I;obtain⟨cs,g1,g2⟩:=yQ (P:=P) (j:=j) (w:=w) (b:=b) (o:=o) (y.l.map (D.int .u8)) fun i z J=>by
      have hi:i<(y.l.map (bE .u8)).flatten.length:=by rw [G]; exact(List.getElem?_eq_some_iff.1 J).1
      refine⟨cv i,(bJ.2 i hi).2, ?_⟩;have K:=hr i hi;have U:(y.l.map (bE .u8)).flatten[i]=z:=by
       have L:(y.l.map (bE .u8)).flatten[i]?=some z:=by rw [G]; exact J
       rw [List.getElem?_eq_getElem hi] at L; simpa using L
      rw [U] at K; exact K
     rw [List.length_map] at g2;rw [g2];have W:cs=y.l.map (Value.int .u8):=by
      clear g2;generalize y.l=l at g1;induction l generalizing cs with
      | nil=>cases g1; rfl
      | cons a r p =>
       rw [List.map_cons] at g1;cases g1 with
       | cons X Y=>cases X; rw [p _ Y,List.map_cons]
     rw [W]
   rw [hlen] at hv;refine⟨.string ⟨(fK y).toArray⟩, ?_, ?_⟩
   ·simp only [execOp,hv,Sem.run_bind,run_convert_bytes_string w s t e _ _ _ C E F,run_bytesToString w m _ cap y.l S,Result.andThen,Sem.run_pure];rw [FM]; simp [fK]
   ·exact aA.str _ (by simp only [fK,List.length_map]; omega)
end
theorem AC.NG {P:Program}{f:FuncId}{args:List A}{H:ag}{r:A}{dJ:List Value}{cv:Value}(enter:∀(dJ:Array Value) (w:World),(callFunc f dJ).run P w=.ok (.enter f dJ) w)
  (hc:∀j w c,dY j w H->aR (cT j w) args c->cT j w r cv/\Calls P f c.toArray w fun e w'=>e=.returned cv/\w'=w):AC P f args H fun v h'=>v=.a r/\h'=H:=by
 refine⟨enter,fun j w c hr b=>?_⟩;obtain⟨g,i⟩:=hc j w c hr b;refine i.mono ?_;rintro e w' ⟨rfl,rfl⟩;exact⟨_,cv,j,H,rfl,⟨rfl,rfl⟩,g,hr,bC.refl _ _ _⟩
def ia (P:Program) (o:Ab.Obj):Prop:=∃g t b,o=.fix g (.cells (Lib.pow10Tab.map fun z=>Value.int .u64 z).toArray t b)/\P.globalNamed "internal/strconv.uint64pow10"=some g
theorem ia.mr {P:Program}{o:Ab.Obj}(h:ia P o){j:J}{w:World}{id:Nat}(hr:fA j w id o):Lib.TabIs P w "internal/strconv.uint64pow10" .u64 Lib.pow10Tab:=by
 obtain⟨g,t,i,rfl,b⟩:=h;have f:w.heap[g]?=some _:=hr;unfold Lib.TabIs World.var?;rw [b,Option.bind_some,f]
theorem NH {P:Program}{ρ:Ren}(L:LaysM.n171 P ρ){n:Int}(h0 : -9223372036854775808<=n) (h1:n<=9223372036854775807){F:Nat}(g:F=ρ.f 171){H:ag}{gT:Nat}{oT:Ab.Obj}(i:H gT=some oT) (l:ia P oT) (m:(Lib.itoa n).length<=eH) :
  AC P F [.d (.int .i64 n)] H fun v h'=>v=.a (.d (.str (Lib.itoa n)))/\h'=H:=by
 subst g;refine⟨enters_of L.f171 (by kernel_rfl) rfl,fun j w c hr b=>?_⟩;cases b with
 | cons a1 b =>
 cases b;have o:aA j w (.int .i64 n) _:=a1;cases o;refine(Any.strconv_Itoa L n h0 h1 w (l.mr (hr.obj gT oT i).2)).mono ?_;rintro e w' ⟨rfl,k,os,rfl⟩;have hl:HL j w [] [] H:=⟨hr,⟨.nil,by simp,by simp⟩⟩;obtain⟨p,q⟩:=hl.grown k os;exact⟨_,_,j,H,rfl,⟨rfl,rfl⟩,aA.str _ m,p.1,q⟩
def zq (s:Sl Bs) (_:Bs):Option Bs:=match s.l with
 | []=>some []
 | [x]=>some x
 | _=>none
theorem NI {P:Program}{ρ:Ren}(L:Lays.n156 P ρ) (X:Builder.Extra P ρ){s:Sl Bs}{sep r:Bs}{w0:Option Nat}(i:zq s sep=some r){F:Nat}(t:F=ρ.f 156){H:ag} :
  AC P F [.d (Sl.d 1 aM w0 s),.d (.str sep)] H fun v h'=>v=.a (.d (.str r))/\h'=H:=by
 subst t;refine⟨enters_of L.f156 (by kernel_rfl) rfl,fun j w c hr k=>?_⟩;cases k with
 | cons a1 k =>
 cases k with
 | cons a2 k =>
 cases k
 rename_i v1 v2
 have u:aA j w (.str sep) v2:=a2;have g:aA j w (.slice 1 w0 s.nl (s.l.map aM)) v1:=a1;unfold zq at i;cases u with
 | str _ C =>
 split at i
 ·rename_i hl
  obtain rfl:=Option.some.inj i;rw [hl] at g;have key:∃a cap,v1=.slice a 0 cap:=by
   generalize m:([]:List Bs).map aM=rows at g;generalize s.nl=nl at g;cases g with
   | eU=>exact⟨none,0,rfl⟩
   | slice _ _ _ a cap=>subst m; exact⟨some a,cap,rfl⟩
  obtain⟨a,cap,rfl⟩:=key;refine(Any.strings_Join_none L X a cap ⟨sep.toArray⟩ w).mono ?_;rintro e w' ⟨rfl,rfl⟩;exact⟨_,_,j,H,rfl,⟨rfl,rfl⟩,aA.str [] (by simp [eH]),hr,bC.refl _ _ _⟩
 ·rename_i x hl
  obtain rfl:=Option.some.inj i;rw [hl] at g;generalize m:[x].map aM=rows at g;generalize s.nl=nl at g;cases g with
  | eU=>cases m
  | slice _ _ _ a cap cv hk hn hc bJ y E =>
   subst m;have p:a.spot=none:=bJ.1.resolve_left (by simp);obtain⟨b,o,sp⟩:=a;simp only at p; subst p;have hlen:0<([x].map aM).flatten.length:=by simp [aM]
   have h1:=bJ.2 0 hlen;have z:=y 0 hlen;have q:aA j w (.str x) (cv 0):=z;generalize B:cv 0=G at q;cases q with
   | str _ hx =>
   refine(Any.strings_Join_one L X b o cap ⟨x.toArray⟩ ⟨sep.toArray⟩ w (by have:=h1.2; rw [B] at this; simpa using this)).mono ?_;rintro e w' ⟨rfl,rfl⟩;exact⟨_,_,j,H,rfl,⟨rfl,rfl⟩,aA.str x hx,hr,bC.refl _ _ _⟩
 ·cases i
end Go.Ab
/-
 strings.Builder: an object whose buffer grows. No program text.
-/
namespace Go.Proofs
open Go.Shelf Go.RowKit
variable {P:Program}{ρ:Ren}
set_option linter.unusedVariables false
set_option maxHeartbeats 2000000 in
set_option maxRecDepth 100000 in
theorem NJ (L:Lays.n169 P ρ) (X:Builder.Extra P ρ) (b g cap:Nat) (p:Value) (i:Array Value) (l:List UInt8) (w:World) (k:l.length≠0) (m:w.heap[b]?=some (.cells #[p,.slice (some ⟨g,0,none⟩) l.length cap] (ρ.t 72) (0,0)))
  (o:w.heap[g]?=some (.cells i (ρ.t 5) (0,0))) (u:l.length<=cap) (q:l.length<=9223372036854775807) (v:i.size=cap*1) (r:∀j x,l[j]?=some x->w.cell? ((⟨g,0,none⟩:Addr).add j)=some (.int .u8 x.toNat)) :
  Calls P (ρ.f 169) #[.pointer (some ⟨b,0,none⟩)] w fun e w'=>e=.returned (.string ⟨l.toArray⟩)/\w'=w.drew.freeze ⟨g,0,none⟩ l.length:=by
 have c1:w.drew.cell? ⟨b,1,none⟩=some (.slice (some ⟨g,0,none⟩) l.length cap):=by
  have:w.drew.heap[b]?=some (.cells #[p,.slice (some ⟨g,0,none⟩) l.length cap] (ρ.t 72) (0,0)):=m;rw [Lib.cell_of_heap this]; rfl
 have y:(Builtin.unsafeSliceData_ #[(ρ.t 37)] (ρ.t 127) #[.slice (some ⟨g,0,none⟩) l.length cap]).run P w.drew=.ok (.pointer (some ⟨g,0,none⟩)) w.drew :=
  Lib.run_unsafeSliceData_row _ _ _ _ _ _ (by omega)
 have z:(Builtin.unsafeString_ #[(ρ.t 127),(ρ.t 3)] (ρ.t 9) #[.pointer (some ⟨g,0,none⟩),.int .i64 l.length]).run P w.drew=.ok (.string ⟨l.toArray⟩) (w.drew.freeze ⟨g,0,none⟩ l.length):=by
  refine Lib.run_unsafeString_row w.drew (ρ.t 127) (ρ.t 3) (ρ.t 9) (ρ.t 5) L.t127 X.cellsByte g i.size (by have s:w.drew.heap[g]?=some (.cells i (ρ.t 5) (0,0)):=o; simp [World.shape?,s]) l (by simpa using k) (by omega) q ?_;intro j x hx;exact r j x hx
 have mixed:=L.mixed;have t72:=L.t72; have a72:=L.a72; have z72:=L.z72; have v72:=L.v72; have B:=run_underlying L.t72;have t70:=L.t70; have a70:=L.a70; have z70:=L.z70; have v70:=L.v70; have C:=run_underlying L.t70;have t37:=L.t37; have a37:=L.a37; have z37:=L.z37; have v37:=L.v37; have E:=run_underlying L.t37;have t127:=L.t127; have a127:=L.a127; have z127:=L.z127; have v127:=L.v127; have F:=run_underlying L.t127
 have t3:=L.t3; have a3:=L.a3; have z3:=L.z3; have v3:=L.v3; have G:=run_underlying L.t3;have t9:=L.t9; have a9:=L.a9; have z9:=L.z9; have v9:=L.v9; have H:=run_underlying L.t9;have t5:=X.t5; have a5:=X.a5; have z5:=X.z5; have v5:=X.v5; have I:=run_underlying X.t5
 go_enter L.f169,Body.n169_ntmps ρ
 go_wp2
 go_region_o
 all_goals (go_wp2; go_ret; exact⟨rfl,rfl⟩)
set_option maxHeartbeats 2000000 in
set_option maxRecDepth 100000 in
theorem NK (L:Lays.n169 P ρ) (X:Builder.Extra P ρ) (b:Nat) (p:Value) (w:World) (g:w.heap[b]?=some (.cells #[p,.slice none 0 0] (ρ.t 72) (0,0))) :
  Calls P (ρ.f 169) #[.pointer (some ⟨b,0,none⟩)] w fun e w'=>e=.returned (.string ⟨#[]⟩)/\w'=w.drew:=by
 have i:=Any.unsafeString_none L X;have c1:w.drew.cell? ⟨b,1,none⟩=some (.slice none 0 0):=by
  have:w.drew.heap[b]?=some (.cells #[p,.slice none 0 0] (ρ.t 72) (0,0)):=g;rw [Lib.cell_of_heap this]; rfl
 have j:(Builtin.unsafeSliceData_ #[(ρ.t 37)] (ρ.t 127) #[.slice none 0 0]).run P w.drew=.ok (.pointer none) w.drew:=rfl;have mixed:=L.mixed;have t72:=L.t72; have a72:=L.a72; have z72:=L.z72; have v72:=L.v72; have k:=run_underlying L.t72;have t70:=L.t70; have a70:=L.a70; have z70:=L.z70; have v70:=L.v70; have l:=run_underlying L.t70;have t37:=L.t37; have a37:=L.a37; have z37:=L.z37; have v37:=L.v37; have m:=run_underlying L.t37
 have t127:=L.t127; have a127:=L.a127; have z127:=L.z127; have v127:=L.v127; have o:=run_underlying L.t127;have t3:=L.t3; have a3:=L.a3; have z3:=L.z3; have v3:=L.v3; have q:=run_underlying L.t3;have t9:=L.t9; have a9:=L.a9; have z9:=L.z9; have v9:=L.v9; have r:=run_underlying L.t9;have t5:=X.t5; have a5:=X.a5; have z5:=X.z5; have v5:=X.v5; have s:=run_underlying X.t5
 go_enter L.f169,Body.n169_ntmps ρ
 go_wp2
 go_region_o
 all_goals (go_wp2; go_ret; exact⟨rfl,rfl⟩)
end Go.Proofs
namespace Go.Ab
open Go Go.RowKit Go.Proofs Go.Shelf
variable {an:bf}
structure bx where
 qZ:Bool
 bR:Sl Int
def bx.zero:bx:=⟨false,Sl.nil⟩
noncomputable def bx.cg (i:Nat) (t:Option Nat) (x:bx):List D:=[bif x.qZ then .ptr i 0 else .eC,Sl.d 1 (bE .u8) t x.bR]
theorem fA.b_ {j:J}{w:World}{id:Nat}{T:TypeId}{xs:List D}(h:fA j w id (.b_ T xs)):ko j w (j.out id) xs:=by
 obtain⟨cs,h1,b,f⟩:=h;exact⟨cs,T,h1,b,f⟩
section
variable {P:Program}{ts:Ts}{ls:List (List D)}{h:ag}{dst:Option Tmp}{ty:TypeId}{pos:String}{aC:Array Edge}{g:Option (Nat×Bool)}
theorem aq.FN {t:TypeId}{b:TI}{x:Operand}{id off:Nat}{T:TypeId}{xs:List D}{v:A}(i:aL P t=some b) (hk:b.k.lz=false) (hx:ev ts x=.a (.d (.ptr id off))) (hh:h id=some (.b_ T xs)) (hv:kw b xs off=some v) :
  aq P (mk dst (.load t x) ty pos aC g) ts ls h { rh:=true } (.a v) ls h :=
 kB.mh ⟨rfl,rfl,fun L H _ hH j w jl a hl l=>by
  have h1:=l x (by simp [Op.operands]);rw [hx] at h1;obtain⟨e,_⟩:=qM h1;rw [hH rfl] at hl;obtain⟨cv,f,m⟩:=pE (P:=P) (hl.1.obj id _ hh).2.b_.cells i (K.px hk) hv;rw [Nat.zero_add] at f;exact⟨cv,by simp [execOp,Instr.loadAt,Instr.sureAddr,e,f],m⟩⟩
theorem aq.FO {t:TypeId}{k:TI}{x y:Operand}{id off:Nat}{T:TypeId}{xs xs':List D}{v:D}(p:aL P t=some k) (hx:ev ts x=.a (.d (.ptr id off))) (q:ev ts y=.a (.d v)) (hl:h id=some (.b_ T xs))
  (l:k.size=1) (hv:dG v xs off xs'):aq P (mk none (.store t x y) ty pos aC g) ts ls h { wh:=true } .any ls (h.set id (some (.b_ T xs'))):=by
 obtain⟨F,r⟩:=hv.spec;refine aq.of_run fun L H _ hH j w jl a hh m=>?_;have s:=hH rfl;subst s;have h1:=m x (by simp [Op.operands]);have b:=m y (by simp [Op.operands]);rw [hx] at h1; rw [q] at b;have b:cT j w (.d v) (a.eval y):=b;obtain⟨e,hid⟩:=qM h1;obtain⟨cs,u,o,f⟩:=(hh.1.obj id _ hl).2;obtain⟨w',z,i⟩:=tr (an:=an) (P:=P) (off:=off) u p b (by rw [l]; rfl) (by rw [<- o.length,l]; omega)
 have B:=i.le (j:=j) f;obtain⟨C,E⟩:=hh.setObj (o':=.b_ T xs') hl rfl rfl f i ⟨_,i.here,by
  have:=(o.cW off b.cells).imp fun _ _ h=>h.mono B;rw [r]; exact this,f⟩
 refine⟨.skip,w',undef,j,jl, ?_,.inr ⟨rfl,rfl⟩,trivial,C,Ext.refl _,E⟩;simp [execOp,Instr.storeAt,Instr.sureAddr,e,z]
theorem dZ.FP {e:TypeId}{b:TI}{z:A}(i:aL P e=some b) (k:b.zero=some z) :
  dZ P (mk dst (.alloc e) ty pos aC g) ts ls h fun v aH h'=>∃id,h id=none/\v=.a (.d (.ptr id 0))/\aH=ls/\h'=h.set id (some (.b_ e (cA z))):=by
 obtain⟨inf,d,h1,_,_,_,_,f⟩:=fS i;rw [k] at f;obtain⟨v,l,m⟩:=nF f;intro j w jl a hl q K Q hk;have hr:(execOp a.eval (mk dst (.alloc e) ty pos aC g)).run P w=.ok (.value (.pointer (some ⟨w.heap.size,0,none⟩))) (w.alloc (.cells v.cells e)):=by simp [execOp,Instr.alloc,zeroValue,typeInfo,h1,l,newVar,newRow]
 have hle:Le j w (j.obj w.heap.size) (w.alloc (.cells v.cells e)) :=
  ((hl.data (an:=an) (.cells v.cells e) 0).2.toLe.trans (by
   rw [J.tg (hl.1.fresh _ (Nat.le_refl _))];exact⟨by simp [J.obj],fun id hi=>by simp only [J.obj]; rw [if_neg (by omega)],fun _=>Nat.le_refl _,fun _ _ _=>rfl,fun _ _=>.inl rfl⟩))
 obtain⟨o,p⟩:=hl.obj (an:=an) (.cells v.cells e) (.b_ e (cA z)) rfl ⟨v.cells.toList,by
  simp only [J.obj,if_true]; rw [Array.toArray_toList]; exact heap_alloc_new w _,(m j w).cells.imp fun _ _ h=>h.mono hle,by
   simp only [J.obj,if_true]; exact hl.1.fresh _ (Nat.le_refl _)⟩
 unfold Oper.wp;rw [hr,Oper.upon_value];refine hk _ _ _ _ (j.obj w.heap.size) _ jl ⟨j.next,hl.1.kq (Nat.le_refl _),rfl,rfl,rfl⟩ ?_ o (Ext.refl _) p;have:=aA.ptr (j:=j.obj w.heap.size) (w:=w.alloc (.cells v.cells e)) j.next 0 (by simp [J.obj])
 simpa [J.obj,aZ,cT] using this
end
theorem Own.vD {j:J}{h:ag}{c:Nat}{o o':Obj}(hc:h c=some o) (g:bG j c o'=bG j c o){jl:List Nat}{b:Nat}:Own j (h.set c (some o')) jl b↔Own j h jl b:=by
 constructor
 ·rintro (h1|⟨id,o1,h1,f⟩)
  ·exact .inl h1
  ·by_cases e:id=c
   ·subst e; rw [ag.cn] at h1; simp only [Option.some.injEq] at h1; subst h1;exact .inr ⟨id,_,hc,g▸f⟩
   ·rw [ag.bV _ _ e] at h1; exact .inr ⟨id,o1,h1,f⟩
 ·rintro (h1|⟨id,o1,h1,f⟩)
  ·exact .inl h1
  ·by_cases e:id=c
   ·subst e; rw [hc] at h1; simp only [Option.some.injEq] at h1; subst h1;exact .inr ⟨id,_,ag.cn _ _ _,g.trans f⟩
   ·exact .inr ⟨id,o1,by rw [ag.bV _ _ e]; exact h1,f⟩
theorem dY.vD {j:J}{w:World}{h:ag}{c:Nat}{o o':Obj}(hr:dY j w h) (hc:h c=some o) (f:bG j c o'=bG j c o) (g:fA j w c o->fA j w c o'):dY j w (h.set c (some o')):=by
 have key:∀id o1,(h.set c (some o')) id=some o1->∃o2,h id=some o2/\bG j id o1=bG j id o2:=by
  intro id o1 h1;by_cases e:id=c
  ·subst e; rw [ag.cn] at h1; simp only [Option.some.injEq] at h1; subst h1;exact⟨_,hc,f⟩
  ·rw [ag.bV _ _ e] at h1; exact⟨o1,h1,rfl⟩
 refine⟨fun id o1 h1=>?_,fun gA o1 gB o2 b h1 i k l=>?_,hr.fresh⟩
 ·by_cases e:id=c
  ·subst e; rw [ag.cn] at h1; simp only [Option.some.injEq] at h1; subst h1;exact⟨(hr.obj _ _ hc).1,g (hr.obj _ _ hc).2⟩
  ·rw [ag.bV _ _ e] at h1; exact hr.obj _ _ h1
 ·obtain⟨m,p,k2⟩:=key gA o1 h1;obtain⟨q,r,s⟩:=key gB o2 i;exact hr.inj gA m gB q b p r (k2▸k) (s▸l)
theorem aS.FQ {P:Program}{ops:Array Oper}{rest:List Oper}{Q:St->Prop}{n:Nat}{ts:Ts}{ls:List (List D)}{h:ag}{gv:eN}(id:Nat){T:TypeId}{xs:List D}(f:List D) (hc:h id=some (.b_ T xs)) (k:∀j w cs,dY j w h->aR (aA j w) xs cs->aR (aA j w) f cs)
  (hw:aS P ops rest Q ⟨n,ts,ls,h.set id (some (.b_ T f))⟩):aS P ops rest Q ⟨n,ts,ls,h⟩:=by
 intro j w jl a g l hk;have hl:=g.hl;have m:fA j w id (.b_ T xs)->fA j w id (.b_ T f):=fun⟨cs,h1,o,p⟩=>⟨cs,h1,k j w cs hl.1 o,p⟩;refine hw j w jl a ⟨g.defers,g.size,g.tmps,⟨hl.1.vD (o':=.b_ T f) hc rfl m,⟨hl.2.each,hl.2.nodup,fun b q i=>hl.2.apart b q ((Own.vD (o':=.b_ T f) hc rfl).1 i)⟩⟩⟩ l fun r j' w' s t hq u v=>hk r j' w' s t hq u (bC.trans ?_ v)
 exact { bC.refl j _ (Own j h jl) with own:=fun b _ i=>(Own.vD (o':=.b_ T f) hc rfl).1 i }
theorem aS.tokE {P:Program}{ops:Array Oper}{rest:List Oper}{Q:St->Prop}{n:Nat}{ts:Ts}{ls:List (List D)}{h:ag}{gv:eN}(k:Nat) (E:TypeId) (hw:∀t,h t=none->aS P ops rest Q ⟨n,ts,ls,h.set t (some (.tok k 0 (some E)))⟩):aS P ops rest Q ⟨n,ts,ls,h⟩:=by
 intro j w jl a b g hk;obtain⟨i,f⟩:=b.hl.dQ (an:=an) k (some E);have hle:=f.toLe;refine hw j.next (b.hl.1.kq (Nat.le_refl _)) j.dQ w jl a ⟨b.defers,b.size,fun k=>(b.tmps k).mono hle (Ext.refl _),i⟩ g fun l j' w' m o hq p q=>hk l j' w' m o hq p (f.trans q)
theorem NL {P:Program}{ρ:Ren}(L:Lays.n240 P ρ) (X:Builder.X72 P ρ){F:Nat}(q:F=ρ.f 240){T:TypeId}(r:T=ρ.t 72){H:ag}{i:Nat}{t:Option Nat}{x:bx}(hc:H i=some (.b_ T (x.cg i t))) :
  AC P F [.d (.ptr i 0)] H fun v h'=>v=.dM []/\h'=H.set i (some (.b_ T (bx.cg i t ⟨true,x.bR⟩))):=by
 subst q r;refine⟨enters_of L.f240 (by kernel_rfl) rfl,fun j w c hr l=>?_⟩;have hl:HL j w [] [] H:=⟨hr,⟨.nil,by simp,by simp⟩⟩;cases l with
 | cons a1 l =>
 cases l
 rename_i v1
 have s:aA j w (.ptr i 0) v1:=a1;cases s with
 | ptr _ _ hid =>
 obtain⟨hn,cs,g,b,m⟩:=hr.obj i _ hc;unfold bx.cg at b;cases b with
 | @cons _ p _ _ k b =>
 cases b with
 | @cons _ v _ _ hv b =>
 cases b;cases hx:x.qZ with
 | true =>
  rw [hx] at k;have o:aA j w (.ptr i 0) p:=k;cases o with
  | ptr _ _ _ =>
  have h0:w.cell? ⟨j.out i,0,none⟩=some (.pointer (some ⟨j.out i,0,none⟩)):=by rw [cell_of_row w (j.out i) 0 _ (ρ.t 72) (0,0) g]; rfl
  refine(Any.Builder_copyCheck_used L X (j.out i) w h0).mono ?_;rintro e w' ⟨rfl,rfl⟩;have u:H.set i (some (.b_ (ρ.t 72) (bx.cg i t ⟨true,x.bR⟩)))=H:=by
   refine ag.nB H i _ ?_;rw [hc]; unfold bx.cg; rw [hx]
  exact⟨.dM [],.tuple #[],j,H,rfl,⟨rfl,u.symm⟩,⟨[],rfl,.nil⟩,hr,bC.refl _ _ _⟩
 | false =>
  rw [hx] at k;have o:aA j w .eC p:=k;cases o;have h0:w.cell? ⟨j.out i,0,none⟩=some (.pointer none):=by rw [cell_of_row w (j.out i) 0 _ (ρ.t 72) (0,0) g]; rfl
  have y:w.shape? (j.out i)=some (ρ.t 72,2):=by simp [World.shape?,g]
  have z:w.frozen? ⟨j.out i,0,none⟩=false:=frozen_of_row w (j.out i) _ _ (ρ.t 72) g;refine(Any.Builder_copyCheck_fresh L X (j.out i) w h0 y z).mono ?_;rintro e w' ⟨rfl,rfl⟩;have hu:=fB.setCell (an:=an) (i:=0) g (.pointer (some ⟨j.out i,0,none⟩));have hle:=hu.le (j:=j) m;obtain⟨B,C⟩:=hl.setObj (o':=.b_ (ρ.t 72) (bx.cg i t ⟨true,x.bR⟩)) hc rfl rfl m hu ⟨_,hu.here,by
   unfold bx.cg;exact .cons (aA.ptr i 0 hn) (.cons (hv.mono hle) .nil),m⟩
  exact⟨.dM [],.tuple #[],j,_,rfl,⟨rfl,rfl⟩,⟨[],rfl,.nil⟩,B.1,C⟩
def tJ (x:bx):Option Bs:=if x.bR.l.all (fun n=>decide (0<=n/\n<256))=true/\(x.bR.nl=true/\x.bR.l=[]\/x.bR.nl=false/\x.bR.l≠[]) then some (fK x.bR) else none
theorem dY.sub {j:J}{w:World}{h h':ag}(hr:dY j w h) (f:∀id o,h' id=some o->h id=some o):dY j w h' :=
 ⟨fun id o hi=>hr.obj id o (f id o hi),fun gA o1 gB o2 b h1 g i k=>hr.inj gA o1 gB o2 b (f _ _ h1) (f _ _ g) i k,hr.fresh⟩
theorem Own.sub {j:J}{h h':ag}(f:∀id o,h' id=some o->h id=some o){jl:List Nat}{b:Nat}(g:Own j h' jl b):Own j h jl b:=by
 rcases g with h1|⟨id,o,h1,i⟩
 ·exact .inl h1
 ·exact .inr ⟨id,o,f id o h1,i⟩
theorem NM (w:World) (a b:Addr) (n:Nat):(w.freeze a n).cell? b=w.cell? b:=by
 unfold World.freeze
 split
 ·rfl
 ·unfold World.cell?;simp only [Array.getElem?_modify];by_cases e:a.block=b.block
  ·rw [if_pos e];cases w.heap[b.block]? with
   | none=>rfl
   | some o=>cases o<;>rfl
  ·rw [if_neg e]
theorem FR (w:World) (a:Addr) (n:Nat){b:Nat}(f:b≠a.block):(w.freeze a n).heap[b]?=w.heap[b]?:=by
 unfold World.freeze
 split
 ·rfl
 ·simp only [Array.getElem?_modify];rw [if_neg (Ne.symm f)]
theorem FT (w:World) (a:Addr) (n:Nat):(w.freeze a n).heap.size=w.heap.size:=by
 unfold World.freeze
 split
 ·rfl
 ·simp
theorem NN (w:World) (a:Addr) (n:Nat):(w.freeze a n).os=w.os/\(w.freeze a n).tape=w.tape/\(w.freeze a n).output=w.output/\(w.freeze a n).drawn=w.drawn:=by
 unfold World.freeze
 split<;>exact⟨rfl,rfl,rfl,rfl⟩
theorem HL.NO {j:J}{w:World}{h h':ag}(hl:HL j w [] [] h) (i:∀id o,h' id=some o->h id=some o){b n:Nat}(k:Own j h [] b) (l:¬Own j h' [] b) :
  HL j (w.freeze ⟨b,0,none⟩ n) [] [] h'/\bC j w (Own j h []) j (w.freeze ⟨b,0,none⟩ n) (Own j h' []):=by
 have hle:Le j w j (w.freeze ⟨b,0,none⟩ n):=⟨Nat.le_refl _,fun _ _=>rfl,fun _=>Nat.le_refl _,fun _ _ _=>NM _ _ _ _,fun _ _=>.inl rfl⟩;have m:HL j w [] [] h':=⟨hl.1.sub i,⟨.nil,by simp,by simp⟩⟩;have hk:=m.keep hle (fun x f=>⟨FR _ _ _ (fun e=>l (by have g:x=b:=e; rw [<- g]; exact f)),rfl⟩) (fun _ _ _=>rfl) (fun x hx=>hl.1.fresh x (by rw [FT] at hx; exact hx));obtain⟨p,q,r,s⟩:=NN w ⟨b,0,none⟩ n
 exact⟨hk.1,{ toLe:=hle,size:=by rw [FT]; exact Nat.le_refl _,frame:=fun x _ hn=>⟨FR _ _ _ (fun e=>hn (by have g:x=b:=e; rw [g]; exact k)),rfl⟩,own:=fun x _ f=>Own.sub i f,os:=p,tape:=q,output:=⟨r,by rw [s]; exact .inl (Nat.le_refl _)⟩ }⟩
theorem NQ {P:Program}{ρ:Ren}(L:Lays.n169 P ρ) (X:Builder.Extra P ρ){F:Nat}(ab:F=ρ.f 169){T E:TypeId}(ad:T=ρ.t 72) (ae:E=ρ.t 5){H:ag}{i tk:Nat}{x:bx}{r:Bs}(G:tJ x=some r)
  (hc:H i=some (.b_ T (x.cg i (some tk)))) (ht:H tk=some (.tok 1 x.bR.l.length (some E))) :
  AC P F [.d (.ptr i 0)] H fun v h'=>v=.a (.d (.str r))/\h'=(H.set tk none).set i none:=by
 subst ab ad ae;unfold tJ at G
 split at G
 case isFalse=>cases G
 rename_i af
 obtain⟨ah,ai⟩:=af;obtain rfl:=Option.some.inj G;refine⟨enters_of L.f169 (by kernel_rfl) rfl,fun j w c hr J=>?_⟩;cases J with
 | cons a1 J =>
 cases J
 rename_i v1
 have aj:aA j w (.ptr i 0) v1:=a1;cases aj with
 | ptr _ _ hid =>
 obtain⟨hn,cs,O,m,aP⟩:=hr.obj i _ hc;obtain⟨aQ,dP,Q,hblk,ak⟩:=hr.obj tk _ ht;unfold bx.cg at m;cases m with
 | @cons _ p _ _ aR m =>
 cases m with
 | @cons _ v _ _ hv m =>
 cases m;have I:∀id o,((H.set tk none).set i none) id=some o->H id=some o:=by
  intro id o h;simp only [ag.set] at h
  split at h
  ·cases h
  ·split at h
   ·cases h
   ·exact h
 have s:aA j w (.slice 1 (some tk) x.bR.nl (x.bR.l.map (bE .u8))) v:=hv;rcases ai with ⟨K,q⟩|⟨K,q⟩
 ·rw [K,q] at s;cases s;refine(NK L X (j.out i) p w O).mono ?_;rintro e w' ⟨rfl,rfl⟩;have al:fK x.bR=[]:=by simp [fK,q]
  rw [al];refine⟨_,_,j,_,rfl,⟨rfl,rfl⟩,aA.str [] (by simp [eH]),((HL.drew (⟨hr,⟨.nil,by simp,by simp⟩⟩:HL j w [] [] H)).1).sub I,(bC.drew j w _).trans ?_⟩;exact { bC.refl j _ (Own j H []) with own:=fun b _ am=>Own.sub I am }
 ·rw [K] at s;generalize ao:x.bR.l.map (bE .u8)=rows at s;cases s with
  | slice _ _ _ aS cap cv hk M R bJ ap ar =>
  subst ao;rw [List.length_map] at M R;obtain⟨_,au⟩:=ar tk rfl;obtain⟨_,S⟩:=au _ Q;rw [List.length_map] at S;have U:x.bR.l.length≠0:=by simpa using q
  rcases S rfl with ⟨av,_⟩|⟨b,aw,ax⟩
  ·exact absurd (ak rfl av) U
  ·subst ax;have W:dP=some (b,cap):=aw;obtain⟨ay,ce,az,aB,aT,aV,aC⟩:=hblk b cap W;have aD:ce=ρ.t 5:=aC _ rfl;subst aD;have aE:∀k y,(fK x.bR)[k]?=some y->w.cell? ((⟨b,0,none⟩:Addr).add k)=some (.int .u8 y.toNat):=by
    intro k y g;unfold fK at g;rw [List.getElem?_map] at g;cases u:x.bR.l[k]? with
    | none=>rw [u] at g; cases g
    | some z =>
     rw [u] at g;simp only [Option.map_some,Option.some.injEq] at g;have Y:(x.bR.l.map (bE .u8)).flatten=x.bR.l.map (D.int .u8):=by
      generalize x.bR.l=l;induction l with
      | nil=>rfl
      | cons a r aF=>simp [bE,aF]
     have N:k<(x.bR.l.map (bE .u8)).flatten.length:=by rw [Y,List.length_map]; exact(List.getElem?_eq_some_iff.1 u).1
     have h1:=(bJ.2 k N).2;have B:=ap k N;have aG:(x.bR.l.map (bE .u8)).flatten[k]=D.int .u8 z:=by
      have Z:(x.bR.l.map (bE .u8)).flatten[k]?=some (D.int .u8 z):=by rw [Y,List.getElem?_map,u]; rfl
      rw [List.getElem?_eq_getElem N] at Z; simpa using Z
     rw [aG] at B;generalize cv k=aW at h1 B;cases B;rw [add_plain,Nat.zero_add];have aH:=List.all_eq_true.1 ah z (List.mem_of_getElem? u);have aI:0<=z/\z<256:=of_decide_eq_true aH;rw [Nat.zero_add] at h1;rw [h1,<- g];have:(UInt8.ofNat z.toNat).toNat=z.toNat:=by
      rw [UInt8.toNat_ofNat']; omega
     rw [this,Int.toNat_of_nonneg aI.1]
   have C:(fK x.bR).length=x.bR.l.length:=by simp [fK]
   have aK:w.heap[j.out i]?=some (.cells #[p,.slice (some ⟨b,0,none⟩) (fK x.bR).length cap] (ρ.t 72) (0,0)):=by rw [C]; simpa using O
   refine(NJ L X (j.out i) b cap p ay (fK x.bR) w (by rw [C]; exact U) aK az (by rw [C]; exact R) (by rw [C]; unfold cF at M; omega) aB aE).mono ?_;rintro e w' ⟨rfl,rfl⟩;have aa:bG j tk (.tok 1 x.bR.l.length (some (ρ.t 5)))=some b:=by simp [bG,Q,W]
   have aL:¬Own j ((H.set tk none).set i none) [] b:=by
    rintro (h1|⟨id,o,h1,B⟩)
    ·cases h1
    ·have:=hr.inj id o tk _ b (I _ _ h1) ht B aa;subst this;by_cases e:id=i
     ·subst e; rw [ag.cn] at h1; cases h1
     ·rw [ag.bV _ _ e,ag.cn] at h1; cases h1
   have aM:HL j w [] [] H:=⟨hr,⟨.nil,by simp,by simp⟩⟩;have q:HL j w.drew [] [] H:=aM.drew;obtain⟨aN,aO⟩:=q.NO (an:=an) I (n:=(fK x.bR).length) (.inr ⟨tk,_,ht,aa⟩) aL;exact⟨_,_,j,_,rfl,⟨rfl,rfl⟩,aA.str (fK x.bR) (by rw [C]; unfold cF at M; unfold eH; omega),aN.1,(bC.drew j w _).trans aO⟩
section
variable {P:Program}{ts:Ts}{ls:List (List D)}{h:ag}{dst:Option Tmp}{ty:TypeId}{pos:String}{aC:Array Edge}{g:Option (Nat×Bool)}
def pO (s:Bs):Sl Int:=⟨false,s.map fun b=>(b.toNat:Int)⟩
theorem NR (s:Bs):(pO s).l.length=s.length:=by simp [pO]
theorem aq.NS {t u e:TypeId}{i o b:TI}{x y:Operand}{tk k k' m:Nat}{E:TypeId}{tok':Option Nat}{s r v:Sl Int}{z:A}(q:aL P t=some i) (hk:i.k=.slice e) (B:aL P e=some b) (C:aL P u=some o) (F:∃e,o.k=.slice e)
  (G:b.zero=some z) (H:(cA z).length=b.size) (I:b.size≠0) (hx:ev ts x=.a (.d (s.d k (bE .u8) (some tk)))) (J:ev ts y=.a (.d (r.d k' (bE .u8) tok'))) (f:k=b.size) (K:k'=b.size)
  (L:h tk=some (.tok b.size m (some E))) (hm:m=s.l.length) (M:E=e) (hr:bp b.bytes s r=some v) :
  aq P (mk dst (.call { callee:=.builtin .append,args:=#[x,y],argTypes:=#[t,u] }) ty pos aC g) ts ls h { rh:=true,wh:=true } (.a (.d (v.d k (bE .u8) (some tk)))) ls (h.set tk (some (.tok b.size v.l.length (some E)))):=by
 obtain⟨e,h1,N⟩:=pK hr;subst e;have:=aq.vq (an:=an) (P:=P) (dst:=dst) (ty:=ty) (pos:=pos) (aC:=aC) (g:=g) (ls:=ls) (aT:=r.l.map (bE .u8)) q hk B C (.inl F) G H I hx (fun j w jl cv hv=>by
  have p:aA j w (.slice k' tok' r.nl (r.l.map (bE .u8))) cv:=by rw [J] at hv; exact hv
  refine Src.slice p fun r hr=>?_;obtain⟨_,_,_,_,_,_,_,hh,_⟩:=kC (jl:=jl) p;rw [<- K];exact hh r hr) (.inl f) L (by rw [hm]; simp) (by simpa using h1) (by simpa using N) (fun T h=>by cases h; exact M)
 simp only [List.length_map,List.length_append] at this ⊢;rw [<- List.map_append,List.isEmpty_map,<- f] at this;rw [<- f];exact this
theorem aq.NT {t u e:TypeId}{j o b:TI}{x y:Operand}{tk k m:Nat}{E:TypeId}{s v:Sl Int}{r:Bs}{z:A}(p:aL P t=some j) (hk:j.k=.slice e) (q:aL P e=some b) (w:aL P u=some o) (B:o.k=.str)
  (C:b.zero=some z) (F:(cA z).length=b.size) (G:b.size=1) (hx:ev ts x=.a (.d (s.d k (bE .u8) (some tk)))) (H:ev ts y=.a (.d (.str r))) (f:k=b.size)
  (I:h tk=some (.tok b.size m (some E))) (hm:m=s.l.length) (J:E=e) (hr:bp b.bytes s (pO r)=some v) :
  aq P (mk dst (.call { callee:=.builtin .append,args:=#[x,y],argTypes:=#[t,u] }) ty pos aC g) ts ls h { rh:=true,wh:=true } (.a (.d (v.d k (bE .u8) (some tk)))) ls (h.set tk (some (.tok b.size v.l.length (some E)))):=by
 obtain⟨e,h1,K⟩:=pK hr;subst e;have i:jF r=(pO r).l.map (bE .u8):=by simp [jF,pO,bE]
 have:=aq.MB (an:=an) (P:=P) (dst:=dst) (ty:=ty) (pos:=pos) (aC:=aC) (g:=g) (ls:=ls) p hk q w B C F G hx H (.inl f) I (by rw [hm]; simp) (by rw [i]; simpa using h1) (by rw [i]; simpa using K) (fun T h=>by cases h; exact J);rw [i] at this;simp only [List.length_map,List.length_append] at this ⊢;rw [<- List.map_append,List.isEmpty_map,<- f] at this;rw [<- f];exact this
theorem aq.NU {t u:TypeId}{x y:Operand}{k k':IntKind}{m n:Int}(hx:ev ts x=.a (.d (.int k m))) (i:ev ts y=.a (.d (.int k' n))) (hn:0<=n) :
  aq P (mk dst (.binOp .shr t x y u) ty pos aC g) ts ls h {} (.a (.d (.int k (m.fdiv (2 ^ (min n.toNat k.bits)))))) ls h :=
 aq.dN fun j w jl a b=>by
  have h1:=b x (by simp [Op.operands]);have f:=b y (by simp [Op.operands]);rw [hx] at h1; rw [i] at f;have l:(eqGuard .shr t x y (.int k m) (.int k' n)).run P w=.ok () w:=by unfold eqGuard; simp
  exact⟨_,by simp [execOp,gj h1,gj f,l,binOp,Op.shift,show ¬n<0 by omega],aA.int _ _⟩
theorem aq.qV {t u:TypeId}{x y:Operand}{k:IntKind}{m n:Int}(hx:ev ts x=.a (.d (.int k m))) (i:ev ts y=.a (.d (.int k n))) :
  aq P (mk dst (.binOp .and t x y u) ty pos aC g) ts ls h {} (.a (.d (.int k (k.wrap ((BitVec.ofInt k.bits m &&& BitVec.ofInt k.bits n).toNat:Int))))) ls h :=
 aq.dN fun j w jl a b=>by
  have h1:=b x (by simp [Op.operands]);have f:=b y (by simp [Op.operands]);rw [hx] at h1; rw [i] at f;exact⟨_,by simp [execOp,gj h1,gj f,tt,binOp,Op.intBits],aA.int _ _⟩
end
class gM (an:bf):Prop where
 is:an.El
instance:gM bf.on:=⟨trivial⟩
theorem HL.below [hq:gM an] {j:J}{w w':World}{jl:List Nat}{ls:List (List D)}{h:ag}(hl:HL j w jl ls h) (f:Below w.heap.size w w'):HL j w' jl ls h/\bC j w (Own j h jl) j w' (Own j h jl):=by
 have hle:Le j w j w':=⟨Nat.le_refl _,fun _ _=>rfl,fun _=>Nat.le_refl _,fun b o g=>ph (f.block b (by
  rcases Nat.lt_or_ge b w.heap.size with h|h
  ·exact h
  ·rw [hl.1.fresh b h] at g; omega)),fun _ _=>.inl rfl⟩
 have hk:=hl.keep hle (fun b g=>⟨f.block b (g.lt hl),rfl⟩) (fun _ _ _=>rfl) (fun b h=>hl.1.fresh b (by have:=f.size; omega));exact⟨hk.1,{ toLe:=hle,size:=f.size,frame:=fun b h _=>⟨f.block b h,rfl⟩,own:=fun b _ g=>g,os:=f.os,tape:=f.tape,output:=⟨f.output,.inr hq.is⟩ }⟩
def tK (s:Sl Bs) (sep:Bs):Option Bs:=if s.l.length<=cF/\(Lib.join s.l sep).length<=cF then some (Lib.join s.l sep) else none
theorem NV {P:Program}{ρ:Ren} [gM an] (L:Lays.n156 P ρ) (X:Builder.Extra P ρ){s:Sl Bs}{sep r:Bs}{w0:Option Nat}(g:tK s sep=some r){F:Nat}(y:F=ρ.f 156){H:ag} :
  AC P F [.d (Sl.d 1 aM w0 s),.d (.str sep)] H fun v h'=>v=.a (.d (.str r))/\h'=H:=by
 by_cases h0:s.l=[]
 ·refine NI L X (s:=s) ?_ y;unfold tK at g
  split at g
  ·rw [<- g]; unfold zq; rw [h0]; rfl
  ·cases g
 subst y;unfold tK at g
 split at g
 case isFalse=>cases g
 rename_i hc
 obtain rfl:=Option.some.inj g;refine⟨enters_of L.f156 (by kernel_rfl) rfl,fun j w c hr m=>?_⟩;cases m with
 | cons a1 m =>
 cases m with
 | cons a2 m =>
 cases m
 rename_i v1 v2
 have K:aA j w (.str sep) v2:=a2;have t:aA j w (.slice 1 w0 s.nl (s.l.map aM)) v1:=a1;cases K with
 | str _ ab =>
 generalize B:s.l.map aM=rows at t;generalize s.nl=nl at t;cases t with
 | eU=>exact absurd (List.map_eq_nil_iff.1 B) h0
 | slice _ _ _ a cap cv hk hn M bJ N ad =>
  subst B;have C:a.spot=none:=bJ.1.resolve_left (fun e=>h0 (List.map_eq_nil_iff.1 e));obtain⟨b,o,sp⟩:=a;simp only at C; subst C;have E:(s.l.map aM).flatten=s.l.map D.str:=by
   generalize s.l=l;induction l with
   | nil=>rfl
   | cons a r O=>simp [aM,O]
  have Q:(s.l.map aM).flatten.length=s.l.length:=by rw [E,List.length_map]
  have G:∀(k:Nat) x,(s.l.map fun x=>(⟨x.toArray⟩:ByteArray))[k]?=some x->w.cell? ⟨b,o+k,none⟩=some (.string x):=by
   intro k x hx;rw [List.getElem?_map] at hx;cases p:s.l[k]? with
   | none=>rw [p] at hx; cases hx
   | some z =>
    rw [p] at hx;simp only [Option.map_some,Option.some.injEq] at hx;have u:k<(s.l.map aM).flatten.length:=by rw [Q]; exact(List.getElem?_eq_some_iff.1 p).1
    have h1:=(bJ.2 k u).2;have i:=N k u;have R:(s.l.map aM).flatten[k]=D.str z:=by
     have I:(s.l.map aM).flatten[k]?=some (D.str z):=by rw [E,List.getElem?_map,p]; rfl
     rw [List.getElem?_eq_getElem u] at I; simpa using I
    rw [R] at i;generalize cv k=ae at h1 i;cases i;rw [h1,<- hx]
  have S:b<w.heap.size:=by
   have U:0<s.l.length:=List.length_pos_iff.2 h0;obtain⟨z,W⟩:∃z,s.l[0]?=some z:=⟨_,List.getElem?_eq_getElem U⟩;have h1:=G 0 ⟨z.toArray⟩ (by rw [List.getElem?_map,W]; rfl);unfold World.cell? at h1;cases i:w.heap[b]? with
   | none=>rw [show (⟨b,o+0,none⟩:Addr).block=b from rfl,i] at h1; cases h1
   | some q=>exact fN i
  have J:(s.l.map fun x=>(⟨x.toArray⟩:ByteArray)).map (·.data.toList)=s.l:=by
   rw [List.map_map]; conv=>rhs; rw [<- List.map_id s.l]
   exact List.map_congr_left fun _ _=>by simp
  have:=Any.strings_Join L X b o cap (s.l.map fun x=>(⟨x.toArray⟩:ByteArray)) ⟨sep.toArray⟩ w G S (by rw [List.length_map]; exact hc.1) (by rw [List.length_map]; simpa using M) (by rw [J]; exact hc.2);rw [J] at this;simp only [List.length_map] at this ⊢;refine this.mono ?_;rintro e w' ⟨rfl,Y⟩;have hl:HL j w [] [] H:=⟨hr,⟨.nil,by simp,by simp⟩⟩;obtain⟨Z,aa⟩:=hl.below (an:=an) Y;exact⟨_,_,j,H,rfl,⟨rfl,rfl⟩,aA.str _ (by have:=hc.2; unfold cF at this; unfold eH; simp at this ⊢; omega),Z.1,aa⟩
end Go.Ab
/-
 strings.IndexRune and strings.IndexAny at runes beyond ASCII,over signs that are ASCII. No program text.
-/
namespace Go.Proofs
open Go Go.Shelf Go.RowKit Go.Lib
variable {P:Program}{ρ:Ren}
end Go.Proofs
/-
 strings.IndexAny of whatever string,over two or more ASCII signs. No program text.
-/
namespace Go.Proofs
open Go Go.Shelf Go.RowKit Go.Lib
variable {P:Program}{ρ:Ren}
theorem WY (s:ByteArray) (i:Nat) (h:i<s.size):s.get! i=s[i]'h:=by
 simp [ByteArray.get!,getElem!_pos,h]; rfl
end Go.Proofs
/-
 The library's searches in strings,strconv.Atoi,as contracts. No program text.
-/
namespace Go.Ab
open Go Go.RowKit Go.Proofs Go.Shelf
variable {an:bf}
def isAscii (s:Bs):Bool:=s.all fun b=>decide (b.toNat<128)
theorem NW {s:Bs}(h:isAscii s=true):∀(j:Nat) b,(⟨s.toArray⟩:ByteArray).data.toList[j]?=some b->b.toNat<128:=fun j b f=>by
 have h1:s[j]?=some b:=by simpa using f
 have g:=List.mem_of_getElem? h1;have i:=List.all_eq_true.1 h b g
 simpa using i
theorem NX {P:Program}{ρ:Ren}(L:Lays.n106 P ρ){s t:Bs}{F:Nat}(g:F=ρ.f 106){H:ag} :
  AC P F [.d (.str s),.d (.str t)] H fun v h'=>v=.a (.d (.int .i64 (Lib.compareBytes s t)))/\h'=H:=by
 subst g;refine AC.NG (dJ:=[]) (cv:=.int .i64 (Lib.compareBytes s t)) (enters_of L.f106 (by kernel_rfl) rfl) fun j w c' hr b=>?_;cases b with
 | cons a1 b =>
 cases b with
 | cons a2 b =>
 cases b
 rename_i v1 v2
 have i:aA j w (.str s) v1:=a1;have k:aA j w (.str t) v2:=a2;cases i; cases k;refine⟨aA.int _ _, ?_⟩;have l:=Any.strings_Compare L ⟨s.toArray⟩ ⟨t.toArray⟩ w
 simpa using l
end Go.Ab
/-
 strings.ToLower on ASCII text,as a contract. No program text.
-/
namespace Go.Ab
open Go Go.RowKit Go.Proofs Go.Shelf
variable {an:bf}
def zu (s:Bs):Option Bs:=if s.length<=cF/\isAscii s=true then some (Lib.toLowerA s) else none
theorem NY {P:Program}{ρ:Ren} [gM an] (L:Lays.n159 P ρ) (X:Builder.Extra P ρ){s r:Bs}(b:zu s=some r){F:Nat}(i:F=ρ.f 159){H:ag} :
  AC P F [.d (.str s)] H fun v h'=>v=.a (.d (.str r))/\h'=H:=by
 subst i;unfold zu at b
 split at b
 case isFalse=>cases b
 rename_i hc
 obtain rfl:=Option.some.inj b;refine⟨enters_of L.f159 (by kernel_rfl) rfl,fun j w c hr g=>?_⟩;cases g with
 | cons a1 g =>
 cases g
 rename_i v1
 have k:aA j w (.str s) v1:=a1;cases k;have l:=Any.strings_ToLower_ascii L X ⟨s.toArray⟩ w (by have:=hc.1; unfold cF at this; simp [ByteArray.size]; omega) (NW hc.2);refine l.mono ?_;rintro e w' ⟨rfl,m⟩;have hl:HL j w [] [] H:=⟨hr,⟨.nil,by simp,by simp⟩⟩;obtain⟨o,p⟩:=hl.below (an:=an) m;have he:(⟨(Lib.toLowerA (⟨s.toArray⟩:ByteArray).data.toList).toArray⟩:ByteArray)=⟨(Lib.toLowerA s).toArray⟩:=by simp
 rw [he];exact⟨_,_,j,H,rfl,⟨rfl,rfl⟩,aA.str _ (by have:=hc.1; unfold cF at this; unfold eH; simp [Lib.toLowerA]; omega),o.1,p⟩
end Go.Ab
/-
 Functions that call a yield; loops over a function. No program text.
-/
namespace Go.Ab
open Go Go.RowKit
variable {an:bf}
def gN:ag:=fun _=>none
structure gw (C:List Nat) (W W':World):Prop where
 size:W.heap.size<=W'.heap.size
 cells:∀b o,W.heap[b]?=some o->o.isCells=true->b∉C->W'.heap[b]?=some o
theorem gw.refl (C:List Nat) (W:World):gw C W W:=⟨Nat.le_refl _,fun _ _ h _ _=>h⟩
theorem gw.trans {C:List Nat}{A B W:World}(h:gw C A B) (k:gw C B W):gw C A W:=⟨Nat.le_trans h.size k.size,fun b o g f hc=>k.cells b o (h.cells b o g f hc) f hc⟩
theorem gw.grown {C:List Nat}{A B:World}(h:A.grownBy B none):gw C A B:=⟨h.size,fun b o f _ _=>(h.block b (fN f) (by simp)).trans f⟩
theorem gw.put {C:List Nat}(W:World) (l:Nat) (o o':Go.Obj) (h:W.heap[l]?=some o) (hc:o.isCells=false):gw C W (W.putObj l o'):=by
 refine⟨by simp,fun b j f g _=>?_⟩;have i:b≠l:=fun e=>by subst e; rw [h] at f; cases f; rw [hc] at g; cases g
 rw [World.putObj_heap_other i]; exact f
theorem cells_of_cell {W:World}{b o:Nat}{c:Value}(h:W.cell? ⟨b,o,none⟩=some c):∃f:Go.Obj,W.heap[b]?=some f/\f.isCells=true:=by
 unfold World.cell? at h;cases g:W.heap[b]? with
 | none=>simp [g] at h
 | some f=>exact⟨f,rfl,by cases f<;>simp_all [Go.Obj.isCells]⟩
theorem gw.data {C:List Nat}{j:J}{W W':World}(hk:gw C W W') (hC:∀b∈C,j.F b=0){b o:Nat}{c:Value}(f:o<j.F b) (h:W.cell? ⟨b,o,none⟩=some c):W'.cell? ⟨b,o,none⟩=some c:=by
 obtain⟨g,h1,i⟩:=cells_of_cell h;have k:=hk.cells b g h1 i (fun l=>by rw [hC b l] at f; omega);rw [<- h];unfold World.cell?;simp only [h1,k]
theorem aA.kept {j:J}{W W':World}(p:∀b o c,o<j.F b->W.cell? ⟨b,o,none⟩=some c->W'.cell? ⟨b,o,none⟩=some c){x:D}{v:Value}(h:aA j W x v):aA j W' x v:=by
 induction h with
 | bool b=>exact .bool b
 | int k n=>exact .int k n
 | str s h=>exact .str s h
 | eU k tok ht=>exact .eU k tok ht
 | slice k tok rows a cap cv hk hn hc bJ hr ht g=>exact .slice k tok rows a cap cv hk hn hc ⟨bJ.1,fun i hi=>⟨(bJ.2 i hi).1,p _ _ _ (bJ.2 i hi).1 (bJ.2 i hi).2⟩⟩ g ht
 | arr k id nl len a cap hid hv=>exact .arr k id nl len a cap hid hv
 | eY id m off b hid hv=>exact .eY id m off b hid hv
 | eC=>exact .eC
 | ptr id off h=>exact .ptr id off h
 | view cells a cv bJ hr g=>exact .view cells a cv ⟨bJ.1,fun i hi=>⟨(bJ.2 i hi).1,p _ _ _ (bJ.2 i hi).1 (bJ.2 i hi).2⟩⟩ g
 | jB=>exact .jB
 | map id b hid hv=>exact .map id b hid hv
 | nilFunc=>exact .nilFunc
 | func f dh gz hl hr g=>exact .func f dh gz hl g
 | yield l=>exact .yield l
 | qE t b c=>exact .qE t b c
 | nilIface=>exact .nilIface
 | iface t x v h g=>exact .iface t x v g
theorem cT.kept {j:J}{W W':World}(f:∀b o c,o<j.F b->W.cell? ⟨b,o,none⟩=some c->W'.cell? ⟨b,o,none⟩=some c){x:A}{v:Value}(h:cT j W x v):cT j W' x v:=by
 cases x with
 | d x=>exact aA.kept f h
 | agg xs=>obtain⟨cs,e,h⟩:=h; exact⟨cs,e,h.imp fun _ _ h=>h.kept f⟩
theorem aZ.kept {j:J}{W W':World}(f:∀b o c,o<j.F b->W.cell? ⟨b,o,none⟩=some c->W'.cell? ⟨b,o,none⟩=some c){jl:List Nat}{x:V}{v:Value}(h:aZ j W jl x v):aZ j W' jl x v:=by
 cases x with
 | any=>trivial
 | a x=>exact cT.kept f h
 | dI i off=>exact h
 | dM xs=>obtain⟨cs,e,h⟩:=h; exact⟨cs,e,h.imp fun _ _ h=>h.kept f⟩
 | gd c x=>exact⟨fun hc=>cT.kept f (h.1 hc),h.2⟩
 | jC c i off=>exact h
 | full k rows=>exact⟨h.1.kept f,h.2⟩
 | o4 c k rows=>exact⟨fun hc=>⟨(h.1 hc).1.kept f,(h.1 hc).2⟩,h.2⟩
theorem vE {j:J}{w:World}(h:∀b,w.heap.size<=b->j.F b=0):HL j w [] [] gN:=⟨⟨fun _ _ h=>(by cases h),fun _ _ _ _ _ h=>(by cases h),h⟩,⟨.nil,by simp,by simp⟩⟩
def Live (C:List Nat) (Jw:World->Prop) (W0:World) (n:Nat) (ts:Ts) (a:Act) (w:World):Prop :=
 ∃j:J,dD j w [] ⟨n,ts,[],gN⟩ a/\(∀b∈C,b<w.heap.size/\j.F b=0)/\gw C W0 w/\Jw w
def lD (Jw:World->Prop):Prop:=∀A B:World,Jw A->A.grownBy B none->Jw B
theorem vF {j:J}{b:Nat}:¬Own j gN [] b:=by
 rintro (h|⟨id,o,h,_⟩)
 ·cases h
 ·cases h
section
variable {C:List Nat}{Jw:World->Prop}{W0:World}{P:Program}{n m:Nat}{ts:Ts}{a:Act}{w:World}
theorem Live.next (m:lD Jw){j j':J}{w':World}{i:Act}{ts':Ts}(hC:∀b∈C,b<w.heap.size/\j.F b=0) (hk:gw C W0 w) (o:Jw w) (p:dD j' w' [] ⟨n,ts',[],gN⟩ i) (f:bC j w (Own j gN []) j' w' (Own j' gN [])) :
  Live C Jw W0 n ts' i w':=by
 have l:w.grownBy w' none:=⟨f.os,f.tape,f.output.1,f.size,fun k hk _=>(f.frame k hk vF).1⟩;exact⟨j',p,fun b g=>⟨Nat.lt_of_lt_of_le (hC b g).1 f.size,(f.frame b (hC b g).1 vF).2.trans (hC b g).2⟩,hk.trans (.grown l),m _ _ o l⟩
theorem Live.ay {x y:Code}(o:lD Jw) (h:Live C Jw W0 n ts a w){Q:Exit->Act->World->Prop}
  (hx:∀K:Ts->Prop,(∀ts',(∀b w',Live C Jw W0 n ts' b w'->y.wpIn Fence.wide m P Q b w')->K ts')->ah P x (fun e f=>e=.normal/\f.n=n/\f.ls=[]/\f.h=gN/\K f.ts) ⟨n,ts,[],gN⟩):(Code.seq x y).wpIn Fence.wide m P Q a w:=by
 refine wpIn_seq ?_;obtain⟨j,p,hC,hk,q⟩:=h;refine wpIn_wide.2 (wp_mono (hx (fun ts'=>∀b w',Live C Jw W0 n ts' b w'->y.wpIn Fence.wide m P Q b w') (fun _ h=>h) j w [] a p) ?_);rintro e b w' ⟨f,j',r,⟨he,h1,g,i,k⟩,l,s⟩;obtain⟨u,ts',aH,h'⟩:=f;simp only at h1 g i k;subst he h1 g i;have t:r=[]:=by have:=l.hl.2.each.length; simpa using this.symm
 subst t;exact k _ _ (Live.next o hC hk q l s)
theorem Live.NZ {x:Code}{R:Act->World->Prop}(o:lD Jw) (h:Live C Jw W0 n ts a w){Q:Exit->Act->World->Prop}
  (hx:∀K:Ts->Prop,(∀ts',(∀b w',Live C Jw W0 n ts' b w'->R b w')->K ts')->ah P x (fun e f=>e=.normal/\f.n=n/\f.ls=[]/\f.h=gN/\K f.ts) ⟨n,ts,[],gN⟩):x.wpIn Fence.wide m P (Exit.then R Q) a w:=by
 obtain⟨j,p,hC,hk,q⟩:=h;refine wpIn_wide.2 (wp_mono (hx (fun ts'=>∀b w',Live C Jw W0 n ts' b w'->R b w') (fun _ h=>h) j w [] a p) ?_);rintro e b w' ⟨f,j',r,⟨he,h1,g,i,k⟩,l,s⟩;obtain⟨u,ts',aH,h'⟩:=f;simp only at h1 g i k;subst he h1 g i;have t:r=[]:=by have:=l.hl.2.each.length; simpa using this.symm
 subst t;exact k _ _ (Live.next o hC hk q l s)
theorem Live.bool {t:Nat}{b:Bool}(h:Live C Jw W0 n ts a w) (g:get ts t=.a (.d (.bool b))):a.eval (.tmp t)=.bool b:=by
 obtain⟨j,i,_⟩:=h;have h1:=i.tmps t;rw [g] at h1;have f:aA j w (.bool b) (a.tmps.getD t undef):=h1;show a.tmps.getD t undef=_;generalize a.tmps.getD t undef=v at f;cases f; rfl
theorem Live.weaken {ts':Ts}(h:Live C Jw W0 n ts a w) (hw:∀k,get ts' k=.any\/get ts' k=get ts k):Live C Jw W0 n ts' a w:=by
 obtain⟨j,b,r⟩:=h;refine⟨j,⟨b.defers,b.size,fun k=>?_,b.hl⟩,r⟩;rcases hw k with e|e
 ·show aZ _ _ _ (get ts' k) _; rw [e]; trivial
 ·show aZ _ _ _ (get ts' k) _; rw [e]; exact b.tmps k
theorem Live.to {ts':Ts}(h:Live C Jw W0 n ts a w) (hk:dV ts ts':=by(repeat (first|exact dV.nil|refine dV.cons rfl ?_))):Live C Jw W0 n ts' a w:=h.weaken hk.get
theorem Live.core {o:Oper}{Q:Exit->Act->World->Prop}{fx:Fx}{v:V}{aH:List (List D)}{h':ag}(p:lD Jw) (q:aq P o ts [] gN fx v aH h') (J:(fx.wl||fx.wh)=false) (t:iy o.dst n=true)
  (h:Live C Jw W0 n ts a w) (K:Act->World->Prop) (y:∀k w',Live C Jw W0 n (gZ o.dst v ts) k w'->K k w'):o.wpIn Fence.wide m P a w K Q:=by
 obtain⟨j,b,hC,hk,z⟩:=h;have h1:=q.step j w [] a b.hl (fun x _=>nC b.tmps x) K Q fun u L M cv j' w' B r hv hl hx l=>by
  obtain⟨E,g,i⟩:=r;have F:fx.wl=false:=by cases hh:fx.wl<;>simp_all
  have G:fx.wh=false:=by cases hh:fx.wh<;>simp_all
  rw [F] at g; rw [G] at i;simp only [cond_false] at g i;subst E g i;have H:B=[]:=by have:=hl.2.each.length; simpa using this.symm
  subst H;exact y _ _ (Live.next p hC hk z (b.put l.toLe hx t hv hl) l)
 refine⟨fun _ _=>trivial, ?_⟩;unfold Oper.wp at h1;rw [show o.semAt Fence.wide.round a.eval=execOp a.eval o from rfl];generalize (execOp a.eval o).run P w=r at h1;cases r with
 | ok I w' =>
  cases I with
  | enter f args=>exact⟨fun h=>(by cases h),callsIn_wide.2 h1⟩
  | row row args=>exact⟨fun h=>(by cases h),fun c cs _=>by obtain⟨v,w',r,s⟩:=h1 c cs; exact⟨v,w',r,stepsIn_wide.2 s⟩⟩
  | round=>exact h1.elim
  | _=>exact h1
 | halt s w'=>cases s<;>exact h1
theorem Live.op {ops:Array Oper}{rest:List Oper}{o:Oper}{Q:Exit->Act->World->Prop}{fx:Fx}{v:V}{aH:List (List D)}{h':ag}(f:lD Jw) (h:Live C Jw W0 n ts a w) (g:aq P o ts [] gN fx v aH h') (i:(fx.wl||fx.wh)=false) (j:o.guard=none) (k:iy o.dst n=true)
  (hr:∀b w',Live C Jw W0 n (gZ o.dst v ts) b w'->wpListIn Fence.wide m P ops Q rest b w'):wpListIn Fence.wide m P ops Q (o::rest) a w :=
 wpListIn_plain j fun K l=>Live.core f g i k h K fun b w' hl=>l _ _ (hr b w' hl)
theorem Live.want {ops:Array Oper}{o:Oper}{g:Nat}{want b:Bool}(f:guardOf ops o=some (g,want)) (i:get ts g=.a (.d (.bool b))) (h:Live C Jw W0 n ts a w):Region.wanted o (yielded ops a.tmps)=(b==want):=by
 obtain⟨j,k,_⟩:=h; exact yI f i (k.tmps g)
theorem Live.pP {ops:Array Oper}{rest:List Oper}{o:Oper}{Q:Exit->Act->World->Prop}{fx:Fx}{v:V}{aH:List (List D)}{h':ag}{g:Nat}{b:Bool}(i:lD Jw) (h:Live C Jw W0 n ts a w) (j:aq P o ts [] gN fx v aH h') (k:(fx.wl||fx.wh)=false) (l:guardOf ops o=some (g,b)) (p:get ts g=.a (.d (.bool b))) (q:iy o.dst n=true)
  (hr:∀f w',Live C Jw W0 n (gZ o.dst v ts) f w'->wpListIn Fence.wide m P ops Q rest f w'):wpListIn Fence.wide m P ops Q (o::rest) a w:=by
 refine wpListIn_step fun K r=>?_;rw [Live.want l p h,if_pos (by simp)];exact Live.core i j k q h K fun f w' hl=>r _ _ (hr f w' hl)
theorem Live.pQ {ops:Array Oper}{rest:List Oper}{o:Oper}{Q:Exit->Act->World->Prop}{g:Nat}{b:Bool}(h:Live C Jw W0 n ts a w) (k:guardOf ops o=some (g,!b)) (l:get ts g=.a (.d (.bool b))) (p:iy o.dst n=true)
  (hr:∀f w',Live C Jw W0 n (gZ o.dst .any ts) f w'->wpListIn Fence.wide m P ops Q rest f w'):wpListIn Fence.wide m P ops Q (o::rest) a w:=by
 refine wpListIn_step fun K q=>?_;rw [Live.want k l h,if_neg (by cases b<;>simp)];obtain⟨j,i,r⟩:=h;exact⟨fun _ _=>trivial,q _ _ (hr _ _ ⟨j,i.put (Le.refl _ _) (Ext.refl _) p (v:=.any) trivial i.hl,r⟩)⟩
theorem Live.vG {d:Nat}{cv:Value}(f:iy (some d) n=true) (v:V) (hv:∀j w,aZ j w [] v cv) (h:Live C Jw W0 n ts a w):Live C Jw W0 n ((d,v)::ts) (a.put (some d) cv) w:=by
 obtain⟨j,b,r⟩:=h;exact⟨j,b.put (Le.refl _ _) (Ext.refl _) (dst:=some d) f (v:=v) (hv _ _) b.hl,r⟩
theorem Live.round {vH:World->Prop}{w':World}(h:Live C Jw W0 n ts a w) (hk:gw C w w') (i:vH w'):Live C vH W0 n ts a w':=by
 obtain⟨j,g,hC,l,_⟩:=h;have m:∀b∈C,j.F b=0:=fun b f=>(hC b f).2;have p:∀b o c,o<j.F b->w.cell? ⟨b,o,none⟩=some c->w'.cell? ⟨b,o,none⟩=some c:=fun b o c q hc=>hk.data m q hc;exact⟨j,⟨g.defers,g.size,fun k=>(g.tmps k).kept p,vE fun b f=>g.hl.1.fresh b (Nat.le_trans hk.size f)⟩,fun b f=>⟨Nat.lt_of_lt_of_le (hC b f).1 hk.size,(hC b f).2⟩,l.trans hk,i⟩
def Pure (ts:Ts):Prop:=∀j j' w w' (k:Nat) v,aZ j w [] (get ts k) v->aZ j' w' [] (get ts k) v
theorem Live.dead {g:World->Prop}{w':World}{ts':Ts}(h:Live C Jw W0 n ts a w) (hw:∀k,get ts' k=.any\/get ts' k=get ts k) (i:Pure ts') (l:g w'):Live [] g w' n ts' a w':=by
 obtain⟨j,f,_⟩:=Live.weaken h hw;exact⟨⟨fun _=>0,fun _=>0,fun _=>none,0⟩,⟨f.defers,f.size,fun k=>i _ _ _ _ _ _ (f.tmps k),vE fun _ _=>rfl⟩,fun b m=>(by cases m),.refl _ _,l⟩
theorem N0 {l:Nat}{f:Operand}{args:Array Operand}{c_:Array TypeId}{dst:Option Tmp}{ty:TypeId}{pos:String}{aC:Array Edge}{g:Option (Nat×Bool)}(b:a.eval f=.func (.yield l) #[] #[]) :
  (execOp a.eval ⟨dst,.call { callee:=.value f,args,argTypes:=c_ },ty,pos,aC,g⟩).run P w=(Instr.yield l (args.map a.eval)).run P w:=by
 simp [execOp,resolve,b,Deferred.ofValue,invoke]
theorem FU {f:FuncId}{args:Array Operand}{c_:Array TypeId}{dst:Option Tmp}{ty:TypeId}{pos:String}{aC:Array Edge}{g:Option (Nat×Bool)}(hc:∀(args:Array Value) (w:World),(callFunc f args).run P w=.ok (.enter f args) w) :
  (execOp a.eval ⟨dst,.call { callee:=.value (.func f),args,argTypes:=c_ },ty,pos,aC,g⟩).run P w=.ok (.enter f (args.map a.eval)) w:=by
 simp [execOp,resolve,Act.eval,Deferred.ofValue,invoke,hc]
theorem Live.val {t:Nat}{x:A}(h:Live C Jw W0 n ts a w) (g:get ts t=.a x):∃j,dY j w gN/\(∀b∈C,b<w.heap.size/\j.F b=0)/\cT j w x (a.eval (.tmp t)):=by
 obtain⟨j,f,hC,_⟩:=h;have h1:=f.tmps t;rw [g] at h1;exact⟨j,f.hl.1,hC,h1⟩
theorem Live.inv (h:Live C Jw W0 n ts a w):Jw w:=let ⟨_,_,_,_,b⟩:=h; b
theorem N1 (t:Nat) (b:Bool):Pure [(t,.a (.d (.bool b)))]:=fun j j' w w' k v h=>by
 by_cases e:t=k
 ·subst e;rw [fQ] at h ⊢;have h':aA j w (.bool b) v:=h;cases h'; exact aA.bool _
 ·rw [fe _ _ e]; trivial
theorem pure_nil:Pure []:=fun _ _ _ _ _ _ _=>trivial
theorem Live.zw {T:List TI}(eP:kA P T){fn:Func}{t:Nat}{b:Bool}(h:Live C Jw W0 n ts a w) (g:get ts t=.a (.d (.bool b))) (hr:fn.results.toList=[.tmp t]):a.defers=[]/\∃v,(results fn a.tmps).run P w=.ok v w/\v=.bool b:=by
 obtain⟨j,f,_⟩:=h;obtain⟨v,h1,i⟩:=EK (P:=P) eP f hr (xs:=[.d (.bool b)]) (by simp [jD,tq,g]);refine⟨f.defers,v,h1, ?_⟩;have k:aA j w (.bool b) v:=i;cases k; rfl
end
theorem N2 (i n:Nat) (h:i<n) (hn:n<=cF):bY ((i:Nat):Int) 1=some (((i+1:Nat)):Int):=by
 unfold bY; unfold cF at hn; rw [if_pos (by omega)]; simp
end Go.Ab
/-
 The rounds of a loop over a function: operations in a round,what a round may have turned; a function that returns behind such a loop. No program text.
-/
namespace Go.Ab
open Go Go.RowKit
variable {an:bf}
section
variable {P:Program}{ops:Array Oper}{rest:List Oper}{o:Oper}{Q:Exit->Act->World->Prop}{a:Act}{W W':World}{F:Fence}{m:Nat}{v:Value}
theorem jI (b:∀f,F.fn f) (g:o.guard=none) (i:∀c,o.op≠.defer c) (hr:(execOp a.eval o).run P W=.ok (.value v) W') (h:wpListIn F m P ops Q rest (a.put o.dst v) W'):wpListIn F m P ops Q (o::rest) a W :=
 wpListIn_plain g fun K j=>⟨fun f _=>b f,by rw [Oper.semAt_eq _ _ _ i,hr]; exact j _ _ h⟩
theorem zx (b:∀f,F.fn f) (g:o.guard=none) (i:∀c,o.op≠.defer c) (hr:(execOp a.eval o).run P W=.ok .skip W') (h:wpListIn F m P ops Q rest (a.put o.dst undef) W'):wpListIn F m P ops Q (o::rest) a W :=
 wpListIn_plain g fun K j=>⟨fun f _=>b f,by rw [Oper.semAt_eq _ _ _ i,hr]; exact j _ _ h⟩
theorem FV (b:∀f,F.fn f) (hw:Region.wanted o (yielded ops a.tmps)=true) (g:∀c,o.op≠.defer c) (hr:(execOp a.eval o).run P W=.ok (.value v) W') (h:wpListIn F m P ops Q rest (a.put o.dst v) W'):wpListIn F m P ops Q (o::rest) a W :=
 wpListIn_step fun K i=>by rw [if_pos hw]; exact⟨fun f _=>b f,by rw [Oper.semAt_eq _ _ _ g,hr]; exact i _ _ h⟩
theorem FW (b:∀f,F.fn f) (hw:Region.wanted o (yielded ops a.tmps)=false) (h:wpListIn F m P ops Q rest (a.put o.dst undef) W):wpListIn F m P ops Q (o::rest) a W :=
 wpListIn_step fun K g=>by rw [hw]; exact⟨fun f _=>b f,g _ _ h⟩
theorem vI {g d:Nat}{want b:Bool}(f:o.guard=some (g,want)) (i:(ops[g]?).bind (·.dst)=some d) (j:a.tmps[d]?=some (.bool b)):Region.wanted o (yielded ops a.tmps)=(b==want):=by
 simp only [Region.wanted,f,yielded,i,Option.bind_some,j];cases b<;>cases want<;>rfl
theorem ic {d k:Nat}(v:Value) (h:d<a.tmps.size):(a.put (some d) v).tmps[k]?=if d=k then some v else a.tmps[k]?:=by
 simp only [Act.put,Array.getElem?_setIfInBounds];by_cases e:d=k
 ·rw [if_pos e,if_pos e,if_pos (e▸h)]
 ·rw [if_neg e,if_neg e]
theorem mu {d k:Nat}{v x:Value}(h:a.tmps[k]?=some x) (b:Nat.beq d k=false):(a.put (some d) v).tmps[k]?=some x:=by
 simp only [Act.put,Array.getElem?_setIfInBounds];rw [if_neg (Nat.ne_of_beq_eq_false b)]; exact h
theorem put_eq {d:Nat}{v:Value}(h:d<a.tmps.size):(a.put (some d) v).tmps[d]?=some v:=by rw [ic _ h,if_pos rfl]
theorem fP {k:Nat}{v:Value}(h:a.tmps[k]?=some v):a.eval (.tmp k)=v:=by
 show a.tmps.getD k undef=v;rw [Array.getD_eq_getD_getElem?,h]; rfl
section
variable {dst:Option Tmp}{ty:TypeId}{pos:String}{aC:Array Edge}{g:Option (Nat×Bool)}
theorem vJ {t:TypeId}{f:TI}{x:Operand}{b:Nat}{j:TypeId}{d:D}(m:aL P t=some f) (hk:f.k.lz=false) (hl:kw f [d] 0=some (.d d)) (hx:a.eval x=.pointer (some ⟨b,0,none⟩)) (o:W.heap[b]?=some (.cells #[v] j (0,0))) (hv:∀l,aA ⟨fun _=>0,fun _=>0,fun _=>none,0⟩ W d l↔l=v) :
  (execOp a.eval ⟨dst,.load t x,ty,pos,aC,g⟩).run P W=.ok (.value v) W:=by
 have hc:Cells ⟨fun _=>0,fun _=>0,fun _=>none,0⟩ W b 0 [d]:=by
  intro i y hi;cases i with
  | zero =>
   simp only [List.getElem?_cons_zero,Option.some.injEq] at hi;subst hi;exact⟨v,by rw [cell_of_row W b _ #[v] j (0,0) o]; simp,(hv v).2 rfl⟩
  | succ i=>simp at hi
 obtain⟨cv,p,q⟩:=pE (P:=P) hc m (K.px hk) hl;have r:cv=v:=(hv cv).1 q;subst r;simp [execOp,Instr.loadAt,Instr.sureAddr,hx,p]
theorem vK {op:BinOp}{t u:TypeId}{x y:Operand}{k:IntKind}{m n:Int}{r:D}(hx:a.eval x=.int k m) (f:a.eval y=.int k n) (hr:nG op k m n=some r) (hv:∀b,aA ⟨fun _=>0,fun _=>0,fun _=>none,0⟩ W r b->b=v) :
  (execOp a.eval ⟨dst,.binOp op t x y u,ty,pos,aC,g⟩).run P W=.ok (.value v) W:=by
 obtain⟨cv,i,j⟩:=EQ (P:=P) (t:=t) hr W;rw [<- hv cv (j _ _)];simp [execOp,hx,f,tt,i]
theorem N3 {t:TypeId}{f:TI}{x y:Operand}{b:Nat}{i:TypeId}{v0:Value}{d:D}(l:aL P t=some f) (j:f.size=1) (hx:a.eval x=.pointer (some ⟨b,0,none⟩)) (m:a.eval y=v) (o:W.heap[b]?=some (.cells #[v0] i (0,0))) (hv:aA ⟨fun _=>0,fun _=>0,fun _=>none,0⟩ W d v) :
  ∃W',(execOp a.eval ⟨none,.store t x y,ty,pos,aC,g⟩).run P W=.ok .skip W'/\fB W W' b (.cells #[v] i (0,0)):=by
 have p:cT ⟨fun _=>0,fun _=>0,fun _=>none,0⟩ W (.d d) v:=hv;obtain⟨W',q,k⟩:=tr (an:=an) (P:=P) (cs:=[v0]) (off:=0) o l p (by rw [j]; rfl) (by rw [j]; exact Nat.le_refl _);have hc:v.cells=#[v]:=by cases hv<;>rfl
 refine⟨W',by simp [execOp,Instr.storeAt,Instr.sureAddr,hx,m,q], ?_⟩;rw [hc] at k;exact k
structure nL (A B:World) (b:Nat) (o:Go.Obj):Prop where
 size:B.heap.size=A.heap.size
 here:B.heap[b]?=some o
 other:∀k,k≠b->B.heap[k]?=A.heap[k]?
 os:B.os=A.os
 tape:B.tape=A.tape
 output:B.output=A.output
theorem fB.toB {A B:World}{b:Nat}{o:Go.Obj}(h:fB A B b o):nL A B b o:=⟨h.size,h.here,h.other,h.os,h.tape,h.output.1⟩
theorem zy {t:TypeId}{f:TI}{x y:Operand}{b:Nat}{i:TypeId}{v0:Value}{d:D}(j:aL P t=some f) (k:f.size=1) (hx:a.eval x=.pointer (some ⟨b,0,none⟩)) (l:a.eval y=v) (m:W.heap[b]?=some (.cells #[v0] i (0,0))) (hv:aA ⟨fun _=>0,fun _=>0,fun _=>none,0⟩ W d v) :
  ∃W',(execOp a.eval ⟨none,.store t x y,ty,pos,aC,g⟩).run P W=.ok .skip W'/\nL W W' b (.cells #[v] i (0,0)):=by
 obtain⟨W',h1,o⟩:=N3 (an:=bf.on) (ty:=ty) (pos:=pos) (aC:=aC) (g:=g) j k hx l m hv;exact⟨W',h1,fB.toB (an:=bf.on) o⟩
theorem run_move {x:Operand}(hx:a.eval x=v):(execOp a.eval ⟨dst,.move x,ty,pos,aC,g⟩).run P W=.ok (.value v) W:=by simp [execOp,hx]
theorem run_assign {x:Operand}(hx:a.eval x=v):(execOp a.eval ⟨dst,.assign x,ty,pos,aC,g⟩).run P W=.ok (.value v) W:=by simp [execOp,hx]
theorem N4 {c x y:Operand}(hc:a.eval c=.bool false) (hx:a.eval y=v):(execOp a.eval ⟨dst,.pick c x y,ty,pos,aC,g⟩).run P W=.ok (.value v) W:=by simp_all [execOp,asBool]
theorem N5 {c x y:Operand}{b:Bool}(hc:a.eval c=.bool b) (hx:(if b then a.eval x else a.eval y)=v):(execOp a.eval ⟨dst,.pick c x y,ty,pos,aC,g⟩).run P W=.ok (.value v) W:=by
 cases b<;>simp_all [execOp,asBool]
end
end
theorem N6 {P:Program}{ops:Array Oper}{rest:List Oper}{Q:Exit->Act->World->Prop}{F:Fence}{m:Nat}(p:∀f,F.fn f){j l i b t:Nat}{o:TI}{w:TypeId}{x:Int}{a:Act}{W:World}{H I z:TypeId}{J K B:String}{f1 f2 f3:Array Edge}
  (C:aL P t=some o) (hO:o.k.lz=false) (L:o.size=1) (hl:∀d,kw o [d] 0=some (.d d)) (h1:a.tmps[j]?=some (.pointer (some ⟨b,0,none⟩))) (E:Nat.beq l j=false/\Nat.beq i j=false) (q:l<a.tmps.size) (s:i<a.tmps.size)
  (G:W.heap[b]?=some (.cells #[.int .i64 x] w (0,0))) (hx : -9223372036854775808<=x+1/\x+1<=9223372036854775807)
  (hr:∀(u:Act) (W':World),(∀k,k≠l->k≠i->u.tmps[k]?=a.tmps[k]?)->u.tmps.size=a.tmps.size->nL W W' b (.cells #[.int .i64 (x+1)] w (0,0))->wpListIn F m P ops Q rest u W') :
  wpListIn F m P ops Q (⟨some l,.load t (.tmp j),H,J,f1,none⟩::⟨some i,.binOp .add t (.tmp l) (.const (.int .i64 1)) t,I,K,f2,none⟩::⟨none,.store t (.tmp j) (.tmp i),z,B,f3,none⟩::rest) a W:=by
 have M:l≠j:=Nat.ne_of_beq_eq_false E.1;have N:i≠j:=Nat.ne_of_beq_eq_false E.2;refine jI p rfl (by simp) (vJ C hO (hl _) (fP h1) G (d:=.int .i64 x) (fun O=>⟨fun h=>(by cases h; rfl),fun h=>(by subst h; exact .int _ _)⟩)) ?_;refine jI p rfl (by simp) (vK (m:=x) (n:=1) (r:=.int .i64 (x+1)) (v:=.int .i64 (x+1)) (k:=.i64) (fP (by rw [ic _ q,if_pos rfl])) rfl (by simp only [nG,Option.some.injEq,D.int.injEq,true_and]; simp only [IntKind.wrap,IntKind.bits,IntKind.signed]; simp; omega) (fun O h=>by cases h; rfl)) ?_
 obtain⟨W',R,S⟩:=zy (P:=P) (t:=t) (a:=(a.put (some l) (.int .i64 x)).put (some i) (.int .i64 (x+1))) (x:=.tmp j) (y:=.tmp i) (v:=.int .i64 (x+1)) (ty:=z) (pos:=B) (aC:=f3) (g:=none) C L
  (fP (by rw [ic _ (by rw [fR]; exact s),if_neg N,ic _ q,if_neg M]; exact h1)) (fP (by rw [ic _ (by rw [fR]; exact s),if_pos rfl])) G (.int _ _)
 refine zx p rfl (by simp) R (hr _ _ (fun k U X=>?_) (by rw [fR,fR,fR]) S);show ((a.put (some l) _).put (some i) _).tmps[k]?=_;rw [ic _ (by rw [fR]; exact s),if_neg (Ne.symm X),ic _ q,if_neg (Ne.symm U)]
theorem N7 {P:Program}{ops:Array Oper}{rest:List Oper}{Q:Exit->Act->World->Prop}{F:Fence}{m:Nat}(i:∀f,F.fn f){G d1 d2 d3 d4 d5 d6 j b t gi:Nat}{s:TI}{K:TypeId}{x y p q:Int}{a:Act}{W:World}{L M N O R S:TypeId}{U X Y Z aa ab:String}{f1 f2 f3 f4 f5 f6:Array Edge}
  (ad:aL P t=some s) (hO:s.k.lz=false) (hl:∀d,kw s [d] 0=some (.d d)) (h1:a.tmps[G]?=some (.pointer (some ⟨b,0,none⟩))) (ae:a.tmps[j]?=some (.int .i64 y)) (af:W.heap[b]?=some (.cells #[.int .i64 x] K (0,0)))
  (l:(ops[gi]?).bind (·.dst)=some d3) (ah:d1<a.tmps.size/\d2<a.tmps.size/\d3<a.tmps.size/\d4<a.tmps.size/\d5<a.tmps.size/\d6<a.tmps.size)
  (ai:Nat.beq d1 j=false/\Nat.beq d2 j=false/\Nat.beq d3 j=false/\Nat.beq d4 d3=false/\Nat.beq d5 d3=false)
  (hr:∀(u:Act),(∀k,k≠d1->k≠d2->k≠d3->k≠d4->k≠d5->k≠d6->u.tmps[k]?=a.tmps[k]?)->u.tmps[d6]?=some (.bool (decide (p<x)||decide (q<y)))->wpListIn F m P ops Q rest u W) :
  wpListIn F m P ops Q (⟨some d1,.load t (.tmp G),L,U,f1,none⟩::⟨some d2,.binOp .gtr t (.tmp d1) (.const (.int .i64 p)) t,M,X,f2,none⟩::⟨some d3,.move (.tmp d2),N,Y,f3,none⟩ ::
   ⟨some d4,.move (.tmp j),O,Z,f4,some (gi,false)⟩::⟨some d5,.binOp .gtr t (.tmp d4) (.const (.int .i64 q)) t,R,aa,f5,some (gi,false)⟩::⟨some d6,.pick (.tmp d3) (.const (.bool true)) (.tmp d5),S,ab,f6,none⟩::rest) a W:=by
 obtain⟨aj,z2,z3,z4,z5,H⟩:=ah;obtain⟨ak,al,am,o,I⟩:=ai;have g:∀(A:Act) (d k:Nat) (v:Value),k≠d->(A.put (some d) v).tmps[k]?=A.tmps[k]?:=fun A d k v h=>by simp only [Act.put,Array.getElem?_setIfInBounds]; rw [if_neg (Ne.symm h)]
 refine jI i rfl (by simp) (vJ ad hO (hl _) (fP h1) af (d:=.int .i64 x) (fun J=>⟨fun h=>(by cases h; rfl),fun h=>(by subst h; exact .int _ _)⟩)) ?_;refine jI i rfl (by simp) (vK (m:=x) (n:=p) (k:=.i64) (r:=.bool (decide (p<x))) (v:=.bool (decide (p<x))) (fP (put_eq aj)) rfl rfl (fun J h=>by cases h; rfl)) ?_;refine jI i rfl (by simp) (run_move (v:=.bool (decide (p<x))) (fP (put_eq (by rw [fR]; exact z2)))) ?_
 have g3:=put_eq (a:=(a.put (some d1) (.int .i64 x)).put (some d2) (.bool (decide (p<x)))) (d:=d3) (v:=.bool (decide (p<x))) (by rw [fR,fR]; exact z3);cases hc:decide (p<x) with
 | true =>
  rw [hc] at g3;refine FW i ((vI rfl l g3).trans rfl) ?_;refine FW i ((vI rfl l (mu g3 o)).trans rfl) ?_;refine jI i rfl (by simp) (N5 (b:=true) (v:=.bool true) (fP (mu (mu g3 o) I)) rfl) ?_;refine hr _ (fun k w k2 z B C E=>?_) (by rw [put_eq (by simp only [fR]; exact H),hc]; simp);rw [g _ _ _ _ E,g _ _ _ _ C,g _ _ _ _ B,g _ _ _ _ z,g _ _ _ _ k2,g _ _ _ _ w]
 | false =>
  rw [hc] at g3;refine FV i ((vI rfl l g3).trans rfl) (by simp) (run_move (v:=.int .i64 y) (fP (mu (mu (mu ae ak) al) am))) ?_;refine FV i ((vI rfl l (mu g3 o)).trans rfl) (by simp) (vK (m:=y) (n:=q) (k:=.i64) (r:=.bool (decide (q<y))) (v:=.bool (decide (q<y))) (fP (put_eq (by simp only [fR]; exact z4))) rfl rfl (fun J h=>by cases h; rfl)) ?_
  refine jI i rfl (by simp) (N4 (v:=.bool (decide (q<y))) (fP (mu (mu g3 o) I)) (fP (put_eq (by simp only [fR]; exact z5)))) ?_;refine hr _ (fun k w k2 z B C E=>?_) (by rw [put_eq (by simp only [fR]; exact H),hc]; simp);rw [g _ _ _ _ E,g _ _ _ _ C,g _ _ _ _ B,g _ _ _ _ z,g _ _ _ _ k2,g _ _ _ _ w]
structure fT (bs:List Nat) (w W:World):Prop where
 size:w.heap.size<=W.heap.size
 os:W.os=w.os
 tape:W.tape=w.tape
 output:W.output=w.output
 other:∀k,k<w.heap.size->k∉bs->W.heap[k]?=w.heap[k]?
theorem fT.refl (bs:List Nat) (w:World):fT bs w w:=⟨Nat.le_refl _,rfl,rfl,rfl,fun _ _ _=>rfl⟩
theorem fT.grown {bs:List Nat}{w A B:World}{row:Option Nat}(h:fT bs w A) (b:A.grownBy B row) (hr:∀r,row=some r->w.heap.size<=r):fT bs w B :=
 ⟨Nat.le_trans h.size b.size,b.os.trans h.os,b.tape.trans h.tape,b.output.trans h.output,fun k hk f=>(b.block k (Nat.lt_of_lt_of_le hk h.size) (fun e=>by have:=hr k e.symm; omega)).trans (h.other k hk f)⟩
theorem fT.FX {bs:List Nat}{w A B:World}{b:Nat}{o:Go.Obj}(h:fT bs w A) (hu:nL A B b o) (f:b∈bs):fT bs w B :=
 ⟨by rw [hu.size]; exact h.size,hu.os.trans h.os,hu.tape.trans h.tape,hu.output.trans h.output,fun k hk hn=>(hu.other k (fun e=>hn (e▸f))).trans (h.other k hk hn)⟩
theorem nL.zz {A B:World}{b:Nat}{o f:Go.Obj}(hu:nL A B b o) (h0:A.heap[b]?=some f) (hc:f.isCells=true):KeepsOthers A B:=by
 exact KeepsOthers.of_grownBy (row:=some b) ⟨hu.os,hu.tape,hu.output,by rw [hu.size]; exact Nat.le_refl _,fun k _ hk=>hu.other k (fun e=>hk (by rw [e]))⟩ fun j o' e g=>by cases e; rw [h0] at g; cases g; exact hc
theorem nL.keep {C:List Nat}{A B:World}{b:Nat}{o:Go.Obj}(hu:nL A B b o) (f:b∈C):gw C A B :=
 ⟨by rw [hu.size]; exact Nat.le_refl _,fun k g hk _ hn=>(hu.other k (fun e=>hn (e▸f))).trans hk⟩
theorem fT.below {bs:List Nat}{w0 w W:World}(h:fT bs w W) (f:Below w0.heap.size w0 w) (hn:∀b∈bs,w0.heap.size<=b):Below w0.heap.size w0 W :=
 ⟨h.os.trans f.os,h.tape.trans f.tape,h.output.trans f.output,Nat.le_trans f.size h.size,fun k hk=>(h.other k (Nat.lt_of_lt_of_le hk f.size) (fun e=>by have:=hn k e; omega)).trans (f.block k hk)⟩
theorem bC.below {j j':J}{w w':World}{O:Nat->Prop}{O':Nat->Prop}(h:bC j w O j' w' O') (hO:∀b,¬O b):Below w.heap.size w w' :=
 ⟨h.os,h.tape,h.output.1,h.size,fun k hk=>(h.frame k hk (hO k)).1⟩
theorem bC.fresh {j j':J}{w w':World}{O:Nat->Prop}{O':Nat->Prop}(h:bC j w O j' w' O') (hO:∀b,¬O b){b:Nat}(f:O' b):w.heap.size<=b:=by
 rcases Nat.lt_or_ge b w.heap.size with h1|h1
 ·exact absurd (h.own b h1 f) (hO b)
 ·exact h1
theorem ah.lE {P:Program}{x y:Code}{σ:St}{j:J}{w:World}{jl:List Nat}{a:Act}{m:Nat}{Q:Exit->Act->World->Prop}(i:dD j w jl σ a)
  (hx:∀K:St->Prop,(∀b,(∀j' w' f g,dD j' w' f b g->bC j w (Own j σ.h jl) j' w' (Own j' b.h f)->y.wpIn Fence.wide m P Q g w')->K b)->ah P x (fun e b=>e=.normal/\K b) σ):(Code.seq x y).wpIn Fence.wide m P Q a w:=by
 refine wpIn_seq (wpIn_wide.2 (wp_mono (hx (fun b=>∀j' w' f g,dD j' w' f b g->bC j w (Own j σ.h jl) j' w' (Own j' b.h f)->y.wpIn Fence.wide m P Q g w') (fun _ h=>h) j w jl a i) ?_));rintro e g w' ⟨b,j',f,⟨he,h1⟩,k,l⟩;subst he;exact h1 _ _ _ _ k l
theorem aA.FY {j:J}{w:World}{k:Nat}{tok:Option Nat}{nl:Bool}{rows:List (List D)}{v:Value}(h:aA j w (.slice k tok nl rows) v):aA j w (.slice k none nl rows) v:=by
 cases h with
 | eU=>exact .eU _ _ (fun t h=>by cases h)
 | slice _ _ _ a cap cv hk hn hc bJ hr ht=>exact .slice _ _ _ a cap cv hk hn hc bJ hr (fun t h=>by cases h)
theorem dD.loc {j:J}{w:World}{jl:List Nat}{n:Nat}{ts:Ts}{ls:List (List D)}{h:ag}{a:Act}(k:dD j w jl ⟨n,ts,ls,h⟩ a){t i:Nat}{xs:List D}(ht:get ts t=.dI i 0) (hl:ls[i]?=some xs) :
  ∃b cs f,jl[i]?=some b/\a.tmps[t]?=some (.pointer (some ⟨b,0,none⟩))/\w.heap[b]?=some (.cells (List.toArray cs) f (0,0))/\aR (aA j w) xs cs/\j.F b=0:=by
 have h1:aZ j w jl (get ts t) (a.tmps.getD t undef):=k.tmps t;rw [ht] at h1;obtain⟨b,l,e⟩:=h1;obtain⟨r,g,cs,f,o,p,q⟩:=k.hl.2.each.get hl;rw [l] at g; simp only [Option.some.injEq] at g; subst g;refine⟨b,cs,f,l, ?_,o,p,q⟩;rw [Array.getD_eq_getD_getElem?] at e;cases m:a.tmps[t]? with
 | none=>rw [m] at e; simp [undef] at e
 | some x=>rw [m] at e; simp at e; rw [e]
theorem N8 {m m':Nat}{P:Program}{l:Nat}{args:Array Value}{W:World}{R:Ending->World->Prop}(h:YieldAt Fence.wide m P l args W R):YieldAt Fence.wide m' P l args W R:=by
 obtain⟨fn,tmps,assign,body,f,b⟩:=h;exact⟨fn,tmps,assign,body,f,b.1,fun c cs _=>b.2 c cs (room_wide _)⟩
section
variable {gv:eN}
theorem ah.N9 {P:Program}{x y:Code}{σ:St}{j:J}{w:World}{jl:List Nat}{a:Act}{m:Nat}{Q:Exit->Act->World->Prop}(i:dD j w jl σ a)
  (hx:∀K:St->Prop,(∀b,(∀j' w' f g,dD j' w' f b g->bC j w (Own j σ.h jl) j' w' (Own j' b.h f)->y.wpIn Fence.wide m P Q g w')->K b)->ah P x (fun e b=>e=.normal/\K b) σ):(Code.seq x y).wpIn Fence.wide m P Q a w:=by
 refine wpIn_seq (wpIn_wide.2 (wp_mono (hx (fun b=>∀j' w' f g,dD j' w' f b g->bC j w (Own j σ.h jl) j' w' (Own j' b.h f)->y.wpIn Fence.wide m P Q g w') (fun _ h=>h) j w jl a i) ?_));rintro e g w' ⟨b,j',f,⟨he,h1⟩,k,l⟩;subst he;exact h1 _ _ _ _ k l
def Fin [bf] (j:J) (w:World) (h:ag) (Post:V->ag->Prop):Ending->World->Prop:=fun e w'=>∃r cv j' h',e=.returned cv/\Post r h'/\aZ j' w' [] r cv/\dY j' w' h'/\bC j w (Own j h []) j' w' (Own j' h' [])
theorem FZ {P:Program}{T:List TI}(eP:kA P T){fn:Func}{n:Nat}{j j':J}{w w':World}{jl:List Nat}{h:ag}{σ:St}{a:Act}{rs:List ResultVar}{xs:List A}{Post:V->ag->Prop}(b:dD j' w' jl σ a) (f:fn.results.toList=rs) (g:jD T σ rs=some xs)
  (i:bC j w (Own j h []) j' w' (Own j' σ.h jl)) (k:Post (jE xs) σ.h):LeavesInM Fence.wide n P fn a.tmps (Fin j w h Post) [] .returning w':=by
 obtain⟨v,hv,l⟩:=EK (P:=P) eP b f g;obtain⟨m,o⟩:=b.hl.trim 0;exact⟨v,hv,jE xs,v,j',σ.h,rfl,k,l,m.1,i.trans o⟩
theorem Oa {j:J}{w:World}{D:Nat}(f:w.heap[D]?=some (.deferred (some []))):Le j w j (w.putObj D (.deferred none)):=by
 refine⟨Nat.le_refl _,fun _ _=>rfl,fun _=>Nat.le_refl _,fun b o _=>?_,fun _ _=>.inl rfl⟩;by_cases e:b=D
 ·subst e;have h1:(w.putObj b (.deferred none)).heap[b]?=some (.deferred none):=World.putObj_heap_same (fN f);unfold World.cell?;simp only [f,h1]
 ·exact World.cell?_of_block (World.putObj_heap_other e)
theorem F1 {P:Program}{T:List TI}(eP:kA P T){fn:Func}{n:Nat}{j j':J}{w w':World}{jl:List Nat}{h:ag}{σ:St}{a:Act}{rs:List ResultVar}{xs:List A}{Post:V->ag->Prop}{D:Nat}(g:dD j' w' jl σ a) (m:fn.results.toList=rs) (o:jD T σ rs=some xs)
  (f:bC j w (Own j h []) j' w' (Own j' σ.h jl)) (p:Post (jE xs) σ.h) (l:w'.heap[D]?=some (.deferred (some []))) (hw:w.heap.size<=D) (hn:¬Own j' σ.h jl D) :
  LeavesInM Fence.wide n P fn a.tmps (Fin j w h Post) [{ target:=.collected D,args:=#[] }] .returning w':=by
 refine⟨by simp,.inl ⟨_,_,rfl,run_takeDeferred l, ?_⟩⟩;have hle:Le j' w' j' (w'.putObj D (.deferred none)):=Oa l;have hk:=g.hl.keep hle (fun b i=>⟨World.putObj_heap_other (fun e=>hn (e▸i)),rfl⟩) (fun _ _ _=>rfl) (fun b i=>g.hl.1.fresh b (by simpa using i));have q:dD j' (w'.putObj D (.deferred none)) jl σ a:=⟨g.defers,g.size,fun k=>(g.tmps k).mono hle (Ext.refl _),hk.1⟩;refine FZ eP q m o ⟨f.toLe.trans hle,by simpa using f.size,fun b i r=>?_,f.own,f.os,f.tape,f.output⟩ p
 rw [World.putObj_heap_other (by omega:b≠D)];exact f.frame b i r
end
theorem fT.le {bs:List Nat}{j:J}{w W:World}(h:fT bs w W) (g:∀b∈bs,j.F b=0) (i:∀b,w.heap.size<=b->j.F b=0):Le j w j W:=by
 refine⟨Nat.le_refl _,fun _ _=>rfl,fun _=>Nat.le_refl _,fun b o f=>?_,fun _ _=>.inl rfl⟩;refine World.cell?_of_block (h.other b ?_ ?_)
 ·rcases Nat.lt_or_ge b w.heap.size with h1|h1
  ·exact h1
  ·rw [i b h1] at f; omega
 ·intro k; rw [g b k] at f; omega
theorem fT.F2 [hq:gM an] {bs:List Nat}{j:J}{w W:World}{O O':Nat->Prop}(h:fT bs w W) (g:∀b∈bs,j.F b=0) (i:∀b,w.heap.size<=b->j.F b=0) (hO:∀b∈bs,O b) (k:∀b,O' b->O b):bC j w O j W O' :=
 { toLe:=h.le g i,size:=h.size,frame:=fun b l f=>⟨h.other b l (fun e=>f (hO b e)),rfl⟩,own:=fun b _ f=>k b f,os:=h.os,tape:=h.tape,output:=⟨h.output,.inr hq.is⟩ }
theorem fT.hl {bs:List Nat}{j:J}{w W:World}{jl:List Nat}{ls:List (List D)}{h:ag}(hu:fT bs w W) (g:∀b∈bs,j.F b=0) (hl:HL j w jl ls h) (hn:∀b∈bs,¬Own j h jl b):HL j W jl ls h :=
 (hl.keep (hu.le g hl.1.fresh) (fun b f=>⟨hu.other b (f.lt hl) (fun e=>hn b e f),rfl⟩) (fun _ _ _=>rfl) (fun b f=>hl.1.fresh b (Nat.le_trans hu.size f))).1
end Go.Ab
/-
 append to nil: an immutable slice. No program text.
-/
namespace Go.Ab
open Go Go.RowKit
variable {an:bf}
theorem aq.Ob {P:Program}{ts:Ts}{ls:List (List D)}{h:ag}{dst:Option Tmp}{ty:TypeId}{pos:String}{aC:Array Edge}{g:Option (Nat×Bool)}{t u e:TypeId}{I B b:TI}{s i:Nat}{k k':Nat}{aT:List (List D)}{z:A}(R:aL P t=some I) (hk:I.k=.slice e) (S:aL P e=some b) (U:aL P u=some B) (W:(∃e,B.k=.slice e)\/B.k=.str)
  (X:b.zero=some z) (Y:(cA z).length=b.size) (Z:b.size≠0)
  (hx:get ts s=.a (.d (.slice k none true []))) (aa:get ts i=.full k' aT) (J:Nat.beq s i=false) (ab:k'=b.size)
  (ad:aT.length*b.bytes<=cF) (hlen:aT.length<=cF) :
  aq P (mk dst (.call { callee:=.builtin .append,args:=#[.tmp s,.tmp i],argTypes:=#[t,u] }) ty pos aC g) ts ls h {} (.a (.d (.slice b.size none aT.isEmpty aT))) ls h:=by
 intro L H _ _ j w jl a hl ae K Q af;obtain⟨h1,l⟩:=hl.dQ b.size;have ah:=hl.1.kq (Nat.le_refl _);have hc:=aq.vq (an:=an) (P:=P) (ts:=(s,.a (.d (.slice k (some j.next) true [])))::ts) (ls:=L) (h:=H.set j.next (some (.tok b.size 0))) (dst:=dst) (ty:=ty) (pos:=pos) (aC:=aC) (g:=g) (x:=.tmp s) (y:=.tmp i) (tk:=j.next) (k:=k) (m:=0) (E:=none) (nl:=true) (rows:=[]) (aT:=aT) (z:=z) R hk S U W X Y Z (fQ _ _ _)
  (fun j w jl cv hv=>by
   have C:aZ j w jl (get ts i) cv:=by
    have:get ((s,.a (.d (.slice k (some j.next) true [])))::ts) i=get ts i:=fe _ _ (Nat.ne_of_beq_eq_false J);have M:aZ j w jl (get _ i) cv:=hv;rw [fe _ _ (Nat.ne_of_beq_eq_false J)] at M; exact M
   rw [aa] at C;refine Src.slice C.1 fun r hr=>?_;obtain⟨_,_,_,_,_,_,_,hh,_⟩:=kC (jl:=jl) C.1;rw [<- ab]; exact hh r hr) (.inr rfl) (ag.cn ..) rfl (by simpa using ad) (by simpa using hlen)
 refine(aq.step (an:=an) hc) j.dQ w jl a h1 (fun x F=>?_) K Q ?_
 ·have p:=ae x F;cases x with
  | tmp q =>
   by_cases e:s=q
   ·subst e;have N:aZ j w jl (get ts s) (a.eval (.tmp s)):=p;rw [hx] at N;have O:aA j w (.slice k none true []) (a.eval (.tmp s)):=N;show aZ _ _ _ (get _ s) _;rw [fQ];generalize a.eval (.tmp s)=cv at O;cases O;exact aA.eU _ _ (fun t ht=>by cases ht; exact Nat.lt_succ_self _)
   ·show aZ _ _ _ (get _ q) _;rw [fe _ _ e]; exact aZ.mono l.toLe (Ext.refl _) p
  | const v=>exact aZ.mono l.toLe (Ext.refl _) p
  | global q=>exact aZ.mono l.toLe (Ext.refl _) p
  | func f=>exact aZ.mono l.toLe (Ext.refl _) p
 ·rintro v aH h' cv j' w' ai ⟨rfl,rfl,rfl⟩ hv aj F ak;have al:∀id o,H id=some o->((H.set j.next (some (.tok b.size 0))).set j.next (some (.tok b.size (0+aT.length)))) id=some o:=fun id o G=>by
   by_cases e:id=j.next
   ·rw [e,ah] at G; cases G
   ·simp only [ag.set,if_neg e]; exact G
  obtain⟨am,ao⟩:=aj.forget al;have ap:aA j' w' (.slice b.size (some j.next) (true&&aT.isEmpty) ([]++aT)) cv:=hv;exact af _ _ _ _ j' w' ai ⟨rfl,rfl,rfl⟩ (show aA j' w' (.slice b.size none aT.isEmpty aT) cv by simpa using ap.FY) am F ((l.trans ak).trans ao)
theorem aR.Oc {α β:Type}{R:α->β->Prop}{l:List α}{m:List β}(h:aR R l m) (i:Nat){x y:α}(hx:l[i]?=some x) (hr:∀b,R x b->R y b):aR R (l.set i y) m:=by
 refine aR.l_ (by rw [List.length_set,h.length]) fun k a b f o=>?_;rw [List.getElem?_set] at f
 split at f
 ·rename_i e
  subst e
  split at f
  ·obtain rfl:=Option.some.inj f;obtain⟨p,g,j⟩:=h.get hx;rw [o] at g;obtain rfl:=Option.some.inj g;exact hr _ j
  ·cases f
 ·obtain⟨p,g,j⟩:=h.get f;rw [o] at g;obtain rfl:=Option.some.inj g;exact j
end Go.Ab
/-
 A state in which a local's cells are read in another way is weaker. No program text.
-/
namespace Go.Ab
open Go Go.RowKit
variable {an:bf}
end Go.Ab
namespace Go.Ab
variable {an:bf}
def on {α β:Sort _}(v:α) (k:α->β):β:=k v
namespace Q
universe u
variable {R O O2 Z:Type}{α:Type}
theorem py {c:Bool}{a b r:α}(h:c=true) (f:a=r):cond c a b=r:=by rw [h]; exact f
theorem mg {c:Bool}{a b r:α}(h:c=false) (f:b=r):cond c a b=r:=by rw [h]; exact f
theorem F3 {c:Bool}{a b:Option R}{x y:O}{K:O->Option R}(h1:a=K x) (f:b=K y):cond c a b=K (cond c x y):=by cases c<;>assumption
theorem kF {c:Bool}{a b:Option R}{x y:Option O}{K:O->Option R}(h1:a=Option.bind x K) (f:b=Option.bind y K):cond c a b=Option.bind (cond c x y) K:=by cases c<;>assumption
theorem mv {o:Option α}{v:α}{k:α->Option R}{K:O->Option R}{b:α->Option O}(h:o=some v) (f:∀x,x=v->k x=Option.bind (b x) K):o.bind k=Option.bind (on v b) K:=by rw [h]; exact f v rfl
theorem nM {o o':Option α}{k:α->Option R}{K:O->Option R}{b:α->Option O}(h:o=o') (f:∀x,k x=Option.bind (b x) K):o.bind k=Option.bind (o'.bind b) K:=by
 rw [h]; cases o' with
 | none=>rfl
 | some v=>exact f v
theorem Od {c:Bool}{o:Option α}{v d:α}{k:α->Option R}{K:O->Option R}{b:α->Option O}(h:o=some v) (f:∀x,x=cond c v d->k x=Option.bind (b x) K):aQ c o d k=Option.bind (on (cond c v d) b) K:=by
 rw [h]; cases c<;>exact f _ rfl
theorem F4 {c:Bool}{o o':Option α}{d:α}{k:α->Option R}{K:O->Option R}{b:α->Option O}(h:o=o') (f:∀x,k x=Option.bind (b x) K):aQ c o d k=Option.bind (aQ c o' d b) K:=by
 rw [h]; cases c with
 | false=>exact f d
 | true =>
  cases o' with
  | none=>rfl
  | some v=>exact f v
variable {lhs:Option R}
theorem q6 {q:Z}{b:Z->Option O}{K:O->Option R}(h:∀f:Z->Option R,(∀o,f o=Option.bind (b o) K)->lhs=f q):lhs=Option.bind (on q b) K:=h (fun o=>Option.bind (b o) K) fun _=>rfl
theorem q7 {q:Option Z}{b:Z->Option O}{K:O->Option R}(h:∀f:Z->Option R,(∀o,f o=Option.bind (b o) K)->lhs=Option.bind q f):lhs=Option.bind (Option.bind q b) K:=by
 rw [h (fun o=>Option.bind (b o) K) fun _=>rfl]; cases q<;>rfl
theorem Oe {α:Type}(o:Option α):Option.bind o some=o:=by cases o<;>rfl
theorem lF {l:List α}{i:Nat}{x:α}(h:l[i]?=some x):l.drop i=x::l.drop (i+1):=by
 obtain⟨hi,rfl⟩:=List.getElem?_eq_some_iff.1 h;exact List.drop_eq_getElem_cons hi
theorem vL {i n:Nat}(h:i<n):decide ((i:Int)<(n:Int))=true:=by simpa using h
theorem zA {i n:Nat}(h:¬i<n):decide ((i:Int)<(n:Int))=false:=by simpa using h
theorem vM {s:Sl α}{i:Nat}(h:i<=s.l.length):nJ s none (some ((i:Nat):Int))=some ⟨s.nl,s.l.take i⟩:=by
 unfold nJ; rw [if_pos (by simp; omega)]; simp
end Q
end Go.Ab
namespace Go.Ab
variable {an:bf}
theorem Q.getD_some {α:Type}{l:List α}{i:Nat}{d:α}(h:i<l.length):l[i]?=some (l[i]?.getD d):=by simp [h]
theorem Q.Of {s:Bs}{n:Nat}(h:n<=s.length):vz s none (some ((n:Nat):Int))=some (List.take n s):=by
 unfold vz; rw [if_pos (by simp; omega)]; simp
theorem Q.preB {α R:Type}{o:Option α}{v:α}{k:α->Option R}{r:Option R}(h:o=some v) (b:∀x,x=v->k x=r):o.bind k=r:=by rw [h]; exact b v rfl
theorem Q.F5 {α:Type}{c d:Bool}{a b r:α}(h:c=true) (f:cond d a b=r):cond (c&&d) a b=r:=by rw [h]; simpa using f
theorem Q.F6 {α:Type}{c d:Bool}{a b r:α}(h:c=false) (f:b=r):cond (c&&d) a b=r:=by rw [h]; simpa using f
end Go.Ab
/-
 Walks over the list layer: what is known of the result is taken apart in the new form (a bind,a value under a name,a guard,a choice,a join,a loop over a list).
-/
namespace Go.Ab
open Go
section
variable {R O Z α:Type}{r:R}
theorem qT {o o':Option α}{k:α->Option R}(p:o'=o) (h:o.bind k=some r):∃x,o'=some x/\k x=some r:=by rw [p]; exact cS h
theorem qO {o o':Option α}{k:α->Option O}{K:O->Option R}(p:o'=o) (h:Option.bind (o.bind k) K=some r):∃x,o'=some x/\Option.bind (k x) K=some r:=by
 rw [p]; cases o with
 | none=>cases h
 | some v=>exact⟨v,rfl,h⟩
theorem vT {o:Option α}{v:α}{k:α->Option R}(p:o=some v) (h:on v k=some r):∃x,o=some x/\k x=some r:=⟨v,p,h⟩
theorem vO {o:Option α}{v:α}{k:α->Option O}{K:O->Option R}(p:o=some v) (h:Option.bind (on v k) K=some r):∃x,o=some x/\Option.bind (k x) K=some r:=⟨v,p,h⟩
theorem vP {o:Option α}{v:α}{k:α->O}{K:O->Option R}(p:o=some v) (h:K (on v k)=some r):∃x,o=some x/\K (k x)=some r:=⟨v,p,h⟩
theorem q8 {c:Bool}{o:Option α}{v d:α}{k:α->Option R}(p:c=true->o=some v) (h:on (cond c v d) k=some r):∃x,(c=true->o=some x)/\k x=some r :=
 ⟨cond c v d,fun e=>by rw [e]; exact p e,h⟩
theorem eV {c:Bool}{o:Option α}{v d:α}{k:α->Option O}{K:O->Option R}(p:c=true->o=some v) (h:Option.bind (on (cond c v d) k) K=some r):∃x,(c=true->o=some x)/\Option.bind (k x) K=some r :=
 ⟨cond c v d,fun e=>by rw [e]; exact p e,h⟩
theorem mw {c:Bool}{o:Option α}{v d:α}{k:α->O}{K:O->Option R}(p:c=true->o=some v) (h:K (on (cond c v d) k)=some r):∃x,(c=true->o=some x)/\K (k x)=some r :=
 ⟨cond c v d,fun e=>by rw [e]; exact p e,h⟩
theorem dB {c:Bool}{o o':Option α}{d:α}{k:α->Option R}(p:o'=o) (h:aQ c o d k=some r):∃x,(c=true->o'=some x)/\k x=some r:=by rw [p]; exact zb h
theorem eR {c:Bool}{o o':Option α}{d:α}{k:α->Option O}{K:O->Option R}(p:o'=o) (h:Option.bind (aQ c o d k) K=some r):∃x,(c=true->o'=some x)/\Option.bind (k x) K=some r:=by
 rw [p]; unfold aQ at h; split at h
 ·obtain⟨x,e,b⟩:=qO rfl h; exact⟨x,fun _=>e,b⟩
 ·rename_i hc; exact⟨d,fun e=>absurd e hc,h⟩
theorem cC {t:Z}{b:Z->Option R}(h:on t b=some r):∃K:Z->Option R,(∀z,K z=b z)/\K t=some r:=⟨b,fun _=>rfl,h⟩
theorem gP {t:Z}{b:Z->Option O}{K:O->Option R}(h:Option.bind (on t b) K=some r):∃J:Z->Option R,(∀z,J z=Option.bind (b z) K)/\J t=some r:=⟨fun z=>Option.bind (b z) K,fun _=>rfl,h⟩
theorem fo {t:Z}{b:Z->O}{K:O->Option R}(h:K (on t b)=some r):∃J:Z->Option R,(∀z,J z=K (b z))/\J t=some r:=⟨fun z=>K (b z),fun _=>rfl,h⟩
theorem cG {t:Option Z}{b:Z->Option R}(h:Option.bind t b=some r):∃J:Z->Option R,(∀z,J z=b z)/\Option.bind t J=some r:=⟨b,fun _=>rfl,h⟩
theorem eG {t:Option Z}{b:Z->Option O}{K:O->Option R}(h:Option.bind (Option.bind t b) K=some r):∃J:Z->Option R,(∀z,J z=Option.bind (b z) K)/\Option.bind t J=some r :=
 ⟨fun z=>Option.bind (b z) K,fun _=>rfl,by cases t<;>exact h⟩
theorem mT {b:Sort _}{F:b}{t:b->Option R}(h:on F t=some r):∃k,k=F/\t k=some r:=⟨F,rfl,h⟩
theorem mO {b:Sort _}{F:b}{t:b->Option O}{K:O->Option R}(h:Option.bind (on F t) K=some r):∃k,k=F/\Option.bind (t k) K=some r:=⟨F,rfl,h⟩
theorem mP {b:Sort _}{F:b}{t:b->O}{K:O->Option R}(h:K (on F t)=some r):∃k,k=F/\K (t k)=some r:=⟨F,rfl,h⟩
theorem ku {K F:Z->Option R}{z:Z}(h:∀z,K z=F z) (e:K z=some r):F z=some r:=by rw [<- h]; exact e
theorem dl {l:List α}{i:Nat}{x:α}(h:l[i]?=some x):l.length-(i+1)<l.length-i:=by
 obtain⟨hi,_⟩:=List.getElem?_eq_some_iff.1 h; omega
theorem dn {n i:Nat}(h:i<n):n-(i+1)<n-i:=by omega
end
section
variable {an:bf}{P:Program}{c:Operand}{u v:Code}{Q:Exit->St->Prop}{σ:St}{b:Bool}{α R:Type}{r:R}
theorem ah.kF {A B:Option α}{K:α->Option R}(f:Option.bind (bif b then A else B) K=some r) (hc:ev σ.ts c=.a (.d (.bool b))) (ht:b=true->Option.bind A K=some r->ah P u Q σ) (g:b=false->Option.bind B K=some r->ah P v Q σ):ah P (.cond c u v) Q σ :=
 ah.cond hc (fun h=>ht h (by subst h; exact f)) (fun h=>g h (by subst h; exact f))
theorem ah.F3 {A B:α}{K:α->Option R}(f:K (bif b then A else B)=some r) (hc:ev σ.ts c=.a (.d (.bool b))) (ht:b=true->K A=some r->ah P u Q σ) (g:b=false->K B=some r->ah P v Q σ):ah P (.cond c u v) Q σ :=
 ah.cond hc (fun h=>ht h (by subst h; exact f)) (fun h=>g h (by subst h; exact f))
theorem ah.cL {l:List α}{i:Nat}(p:List α->Prop) (b:p (l.drop i)) (hc:ev σ.ts c=.a (.d (.bool (decide (((i:Nat):Int)<((l.length:Nat):Int))))))
  (ht:∀x,l[i]?=some x->decide (((i:Nat):Int)<((l.length:Nat):Int))=true->p (x::l.drop (i+1))->ah P u Q σ) (j:decide (((i:Nat):Int)<((l.length:Nat):Int))=false->p []->ah P v Q σ):ah P (.cond c u v) Q σ:=by
 refine ah.cond hc (fun h=>?_) (fun h=>?_)
 ·have f:i<l.length:=by have:=of_decide_eq_true h; omega
  have g:l[i]?=some l[i]:=List.getElem?_eq_getElem f;exact ht _ g h (by rw [<- Go.Ab.Q.lF g]; exact b)
 ·have f:¬((i:Nat):Int)<((l.length:Nat):Int):=of_decide_eq_false h;exact j h (by rw [List.drop_of_length_le (by omega)] at b; exact b)
theorem ah.zB {n i:Nat}(p:Nat->Prop) (b:p (n-i)) (hc:ev σ.ts c=.a (.d (.bool (decide (((i:Nat):Int)<((n:Nat):Int))))))
  (ht:i<n->decide (((i:Nat):Int)<((n:Nat):Int))=true->p (n-(i+1)+1)->ah P u Q σ) (g:decide (((i:Nat):Int)<((n:Nat):Int))=false->p 0->ah P v Q σ):ah P (.cond c u v) Q σ:=by
 refine ah.cond hc (fun h=>?_) (fun h=>?_)
 ·have f:i<n:=by have:=of_decide_eq_true h; omega
  exact ht f h (by rw [show n-(i+1)+1=n-i by omega]; exact b)
 ·have f:¬((i:Nat):Int)<((n:Nat):Int):=of_decide_eq_false h;exact g h (by rw [show n-i=0 by omega] at b; exact b)
theorem ah.iM {l:List α}{i:Nat}{d b:Bool}(p:List α->Prop) (E:Prop) (f:p (l.drop i)) (he:p []->E) (m:∀x,d=false->p (x::l.drop (i+1))->E) (k:b=(decide (((i:Nat):Int)<((l.length:Nat):Int))&&d)) (hc:ev σ.ts c=.a (.d (.bool b)))
  (ht:∀x,l[i]?=some x->b=true->d=true->p (x::l.drop (i+1))->ah P u Q σ) (o:b=false->E->ah P v Q σ):ah P (.cond c u v) Q σ:=by
 refine ah.cond hc (fun h=>?_) (fun h=>o h ?_)
 ·have h0:=h; rw [k,Bool.and_eq_true] at h0;have g:i<l.length:=by have:=of_decide_eq_true h0.1; omega
  have j:l[i]?=some l[i]:=List.getElem?_eq_getElem g;exact ht _ j h h0.2 (by rw [<- Go.Ab.Q.lF j]; exact f)
 ·by_cases g:i<l.length
  ·have j:l[i]?=some l[i]:=List.getElem?_eq_getElem g;rw [Go.Ab.Q.lF j] at f;refine m _ ?_ f;rw [k,Go.Ab.Q.vL g,Bool.true_and] at h; exact h
  ·exact he (by rw [List.drop_of_length_le (by omega)] at f; exact f)
end
end Go.Ab
namespace Go.Ab
variable {an:bf}
def Ok {α:Type}(o:Option α):Prop:=∃r,o=some r
namespace aW
variable {α β:Type}
theorem some (a:α):Ok (Option.some a):=⟨a,rfl⟩
theorem bind {o:Option α}{k:α->Option β}(h:Ok o) (b:∀v,o=Option.some v->Ok (k v)):Ok (o.bind k):=by
 obtain⟨v,hv⟩:=h; rw [hv]; exact b v hv
theorem guard {c:Bool}{o:Option α}{d:α}{k:α->Option β}(h:c=true->Ok o) (b:∀v,(c=true->o=Option.some v)->(c=false->v=d)->Ok (k v)):Ok (aQ c o d k):=by
 cases c with
 | false=>exact b d (fun h=>by cases h) (fun _=>rfl)
 | true=>obtain⟨v,hv⟩:=h rfl; unfold aQ; rw [if_pos rfl,hv]; exact b v (fun _=>hv) (fun h=>by cases h)
theorem cond {c:Bool}{a b:Option α}(h:c=true->Ok a) (f:c=false->Ok b):Ok (_root_.cond c a b):=by
 cases c with
 | false=>exact f rfl
 | true=>exact h rfl
theorem on {v:α}{k:α->Option β}(h:∀x,x=v->Ok (k x)):Ok (Go.Ab.on v k):=h v rfl
end aW
theorem fU {a b:Int}(h : -9223372036854775808<=a+b/\a+b<=9223372036854775807):bY a b=some (a+b):=by unfold bY; rw [if_pos h]
theorem F7 {a b:Int}(h : -9223372036854775808<=a-b/\a-b<=9223372036854775807):pJ a b=some (a-b):=by unfold pJ; rw [if_pos h]
theorem Og {α:Type}{l:List α}{n:Int}(h:0<=n/\n<l.length):Ok (cq l n):=by
 have b:n.toNat<l.length:=by omega
 unfold cq; rw [if_pos h.1,List.getElem?_eq_getElem b]; exact⟨_,rfl⟩
theorem Oh {α:Type}{l:List α}{n:Nat}(h:n<l.length):Ok (l[n]?):=⟨l[n],List.getElem?_eq_getElem h⟩
theorem gG {α:Type}{z:Nat}{s r:Sl α}(b:z<=64) (h:s.l.length+r.l.length<=1099511627776):bp z s r=some ⟨s.nl&&r.l.isEmpty,s.l++r.l⟩:=by
 unfold bp; rw [if_pos];have:(s.l.length+r.l.length)*z<=(s.l.length+r.l.length)*64:=Nat.mul_le_mul_left _ b;unfold cF; omega
theorem cM {a b:Bs}(h:a.length+b.length<=1152921504606846976):a_ a b=some (a++b):=by
 unfold a_; rw [if_pos (by unfold eH; omega)]
theorem F8 {α:Type}{s:Sl α}(h:1<=s.l.length):nJ s (some (1:Int)) none=some ⟨s.nl,s.l.drop 1⟩:=by
 unfold nJ; rw [if_pos (by simp; omega)]; simp
theorem F9 {α:Type}{f:α->Nat}{l:List α}{x:α}(h:x∈l):f x<=(l.map f).sum:=by
 induction l with
 | nil=>cases h
 | cons a r b =>
  rcases List.mem_cons.1 h with rfl|h
  ·simp
  ·have:=b h; simp; omega
theorem eD:F0=4611686018427387904:=rfl
end Go.Ab
namespace Go.Ab
variable {an:bf}
end Go.Ab
/-
 Inputs: what a call is handed,read as plain data; what it leaves.
-/
namespace Go.Ab
open Go Go.RowKit Go.ChangeShapes Go.WideShapes Go.ChangeAt
variable {an:bf}
def j0 (w:World):J:=⟨fun _=>0,fun b=>match w.heap[b]? with|some (.cells cs _ _)=>cs.size|_=>0,fun _=>none,0⟩
def h0:ag:=fun _=>none
theorem Oi {w:World}{b o:Nat}{v:Value}(h:w.cell? ⟨b,o,none⟩=some v):o<(j0 w).F b:=by
 unfold World.cell? at h;simp only [j0]
 split at h
 ·rename_i c t f hc
  simp at h;simp only at hc;rw [hc];exact(Array.getElem?_eq_some_iff.1 h).1
 ·cases h
theorem cell_spot {w:World}{a:Addr}{v:Value}(h:w.cell? a=some v):a.spot=none:=by
 unfold World.cell? at h
 split at h
 ·split at h
  ·cases h
  ·rename_i b; simpa using b
 ·cases h
structure tL {H:Type}(B:DataW H->Nat):Prop where
 one:∀d,1<=B d
 str:∀b,b.length+1<=B (.lit (.string b))
 slice:∀e s,(e.map B).sum+1<=B (.slice e s)
 agg:∀l,(l.map B).sum<=B (.agg l)
structure de {H:Type}(P:Program) (B:DataW H->Nat) (N:Nat) (t:TypeId){α:Type}(R:α->List D) (sz:α->Nat) (wf:α->Prop):Prop where
 rd:∀{enc:TypeId×Value->H}{w:World}{base:Nat}{sp:Nat->Bool}{held:Bool}{fuel:Nat}{cs:List Value}{x:DataW H×List MemPlace},
  fuel<=N->DataW.trod enc P w base sp held fuel t cs=some x->B x.1<=1048576->∃a,aR (aA (j0 w) w) (R a) cs/\sz a<=B x.1/\wf a
theorem de.zero {H:Type}{P:Program}{B:DataW H->Nat}{t:TypeId}{α:Type}{R:α->List D}{sz:α->Nat}{wf:α->Prop}:de P B 0 t R sz wf :=
 ⟨fun b h _=>by rw [Nat.le_zero.1 b] at h; simp [DataW.trod] at h⟩
theorem zC {P:Program}{t:TypeId}{b:TI}(f:aL P t=some b):P.cellsOf t=b.size:=by
 obtain⟨i,d,h1,_,g,_⟩:=fS f;unfold Program.cellsOf; rw [h1]; exact g
theorem vN {P:Program}{t:TypeId}{b:TI}(f:aL P t=some b):∃d,P.underlying t=some d/\fF d=b.k:=by
 obtain⟨i,d,_,h1,_,_,g,_⟩:=fS f;exact⟨d,h1,g⟩
theorem Oj {P:Program}{t:TypeId}{b:TI}(g:aL P t=some b) (hk:b.k=.str):P.underlying t=some .string:=by
 obtain⟨d,h1,f⟩:=vN g;rw [hk] at f; cases d<;>simp [fF] at f; exact h1
theorem Ol {P:Program}{t:TypeId}{b:TI}(g:aL P t=some b) (hk:b.k=.bool):P.underlying t=some .bool:=by
 obtain⟨d,h1,f⟩:=vN g;rw [hk] at f; cases d<;>simp [fF] at f; exact h1
theorem Om {P:Program}{t:TypeId}{f:TI}{k:IntKind}(g:aL P t=some f) (hk:f.k=.int k):P.underlying t=some (.int k):=by
 obtain⟨d,h1,b⟩:=vN g;rw [hk] at b; cases d<;>simp [fF] at b; subst b; exact h1
theorem F_ {P:Program}{t:TypeId}{g:TI}{ps:List (Nat×TypeId)}(i:aL P t=some g) (hk:g.k=.struct ps):∃fs:Array Go.Field,P.underlying t=some (.struct fs)/\fs.toList.map (fun f=>(f.offset,f.type))=ps:=by
 obtain⟨d,h1,b⟩:=vN i;rw [hk] at b; cases d<;>simp [fF] at b; exact⟨_,h1,by simpa using b⟩
def tG.sz (s:tG):Nat:=s.1.length+1
def iL.sz {α:Type}(f:α->Nat) (s:iL α):Nat:=1+(s.l.map f).sum
def iL.wf {α:Type}(p:α->Prop) (s:iL α):Prop:=∀x∈s.l,p x
def i64 (n:Int):Prop := -9223372036854775808<=n/\n<=9223372036854775807
section
variable {H:Type}{P:Program}{B:DataW H->Nat}(hB:tL B){N:Nat}
include hB
theorem de.str {t:TypeId}{b:TI}(f:aL P t=some b) (hk:b.k=.str):de P B N t MS tG.sz fun _=>True:=by
 refine⟨fun {enc w base sp held fuel cs x} _ h g=>?_⟩;obtain⟨s,rfl,rfl,i⟩:=DataW.trod_string (Oj f hk) h;have h1:=hB.str s.data.toList;have l:s.data.toList.length<=1048576:=by dsimp only at g; omega
 refine⟨⟨s.data.toList,by simp only [cF]; omega⟩,.cons ?_ .nil,h1,trivial⟩;have:=aA.str (j:=j0 w) (w:=w) s.data.toList (by simp only [eH]; omega)
 simpa using this
theorem de.bool {t:TypeId}{f:TI}(g:aL P t=some f) (hk:f.k=.bool):de P B N t (fun b:Bool=>[.bool b]) (fun _=>1) fun _=>True:=by
 refine⟨fun _ h _=>?_⟩;obtain⟨b,rfl,rfl⟩:=DataW.trod_bool (Ol g hk) h;exact⟨b,.cons (.bool _) .nil,hB.one _,trivial⟩
theorem de.int {t:TypeId}{b:TI}(f:aL P t=some b) (hk:b.k=.int .i64):de P B N t MT (fun _=>1) i64:=by
 refine⟨fun _ h _=>?_⟩;obtain⟨n,rfl,rfl,hw⟩:=DataW.trod_int (Om f hk) h;refine⟨n,.cons (.int _ _) .nil,hB.one _, ?_⟩
 simpa [Lit.wf,IntKind.min,IntKind.max,IntKind.signed,IntKind.bits,i64] using hw
omit hB in
theorem Ga {α:Type}(p:Nat->α->Prop):∀(n:Nat),(∀i,i<n->∃a,p i a)->∃l:List α,l.length=n/\∀i a,l[i]?=some a->p i a
 | 0,_=>⟨[],rfl,by simp⟩
 | n+1,h=>by
  obtain⟨l,hl,g⟩:=Ga p n fun i hi=>h i (by omega);obtain⟨a,j⟩:=h n (by omega);refine⟨l++[a],by simp [hl],fun i b f=>?_⟩;rw [List.getElem?_append] at f
  split at f
  ·exact g i b f
  ·rename_i k
   have:i-l.length=0:=by
    have:=(List.getElem?_eq_some_iff.1 f).1; simp at this; omega
   rw [this] at f; simp at f; subst f;have:i=n:=by omega
   subst this; exact j
omit hB in
theorem Gb {α β:Type}{f:α->Option β}:∀{l:List α}{r:List β},l.mapM f=some r->r.length=l.length/\∀(i:Nat) a,l[i]?=some a->f a=r[i]?
 | [],r,h=>by simp at h; subst h; simp
 | a::l,r,h=>by
  rw [List.mapM_cons] at h;cases g:f a with
  | none=>rw [g] at h; cases h
  | some b =>
   rw [g] at h;cases hm:l.mapM f with
   | none=>rw [hm] at h; cases h
   | some bs =>
    rw [hm] at h;have h':some (b::bs)=some r:=h;simp only [Option.some.injEq] at h';subst h';obtain⟨h1,j⟩:=Gb hm;refine⟨by simp [h1],fun i x hx=>?_⟩;cases i with
    | zero=>simp at hx; subst hx; simpa using g
    | succ i=>simp at hx; simpa using j i x hx
omit hB in
theorem Gc {w:World}{base:Nat}{a:Addr}{n:Nat}{cs:List Value}(h:w.cells? base a n=some cs):cs.length=n/\∀i v,cs[i]?=some v->w.cell? (a.add i)=some v:=by
 unfold World.cells? at h
 split at h
 ·obtain⟨h1,b⟩:=Gb h;rw [List.length_range] at h1;refine⟨h1,fun i v hv=>?_⟩;have hi:=(List.getElem?_eq_some_iff.1 hv).1;have:=b i i (List.getElem?_range (by omega));rw [this]; exact hv
 ·cases h
omit hB in
theorem iN {α β:Type}{f:α->Nat}{g:β->Nat}:∀{l:List α}{m:List β},l.length=m.length->(∀(i:Nat) a b,l[i]?=some a->m[i]?=some b->f a<=g b)->(l.map f).sum<=(m.map g).sum
 | [],[],_,_=>by simp
 | [],_::_,h,_=>by simp at h
 | _::_,[],h,_=>by simp at h
 | a::l,b::m,h,j=>by
  have h1:=j 0 a b rfl rfl;have o:=iN (l:=l) (m:=m) (by simpa using h) fun i x y hx k=>j (i+1) x y (by simpa using hx) (by simpa using k);simp only [List.map_cons,List.sum_cons]; omega
omit hB in
theorem Gd {α:Type}{f:α->Nat}{l:List α}{a:α}(h:a∈l):f a<=(l.map f).sum:=by
 induction l with
 | nil=>cases h
 | cons x r b =>
  simp only [List.map_cons,List.sum_cons];rcases List.mem_cons.1 h with e|e
  ·subst e; omega
  ·have:=b e; omega
omit hB in
theorem zD {α:Type}{f:α->Nat}:∀(l:List α),(∀a∈l,1<=f a)->l.length<=(l.map f).sum
 | [],_=>by simp
 | a::l,h=>by
  have h1:=h a (by simp);have b:=zD l fun x hx=>h x (by simp [hx]);simp only [List.length_cons,List.map_cons,List.sum_cons]; omega
theorem de.slice {α:Type}{t e:TypeId}{K L:TI}{k:Nat}{R:α->List D}{sz:α->Nat}{wf:α->Prop}(W:aL P t=some K) (X:K.k=.slice e) (Y:aL P e=some L) (Z:L.size=k) (aa:0<k) (ab:∀a,(R a).length=k) (he:de P B N e R sz wf) :
  de P B (N+1) t (fun s:iL α=>[s.d k R]) (iL.sz sz) (iL.wf wf):=by
 have ht:=kD W X;have hk:P.cellsOf e=k:=(zC Y).trans Z;refine⟨fun {enc w base sp held fuel cs x} ak h M=>?_⟩;rcases DataW.trod_slice ht h with ⟨rfl,rfl⟩|⟨a,len,cap,b,rest,n,al,rfl,rfl,_,ad,am,hlen,ae,_,_⟩
 ·exact⟨⟨true,[],by simp,fun _=>rfl⟩,.cons (.eU _ _ (by simp)) .nil,by simpa [iL.sz] using hB.one _,by simp [iL.wf]⟩
 ·have an:=hB.slice (b.map (·.1)) (rest.map (·.1));have af:∀y∈b,B y.1<=1048576:=fun y j=>by
   have:=Gd (f:=B) (l:=b.map (·.1)) (a:=y.1) (List.mem_map_of_mem j);dsimp only at M; omega
  have ao:b.length<=1048576:=by
   have:=zD (f:=B) (b.map (·.1)) fun d _=>hB.one d;simp only [List.length_map] at this;dsimp only at M; omega
  have hex:∀i,i<len->∃y:α×List Value,∃z,b[i]?=some z/\w.cells? base (a.add (i*k)) k=some y.2/\aR (aA (j0 w) w) (R y.1) y.2/\sz y.1<=B z.1/\wf y.1:=by
   intro i hi;have h1:=ae i hi;rw [hk] at h1;have G:i<b.length:=by omega
   rw [List.getElem?_eq_getElem G] at h1;cases hc:w.cells? base (a.add (i*k)) k with
   | none=>rw [hc] at h1; cases h1
   | some cs =>
    rw [hc] at h1;obtain⟨x,o,p,q⟩:=he.rd (by omega) (show DataW.trod enc P w base sp held n e cs=some b[i] from h1) (af _ (List.getElem_mem G));exact⟨(x,cs),b[i],List.getElem?_eq_getElem G,rfl,o,p,q⟩
  obtain⟨l,hl,C⟩:=Ga _ len hex;have ah:(l.map fun y=>y.1).length=len:=by simp [hl]
  refine⟨⟨false,l.map (·.1),by rw [ah]; simp only [cF]; omega,by simp⟩,.cons ?_ .nil, ?_, ?_⟩
  ·have H:∀r∈(l.map (·.1)).map R,r.length=k:=by
    intro r hr;obtain⟨y,_,rfl⟩:=List.mem_map.1 hr;exact ab _
   have E:((l.map (·.1)).map R).length=len:=by simp [hl]
   show aA (j0 w) w (.slice k none false ((l.map (·.1)).map R)) (.slice (some a) len cap);by_cases h0:len=0
   ·subst h0;have:l=[]:=List.eq_nil_of_length_eq_zero hl;subst this;exact aA.slice k none [] a cap (fun _=>undef) (by simp) (by simp) (by simp) ⟨.inl rfl,by simp⟩ (by simp) (fun t h=>by cases h)
   ·have O:a.spot=none:=by
     have h1:=C 0 (l[0]'(by omega)) (List.getElem?_eq_getElem (by omega));obtain⟨z,_,o,_⟩:=h1;obtain⟨p,q⟩:=Gc o;have F:=q 0 _ (List.getElem?_eq_getElem (by omega));rw [Nat.zero_mul] at F;exact cell_spot F
    have Q:a=⟨a.block,a.off,none⟩:=by cases a; simp at O; simp [O]
    have S:aA (j0 w) w (.slice k none false ((l.map (·.1)).map R)) (.slice (some ⟨a.block,a.off,none⟩) ((l.map (·.1)).map R).length cap):=by
     refine qQ H (by rw [E]; simp only [cF]; omega) (by rw [E]; exact ad) (fun i x hx=>?_) (fun t h=>by cases h);have hi:=(List.getElem?_eq_some_iff.1 hx).1;rw [(iJ H).1,E] at hi;have hq:i / k<len:=Nat.div_lt_of_lt_mul (by rw [Nat.mul_comm]; exact hi);have hm:i % k<k:=Nat.mod_lt _ aa;obtain⟨z,_,o,p,_⟩:=C (i / k) (l[i / k]'(by omega)) (List.getElem?_eq_getElem (by omega))
     obtain⟨q,F⟩:=Gc o;have ai:((l.map (·.1)).map R)[i / k]?=some (R (l[i / k]'(by omega)).1):=by simp [hl,hq]
     have U:=(iJ H).2 (i / k) _ ai (i % k) hm;rw [Nat.mul_comm,Nat.div_add_mod,hx] at U;obtain⟨v,hv,aj⟩:=p.get U.symm;have I:=F _ _ hv;rw [Q,add_plain,add_plain,Nat.add_assoc,Nat.mul_comm,Nat.div_add_mod] at I;exact⟨Oi I,v,I,aj⟩
    rw [E,<- Q] at S;exact S
  ·simp only [iL.sz];have:=iN (f:=sz) (g:=B) (l:=l.map (·.1)) (m:=b.map (·.1)) (by simp [hl,hlen]) fun i x y hx j=>by
    rw [List.getElem?_map] at hx j;cases J:l[i]? with
    | none=>rw [J] at hx; cases hx
    | some u =>
     rw [J] at hx; simp at hx; subst hx;obtain⟨z,h1,_,_,o,_⟩:=C i u J;rw [h1] at j; simp at j; subst j; exact o
   omega
  ·intro x hx;obtain⟨y,j,rfl⟩:=List.mem_map.1 hx;obtain⟨i,hi,e⟩:=List.getElem_of_mem j;obtain⟨z,_,_,_,_,h⟩:=C i y (by rw [List.getElem?_eq_getElem hi,e]);exact h
structure cI {H:Type}(P:Program) (B:DataW H->Nat) (N n o:Nat) (ps:List (Nat×TypeId)){α:Type}(R:α->List D) (sz:α->Nat) (wf:α->Prop):Prop where
 rd:∀{enc:TypeId×Value->H}{w:World}{base:Nat}{sp:Nat->Bool}{held:Bool}{fuel:Nat}{cs:List Value}{xs:List (DataW H×List MemPlace)},fuel<=N->cs.length=n->xs.length=ps.length ->
  (∀(i:Nat) p,ps[i]?=some p->DataW.trod enc P w base sp held fuel p.2 ((cs.drop p.1).take (P.cellsOf p.2))=xs[i]?)->(xs.map (fun x=>B x.1)).sum<=1048576 ->
  ∃a,aR (aA (j0 w) w) (R a) (cs.drop o)/\sz a<=(xs.map (fun x=>B x.1)).sum/\wf a
omit hB in
theorem cI.nil {n:Nat}:cI P B N n n [] (fun _:Unit=>[]) (fun _=>0) fun _=>True:=by
 refine⟨fun _ h1 b _ _=>⟨(), ?_,Nat.zero_le _,trivial⟩⟩;rw [List.drop_of_length_le (by omega)]; exact .nil
omit hB in
theorem cI.cons {α β:Type}{n o o':Nat}{ty:TypeId}{j:TI}{ps:List (Nat×TypeId)}{R:α->List D}{sz:α->Nat}{wf:α->Prop}{k:β->List D}{l:β->Nat}{m:β->Prop}(t:aL P ty=some j) (u:o+j.size=o') (h:de P B N ty R sz wf)
  (ht:cI P B N n o' ps k l m):cI P B N n o ((o,ty)::ps) (fun p:α×β=>R p.1++k p.2) (fun p=>sz p.1+l p.2) fun p=>wf p.1/\m p.2:=by
 refine⟨fun {enc w base sp held fuel cs xs} q h1 f r v=>?_⟩
 match xs,f with
 | x::xs,f =>
  simp only [List.map_cons,List.sum_cons] at v ⊢;have s:=r 0 (o,ty) rfl;simp only [List.getElem?_cons_zero] at s;obtain⟨a,y,G,z⟩:=h.rd q s (by omega);obtain⟨b,C,H,E⟩:=ht.rd (xs:=xs) q h1 (by simpa using f) (fun i g F=>by simpa using r (i+1) g (by simpa using F)) (by omega);refine⟨(a,b), ?_,by dsimp only; omega,z,E⟩;have e:cs.drop o=(cs.drop o).take (P.cellsOf ty)++cs.drop o':=by
   rw [<- u,<- zC t,<- List.drop_drop]; exact(List.take_append_drop _ _).symm
  rw [e];exact y.append C
theorem de.struct {α β:Type}{t:TypeId}{j:TI}{ps:List (Nat×TypeId)}{R:α->List D}{sz:α->Nat}{wf:α->Prop}(o:aL P t=some j) (hk:j.k=.struct ps) (h:cI P B N j.size 0 ps R sz wf) (g:α->β){q:β->List D}{r:β->Nat}{s:β->Prop}
  (y:∀a,q (g a)=R a) (z:∀a,r (g a)<=sz a) (hw:∀a,wf a->s (g a)):de P B (N+1) t q r s:=by
 refine⟨fun {enc w base sp held fuel cs x} I hx u=>?_⟩;obtain⟨fs,ht,v⟩:=F_ o hk;obtain⟨xs,n,J,rfl,h1,C,E⟩:=DataW.trod_struct ht hx;have l:=hB.agg (xs.map (·.1));rw [List.map_map] at l;obtain⟨a,F,G,H⟩:=h.rd (xs:=xs) (enc:=enc) (w:=w) (base:=base) (sp:=sp) (held:=held) (fuel:=n) (cs:=cs) (by omega) (h1.trans (zC o)) (by rw [<- v]; simpa using C) (fun i p b=>by
  rw [<- v,List.getElem?_map] at b;cases m:fs.toList[i]? with
  | none=>rw [m] at b; cases b
  | some f =>
   rw [m] at b; simp at b; subst b;exact E i f (by simpa using m)) (by dsimp only at u; exact Nat.le_trans l u)
 exact⟨g a,by rw [y]; simpa using F,Nat.le_trans (z a) (Nat.le_trans G l),hw _ H⟩
end
section
variable {H:Type}{enc:TypeId×Value->H}{P:Program}{B:DataW H->Nat}{W:World}
theorem zF {α:Type}{R:α->List D}{sz:α->Nat}{wf:α->Prop}{r:Reach}{f:Nat}{t:TypeId}{b:TI}{fs:List (Nat×TypeId)}{v:Value}{d:DataW H}{ps:List MemPlace}(g:aL P t=some b) (hk:b.k=.struct fs) (hr:∀N,de P B N t R sz wf) (i:Value.okWide P W r f t v)
  (j:DataW.Trod enc P W 0 (fun _=>true) true t v d ps) (l:B d<=1048576):∃a:α,cT (j0 W) W (.agg (R a)) v/\sz a<=B d/\wf a:=by
 obtain⟨_,ht,_⟩:=F_ g hk;obtain⟨cs,rfl,_⟩:=okWide_struct ht i;obtain⟨fuel,m⟩:=j;obtain⟨a,h1,o,p⟩:=(hr fuel).rd (Nat.le_refl _) m l;exact⟨a,⟨cs.toList,by simp,h1⟩,o,p⟩
end
theorem Below.trodAll {H:Type}{enc:TypeId×Value->H}{P:Program}(hl:laidOutB P=true){W W':World}(g:Below W.heap.size W W') :
  ∀{ts:List TypeId}{i:List Value}{ds:List (DataW H)}{ps:List MemPlace},(∀t∈ts,P.readableRec t=true/\t<P.types.size)->DataW.TrodAll enc P W 0 (fun _=>true) true ts i ds ps->(∀x∈ps,x.block<W.heap.size) ->
  ∀f:Nat->Bool,(∀x∈ps,f x.block=true)->DataW.TrodAll enc P W' 0 f true ts i ds ps
 | [],_,_,_,_,h,_,_,_=>by obtain⟨rfl,rfl,rfl⟩:=trodAll_nil h; exact rfl
 | _::_,_,_,_,ht,h,bh,f,j=>by
  obtain⟨v,l,d,m,a,b,rfl,rfl,rfl,h1,k⟩:=trodAll_cons h;exact⟨a,b,WideElems.Trod_stays hl (ht _ (by simp)).1 (ht _ (by simp)).2 h1 (fun x hx=>g.same (bh x (by simp [hx]))) (fun x hx=>j x (by simp [hx])),
   Below.trodAll hl g (fun t h=>ht t (by simp [h])) k (fun x hx=>bh x (by simp [hx])) f (fun x hx=>j x (by simp [hx])),rfl⟩
theorem On {H:Type}{enc:TypeId×Value->H}{P:Program}{f:Func}{s:ChangeSpec}{fresh handsOn again:Bool}{W W':World}{args:Array Value}{ds:List (DataW H)}{before:List MemPlace}{j:TypeId}
  (hv:s.vars=[]) (k:DataW.Whole enc P f.params.toList s.vars false W args.toList ds [] before) (g:Below W.heap.size W W') (hl:laidOutB P=true) (z:∀t∈f.params.toList,P.readableRec t=true/\t<P.types.size)
  (hr:f.resultTypes=#[j]) (l:P.underlying j=some .bool) (i:s.fn H ds={ results:=[.lit (.bool true)],args:=ds }):s.post enc P f false fresh handsOn again W args (.bool true) W':=by
 have m:=k;have bh:∀x∈before,x.block<W.heap.size:=fun x hx=>by simpa using m.lt x hx
 obtain⟨p,q,B,o,rfl,r,hn⟩:=k;rw [hv] at o;obtain⟨_,rfl⟩:=trodVars_none o;simp only [List.append_nil] at bh r;have u:∀sp:Nat->Bool,(∀x∈p,sp x.block=true)->DataW.TrodAll enc P W' 0 sp true f.params.toList args.toList ds p:=fun sp C=>Below.trodAll hl g z B bh sp C;have v:∀(b:Nat) (sp:Nat->Bool) (y:Bool),DataW.TrodAll enc P W' b sp y f.resultTypes.toList ((Value.bool true).resultList f.resultTypes.size) [.lit (.bool true)] []:=by
  intro b sp y;rw [hr];exact trodAll_cons_mk (shut_bool l _) trodAll_mk0
 refine⟨ds,[],p++[],[],p,[],m, ?_, ?_, ?_,World.keptBut_mono (fun x hx=>⟨hx, ?_⟩) (g.frame (·∈p++[])),fun _=>⟨?_,[.lit (.bool true)]++ds,[],p,⟨p,[], ?_, ?_,by simp, ?_,fun h=>by cases h⟩,fun x hx _=>by simpa using hx⟩⟩
 ·rw [List.append_nil,i]; exact v _ _ _
 ·rw [List.append_nil,i]; exact u _ fun x hx=>by simpa using bh x hx
 ·rw [hv,List.append_nil,i]; exact rfl
 ·exact .inr (.inl (by simpa using hx))
 ·exact ok_one hr rfl (okWide_bool_mk l _)
 ·exact trodAll_append (u _ fun _ _=>rfl) (v _ _ _)
 ·rw [hv]; exact rfl
 ·intro b off hx;have hblk:=bh _ hx;rw [World.frozen?_of_block (w:=W) (g.block _ hblk)];exact r b off hx
end Go.Ab
/-
 The readings of package api's types,at whatever depth.
-/
namespace Go.Ab
open Go Go.RowKit
section
variable {H:Type}{P:Program}{B:DataW H->Nat}(hB:tL B)
include hB
theorem mz.struct {α β:Type}{t:TypeId}{b:TI}{ps:List (Nat×TypeId)}{R:α->List D}{sz:α->Nat}{wf:α->Prop}(l:aL P t=some b) (hk:b.k=.struct ps) (h:∀N,cI P B N b.size 0 ps R sz wf) (g:α->β){f:β->List D}{i:β->Nat}{j:β->Prop}
  (m:∀a,f (g a)=R a) (o:∀a,i (g a)<=sz a) (hw:∀a,wf a->j (g a)):∀N,de P B N t f i j
 | 0=>.zero
 | N+1=>de.struct hB l hk (h N) g m o hw
end
end Go.Ab
/-
 The readings of the models' types.
-/
namespace Go.Ab
open Go Go.RowKit
variable {an:bf}
def Sl.sz {α:Type}(f:α->Nat) (s:Sl α):Nat:=1+(s.l.map f).sum
def Sl.wf {α:Type}(p:α->Prop) (s:Sl α):Prop:=(s.nl=true->s.l=[])/\s.l.length<=cF/\∀x∈s.l,p x
def Bs.sz (s:Bs):Nat:=s.length+1
section
variable {H:Type}{P:Program}{B:DataW H->Nat}
theorem de.vQ {α β:Type}{N:Nat}{t:TypeId}{R:α->List D}{sz:α->Nat}{wf:α->Prop}(h:de P B N t R sz wf) (g:α->β){b:β->List D}{f:β->Nat}{i:β->Prop}
  (j:∀a,b (g a)=R a) (k:∀a,f (g a)<=sz a) (hw:∀a,wf a->i (g a)):de P B N t b f i :=
 ⟨fun l ht m=>by
  obtain⟨a,h1,o,p⟩:=h.rd l ht m;exact⟨g a,by rw [j]; exact h1,Nat.le_trans (k a) o,hw a p⟩⟩
variable (hB:tL B)
include hB
theorem dA.str {t:TypeId}{b:TI}(f:aL P t=some b) (hk:b.k=.str) (N:Nat):de P B N t aM Bs.sz fun _=>True :=
 (de.str hB f hk).vQ (fun s:tG=>s.1) (fun _=>rfl) (fun _=>Nat.le_refl _) fun _ _=>trivial
theorem dA.bool {t:TypeId}{b:TI}(f:aL P t=some b) (hk:b.k=.bool) (N:Nat):de P B N t tH (fun _=>1) fun _=>True :=
 (de.bool hB f hk).vQ id (fun _=>rfl) (fun _=>Nat.le_refl _) fun _ _=>trivial
theorem dA.int {t:TypeId}{b:TI}(f:aL P t=some b) (hk:b.k=.int .i64) (N:Nat):de P B N t (bE .i64) (fun _=>1) i64 :=
 (de.int hB f hk).vQ id (fun _=>rfl) (fun _=>Nat.le_refl _) fun _ h=>h
theorem dA.zG {α:Type}{N:Nat}{t e:TypeId}{b f:TI}{k:Nat}{R:α->List D}{sz:α->Nat}{wf:α->Prop}(g:aL P t=some b) (i:b.k=.slice e) (j:aL P e=some f) (m:f.size=k) (o:0<k) (p:∀a,(R a).length=k)
  (he:de P B N e R sz wf):de P B (N+1) t (fun s:Sl α=>[Sl.d k R none s]) (Sl.sz sz) (Sl.wf wf) :=
 (de.slice hB g i j m o p he).vQ (fun s:iL α=>(⟨s.nil,s.l⟩:Sl α)) (fun _=>rfl) (fun _=>Nat.le_refl _) (fun s h=>by unfold iL.wf at h; exact⟨s.nn,s.ok,h⟩)
theorem dA.slice {α:Type}{t e:TypeId}{b f:TI}{k:Nat}{R:α->List D}{sz:α->Nat}{wf:α->Prop}(g:aL P t=some b) (i:b.k=.slice e) (j:aL P e=some f) (l:f.size=k) (m:0<k) (o:∀a,(R a).length=k)
  (he:∀N,de P B N e R sz wf):∀N,de P B N t (fun s:Sl α=>[Sl.d k R none s]) (Sl.sz sz) (Sl.wf wf)
 | 0=>.zero
 | N+1=>dA.zG hB g i j l m o (he N)
end
theorem Sl.d_ {α:Type}{f:α->Nat}(s:Sl α) (h:∀a,1<=f a):s.l.length<=s.sz f:=by
 have:=zD (f:=f) s.l fun a _=>h a;unfold Sl.sz; omega
theorem Sl.dy {α:Type}{f:α->Nat}{s:Sl α}{a:α}(h:a∈s.l):f a<s.sz f:=by
 have:=Gd (f:=f) h;unfold Sl.sz; omega
end Go.Ab
namespace Go.Ab
variable {an:bf}
theorem Bs.gH (s:Bs):1<=Bs.sz s:=by unfold Bs.sz; omega
end Go.Ab
/-
 Short forms of the rules,for the packed texts.
-/
namespace Go.Ab
open Go Go.RowKit
variable {an:bf}
class fp (P:Program) where
 T:List TI
 ok:kA P T
theorem jg {P:Program} [fp P] {i:TypeId}{b:TI}(h:(fp.T P)[i]?=some b):aL P i=some b:=fp.ok i b h
section
variable {P:Program}{Q:Exit->St->Prop}{σ:St}
theorem ah.cE {c:Operand}{u v:Code}{b:Bool}{α:Type}{A B:Option α}{r:α}(f:(bif b then A else B)=some r) (ht:b=true->A=some r->ah P u Q σ) (g:b=false->B=some r->ah P v Q σ) (hc:ev σ.ts c=.a (.d (.bool b)):=by exact rfl):ah P (.cond c u v) Q σ:=ah.eB f hc ht g
end
theorem AC.oW {P:Program} [fp P] (n:Nat) (rs:List ResultVar){f:FuncId}{fn:Func}{c:Code}{args:List A}{h:ag}{Post:V->ag->Prop}(b:∀(dJ:Array Value) (w:World),(callFunc f dJ).run P w=.ok (.enter f dJ) w) (g:P.funcs[f]?=some fn)
  (hw:ah P c (bF (fp.T P) rs Post) ⟨n,pz 0 args,[],h⟩) (i:fn.body=some c:=by exact rfl) (hn:fn.ntmps=n:=by exact rfl) (j:fn.results.toList=rs:=by exact rfl) (hl:Nat.ble args.length n=true:=by exact rfl):AC P f args h Post :=
 AC.of_wp fp.ok b g i hn j hl hw
variable {gv:eN}
section
variable {P:Program}{ops:Array Oper}{rest:List Oper}{Q:St->Prop}{n:Nat}{ts:Ts}{ls aH:List (List D)}{h h':ag}{fx:Fx}{v:V}{d dg gi:Nat}{op:Op}{ty:TypeId}{pos:String}{aC:Array Edge}{want b C:Bool}{done:List Fx}
-- RULES
variable {o:Oper}{c c':Bool}{x x':A}{f:Operand}{args:Array Operand}{c_:Array TypeId}{eL:FuncId}{dh:List D}{xs:List A}
theorem gI {C c:Bool}(h:C=true->c=true:=by intro hC; first|assumption|exact gE (by assumption)|exact gE (gE (by assumption))|exact gE (gE (gE (by assumption)))|exact y_ (by assumption)|simp_all):C=true->c=true:=h
theorem S (b:aq P ⟨some d,op,ty,pos,aC,none⟩ ts ls h fx v ls h) (hr:aS P ops rest Q ⟨n,(d,v)::ts,ls,h⟩) (f:Nat.blt d n=true:=by exact rfl):aS P ops (⟨some d,op,ty,pos,aC,none⟩::rest) Q ⟨n,ts,ls,h⟩:=aS.s0 b f hr
theorem Sd (b:aq P ⟨some d,op,ty,pos,aC,none⟩ ts ls h fx v ls h) (hr:au P ops n rest (fx.plain::done) Q ⟨n,(d,v)::ts,ls,h⟩) (f:Nat.blt d n=true:=by exact rfl):au P ops n (⟨some d,op,ty,pos,aC,none⟩::rest) done Q ⟨n,ts,ls,h⟩:=au.s0 b f hr
theorem G0 (b:aq P ⟨some d,op,ty,pos,aC,some (gi,want)⟩ ts ls h fx v ls h) (hr:aS P ops rest Q ⟨n,(d,v.under C)::ts,ls,h⟩) (f:(ops[gi]?).bind (·.dst)=some dg:=by exact rfl) (hc:gc (get ts dg) want=some C:=by exact rfl) (g:Nat.blt d n=true:=by exact rfl):aS P ops (⟨some d,op,ty,pos,aC,some (gi,want)⟩::rest) Q ⟨n,ts,ls,h⟩:=aS.gC f hc (fun _=>b) g hr
theorem G1 (k:Nat) (hk:Ab.get ts k=.gd c x) (b:aq P ⟨some d,op,ty,pos,aC,some (gi,want)⟩ ((k,.a x)::ts) ls h fx v ls h) (hr:aS P ops rest Q ⟨n,(d,v.under C)::ts,ls,h⟩) (f:(ops[gi]?).bind (·.dst)=some dg:=by exact rfl) (hc:gc (get ts dg) want=some C:=by exact rfl) (g:Nat.blt d n=true:=by exact rfl) (hi:C=true->c=true:=by exact gI):aS P ops (⟨some d,op,ty,pos,aC,some (gi,want)⟩::rest) Q ⟨n,ts,ls,h⟩:=aS.gC f hc (fun hC=>aq.jd hk (hi hC) b) g hr
theorem G2 (k k':Nat) (hk:Ab.get ts k=.gd c x) (b:Ab.get ((k,.a x)::ts) k'=.gd c' x') (f:aq P ⟨some d,op,ty,pos,aC,some (gi,want)⟩ ((k',.a x')::(k,.a x)::ts) ls h fx v ls h) (hr:aS P ops rest Q ⟨n,(d,v.under C)::ts,ls,h⟩) (g:(ops[gi]?).bind (·.dst)=some dg:=by exact rfl) (hc:gc (get ts dg) want=some C:=by exact rfl) (i:Nat.blt d n=true:=by exact rfl) (hi:C=true->c=true:=by exact gI) (j:C=true->c'=true:=by exact gI):aS P ops (⟨some d,op,ty,pos,aC,some (gi,want)⟩::rest) Q ⟨n,ts,ls,h⟩:=aS.gC g hc (fun hC=>aq.jd hk (hi hC) (aq.jd b (j hC) f)) i hr
theorem dH (k:Nat) (b:(ops[gi]?).bind (·.dst)=some dg) (hc:gc (get ts dg) want=some C) (hk:Ab.get ts k=.gd c x) (g:ev ((k,.a x)::ts) f=.a (.d (.func eL dh))) (i:iA ((k,.a x)::ts) args.toList=some xs) (j:C=true->∀H:ag,AC P eL (xs++dh.map A.d) H fun r h'=>r=v/\h'=H) (hr:aS P ops rest Q ⟨n,(d,v.under C)::ts,ls,h⟩) (hi:C=true->c=true:=by exact gI) (l:Nat.blt d n=true:=by exact rfl):aS P ops (⟨some d,.call { callee:=.value f,args:=args,argTypes:=c_ },ty,pos,aC,some (gi,want)⟩::rest) Q ⟨n,ts,ls,h⟩:=aS.gC b hc (fun hC=>aq.jd hk (hi hC) (aq.fh g i (j hC))) l hr
theorem fq (k k':Nat) (b:(ops[gi]?).bind (·.dst)=some dg) (hc:gc (get ts dg) want=some C) (hk:Ab.get ts k=.gd c x) (g:Ab.get ((k,.a x)::ts) k'=.gd c' x') (i:ev ((k',.a x')::(k,.a x)::ts) f=.a (.d (.func eL dh))) (j:iA ((k',.a x')::(k,.a x)::ts) args.toList=some xs) (l:C=true->∀H:ag,AC P eL (xs++dh.map A.d) H fun r h'=>r=v/\h'=H) (hr:aS P ops rest Q ⟨n,(d,v.under C)::ts,ls,h⟩) (hi:C=true->c=true:=by exact gI) (m:C=true->c'=true:=by exact gI) (o:Nat.blt d n=true:=by exact rfl):aS P ops (⟨some d,.call { callee:=.value f,args:=args,argTypes:=c_ },ty,pos,aC,some (gi,want)⟩::rest) Q ⟨n,ts,ls,h⟩:=aS.gC b hc (fun hC=>aq.jd hk (hi hC) (aq.jd g (m hC) (aq.fh i j (l hC)))) o hr
theorem cr (b:aq P ⟨some d,op,ty,pos,aC,some (gi,want)⟩ ts ls h fx v ls h) (hr:au P ops n rest (fx.plain::done) Q ⟨n,(d,v.under C)::ts,ls,h⟩) (f:(ops[gi]?).bind (·.dst)=some dg:=by exact rfl) (hc:gc (get ts dg) want=some C:=by exact rfl) (g:Nat.blt d n=true:=by exact rfl):au P ops n (⟨some d,op,ty,pos,aC,some (gi,want)⟩::rest) done Q ⟨n,ts,ls,h⟩:=au.gC f hc (fun _=>b) g hr
theorem cK (k:Nat) (hk:Ab.get ts k=.gd c x) (b:aq P ⟨some d,op,ty,pos,aC,some (gi,want)⟩ ((k,.a x)::ts) ls h fx v ls h) (hr:au P ops n rest (fx.plain::done) Q ⟨n,(d,v.under C)::ts,ls,h⟩) (f:(ops[gi]?).bind (·.dst)=some dg:=by exact rfl) (hc:gc (get ts dg) want=some C:=by exact rfl) (g:Nat.blt d n=true:=by exact rfl) (hi:C=true->c=true:=by exact gI):au P ops n (⟨some d,op,ty,pos,aC,some (gi,want)⟩::rest) done Q ⟨n,ts,ls,h⟩:=au.gC f hc (fun hC=>aq.jd hk (hi hC) b) g hr
theorem q_ (k k':Nat) (hk:Ab.get ts k=.gd c x) (b:Ab.get ((k,.a x)::ts) k'=.gd c' x') (f:aq P ⟨some d,op,ty,pos,aC,some (gi,want)⟩ ((k',.a x')::(k,.a x)::ts) ls h fx v ls h) (hr:au P ops n rest (fx.plain::done) Q ⟨n,(d,v.under C)::ts,ls,h⟩) (g:(ops[gi]?).bind (·.dst)=some dg:=by exact rfl) (hc:gc (get ts dg) want=some C:=by exact rfl) (i:Nat.blt d n=true:=by exact rfl) (hi:C=true->c=true:=by exact gI) (j:C=true->c'=true:=by exact gI):au P ops n (⟨some d,op,ty,pos,aC,some (gi,want)⟩::rest) done Q ⟨n,ts,ls,h⟩:=au.gC g hc (fun hC=>aq.jd hk (hi hC) (aq.jd b (j hC) f)) i hr
theorem nN (k:Nat) (b:(ops[gi]?).bind (·.dst)=some dg) (hc:gc (get ts dg) want=some C) (hk:Ab.get ts k=.gd c x) (g:ev ((k,.a x)::ts) f=.a (.d (.func eL dh))) (i:iA ((k,.a x)::ts) args.toList=some xs) (j:C=true->∀H:ag,AC P eL (xs++dh.map A.d) H fun r h'=>r=v/\h'=H) (hr:au P ops n rest (Fx.plain {}::done) Q ⟨n,(d,v.under C)::ts,ls,h⟩) (hi:C=true->c=true:=by exact gI) (l:Nat.blt d n=true:=by exact rfl):au P ops n (⟨some d,.call { callee:=.value f,args:=args,argTypes:=c_ },ty,pos,aC,some (gi,want)⟩::rest) done Q ⟨n,ts,ls,h⟩:=au.gC b hc (fun hC=>aq.jd hk (hi hC) (aq.fh g i (j hC))) l hr
theorem kG (k k':Nat) (b:(ops[gi]?).bind (·.dst)=some dg) (hc:gc (get ts dg) want=some C) (hk:Ab.get ts k=.gd c x) (g:Ab.get ((k,.a x)::ts) k'=.gd c' x') (i:ev ((k',.a x')::(k,.a x)::ts) f=.a (.d (.func eL dh))) (j:iA ((k',.a x')::(k,.a x)::ts) args.toList=some xs) (l:C=true->∀H:ag,AC P eL (xs++dh.map A.d) H fun r h'=>r=v/\h'=H) (hr:au P ops n rest (Fx.plain {}::done) Q ⟨n,(d,v.under C)::ts,ls,h⟩) (hi:C=true->c=true:=by exact gI) (m:C=true->c'=true:=by exact gI) (o:Nat.blt d n=true:=by exact rfl):au P ops n (⟨some d,.call { callee:=.value f,args:=args,argTypes:=c_ },ty,pos,aC,some (gi,want)⟩::rest) done Q ⟨n,ts,ls,h⟩:=au.gC b hc (fun hC=>aq.jd hk (hi hC) (aq.jd g (m hC) (aq.fh i j (l hC)))) o hr
theorem Mv [fp P] (e:aq P o ts ls h fx v aH h':=by exact aq.nK):aq P o ts ls h fx v aH h':=e
theorem As [fp P] (e:aq P o ts ls h fx v aH h':=by exact aq.Nc):aq P o ts ls h fx v aH h':=e
theorem Ld [fp P] (e:aq P o ts ls h fx v aH h':=by exact aq.ck (jg rfl) rfl rfl rfl):aq P o ts ls h fx v aH h':=e
theorem Fv [fp P] (e:aq P o ts ls h fx v aH h':=by exact aq.Fm (jg rfl) rfl rfl (jg rfl) rfl rfl):aq P o ts ls h fx v aH h':=e
theorem BI [fp P] (e:aq P o ts ls h fx v aH h':=by exact aq.yU rfl rfl rfl):aq P o ts ls h fx v aH h':=e
theorem BS [fp P] (e:aq P o ts ls h fx v aH h':=by exact aq.Mo rfl rfl rfl):aq P o ts ls h fx v aH h':=e
theorem PA [fp P] (e:aq P o ts ls h fx v aH h':=by exact aq.gF rfl rfl rfl):aq P o ts ls h fx v aH h':=e
theorem PO [fp P] (e:aq P o ts ls h fx v aH h':=by exact aq.pM rfl rfl rfl):aq P o ts ls h fx v aH h':=e
theorem NB [fp P] (e:aq P o ts ls h fx v aH h':=by exact aq.tu rfl):aq P o ts ls h fx v aH h':=e
theorem EX [fp P] (e:aq P o ts ls h fx v aH h':=by exact aq.extract rfl rfl):aq P o ts ls h fx v aH h':=e
theorem BX [fp P] (e:aq P o ts ls h fx v aH h':=by exact aq.MZ rfl):aq P o ts ls h fx v aH h':=e
theorem LL [fp P] (e:aq P o ts ls h fx v aH h':=by exact aq.vj (jg rfl) rfl rfl rfl rfl):aq P o ts ls h fx v aH h':=e
theorem FL [fp P] (e:aq P o ts ls h fx v aH h':=by exact aq.Mh (jg rfl) rfl rfl (jg rfl) rfl rfl):aq P o ts ls h fx v aH h':=e
theorem BU [fp P] (e:aq P o ts ls h fx v aH h':=by exact aq.build fp.ok rfl rfl rfl rfl rfl rfl):aq P o ts ls h fx v aH h':=e
theorem BV [fp P] (e:aq P o ts ls h fx v aH h':=by exact aq.buildSlice (jg rfl) rfl (jg rfl) rfl rfl rfl rfl rfl rfl):aq P o ts ls h fx v aH h':=e
theorem NP [fp P] (e:aq P o ts ls h fx v aH h':=by exact aq.Mt rfl):aq P o ts ls h fx v aH h':=e
theorem aS.SI {t u:TypeId}{x y:Operand}{p q:Int}(hr:aS P ops rest Q ⟨n,(d,.a (.d (.int .i64 (p+q))))::ts,ls,h⟩) (hx:ev ts x=.a (.d (.int .i64 p)):=by exact rfl) (b:ev ts y=.a (.d (.int .i64 q)):=by exact rfl)
  (h1 : -9223372036854775808<=p+q:=by first|omega|(dsimp only; omega)|(simp at *; omega)) (f:p+q<=9223372036854775807:=by first|omega|(dsimp only; omega)|(simp at *; omega)) (g:Nat.blt d n=true:=by exact rfl) :
  aS P ops (⟨some d,.binOp .add t x y u,ty,pos,aC,none⟩::rest) Q ⟨n,ts,ls,h⟩:=aS.s0 (aq.ER hx b h1 f) g hr
theorem aS.Sc {f:Operand}{args:Array Operand}{c_:Array TypeId}{eL:FuncId}{dh:List D}{xs:List A}(b:ev ts f=.a (.d (.func eL dh))) (g:iA ts args.toList=some xs)
  (hc:∀H:ag,AC P eL (xs++dh.map A.d) H fun r h'=>r=v/\h'=H) (hr:aS P ops rest Q ⟨n,(d,v)::ts,ls,h⟩) (i:Nat.blt d n=true:=by exact rfl):aS P ops (⟨some d,.call { callee:=.value f,args:=args,argTypes:=c_ },ty,pos,aC,none⟩::rest) Q ⟨n,ts,ls,h⟩:=aS.s0 (aq.fh b g hc) i hr
theorem aS.Sl [fp P] (hr:aS P ops rest Q ⟨n,(d,v)::ts,aH,h⟩) (b:aq P ⟨some d,op,ty,pos,aC,none⟩ ts ls h { wl:=true } v aH h:=by exact aq.Nf (jg rfl) rfl) (f:Nat.blt d n=true:=by exact rfl) :
  aS P ops (⟨some d,op,ty,pos,aC,none⟩::rest) Q ⟨n,ts,ls,h⟩:=aS.sL b f hr
theorem aS.Sf [fp P] (hr:aS P ops rest Q ⟨n,ts,aH,h⟩) (b:aq P ⟨none,op,ty,pos,aC,none⟩ ts ls h { wl:=true } v aH h:=by first|exact aq.eA (jg rfl) rfl rfl rfl rfl rfl|exact aq.EY (jg rfl) rfl rfl rfl rfl (by repeat (first|exact dG.zero|apply dG.succ)) (by repeat (first|exact dG.zero|apply dG.succ))) :
  aS P ops (⟨none,op,ty,pos,aC,none⟩::rest) Q ⟨n,ts,ls,h⟩:=aS.dU b hr
theorem aS.hq {h:ag}(h':ag) (hw:aS P ops rest Q ⟨n,ts,ls,h'⟩) (e:h=h':=by first|rfl|(rw [ag.set_set]; rfl)|(funext n_; simp only [ag.set]; (repeat' split)<;>first|rfl|(exfalso; simp_all; done)|(simp_all; done))):aS P ops rest Q ⟨n,ts,ls,h⟩:=aS.zc e hw
theorem au.Dh {h:ag}(h':ag) (hw:au P ops n rest done Q ⟨n,ts,ls,h'⟩) (e:h=h':=by first|rfl|(rw [ag.set_set]; rfl)|(funext n_; simp only [ag.set]; (repeat' split)<;>first|rfl|(exfalso; simp_all; done)|(simp_all; done))):au P ops n rest done Q ⟨n,ts,ls,h⟩:=au.zc e hw
end
section
variable {P:Program}{Q:Exit->St->Prop}{σ:St}
theorem ah.aa {id:Nat}{l:List Oper}{y:Code}(h:aS P l.toArray l (fun b=>ah P y Q b) σ):ah P (.seq (.region id l.toArray false) y) Q σ:=ah.seq (ah.region h)
theorem ah.cH {id:Nat}{l:List Oper}{y:Code}(h:au P l.toArray σ.n l [] (fun b=>ah P y Q b) σ) (hm:P.follows .mixedOrders=true:=by exact rfl):ah P (.seq (.region id l.toArray true) y) Q σ:=ah.seq (ah.draw hm h)
theorem ah.sk {A K:St->Prop}(b:∀σ,A σ->K σ) (h:A σ) (e:K σ->Q .normal σ:=by exact id):ah P .skip Q σ:=ah.skip (e (b _ h))
theorem ah.rt {α:Type}{a r:α}(b:some a=some r) (h:a=r->Q .ret σ:=by intro e; subst e; (repeat (first|refine bM ?_|refine bN ?_)); exact bF.bK _ rfl ⟨rfl,rfl⟩ (fun _ _ h=>h)):ah P .ret Q σ:=ah.ret (h (Option.some.inj b))
end
theorem bO {α β:Type}{o:Option α}{k:α->Option β}{r:β}(h:o.bind k=some r):∃x,o=some x/\k x=some r:=cS h
theorem gO {α β:Type}{c:Bool}{o:Option α}{d:α}{k:α->Option β}{r:β}(h:aQ c o d k=some r):∃x,(c=true->o=some x)/\k x=some r:=zb h
theorem aU.KA {ts:Ts}{m:Nat}{v:V}{r:Ts}(k:Nat) (t:aU ts m r) (h:Ab.get ts k=v:=by conv=>lhs; whnf) (hv:v.vu m=true:=by rfl):aU ts m ((k,v)::r):=aU.c h hv t
theorem dV.TA {ts:Ts}{v:V}{r:Ts}(k:Nat) (t:dV ts r) (h:Ab.get ts k=v:=by conv=>lhs; whnf):dV ts ((k,v)::r):=dV.cons h t
section
variable {P:Program}{α:Type}{ts:Ts}{ls aH:List (List D)}{h h':ag}{dst:Option Tmp}{ty:TypeId}{pos:String}{aC:Array Edge}{g:Option (Nat×Bool)}{ops:Array Oper}{rest:List Oper}{Q:St->Prop}{n d:Nat}{v:V}{op:Op}{done:List Fx}
theorem ix [fp P] (f:α->List D) (n:Nat){t e:TypeId}{b j:TI}{x i:Operand}{tok:Option Nat}{s:Sl α}{m:IntKind}{y:α}{k:Nat}(hr:s.l[n]?=some y) (o:aL P t=some b:=by exact jg rfl) (hk:b.k=.slice e:=by exact rfl) (p:aL P e=some j:=by exact jg rfl)
  (hx:ev ts x=.a (.d (s.d k f tok)):=by exact rfl) (hi:ev ts i=.a (.d (.int m (n:Int))):=by exact rfl) (q:k=j.size:=by exact rfl):aq P ⟨dst,.indexAddr t x i,ty,pos,aC,g⟩ ts ls h {} (.a (.d (.view (f y)))) ls h:=aq.eO o hk p hx hi q hr
theorem am {t u e:TypeId}{i j b:TI}(f:α->List D){x y:Operand}{tk k k' m:Nat}{tok':Option Nat}{s r w:Sl α}{z:A}(o:aL P t=some i) (hk:i.k=.slice e) (p:aL P e=some b) (q:aL P u=some j) (hr:bp b.bytes s r=some w) (v:∃e,j.k=.slice e:=by exact⟨_,rfl⟩)
  (B:b.zero=some z:=by exact rfl) (C:(cA z).length=b.size:=by exact rfl) (E:b.size≠0:=by decide) (hx:ev ts x=.a (.d (s.d k f (some tk))):=by exact rfl) (F:ev ts y=.a (.d (r.d k' f tok')):=by exact rfl) (G:k=b.size:=by exact rfl) (H:k'=b.size:=by exact rfl)
  (I:h tk=some (.tok b.size m):=by exact aJ) (hm:m=s.l.length:=by exact rfl):aq P ⟨dst,.call { callee:=.builtin .append,args:=#[x,y],argTypes:=#[t,u] },ty,pos,aC,g⟩ ts ls h { rh:=true,wh:=true } (.a (.d (w.d k f (some tk)))) ls (h.set tk (some (.tok b.size w.l.length))) :=
 aq.pL o hk p q v B C E hx F G H I hm hr
theorem SH (b:aq P ⟨some d,op,ty,pos,aC,none⟩ ts ls h { rh:=true,wh:=true } v ls h') (hr:aS P ops rest Q ⟨n,(d,v)::ts,ls,h'⟩) (f:Nat.blt d n=true:=by exact rfl):aS P ops (⟨some d,op,ty,pos,aC,none⟩::rest) Q ⟨n,ts,ls,h⟩:=aS.sH b f hr
theorem cN {f:Operand}{args:Array Operand}{c_:Array TypeId}{eL:FuncId}{dh:List D}{xs:List A}(b:ev ts f=.a (.d (.func eL dh))) (g:iA ts args.toList=some xs)
  (hc:∀H:ag,AC P eL (xs++dh.map A.d) H fun r h'=>r=v/\h'=H) (hr:au P ops n rest (Fx.plain {}::done) Q ⟨n,(d,v)::ts,ls,h⟩) (i:Nat.blt d n=true:=by exact rfl):au P ops n (⟨some d,.call { callee:=.value f,args:=args,argTypes:=c_ },ty,pos,aC,none⟩::rest) done Q ⟨n,ts,ls,h⟩:=au.s0 (aq.fh b g hc) i hr
end
theorem Qe {α:Type}{a b c:α}(h:c=b) (e:a=b):a=c:=e.trans h.symm
theorem Qs {α:Type}{o p:Option α}(h:o=p.bind some):o=p:=h.trans (Q.Oe p)
theorem QT {α:Type}{i n:Nat}{a b r:α}(h:i<n) (e:a=r):cond (decide ((i:Int)<(n:Int))) a b=r:=Q.py (Q.vL h) e
theorem QF {α:Type}{i n:Nat}{a b r:α}(h:¬i<n) (e:b=r):cond (decide ((i:Int)<(n:Int))) a b=r:=Q.mg (Q.zA h) e
theorem Qa {α:Type}{l:List α}{i:Nat}(h:i<l.length):∃x,l[i]?=some x:=⟨_,List.getElem?_eq_getElem h⟩
theorem dL {α:Type}{i:Nat}{l:List α}(h:l.length<=i):l.drop i=[]:=List.drop_of_length_le h
end Go.Ab
/-
 Short rules for walks over the list layer.
-/
namespace Go.Ab
open Go
section
variable {an:bf}{P:Program}{Q:Exit->St->Prop}{σ:St}
theorem ah.cO {c:Operand}{u v:Code}{b:Bool}{α R:Type}{A B:Option α}{K:α->Option R}{r:R}(f:Option.bind (bif b then A else B) K=some r) (ht:b=true->Option.bind A K=some r->ah P u Q σ) (g:b=false->Option.bind B K=some r->ah P v Q σ) (hc:ev σ.ts c=.a (.d (.bool b)):=by exact rfl):ah P (.cond c u v) Q σ:=ah.kF f hc ht g
theorem ah.cP {c:Operand}{u v:Code}{b:Bool}{α R:Type}{A B:α}{K:α->Option R}{r:R}(f:K (bif b then A else B)=some r) (ht:b=true->K A=some r->ah P u Q σ) (g:b=false->K B=some r->ah P v Q σ) (hc:ev σ.ts c=.a (.d (.bool b)):=by exact rfl):ah P (.cond c u v) Q σ:=ah.F3 f hc ht g
end
end Go.Ab
/-
 A law's call beside the library's table of powers of ten. No program text.
-/
namespace Go.Ab
open Go Go.RowKit Go.Proofs Go.ChangeShapes Go.WideShapes Go.ChangeAt
variable {an:bf}
theorem Oo {P:Program}{W:World}{l:List (String×DataW Unit)}{name:String}{k:IntKind}{f:List Int}{g:Nat}{t e:TypeId}{n:Nat}(i:P.globalNamed name=some g) (j:(P.globals[g]?).map (·.type)=some t) (ht:P.underlying t=some (.array n e))
  (he:P.underlying e=some (.int k)) (m:P.cellsOf e=1) (o:P.cellsOf t=n) (h:laidMet P l W) (hm:(name,Lib.tabData k f)∈l):∃u b,W.heap[g]?=some (.cells (f.map fun z=>Value.int k z).toArray u b):=by
 obtain⟨w,x,cs,fuel,p,q,r,hv,s⟩:=Lib.laidMet.reads h hm;obtain rfl:=Option.some.inj (i.symm.trans q);obtain rfl:=Option.some.inj (j.symm.trans r);have hc:=Lib.cells_of_tab ht he m o s;unfold World.var? at hv;rw [i,Option.bind_some] at hv
 split at hv
 ·rename_i c u b v
  simp only [Option.some.injEq] at hv;subst hv;refine⟨u,b, ?_⟩;rw [<- hc];exact v
 ·cases hv
def eP (g:Nat) (o:Go.Obj):ag:=fun i=>if i=0 then some (.fix g o) else none
def jT (w:World):J:={ j0 w with next:=1 }
theorem Oq (w:World):Le (j0 w) w (jT w) w:=⟨Nat.zero_le _,fun _ h=>absurd h (Nat.not_lt_zero _),fun _=>Nat.le_refl _,fun _ _ _=>rfl,fun _ h=>absurd h (Nat.not_lt_zero _)⟩
theorem Ot {w:World}{g:Nat}{o:Go.Obj}(h:w.heap[g]?=some o):dY (jT w) w (eP g o):=by
 refine⟨fun id l hi=>?_,fun gA o1 gB o2 b h1 f _ _=>?_,fun b i=>(by simp [jT,j0,Array.getElem?_eq_none i])⟩
 ·unfold eP at hi
  split at hi
  ·rename_i h0; subst h0; cases hi; exact⟨Nat.zero_lt_one,h⟩
  ·cases hi
 ·unfold eP at h1 f
  split at h1
  ·split at f
   ·rename_i j k; rw [j,k]
   ·cases f
  ·cases h1
theorem Ou {P:Program}{f:FuncId}{xs:List A}{g:Nat}{o:Go.Obj}(hc:@AC bf.on P f xs (eP g o) fun r h'=>r=.a (.d (.bool true))/\h'=eP g o){W:World}{args:List Value}(i:W.heap[g]?=some o) (m:aR (cT (j0 W) W) xs args) :
  Calls P f args.toArray W fun e W'=>e=.returned (.bool true)/\Below W.heap.size W W':=by
 letI:bf:=bf.on
 refine(hc.runs (jT W) W args (Ot i) (m.imp fun _ _ h=>h.mono (Oq W))).mono ?_;rintro e W' ⟨r,cv,j',h',rfl,⟨rfl,rfl⟩,hv,hr,b⟩;have p:aA j' W' (.bool true) cv:=hv;cases p;refine⟨rfl,b.os,b.tape,b.output.1,b.size,fun k hk=>?_⟩;by_cases j:k=g
 ·subst j;have h1:W'.heap[k]?=some o:=(hr.obj 0 (.fix k o) rfl).2;rw [h1,i]
 ·refine(b.frame k hk ?_).1;rintro (h|⟨id,q,h,l⟩)
  ·cases h
  ·unfold eP at h
   split at h
   ·cases h;simp only [bG,Option.some.injEq] at l;exact j l.symm
   ·cases h
theorem ia.of {P:Program}{g:Nat}{u:TypeId}{b:Nat×Nat}(f:P.globalNamed "internal/strconv.uint64pow10"=some g):ia P (.fix g (.cells (Lib.pow10Tab.map fun z=>Value.int .u64 z).toArray u b)):=⟨g,u,b,rfl,f⟩
end Go.Ab
namespace Go.Ab
theorem oB {α β : Type} (a : α) (f : α → Option β) : (some a).bind f = f a := rfl
theorem oJ {α : Type} {a b : α} (h : some a = some b) : a = b := Option.some.inj h
theorem nS (n : Nat) : n < n.succ := Nat.lt_succ_self n
theorem oD {p : Prop} [Decidable p] (h : decide p = true) : p := of_decide_eq_true h
theorem dF {p : Prop} [Decidable p] (h : ¬ p) : decide p = false := decide_eq_false h
theorem dT {p : Prop} [Decidable p] (h : p) : decide p = true := decide_eq_true h
theorem kN {ts : Ts} : dV ts [] := .nil
end Go.Ab
