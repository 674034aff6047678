import Derived.Test.YtbbkbkhdciklaaaGreatDoorE2
import Derived.Defers
import Derived.Laws.IdiomRangeMap
import Derived.Sort.Grow
import Derived.Shelf.SlSortCmp.NoneTotal
import Derived.Shelf.Spec.SlicesGrow
import Derived.Shelf.SlicesE.DeleteFunc
import Derived.Laws.BytesString
import Derived.Shelf.Strconv.Itoa3
import Derived.Shelf.Strings.OnBuilder
import Derived.LaidEql
import Derived.Scope
import Derived.Shelf.Small.Strs
import Derived.WalkKit
import Derived.ProofKit
import Derived.OpenShut
import Derived.JoinedCond
import Derived.Carry
import Derived.Lib.LaidU8
set_option maxRecDepth 100000
set_option maxHeartbeats 2000000
set_option linter.unusedVariables false
set_option linter.unusedSimpArgs false
/-
 The rules as a walk applies them.
-/
namespace Go.Ab
open Go Go.RowKit
variable {ak:bP}
variable {fE:ez}
section
variable {P:Program}{ops:Array Oper}{rest:List Oper}{Q:St->Prop}{n:Nat}{ts:Ts}{ls aS:List (List D)}{h h':ah}{fx:Fx}{v:V}{d dg gi:Nat}{op:Op}{ty:TypeId}{pos:String}{aD:Array Edge}{want b:Bool}
theorem Ob (h:Nat.blt d n=true):jb (some d) n=true:=h
theorem aI.s0 (b:aq P ⟨some d,op,ty,pos,aD,none⟩ ts ls h fx v ls h) (hd:Nat.blt d n=true) (hr:aI P ops rest Q ⟨n,(d,v)::ts,ls,h⟩):aI P ops (⟨some d,op,ty,pos,aD,none⟩::rest) Q ⟨n,ts,ls,h⟩ :=
 aI.step b rfl hd (by cases fx.wl<;>cases fx.wh<;>exact hr)
theorem aI.sL (b:aq P ⟨some d,op,ty,pos,aD,none⟩ ts ls h { wl:=true } v aS h) (hd:Nat.blt d n=true) (hr:aI P ops rest Q ⟨n,(d,v)::ts,aS,h⟩):aI P ops (⟨some d,op,ty,pos,aD,none⟩::rest) Q ⟨n,ts,ls,h⟩ :=
 aI.step b rfl hd hr
theorem aI.uj (b:aq P ⟨none,op,ty,pos,aD,none⟩ ts ls h { wl:=true } v aS h) (hr:aI P ops rest Q ⟨n,ts,aS,h⟩):aI P ops (⟨none,op,ty,pos,aD,none⟩::rest) Q ⟨n,ts,ls,h⟩ :=
 aI.step b rfl rfl hr
theorem aI.sH (b:aq P ⟨some d,op,ty,pos,aD,none⟩ ts ls h { rh:=true,wh:=true } v ls h') (hd:Nat.blt d n=true) (hr:aI P ops rest Q ⟨n,(d,v)::ts,ls,h'⟩):aI P ops (⟨some d,op,ty,pos,aD,none⟩::rest) Q ⟨n,ts,ls,h⟩ :=
 aI.step b rfl hd hr
theorem aI.eW (b:aq P ⟨none,op,ty,pos,aD,none⟩ ts ls h fx v ls h') (f:fx.wl=false) (g:fx.wh=true) (hr:aI P ops rest Q ⟨n,ts,ls,h'⟩):aI P ops (⟨none,op,ty,pos,aD,none⟩::rest) Q ⟨n,ts,ls,h⟩ :=
 aI.step b rfl rfl (by rw [f,g]; exact hr)
theorem aI.sE {R:V->List (List D)->ah->Prop}(b:dA P ⟨some d,op,ty,pos,aD,none⟩ ts ls h R) (hd:Nat.blt d n=true) (hr:∀v aS h',R v aS h'->aI P ops rest Q ⟨n,(d,v)::ts,aS,h'⟩) :
  aI P ops (⟨some d,op,ty,pos,aD,none⟩::rest) Q ⟨n,ts,ls,h⟩:=aI.Hi b rfl hd hr
theorem DC (hg:(ops[gi]?).bind (·.dst)=some dg){dst:Option Tmp}:guardOf ops ⟨dst,op,ty,pos,aD,some (gi,want)⟩=some (dg,want):=by
 simp only [guardOf,hg]
variable {done:List Fx}
theorem aH.s0 (f:aq P ⟨some d,op,ty,pos,aD,none⟩ ts ls h fx v ls h) (hd:Nat.blt d n=true) (hr:aH P ops n rest (fx.plain::done) Q ⟨n,(d,v)::ts,ls,h⟩):aH P ops n (⟨some d,op,ty,pos,aD,none⟩::rest) done Q ⟨n,ts,ls,h⟩ :=
 aH.cons (jc.plain f rfl hd) (by cases fx with|mk a b c d e=>cases b<;>cases d<;>exact hr)
theorem rL.alloc {e:TypeId}{b:TI}{z:A}{i:Nat}{aS:List (List D)}(f:bn P e=some b) (hz:b.zero=some z) (g:fF (cU z) ls i aS):rL P ⟨some d,.alloc e,ty,pos,aD,none⟩ (.dH i 0) ls aS:=by
 obtain⟨inf,r,h1,_,_,_,_,h2⟩:=gr f;rw [hz] at h2;obtain⟨v,k,l⟩:=mi h2;obtain⟨m,p⟩:=g.spec;refine⟨cU z,d,rfl,rfl,by rw [m],p,v.cells.toList,e,fun j w=>(l j w).cells,fun a w K Q hk=>?_⟩;have q:(execOp a.eval (⟨some d,.alloc e,ty,pos,aD,none⟩:Oper)).run P w=.ok (.value (.pointer (some ⟨w.heap.size,0,none⟩))) (w.alloc (.cells v.cells e)):=by
  simp [execOp,Instr.alloc,zeroValue,typeInfo,h1,k,newVar,newRow]
 unfold Oper.wp;rw [q,Oper.upon_value];rw [Array.toArray_toList] at hk;exact hk
theorem aH.sB {e:TypeId}{b:TI}{z:A}{i:Nat}{aS:List (List D)}(f:bn P e=some b) (hz:b.zero=some z) (hd:Nat.blt d n=true) (hr:aH P ops n rest ({ wl:=true,nu:=true }::done) Q ⟨n,(d,.dH i 0)::ts,aS,h⟩)
  (g:fF (cU z) ls i aS:=by repeat (first|exact fF.nil|apply fF.cons)):aH P ops n (⟨some d,.alloc e,ty,pos,aD,none⟩::rest) done Q ⟨n,ts,ls,h⟩:=aH.born (rL.alloc f hz g) hd hr
theorem aH.uj (b:aq P ⟨none,op,ty,pos,aD,none⟩ ts ls h { wl:=true } v aS h) (hr:aH P ops n rest ({ wl:=true }::done) Q ⟨n,ts,aS,h⟩):aH P ops n (⟨none,op,ty,pos,aD,none⟩::rest) done Q ⟨n,ts,ls,h⟩ :=
 aH.cons (jc.plain b rfl rfl) hr
theorem aH.sH (b:aq P ⟨some d,op,ty,pos,aD,none⟩ ts ls h { rh:=true,wh:=true } v ls h') (hd:Nat.blt d n=true) (hr:aH P ops n rest ({ rh:=true,wh:=true }::done) Q ⟨n,(d,v)::ts,ls,h'⟩) :
  aH P ops n (⟨some d,op,ty,pos,aD,none⟩::rest) done Q ⟨n,ts,ls,h⟩:=aH.cons (jc.plain b rfl hd) hr
theorem aH.eW (b:aq P ⟨none,op,ty,pos,aD,none⟩ ts ls h fx v ls h') (f:fx.wl=false) (g:fx.wh=true) (hr:aH P ops n rest (fx.plain::done) Q ⟨n,ts,ls,h'⟩):aH P ops n (⟨none,op,ty,pos,aD,none⟩::rest) done Q ⟨n,ts,ls,h⟩ :=
 aH.cons (jc.plain b rfl rfl) (by rw [f,g]; exact hr)
end
section
variable {P:Program}{ops:Array Oper}{rest:List Oper}{Q:St->Prop}{n:Nat}{ts:Ts}{ls aS:List (List D)}{h h':ah}{fx:Fx}{x:A}{d dg gi:Nat}{op:Op}{ty:TypeId}{pos:String}{aD:Array Edge}{want C:Bool}
def gc:V->Bool->Option Bool
 | .a (.d (.bool b)),true=>some b
 | .a (.d (.bool b)),false=>some (!b)
 | .gd c (.d (.bool b)),true=>some (c&&b)
 | .gd c (.d (.bool b)),false=>some (c&&!b)
 | _,_=>none
theorem Ih {j:J}{w:World}{jl:List Nat}{a:Act}{o:Oper}(hg:guardOf ops o=some (dg,want)) (hc:gc (get ts dg) want=some C) (h:bD j w jl (get ts dg) (a.tmps.getD dg undef)) :
  Region.wanted o (yielded ops a.tmps)=C:=by
 cases hv:get ts dg with
 | a y =>
  cases y with
  | d z =>
   cases z with
   | bool b =>
    rw [hv] at hc;cases want<;>simp only [gc,Option.some.injEq] at hc<;>subst hc<;>rw [Hh hg hv h]<;>cases b<;>rfl
   | _=>rw [hv] at hc; cases want<;>simp [gc] at hc
  | agg z=>rw [hv] at hc; cases want<;>simp [gc] at hc
 | gd c y =>
  cases y with
  | agg z=>rw [hv] at hc; cases want<;>simp [gc] at hc
  | d z =>
   cases z with
   | bool b =>
    rw [hv] at hc;rw [hv] at h;cases c with
    | true =>
     have h1:bD j w jl (get [(dg,.a (.d (.bool b)))] dg) (a.tmps.getD dg undef):=by rw [gp]; exact h.1 rfl
     cases want<;>simp only [gc,Option.some.injEq,Bool.true_and] at hc<;>subst hc<;>rw [Hh (ts:=[(dg,.a (.d (.bool b)))]) hg (gp _ _ _) h1]<;>cases b<;>rfl
    | false =>
     have h2:=h.2 rfl;have hC:C=false:=by cases want<;>simp [gc] at hc<;>exact hc
     subst hC;unfold guardOf at hg
     split at hg
     ·simp at hg
     ·rename_i g p k
      split at hg
      ·rename_i f l
       simp only [Option.some.injEq,Prod.mk.injEq] at hg;obtain⟨rfl,rfl⟩:=hg;have m:a.tmps[f]?=none\/a.tmps[f]?=some (.tuple #[]):=by
        rw [Array.getD_eq_getD_getElem?] at h2;cases e:a.tmps[f]? with
        | none=>exact .inl rfl
        | some y=>rw [e] at h2; simp at h2; rw [h2]; exact .inr rfl
       simp only [Region.wanted,k,yielded,l,Option.bind_some];rcases m with e|e<;>rw [e]<;>rfl
      ·simp at hg
   | _=>rw [hv] at hc; cases want<;>simp [gc] at hc
 | any=>rw [hv] at hc; cases want<;>simp [gc] at hc
 | dH _ _=>rw [hv] at hc; cases want<;>simp [gc] at hc
 | b_ _=>rw [hv] at hc; cases want<;>simp [gc] at hc
 | g_ _ _ _=>rw [hv] at hc; cases want<;>simp [gc] at hc
 | full _ _=>rw [hv] at hc; cases want<;>simp [gc] at hc
 | rH _ _ _=>rw [hv] at hc; cases want<;>simp [gc] at hc
 | sm _ _=>rw [hv] at hc; cases want<;>simp [gc] at hc
 | pK _=>rw [hv] at hc; cases want<;>simp [gc] at hc
theorem aq.ig {o:Oper}{v:V}{k:Nat}{c:Bool}(hk:get ts k=.gd c x) (hc:c=true) (b:aq P o ((k,.a x)::ts) ls h fx v aS h'):aq P o ts ls h fx v aS h':=by
 intro L H f hH j w jl a hl g;refine b L H f hH j w jl a hl fun y l=>?_;have h1:=g y l;cases y with
 | tmp t =>
  by_cases e:k=t
  ·subst e;simp only [ev] at h1 ⊢;rw [gp];rw [hk] at h1;exact h1.1 hc
  ·simp only [ev] at h1 ⊢;rw [ia _ _ e]; exact h1
 | _=>exact h1
theorem aq.Oc {o:Oper}{v:V}{k:Nat}{c:Bool}{i off:Nat}(hk:get ts k=.g_ c i off) (hc:c=true) (b:aq P o ((k,.dH i off)::ts) ls h fx v aS h'):aq P o ts ls h fx v aS h':=by
 intro L H f hH j w jl a hl g;refine b L H f hH j w jl a hl fun y l=>?_;have h1:=g y l;cases y with
 | tmp t =>
  by_cases e:k=t
  ·subst e;simp only [ev] at h1 ⊢;rw [gp];rw [hk] at h1;exact h1.1 hc
  ·simp only [ev] at h1 ⊢;rw [ia _ _ e]; exact h1
 | _=>exact h1
theorem aI.gC {v:V}(hg:(ops[gi]?).bind (·.dst)=some dg) (hc:gc (get ts dg) want=some C) (m:C=true->aq P ⟨some d,op,ty,pos,aD,some (gi,want)⟩ ts ls h fx v ls h) (hd:Nat.blt d n=true)
  (hr:aI P ops rest Q ⟨n,(d,v.under C)::ts,ls,h⟩):aI P ops (⟨some d,op,ty,pos,aD,some (gi,want)⟩::rest) Q ⟨n,ts,ls,h⟩:=by
 intro j w jl a b Qc hk;have p:=Ih (o:=⟨some d,op,ty,pos,aD,some (gi,want)⟩) (DC hg) hc (b.tmps dg);refine wpList_step fun K f=>?_;rw [p];cases C with
 | true =>
  rw [if_pos rfl];refine(m rfl).step j w jl a b.hl (fun x _=>pO b.tmps x) K Qc fun v0 l k cv j' w' bp ⟨q,r,s⟩ hv hl hx g=>f _ _ ?_;have t:l=ls:=by rw [r]; cases fx.wl<;>rfl
  have u:k=h:=by rw [s]; cases fx.wh<;>rfl
  subst q t u;exact hr j' w' bp _ (b.put g.toLe hx (dst:=some d) hd (v:=_) (V.G_ hv) hl) Qc fun y z B E a2 hq F G=>hk y z B E a2 hq F (g.trans G)
 | false =>
  simp only [Bool.false_eq_true,if_false];exact f _ _ (hr j w jl _ (b.put (Le.refl _ _) (Ext.refl _) (dst:=some d) hd (v:=v.under false) (V.He v) b.hl) Qc hk)
theorem aH.gC {v:V}{done:List Fx}(hg:(ops[gi]?).bind (·.dst)=some dg) (hc:gc (get ts dg) want=some C) (m:C=true->aq P ⟨some d,op,ty,pos,aD,some (gi,want)⟩ ts ls h fx v ls h) (hd:Nat.blt d n=true)
  (hr:aH P ops n rest (fx.plain::done) Q ⟨n,(d,v.under C)::ts,ls,h⟩):aH P ops n (⟨some d,op,ty,pos,aD,some (gi,want)⟩::rest) done Q ⟨n,ts,ls,h⟩:=by
 refine aH.cons (fx:=fx) (v:=v.under C) (aS:=ls) (h':=h) ⟨hd,fun L H k hH j w jl a hl l K Q hk=>?_⟩ (by cases fx with|mk a b c d e=>cases b<;>cases d<;>exact hr);have p:=Ih (o:=⟨some d,op,ty,pos,aD,some (gi,want)⟩) (DC hg) hc (l dg (Nu (DC hg)));rw [p];cases C with
 | true =>
  rw [if_pos rfl];exact m rfl L H k hH j w jl a hl (Dc l) K Q fun _ _ _ cv j' w' bp ⟨g,f,q⟩=>by subst g f q; exact fun hv=>hk cv j' w' bp (V.G_ hv)
 | false =>
  simp only [Bool.false_eq_true,if_false];refine hk undef j w jl (V.He v) ?_ (Ext.refl _) ?_
  ·have g:(bif fx.wl then ls else L)=L:=by cases hw:fx.wl with
    | true=>exact(k (by rw [hw]; simp)).symm
    | false=>rfl
   have f:(bif fx.wh then h else H)=H:=by cases hw:fx.wh with
    | true=>exact(hH (by rw [hw]; simp)).symm
    | false=>rfl
   rw [g,f]; exact hl
  ·have f:(bif fx.wh then h else H)=H:=by cases hw:fx.wh with
    | true=>exact(hH (by rw [hw]; simp)).symm
    | false=>rfl
   rw [f]; exact bT.refl _ _ _
variable {dst:Option Tmp}{g:Option (Nat×Bool)}
theorem aq.Od {c y z:Operand}{b r k:Bool}(hc:ev ts c=.a (.d (.bool b))) (m:ev ts y=.gd k (.d (.bool r))) (p:b=true->k=true) (hz:ev ts z=.a (.d (.bool false))) :
  aq P (mk dst (.pick c y z) ty pos aD g) ts ls h {} (.a (.d (.bool (b&&r)))) ls h :=
 aq.eA fun j w jl a f=>by
  have h1:=f c (by simp [Op.operands]);have h2:=f y (by simp [Op.operands]);have l:=f z (by simp [Op.operands]);rw [hc] at h1; rw [m] at h2; rw [hz] at l;cases b with
  | true =>
   have q:bD j w jl (.a (.d (.bool r))) (a.eval y):=h2.1 (p rfl);exact⟨.bool r,by simp [execOp,jH h1,jH q,asBool],by simp only [Bool.true_and]; exact aF.bool _⟩
  | false=>exact⟨.bool false,by simp [execOp,jH h1,jH l,asBool],by simp only [Bool.false_and]; exact aF.bool _⟩
theorem aq.Oe {c y z:Operand}{b r k:Bool}(hc:ev ts c=.a (.d (.bool b))) (m:ev ts y=.a (.d (.bool true))) (hz:ev ts z=.gd k (.d (.bool r))) (p:b=false->k=true) :
  aq P (mk dst (.pick c y z) ty pos aD g) ts ls h {} (.a (.d (.bool (b||r)))) ls h :=
 aq.eA fun j w jl a f=>by
  have h1:=f c (by simp [Op.operands]);have h2:=f y (by simp [Op.operands]);have l:=f z (by simp [Op.operands]);rw [hc] at h1; rw [m] at h2; rw [hz] at l;cases b with
  | false =>
   have q:bD j w jl (.a (.d (.bool r))) (a.eval z):=l.1 (p rfl);exact⟨.bool r,by simp [execOp,jH h1,jH q,asBool],by simp only [Bool.false_or]; exact aF.bool _⟩
  | true=>exact⟨.bool true,by simp [execOp,jH h1,jH h2,asBool],by simp only [Bool.true_or]; exact aF.bool _⟩
theorem iz {a b:Bool}(h:(a&&b)=true):a=true:=by cases a<;>simp_all
theorem DD {a b:Bool}(h:(a&&b)=true):b=true:=by cases a<;>simp_all
theorem As {b:Bool}(h:b=false):(!b)=true:=by simp [h]
theorem Au {a b:Bool}(h:a=true) (h':b=true):(a&&b)=true:=by simp [h,h']
end
section
variable {P:Program}{Q:Exit->St->Prop}{σ:St}
theorem rP {id:Nat}(h:Q .ret σ):t_ id Q .ret σ:=h
theorem rQ {K:St->Prop}(h:Q .ret σ):kw K Q .ret σ:=h
theorem ag.ar {x y:Code}(h:∀K:St->Prop,(∀σ,ag P y Q σ->K σ)->ag P x (kw K Q) σ):ag P (.seq x y) Q σ:=ag.seq (h _ fun _ h=>h)
theorem ag.Of {α:Type}{c:Code}(inv:α->St) (m:α->Nat) (pre:α->Prop) (g:α) (k:cI σ (inv g)) (h0:pre g)
  (hr:∀x,pre x->∀K:St->Prop,(∀b y,cI b (inv y)->pre y->m y<m x->K b)->ag P c (kw K Q) (inv x)):ag P (.loop c) Q σ:=by
 refine ag.ua k (ag.loop inv m pre g h0 fun x hx=>ag.post (ag.mono (hr x hx (fun b=>∃y,cI b (inv y)/\pre y/\m y<m x) fun b y h1 h2 j=>⟨y,h1,h2,j⟩) ?_));intro e f hq;cases e with
 | normal=>obtain⟨y,h1,h2,j⟩:=hq; exact⟨inv y,h1,y,rfl,h2,j⟩
 | exit _=>exact⟨f,cI.refl _,hq⟩
 | goto _=>exact⟨f,cI.refl _,hq⟩
 | ret=>exact⟨f,cI.refl _,hq⟩
 | panic _=>exact⟨f,cI.refl _,hq⟩
 | outgrown=>exact⟨f,cI.refl _,hq⟩
theorem cI.Og {n:Nat}{ts b:Ts}{ls aS:List (List D)}{h h':ah}(m:Nat) (hk:dR ts m b) (hl:ls.take m=aS) (hh:h=h'):cI ⟨n,ts,ls,h⟩ ⟨n,b,aS,h'⟩:=by
 subst hl hh; exact cI.keep m hk
def V.xm (m:Nat):V->Bool
 | .dH i _=>Nat.blt i m
 | .g_ _ i _=>Nat.blt i m
 | _=>true
theorem dR.c {ts:Ts}{m:Nat}{k:Nat}{v:V}{r:Ts}(h:Ab.get ts k=v) (hv:v.xm m=true) (t:dR ts m r):dR ts m ((k,v)::r) :=
 .cons h ⟨fun i off e=>by subst e; simpa [V.xm,Nat.blt_eq] using hv,fun c i off e=>by subst e; simpa [V.xm,Nat.blt_eq] using hv⟩ t
end
inductive fO (ts:Ts):Ts->Prop where
 | nil:fO ts []
 | cons {k:Nat}{v:V}{r:Ts}(h:Ab.get ts k=v) (t:fO ts r):fO ts ((k,v)::r)
inductive jJ {α:Type}:List α->List α->Prop where
 | nil {l:List α}:jJ [] l
 | cons {a:α}{l l':List α}(h:jJ l l'):jJ (a::l) (a::l')
theorem jJ.take {α:Type}{l l':List α}(h:jJ l l'):l'.take l.length=l:=by
 induction h with
 | nil=>simp
 | cons _ b=>simp [b]
theorem cI.to {n:Nat}{ts b:Ts}{ls aS:List (List D)}{h h':ah}(hk:dR ts aS.length b) (hl:jJ aS ls) (hh:h=h'):cI ⟨n,ts,ls,h⟩ ⟨n,b,aS,h'⟩ :=
 cI.Og aS.length hk hl.take hh
theorem cI.toF {n:Nat}{ts b:Ts}{ls aS:List (List D)}{h h':ah}(hk:dR ts aS.length b) (hl:jJ aS ls) (hh:∀id o,h' id=some o->h id=some o):cI ⟨n,ts,ls,h⟩ ⟨n,b,aS,h'⟩ :=
 (cI.to hk hl rfl).trans (cI.forget hh)
section
variable {P:Program}{Q:Exit->St->Prop}{n:Nat}{iT ts:Ts}{ls:List (List D)}{h:ah}
theorem ag.iA {α:Type}{c:Code}(_:fO iT ts) (over:α->Ts) (lo:α->List (List D)) (hh:α->ah) (m:α->Nat) (pre:α->Prop) (b:α) (h0:pre b) (hi:cI ⟨n,iT,ls,h⟩ ⟨n,over b++ts,lo b,hh b⟩)
  (hr:∀x,pre x->∀K:St->Prop,(∀f y,cI f ⟨n,over y++ts,lo y,hh y⟩->pre y->m y<m x->K f)->ag P c (kw K Q) ⟨n,over x++ts,lo x,hh x⟩):ag P (.loop c) Q ⟨n,iT,ls,h⟩ :=
 ag.Of (fun x=>⟨n,over x++ts,lo x,hh x⟩) m pre b hi h0 hr
theorem ag.fh {α:Type}{x y:Code}(_:fO iT ts) (over:α->Ts) (lo:α->List (List D)) (hh:α->ah) (pre:α->Prop)
  (hx:∀K:St->Prop,(∀b y,cI b ⟨n,over y++ts,lo y,hh y⟩->pre y->K b)->ag P x (kw K Q) ⟨n,iT,ls,h⟩) (g:∀z,pre z->ag P y Q ⟨n,over z++ts,lo z,hh z⟩):ag P (.seq x y) Q ⟨n,iT,ls,h⟩:=by
 refine ag.seq (ag.post (ag.mono (hx (fun b=>∃z,cI b ⟨n,over z++ts,lo z,hh z⟩/\pre z) fun b z h1 h2=>⟨z,h1,h2⟩) ?_));intro e f hq;cases e with
 | normal=>obtain⟨z,h1,h2⟩:=hq; exact⟨_,h1,g z h2⟩
 | exit _=>exact⟨f,cI.refl _,hq⟩
 | goto _=>exact⟨f,cI.refl _,hq⟩
 | ret=>exact⟨f,cI.refl _,hq⟩
 | panic _=>exact⟨f,cI.refl _,hq⟩
 | outgrown=>exact⟨f,cI.refl _,hq⟩
theorem ag.bx {α:Type}{c:Code}(_:fO iT ts) (over:α->Ts) (hh:α->ah) (m:α->Nat) (pre:α->Prop) (b:α) (h0:pre b) (hi:cI ⟨n,iT,ls,h⟩ ⟨n,over b++ts,ls,hh b⟩)
  (hr:∀x,pre x->∀K:St->Prop,(∀f y,cI f ⟨n,over y++ts,ls,hh y⟩->pre y->m y<m x->K f)->ag P c (kw K Q) ⟨n,over x++ts,ls,hh x⟩):ag P (.loop c) Q ⟨n,iT,ls,h⟩ :=
 ag.iA ‹_› over (fun _=>ls) hh m pre b h0 hi hr
theorem ag.aN {α:Type}{x y:Code}(_:fO iT ts) (over:α->Ts) (hh:α->ah) (pre:α->Prop)
  (hx:∀K:St->Prop,(∀b y,cI b ⟨n,over y++ts,ls,hh y⟩->pre y->K b)->ag P x (kw K Q) ⟨n,iT,ls,h⟩) (f:∀z,pre z->ag P y Q ⟨n,over z++ts,ls,hh z⟩):ag P (.seq x y) Q ⟨n,iT,ls,h⟩ :=
 ag.fh ‹_› over (fun _=>ls) hh pre hx f
end
end Go.Ab
/-
 The program's data types (package api) as plain Lean types,and how each is laid out in cells.
-/
namespace Go.Ab
open Go Go.RowKit
variable {ak:bP}
abbrev xo:={ s:List UInt8 // s.length<=dI }
structure jr (α:Type) where
 nil:Bool
 l:List α
 ok:l.length<=dI
 nn:nil=true->l=[]
def jr.d {α:Type}(k:Nat) (f:α->List D) (s:jr α):D:=.slice k none s.nil (s.l.map f)
def Oh (s:xo):List D:=[.str s.1]
def Oi (n:Int):List D:=[.int .i64 n]
end Go.Ab
/-
 What the functions of package schema compute,in plain terms.
-/
namespace Go.Ab.pU
open Go Go.Ab
end Go.Ab.pU
/-
 Heaps in normal form; nil slices given a token where they are passed.
-/
namespace Go.Ab
open Go Go.RowKit
variable {ak:bP}
variable {fE:ez}
theorem ah.Ii {h:ah}{i:Nat}{o:Option Obj}(hi:h i=none):∀id b,h id=some b->(h.set i o) id=some b:=by
 intro id b e; rw [ah.cD]; exact e;intro he; rw [he,hi] at e; cases e
inductive jf (h:ah):A->A->Prop where
 | refl (x:A):jf h x x
 | nil {k k' t:Nat}{o:Obj}(ht:h t=some o):jf h (.d (.slice k none true [])) (.d (.slice k' (some t) true []))
 | Oj {k k':Nat}:jf h (.d (.slice k none true [])) (.d (.slice k' none true []))
theorem jf.rel {h:ah}{x y:A}(f:jf h x y){j:J}{w:World}{v:Value}(hh:fI j w h) (hx:cF j w x v):cF j w y v:=by
 cases f with
 | refl=>exact hx
 | @nil k k' t o ht =>
  have b:aF j w (.slice k none true []) v:=hx;cases b;exact aF.gH _ _ fun g e=>by simp at e; subst e; exact(hh.obj _ _ ht).1
 | @Oj k k' =>
  have b:aF j w (.slice k none true []) v:=hx;cases b;exact aF.gH _ _ fun g e=>by cases e
theorem AC.uk {P:Program}{f:FuncId}{xs ys:List A}{h:ah}{cT:V->ah->Prop}(g:bI (jf h) xs ys) (hc:AC P f ys h cT):AC P f xs h cT :=
 ⟨hc.enter,fun j w cR hh k=>hc.runs j w cR hh (by
  refine bI.k7 (by rw [<- g.length,k.length]) fun i y v l hv=>?_;obtain⟨x,hx,m⟩:=g.get' l;obtain⟨v',b,hr⟩:=k.get hx;rw [hv] at b; simp at b; subst b;exact m.rel hh hr)⟩
theorem eP {id:Nat}{Q:Exit->St->Prop}{σ:St}(h:Q .normal σ):t_ id Q (.exit id) σ:=by
 unfold t_; simpa using h
theorem eR {id:Nat}{K:St->Prop}{Q:Exit->St->Prop}{σ:St}(h:Q (.exit id) σ):kw K Q (.exit id) σ:=h
theorem eS {id:Nat}{Q:Exit->St->Prop}{σ:St}(h:Q .normal σ):t_ id Q .normal σ:=h
theorem ag.tok {P:Program}{c:Code}{Q:Exit->St->Prop}{n:Nat}{ts:Ts}{ls:List (List D)}{h:ah}(k:Nat)
  (hw:∀t,h t=none->ag P c Q ⟨n,ts,ls,h.set t (some (.tok k 0))⟩):ag P c Q ⟨n,ts,ls,h⟩:=by
 intro j w jl a b;obtain⟨h1,h2⟩:=b.hl.eM k;have f:=b.hl.1.pN (Nat.le_refl _);refine wp_mono (hw j.next f j.eM w jl a ⟨b.defers,b.size,fun i=>(b.tmps i).mono h2.toLe (Ext.refl _),h1⟩) fun e a w hq=>AQ.trans h2 hq
theorem ag.gv {P:Program}{c:Code}{Q:Exit->St->Prop}{n:Nat}{ts:Ts}{ls:List (List D)}{h:ah}(s k t:Nat){o:Obj}{f:Nat}(g:get ts s=.a (.d (.slice f none true []))) (ht:h t=some o)
  (hw:ag P c Q ⟨n,(s,.a (.d (.slice k (some t) true [])))::ts,ls,h⟩):ag P c Q ⟨n,ts,ls,h⟩:=by
 intro j w jl a b;refine hw j w jl a ⟨b.defers,b.size,fun i=>?_,b.hl⟩;by_cases e:s=i
 ·subst e;show bD _ _ _ (get ((s,_)::ts) s) _;rw [gp];have hv:bD j w jl (get ts s) (a.tmps.getD s undef):=b.tmps s;rw [g] at hv;exact(jf.nil (k':=k) ht).rel b.hl.1 hv
 ·show bD _ _ _ (get ((s,_)::ts) i) _;rw [ia _ _ e];exact b.tmps i
theorem ag.eG {P:Program}{c:Code}{Q:Exit->St->Prop}{n:Nat}{ts:Ts}{ls:List (List D)}{h:ah}(s:Nat){k:Nat}{tk:Option Nat}{nl:Bool}{rows:List (List D)}(g:get ts s=.a (.d (.slice k tk nl rows)))
  (hw:ag P c Q ⟨n,(s,.a (.d (.slice k none nl rows)))::ts,ls,h⟩):ag P c Q ⟨n,ts,ls,h⟩:=by
 intro j w jl a b;refine hw j w jl a ⟨b.defers,b.size,fun i=>?_,b.hl⟩;by_cases e:s=i
 ·subst e;show bD _ _ _ (get ((s,_)::ts) s) _;rw [gp];have hv:bD j w jl (get ts s) (a.tmps.getD s undef):=b.tmps s;rw [g] at hv;have f:aF j w (.slice k tk nl rows) (a.tmps.getD s undef):=hv;generalize a.tmps.getD s undef=x at f ⊢;cases f with
  | gH=>exact aF.gH _ _ fun t e=>by cases e
  | slice _ _ _ a cap cv hk hn hc bZ hr ht=>exact aF.slice _ _ _ a cap cv hk hn hc bZ hr fun t e=>by cases e
 ·show bD _ _ _ (get ((s,_)::ts) i) _;rw [ia _ _ e];exact b.tmps i
theorem bR.cK {T:List TI}{rs:List ResultVar}{cT:V->ah->Prop}{σ:St}{xs:List A}(h':ah) (h:nD T σ rs=some xs) (b:cT (lc xs) h') (f:∀id o,h' id=some o->σ.h id=some o):bR T rs cT .ret σ:=⟨.inr rfl,xs,h',h,f,b⟩
theorem bR.eX {T:List TI}{rs:List ResultVar}{cT:V->ah->Prop}{σ:St}{xs:List A}(h':ah) (h:nD T σ rs=some xs) (b:cT (lc xs) h') (f:∀id o,h' id=some o->σ.h id=some o):bR T rs cT .normal σ:=⟨.inl rfl,xs,h',h,f,b⟩
section
variable {P:Program}{dst:Option Tmp}{ty:TypeId}{pos:String}{aD:Array Edge}{g:Option (Nat×Bool)}{ts:Ts}{ls:List (List D)}{h:ah}
end
def bg (l:List (List UInt8)):List (D×A):=l.map fun s=>(.str s,.d (.bool true))
def cB (l:List (List UInt8)) (s:List UInt8):List (List UInt8):=if l.contains s then l else l++[s]
theorem Ol (l:List (List UInt8)) (s:List UInt8):kA (.str s) (bg l)=some (if l.contains s then some (.d (.bool true)) else none):=by
 induction l with
 | nil=>rfl
 | cons x r b =>
  simp only [bg,List.map_cons,kA,pT,List.contains_cons];by_cases e:s=x
  ·subst e; simp
  ·have f:(s==x)=false:=by simpa using e
   have g:(x==s)=false:=by simpa using fun h=>e h.symm
   simp only [f,g,Bool.false_or]; exact b
theorem mr (l:List (List UInt8)) (s:List UInt8):nF (.str s) (.d (.bool true)) (bg l)=some (bg (cB l s)):=by
 induction l with
 | nil=>rfl
 | cons x r f =>
  simp only [bg,List.map_cons,nF,pT,cB,List.contains_cons];by_cases e:s=x
  ·subst e; simp
  ·have g:(s==x)=false:=by simpa using e
   have j:(x==s)=false:=by simpa using fun h=>e h.symm
   have b:=f;simp only [bg,cB] at b;simp only [g,j,Bool.false_or,b]
   split<;>simp_all
section
variable {P:Program}{dst:Option Tmp}{ty:TypeId}{pos:String}{aD:Array Edge}{g:Option (Nat×Bool)}{ts:Ts}{ls:List (List D)}{h:ah}
theorem aq.ul {t b f:TypeId}{j m p:TI}{x y:Operand}{id:Nat}{l:List (List UInt8)}{s:List UInt8}(q:bn P t=some j) (hk:j.k=.map b f) (r:bn P b=some m) (w:bn P f=some p) (hz:p.zero=some (.d (.bool false)))
  (hx:ev ts x=.a (.d (.map id))) (u:ev ts y=.a (.d (.str s))) (v:iy m.k (.str s)=true) (hm:h id=some (.map (bg l))):aq P (mk dst (.lookup t x y false) ty pos aD g) ts ls h { rh:=true } (.a (.d (.bool (l.contains s)))) ls h:=by
 have h1:=Ol l s;cases hc:l.contains s with
 | true=>rw [hc] at h1; exact aq.N6 q hk r hx u v hm h1
 | false=>rw [hc] at h1; exact aq.N7 q hk r w hz hx u v hm h1
end
end Go.Ab
/-
 Variables that turn no more: a box that is only read,and a local that becomes data.
-/
namespace Go.Ab
open Go Go.RowKit
variable {ak:bP}
variable {fE:ez}
theorem DE {j:J}{w:World}{b:Nat}{xs:List D}{cs:List Value}{e:TypeId}{n:Nat}(hh:w.heap[b]?=some (.cells cs.toArray e (0,0))) (hx:bI (aF j w) xs cs) (g:xs.length<=j.F b) :
  aF j w (.view xs) (.pointer (some ⟨b,0,none⟩)):=by
 refine aF.view xs _ (fun i=>cs.getD i default) ⟨rfl,fun i hi=>?_⟩ fun i hi=>?_
 ·have f:i<cs.length:=hx.length▸hi;refine⟨by show 0+i<j.F b; omega, ?_,.cells hh⟩;show w.cell? ⟨b,0+i,none⟩=_;rw [Nat.zero_add,cell_of_row w b i cs.toArray e (0,0) hh];simp [f]
 ·obtain⟨v,hv,hr⟩:=hx.get (List.getElem?_eq_getElem hi);have:cs.getD i default=v:=by rw [List.getD_eq_getElem?_getD,hv]; rfl
  rw [this]; exact hr
section
variable {P:Program}{dst:Option Tmp}{ty:TypeId}{pos:String}{aD:Array Edge}{g:Option (Nat×Bool)}{ts:Ts}{ls:List (List D)}{h:ah}
theorem aq.Om {e:TypeId}{x:Operand}{y:A}(hx:ev ts x=.a y):aq P (mk dst (.box e x) ty pos aD g) ts ls h {} (.a (.d (.view (cU y)))) ls h:=by
 refine aq.of_run fun L H _ _ j w jl a hl f=>?_;have h1:=f x (by simp [Op.operands]);rw [hx] at h1;have k:cF j w y (a.eval x):=h1;obtain⟨l,b⟩:=hl.data (.cells (a.eval x).cells e) (cU y).length;refine⟨.value (.pointer (some ⟨w.heap.size,0,none⟩)),_,.pointer (some ⟨w.heap.size,0,none⟩),j.eO w.heap.size (cU y).length,jl,by simp [execOp,Instr.box,newVar,newRow],.inl rfl, ?_,l,Ext.refl _,b⟩
 refine DE (n:=0) (cs:=(a.eval x).cells.toList) (e:=e) ?_ (k.cells.imp fun _ _ h=>h.mono b.toLe) (by simp [J.eO]);rw [Array.toArray_toList]; exact heap_alloc_new w _
variable {c:Code}{Q:Exit->St->Prop}{n:Nat}
theorem cI.freeze {l:Ts}{aS:List (List D)}{xs:List D}(s i:Nat) (L:get ts s=.dH i 0) (hl:fF xs aS i ls) (hk:dR ts i l):cI ⟨n,ts,ls,h⟩ ⟨n,(s,.a (.d (.view xs)))::l,aS,h⟩:=by
 obtain⟨hi,e⟩:=hl.spec;subst hi e;intro j w jl a g;have m:=g.hl;obtain⟨b,q,u⟩:∃b,jl[aS.length]?=some b/\a.tmps.getD s undef=.pointer (some ⟨b,0,none⟩):=by
  have:=g.tmps s;have this:bD j w jl (get ts s) (a.tmps.getD s undef):=this;rw [L] at this; exact this
 obtain⟨v,G,cs,X,H,M,N⟩:∃v,(aS++[xs])[aS.length]?=some v/\k9 j w b v:=m.2.each.get' q;simp at G; subst G;have aJ:=iR H;have I:=m.trim (ak:=ak) aS.length;rw [List.take_left' rfl] at I;have O:b∉jl.take aS.length:=by
  intro hm;obtain⟨k,P,t⟩:=List.getElem_of_mem hm;rw [List.length_take] at P;have h1:jl[k]?=some b:=by rw [<- t,List.getElem_take]; exact List.getElem?_eq_getElem _
  have h2:=(List.getElem?_inj (by omega) m.2.nodup).1 (h1.trans q.symm);omega
 have Q:¬aU j h (jl.take aS.length) b:=by
  rintro (hm|⟨id,o,h1,h2⟩)
  ·exact O hm
  ·exact m.2.apart b (List.mem_of_getElem? q) (.inr ⟨id,o,h1,h2⟩)
 have hle:Le j w (j.eO b xs.length) w:=⟨Nat.le_refl _,fun _ _=>rfl,fun f=>by
  simp only [J.eO]
  split
  ·rename_i e; rw [e,N]; exact Nat.zero_le _
  ·exact Nat.le_refl _,fun _ _ _=>rfl,fun _ _=>.inl rfl,fun _ _ _ _ _ h=>h⟩
 have y:∀f,f≠b->(j.eO b xs.length).F f=j.F f:=fun f R=>by simp only [J.eO]; rw [if_neg R]
 have t:=I.1.keep hle (fun f p=>⟨rfl,y f (fun e=>Q (e▸p))⟩) (fun _ _ _=>rfl) (fun f S=>by rw [y f (by omega)]; exact m.1.fresh f S);refine⟨j.eO b xs.length,jl.take aS.length,⟨g.defers,g.size,fun k=>?_,t.1⟩, ?_⟩
 ·by_cases e:s=k
  ·subst e;show bD _ _ _ (get ((s,_)::l) s) _;rw [gp];have u:a.tmps.getD s undef=.pointer (some ⟨b,0,none⟩):=u;rw [u];exact DE (n:=0) H (M.imp fun _ _ h=>h.mono hle) (by simp [J.eO])
  ·show bD _ _ _ (get ((s,_)::l) k) _;rw [ia _ _ e];obtain⟨Y,Z,aa,_⟩:=cI.keep (ak:=ak) (n:=n) (ls:=aS++[xs]) (h:=h) aS.length hk j w jl a g;have hv:bD j w jl (get ts k) (a.tmps.getD k undef):=g.tmps k;rcases hk.get k with z|⟨z,U,W⟩
   ·rw [z]; trivial
   ·rw [<- z] at hv;cases hx:get l k with
    | any=>trivial
    | a x=>rw [hx] at hv; exact cF.mono hle hv
    | dH i off =>
     rw [hx] at hv;obtain⟨B,C,E⟩:=hv;exact⟨B,by rw [List.getElem?_take_of_lt (U i off hx)]; exact C,E⟩
    | b_ xs=>rw [hx] at hv; obtain⟨cs,e,hh⟩:=hv; exact⟨cs,e,hh.imp fun _ _ h=>h.mono hle⟩
    | gd c x=>rw [hx] at hv; exact⟨fun hc=>cF.mono hle (hv.1 hc),hv.2⟩
    | full k rows=>rw [hx] at hv; exact⟨aF.mono hle hv.1,hv.2⟩
    | rH c k rows=>rw [hx] at hv; exact⟨fun hc=>⟨aF.mono hle (hv.1 hc).1,(hv.1 hc).2⟩,hv.2⟩
    | sm c K=>rw [hx] at hv; exact⟨fun hc=>let ⟨x,k,r⟩:=hv.1 hc; ⟨x,k,cF.mono hle r⟩,hv.2⟩
    | pK K=>rw [hx] at hv; obtain⟨xs,k,cs,e,hh⟩:=hv; exact⟨xs,k,cs,e,hh.imp fun _ _ h=>h.mono hle⟩
    | g_ c i off =>
     rw [hx] at hv;refine⟨fun hc=>?_,hv.2⟩;obtain⟨B,C,E⟩:=hv.1 hc;exact⟨B,by rw [List.getElem?_take_of_lt (W c i off hx)]; exact C,E⟩
 ·refine { toLe:=hle,size:=Nat.le_refl _,frame:=fun f _ p=>⟨rfl,y f fun e=>p (.inl (e▸List.mem_of_getElem? q))⟩,own:=fun f _ p=>?_,os:=rfl,tape:=rfl,output:=fJ.rfl };rcases (t.2 f).1 p with hm|hm
  ·exact .inl (List.mem_of_mem_take hm)
  ·exact .inr hm
theorem ag.freeze {b:Ts}{aS:List (List D)}{xs:List D}(s i:Nat) (f:get ts s=.dH i 0) (hl:fF xs aS i ls) (hk:dR ts i b) (hw:ag P c Q ⟨n,(s,.a (.d (.view xs)))::b,aS,h⟩):ag P c Q ⟨n,ts,ls,h⟩ :=
 ag.ua (cI.freeze s i f hl hk) hw
end
theorem Ij {k:Nat}{tk:Option Nat}{nl:Bool}{rows:List (List D)}(j:J) (w:World) (cv:Value) (h:bD j w [] (.a (.d (.slice k tk nl rows))) cv):bD j w [] (.a (.d (.slice k none nl rows))) cv:=by
 have h':aF j w (.slice k tk nl rows) cv:=h;cases h' with
 | gH=>exact aF.gH _ _ fun t e=>by cases e
 | slice _ _ _ a cap cv hk hn hc bZ hr ht=>exact aF.slice _ _ _ a cap cv hk hn hc bZ hr fun t e=>by cases e
end Go.Ab
/-
 Names and violations in plain terms; the reference's functions of layer 10.
-/
namespace Go.Ab.pU
open Go Go.Ab
end Go.Ab.pU
/-
 Layer 10: input types that contain themselves,plainly: the reference's list and what can be reached.
-/
namespace Go.Ab.pU
open Go Go.Ab
end Go.Ab.pU
/-
 The checker of package schema as an object.
-/
namespace Go.Ab
open Go Go.RowKit
variable {ak:bP}
variable {fE:ez}
theorem aU.lp {j:J}{h:ah}{c:Nat}{xs ys:List D}(hc:h c=some (.cells xs)){jl:List Nat}{b:Nat}:aU j (h.set c (some (.cells ys))) jl b↔aU j h jl b:=by
 constructor
 ·rintro (h1|⟨id,o,h1,h2⟩)
  ·exact .inl h1
  ·by_cases e:id=c
   ·subst e; rw [ah.cM] at h1; simp only [Option.some.injEq] at h1; subst h1;exact .inr ⟨id,_,hc,h2⟩
   ·rw [ah.cD _ _ e] at h1; exact .inr ⟨id,o,h1,h2⟩
 ·rintro (h1|⟨id,o,h1,h2⟩)
  ·exact .inl h1
  ·by_cases e:id=c
   ·subst e; rw [hc] at h1; simp only [Option.some.injEq] at h1; subst h1;exact .inr ⟨id,_,ah.cM _ _ _,h2⟩
   ·exact .inr ⟨id,o,by rw [ah.cD _ _ e]; exact h1,h2⟩
theorem fI.lp {j:J}{w:World}{h:ah}{c:Nat}{xs ys:List D}(hr:fI j w h) (hc:h c=some (.cells xs)) (g:∀cs,bI (aF j w) xs cs->bI (aF j w) ys cs):fI j w (h.set c (some (.cells ys))):=by
 have key:∀id o,(h.set c (some (.cells ys))) id=some o->∃o',h id=some o'/\bQ j id o=bQ j id o':=by
  intro id o f;by_cases e:id=c
  ·subst e; rw [ah.cM] at f; simp only [Option.some.injEq] at f; subst f;exact⟨_,hc,rfl⟩
  ·rw [ah.cD _ _ e] at f; exact⟨o,f,rfl⟩
 refine⟨fun id o f=>?_,fun jF o1 jG o2 b h1 h2 k l=>?_,hr.fresh⟩
 ·by_cases e:id=c
  ·subst e; rw [ah.cM] at f; simp only [Option.some.injEq] at f; subst f;obtain⟨hn,cs,m,h1,h2,p⟩:=hr.obj _ _ hc;exact⟨hn,cs,m,h1,g _ h2,p⟩
  ·rw [ah.cD _ _ e] at f; exact hr.obj _ _ f
 ·obtain⟨u,q,r⟩:=key _ _ h1;obtain⟨v,s,t⟩:=key _ _ h2;exact hr.inj _ _ _ _ b q s (r▸k) (t▸l)
theorem ag.dU {P:Program}{c:Code}{Q:Exit->St->Prop}{n:Nat}{ts:Ts}{ls:List (List D)}{h:ah}(i:Nat){xs:List D}(ys:List D) (hc:ls[i]?=some xs) (m:∀j w cs,fI j w h->bI (aF j w) xs cs->bI (aF j w) ys cs)
  (hw:ag P c Q ⟨n,ts,ls.set i ys,h⟩):ag P c Q ⟨n,ts,ls,h⟩:=by
 intro j w jl a g;have hl:=g.hl;have p:bI (fun xs b=>k9 j w b xs) (ls.set i ys) jl:=by
  refine bI.k7 (by rw [List.length_set,hl.2.each.length]) fun k x b hx l=>?_;rw [List.getElem?_set] at hx
  split at hx
  ·rename_i e
   subst e
   split at hx
   ·simp only [Option.some.injEq] at hx; subst hx;obtain⟨q,f,cs,r,h1,h2,s⟩:=hl.2.each.get hc;rw [l] at f; simp only [Option.some.injEq] at f; subst f;exact⟨cs,r,h1,m j w _ hl.1 h2,s⟩
   ·cases hx
  ·obtain⟨q,f,h1⟩:=hl.2.each.get hx;rw [l] at f; simp only [Option.some.injEq] at f; subst f;exact h1
 exact hw j w jl a ⟨g.defers,g.size,g.tmps,⟨hl.1,⟨p,hl.2.nodup,hl.2.apart⟩⟩⟩
end Go.Ab
namespace Go.Ab.pU
open Go Go.Ab
end Go.Ab.pU
/-
 Models: functions that may have no answer; the rules by which a walk follows its function's model.
-/
namespace Go.Ab
open Go Go.RowKit
variable {ak:bP}
variable {fE:ez}
structure Sl (α:Type) where
 nl:Bool
 l:List α
abbrev Bs:=List UInt8
def Sl.d {α:Type}(k:Nat) (f:α->List D) (t:Option Nat) (s:Sl α):D:=.slice k t s.nl (s.l.map f)
def Sl.nil {α:Type}:Sl α:=⟨true,[]⟩
def aW (s:Bs):List D:=[.str s]
def rR (b:Bool):List D:=[.bool b]
def bM (k:IntKind) (n:Int):List D:=[.int k n]
def cV (a b:Int):Option Int:=if -9223372036854775808<=a+b/\a+b<=9223372036854775807 then some (a+b) else none
def mu (a b:Int):Option Int:=if -9223372036854775808<=a-b/\a-b<=9223372036854775807 then some (a-b) else none
def dc {α:Type}(l:List α) (n:Int):Option α:=if 0<=n then l[n.toNat]? else none
def cC (a b:Bs):Option Bs:=if a.length+b.length<=fD then some (a++b) else none
def bq {α:Type}(z:Nat) (s r:Sl α):Option (Sl α):=if (s.l.length+r.l.length)*z<=dI/\s.l.length+r.l.length<=dI then some ⟨s.nl&&r.l.isEmpty,s.l++r.l⟩ else none
def js {α:Type}(s:Sl α) (lo hi:Option Int):Option (Sl α) :=
 if 0<=lo.getD 0/\lo.getD 0<=hi.getD s.l.length/\hi.getD s.l.length<=s.l.length then some ⟨s.nl,(s.l.take (hi.getD s.l.length).toNat).drop (lo.getD 0).toNat⟩ else none
def Av (s:Bs) (lo hi:Option Int):Option Bs :=
 if 0<=lo.getD 0/\lo.getD 0<=hi.getD s.length/\hi.getD s.length<=s.length then some ((s.take (hi.getD s.length).toNat).drop (lo.getD 0).toNat) else none
def a_ {α β:Type}(c:Bool) (o:Option α) (d:α) (k:α->Option β):Option β:=if c=true then o.bind k else k d
theorem Ik {a b x:Int}(h:cV a b=some x):x=a+b /\ -9223372036854775808<=a+b/\a+b<=9223372036854775807:=by
 unfold cV at h; split at h
 ·rename_i h2; simp at h; exact⟨h.symm,h2⟩
 ·cases h
theorem On {a b x:Int}(h:mu a b=some x):x=a-b /\ -9223372036854775808<=a-b/\a-b<=9223372036854775807:=by
 unfold mu at h; split at h
 ·rename_i h2; simp at h; exact⟨h.symm,h2⟩
 ·cases h
theorem Oo {α:Type}{l:List α}{n:Int}{x:α}(h:dc l n=some x):0<=n/\l[n.toNat]?=some x:=by
 unfold dc at h; split at h
 ·rename_i h2; exact⟨h2,h⟩
 ·cases h
theorem Oq {a b x:Bs}(h:cC a b=some x):x=a++b/\a.length+b.length<=fD:=by
 unfold cC at h; split at h
 ·rename_i h2; simp at h; exact⟨h.symm,h2⟩
 ·cases h
theorem xq {α:Type}{z:Nat}{s r x:Sl α}(h:bq z s r=some x):x=⟨s.nl&&r.l.isEmpty,s.l++r.l⟩/\(s.l.length+r.l.length)*z<=dI/\s.l.length+r.l.length<=dI:=by
 unfold bq at h; split at h
 ·rename_i h2; simp only [Option.some.injEq] at h; exact⟨h.symm,h2⟩
 ·cases h
theorem Il {α β:Type}{c:Bool}{o:Option α}{d:α}{k:α->Option β}{r:β}(h:a_ c o d k=some r):∃x,(c=true->o=some x)/\k x=some r:=by
 unfold a_ at h; split at h
 ·obtain⟨x,h1,h2⟩:=Option.bind_eq_some_iff.1 h; exact⟨x,fun _=>h1,h2⟩
 ·rename_i h2; exact⟨d,fun e=>absurd e h2,h⟩
theorem Im {α β:Type}{o:Option α}{k:α->Option β}{r:β}(h:o.bind k=some r):∃x,o=some x/\k x=some r:=Option.bind_eq_some_iff.1 h
theorem DF {α:Type}{c:Bool}{A B:Option α}{r:α}(hc:c=true) (h:(bif c then A else B)=some r):A=some r:=by subst hc; exact h
theorem DG {α:Type}{c:Bool}{A B:Option α}{r:α}(hc:c=false) (h:(bif c then A else B)=some r):B=some r:=by subst hc; exact h
section
variable {P:Program}{dst:Option Tmp}{ty:TypeId}{pos:String}{aD:Array Edge}{g:Option (Nat×Bool)}{ts:Ts}{ls:List (List D)}{h:ah}{α:Type}{f:α->List D}
theorem aq.mv {t e:TypeId}{b:TI}{x:Operand}{cn:Array TypeId}{k:Nat}{tok:Option Nat}{s:Sl α}(j:bn P t=some b) (hk:b.k=.slice e) (bZ:cn[0]?=some t)
  (hx:ev ts x=.a (.d (s.d k f tok))):aq P (mk dst (.call { callee:=.builtin .len,args:=#[x],argTypes:=cn }) ty pos aD g) ts ls h {} (.a (.d (.int .i64 (s.l.length:Int)))) ls h:=by
 have:=aq.NQ (ak:=ak) (P:=P) (dst:=dst) (ty:=ty) (pos:=pos) (aD:=aD) (g:=g) (ls:=ls) (h:=h) j hk bZ hx
 rwa [List.length_map] at this
theorem aq.iK {t e:TypeId}{b j:TI}{x ix:Operand}{tok:Option Nat}{s:Sl α}{m:IntKind}{n:Int}{y:α}{k:Nat}(p:bn P t=some b) (hk:b.k=.slice e) (q:bn P e=some j)
  (hx:ev ts x=.a (.d (s.d k f tok))) (hi:ev ts ix=.a (.d (.int m n))) (r:k=j.size) (hr:dc s.l n=some y) :
  aq P (mk dst (.indexAddr t x ix) ty pos aD g) ts ls h {} (.a (.d (.view (f y)))) ls h:=by
 obtain⟨h1,h2⟩:=Oo hr;exact aq.Am p hk q hx hi r h1 (by rw [List.getElem?_map,h2]; rfl)
theorem aq.Ot {t e:TypeId}{b j:TI}{x ix:Operand}{tok:Option Nat}{s:Sl α}{m:IntKind}{n:Nat}{y:α}{k:Nat}(p:bn P t=some b) (hk:b.k=.slice e) (q:bn P e=some j)
  (hx:ev ts x=.a (.d (s.d k f tok))) (hi:ev ts ix=.a (.d (.int m (n:Int)))) (r:k=j.size) (hr:s.l[n]?=some y) :
  aq P (mk dst (.indexAddr t x ix) ty pos aD g) ts ls h {} (.a (.d (.view (f y)))) ls h :=
 aq.Am p hk q hx hi r (by omega) (by rw [Int.toNat_natCast,List.getElem?_map,hr]; rfl)
theorem aq.rS {t:TypeId}{b:TI}{x ix:Operand}{s:Bs}{f:IntKind}{n:Nat}{c:UInt8}(j:bn P t=some b) (hk:b.k=.str) (hx:ev ts x=.a (.d (.str s))) (hi:ev ts ix=.a (.d (.int f (n:Int)))) (hr:s[n]?=some c) :
  aq P (mk dst (.index t x ix) ty pos aD g) ts ls h {} (.a (.d (.int .u8 (c.toNat:Int)))) ls h :=
 aq.NR j hk hx hi (by omega) (by rw [Int.toNat_natCast]; exact hr)
theorem aq.rT {t u:TypeId}{x y:Operand}{m n r:Int}(hx:ev ts x=.a (.d (.int .i64 m))) (b:ev ts y=.a (.d (.int .i64 n))) (hr:cV m n=some r):aq P (mk dst (.binOp .add t x y u) ty pos aD g) ts ls h {} (.a (.d (.int .i64 r))) ls h:=by
 obtain⟨e,h1,h2⟩:=Ik hr;subst e; exact aq.HN hx b h1 h2
theorem aq.Ou {t u:TypeId}{x y:Operand}{m n r:Int}(hx:ev ts x=.a (.d (.int .i64 m))) (b:ev ts y=.a (.d (.int .i64 n))) (hr:mu m n=some r):aq P (mk dst (.binOp .sub t x y u) ty pos aD g) ts ls h {} (.a (.d (.int .i64 r))) ls h:=by
 obtain⟨e,h1,h2⟩:=On hr;subst e; exact aq.NM hx b h1 h2
theorem aq.xu {t u:TypeId}{x y:Operand}{a b r:Bs}(hx:ev ts x=.a (.d (.str a))) (f:ev ts y=.a (.d (.str b))) (hr:cC a b=some r):aq P (mk dst (.binOp .add t x y u) ty pos aD g) ts ls h {} (.a (.d (.str r))) ls h:=by
 obtain⟨e,h1⟩:=Oq hr;subst e; exact aq.concat hx f h1
theorem aq.Ow {t e:TypeId}{u y:TI}{x:Operand}{lo hi:Option Operand}{k:Nat}{tok:Option Nat}{nl:Bool}{rows:List (List D)}{l r:Nat}(z:bn P t=some u) (hk:u.k=.slice e) (B:bn P e=some y)
  (hx:ev ts x=.a (.d (.slice k tok nl rows))) (G:k=y.size)
  (C:match lo with|none=>l=0|some o=>∃f n,ev ts o=.a (.d (.int f n))/\0<=n/\l=n.toNat) (E:match hi with|none=>r=rows.length|some o=>∃f n,ev ts o=.a (.d (.int f n))/\0<=n/\r=n.toNat)
  (H:l<=r) (m:r<=rows.length):aq P (mk dst (.slice t x lo hi none) ty pos aD g) ts ls h {} (.a (.d (.slice k none nl ((rows.take r).drop l)))) ls h:=by
 cases nl with
 | false=>exact aq.part z hk B hx G C E H m
 | true =>
  refine aq.eA fun j w jl act p=>?_;have h1:=p x (by simp [Op.operands]);rw [hx] at h1;obtain⟨b,cap,F,hn,hc,I,J,N,O⟩:=nE h1;cases b with
  | some b=>simp at I
  | none =>
   obtain⟨rfl,rfl⟩:=J rfl;simp only [List.length_nil,Nat.le_zero] at m;subst m;have K:l=0:=by omega
   subst K;have L:(match lo.map act.eval with|some v=>Instr.sliceBound v 0 .sliceB|none=>pure 0).run P w=.ok 0 w:=by
    cases lo with
    | none=>simp
    | some o =>
     obtain⟨f,n,h2,q,s⟩:=C;have:=pR (P:=P) (cap:=0) h2 (p o (by simp [Op.operands])) q (by omega) .sliceB;simp only [Option.map_some]; rw [this,<- s]
   have M:(match hi.map act.eval with|some v=>Instr.sliceBound v 0 .sliceAcap|none=>pure ([]:List (List D)).length).run P w=.ok 0 w:=by
    cases hi with
    | none=>simp
    | some o =>
     obtain⟨f,n,h2,q,s⟩:=E;have:=pR (P:=P) (cap:=0) h2 (p o (by simp [Op.operands])) q (by omega) .sliceAcap;simp only [Option.map_some]; rw [this,<- s]
   refine⟨.slice none 0 0, ?_,aF.gH _ _ (by simp)⟩;have:=Ic z hk B (a:=none) (len:=0) (cap:=0) L M;simp only [List.length_nil] at F;simp only [execOp,Sem.run_bind,F,Option.map_none,this,Result.andThen,Sem.run_pure];simp
theorem aq.jg {t e:TypeId}{m p:TI}{x:Operand}{lo hi:Option Operand}{l r:Option Int}{k:Nat}{tok:Option Nat}{s y:Sl α}(q:bn P t=some m) (hk:m.k=.slice e) (u:bn P e=some p)
  (hx:ev ts x=.a (.d (s.d k f tok))) (v:k=p.size)
  (b:match lo,l with|none,none=>True|some o,some n=>ev ts o=.a (.d (.int .i64 n))|_,_=>False) (j:match hi,r with|none,none=>True|some o,some n=>ev ts o=.a (.d (.int .i64 n))|_,_=>False)
  (hr:js s l r=some y):aq P (mk dst (.slice t x lo hi none) ty pos aD g) ts ls h {} (.a (.d (y.d k f none))) ls h:=by
 unfold js at hr
 split at hr
 ·rename_i hc
  simp only [Option.some.injEq] at hr;have:=aq.Ow (ak:=ak) (P:=P) (dst:=dst) (ty:=ty) (pos:=pos) (aD:=aD) (g:=g) (ls:=ls) (h:=h) (l:=(l.getD 0).toNat) (r:=(r.getD s.l.length).toNat) q hk u (lo:=lo) (hi:=hi) hx v
   (by cases lo with
     | none=>cases l with
      | none=>rfl
      | some n=>exact b.elim
     | some o=>cases l with
      | none=>exact b.elim
      | some n=>exact⟨_,n,b,hc.1,rfl⟩)
   (by cases hi with
     | none=>cases r with
      | none=>simp
      | some n=>exact j.elim
     | some o=>cases r with
      | none=>exact j.elim
      | some n=>exact⟨_,n,j,Int.le_trans hc.1 hc.2.1,rfl⟩) (by omega) (by simp; omega)
  rw [<- List.map_take,<- List.map_drop] at this;rw [<- hr]; exact this
 ·cases hr
theorem aq.mw {t u e:TypeId}{p q b:TI}{x y:Operand}{tk k k' m:Nat}{tok':Option Nat}{s r v:Sl α}{z:A}(w:bn P t=some p) (hk:p.k=.slice e) (B:bn P e=some b) (C:bn P u=some q) (E:∃e,q.k=.slice e)
  (hz:b.zero=some z) (F:(cU z).length=b.size) (G:b.size≠0) (hx:ev ts x=.a (.d (s.d k f (some tk)))) (H:ev ts y=.a (.d (r.d k' f tok'))) (j:k=b.size) (I:k'=b.size)
  (J:h tk=some (.tok b.size m)) (hm:m=s.l.length) (hr:bq b.bytes s r=some v) :
  aq P (mk dst (.call { callee:=.builtin .append,args:=#[x,y],argTypes:=#[t,u] }) ty pos aD g) ts ls h { rh:=true,wh:=true } (.a (.d (v.d k f (some tk)))) ls (h.set tk (some (.tok b.size v.l.length))):=by
 obtain⟨e,h1,h2⟩:=xq hr;subst e;have:=aq.append (ak:=ak) (P:=P) (dst:=dst) (ty:=ty) (pos:=pos) (aD:=aD) (g:=g) (ls:=ls) w hk B C (.inl E) hz F G hx H (.inl j) (.inl I) J (by rw [hm]; simp) (by simpa using h1) (by simpa using h2);simp only [List.length_map,List.length_append] at this ⊢;rw [<- List.map_append,List.isEmpty_map,<- j] at this;rw [<- j];exact this
end
section
variable {P:Program}{dst:Option Tmp}{ty:TypeId}{pos:String}{aD:Array Edge}{g:Option (Nat×Bool)}{ts:Ts}{ls:List (List D)}{h:ah}{α:Type}{f:α->List D}
theorem Ox {k k':Nat}(j:J) (w:World) (cv:Value) (h:bD j w [] (.a (.d (.slice k none true []))) cv):bD j w [] (.a (.d (.slice k' none true []))) cv:=by
 have h':aF j w (.slice k none true []) cv:=h;cases h';exact aF.gH _ _ fun t e=>by cases e
theorem aq.dM {x:Operand}{k k':Nat}(hx:ev ts x=.a (.d (.slice k none true []))):aq P (mk dst (.assign x) ty pos aD g) ts ls h {} (.a (.d (.slice k' none true []))) ls h :=
 (aq.assign hx).H9 fun j w _ cv h=>Ox j w cv h
theorem aq.Oy {t u e:TypeId}{G C b:TI}{s:Nat}{y:Operand}{k k':Nat}{tok':Option Nat}{I:Bool}{rows bt:List (List D)}{z:A}(S:bn P t=some G) (U:G.k=.slice e) (W:bn P e=some b) (X:bn P u=some C) (Y:(∃e,C.k=.slice e)\/C.k=.str)
  (hz:b.zero=some z) (Z:(cU z).length=b.size) (aa:b.size≠0) (hx:get ts s=.full k rows) (E:ev ts y=.a (.d (.slice k' tok' I bt))) (ab:∀q,y=.tmp q->s≠q) (p:k=b.size) (ad:k'=b.size\/bt=[])
  (ae:(rows.length+bt.length)*b.bytes<=dI) (hlen:rows.length+bt.length<=dI) :
  aq P (mk dst (.call { callee:=.builtin .append,args:=#[.tmp s,y],argTypes:=#[t,u] }) ty pos aD g) ts ls h {} (.a (.d (.slice b.size none false (rows++bt)))) ls h:=by
 intro L H _ _ j w jl a hl B K Q af;have h1:bD j w jl (get ts s) (a.eval (.tmp s)):=B (.tmp s) (by simp [Op.operands,Call.operands]);rw [hx] at h1;obtain⟨hd,ay,hv⟩:=h1;obtain⟨ai,r⟩:=hl.hG k rows.length;have aj:=hl.1.pN (Nat.le_refl _);have al:aF (j.hG rows.length) w (.slice k (some j.next) false rows) (a.eval (.tmp s)):=by
  have M:=aF.mono r.toLe hd;rw [hv] at M ⊢;cases M with
  | slice _ _ _ am cap f hk hn hc bZ hr ht =>
   refine aF.slice _ _ _ _ _ f hk hn hc bZ hr fun az N=>?_;simp only [Option.some.injEq] at N;subst N;exact⟨by simp [J.hG],fun kk p=>by simp [J.hG] at p; subst p; exact⟨Nat.le_refl _,fun _=>.inl ⟨rfl,rfl⟩⟩⟩
 have an:ev ((s,V.a (.d (.slice k (some j.next) false rows)))::ts) y=.a (.d (.slice k' tok' I bt)):=by
  cases y with
  | tmp q=>simp only [ev] at E ⊢; rw [ia _ _ (ab q rfl)]; exact E
  | _=>exact E
 have hc:=aq.append (ak:=ak) (P:=P) (dst:=dst) (ty:=ty) (pos:=pos) (aD:=aD) (g:=g) (ls:=L) (h:=H.set j.next (some (.tok k rows.length))) (ts:=(s,V.a (.d (.slice k (some j.next) false rows)))::ts) (x:=.tmp s) (y:=y) (tk:=j.next) (m:=rows.length)
  S U W X Y hz Z aa (by simp only [ev]; rw [gp]) an (.inl p) ad (by rw [ah.cM,p]) rfl ae hlen
 refine hc.step (j.hG rows.length) w jl a ai (fun x F=>?_) K Q ?_
 ·cases x with
  | tmp q =>
   by_cases e:s=q
   ·subst e;simp only [ev]; rw [gp];exact al
   ·simp only [ev]; rw [ia _ _ e];exact(B (.tmp q) F).mono r.toLe (Ext.refl _)
  | const c=>exact(B (.const c) F).mono r.toLe (Ext.refl _)
  | global c=>trivial
  | func c=>exact(B (.func c) F).mono r.toLe (Ext.refl _)
 ·rintro v l hh cv j' w' bp ⟨rfl,rfl,rfl⟩ ao ap ar av;obtain⟨aw,ax⟩:=ap.forget (h':=H) (fun id o hi=>by
   have O:id≠j.next:=fun e=>by rw [e,aj] at hi; cases hi
   show ((H.set _ _).set _ _) id=_;rw [ah.cD _ _ O,ah.cD _ _ O]; exact hi)
  refine af _ _ _ cv j' w' bp ⟨rfl,rfl,rfl⟩ ?_ aw ar ((r.trans av).trans ax);have R:aF j' w' (.slice b.size (some j.next) (false&&bt.isEmpty) (rows++bt)) cv:=ao;simp only [Bool.false_and] at R;cases R with
  | slice _ _ _ am cap f hk hn hc bZ hr ht=>exact aF.slice _ _ _ _ _ f hk hn hc bZ hr fun t e=>by cases e
theorem aq.um {t u e:TypeId}{j m b:TI}{s k k':Nat}{y:Operand}{tok':Option Nat}{x r v:Sl α}{z:A}(w:bn P t=some j) (B:j.k=.slice e) (C:bn P e=some b) (E:bn P u=some m) (F:∃e,m.k=.slice e)
  (hz:b.zero=some z) (G:(cU z).length=b.size) (H:b.size≠0) (hx:get ts s=.full k (x.l.map f)) (I:x.nl=false) (J:ev ts y=.a (.d (r.d k' f tok'))) (K:∀q,y=.tmp q->s≠q) (p:k=b.size) (L:k'=b.size)
  (hr:bq b.bytes x r=some v) :
  aq P (mk dst (.call { callee:=.builtin .append,args:=#[.tmp s,y],argTypes:=#[t,u] }) ty pos aD g) ts ls h {} (.a (.d (v.d k f none))) ls h:=by
 obtain⟨e,h1,h2⟩:=xq hr;subst e;have:=aq.Oy (ak:=ak) (P:=P) (dst:=dst) (ty:=ty) (pos:=pos) (aD:=aD) (g:=g) (ls:=ls) (h:=h) w B C E (.inl F) hz G H hx J K p (.inl L) (by simpa using h1) (by simpa using h2);rw [<- List.map_append,<- p] at this;simp only [I,Bool.false_and];exact this
theorem Oz {t e:TypeId}(hu:P.underlying t=some (.slice e)) (d:Nat) (b:Option Addr) (n cap:Nat) (w:World):(Op.equalIn (d+1) t (.slice b n cap) (.slice none 0 0)).run P w=.ok b.isNone w:=by
 unfold Op.equalIn;simp only [Sem.run_bind,dz hu,Result.andThen];cases b<;>simp
theorem OA {t e:TypeId}(hu:P.underlying t=some (.slice e)) (b:Option Addr) (n cap:Nat) (w:World):(Op.equal t (.slice b n cap) (.slice none 0 0)).run P w=.ok b.isNone w:=by
 exact Oz hu 9999 b n cap w
theorem OB {t e:TypeId}{op:BinOp}(x y:Operand) (b:Option Addr) (n cap:Nat) (w:World):(eqGuard op t x y (.slice b n cap) (.slice none 0 0)).run P w=.ok () w:=by
 unfold eqGuard;simp
theorem aq.Aw {t e u:TypeId}{f:TI}{x:Operand}{k:Nat}{tok:Option Nat}{nl:Bool}{rows:List (List D)}(l:bn P t=some f) (hk:f.k=.slice e) (hx:ev ts x=.a (.d (.slice k tok nl rows))) :
  aq P (mk dst (.binOp .eql t x (.const (.slice none 0 0)) u) ty pos aD g) ts ls h {} (.a (.d (.bool nl))) ls h :=
 aq.eA fun j w jl act m=>by
  have h1:=m x (by simp [Op.operands]);rw [hx] at h1;obtain⟨b,cap,p,_,_,q,_⟩:=nE h1;have hu:=mq l hk;subst q;have r:act.eval (.const (.slice none 0 0))=.slice none 0 0:=rfl;refine⟨.bool b.isNone, ?_,aF.bool _⟩;simp only [execOp,p,r,Sem.run_bind,OB (e:=e),Result.andThen,binOp,Sem.run_map,OA hu,Sem.run_pure]
theorem aq.Io {x y:Operand}{cn:Array TypeId}{k:IntKind}{m n:Int}(hx:ev ts x=.a (.d (.int k m))) (f:ev ts y=.a (.d (.int k n))) :
  aq P (mk dst (.call { callee:=.builtin .max,args:=#[x,y],argTypes:=cn }) ty pos aD g) ts ls h {} (.a (.d (.int k (if n>m then n else m)))) ls h :=
 aq.eA fun j w jl act b=>by
  have h1:=b x (by simp [Op.operands,Call.operands]);have h2:=b y (by simp [Op.operands,Call.operands]);rw [hx] at h1; rw [f] at h2;exact⟨_,by simp only [execOp,resolve,invoke,builtin,List.map_toArray,List.map_cons,List.map_nil,je h1,je h2]; simp [run_max_int2],aF.int _ _⟩
theorem aq.OC {x y:Operand}{cn:Array TypeId}{k:IntKind}{m n:Int}(hx:ev ts x=.a (.d (.int k m))) (f:ev ts y=.a (.d (.int k n))) :
  aq P (mk dst (.call { callee:=.builtin .min,args:=#[x,y],argTypes:=cn }) ty pos aD g) ts ls h {} (.a (.d (.int k (if n<m then n else m)))) ls h :=
 aq.eA fun j w jl act b=>by
  have h1:=b x (by simp [Op.operands,Call.operands]);have h2:=b y (by simp [Op.operands,Call.operands]);rw [hx] at h1; rw [f] at h2;exact⟨_,by simp only [execOp,resolve,invoke,builtin,List.map_toArray,List.map_cons,List.map_nil,je h1,je h2]; simp [run_min_int2],aF.int _ _⟩
theorem aq.OD {t:TypeId}{p:TI}{x:Operand}{lo hi:Option Operand}{l r:Option Int}{s y:Bs}(j:bn P t=some p) (hk:p.k=.str) (hx:ev ts x=.a (.d (.str s)))
  (f:match lo,l with|none,none=>True|some o,some n=>ev ts o=.a (.d (.int .i64 n))|_,_=>False) (b:match hi,r with|none,none=>True|some o,some n=>ev ts o=.a (.d (.int .i64 n))|_,_=>False)
  (q:lo.isSome=true\/hi.isSome=true) (hr:Av s l r=some y):aq P (mk dst (.slice t x lo hi none) ty pos aD g) ts ls h {} (.a (.d (.str y))) ls h:=by
 unfold Av at hr
 split at hr
 ·rename_i hc
  simp only [Option.some.injEq] at hr;cases lo with
  | none =>
   cases l with
   | some n=>exact f.elim
   | none =>
    cases hi with
    | none=>simp at q
    | some o =>
     cases r with
     | none=>exact b.elim
     | some n =>
      have:=aq.Ac (ak:=ak) (P:=P) (dst:=dst) (ty:=ty) (pos:=pos) (aD:=aD) (g:=g) (ls:=ls) (h:=h) j hk hx b (by simpa using hc.2.1) (by simpa using hc.2.2);rw [<- hr]; simpa using this
  | some o =>
   cases l with
   | none=>exact f.elim
   | some n =>
    cases hi with
    | none =>
     cases r with
     | some m=>exact b.elim
     | none =>
      have:=aq.Aa (ak:=ak) (P:=P) (dst:=dst) (ty:=ty) (pos:=pos) (aD:=aD) (g:=g) (ls:=ls) (h:=h) j hk hx f (by simpa using hc.1) (by simpa using hc.2.1);rw [<- hr]; simpa using this
    | some o' =>
     cases r with
     | none=>exact b.elim
     | some m =>
      have:=aq.NS (ak:=ak) (P:=P) (dst:=dst) (ty:=ty) (pos:=pos) (aD:=aD) (g:=g) (ls:=ls) (h:=h) j hk hx f b (by simpa using hc.1) (by simpa using hc.2.1) (by simpa using hc.2.2);rw [<- hr];simp only [Option.getD_some];rw [List.drop_take];exact this
 ·cases hr
end
theorem aI.sLen {P:Program}{ops:Array Oper}{rest:List Oper}{Q:St->Prop}{n:Nat}{ts:Ts}{ls:List (List D)}{h:ah}{d:Nat}{ty:TypeId}{pos:String}{aD:Array Edge}{t e:TypeId}{b:TI}{x:Operand}{cn:Array TypeId}{k:Nat}{tok:Option Nat}{α:Type}{f:α->List D}{s:Sl α}
  (m:bn P t=some b) (hk:b.k=.slice e) (bZ:cn[0]?=some t) (hx:ev ts x=.a (.d (s.d k f tok))) (hd:Nat.blt d n=true)
  (hr:s.l.length<=140737488355328->aI P ops rest Q ⟨n,(d,.a (.d (.int .i64 (s.l.length:Int))))::ts,ls,h⟩) :
  aI P ops (⟨some d,.call { callee:=.builtin .len,args:=#[x],argTypes:=cn },ty,pos,aD,none⟩::rest) Q ⟨n,ts,ls,h⟩:=by
 intro j w jl a g Qc p;have hlen:s.l.length<=140737488355328:=by
  have h1:=pO g.tmps x;rw [hx] at h1;obtain⟨_,_,_,hn,_⟩:=nE h1
  simpa [dI] using hn
 exact aI.s0 (aq.mv m hk bZ hx) hd (hr hlen) j w jl a g Qc p
theorem aI.uo {P:Program}{ops:Array Oper}{rest:List Oper}{Q:St->Prop}{n:Nat}{ts:Ts}{ls:List (List D)}{h:ah}{d:Nat}{ty:TypeId}{pos:String}{aD:Array Edge}{t:TypeId}{b:TI}{x:Operand}{cn:Array TypeId}{s:Bs}
  (g:bn P t=some b) (hk:b.k=.str) (bZ:cn[0]?=some t) (hx:ev ts x=.a (.d (.str s))) (hd:Nat.blt d n=true)
  (hr:s.length<=4611686018427387904->aI P ops rest Q ⟨n,(d,.a (.d (.int .i64 (s.length:Int))))::ts,ls,h⟩) :
  aI P ops (⟨some d,.call { callee:=.builtin .len,args:=#[x],argTypes:=cn },ty,pos,aD,none⟩::rest) Q ⟨n,ts,ls,h⟩:=by
 intro j w jl a f Qc l;have hlen:s.length<=4611686018427387904:=by
  have h1:=pO f.tmps x;rw [hx] at h1;exact(jI h1).2
 exact aI.s0 (aq.Ao g hk bZ hx) hd (hr hlen) j w jl a f Qc l
theorem aI.DH {P:Program}{ops:Array Oper}{rest:List Oper}{Q:St->Prop}{n:Nat}{ts:Ts}{ls:List (List D)}{h h':ah}(e:h=h') (hw:aI P ops rest Q ⟨n,ts,ls,h'⟩):aI P ops rest Q ⟨n,ts,ls,h⟩:=e▸hw
theorem aH.DH {P:Program}{ops:Array Oper}{m:Nat}{rest:List Oper}{done:List Fx}{Q:St->Prop}{n:Nat}{ts:Ts}{ls:List (List D)}{h h':ah}(e:h=h') (hw:aH P ops m rest done Q ⟨n,ts,ls,h'⟩):aH P ops m rest done Q ⟨n,ts,ls,h⟩:=e▸hw
theorem ag.ur {P:Program}{c:Code}{Q:Exit->St->Prop}{n:Nat}{ts:Ts}{ls:List (List D)}{h h':ah}(e:h=h') (hw:ag P c Q ⟨n,ts,ls,h'⟩):ag P c Q ⟨n,ts,ls,h⟩:=e▸hw
theorem ah.dP {h:ah}{i r:Nat}{o:Obj}(e:(h.set i (some o)) r=none):r≠i/\h r=none:=by
 have h1:r≠i:=fun b=>by rw [b,ah.cM] at e; cases e
 exact⟨h1,by rw [ah.cD _ _ h1] at e; exact e⟩
section
variable {P:Program}{ops:Array Oper}{rest:List Oper}{Q:St->Prop}{n:Nat}{ts:Ts}{ls:List (List D)}{h:ah}
theorem aI.lp (id:Nat){xs:List D}(ys:List D) (hc:h id=some (.cells xs)) (k:∀j w cs,fI j w h->bI (aF j w) xs cs->bI (aF j w) ys cs)
  (hw:aI P ops rest Q ⟨n,ts,ls,h.set id (some (.cells ys))⟩):aI P ops rest Q ⟨n,ts,ls,h⟩:=by
 intro j w jl a f Qc hk;have hl:=f.hl;refine hw j w jl a ⟨f.defers,f.size,f.tmps,⟨hl.1.lp hc (k j w · hl.1),⟨hl.2.each,hl.2.nodup,fun b l g=>hl.2.apart b l ((aU.lp hc).1 g)⟩⟩⟩ Qc fun m j' w' bp p hq q r=>hk m j' w' bp p hq q (bT.trans ?_ r);exact { bT.refl j _ (aU j h jl) with own:=fun b _ g=>(aU.lp hc).1 g }
theorem aI.dU (i:Nat){xs:List D}(ys:List D) (hc:ls[i]?=some xs) (m:∀j w cs,fI j w h->bI (aF j w) xs cs->bI (aF j w) ys cs)
  (hw:aI P ops rest Q ⟨n,ts,ls.set i ys,h⟩):aI P ops rest Q ⟨n,ts,ls,h⟩:=by
 intro j w jl a g;have hl:=g.hl;have p:bI (fun xs b=>k9 j w b xs) (ls.set i ys) jl:=by
  refine bI.k7 (by rw [List.length_set,hl.2.each.length]) fun k x b hx l=>?_;rw [List.getElem?_set] at hx
  split at hx
  ·rename_i e
   subst e
   split at hx
   ·simp only [Option.some.injEq] at hx; subst hx;obtain⟨q,f,cs,r,h1,h2,s⟩:=hl.2.each.get hc;rw [l] at f; simp only [Option.some.injEq] at f; subst f;exact⟨cs,r,h1,m j w _ hl.1 h2,s⟩
   ·cases hx
  ·obtain⟨q,f,h1⟩:=hl.2.each.get hx;rw [l] at f; simp only [Option.some.injEq] at f; subst f;exact h1
 exact hw j w jl a ⟨g.defers,g.size,g.tmps,⟨hl.1,⟨p,hl.2.nodup,hl.2.apart⟩⟩⟩
theorem aI.tok (k:Nat) (hw:∀t,h t=none->aI P ops rest Q ⟨n,ts,ls,h.set t (some (.tok k 0))⟩):aI P ops rest Q ⟨n,ts,ls,h⟩:=by
 intro j w jl a b Qc hk;obtain⟨h1,h2⟩:=b.hl.eM k;have f:=b.hl.1.pN (Nat.le_refl _);exact hw j.next f j.eM w jl a ⟨b.defers,b.size,fun i=>(b.tmps i).mono h2.toLe (Ext.refl _),h1⟩ Qc fun g j' w' bp l hq m p=>hk g j' w' bp l hq m (h2.trans p)
theorem aI.gv (s k t:Nat){o:Obj}{f:Nat}(g:get ts s=.a (.d (.slice f none true []))) (ht:h t=some o)
  (hw:aI P ops rest Q ⟨n,(s,.a (.d (.slice k (some t) true [])))::ts,ls,h⟩):aI P ops rest Q ⟨n,ts,ls,h⟩:=by
 intro j w jl a b;refine hw j w jl a ⟨b.defers,b.size,fun i=>?_,b.hl⟩;by_cases e:s=i
 ·subst e;show bD _ _ _ (get ((s,_)::ts) s) _;rw [gp];have hv:bD j w jl (get ts s) (a.tmps.getD s undef):=b.tmps s;rw [g] at hv;exact(jf.nil (k':=k) ht).rel b.hl.1 hv
 ·show bD _ _ _ (get ((s,_)::ts) i) _;rw [ia _ _ e];exact b.tmps i
theorem aI.eG (s:Nat){k:Nat}{tk:Option Nat}{nl:Bool}{rows:List (List D)}(f:get ts s=.a (.d (.slice k tk nl rows)))
  (hw:aI P ops rest Q ⟨n,(s,.a (.d (.slice k none nl rows)))::ts,ls,h⟩):aI P ops rest Q ⟨n,ts,ls,h⟩:=by
 intro j w jl a b;refine hw j w jl a ⟨b.defers,b.size,fun i=>?_,b.hl⟩;by_cases e:s=i
 ·subst e;show bD _ _ _ (get ((s,_)::ts) s) _;rw [gp];have hv:bD j w jl (get ts s) (a.tmps.getD s undef):=b.tmps s;rw [f] at hv;exact Ij j w _ hv
 ·show bD _ _ _ (get ((s,_)::ts) i) _;rw [ia _ _ e];exact b.tmps i
end
theorem tok_cell {j:J}{w:World}{h:ah}{t:Nat}{o:Obj}{xs:List D}{cs:List Value}(i k k':Nat) (hh:fI j w h) (ht:h t=some o) (hx:bI (aF j w) xs cs) (hi:xs[i]?=some (.slice k none true [])) :
  bI (aF j w) (xs.set i (.slice k' (some t) true [])) cs:=by
 refine bI.k7 (by rw [List.length_set,hx.length]) fun n x v hn hv=>?_;rw [List.getElem?_set] at hn
 split at hn
 ·rename_i e
  subst e
  split at hn
  ·simp only [Option.some.injEq] at hn; subst hn;obtain⟨v',b,hr⟩:=hx.get hi;rw [hv] at b; simp only [Option.some.injEq] at b; subst b;exact(jf.nil (k:=k) (k':=k') ht).rel hh (x:=.d (.slice k none true [])) hr
  ·cases hn
 ·obtain⟨v',b,hr⟩:=hx.get hn;rw [hv] at b; simp only [Option.some.injEq] at b; subst b;exact hr
theorem nG {j:J}{w:World}{xs:List D}{cs:List Value}(i:Nat){k:Nat}{tk:Option Nat}{nl:Bool}{rows:List (List D)}(hx:bI (aF j w) xs cs) (hi:xs[i]?=some (.slice k tk nl rows)) :
  bI (aF j w) (xs.set i (.slice k none nl rows)) cs:=by
 refine bI.k7 (by rw [List.length_set,hx.length]) fun n x v hn hv=>?_;rw [List.getElem?_set] at hn
 split at hn
 ·rename_i e
  subst e
  split at hn
  ·simp only [Option.some.injEq] at hn; subst hn;obtain⟨v',b,hr⟩:=hx.get hi;rw [hv] at b; simp only [Option.some.injEq] at b; subst b;exact Ij j w v hr
  ·cases hn
 ·obtain⟨v',b,hr⟩:=hx.get hn;rw [hv] at b; simp only [Option.some.injEq] at b; subst b;exact hr
def F0:Nat:=4611686018427387904
theorem wA {n:Nat}{ts b:Ts}{ls aS:List (List D)}{h h':ah}(hk:dR ts aS.length b:=by repeat (first|exact dR.nil|refine dR.c rfl rfl ?_|refine dR.c (by(first|(first|rfl|((conv=>lhs; whnf); first|(simp [cU,DI,DJ,DK,OE.OF,Nat.add_assoc,empty_append,Bool.and_assoc]; done)|(simp [cU,DI,DJ,DK,Nat.add_assoc,empty_append,Bool.and_assoc]; repeat (first|rfl|constructor))))|rfl|(simp only [gp,ev]; done)|(simp [*,cU]; done)|(show V.a (A.d (D.slice _ _ _ _))=V.a (A.d (D.slice _ _ _ _)); simp [*,cU]; done))) rfl ?_)) (hl:jJ aS ls:=by repeat (first|exact jJ.nil|apply jJ.cons)) (hh:h=h':=by first|rfl|(first|rfl|(simp only [ah.set_set,List.length_append,List.length_nil,List.length_cons,List.length_map,List.length_singleton,Nat.zero_add]; done)|(simp [ah.set_set,Nat.add_assoc]; done))|(((funext n; simp only [ah.set]; (repeat' split)<;>simp_all))<;>first|rfl|exact⟨rfl,rfl⟩)):cI ⟨n,ts,ls,h⟩ ⟨n,b,aS,h'⟩:=cI.to hk hl hh
theorem cI.toFA {n:Nat}{ts b:Ts}{ls aS:List (List D)}{h h':ah}(hh:∀id o,h' id=some o->h id=some o) (hk:dR ts aS.length b:=by repeat (first|exact dR.nil|refine dR.c rfl rfl ?_|refine dR.c (by(first|(first|rfl|((conv=>lhs; whnf); first|(simp [cU,DI,DJ,DK,OE.OF,Nat.add_assoc,empty_append,Bool.and_assoc]; done)|(simp [cU,DI,DJ,DK,Nat.add_assoc,empty_append,Bool.and_assoc]; repeat (first|rfl|constructor))))|rfl|(simp only [gp,ev]; done)|(simp [*,cU]; done)|(show V.a (A.d (D.slice _ _ _ _))=V.a (A.d (D.slice _ _ _ _)); simp [*,cU]; done))) rfl ?_)) (hl:jJ aS ls:=by repeat (first|exact jJ.nil|apply jJ.cons)):cI ⟨n,ts,ls,h⟩ ⟨n,b,aS,h'⟩:=cI.toF hk hl hh
theorem au {h:ah}{i:Nat}{o:Option Obj}(hg:h i=o:=by(first|assumption|exact ah.cM _ _ _|((repeat (refine(ah.cD _ _ (by first|assumption|(apply Ne.symm; assumption))).trans ?_)); first|assumption|exact ah.cM _ _ _)|(simp only [ah.set_set,ah.cM]; done)|(simp [ah.set, *]; done))):h i=o:=hg
theorem and_left {a b:Bool}(h:(a&&b)=true):a=true:=by cases a<;>simp_all
end Go.Ab
namespace Go.Ab
open Go Go.RowKit
variable {ak:bP}
section
variable {P:Program}{ts:Ts}{ls aS:List (List D)}{h h':ah}{fx:Fx}{x:A}{dst:Option Tmp}{ty:TypeId}{pos:String}{aD:Array Edge}{g:Option (Nat×Bool)}
theorem aq.fm {o:Oper}{v:V}{k:Nat}{c:Bool}(hk:get ts k=.gd c x) (b:aq P o ((k,.a x)::ts) ls h fx v aS h') (hc:c=true:=by first|assumption|exact iz (by assumption)|exact iz (iz (by assumption))|exact iz (iz (iz (by assumption)))|exact DD (by assumption)|simp_all):aq P o ts ls h fx v aS h':=aq.ig hk hc b
theorem aq.Ax {o:Oper}{v:V}{k:Nat}{c:Bool}{i off:Nat}(hk:get ts k=.g_ c i off) (b:aq P o ((k,.dH i off)::ts) ls h fx v aS h') (hc:c=true:=by first|assumption|exact iz (by assumption)|exact iz (iz (by assumption))|exact iz (iz (iz (by assumption)))|exact DD (by assumption)|simp_all):aq P o ts ls h fx v aS h':=aq.Oc hk hc b
theorem aq.f_ {c y z:Operand}{b r f:Bool}(hc:ev ts c=.a (.d (.bool b))) (j:ev ts y=.gd f (.d (.bool r))) (hz:ev ts z=.a (.d (.bool false))) (k:b=true->f=true:=by intro hh; first|exact hh|exact As hh|exact Au (by assumption) hh|exact Au (by assumption) (As hh)|simp_all) :
  aq P (mk dst (.pick c y z) ty pos aD g) ts ls h {} (.a (.d (.bool (b&&r)))) ls h:=aq.Od hc j k hz
theorem aq.kB {c y z:Operand}{b r f:Bool}(hc:ev ts c=.a (.d (.bool b))) (j:ev ts y=.a (.d (.bool true))) (hz:ev ts z=.gd f (.d (.bool r))) (k:b=false->f=true:=by intro hh; first|exact hh|exact As hh|exact Au (by assumption) hh|exact Au (by assumption) (As hh)|simp_all) :
  aq P (mk dst (.pick c y z) ty pos aD g) ts ls h {} (.a (.d (.bool (b||r)))) ls h:=aq.Oe hc j hz k
theorem aq.lq {x:Operand}{v:V}(hx:ev ts x=v:=by conv=>lhs; whnf):aq P (mk dst (.move x) ty pos aD g) ts ls h {} v ls h:=aq.move hx
theorem aq.OG {x:Operand}{v:V}(hx:ev ts x=v:=by conv=>lhs; whnf):aq P (mk dst (.assign x) ty pos aD g) ts ls h {} v ls h:=aq.assign hx
theorem aq.xw {t:TypeId}{b j:TI}{fs:List (Nat×TypeId)}{x:Operand}{f o:Nat}{xs ys:List D}{l:TypeId}(m:bn P t=some b) (hk:b.k=.struct fs) (p:fs[f]?=some (o,l)) (q:bn P l=some j)
  (hz:Nat.beq j.size 0=false) (hx:ev ts x=.a (.d (.view xs))) (r:xs.drop o=ys:=by conv=>lhs; whnf):aq P (mk dst (.fieldAddr t x f) ty pos aD g) ts ls h {} (.a (.d (.view ys))) ls h:=aq.NJ m hk p q hz hx r
theorem fO.A {ts:Ts}{k:Nat}{v:V}{r:Ts}(t:fO ts r) (h:Ab.get ts k=v:=by conv=>lhs; whnf):fO ts ((k,v)::r):=fO.cons h t
theorem aq.OH {e:TypeId}{b:TI}{z:A}{i:Nat}{aS:List (List D)}(f:bn P e=some b) (hz:b.zero=some z) (j:fF (cU z) ls i aS:=by repeat (first|exact fF.nil|apply fF.cons)) :
  aq P (mk dst (.alloc e) ty pos aD g) ts ls h { wl:=true } (.dH i 0) aS h:=aq.NU f hz j
theorem aq.Ip {t:TypeId}{b:TI}{x y:Operand}{i:Nat}{xs ys:List D}{aS:List (List D)}(f:bn P t=some b) (hx:ev ts x=.dH i 0) (j:ev ts y=.a (.agg ys)) (hl:ls[i]?=some xs)
  (k:ys.length=b.size) (hle:xs.length=b.size) (l:cZ ys ls i aS:=by repeat (first|exact cZ.zero|apply cZ.succ)):aq P (mk none (.store t x y) ty pos aD g) ts ls h { wl:=true } .any aS h:=aq.NW f hx j hl k hle l
theorem ag.bl {c:Code}{Q:Exit->St->Prop}{n:Nat}{b:Ts}{aS:List (List D)}{xs:List D}(s i:Nat) (f:get ts s=.dH i 0) (hk:dR ts i b) (hw:ag P c Q ⟨n,(s,.a (.d (.view xs)))::b,aS,h⟩) (hl:fF xs aS i ls:=by repeat (first|exact fF.nil|apply fF.cons)):ag P c Q ⟨n,ts,ls,h⟩:=ag.freeze s i f hl hk hw
theorem ag.OI {c:Operand}{u v:Code}{Q:Exit->St->Prop}{σ:St}{b:Bool}{α:Type}{A B:Option α}{r:α}(f:(bif b then A else B)=some r) (hc:ev σ.ts c=.a (.d (.bool b))) (ht:b=true->A=some r->ag P u Q σ) (g:b=false->B=some r->ag P v Q σ):ag P (.cond c u v) Q σ :=
 ag.cond hc (fun h=>ht h (Go.Ab.DF h f)) (fun h=>g h (Go.Ab.DG h f))
end
end Go.Ab
/-
 Slices that may be stored to: their object holds the rows; the slot tells the object and the length.
-/
namespace Go.Ab
open Go Go.RowKit
variable {ak:bP}
variable {fE:ez}
theorem HL.OJ {j:J}{w:World}{jl:List Nat}{ls:List (List D)}{h:ah}(hl:HL j w jl ls h) (k:Nat) :
  HL j.eM w jl ls (h.set j.next (some (.arr k [])))/\bT j w (aU j h jl) j.eM w (aU j.eM (h.set j.next (some (.arr k []))) jl):=by
 have hle:Le j w j.eM w:=⟨by simp [J.eM],fun _ _=>rfl,fun _=>Nat.le_refl _,fun _ _ _=>rfl,fun t ht=>.inl (by simp only [J.eM]; rw [if_neg (by omega)]),fun _ _ _ _ _ h=>h⟩;have hk:=hl.keep hle (fun _ _=>⟨rfl,rfl⟩) (fun id hid _=>by simp only [J.eM]; rw [if_neg (by omega)]) hl.1.fresh;have f:∀b,bQ j.eM j.next (.arr k [])≠some b:=by intro b; simp [bQ,J.eM]
 have l:∀jl x,aU j.eM (h.set j.next (some (.arr k []))) jl x->aU j.eM h jl x:=by
  rintro jl x (hm|⟨n,q,hn,e⟩)
  ·exact .inl hm
  ·by_cases c:n=j.next
   ·subst c; rw [ah.cM] at hn; simp only [Option.some.injEq] at hn; subst hn;exact absurd e (f x)
   ·rw [ah.cD h _ c] at hn; exact .inr ⟨n,q,hn,e⟩
 refine⟨⟨⟨fun id o hi=>?_,fun m u p v x h1 h2 r s=>?_,hl.1.fresh⟩,⟨hk.1.2.each,hk.1.2.nodup,fun x hx g=>hk.1.2.apart x hx (l [] x g)⟩⟩,
  { (bT.refl j w (aU j h jl)) with toLe:=hle,frame:=fun _ _ _=>⟨rfl,rfl⟩,own:=fun b _ g=>(hk.2 b).1 (l jl b g) }⟩
 ·by_cases c:id=j.next
  ·subst c; rw [ah.cM] at hi; simp only [Option.some.injEq] at hi; subst hi;exact⟨by simp [J.eM],none,by simp [J.eM],⟨fun _=>rfl,fun _=>rfl⟩,by simp,by simp,by simp⟩
  ·rw [ah.cD h _ c] at hi; exact hk.1.1.obj id o hi
 ·by_cases c1:m=j.next
  ·subst c1; rw [ah.cM] at h1; simp only [Option.some.injEq] at h1; subst h1;exact absurd r (f x)
  ·by_cases c2:p=j.next
   ·subst c2; rw [ah.cM] at h2; simp only [Option.some.injEq] at h2; subst h2;exact absurd s (f x)
   ·rw [ah.cD h _ c1] at h1; rw [ah.cD h _ c2] at h2;exact hk.1.1.inj m u p v x h1 h2 r s
theorem HL.DL {j:J}{w w':World}{jl:List Nat}{ls:List (List D)}{h:ah}(hl:HL j w jl ls h){t k:Nat}{rows bt:List (List D)}(ht:h t=some (.arr k rows)) (hm:rows.length<bt.length)
  {b cap:Nat}{cs:List Value}{e:TypeId}(H:w'.heap[b]?=some (.cells cs.toArray e (0,0))) (P:cs.length=cap*k) (Q:bt.length<=cap) (R:∀r∈bt,r.length=k) (S:bt.length<=dI)
  (m:∀x,x≠b->x<w.heap.size->w'.heap[x]?=w.heap[x]?) (U:w.heap.size<=w'.heap.size) (ai:w'.heap.size<=max w.heap.size (b+1))
  (p:w.heap.size<=b\/bQ j t (.arr k rows)=some b)
  (W:∀j',Le j w j' w'->bI (aF j' w') bt.flatten (cs.take (bt.length*k)))
  (X:w'.os=w.os) (Y:w'.tape=w.tape) (Z:fJ w w') :
  HL (j.cH t ⟨some (b,cap),bt.length⟩ b 0) w' jl ls (h.set t (some (.arr k bt))) /\
   bT j w (aU j h jl) (j.cH t ⟨some (b,cap),bt.length⟩ b 0) w' (aU (j.cH t ⟨some (b,cap),bt.length⟩ b 0) (h.set t (some (.arr k bt))) jl):=by
 obtain⟨aa,ek,L,_,_,_,hblk⟩:=hl.1.obj t _ ht;have M:j.F b=0:=by
  rcases p with hc|hc
  ·exact hl.1.fresh b hc
  ·simp only [bQ,L,Option.bind_some] at hc;cases ek with
   | none=>simp at hc
   | some ab =>
    obtain⟨ad,ae⟩:=ab;simp only [Option.map_some,Option.some.injEq] at hc;subst hc;obtain⟨_,_,_,_,af,_⟩:=hblk _ _ rfl;exact af
 have hle:Le j w (j.cH t ⟨some (b,cap),bt.length⟩ b (0)) w':=by
  refine⟨Nat.le_refl _,fun _ _=>rfl,fun x=>?_,fun x o f=>?_,fun x hx=>?_,fun x o v f _ hz=>by
   by_cases c:x=b
   ·subst c; exact .cells H
   ·refine hz.same (m x c ?_);rcases Nat.lt_or_ge x w.heap.size with h1|h1
    ·exact h1
    ·rw [hl.1.fresh x h1] at f; omega⟩
  ·simp only [J.cH]; split
   ·rename_i c; rw [c,M]; exact Nat.le_refl _
   ·exact Nat.le_refl _
  ·by_cases c:x=b
   ·subst c;rw [M] at f; omega
   ·refine tT (m x c ?_);rcases Nat.lt_or_ge x w.heap.size with h1|h1
    ·exact h1
    ·rw [hl.1.fresh x h1] at f; omega
  ·by_cases c:x=t
   ·subst c; exact .inr ⟨_,⟨some (b,cap),bt.length⟩,L,by simp [J.cH],hm⟩
   ·exact .inl (by simp [J.cH,c])
 -- the others' blocks are not b
 have B:∀n q x,h n=some q->n≠t->bQ j n q=some x->x≠b:=fun n q x hn g hx c=>by
  subst c;rcases p with hc|hc
  ·have:=aU.lt hl (.inr ⟨n,q,hn,hx⟩); omega
  ·exact g (hl.1.inj n q t _ x hn ht hx hc)
 have I:∀x,x∈jl->x≠b:=fun x hx c=>by
  subst c;rcases p with hc|hc
  ·have:=aU.lt hl (.inl hx); omega
  ·exact hl.2.apart x hx (.inr ⟨t,_,ht,hc⟩)
 have C:∀x,x≠b->(j.cH t ⟨some (b,cap),bt.length⟩ b (0)).F x=j.F x:=fun x hx=>by simp [J.cH,hx]
 have l:∀n q,h n=some q->n≠t->gJ (j.cH t ⟨some (b,cap),bt.length⟩ b (0)) w' n q/\bQ (j.cH t ⟨some (b,cap),bt.length⟩ b (0)) n q=bQ j n q:=fun n q hn g =>
  (hl.1.obj n q hn).2.keep hle (hl.1.obj n q hn).1 (fun x hx=>⟨m x (B n q x hn g hx) (aU.lt hl (.inr ⟨n,q,hn,hx⟩)),C x (B n q x hn g hx)⟩)
   (fun _=>by simp [J.cH,g])
 have K:bQ (j.cH t ⟨some (b,cap),bt.length⟩ b (0)) t (.arr k bt)=some b:=by simp [bQ,J.cH]
 have N:∀jl x,aU (j.cH t ⟨some (b,cap),bt.length⟩ b (0)) (h.set t (some (.arr k bt))) jl x->x=b\/aU j h jl x:=by
  rintro jl x (hx|⟨n,q,hn,hx⟩)
  ·exact .inr (.inl hx)
  ·by_cases c:n=t
   ·subst c; rw [ah.cM] at hn; simp only [Option.some.injEq] at hn; subst hn;rw [K] at hx; simp only [Option.some.injEq] at hx; exact .inl hx.symm
   ·rw [ah.cD h _ c] at hn;exact .inr (.inr ⟨n,q,hn,(l n q hn c).2▸hx⟩)
 refine⟨⟨⟨fun n q hn=>?_,fun s E u G x h1 h2 y z=>?_,fun x hx=>?_⟩,
  ⟨ny hl.2.each fun xs x hx h=>h.keep hle ⟨m x (I x hx) (aU.lt hl (.inl hx)),C x (I x hx)⟩,hl.2.nodup,fun x hx f=>?_⟩⟩, ?_⟩
 ·by_cases c:n=t
  ·subst c; rw [ah.cM] at hn; simp only [Option.some.injEq] at hn; subst hn;refine⟨aa,some (b,cap),by simp [J.cH],⟨by simp,fun e=>by rw [e] at hm; simp at hm⟩,R,S,fun ad ae O=>?_⟩;simp only [Option.some.injEq,Prod.mk.injEq] at O;obtain⟨rfl,rfl⟩:=O;exact⟨cs,e,H,P,by simp [J.cH],Q,W _ hle⟩
  ·rw [ah.cD h _ c] at hn;exact⟨(hl.1.obj n q hn).1,(l n q hn c).1⟩
 ·by_cases c1:s=t<;>by_cases c2:u=t
  ·omega
  ·subst c1; rw [ah.cM] at h1; simp only [Option.some.injEq] at h1; subst h1;rw [ah.cD h _ c2] at h2;rw [K] at y; simp only [Option.some.injEq] at y;exact absurd y.symm (B u G x h2 c2 ((l u G h2 c2).2▸z))
  ·subst c2; rw [ah.cM] at h2; simp only [Option.some.injEq] at h2; subst h2;rw [ah.cD h _ c1] at h1;rw [K] at z; simp only [Option.some.injEq] at z;exact absurd z.symm (B s E x h1 c1 ((l s E h1 c1).2▸y))
  ·rw [ah.cD h _ c1] at h1; rw [ah.cD h _ c2] at h2;exact hl.1.inj s E u G x h1 h2 ((l s E h1 c1).2▸y) ((l u G h2 c2).2▸z)
 ·have aj:=iR H;rw [C x (by omega)];exact hl.1.fresh x (by omega)
 ·rcases N [] x f with c|c
  ·exact I x hx c
  ·exact hl.2.apart x hx c
 ·refine { toLe:=hle,size:=U,frame:=fun x hx hn=>?_,own:=fun x hx f=>?_,os:=X,tape:=Y,output:=Z }
  ·have g:x≠b:=fun c=>by
    subst c;rcases p with hc|hc
    ·omega
    ·exact hn (.inr ⟨t,_,ht,hc⟩)
   exact⟨m x g hx,C x g⟩
  ·rcases N jl x f with c|c
   ·subst c;rcases p with hc|hc
    ·omega
    ·exact .inr ⟨t,_,ht,hc⟩
   ·exact c
theorem OK {j:J}{w:World}{jl:List Nat}{k id:Nat}{nl:Bool}{len:Nat}{cv:Value}(h:bD j w jl (.a (.d (.arr k id nl len))) cv):∃a cap,cv=.slice a len cap/\id<j.next/\w6 j id nl len a cap:=by
 have h':aF j w (.arr k id nl len) cv:=h;cases h' with
 | arr _ _ _ _ a cap hid hv=>exact⟨a,cap,rfl,hid,hv⟩
theorem HL.DM {j:J}{w:World}{jl:List Nat}{ls:List (List D)}{h:ah}(hl:HL j w jl ls h){k k' id n:Nat}{nl:Bool}{rows:List (List D)}(hi:h id=some (.arr k rows)) (hn:n=rows.length){cv:Value}
  (hx:bD j w jl (.a (.d (.arr k' id nl n))) cv) :
  (∃a,cv=.slice a 0 0/\nl=a.isNone/\rows=[]/\j.tok id=some ⟨none,0⟩)\/∃b cap cs e,cv=.slice (some ⟨b,0,none⟩) rows.length cap/\nl=false/\j.tok id=some ⟨some (b,cap),rows.length⟩/\w.heap[b]?=some (.cells cs e (0,0)) /\
   cs.size=cap*k/\j.F b=0/\rows.length<=cap/\(∀r∈rows,r.length=k)/\bI (aF j w) rows.flatten (cs.toList.take (rows.length*k)):=by
 subst hn;obtain⟨a,cap,l,hid,hv⟩:=OK hx;obtain⟨_,ek,f,m,p,q,hblk⟩:=hl.1.obj id _ hi;obtain⟨_,hv⟩:=hv _ f;rcases hv rfl with ⟨h1,h2,g⟩|⟨b,h1,h2,g⟩
 ·dsimp only at h1;subst h1 g;have:=m.1 rfl;subst this;exact .inl ⟨a,l,h2,rfl,f⟩
 ·dsimp only at h1;subst h1 h2;obtain⟨cs,e,g1,g2,g3,g4,g5⟩:=hblk _ _ rfl;exact .inr ⟨b,cap,cs.toArray,e,l,g,f,g1,by simpa using g2,g3,g4,p,by simpa using g5⟩
section
variable {P:Program}{ts:Ts}{ls:List (List D)}{h:ah}{dst:Option Tmp}{ty:TypeId}{pos:String}{aD:Array Edge}{g:Option (Nat×Bool)}{α:Type}{f:α->List D}
end
section
variable {P:Program}{ts:Ts}{ls:List (List D)}{h:ah}{dst:Option Tmp}{ty:TypeId}{pos:String}{aD:Array Edge}{g:Option (Nat×Bool)}{α:Type}{f:α->List D}
theorem aq.OL {t u e:TypeId}{av af l:TI}{x y:Operand}{id k k' m:Nat}{tok':Option Nat}{nl aw:Bool}{rows bt:List (List D)}{z:A}(aO:bn P t=some av) (hk:av.k=.slice e) (aP:bn P e=some l) (aQ:bn P u=some af) (aR:(∃e,af.k=.slice e)\/af.k=.str)
  (hz:l.zero=some z) (aS:(cU z).length=l.size)
  (hx:ev ts x=.a (.d (.arr k id nl m))) (aT:ev ts y=.a (.d (.slice k' tok' aw bt))) (s:k=l.size) (aU:k'=l.size\/bt=[])
  (f:h id=some (.arr k rows)) (hm:m=rows.length) (ax:(rows.length+bt.length)*l.bytes<=dI) (hlen:rows.length+bt.length<=dI) :
  aq P (mk dst (.call { callee:=.builtin .append,args:=#[x,y],argTypes:=#[t,u] }) ty pos aD g) ts ls h { rh:=true,wh:=true }
   (.a (.d (.arr k id (nl&&bt.isEmpty) (rows.length+bt.length)))) ls (h.set id (some (.arr k (rows++bt)))):=by
 refine aq.of_run fun L H _ hH j w jl a hl ay=>?_;have aV:=hH rfl;subst aV hm;have h1:bD j w jl (.a (.d (.arr k id nl rows.length))) (a.eval x):=by have:=ay x (by simp [Op.operands,Call.operands]); rw [hx] at this; exact this
 have h2:aF j w (.slice k' tok' aw bt) (a.eval y):=by have:=ay y (by simp [Op.operands,Call.operands]); rw [aT] at this; exact this
 obtain⟨a8,a9,N,_,I,az,_,aA⟩:=gr aP;rw [hz] at aA;obtain⟨zv,aB,aW⟩:=mi aA;have aC:zv.cells.size=l.size:=by have:=(aW j w).cells.length; rw [aS] at this; simpa using this.symm
 obtain⟨du,hu,O⟩:=HY aQ aR;have ht:=mq aO hk;have Z:∀r∈bt,r.length=l.size:=by
  obtain⟨_,_,_,_,_,_,_,hh,_⟩:=nE (jl:=jl) h2;rcases aU with e|e
  ·rw [<- e]; exact hh
  ·rw [e]; simp
 obtain⟨news,W,Q⟩:=Dy (P:=P) h2 Z;have R:=HW h2 P w;have aX:=(jq Z).1;have B:news.length=bt.length*l.size:=by rw [<- W.length,aX]
 have X:∀(v:Value) (w':World),(Builtin.append_ #[t,u] ty #[a.eval x,a.eval y]).run P w=.ok v w' ->
   (execOp a.eval (mk dst (.call { callee:=.builtin .append,args:=#[x,y],argTypes:=#[t,u] }) ty pos aD g)).run P w=.ok (.value v) w':=fun v w' hr=>by
  simp [execOp,resolve,invoke,builtin,hr]
 have p:(rows++bt).length=rows.length+bt.length:=by simp
 have a_:dI=140737488355328:=rfl;have ai:=(hl.1.obj id _ f).1;rcases hl.DM f rfl h1 with ⟨base,S,aE,aY,aG⟩|⟨b,cap,C,ce,S,aE,aG,hg,aa,a',aZ,aK,ct⟩
 ·-- nil so far
  subst aY;by_cases U:bt=[]
  ·subst U;have aj:news=[]:=List.eq_nil_of_length_eq_zero (by simpa using B);subst aj;have q:(Builtin.append_ #[t,u] ty #[a.eval x,a.eval y]).run P w=.ok (a.eval x) w:=by
    rw [S];cases base with
    | none=>exact HV ht hu O N (by simpa using R) (by rw [I]; simpa using Q w (fun _ _ _=>rfl))
    | some a0 =>
     have:=xg (P:=P) (ty:=ty) (sCap:=0) (sLen:=0) (m:=0) (a:=a0) (news:=[]) (w':=w) ht hu O N (by simpa using R) (by rw [I]; simpa using Q w (fun _ _ _=>rfl)) (by omega) (by simp [storeCells])
     simpa using this
   refine⟨_,w,a.eval x,j,jl,X _ _ q,.inl rfl, ?_, ?_,Ext.refl _, ?_⟩
   ·simpa using h1
   ·simp only [List.isEmpty_nil,Bool.and_true,List.append_nil,cond_true];rw [ah.tR H id _ f]; exact hl
   ·simp only [List.isEmpty_nil,Bool.and_true,List.append_nil,cond_true];rw [ah.tR H id _ f]; exact bT.refl _ _ _
  ·have aL:0<bt.length:=List.length_pos_iff.2 U;have a1:(nl&&bt.isEmpty)=false:=by cases bt with|nil=>exact absurd rfl U|cons _ _=>simp
   rw [a1];have q:=Dx (P:=P) (ty:=ty) (w:=w) (base:=base) (sLen:=0) (sCap:=0) (m:=bt.length) (x:=a.eval y) (olds:=[]) (news:=news) ht hu O N aB R
    (by cases base<;>simp [Builtin.firstCells,loadCells,loadCellsFrom]) (by rw [I]; exact Q w.drew fun _ _ _=>rfl) (by omega) (by simp at hlen; omega) (growslice_fits (by omega) (by rw [az]; simpa [dI] using ax))
   rw [<- S] at q;generalize al:grownCap w (0+bt.length) 0 e=F at q;have am:bt.length<=F:=by rw [<- al]; have:=grownCap_ge w (0+bt.length) 0 e; omega
   generalize Y:[]++news++(Builtin.zeroCells zv.cells (F-(0+bt.length))).toList=G at q;have an:G.length=F*l.size:=by
    rw [<- Y];simp only [List.nil_append,List.length_append,B,Array.length_toList,size_zeroCells,aC,<- Nat.add_mul]
    congr 1; omega
   have ao:=heap_alloc_new w.drew (.cells G.toArray e);obtain⟨M,E⟩:=hl.drew.DL (w':=w.drew.alloc (.cells G.toArray e)) (bt:=[]++bt) f (by simpa using aL) (b:=w.heap.size) (cap:=F) ao (by rw [s]; exact an) (by simpa using am) (by simpa [s] using Z) (by simpa using hlen)
    (fun x hx aJ=>pM aJ) (by simp) (by simp) (.inl (Nat.le_refl _)) (fun j' hle=>by
     have ap:G.take (bt.length*k)=news:=by rw [<- Y,List.nil_append,s,List.take_left' (by rw [B])]
     rw [List.nil_append,ap];exact W.imp fun _ _ h=>(h.mono ((bT.drew j w (fun _=>False)).toLe)).mono hle) rfl rfl fJ.rfl
   refine⟨_,_,_,_,jl,X _ _ q,.inl rfl, ?_,M,Ext.refl _,(bT.drew j w _).trans E⟩;refine aF.arr _ _ _ _ _ _ (Nat.lt_of_lt_of_le ai E.toLe.next) fun tk f=>?_;simp only [J.cH,if_true,Option.some.injEq] at f;subst f;exact⟨by simp,fun _=>.inr ⟨_,rfl,rfl,rfl⟩⟩
 ·have ba:=(jq aK).1;subst aE;rw [Bool.false_and];by_cases U:bt=[]
  ·subst U;have aj:news=[]:=List.eq_nil_of_length_eq_zero (by simpa using B);subst aj;have q:(Builtin.append_ #[t,u] ty #[a.eval x,a.eval y]).run P w=.ok (a.eval x) w:=by
    rw [S];have:=xg (P:=P) (ty:=ty) (sCap:=cap) (sLen:=rows.length) (m:=0) (a:=⟨b,0,none⟩) (news:=[]) (w':=w) ht hu O N (by simpa using R) (by rw [I]; simpa using Q w (fun _ _ _=>rfl)) (by omega) (by simp [storeCells])
    simpa using this
   refine⟨_,w,a.eval x,j,jl,X _ _ q,.inl rfl, ?_, ?_,Ext.refl _, ?_⟩
   ·simpa using h1
   ·simp only [List.append_nil,cond_true];rw [ah.tR H id _ f]; exact hl
   ·simp only [List.append_nil,cond_true];rw [ah.tR H id _ f]; exact bT.refl _ _ _
  ·have aL:0<bt.length:=List.length_pos_iff.2 U;have aM:∀r∈rows++bt,r.length=k:=fun r hr=>(List.mem_append.1 hr).elim (aK r) (fun h=>by rw [s]; exact Z r h);by_cases ab:rows.length+bt.length<=cap
   ·-- in place
    have a2:w.heap[b]?=some (.cells C.toList.toArray ce (0,0)):=by simpa using hg
    obtain⟨w',a3,K⟩:=Ak (ak:=ak) (P:=P) (off:=rows.length*l.size) news 0 C.toList w a2 (by
     rw [B]; simp only [Array.length_toList,aa]; rw [Nat.add_zero,<- Nat.add_mul,s]; exact Nat.mul_le_mul_right _ ab) (Dn W)
    rw [Nat.add_zero] at K;have q:(Builtin.append_ #[t,u] ty #[a.eval x,a.eval y]).run P w=.ok (.slice (some ⟨b,0,none⟩) (rows.length+bt.length) cap) w':=by
     rw [S];exact xg ht hu O N R (by rw [I]; exact Q w fun _ _ _=>rfl) ab (by rw [add_plain,I,Nat.zero_add]; exact a3)
    have a4:bQ j id (.arr k rows)=some b:=by simp [bQ,aG]
    have ad:(rows++bt).length*k<=C.toList.length:=by
     rw [p]; simp only [Array.length_toList,aa]; exact Nat.mul_le_mul_right _ ab
    obtain⟨M,E⟩:=hl.DL (w':=w') (bt:=rows++bt) f (by rw [p]; omega) (b:=b) (cap:=cap) K.here (by simp [Dm,aa]) (by rw [p]; exact ab) aM (by rw [p]; exact hlen) (fun x hx _=>K.other x hx)
     (by rw [K.size]; exact Nat.le_refl _) (by rw [K.size]; omega) (.inr a4) (fun j' hle=>by
      rw [List.flatten_append];have a5:(en C.toList (rows.length*l.size) news).take ((rows++bt).length*k)=C.toList.take (rows.length*k)++news:=by
       refine List.ext_getElem? fun i=>?_;rw [List.getElem?_take];by_cases hi:i<rows.length*k
       ·rw [if_pos (by rw [p,Nat.add_mul]; omega),xf _ _ _ _ (by rw [<- s]; exact hi),List.getElem?_append_left (by rw [List.length_take]; simp only [p,Nat.add_mul] at ad; omega),List.getElem?_take,if_pos hi]
       ·rw [List.getElem?_append_right (by rw [List.length_take]; omega)];have aJ:(C.toList.take (rows.length*k)).length=rows.length*k:=by rw [List.length_take]; simp only [p,Nat.add_mul] at ad; omega
        rw [aJ];by_cases ae:i<(rows++bt).length*k
        ·rw [if_pos ae];have aN:i-rows.length*k<news.length:=by rw [B,<- s]; rw [p,Nat.add_mul] at ae; omega
         have:=Ar C.toList (rows.length*l.size) news (i-rows.length*k) _ (List.getElem?_eq_getElem aN) (by rw [B,<- s]; simp only [p,Nat.add_mul] at ad; exact ad);rw [<- s,show rows.length*k+(i-rows.length*k)=i by omega] at this;rw [<- s,this,List.getElem?_eq_getElem aN]
        ·rw [if_neg ae]
         symm; apply List.getElem?_eq_none; rw [B,<- s]; rw [p,Nat.add_mul] at ae; omega
      rw [a5];exact(ct.imp fun _ _ h=>h.mono hle).append (W.imp fun _ _ h=>h.mono hle)) K.os K.tape K.output
    rw [p] at E M;refine⟨_,w',_,_,jl,X _ _ q,.inl rfl, ?_,M,Ext.refl _,E⟩;refine aF.arr _ _ _ _ _ _ (Nat.lt_of_lt_of_le ai E.toLe.next) fun tk f=>?_;simp only [J.cH,if_true,Option.some.injEq] at f;subst f;exact⟨Nat.le_refl _,fun _=>.inr ⟨_,rfl,rfl,rfl⟩⟩
   ·-- a new array
    obtain⟨olds,holds,ar⟩:∃olds,olds=C.toList.take (rows.length*k)/\olds.length=rows.length*l.size:=⟨_,rfl,by
     have a6:C.toList.length=cap*k:=by simpa using aa
     have:=Nat.mul_le_mul_right k aZ;rw [List.length_take,a6,<- s];omega⟩
    rw [<- holds] at ct;have a7:(Builtin.firstCells l.size rows.length (.slice (some ⟨b,0,none⟩) rows.length cap)).run P w.drew=.ok olds.toArray w.drew:=by
     rw [Builtin.firstCells,<- ar];exact run_loadCells_list w.drew _ olds fun n v hv=>by
      rw [add_plain,Nat.zero_add];have:w.drew.cell? ⟨b,n,none⟩=w.cell? ⟨b,n,none⟩:=rfl;rw [this,cell_of_row w b n C ce (0,0) hg];rw [holds,List.getElem?_take] at hv
      split at hv
      ·simpa using hv
      ·cases hv
    have q:=Dx (P:=P) (ty:=ty) (w:=w) (base:=some ⟨b,0,none⟩) (sLen:=rows.length) (sCap:=cap) (m:=bt.length) (x:=a.eval y) (olds:=olds) (news:=news) ht hu O N aB R
     (by rw [I]; exact a7) (by rw [I]; exact Q w.drew fun _ _ _=>rfl) (by omega) (by omega) (growslice_fits (by omega) (by rw [az]; exact ax))
    rw [<- S] at q;generalize al:grownCap w (rows.length+bt.length) cap e=F at q;have am:rows.length+bt.length<=F:=by rw [<- al]; exact grownCap_ge _ _ _ _
    generalize Y:olds++news++(Builtin.zeroCells zv.cells (F-(rows.length+bt.length))).toList=G at q;have an:G.length=F*l.size:=by
     rw [<- Y];simp only [List.length_append,ar,B,Array.length_toList,size_zeroCells,aC,<- Nat.add_mul]
     congr 1; omega
    have ao:=heap_alloc_new w.drew (.cells G.toArray e);obtain⟨M,E⟩:=hl.drew.DL (w':=w.drew.alloc (.cells G.toArray e)) (bt:=rows++bt) f (by rw [p]; omega) (b:=w.heap.size) (cap:=F) ao (by rw [s]; exact an) (by rw [p]; exact am) aM (by rw [p]; exact hlen)
     (fun x hx aJ=>pM aJ) (by simp) (by simp) (.inl (Nat.le_refl _)) (fun j' hle=>by
      have ap:G.take ((rows++bt).length*k)=olds++news:=by rw [<- Y,List.take_left' (by rw [List.length_append,ar,B,p,s,Nat.add_mul])]
      rw [ap,List.flatten_append];have hd:=(bT.drew j w (fun _=>False)).toLe;exact(ct.imp fun _ _ h=>(h.mono hd).mono hle).append (W.imp fun _ _ h=>(h.mono hd).mono hle)) rfl rfl fJ.rfl
    rw [p] at E M;refine⟨_,_,_,_,jl,X _ _ q,.inl rfl, ?_,M,Ext.refl _,(bT.drew j w _).trans E⟩;refine aF.arr _ _ _ _ _ _ (Nat.lt_of_lt_of_le ai E.toLe.next) fun tk f=>?_;simp only [J.cH,if_true,Option.some.injEq] at f;subst f;exact⟨Nat.le_refl _,fun _=>.inr ⟨_,rfl,rfl,rfl⟩⟩
end
section
variable {P:Program}{ts:Ts}{ls:List (List D)}{h:ah}{dst:Option Tmp}{ty:TypeId}{pos:String}{aD:Array Edge}{g:Option (Nat×Bool)}{α:Type}{f:α->List D}
theorem aq.OM {t u e:TypeId}{j p b:TI}{x y:Operand}{id k k' m:Nat}{nl:Bool}{tok':Option Nat}{s r v:Sl α}{z:A}(q:bn P t=some j) (hk:j.k=.slice e) (w:bn P e=some b) (B:bn P u=some p) (C:∃e,p.k=.slice e)
  (hz:b.zero=some z) (E:(cU z).length=b.size) (hx:ev ts x=.a (.d (.arr k id nl m))) (F:ev ts y=.a (.d (r.d k' f tok'))) (G:k=b.size) (H:k'=b.size)
  (I:h id=some (.arr k (s.l.map f))) (hm:m=s.l.length) (J:nl=s.nl) (hr:bq b.bytes s r=some v) :
  aq P (mk dst (.call { callee:=.builtin .append,args:=#[x,y],argTypes:=#[t,u] }) ty pos aD g) ts ls h { rh:=true,wh:=true } (.a (.d (.arr k id v.nl v.l.length))) ls (h.set id (some (.arr k (v.l.map f)))):=by
 obtain⟨e,h1,h2⟩:=xq hr;subst e J;have:=aq.OL (ak:=ak) (P:=P) (dst:=dst) (ty:=ty) (pos:=pos) (aD:=aD) (g:=g) (ls:=ls) q hk w B (.inl C) hz E hx F G (.inl H) I (by simpa using hm) (by simpa using h1) (by simpa using h2);simp only [List.length_map,List.isEmpty_map] at this;rw [<- List.map_append] at this
 simpa using this
theorem HL.bl {j:J}{w:World}{jl:List Nat}{ls:List (List D)}{h:ah}(hl:HL j w jl ls h){k k' id:Nat}{nl:Bool}{rows:List (List D)}(hi:h id=some (.arr k rows)){cv:Value}
  (hx:bD j w jl (.a (.d (.arr k' id nl rows.length))) cv) :
  ∃j',HL j' w jl ls (h.set id none)/\bT j w (aU j h jl) j' w (aU j' (h.set id none) jl)/\aF j' w (.slice k none nl rows) cv:=by
 obtain⟨l,m⟩:=hl.forget (h':=h.set id none) fun n o hn=>by
  by_cases c:n=id
  ·subst c; rw [ah.cM] at hn; cases hn
  ·rwa [ah.cD h _ c] at hn
 have p:rows.length<=dI:=by obtain⟨_,_,_,_,_,p,_⟩:=hl.1.obj id _ hi; exact p
 rcases hl.DM hi rfl hx with ⟨base,q,r,B,y⟩|⟨b,cap,C,ce,q,r,y,hg,N,E,G,H,ct⟩
 ·subst q r B;cases base with
  | none=>exact⟨j,l,m,.gH _ _ (by simp)⟩
  | some I=>exact⟨j,l,m,.slice k none [] I 0 (fun _=>undef) (by simp) (by simp) (by simp) ⟨.inl rfl,by simp⟩ (by simp) (fun t ht=>by cases ht)⟩
 ·subst q r;have aJ:=iR hg;have hblk:bQ j id (.arr k rows)=some b:=by simp [bQ,y]
  have K:¬aU j (h.set id none) jl b:=by
   rintro (hm|⟨n,o,h1,h2⟩)
   ·exact hl.2.apart b hm (.inr ⟨id,_,hi,hblk⟩)
   ·have c:n≠id:=fun c=>by subst c; rw [ah.cM] at h1; cases h1
    rw [ah.cD h _ c] at h1;exact c (hl.1.inj n o id _ b h1 hi h2 hblk)
  have hle:Le j w (j.eO b (rows.length*k)) w:=⟨Nat.le_refl _,fun _ _=>rfl,fun f=>by
   simp only [J.eO]
   split
   ·rename_i e; rw [e,E]; exact Nat.zero_le _
   ·exact Nat.le_refl _,fun _ _ _=>rfl,fun _ _=>.inl rfl,fun _ _ _ _ _ h=>h⟩
  have s:∀f,f≠b->(j.eO b (rows.length*k)).F f=j.F f:=fun f L=>by simp only [J.eO]; rw [if_neg L]
  have z:=l.keep hle (fun f g=>⟨rfl,s f (fun e=>K (e▸g))⟩) (fun _ _ _=>rfl) (fun f u=>by rw [s f (by omega)]; exact hl.1.fresh f u);refine⟨j.eO b (rows.length*k),z.1,{ toLe:=hle,size:=Nat.le_refl _,frame:=fun f _ g=>⟨rfl,s f fun e=>g (e▸.inr ⟨id,_,hi,hblk⟩)⟩,own:=fun f u g=>m.own f u ((z.2 f).1 g),os:=rfl,tape:=rfl,output:=fJ.rfl }, ?_⟩;refine uf H p G (fun i x hx=>?_) (fun t ht=>by cases ht) (fun _ _ _ _=>.cells hg)
  obtain⟨v,hv,hr⟩:=ct.get hx;have M:i<rows.length*k:=by
   rcases Nat.lt_or_ge i (rows.length*k) with h|h
   ·exact h
   ·rw [List.getElem?_take,if_neg (by omega)] at hv; cases hv
  refine⟨by simp only [J.eO,if_true]; omega,v, ?_,hr.mono hle⟩;rw [Nat.zero_add,cell_of_row w b i C ce (0,0) hg];rw [List.getElem?_take,if_pos M] at hv
  simpa using hv
variable {c:Code}{Q:Exit->St->Prop}{n:Nat}{ops:Array Oper}{rest:List Oper}{Q':St->Prop}
theorem ag.ON (k:Nat) (hw:∀t,h t=none->ag P c Q ⟨n,ts,ls,h.set t (some (.arr k []))⟩):ag P c Q ⟨n,ts,ls,h⟩:=by
 intro j w jl a b;obtain⟨h1,h2⟩:=b.hl.OJ k;have f:=b.hl.1.pN (Nat.le_refl _);refine wp_mono (hw j.next f j.eM w jl a ⟨b.defers,b.size,fun i=>(b.tmps i).mono h2.toLe (Ext.refl _),h1⟩) fun e a w hq=>AQ.trans h2 hq
theorem OO {j:J}{w:World}{h:ah}{t k f g:Nat}(hh:fI j w h) (ht:h t=some (.arr k [])){cv:Value}(hx:aF j w (.slice f none true []) cv):aF j w (.arr g t true 0) cv:=by
 cases hx;obtain⟨h0,ek,h1,h2,_⟩:=hh.obj _ _ ht;have l:=h2.2 rfl;refine .arr _ _ _ _ _ _ h0 fun tk b=>?_;rw [h1] at b; simp only [Option.some.injEq] at b; subst b;exact⟨by simp,fun _=>.inl ⟨l,rfl,rfl⟩⟩
theorem aI.Iq (s k t:Nat){f:Nat}(g:get ts s=.a (.d (.slice f none true []))) (ht:h t=some (.arr k []))
  (hw:aI P ops rest Q' ⟨n,(s,.a (.d (.arr k t true 0)))::ts,ls,h⟩):aI P ops rest Q' ⟨n,ts,ls,h⟩:=by
 intro j w jl a b;refine hw j w jl a ⟨b.defers,b.size,fun i=>?_,b.hl⟩;by_cases e:s=i
 ·subst e;show bD _ _ _ (get ((s,_)::ts) s) _;rw [gp];have hv:bD j w jl (get ts s) (a.tmps.getD s undef):=b.tmps s;rw [g] at hv;exact OO b.hl.1 ht hv
 ·show bD _ _ _ (get ((s,_)::ts) i) _;rw [ia _ _ e];exact b.tmps i
theorem aI.OP (s k t:Nat){g:Nat}(l:get ts s=.full g []) (ht:h t=some (.arr k []))
  (hw:aI P ops rest Q' ⟨n,(s,.a (.d (.arr k t false 0)))::ts,ls,h⟩):aI P ops rest Q' ⟨n,ts,ls,h⟩:=by
 intro j w jl a b;refine hw j w jl a ⟨b.defers,b.size,fun i=>?_,b.hl⟩;by_cases e:s=i
 ·subst e;show bD _ _ _ (get ((s,_)::ts) s) _;rw [gp];have hv:bD j w jl (get ts s) (a.tmps.getD s undef):=b.tmps s;rw [l] at hv;obtain⟨_,p,hv⟩:=hv;show aF j w (.arr k t false 0) (a.tmps.getD s undef);rw [hv];obtain⟨h0,ek,h1,h2,_⟩:=b.hl.1.obj _ _ ht;have m:=h2.2 rfl;refine aF.arr _ _ _ _ _ _ h0 fun tk f=>?_;rw [h1] at f; simp only [Option.some.injEq] at f; subst f;exact⟨by simp,fun _=>.inl ⟨m,rfl,rfl⟩⟩
 ·show bD _ _ _ (get ((s,_)::ts) i) _;rw [ia _ _ e];exact b.tmps i
end
def Sl.Ir {α:Type}(s:Sl α) (i:Nat) (x:α):Sl α:=⟨s.nl,s.l.set i x⟩
end Go.Ab
/-
 A function that lays one deferred call and returns: the deferred closure is called behind the body,then the results are read. No program text.
-/
namespace Go.Ab
open Go Go.RowKit
variable {ak:bP}
structure nH [bP] (P:Program) (f:FuncId) (args:List A) (h:ah) (cT:V->ah->Prop):Prop where
 enter:∀(cR:Array Value) (w:World),(callFunc f cR).run P w=.ok (.enter f cR) w
 runs:∀(j:J) (w:World) (cR:List Value),fI j w h->bI (cF j w) args cR->∀u,CallsD P f cR.toArray u w fun e u' w'=>u'=u /\
  ∃r cv j' h',e=.returned cv/\cT r h'/\bD j' w' [] r cv/\fI j' w' h'/\bT j w (aU j h []) j' w' (aU j' h' [])
theorem Is {j:J}{w:World}{h:ah}{fn:Func}{n:Nat}(hn:fn.ntmps=n){args:List A}{cR:List Value}(hl:Nat.ble args.length n=true) (hr:fI j w h) (b:bI (cF j w) args cR) :
  fS j w [] ⟨n,nC 0 args,[],h⟩ { tmps:=cR.toArray++Array.replicate (fn.ntmps-cR.toArray.size) undef,defers:=[] }:=by
 subst hn;have hl:=Nat.le_of_ble_eq_true hl;have hlen:=b.length;refine⟨rfl,by simp; omega,fun t=>?_,⟨hr,⟨.nil,by simp,by simp⟩⟩⟩;refine Dk (fun t=>(cR.toArray++Array.replicate (fn.ntmps-cR.toArray.size) undef).getD t undef) 0 args cR b (fun i v hv=>?_) t;rw [Nat.zero_add,Array.getD_eq_getD_getElem?,Array.getElem?_append];have:i<cR.length:=(List.getElem?_eq_some_iff.1 hv).1;simp [this]
 exact(List.getElem?_eq_some_iff.1 hv).2
theorem nH.of_wp {P:Program}{T:List TI}(fK:mm P T){f:FuncId}{fn:Func}{c:Code}{args:List A}{h:ah}{cT:V->ah->Prop}(m:∀(cR:Array Value) (w:World),(callFunc f cR).run P w=.ok (.enter f cR) w) (p:P.funcs[f]?=some fn) (q:fn.body=some c){n:Nat}(hn:fn.ntmps=n){rs:List ResultVar}(s:fn.results.toList=rs) (hl:Nat.ble args.length n=true)
  (hw:ag P c (bR T rs cT) ⟨n,nC 0 args,[],h⟩):nH P f args h cT:=by
 refine⟨m,fun j w cR hr t u=>?_⟩;refine callsD_of_wp p q (wp_mono (hw j w [] _ (Is hn hl hr t)) ?_);rintro e J w' ⟨K,j',bp,⟨he,xs,h',y,z,B⟩,b,C⟩;obtain⟨v,hv,E⟩:=HJ (P:=P) fK b s y;obtain⟨F,G⟩:=b.hl.trim 0;obtain⟨H,I⟩:=F.forget z;have l:∃r cv g k,Ending.returned v=.returned cv/\cT r k/\bD g w' [] r cv/\fI g w' k/\bT j w (aU j h []) g w' (aU g k []) :=
  ⟨lc xs,v,j',h',rfl,B,E,H.1,(C.trans G).trans I⟩
 rcases he with he|he<;>subst he
 ·exact⟨b.defers,v,hv,l⟩
 ·exact⟨b.defers,v,hv,l⟩
def ga [bP] (P:Program) (c Y:Code) (M:St->Prop) (σ:St):Prop :=
 ∀(Qc:Exit->Act->World->Prop) (j:J) (w:World) (jl:List Nat) (a:Act),fS j w jl σ a ->
  (∀b j' w' bp f,M b->fS j' w' bp b f->bT j w (aU j σ.h jl) j' w' (aU j' b.h bp)->Y.wp P Qc f w')->c.wp P Qc a w
section
variable {P:Program}{M:St->Prop}{σ:St}{Y:Code}
theorem ga.done (h:M σ):ga P Y Y M σ:=fun _ _ _ _ _ b hk=>hk _ _ _ _ _ h b (bT.refl _ _ _)
theorem ga.ar {x y:Code}(h:∀K:St->Prop,(∀σ,ga P y Y M σ->K σ)->ag P x (kw K fun _ _=>False) σ):ga P (.seq x y) Y M σ:=by
 intro Qc j w jl a b hk;refine wp_seq (wp_mono (h (ga P y Y M) (fun _ h=>h) j w jl a b) ?_);rintro e f w' ⟨u,j',bp,hq,g,k⟩;cases e with
 | normal=>exact hq Qc j' w' bp f g fun l m p q a2 r s t=>hk l m p q a2 r s (k.trans t)
 | exit _=>exact hq.elim
 | goto _=>exact hq.elim
 | ret=>exact hq.elim
 | panic _=>exact hq.elim
 | outgrown=>exact hq.elim
theorem ga.ua {c:Code}{b:St}(hw:cI σ b) (h:ga P c Y M b):ga P c Y M σ:=by
 intro Qc j w jl a f hk;obtain⟨j',bp,g,k⟩:=hw j w jl a f;exact h Qc j' w bp a g fun l m p q a2 r s t=>hk l m p q a2 r s (k.trans t)
theorem ga.freeze {c:Code}{n:Nat}{ts:Ts}{ls:List (List D)}{h:ah}{b:Ts}{aS:List (List D)}{xs:List D}(s i:Nat) (f:get ts s=.dH i 0) (hl:fF xs aS i ls) (hk:dR ts i b) (hw:ga P c Y M ⟨n,(s,.a (.d (.view xs)))::b,aS,h⟩):ga P c Y M ⟨n,ts,ls,h⟩ :=
 ga.ua (cI.freeze s i f hl hk) hw
end
def OQ [bP] (P:Program) (T:List TI) (rs:List ResultVar) (g:FuncId) (cr:List D) (cT:V->ah->Prop):Exit->St->Prop:=fun e σ =>
 (e=.normal\/e=.ret)/\nH P g (cr.map .d) σ.h fun _ h'=>∃xs b,nD T { σ with h:=h' } rs=some xs/\(∀id o,b id=some o->h' id=some o)/\cT (lc xs) b
def OR [bP] (P:Program) (T:List TI) (rs:List ResultVar) (g:FuncId) (cr:List Operand) (b:Nat) (Z:Code) (cT:V->ah->Prop):St->Prop:=fun σ =>
 ∃xs,ud σ.ts cr=some xs/\Nat.blt b σ.n=true/\∀fE:ez,@ag _ fE P Z (OQ P T rs g xs cT) ⟨σ.n,(b,.any)::σ.ts,σ.ls,σ.h⟩
theorem HL.called {j j':J}{w w':World}{jl:List Nat}{ls:List (List D)}{h h':ah}(hl:HL j w jl ls h) (hh:fI j' w' h') (k:bT j w (aU j h []) j' w' (aU j' h' [])) :
  HL j' w' jl ls h'/\bT j w (aU j h jl) j' w' (aU j' h' jl):=by
 have l:∀b,b∈jl->b<w.heap.size:=fun b f=>aU.lt hl (.inl f);have m:∀b,b∈jl->w'.heap[b]?=w.heap[b]?/\j'.F b=j.F b:=fun b f=>k.frame b (l b f) (hl.2.apart b f);refine⟨⟨hh,⟨ny hl.2.each fun xs b f h=>h.keep k.toLe (m b f),hl.2.nodup,fun b f g=>hl.2.apart b f (k.own b (l b f) g)⟩⟩, ?_⟩;refine { k with frame:=fun b f hn=>k.frame b f (fun g=>hn ?_),own:=fun b f g=>?_ }
 ·rcases g with g|g
  ·simp at g
  ·exact .inr g
 ·rcases g with g|g
  ·exact .inl g
  ·rcases k.own b f (.inr g) with h|h
   ·simp at h
   ·exact .inr h
theorem AC.OS {P:Program}{T:List TI}(fK:mm P T){f:FuncId}{fn:Func}{c:Code}{args:List A}{h:ah}{cT:V->ah->Prop}(U:∀(cR:Array Value) (w:World),(callFunc f cR).run P w=.ok (.enter f cR) w) (W:P.funcs[f]?=some fn) (X:fn.body=some c){n:Nat}(hn:fn.ntmps=n){rs:List ResultVar}(Y:fn.results.toList=rs) (hl:Nat.ble args.length n=true)
  {aa l:Nat}{g:FuncId}{cr:Array Operand}{Z:Code}{xx E:TypeId}{F G:String}{H I:Array Edge}{cn:Array TypeId}
  (hw:ga P c (.seq (.region aa #[⟨some l,.makeFunc (.func g) #[] cr,xx,F,H,none⟩,⟨none,.defer { callee:=.value (.tmp l),args:=#[],argTypes:=cn },E,G,I,none⟩] false) Z) (OR P T rs g cr.toList l Z cT) ⟨n,nC 0 args,[],h⟩):AC P f args h cT:=by
 refine⟨U,fun j w cR hr ab=>?_⟩;refine calls_of_wp_defers W X (hw _ j w [] _ (Is hn hl hr ab) fun σ s m t b ad q ae=>?_);obtain⟨xs,hx,J,af⟩:=ad;have L:=Dv (j:=s) (w:=m) (jl:=t) (act:=b) cr.toList xs hx fun x _=>pO q.tmps x;have ai:l<b.tmps.size:=by rw [q.size]; simpa [Nat.blt_eq] using J
 have aj:b.defers=[]:=q.defers;refine wp_seq (wp_region_lit ?_);refine wpList_step fun K ak=>?_;rw [if_pos (rJ rfl)];unfold Oper.wp;have al:(execOp b.eval ⟨some l,.makeFunc (.func g) #[] cr,xx,F,H,none⟩).run P m=.ok (.value (.func (.func g) #[] (cr.toList.map b.eval).toArray)) m:=by
  simp [execOp,Instr.makeFunc]
  apply Array.ext'; simp
 rw [al,Oper.upon_value];refine ak _ _ ?_;refine wpList_step fun aS am=>?_;rw [if_pos (rJ rfl)];unfold Oper.wp;have an:(b.put (some l) (.func (.func g) #[] (cr.toList.map b.eval).toArray)).eval (.tmp l)=.func (.func g) #[] (cr.toList.map b.eval).toArray:=by
  show (b.put (some l) _).tmps.getD l undef=_;simp [Act.put,Array.getD_eq_getD_getElem?,ai]
 have ao:(execOp (b.put (some l) (.func (.func g) #[] (cr.toList.map b.eval).toArray)).eval ⟨none,.defer { callee:=.value (.tmp l),args:=#[],argTypes:=cn },E,G,I,none⟩).run P m=.ok (.defer { target:=.fn (.func g) (cr.toList.map b.eval).toArray,args:=#[] }) m:=by
  simp only [execOp,resolve,an,Deferred.ofValue,Sem.run_bind,Sem.run_pure,Result.andThen];simp
 rw [ao,Oper.upon_defer];refine am _ _ ?_;show Code.wp P _ _ _ m;have u:=q.put (Le.refl s m) (Ext.refl t) (dst:=some l) (Ob J) (v:=.any) (cv:=.func (.func g) #[] (cr.toList.map b.eval).toArray) trivial q.hl;have ap:(b.put (some l) (Value.func (.func g) #[] (cr.toList.map b.eval).toArray)).defers=[]:=by rw [put_defers]; exact aj
 have ar:=u.size;have av:=u.tmps;have aw:=u.hl
 let fE:ez:=⟨[{ target:=.fn (.func g) (cr.toList.map b.eval).toArray,args:=#[] }]⟩
 have hz:=af fE;refine wp_mono (hz s m t _ ⟨?_,ar,av,aw⟩) ?_
 ·show _::_=_;rw [ap]; rfl
 ·rintro e a4 M ⟨B,ax,ay,⟨he,N⟩,p,O⟩;have az:a4.defers=[{ target:=.fn (.func g) (cr.toList.map b.eval).toArray,args:=#[] }]:=p.defers;have aA:Leaves P fn a4.tmps (fun e w'=>∃r cv j' h',e=.returned cv/\cT r h'/\bD j' w' [] r cv/\fI j' w' h'/\bT j w (aU j h []) j' w' (aU j' h' [])) a4.defers .returning M:=by
   rw [az];refine leaves_cons (f:=g) (args:=(cr.toList.map b.eval).toArray) (by simp) (by rw [invoke,Array.empty_append]; exact N.enter _ _) ?_;refine(N.runs ax M _ p.hl.1 (bI.k7 (by rw [List.length_map]; exact L.length) fun i x y hx aB=>?_) .returning).mono ?_
   ·rw [List.getElem?_map] at hx;cases e:xs[i]? with
    | none=>rw [e] at hx; simp at hx
    | some z =>
     rw [e] at hx; simp at hx; subst hx;obtain⟨aT,C,hr⟩:=L.get e;rw [aB] at C;simp only [Option.some.injEq] at C;subst C;exact hr.mono O.toLe
   ·rintro aV aW aC ⟨rfl,r,cv,Q,aD,rfl,⟨ys,aE,aF,aG,aJ⟩,hv,hh,R⟩;obtain⟨S,aK⟩:=p.hl.called hh R;have aL:@fS fE Q aC ay ⟨B.n,B.ts,B.ls,aD⟩ a4:=⟨p.defers,p.size,fun k=>(p.tmps k).mono R.toLe (Ext.refl _),S⟩;obtain⟨v,aM,aN⟩:=HJ (P:=P) fK aL Y aF;obtain⟨aO,aP⟩:=S.trim 0;obtain⟨aQ,aR⟩:=aO.forget aG;exact⟨v,aM,lc ys,v,Q,aE,rfl,aJ,aN,aQ.1,((((ae.trans O).trans aK).trans aP).trans aR)⟩
  rcases he with he|he<;>subst he<;>exact aA
end Go.Ab
namespace Go.Ab
open Go Go.RowKit
variable {ak:bP}
def V.shift (i:Nat):V->V
 | .dH q off=>bif Nat.beq q i then .any else bif Nat.blt i q then .dH (q-1) off else .dH q off
 | .g_ c q off=>bif Nat.beq q i then .any else bif Nat.blt i q then .g_ c (q-1) off else .g_ c q off
 | v=>v
def rU (i:Nat):Ts->Ts
 | []=>[]
 | (k,v)::r=>(k,v.shift i)::rU i r
theorem It (i:Nat):∀(ts:Ts) (k:Nat),get (rU i ts) k=(get ts k).shift i
 | [],_=>rfl
 | (k',v)::r,k=>by
  simp only [rU];by_cases e:k'=k
  ·subst e; rw [gp,gp]
  ·rw [ia _ _ e,ia _ _ e,It i r k]
theorem get_erase {α:Type}{l:List α}{i a:Nat}(h:a≠i):(l.eraseIdx i)[if i<a then a-1 else a]?=l[a]?:=by
 rw [List.getElem?_eraseIdx];by_cases c:i<a
 ·rw [if_pos c,if_neg (by omega)]; congr 1; omega
 ·rw [if_neg c,if_pos (by omega)]
theorem OT {α β:Type}{R:α->β->Prop}{l:List α}{m:List β}(h:bI R l m):∀(i:Nat),bI R (l.eraseIdx i) (m.eraseIdx i):=by
 induction h with
 | nil=>intro i; exact .nil
 | cons x t b =>
  intro i;cases i with
  | zero=>exact t
  | succ i=>exact .cons x (b i)
theorem V.OU (i q off:Nat):V.shift i (.dH q off)=bif Nat.beq q i then .any else .dH (if i<q then q-1 else q) off:=by
 show (bif Nat.beq q i then V.any else bif Nat.blt i q then .dH (q-1) off else .dH q off)=_;cases c:Nat.blt i q
 ·rw [if_neg (fun h=>by rw [show Nat.blt i q=true by simpa [Nat.blt_eq] using h] at c; cases c)]; rfl
 ·rw [if_pos (by simpa [Nat.blt_eq] using c)]; rfl
theorem V.OV (i:Nat) (g:Bool) (q off:Nat):V.shift i (.g_ g q off)=bif Nat.beq q i then .any else .g_ g (if i<q then q-1 else q) off:=by
 show (bif Nat.beq q i then V.any else bif Nat.blt i q then .g_ g (q-1) off else .g_ g q off)=_;cases c:Nat.blt i q
 ·rw [if_neg (fun h=>by rw [show Nat.blt i q=true by simpa [Nat.blt_eq] using h] at c; cases c)]; rfl
 ·rw [if_pos (by simpa [Nat.blt_eq] using c)]; rfl
theorem bD.shift {j:J}{w:World}{jl:List Nat}{i:Nat}{v:V}{cv:Value}(h:bD j w jl v cv):bD j w (jl.eraseIdx i) (v.shift i) cv:=by
 cases v with
 | dH q off =>
  rw [V.OU];cases c1:Nat.beq q i
  ·obtain⟨b,f,e⟩:=h;exact⟨b,by rw [get_erase (Nat.ne_of_beq_eq_false c1)]; exact f,e⟩
  ·exact True.intro
 | g_ c q off =>
  rw [V.OV];cases c1:Nat.beq q i
  ·refine⟨fun hc=>?_,h.2⟩;obtain⟨b,f,e⟩:=h.1 hc;exact⟨b,by rw [get_erase (Nat.ne_of_beq_eq_false c1)]; exact f,e⟩
  ·exact True.intro
 | any=>exact True.intro
 | a x=>exact h
 | b_ xs=>exact h
 | gd c x=>exact h
 | full k rows=>exact h
 | rH c k rows=>exact h
 | sm c K=>exact h
 | pK K=>exact h
theorem cI.DN {fE:ez}{n:Nat}{ts:Ts}{ls:List (List D)}{h:ah}{xs:List D}(s i:Nat) (z:get ts s=.dH i 0) (hx:ls[i]?=some xs) :
  cI ⟨n,ts,ls,h⟩ ⟨n,(s,.a (.d (.view xs)))::rU i ts,ls.eraseIdx i,h⟩:=by
 intro j w jl a p;have g:=p.hl;obtain⟨b,m,B⟩:∃b,jl[i]?=some b/\a.tmps.getD s undef=.pointer (some ⟨b,0,none⟩):=by
  have:=p.tmps s;have this:bD j w jl (get ts s) (a.tmps.getD s undef):=this;rw [z] at this; exact this
 obtain⟨r,t,cs,O,v,C,E⟩:∃r,ls[i]?=some r/\k9 j w b r:=g.2.each.get' m;rw [hx] at t; simp only [Option.some.injEq] at t; subst t;have aJ:=iR v;have G:b∉jl.eraseIdx i:=by
  intro hm;obtain⟨k,H,q⟩:=List.getElem_of_mem hm;have h0:(jl.eraseIdx i)[k]?=some b:=by rw [List.getElem?_eq_getElem H,q]
  rw [List.getElem?_eraseIdx] at h0;have hi:i<jl.length:=(List.getElem?_eq_some_iff.1 m).1;by_cases c:k<i
  ·rw [if_pos c] at h0;have h2:=(List.getElem?_inj (by omega) g.2.nodup).1 (h0.trans m.symm);omega
  ·rw [if_neg c] at h0;have hk:k+1<jl.length:=(List.getElem?_eq_some_iff.1 h0).1;have h2:=(List.getElem?_inj hk g.2.nodup).1 (h0.trans m.symm);omega
 have y:∀x,x∈jl.eraseIdx i->x∈jl:=fun x hm=>List.mem_of_mem_eraseIdx hm;have I:∀x,aU j h (jl.eraseIdx i) x->aU j h jl x:=fun x l=>l.elim (fun hm=>.inl (y x hm)) .inr;have K:¬aU j h (jl.eraseIdx i) b:=by
  rintro (hm|⟨id,o,h1,h2⟩)
  ·exact G hm
  ·exact g.2.apart b (List.mem_of_getElem? m) (.inr ⟨id,o,h1,h2⟩)
 have L:HL j w (jl.eraseIdx i) (ls.eraseIdx i) h:=⟨g.1,⟨OT g.2.each i,g.2.nodup.eraseIdx i,fun x hm l=>g.2.apart x (y x hm) l⟩⟩;have hle:Le j w (j.eO b xs.length) w:=⟨Nat.le_refl _,fun _ _=>rfl,fun f=>by
  simp only [J.eO]
  split
  ·rename_i e; rw [e,E]; exact Nat.zero_le _
  ·exact Nat.le_refl _,fun _ _ _=>rfl,fun _ _=>.inl rfl,fun _ _ _ _ _ h=>h⟩
 have u:∀f,f≠b->(j.eO b xs.length).F f=j.F f:=fun f M=>by simp only [J.eO]; rw [if_neg M]
 have q:=L.keep hle (fun f l=>⟨rfl,u f (fun e=>K (e▸l))⟩) (fun _ _ _=>rfl) (fun f N=>by rw [u f (by omega)]; exact g.1.fresh f N);refine⟨j.eO b xs.length,jl.eraseIdx i,⟨p.defers,p.size,fun k=>?_,q.1⟩, ?_⟩
 ·by_cases e:s=k
  ·subst e;show bD _ _ _ (get ((s,_)::rU i ts) s) _;rw [gp,B];exact DE (n:=0) v (C.imp fun _ _ h=>h.mono hle) (by simp [J.eO])
  ·show bD _ _ _ (get ((s,_)::rU i ts) k) _;rw [ia _ _ e,It];have hv:bD j w jl (get ts k) (a.tmps.getD k undef):=p.tmps k;exact(hv.shift (i:=i)).mono hle (Ext.refl _)
 ·refine { toLe:=hle,size:=Nat.le_refl _,frame:=fun f _ l=>⟨rfl,u f fun e=>l (.inl (e▸List.mem_of_getElem? m))⟩,own:=fun f _ l=>I f ((q.2 f).1 l),os:=rfl,tape:=rfl,output:=fJ.rfl }
theorem ag.DN {fE:ez}{P:Program}{c:Code}{Q:Exit->St->Prop}{n:Nat}{ts:Ts}{ls:List (List D)}{h:ah}{xs:List D}(s i:Nat) (b:get ts s=.dH i 0) (hx:ls[i]?=some xs)
  (hw:ag P c Q ⟨n,(s,.a (.d (.view xs)))::rU i ts,ls.eraseIdx i,h⟩):ag P c Q ⟨n,ts,ls,h⟩:=ag.ua (cI.DN s i b hx) hw
theorem ag.OW {fE:ez}{P:Program}{Q:Exit->St->Prop}{n:Nat}{iT ts:Ts}{ls:List (List D)}{h:ah}{α:Type}{x y:Code}(_:fO iT ts) (over:α->Ts) (lo:α->List (List D)) (hh:α->ah) (pre:α->Prop)
  (hx:∀K:St->Prop,(∀b y,cI b ⟨n,over y++ts,lo y,hh y⟩->pre y->K b)->(∀b,ag P y Q b->K b)->ag P x (kw K Q) ⟨n,iT,ls,h⟩) (f:∀z,pre z->ag P y Q ⟨n,over z++ts,lo z,hh z⟩):ag P (.seq x y) Q ⟨n,iT,ls,h⟩:=by
 exact ag.seq (hx (ag P y Q) (fun b z h1 h2=>ag.ua h1 (f z h2)) fun b h=>h)
end Go.Ab
namespace Go.Ab
variable {ak:bP}
theorem nH.mono {P:Go.Program}{f:Go.FuncId}{args:List A}{h:ah}{cT b:V->ah->Prop}(hc:nH P f args h cT) (g:∀r h',cT r h'->b r h'):nH P f args h b :=
 ⟨hc.enter,fun j w cR hr k u=>(hc.runs j w cR hr k u).mono fun _ _ _ ⟨l,r,cv,j',h',e,p,rest⟩=>⟨l,r,cv,j',h',e,g r h' p,rest⟩⟩
theorem ga.ur {P:Go.Program}{M:St->Prop}{c Y:Go.Code}{n:Nat}{ts:Ts}{ls:List (List D)}{h h':ah}(e:h=h') (hw:ga P c Y M ⟨n,ts,ls,h'⟩):ga P c Y M ⟨n,ts,ls,h⟩:=by subst e; exact hw
end Go.Ab
/-
 Arrays that are built at once and then only read.
-/
namespace Go.Ab
open Go Go.RowKit
variable {ak:bP}
section
variable {P:Program}{T:List TI}{ts:Ts}{ls:List (List D)}{h:ah}{dst:Option Tmp}{ty:TypeId}{pos:String}{aD:Array Edge}{g:Option (Nat×Bool)}
end
end Go.Ab
/-
 Ranging over a set of strings: the map as it is,the iterator,its steps,delete.
-/
namespace Go.Ab
open Go Go.RowKit
variable {ak:bP}{fE:ez}
def mE (p:List (List UInt8×Nat)):List MapEntry:=p.map fun x=>⟨.string ⟨x.1.toArray⟩,.bool true,x.2⟩
structure nI (l:List (List UInt8)) (p:List (List UInt8×Nat)) (bu:Nat):Prop where
 keys:p.map (·.1)=l
 nodup:(p.map (·.2)).Nodup
 Ay:l.Nodup
 lt:∀x∈p,x.2<bu
 len:∀s∈l,s.length<=fD
theorem Iu {p:List (List UInt8×Nat)}(h:((mE p).map (·.key)).Nodup):(p.map (·.1)).Nodup:=by
 have:(mE p).map (·.key)=(p.map (·.1)).map fun s=>Value.string ⟨s.toArray⟩:=by simp [mE,Function.comp_def]
 rw [this] at h;rw [List.nodup_iff_pairwise_ne,List.pairwise_map] at h;rw [List.nodup_iff_pairwise_ne];exact h.imp fun b e=>b (by rw [e])
theorem nodup_keys {p:List (List UInt8×Nat)}(h:(p.map (·.1)).Nodup):((mE p).map (·.key)).Nodup:=by
 have:(mE p).map (·.key)=(p.map (·.1)).map fun s=>Value.string ⟨s.toArray⟩:=by simp [mE,Function.comp_def]
 rw [this];rw [List.nodup_iff_pairwise_ne] at h ⊢;rw [List.pairwise_map];exact h.imp fun b e=>b (by
  have e:=Value.string.inj e
  simpa using e)
theorem DO {j:J}{w:World}:∀{l:List (List UInt8)}{f:List MapEntry},bI (jE j w) (bg l) f->∃p,f=mE p/\p.map (·.1)=l/\∀s∈l,s.length<=fD
 | [],f,h=>by cases h; exact⟨[],rfl,rfl,fun _ h=>by cases h⟩
 | s::l,f,h=>by
  cases h with
  | @cons _ m _ f h t =>
   obtain⟨p,g,q,r⟩:=DO (l:=l) t;obtain⟨k,v,b⟩:=m;obtain⟨hk,hv⟩:=h;have hk:aF j w (.str s) k:=hk;have hv:aF j w (.bool true) v:=hv;cases hk with
   | str _ u =>
    cases hv;exact⟨(s,b)::p,by rw [g]; rfl,by simp [q],fun x hx=>(List.mem_cons.1 hx).elim (fun e=>e▸u) (r x)⟩
theorem DP {j:J}{w:World}:∀(p:List (List UInt8×Nat)),(∀x∈p,x.1.length<=fD)->bI (jE j w) (bg (p.map (·.1))) (mE p)
 | [],_=>.nil
 | x::p,h=>.cons ⟨aF.str _ (h x (.head _)),aF.bool _⟩ (DP p fun y b=>h y (.tail _ b))
theorem aU.mz {j:J}{h:ah}{c:Nat}{o o':Obj}(hc:h c=some o) (f:bQ j c o'=bQ j c o){jl:List Nat}{b:Nat}:aU j (h.set c (some o')) jl b↔aU j h jl b:=by
 constructor
 ·rintro (h1|⟨id,q,h1,h2⟩)
  ·exact .inl h1
  ·by_cases e:id=c
   ·subst e; rw [ah.cM] at h1; simp only [Option.some.injEq] at h1; subst h1;exact .inr ⟨id,_,hc,f▸h2⟩
   ·rw [ah.cD _ _ e] at h1; exact .inr ⟨id,q,h1,h2⟩
 ·rintro (h1|⟨id,q,h1,h2⟩)
  ·exact .inl h1
  ·by_cases e:id=c
   ·subst e; rw [hc] at h1; simp only [Option.some.injEq] at h1; subst h1;exact .inr ⟨id,_,ah.cM _ _ _,f.symm▸h2⟩
   ·exact .inr ⟨id,q,by rw [ah.cD _ _ e]; exact h1,h2⟩
theorem fI.mz {j:J}{w:World}{h:ah}{c:Nat}{o o':Obj}(hr:fI j w h) (hc:h c=some o) (g:bQ j c o'=bQ j c o) (k:gJ j w c o'):fI j w (h.set c (some o')):=by
 have key:∀id q,(h.set c (some o')) id=some q->∃f,h id=some f/\bQ j id q=bQ j id f:=by
  intro id q hq;by_cases e:id=c
  ·subst e; rw [ah.cM] at hq; simp only [Option.some.injEq] at hq; subst hq;exact⟨_,hc,g⟩
  ·rw [ah.cD _ _ e] at hq; exact⟨q,hq,rfl⟩
 refine⟨fun id q hq=>?_,fun jF o1 jG o2 b h1 h2 l m=>?_,hr.fresh⟩
 ·by_cases e:id=c
  ·subst e; rw [ah.cM] at hq; simp only [Option.some.injEq] at hq; subst hq;exact⟨(hr.obj _ _ hc).1,k⟩
  ·rw [ah.cD _ _ e] at hq; exact hr.obj _ _ hq
 ·obtain⟨u,p,r⟩:=key _ _ h1;obtain⟨v,s,t⟩:=key _ _ h2;exact hr.inj _ _ _ _ b p s (r▸l) (t▸m)
section
variable {P:Program}{c:Code}{Q:Exit->St->Prop}{n:Nat}{ts:Ts}{ls:List (List D)}{h:ah}
theorem ag.OX (id:Nat){l:List (List UInt8)}(hi:h id=some (.map (bg l))) (hw:∀b p bu,nI l p bu->ag P c Q ⟨n,ts,ls,h.set id (some (.d_ b (.map (mE p).toArray bu)))⟩):ag P c Q ⟨n,ts,ls,h⟩:=by
 intro j w jl a f;have hl:=f.hl;obtain⟨hn,b,q,v,bu,k,hg,ct,r,hB⟩:=hl.1.obj id _ hi;obtain⟨p,rfl,m,s⟩:=DO ct;have t:nI l p bu:=⟨m,by have:=hB.1; simpa [mE,Function.comp_def] using this,by rw [<- m]; exact Iu hB.2.2,fun x hx=>hB.2.1 _ (List.mem_map_of_mem hx),s⟩;have hblk:bQ j id (.d_ b (.map (mE p).toArray bu))=bQ j id (.map (bg l)):=by simp [bQ,k]
 refine wp_mono (hw b p bu t j w jl a ⟨f.defers,f.size,f.tmps,⟨hl.1.mz hi hblk ⟨q,k,hg,r⟩,⟨hl.2.each,hl.2.nodup,fun b u g=>hl.2.apart b u ((aU.mz hi hblk).1 g)⟩⟩⟩) fun e a w hq=>AQ.trans ?_ hq;exact { bT.refl j _ (aU j h jl) with own:=fun b _ g=>(aU.mz hi hblk).1 g }
theorem ag.OY (id:Nat){b bu:Nat}{p:List (List UInt8×Nat)}(hi:h id=some (.d_ b (.map (mE p).toArray bu))) (f:nI (p.map (·.1)) p bu) (hw:ag P c Q ⟨n,ts,ls,h.set id (some (.map (bg (p.map (·.1)))))⟩):ag P c Q ⟨n,ts,ls,h⟩:=by
 intro j w jl a g;have hl:=g.hl;obtain⟨hn,q,l,hg,r⟩:=hl.1.obj id _ hi;have hblk:bQ j id (.map (bg (p.map (·.1))))=bQ j id (.d_ b (.map (mE p).toArray bu)):=by simp [bQ,l]
 have hB:k8 (mE p) bu:=⟨by have:=f.nodup; simpa [mE,Function.comp_def] using this,(fun m hm=>by obtain⟨x,hx,rfl⟩:=List.mem_map.1 hm; exact f.lt x hx),nodup_keys f.Ay⟩;refine wp_mono (hw j w jl a ⟨g.defers,g.size,g.tmps,⟨hl.1.mz hi hblk ⟨b,q,_,bu,l,hg,DP p (fun x hx=>f.len _ (List.mem_map_of_mem hx)),r,hB⟩,⟨hl.2.each,hl.2.nodup,fun b s k=>hl.2.apart b s ((aU.mz hi hblk).1 k)⟩⟩⟩) fun e a w hq=>AQ.trans ?_ hq
 exact { bT.refl j _ (aU j h jl) with own:=fun b _ k=>(aU.mz hi hblk).1 k }
end
theorem HL.OZ {j:J}{w:World}{jl:List Nat}{ls:List (List D)}{h:ah}(hl:HL j w jl ls h){t k:Nat}(ht:h t=some (.tok k 0)) (go:Go.Obj) :
  HL (j.cH t ⟨some (w.heap.size,0),1⟩ w.heap.size 0) (w.alloc go) jl ls (h.set t (some (.d_ w.heap.size go))) /\
   bT j w (aU j h jl) (j.cH t ⟨some (w.heap.size,0),1⟩ w.heap.size 0) (w.alloc go) (aU (j.cH t ⟨some (w.heap.size,0),1⟩ w.heap.size 0) (h.set t (some (.d_ w.heap.size go))) jl) /\
   bD (j.cH t ⟨some (w.heap.size,0),1⟩ w.heap.size 0) (w.alloc go) jl (.a (.d (.jD t 1 0))) (.pointer (some ⟨w.heap.size,0,none⟩)):=by
 obtain⟨G,ek,M,hblk,_⟩:=hl.1.obj t _ ht;have H:j.F w.heap.size=0:=hl.1.fresh _ (Nat.le_refl _);have g:∀x,x<w.heap.size->(w.alloc go).heap[x]?=w.heap[x]?:=fun x hx=>pM hx;generalize l:j.cH t ⟨some (w.heap.size,0),1⟩ w.heap.size 0=j';have b:∀x,j'.F x=j.F x:=fun x=>by
  subst l; simp only [J.cH]; split
  ·rename_i c; rw [c,H]
  ·rfl
 have z:j'.next=j.next:=by subst l; rfl
 have B:j'.tok t=some ⟨some (w.heap.size,0),1⟩:=by subst l; simp [J.cH]
 have I:∀x,x≠t->j'.tok x=j.tok x:=fun x hx=>by subst l; simp [J.cH,hx]
 have hle:Le j w j' (w.alloc go):=by
  refine⟨by rw [z]; exact Nat.le_refl _,fun _ _=>by subst l; rfl,fun x=>by rw [b]; exact Nat.le_refl _,fun x o m=>?_,fun x hx=>?_,zZ hl.1.fresh fun x hx _=>g x hx⟩
  ·refine tT (g x ?_);rcases Nat.lt_or_ge x w.heap.size with h1|h1
   ·exact h1
   ·rw [hl.1.fresh x h1] at m; omega
  ·by_cases c:x=t
   ·subst c; exact .inr ⟨_,_,M,B,Nat.zero_lt_one⟩
   ·exact .inl (I x c)
 have C:∀n q x,h n=some q->bQ j n q=some x->x<w.heap.size:=fun n q x hn hx=>aU.lt hl (.inr ⟨n,q,hn,hx⟩);have K:∀x,x∈jl->x<w.heap.size:=fun x hx=>aU.lt hl (.inl hx);have f:∀n q,h n=some q->n≠t->gJ j' (w.alloc go) n q/\bQ j' n q=bQ j n q:=fun n q hn N =>
  (hl.1.obj n q hn).2.keep hle (hl.1.obj n q hn).1 (fun x hx=>⟨g x (C n q x hn hx),b x⟩) (fun _=>I n N)
 have E:bQ j' t (.d_ w.heap.size go)=some w.heap.size:=rfl;have L:∀jl x,aU j' (h.set t (some (.d_ w.heap.size go))) jl x->x=w.heap.size\/aU j h jl x:=by
  rintro jl x (hx|⟨n,q,hn,hx⟩)
  ·exact .inr (.inl hx)
  ·by_cases c:n=t
   ·subst c; rw [ah.cM] at hn; simp only [Option.some.injEq] at hn; subst hn;rw [E] at hx; simp only [Option.some.injEq] at hx; exact .inl hx.symm
   ·rw [ah.cD h _ c] at hn;exact .inr (.inr ⟨n,q,hn,(f n q hn c).2▸hx⟩)
 refine⟨⟨⟨fun n q hn=>?_,fun p s r u x h1 h2 v y=>?_,fun x hx=>?_⟩,
  ⟨ny hl.2.each fun xs x hx h=>h.keep hle ⟨g x (K x hx),b x⟩,hl.2.nodup,fun x hx m=>?_⟩⟩, ?_, ?_⟩
 ·rw [z];by_cases c:n=t
  ·subst c; rw [ah.cM] at hn; simp only [Option.some.injEq] at hn; subst hn;exact⟨G,0,B,heap_alloc_new w _,by rw [b]; exact H⟩
  ·rw [ah.cD h _ c] at hn;exact⟨(hl.1.obj n q hn).1,(f n q hn c).1⟩
 ·by_cases c1:p=t<;>by_cases c2:r=t
  ·omega
  ·subst c1; rw [ah.cM] at h1; simp only [Option.some.injEq] at h1; subst h1;rw [ah.cD h _ c2] at h2;rw [E] at v; simp only [Option.some.injEq] at v;have:=C r u x h2 ((f r u h2 c2).2▸y); omega
  ·subst c2; rw [ah.cM] at h2; simp only [Option.some.injEq] at h2; subst h2;rw [ah.cD h _ c1] at h1;rw [E] at y; simp only [Option.some.injEq] at y;have:=C p s x h1 ((f p s h1 c1).2▸v); omega
  ·rw [ah.cD h _ c1] at h1; rw [ah.cD h _ c2] at h2;exact hl.1.inj p s r u x h1 h2 ((f p s h1 c1).2▸v) ((f r u h2 c2).2▸y)
 ·rw [b];simp only [World.size_alloc] at hx;exact hl.1.fresh x (by omega)
 ·rcases L [] x m with c|c
  ·have:=K x hx; omega
  ·exact hl.2.apart x hx c
 ·refine { toLe:=hle,size:=(by simp),frame:=fun x hx hn=>⟨g x hx,b x⟩,own:=fun x hx m=>?_,os:=rfl,tape:=rfl,output:=fJ.rfl };rcases L jl x m with c|c
  ·omega
  ·exact c
 ·show aF j' (w.alloc go) (.jD t 1 0) (.pointer (some ⟨w.heap.size,0,none⟩));refine .jD t 1 0 w.heap.size (by rw [z]; exact G) fun tk hk=>?_;rw [B] at hk;obtain rfl:=Option.some.inj hk;exact⟨Nat.le_refl _,fun _=>⟨0,rfl⟩⟩
theorem Iv {j:J}{w:World}{jl:List Nat}{id b:Nat}{o:Go.Obj}{cv:Value}(g:gJ j w id (.d_ b o)) (h:bD j w jl (.a (.d (.map id))) cv):cv=.map (some b)/\w.heap[b]?=some o/\j.F b=0:=by
 have h':aF j w (.map id) cv:=h;obtain⟨c,h1,h2,k⟩:=g;cases h' with
 | map _ m hi hv =>
  obtain⟨_,l⟩:=hv _ h1;obtain⟨c',f⟩:=l rfl;simp only [Option.some.injEq,Prod.mk.injEq] at f;obtain⟨rfl,rfl⟩:=f;exact⟨rfl,h2,k⟩
theorem Iw {j:J}{w:World}{jl:List Nat}{id b:Nat}{o:Go.Obj}{cv:Value}(g:gJ j w id (.d_ b o)) (h:bD j w jl (.a (.d (.jD id 1 0))) cv):cv=.pointer (some ⟨b,0,none⟩)/\w.heap[b]?=some o/\j.F b=0:=by
 have h':aF j w (.jD id 1 0) cv:=h;obtain⟨c,h1,h2,k⟩:=g;cases h' with
 | jD _ _ _ m hi hv =>
  obtain⟨_,l⟩:=hv _ h1;obtain⟨c',f⟩:=l rfl;simp only [Option.some.injEq,Prod.mk.injEq] at f;obtain⟨rfl,rfl⟩:=f;exact⟨rfl,h2,k⟩
section
variable {P:Program}{ts:Ts}{ls:List (List D)}{h:ah}{dst:Option Tmp}{ty:TypeId}{pos:String}{aD:Array Edge}{g:Option (Nat×Bool)}
theorem dA.O3 {t f l:TypeId}{m:TI}{x:Operand}{id b bu:Nat}{es:Array MapEntry}(p:bn P t=some m) (hk:m.k=.map f l) (hx:ev ts x=.a (.d (.map id))) (hm:h id=some (.d_ b (.map es bu))) :
  dA P (mk dst (.range t x) ty pos aD g) ts ls h fun v aS h'=>∃it r,h it=none/\v=.a (.d (.jD it 1 0))/\aS=ls/\h'=h.set it (some (.d_ r (.mapIter (some b) bu #[] bu))):=by
 intro j w jl a hl q K Q s;have h1:=q x (by simp [Op.operands]);rw [hx] at h1;obtain⟨e,hg,_⟩:=Iv (hl.1.obj id _ hm).2 h1;have hr:(execOp a.eval (mk dst (.range t x) ty pos aD g)).run P w=.ok (.value (.pointer (some ⟨w.heap.size,0,none⟩))) (w.alloc (.mapIter (some b) bu #[] bu)):=by
  simp [execOp,e,run_range_map w t f l b es bu (lg p hk) hg,Result.andThen]
 obtain⟨h1,h2⟩:=hl.eM 0;obtain⟨u,y,z⟩:=h1.OZ (ah.cM _ _ _) (.mapIter (some b) bu #[] bu);unfold Oper.wp;rw [hr,Oper.upon_value];exact s _ _ _ _ _ _ jl ⟨j.next,w.heap.size,hl.1.pN (Nat.le_refl _),rfl,rfl,(ah.set_set _ _ _ _)⟩ z u (Ext.refl _) (h2.trans y)
def dS (p:List (List UInt8×Nat)) (seen:Array Nat):List (List UInt8×Nat):=p.filter fun x=>!seen.contains x.2
theorem Ix (p:List (List UInt8×Nat)) (seen:Array Nat):(mE p).toArray.filter (fun e=>!seen.contains e.born)=(mE (dS p seen)).toArray:=by
 apply Array.toList_inj.1
 simp [mE,dS,List.filter_map,Function.comp_def]
theorem dA.O4 {it id b r bu:Nat}{x:Operand}{p:List (List UInt8×Nat)}{seen:Array Nat}(hx:ev ts x=.a (.d (.jD it 1 0))) (hit:h it=some (.d_ r (.mapIter (some b) bu seen bu))) (hm:h id=some (.d_ b (.map (mE p).toArray bu))) (aJ:∀x∈p,x.2<bu) (hlen:∀x∈p,x.1.length<=fD) :
  dA P (mk dst (.next x false) ty pos aD g) ts ls h fun v aS h'=>aS=ls/\((dS p seen=[]/\v=.b_ [.d (.bool false)]/\h'=h) \/
   ∃s n,(s,n)∈dS p seen/\v=.b_ [.d (.bool true),.d (.str s),.d (.bool true)]/\h'=h.set it (some (.d_ r (.mapIter (some b) bu (seen.push n) bu)))):=by
 intro j w jl a hl L K Q t;have h1:=L x (by simp [Op.operands]);rw [hx] at h1;obtain⟨e,hg,u⟩:=Iw (hl.1.obj it _ hit).2 h1;have B:w.heap[b]?=some (.map (mE p).toArray bu):=by obtain⟨_,_,_,h2,_⟩:=hl.1.obj id _ hm; exact h2
 have hold:∀x∈(mE p).toArray.toList,x.born<bu:=fun y f=>by
  have f:y∈mE p:=by simpa using f
  obtain⟨z,hz,rfl⟩:=List.mem_map.1 f;exact aJ z hz
 have l:∀y∈dS p seen,y∈p:=fun y f=>(List.mem_filter.1 f).1;have C:(mE (dS p seen)).toArray.filter (fun x=>decide (x.born<bu))=(mE (dS p seen)).toArray:=Array.filter_eq_self.2 (fun y f=>by
  have f:y∈mE (dS p seen):=by simpa using f
  obtain⟨z,hz,rfl⟩:=List.mem_map.1 f
  simpa using aJ z (l z hz))
 have E:(mE (dS p seen)).toArray.filter (fun x=>decide (x.born>=bu))=#[]:=by
  rw [Array.filter_eq_empty_iff];intro y f;have f:y∈mE (dS p seen):=by simpa using f
  obtain⟨z,hz,rfl⟩:=List.mem_map.1 f;have:=aJ z (l z hz);simp;omega
 by_cases h0:dS p seen=[]
 ·have hr:(execOp a.eval (mk dst (.next x false) ty pos aD g)).run P w=.ok (.value (.tuple #[.bool false])) w:=by
   simp only [execOp,e,Instr.next,getObj,Sem.run_bind,Sem.run,hg,B,Result.andThen,next_test_false seen _ bu bu hold (Nat.le_refl _),Bool.false_eq_true,if_false,Ix,C,E,Array.append_empty,h0];simp [mE,choose,Sem.run,Question.forced,Result.andThen]
  unfold Oper.wp;rw [hr,Oper.upon_value];exact t _ _ _ _ _ _ jl ⟨rfl,.inl ⟨h0,rfl,rfl⟩⟩ ⟨[.bool false],rfl,.cons (aF.bool _) .nil⟩ hl (Ext.refl _) (bT.refl _ _ _)
 ·obtain⟨i,k,hi,F,M⟩:∃(i:Nat) (k:World),i<(dS p seen).length/\(k=w\/k=w.drew)/\(choose (Question.mapNext (dS p seen).length)).run P w=.ok i k:=by
   by_cases G:(dS p seen).length<=1
   ·exact⟨0,w,by have:=List.length_pos_iff.2 h0; omega,.inl rfl,by simp [choose,Sem.run,Question.forced,G]⟩
   ·exact⟨_,w.drew,Nat.mod_lt _ (by omega),.inr rfl,by
     simp only [choose,Sem.run,Question.forced,decide_eq_true_eq,G,if_false,Question.cut];rfl⟩
  have m:HL j k jl ls h/\bT j w (aU j h jl) j k (aU j h jl):=by
   rcases F with rfl|rfl
   ·exact⟨hl,bT.refl _ _ _⟩
   ·exact⟨hl.drew,bT.drew _ _ _⟩
  have H:k.heap[r]?=some (.mapIter (some b) bu seen bu):=by rcases F with rfl|rfl<;>exact hg
  have hr:(execOp a.eval (mk dst (.next x false) ty pos aD g)).run P w=.ok (.value (.tuple #[.bool true,.string ⟨(dS p seen)[i].1.toArray⟩,.bool true])) { k with heap:=k.heap.setIfInBounds r (.mapIter (some b) bu (seen.push (dS p seen)[i].2) bu) }:=by
   have N:(mE (dS p seen)).toArray.isEmpty=false:=by
    cases hq:dS p seen with
    | nil=>exact absurd hq h0
    | cons y q=>rfl
   have O:((#[]:Array (Option MapEntry))++Array.map some (mE (dS p seen)).toArray).size=(dS p seen).length:=by simp [mE]
   simp only [execOp,e,Instr.next,getObj,Sem.run_bind,Sem.run,hg,B,Result.andThen,next_test_false seen _ bu bu hold (Nat.le_refl _),Bool.false_eq_true,if_false,Ix,C,E,Array.append_empty,N,O,M];simp [mE,hi,setObj,Sem.run,H,Result.andThen]
  have I:((dS p seen)[i].1,(dS p seen)[i].2)∈dS p seen:=List.getElem_mem hi;have J:=fW.setObj (ak:=ak) (o':=.mapIter (some b) bu (seen.push (dS p seen)[i].2) bu) H;obtain⟨hn,c,R,_,_⟩:=m.1.1.obj it _ hit;obtain⟨S,U⟩:=m.1.setObj (o':=.d_ r (.mapIter (some b) bu (seen.push (dS p seen)[i].2) bu)) hit rfl rfl u J ⟨c,R,J.here,u⟩;unfold Oper.wp;rw [hr,Oper.upon_value]
  exact t _ _ _ _ _ _ jl ⟨rfl,.inr ⟨_,_,I,rfl,rfl⟩⟩ ⟨[.bool true,_,.bool true],rfl,.cons (aF.bool _) (.cons (aF.str _ (hlen _ (l _ I))) (.cons (aF.bool _) .nil))⟩ S (Ext.refl _) (m.2.trans U)
end
def gM (p:List (List UInt8×Nat)) (s:List UInt8):List (List UInt8×Nat):=p.eraseP fun x=>s==x.1
theorem xy (s:List UInt8):∀p:List (List UInt8×Nat),(gM p s).map (·.1)=(p.map (·.1)).erase s
 | []=>rfl
 | x::p=>by
  unfold gM;rw [List.eraseP_cons,List.map_cons,List.erase_cons];rw [show (x.1==s)=(s==x.1) from Bool.beq_comm];cases s==x.1
  ·exact congrArg (x.1::·) (xy s p)
  ·rfl
theorem DQ (p:List (List UInt8×Nat)) (s:List UInt8):(gM p s).Sublist p:=List.eraseP_sublist
theorem nI.del {l:List (List UInt8)}{p:List (List UInt8×Nat)}{bu:Nat}(h:nI l p bu) (s:List UInt8):nI (l.erase s) (gM p s) bu :=
 ⟨by rw [xy,h.keys],h.nodup.sublist ((DQ p s).map _),h.Ay.erase s,fun x hx=>h.lt x ((DQ p s).subset hx),fun x hx=>h.len x (List.erase_subset hx)⟩
theorem Iy {d:TypeDesc}{s:List UInt8}(hd:iy (fZ d) (.str s)=true) (b:s.length<=fD):∀(p:List (List UInt8×Nat)) (n:Nat),(∀x∈p,x.1.length<=fD) ->
  (Instr.findNow d (.string ⟨s.toArray⟩) (mE p) n=some none/\gM p s=p)\/∃i,Instr.findNow d (.string ⟨s.toArray⟩) (mE p) n=some (some (n+i,.bool true))/\i<p.length/\gM p s=p.eraseIdx i
 | [],n,_=>.inl ⟨rfl,rfl⟩
 | x::p,n,h=>by
  have hn:=xk (j:=⟨fun _=>0,fun _=>0,fun _=>none,0⟩) (w:=default) hd (aF.str s b) (aF.str x.1 (h x (.head _))) rfl;unfold gM;rw [List.eraseP_cons];show (Instr.findNow d _ (⟨.string ⟨x.1.toArray⟩,.bool true,x.2⟩::mE p) n=_/\_)\/∃i,Instr.findNow d _ (⟨.string ⟨x.1.toArray⟩,.bool true,x.2⟩::mE p) n=_/\_;simp only [Instr.findNow,hn];cases s==x.1
  ·rcases Iy hd b p (n+1) (fun y f=>h y (.tail _ f)) with ⟨h1,h2⟩|⟨i,h1,h2,g⟩
   ·exact .inl ⟨h1,congrArg (x::·) h2⟩
   ·exact .inr ⟨i+1,by rw [h1,show n+1+i=n+(i+1) by omega],by simp only [List.length_cons]; omega,congrArg (x::·) g⟩
  ·exact .inr ⟨0,rfl,by simp,rfl⟩
theorem Iz:∀(p:List (List UInt8×Nat)) (i:Nat),mE (p.eraseIdx i)=(mE p).eraseIdx i
 | [],_=>rfl
 | _::_,0=>rfl
 | x::p,i+1=>congrArg ((⟨.string ⟨x.1.toArray⟩,.bool true,x.2⟩:MapEntry)::·) (Iz p i)
theorem IA {P:Program}{w:World}{b bu:Nat}{t f y ty:TypeId}{m q:TI}{cn:Array TypeId}{p:List (List UInt8×Nat)}{s:List UInt8}(r:bn P t=some m) (hk:m.k=.map f y) (z:bn P f=some q) (g:iy q.k (.str s)=true) (bZ:cn[0]?=some t)
  (hg:w.heap[b]?=some (.map (mE p).toArray bu)) (u:s.length<=fD) (B:∀x∈p,x.1.length<=fD) :
  (Builtin.delete_ cn ty #[.map (some b),.string ⟨s.toArray⟩]).run P w=.ok (.tuple #[]) { w with heap:=w.heap.setIfInBounds b (.map (mE (gM p s)).toArray bu) }:=by
 obtain⟨F,G,_,l,_,_,C,_⟩:=gr z;rw [<- C] at g;have v:∀e,(Instr.checkKey e 10000 f (.string ⟨s.toArray⟩)).run P w=.ok () w:=fun e=>xl (j:=⟨fun _=>0,fun _=>0,fun _=>none,0⟩) (w0:=default) l g (aF.str s u);rcases Iy g u p 0 B with ⟨h1,h2⟩|⟨i,h1,h2,E⟩
 ·simp [Builtin.delete_,bZ,dz (lg r hk),lm hg,v,Instr.findKey,dz l,h1,h2,setObj,Sem.run,hg,Result.andThen]
 ·rw [Nat.zero_add] at h1;have hl:i<(mE p).length:=by simpa [mE] using h2
  simp [Builtin.delete_,bZ,dz (lg r hk),lm hg,v,Instr.findKey,dz l,h1,E,Iz,setObj,Sem.run,hg,Result.andThen,Array.eraseIdxIfInBounds,hl]
section
variable {P:Program}{ts:Ts}{ls:List (List D)}{h:ah}{dst:Option Tmp}{ty:TypeId}{pos:String}{aD:Array Edge}{g:Option (Nat×Bool)}
theorem aq.O5 {t f v:TypeId}{l m:TI}{x y:Operand}{cn:Array TypeId}{id b bu:Nat}{p:List (List UInt8×Nat)}{s:List UInt8}(z:bn P t=some l) (hk:l.k=.map f v) (B:bn P f=some m) (C:iy m.k (.str s)=true) (bZ:cn[0]?=some t)
  (hx:ev ts x=.a (.d (.map id))) (E:ev ts y=.a (.d (.str s))) (hm:h id=some (.d_ b (.map (mE p).toArray bu))) (F:∀x∈p,x.1.length<=fD) :
  aq P (mk dst (.call { callee:=.builtin .delete,args:=#[x,y],argTypes:=cn }) ty pos aD g) ts ls h { rh:=true,wh:=true } (.b_ []) ls (h.set id (some (.d_ b (.map (mE (gM p s)).toArray bu)))):=by
 refine aq.of_run fun L H _ hH j w jl a hl q=>?_;have G:=hH rfl;subst G;have h1:=q x (by simp [Op.operands,Call.operands]);have h2:=q y (by simp [Op.operands,Call.operands]);rw [hx] at h1; rw [E] at h2;obtain⟨e,hg,r⟩:=Iv (hl.1.obj id _ hm).2 h1;obtain⟨hn,c,I,_,_⟩:=hl.1.obj id _ hm;have h2:aF j w (.str s) (a.eval y):=h2;generalize hv:a.eval y=N at h2;cases h2 with
 | str _ J =>
  have hr:=IA (ty:=ty) z hk B C bZ hg J F;have u:=fW.setObj (ak:=ak) (o':=.map (mE (gM p s)).toArray bu) hg;obtain⟨K,M⟩:=hl.setObj (o':=.d_ b (.map (mE (gM p s)).toArray bu)) hm rfl rfl r u ⟨c,I,u.here,r⟩;exact⟨.value (.tuple #[]),_,_,j,jl,by simp [execOp,resolve,invoke,builtin,e,hv,hr,Result.andThen],.inl rfl,⟨[],rfl,.nil⟩,K,Ext.refl _,M⟩
theorem aq.O6 {t r F:TypeId}{u v:TI}{x y:Operand}{cn:Array TypeId}{id:Nat}{l:List (List UInt8)}{s:List UInt8}(G:bn P t=some u) (hk:u.k=.map r F) (I:bn P r=some v) (J:iy v.k (.str s)=true) (bZ:cn[0]?=some t)
  (hx:ev ts x=.a (.d (.map id))) (K:ev ts y=.a (.d (.str s))) (hm:h id=some (.map (bg l))) :
  aq P (mk dst (.call { callee:=.builtin .delete,args:=#[x,y],argTypes:=cn }) ty pos aD g) ts ls h { rh:=true,wh:=true } (.b_ []) ls (h.set id (some (.map (bg (l.erase s))))):=by
 refine aq.of_run fun L H _ hH j w jl a hl z=>?_;have M:=hH rfl;subst M;have h1:=z x (by simp [Op.operands,Call.operands]);have h2:=z y (by simp [Op.operands,Call.operands]);rw [hx] at h1; rw [K] at h2;obtain⟨b,e,c,X,bu,f,hg,ct,B,hB⟩:=uh (hl.1.obj id _ hm).2 h1;obtain⟨p,rfl,q,C⟩:=DO ct;have N:nI l p bu:=⟨q,by have:=hB.1; simpa [mE,Function.comp_def] using this,by rw [<- q]; exact Iu hB.2.2,fun x hx=>hB.2.1 _ (List.mem_map_of_mem hx),C⟩
 have O:∀x∈p,x.1.length<=fD:=fun x hx=>C _ (q▸List.mem_map_of_mem hx);have h2:aF j w (.str s) (a.eval y):=h2;generalize hv:a.eval y=Y at h2;cases h2 with
 | str _ Q =>
  have hr:=IA (ty:=ty) G hk I J bZ hg Q O;have E:=fW.setObj (ak:=ak) (o':=.map (mE (gM p s)).toArray bu) hg;have hq:=N.del s;have R:bI (jE j { w with heap:=w.heap.setIfInBounds b (.map (mE (gM p s)).toArray bu) }) (bg (l.erase s)) (mE (gM p s)):=by
   rw [<- hq.keys]; exact DP _ fun x hx=>hq.len _ (hq.keys▸List.mem_map_of_mem hx)
  have S:k8 (mE (gM p s)) bu:=⟨by have:=hq.nodup; simpa [mE,Function.comp_def] using this,(fun m hm=>by obtain⟨x,hx,rfl⟩:=List.mem_map.1 hm; exact hq.lt x hx),nodup_keys (by rw [hq.keys]; exact hq.Ay)⟩;obtain⟨U,W⟩:=hl.setObj (o':=.map (bg (l.erase s))) hm (by simp [bQ,f]) (by simp [bQ,f]) B E ⟨b,c,_,bu,f,E.here,R,B,S⟩;exact⟨.value (.tuple #[]),_,_,j,jl,by simp [execOp,resolve,invoke,builtin,e,hv,hr,Result.andThen],.inl rfl,⟨[],rfl,.nil⟩,U,Ext.refl _,W⟩
end
def uu (f:List UInt8->Option Bool):List (List UInt8)->Option (List (List UInt8))
 | []=>some []
 | s::l=>(f s).bind fun b=>(uu f l).bind fun r=>some (bif b then s::r else r)
theorem IB {f:List UInt8->Option Bool}:∀{l r:List (List UInt8)},uu f l=some r->(∀s∈l,∃b,f s=some b)/\r=l.filter fun s=>f s==some true
 | [],r,h=>by cases h; exact⟨(fun _ h=>by cases h),rfl⟩
 | s::l,r,h=>by
  obtain⟨b,h1,h⟩:=Option.bind_eq_some_iff.1 h;obtain⟨q,h2,h⟩:=Option.bind_eq_some_iff.1 h;obtain⟨g,j⟩:=IB h2;cases h;refine⟨fun x hx=>?_, ?_⟩
  ·rcases List.mem_cons.1 hx with rfl|hx
   ·exact⟨b,h1⟩
   ·exact g x hx
  ·rw [List.filter_cons,h1,<- j];cases b<;>rfl
theorem DR {α β:Type}{f:α->β}:∀{l:List α},(l.map f).Nodup->∀{x y:α},x∈l->y∈l->f x=f y->x=y
 | [],_,_,_,h,_,_=>by cases h
 | a::l,hn,x,y,hx,g,e=>by
  rw [List.map_cons,List.nodup_cons] at hn;rcases List.mem_cons.1 hx with rfl|j
  ·rcases List.mem_cons.1 g with rfl|b
   ·rfl
   ·exact absurd (List.mem_map.2 ⟨y,b,e.symm⟩) hn.1
  ·rcases List.mem_cons.1 g with rfl|b
   ·exact absurd (List.mem_map.2 ⟨x,j,e⟩) hn.1
   ·exact DR hn.2 j b e
structure kC (f:List UInt8->Option Bool) (r:List (List UInt8)) (bu:Nat) (z:List (List UInt8×Nat)×Array Nat):Prop where
 pop:nI (z.1.map (·.1)) z.1 bu
 told:∀x∈z.1,∃b,f x.1=some b
 seen:∀x∈z.1,z.2.contains x.2=true->f x.1=some true
 rest:(z.1.map (·.1)).filter (fun s=>f s==some true)=r
section
variable {f:List UInt8->Option Bool}{r:List (List UInt8)}{bu:Nat}{p:List (List UInt8×Nat)}{seen:Array Nat}{s:List UInt8}{n:Nat}
theorem kC.start {l:List (List UInt8)}(h:uu f l=some r) (b:nI l p bu):kC f r bu (p,#[]):=by
 obtain⟨h1,h2⟩:=IB h;refine⟨by rw [b.keys]; exact b,fun x hx=>h1 _ (by rw [<- b.keys]; exact List.mem_map_of_mem hx),fun x _ hx=>by simp at hx,by rw [b.keys]; exact h2.symm⟩
theorem xz {x:List UInt8×Nat}(h:x∈dS p seen):x∈p/\seen.contains x.2=false:=by
 obtain⟨h1,h2⟩:=List.mem_filter.1 h;exact⟨h1,by simpa using h2⟩
theorem IC (hx:(s,n)∈dS p seen):(dS p (seen.push n)).length<(dS p seen).length:=by
 have e:dS p (seen.push n)=(dS p seen).filter fun x=>!(x.2==n):=by
  unfold dS;rw [List.filter_filter];refine List.filter_congr fun x _=>?_;rw [show (seen.push n).contains x.2=(seen.contains x.2||x.2==n) by
   rw [Bool.eq_iff_iff];simp [Array.contains_eq_mem]]
  cases seen.contains x.2<;>simp
 rw [e];refine List.length_filter_lt_length_iff_exists.2 ⟨_,hx,by simp⟩
theorem contains_push {x:Nat}(h:(seen.push n).contains x=true):seen.contains x=true\/x=n:=by
 simpa [Array.contains_eq_mem] using h
theorem kC.keep (h:kC f r bu (p,seen)) (hx:(s,n)∈dS p seen) (g:f s=some true):kC f r bu (p,seen.push n)/\(dS p (seen.push n)).length<(dS p seen).length:=by
 obtain⟨hm,-⟩:=xz hx;refine⟨⟨h.pop,h.told,fun x b hc=>?_,h.rest⟩,IC hx⟩;rcases contains_push hc with hc|hc
 ·exact h.seen x b hc
 ·rw [DR h.pop.nodup b hm hc]; exact g
theorem kC.drop (h:kC f r bu (p,seen)) (hx:(s,n)∈dS p seen) (j:f s=some false):kC f r bu (gM p s,seen.push n)/\(dS (gM p s) (seen.push n)).length<(dS p seen).length:=by
 obtain⟨hm,-⟩:=xz hx;have hu:(p.map (·.1)).Nodup:=h.pop.Ay;have g:=DQ p s;have k:=h.pop.del s;refine⟨⟨by rw [xy]; exact k,fun x b=>h.told x (g.subset b),fun x b hc=>?_, ?_⟩, ?_⟩
 ·rcases contains_push hc with hc|hc
  ·exact h.seen x (g.subset b) hc
  ·have e:=DR h.pop.nodup (g.subset b) hm hc;have h1:s∈(gM p s).map (·.1):=List.mem_map.2 ⟨x,b,by rw [e]⟩;rw [xy,hu.mem_erase_iff] at h1;exact absurd rfl h1.1
 ·show ((gM p s).map (·.1)).filter _=r;rw [xy,hu.erase_eq_filter,List.filter_filter,<- h.rest];refine List.filter_congr fun x _=>?_;by_cases e:x=s
  ·subst e; rw [j]; simp
  ·simp [e]
 ·exact Nat.lt_of_le_of_lt ((g.filter _).length_le) (IC hx)
theorem kC.done (h:kC f r bu (p,seen)) (hx:dS p seen=[]):p.map (·.1)=r:=by
 have ct:∀x∈p,f x.1=some true:=fun x hm=>h.seen x hm (by
  have:x∉dS p seen:=by rw [hx]; simp
  cases hc:seen.contains x.2
  ·exact absurd (List.mem_filter.2 ⟨hm,by rw [hc]; rfl⟩) this
  ·rfl)
 rw [<- h.rest];refine(List.filter_eq_self.2 fun s b=>?_).symm;obtain⟨x,hm,rfl⟩:=List.mem_map.1 b;rw [ct x hm]; rfl
end
theorem find_born {s:List UInt8}{n:Nat}:∀{p:List (List UInt8×Nat)},(p.map (·.2)).Nodup->(s,n)∈p->(mE p).find? (fun e=>e.born==n)=some ⟨.string ⟨s.toArray⟩,.bool true,n⟩
 | [],_,h=>by cases h
 | x::p,hn,h=>by
  rw [List.map_cons,List.nodup_cons] at hn;show (⟨.string ⟨x.1.toArray⟩,.bool true,x.2⟩::mE p:List MapEntry).find? _=_;rw [List.find?_cons];rcases List.mem_cons.1 h with e|h
  ·subst e; simp
  ·have b:x.2≠n:=fun e=>hn.1 (List.mem_map.2 ⟨(s,n),h,e.symm⟩);rw [show ((⟨.string ⟨x.1.toArray⟩,.bool true,x.2⟩:MapEntry).born==n)=false by simpa using b];exact find_born hn.2 h
section
variable {P:Program}{ts:Ts}{ls:List (List D)}{h:ah}{dst:Option Tmp}{ty:TypeId}{pos:String}{aD:Array Edge}{g:Option (Nat×Bool)}
theorem aq.O7 {it id b r bu n:Nat}{x:Operand}{p:List (List UInt8×Nat)}{seen:Array Nat}{s:List UInt8}(hx:ev ts x=.a (.d (.jD it 1 0))) (hit:h it=some (.d_ r (.mapIter (some b) bu (seen.push n) bu))) (hm:h id=some (.d_ b (.map (mE p).toArray bu))) (f:(s,n)∈p) (k:(p.map (·.2)).Nodup) (l:s.length<=fD) :
  aq P (mk dst (.entry x) ty pos aD g) ts ls h { rh:=true } (.b_ [.d (.str s),.d (.bool true)]) ls h :=
 mo.pQ ⟨rfl,rfl,fun L H _ hH j w jl a hl m=>by
  have h1:=m x (by simp [Op.operands]);rw [hx] at h1;rw [hH rfl] at hl;obtain⟨e,hg,_⟩:=Iw (hl.1.obj it _ hit).2 h1;have q:w.heap[b]?=some (.map (mE p).toArray bu):=by obtain⟨_,_,_,h2,_⟩:=hl.1.obj id _ hm; exact h2
  have t:(mE p).toArray.find? (fun e=>e.born==n)=some ⟨.string ⟨s.toArray⟩,.bool true,n⟩:=by
   rw [List.find?_toArray]; exact find_born k f
  exact⟨.tuple #[.string ⟨s.toArray⟩,.bool true],by simp [execOp,e,Instr.entry,getObj,Sem.run_bind,Sem.run,hg,q,Result.andThen,t],[.string ⟨s.toArray⟩,.bool true],rfl,.cons (aF.str s l) (.cons (aF.bool _) .nil)⟩⟩
end
end Go.Ab
/-
 Calls that only lay new blocks. No program text.
-/
namespace Go.Ab
open Go Go.RowKit Go.Sort
variable {ak:bP}
theorem HL.grown {j:J}{w:World}{jl:List Nat}{ls:List (List D)}{h:ah}(hl:HL j w jl ls h) (n:Nat) (os:Array Go.Obj):HL j (Sort.grow (Sort.ahead w n) os) jl ls h/\bT j w (aU j h jl) j (Sort.grow (Sort.ahead w n) os) (aU j h jl):=by
 have f:∀b,b<w.heap.size->(Sort.grow (Sort.ahead w n) os).heap[b]?=w.heap[b]?:=fun b f=>heap_grow_old _ _ f;have hle:Le j w j (Sort.grow (Sort.ahead w n) os):=⟨Nat.le_refl _,fun _ _=>rfl,fun _=>Nat.le_refl _,fun b o g=>tT (f b (by
  rcases Nat.lt_or_ge b w.heap.size with h|h
  ·exact h
  ·rw [hl.1.fresh b h] at g; omega)),fun _ _=>.inl rfl,zZ hl.1.fresh fun b h _=>f b h⟩
 have hk:=hl.keep hle (fun b g=>⟨f b (g.lt hl),rfl⟩) (fun _ _ _=>rfl) (fun b f=>hl.1.fresh b (by simp at f; omega));exact⟨hk.1,{ toLe:=hle,size:=by simp,frame:=fun b h _=>⟨f b h,rfl⟩,own:=fun b _ g=>g,os:=rfl,tape:=rfl,output:=⟨rfl,by simp [Sort.grow,Sort.ahead]⟩ }⟩
end Go.Ab
/-
 slices.SortFunc over a slice that may be stored to: the shelf's contract,read in the abstract state. No program text.
-/
namespace Go.Ab
open Go Go.RowKit Go.Proofs Go.Shelf Go.Sort
variable {ak:bP}
def O8:D->Bool
 | .str s=>Nat.ble s.length fD
 | .int _ _=>true
 | .bool _=>true
 | _=>false
section
variable {P:Program}{ρ:Ren}{T:Type} [Inhabited T] (c:T->List D) (k:Nat)
def O9 (x:T):Bool:=(c x).all O8
def ID (x:T):T:=bif O9 c x then x else default
def O_ (b:T->T->Int) (x y:T):Int:=b (ID c x) (ID c y)
def DS (b:T->T->Int) (l:List T):List T:=(pdq (ltOf (O_ c b)) l.toArray 0 l.length (Lib.bitLen l.length) true true).toList
def DT (b:T->T->Int) (l:List T):List T:=bif Nat.beq (DS c b l).length l.length then DS c b l else l
theorem Pa (b:T->T->Int) (l:List T):(DT c b l).length=l.length:=by
 unfold DT;cases h:Nat.beq (DS c b l).length l.length
 ·rfl
 ·exact Nat.eq_of_beq_eq_true h
end
section
variable {P:Program}{ρ:Ren}{T:Type} [Inhabited T] {c:T->List D}{k:Nat}
end
def Pb {T:Type}(f:T->T->Option Int) (x y:T):Int:=(f x y).getD 0
def Pc {T:Type} [Inhabited T] (c:T->List D) (f:T->T->Option Int) (s:Sl T):Sl T:=⟨s.nl,DT c (Pb f) s.l⟩
theorem IE {T:Type} [Inhabited T] {c:T->List D}{f:T->T->Option Int}{s:Sl T}:(Pc c f s).l.length=s.l.length:=Pa c _ _
end Go.Ab
/-
 slices.Grow of a nil slice: the shelf's contract,read in the abstract state: a slice that may grow. No program text.
-/
namespace Go.Ab
open Go Go.RowKit Go.Proofs Go.Shelf
variable {ak:bP}
end Go.Ab
/-
 slices.DeleteFunc over a slice that may be stored to and is not used any more: the shelf's contract,read in the abstract state. No program text.
-/
namespace Go.Proofs
open Go.Shelf Go.RowKit Go.Lib Go.Sort
variable {P:Program}{ρ:Ren}
theorem Pd (L:SlLaysH.n10 P ρ) (a:Option Addr) (c:Nat) (b:Value) (w:World) :
  Calls P (ρ.f 10) #[.slice a 0 c,b] w fun e w'=>e=.returned (.slice a 0 c)/\w'=w:=by
 have mixed:=L.mixed; have t0:=L.t0; have a0:=L.a0; have z0:=L.z0; have v0:=L.v0; have t3:=L.t3; have a3:=L.a3; have z3:=L.z3; have v3:=L.v3; have t4:=L.t4; have a4:=L.a4; have z4:=L.z4; have v4:=L.v4; have t22:=L.t22; have a22:=L.a22; have z22:=L.z22; have v22:=L.v22; have a23:=L.a23; have z23:=L.z23; have t25:=L.t25; have a25:=L.a25; have z25:=L.z25; have v25:=L.v25;have j:∀args w,(callFunc (ρ.f 6) args).run P w=.ok (.enter (ρ.f 6) args) w:=L.f6.enters rfl
 obtain⟨_,_,g⟩:=L.f10
 go_enter g,SlBodyH.n10_ntmps ρ
 go_wp2_with (go_at_fn (ρ.f 6); refine(AnyE.slices_IndexFunc_empty { L with } a c b _).mono ?_; rintro e w' ⟨rfl,rfl⟩)
 go_ret
 exact⟨rfl,rfl⟩
end Go.Proofs
namespace Go.Ab
open Go Go.RowKit Go.Proofs Go.Shelf Go.Sort
variable {ak:bP}
section
variable {P:Program}{ρ:Ren}
theorem Pe {j:J}{w:World}{k n b cap:Nat}{rows:List (List D)}(h:aF j w (.slice k none false rows) (.slice (some ⟨b,0,none⟩) rows.length cap)) (hk:∀r∈rows,r.length=k) (hn:n<=rows.length) :
  aF j w (.slice k none false (rows.take n)) (.slice (some ⟨b,0,none⟩) n cap):=by
 generalize hc:(Value.slice (some (⟨b,0,none⟩:Addr)) rows.length cap)=cv at h;cases h with
 | slice _ _ _ a m cv hk f g bZ hr ht =>
  simp only [Value.slice.injEq,Option.some.injEq] at hc;obtain⟨rfl,_,rfl⟩:=hc;have:=Ib hk f g bZ hr (l:=0) (r:=n) (Nat.zero_le _) hn;simp only [List.drop_zero,Nat.sub_zero,Nat.zero_mul] at this;by_cases e:cap=0
  ·rw [if_pos e] at this; exact this
  ·rw [if_neg e] at this
   simpa [Addr.add] using this
variable {T:Type} [Inhabited T] {v:T->Value}{d1:T->D}
theorem Pf (L:SlLaysH.n10 P ρ) (hO:OneCell v) (hinv:∀j w x cv,aF j w (d1 x) cv->cv=v x) (C:T) (v23:∀w,(zeroValue (ρ.t 23)).run P w=.ok (v C) w) (hz:∀j w,aF j w (d1 C) (v C))
  {p:T->Bool}{g:Nat}(ar:∀args w,(callFunc g args).run P w=.ok (.enter g args) w) (hg:∀x w,Calls P g #[v x] w fun e w'=>e=.returned (.bool (p x))/\w'=w)
  {H:ah}{id:Nat}{nl:Bool}{l:List T}(hH:H id=some (.arr 1 (l.map fun x=>[d1 x]))) :
  AC P (ρ.f 10) [.d (.arr 1 id nl l.length),.d (.func g [])] H fun r h'=>r=.a (.d (.slice 1 none nl ((l.filter fun x=>!p x).map fun x=>[d1 x])))/\h'=H.set id none:=by
 refine⟨L.f10.enters rfl,fun j w cR hr E=>?_⟩;have hl:HL j w [] [] H:=⟨hr,⟨.nil,by simp,by simp⟩⟩;cases E with
 | cons h1 E =>
 cases E with
 | cons h2 E =>
 cases E
 rename_i v1 v2
 have av:aF j w (.func g []) v2:=h2;obtain rfl:v2=.func (.func g) #[] #[]:=by
  cases av with
  | func _ _ jk hlen _ =>
   have:jk=[]:=List.eq_nil_of_length_eq_zero (by simpa using hlen.symm);subst this; rfl
 have J:l.length<=dI:=by obtain⟨_,_,_,_,_,J,_⟩:=hr.obj id _ hH; simpa using J
 rcases hl.DM hH (by simp) (k':=1) (n:=l.length) (cv:=v1) h1 with ⟨base,O,Q,aw,F⟩|⟨b,cap,s,ce,O,Q,F,R,ab,S,U,aQ,ct⟩
 ·subst O;have ax:l=[]:=by simpa using aw
  subst ax;obtain⟨ay,az⟩:=hl.forget (h':=H.set id none) fun n o hn=>by
   by_cases c:n=id
   ·subst c; rw [ah.cM] at hn; cases hn
   ·rwa [ah.cD H _ c] at hn
  refine(Pd L base 0 _ w).mono ?_;rintro e w' ⟨rfl,aA⟩;rw [aA];refine⟨_,_,j,_,rfl,⟨rfl,rfl⟩, ?_,ay.1,az⟩;show aF j w (.slice 1 none nl []) (.slice base 0 0);rw [Q];cases base with
  | none=>exact .gH _ _ (by simp)
  | some aB=>exact .slice 1 none [] aB 0 (fun _=>undef) (by simp) (by simp) (by simp) ⟨.inl rfl,by simp⟩ (by simp) (fun t ht=>by cases ht)
 ·subst O;rw [List.length_map] at U ct;simp only [Nat.mul_one] at ct ab;have ad:∀m:List T,(m.map fun x=>[d1 x]).flatten=m.map d1:=fun m=>by induction m with
   | nil=>rfl
   | cons a r ae=>simp [ae]
  rw [ad] at ct;have aC:∀i,w.cell? ⟨b,i,none⟩=s[i]?:=fun i=>cell_of_row w b i s ce (0,0) R;have hold:s.toList.take l.length=l.map v:=by
   refine List.ext_getElem? fun i=>?_;by_cases hi:i<l.length
   ·obtain⟨u,hu,G⟩:=ct.get (i:=i) (x:=d1 l[i]) (by rw [List.getElem?_map,List.getElem?_eq_getElem hi]; rfl);rw [hu,hinv _ _ _ _ G,List.getElem?_map,List.getElem?_eq_getElem hi]; rfl
   ·rw [List.getElem?_eq_none (by rw [<- ct.length]; simp; omega),List.getElem?_eq_none (by simp; omega)]
  have af:Holds v w b 0 l.toArray:=by
   intro i hi;rw [List.size_toArray] at hi;refine⟨?_,frozen_of_row w b _ s ce R⟩;rw [Nat.zero_add,aC];have ai:(s.toList.take l.length)[i]?=(l.map v)[i]?:=by rw [hold]
   rw [List.getElem?_take,if_pos hi,Array.getElem?_toList,List.getElem?_map,List.getElem?_eq_getElem hi] at ai;rw [ai]; simp [hi]
  have X:∀(W:World) (x:T),FnGives P g #[] #[v x] (.bool (p x)) W:=fun W x=>by
   show Calls P g (#[v x]++#[]) W _;rw [show (#[v x]++#[]:Array Value)=#[v x] by simp];exact(hg x W).mono fun e w' ⟨h1,h2⟩=>⟨h1,0,by rw [h2]; rfl⟩
  have Y:=AnyE.slices_DeleteFunc L v hO p g #[] ar C v23 b 0 cap l.toArray w (fun W x _=>X W x) (fun n os aR x _=>X _ x) af (by rw [List.size_toArray]; unfold dI at J; omega) (by simpa using U);simp only [List.size_toArray] at Y;rw [show [Value.slice (some ⟨b,0,none⟩) (l.map fun x=>[d1 x]).length cap,.func (.func g) #[] #[]].toArray=#[.slice (some ⟨b,0,none⟩) l.length cap,.func (.func g) #[] #[]] by simp]
  refine Y.mono ?_;rintro e w' ⟨rfl,q,rfl⟩;generalize aj:(l.filter fun x=>!p x)=B;have aD:B.length<=l.length:=by rw [<- aj]; exact List.length_filter_le _ _
  generalize K:B++List.replicate (l.length-B.length) C=new;have k:new.length=l.length:=by rw [<- K]; simp; omega
  let I:List Value:=(putCells v 0 new.toArray s).toList
  have Z:I=new.map v++s.toList.drop l.length:=by
   refine List.ext_getElem? fun i=>?_;show (putCells v 0 new.toArray s).toList[i]?=_;unfold putCells;rw [Array.getElem?_toList,Array.getElem?_mapIdx,List.getElem?_append];by_cases hi:i<l.length
   ·have aE:i<s.size:=by omega
    have ak:i<new.toArray.size:=by simp [k,hi]
    have g1:s[i]?=some s[i]:=Array.getElem?_eq_getElem aE;rw [if_pos (by simp [k,hi]),g1,Option.map_some,if_pos ⟨Nat.zero_le _,by rw [Nat.zero_add]; exact ak⟩,Nat.sub_zero,getElem!_pos _ i ak,List.getElem?_map,List.getElem?_eq_getElem (by omega)];simp
   ·rw [if_neg (by simp [k,hi]),List.length_map,k,List.getElem?_drop,show l.length+(i-l.length)=i by omega,Array.getElem?_toList];cases s[i]? with
    | none=>rfl
    | some y=>rw [Option.map_some,if_neg (by simp [k]; omega)]
  have M:fW w (putRow v w b 0 new.toArray) b (.cells I.toArray ce (0,0)):=by
   refine⟨by simp [putRow,mapBlock], ?_,fun x hx=>?_,rfl,rfl,fJ.rfl⟩
   ·simp only [putRow,mapBlock,Array.getElem?_modify,if_true,R,Option.map_some];show some (Go.Obj.cells _ ce (0,0))=some (Go.Obj.cells I.toArray ce (0,0));simp [I]
   ·simp only [putRow,mapBlock,Array.getElem?_modify];rw [if_neg (fun e=>hx e.symm)]
  have hle:=M.le (j:=j) S;have aG:(l.map fun x=>[d1 x])=[]->some (b,cap)=none:=fun e=>by
   obtain⟨_,ek,g1,g2,_⟩:=hr.obj id _ hH;rw [F] at g1;simp only [Option.some.injEq,Tk.mk.injEq] at g1;rw [g1.1]; exact g2.2 e
  have hblk:∀bt,bQ j id (.arr 1 bt)=some b:=fun _=>by simp [bQ,F]
  -- each of the new cells reads as its datum
  have al:∀x∈new,aF j (putRow v w b 0 new.toArray) (d1 x) (v x):=fun x hx=>by
   rw [<- K] at hx;rcases List.mem_append.1 hx with hx|hx
   ·rw [<- aj] at hx;obtain⟨i,hi⟩:=List.getElem?_of_mem (List.mem_filter.1 hx).1;obtain⟨u,_,G⟩:=ct.get (i:=i) (x:=d1 x) (by rw [List.getElem?_map,hi]; rfl);have e:=hinv _ _ _ _ G;rw [e] at G;exact G.mono hle
   ·rw [(List.mem_replicate.1 hx).2]; exact hz _ _
  have aJ:s.toList.length=cap:=by simpa using ab
  obtain⟨aK,aL⟩:=hl.setObj (o':=.arr 1 (new.map fun x=>[d1 x])) hH (hblk _) (hblk _) S M (by
   refine⟨some (b,cap),by simp only [List.length_map,k]; simpa using F,⟨by simp,fun e=>aG (by rw [List.map_eq_nil_iff] at e; rw [e] at k; exact List.map_eq_nil_iff.2 (List.eq_nil_of_length_eq_zero k.symm))⟩,fun r aa=>?_,by simpa [k] using J,fun aS aT am=>?_⟩
   ·obtain⟨q,hq,rfl⟩:=List.mem_map.1 aa;rfl
   ·simp only [Option.some.injEq,Prod.mk.injEq] at am;obtain⟨rfl,rfl⟩:=am;refine⟨I,ce,M.here, ?_,S,by simpa [k] using U, ?_⟩
    ·rw [Z,List.length_append,List.length_map,List.length_drop,k,aJ]; omega
    ·rw [ad,List.length_map,k,Nat.mul_one,Z,List.take_left' (by simp [k])];clear Z M hle K Y X af hold ct;induction new with
     | nil=>exact .nil
     | cons a r ae=>exact .cons (al a (by simp)) (by
       refine bI.k7 (by simp) fun i x y hx N=>?_;rw [List.getElem?_map] at hx N;cases e:r[i]? with
       | none=>rw [e] at hx; cases hx
       | some z =>
        rw [e] at hx N;simp only [Option.map_some,Option.some.injEq] at hx N;subst hx N;exact al z (by simp [List.mem_of_getElem? e])))
  obtain⟨aM,aN⟩:=aK.grown q #[];have hw:putRow v (Sort.ahead w q) b 0 new.toArray=Sort.grow (Sort.ahead (putRow v w b 0 new.toArray) q) #[]:=by rw [grow_empty]; rfl
  rw [hw];have hid:(H.set id (some (.arr 1 (new.map fun x=>[d1 x])))) id=some (.arr 1 (new.map fun x=>[d1 x])):=ah.cM _ _ _;obtain⟨j',an,ao,aO⟩:=HL.bl aM hid (k':=1) (nl:=false) (cv:=.slice (some ⟨b,0,none⟩) (new.map fun x=>[d1 x]).length cap) (by
   show aF _ _ _ _;refine .arr 1 id false _ _ _ (hr.obj id _ hH).1 fun tk hk=>?_;rw [F] at hk;simp only [Option.some.injEq] at hk;subst hk;exact⟨by simp [k],fun _=>.inr ⟨b,rfl,rfl,rfl⟩⟩)
  rw [ah.set_set] at an ao;have ap:=Pe (n:=B.length) aO (fun r aa=>by obtain⟨q,_,rfl⟩:=List.mem_map.1 aa; rfl) (by rw [List.length_map,k]; exact aD);have aP:(new.map fun x=>[d1 x]).take B.length=B.map fun x=>[d1 x]:=by rw [<- K,List.map_append,List.take_left' (by simp)]
  rw [aP] at ap;exact⟨_,_,j',_,rfl,⟨rfl,rfl⟩,by rw [Q]; exact ap,an.1,(aL.trans aN).trans ao⟩
end
def DU {T:Type}(f:T->Option Bool) (s:Sl T):Sl T:=⟨s.nl,s.l.filter fun x=>!(f x).getD false⟩
theorem Pg {P:Program}{ρ:Ren}(L:SlLaysH.n10 P ρ) (v23:∀w,(zeroValue (ρ.t 23)).run P w=.ok (.int .i64 0) w){f:Int->Option Bool}{g:Nat}(ht:∀x,∃z,f x=some z)
  (b:∀args w,(callFunc g args).run P w=.ok (.enter g args) w) (hg:∀x z w,f x=some z->Calls P g #[.int .i64 x] w fun e w'=>e=.returned (.bool z)/\w'=w)
  {H:ah}{id m:Nat}{nl:Bool}{s:Sl Int}(hH:H id=some (.arr 1 (s.l.map (bM .i64)))) (hm:m=s.l.length) (hn:nl=s.nl){F:Nat}(k:F=ρ.f 10) :
  AC P F [.d (.arr 1 id nl m),.d (.func g [])] H fun r h'=>r=.a (.d (Sl.d 1 (bM .i64) none (DU f s)))/\h'=H.set id none:=by
 subst hm k hn;exact Pf (v:=Value.int .i64) (d1:=D.int .i64) (p:=fun x=>(f x).getD false) L (fun _=>rfl) (fun j w x cv h=>by cases h; rfl) 0 v23 (fun j w=>.int _ _) b
  (fun x w=>by obtain⟨z,hz⟩:=ht x; rw [hz]; exact hg x z w hz) hH
end Go.Ab
/-
 Functions of the library that only compute,division,conversions; a block that stays as it is. No program text.
-/
namespace Go.Ab
open Go Go.RowKit Go.Proofs Go.Shelf
variable {ak:bP}
section
variable {P:Program}{ts:Ts}{ls:List (List D)}{h:ah}{dst:Option Tmp}{ty:TypeId}{pos:String}{aD:Array Edge}{g:Option (Nat×Bool)}
theorem aq.Ph {t u:TypeId}{x y:Operand}{k:IntKind}{m n:Int}(hx:ev ts x=.a (.d (.int k m))) (f:ev ts y=.a (.d (.int k n))) (hn:n≠0) :
  aq P (mk dst (.binOp .quo t x y u) ty pos aD g) ts ls h {} (.a (.d (.int k (k.wrap (m.tdiv n))))) ls h :=
 aq.eA fun j w jl a b=>by
  have h1:=b x (by simp [Op.operands]);have h2:=b y (by simp [Op.operands]);rw [hx] at h1; rw [f] at h2;exact⟨_,by simp [execOp,je h1,je h2,Dt,binOp,Op.intDiv,hn],aF.int _ _⟩
theorem aq.Pj {t u:TypeId}{x y:Operand}{k:IntKind}{m n:Int}(hx:ev ts x=.a (.d (.int k m))) (f:ev ts y=.a (.d (.int k n))) (hn:n≠0) :
  aq P (mk dst (.binOp .rem t x y u) ty pos aD g) ts ls h {} (.a (.d (.int k (m.tmod n)))) ls h :=
 aq.eA fun j w jl a b=>by
  have h1:=b x (by simp [Op.operands]);have h2:=b y (by simp [Op.operands]);rw [hx] at h1; rw [f] at h2;exact⟨_,by simp [execOp,je h1,je h2,Dt,binOp,Op.intDiv,hn],aF.int _ _⟩
theorem IF {P:Program}{t:TypeId}{b:TI}(f:bn P t=some b):∃d,P.underlying t=some d/\fZ d=b.k:=by
 obtain⟨i,d,_,h2,_,_,g,_⟩:=gr f;exact⟨d,h2,g⟩
theorem IG {P:Program}{t:TypeId}{b:TI}{k:IntKind}(f:bn P t=some b) (hk:b.k=.int k):P.underlying t=some (.int k):=by
 obtain⟨d,h1,h2⟩:=IF f;rw [hk] at h2;cases d<;>simp [fZ] at h2;subst h2; exact h1
theorem aq.Pk {s t:TypeId}{f b:TI}{x:Operand}{k k':IntKind}{n:Int}(hS:bn P s=some f) (l:bn P t=some b) (hk:b.k=.int k') (hx:ev ts x=.a (.d (.int k n))) :
  aq P (mk dst (.convert s t x) ty pos aD g) ts ls h {} (.a (.d (.int k' (k'.wrap n)))) ls h :=
 aq.eA fun j w jl a m=>by
  have h1:=m x (by simp [Op.operands]);rw [hx] at h1;obtain⟨d,hd,_⟩:=IF hS;exact⟨.int k' (k'.wrap n),by simp [execOp,je h1,convert,run_underlying hd,run_underlying (IG l hk),Conv.intToInt],aF.int _ _⟩
def nJ (s:Sl Int):Bs:=s.l.map fun n=>UInt8.ofNat n.toNat
theorem II:∀(l:List Int) (r:ByteArray),l.foldl (fun r n=>r.push (UInt8.ofNat n.toNat)) r=⟨(r.data.toList++l.map fun n=>UInt8.ofNat n.toNat).toArray⟩
 | [],r=>by simp
 | a::l,r=>by rw [List.foldl_cons,II l]; simp [ByteArray.push]
theorem aq.Pm {s e t:TypeId}{q u B:TI}{x:Operand}{tok:Option Nat}{y:Sl Int}(hS:bn P s=some q) (L:q.k=.slice e) (M:bn P e=some u) (he:u.k=.int .u8) (N:bn P t=some B) (ht:B.k=.str)
  (hx:ev ts x=.a (.d (Sl.d 1 (bM .u8) tok y))):aq P (mk dst (.convert s t x) ty pos aD g) ts ls h {} (.a (.d (.str (nJ y)))) ls h :=
 aq.eA fun j w jl a O=>by
  have h1:=O x (by simp [Op.operands]);rw [hx] at h1;have f:aF j w (.slice 1 tok y.nl (y.l.map (bM .u8))) (a.eval x):=h1;have C:=mq hS L;have E:=IG M he;have F:=uc N ht;generalize hv:a.eval x=v at f;have G:(y.l.map (bM .u8)).flatten=y.l.map (D.int .u8):=by
   induction y.l with
   | nil=>rfl
   | cons a r p=>simp [bM,p]
  generalize H:y.l.map (bM .u8)=rows at f;generalize Y:y.nl=nl at f;cases f with
  | gH _ _ _ =>
   have Q:y.l=[]:=by simpa using H
   exact⟨.string .empty,by simp [execOp,hv,run_convert_bytes_string w s t e _ _ _ C E F,Conv.bytesToString],by
    show aF j w (.str (nJ y)) _;rw [nJ,Q]; exact aF.str [] (by simp [fD])⟩
  | slice _ _ _ m cap cv hk hn hc bZ hr Z =>
   subst H;rw [List.length_map] at hn hc;have hlen:(y.l.map (bM .u8)).length=y.l.length:=by simp
   have aa:dI<=fD:=by unfold dI fD; omega
   have R:(loadCells m y.l.length).run P w=.ok (y.l.map (Value.int .u8)).toArray w:=by
    by_cases h0:y.l=[]
    ·rw [h0]; rfl
    ·have I:m.spot=none:=bZ.1.resolve_left (by simpa using h0);obtain⟨b,o,sp⟩:=m;simp only at I; subst I;obtain⟨cs,g1,g2⟩:=Dl (P:=P) (j:=j) (w:=w) (b:=b) (o:=o) (y.l.map (D.int .u8)) fun i z hz=>by
      have hi:i<(y.l.map (bM .u8)).flatten.length:=by rw [G]; exact(List.getElem?_eq_some_iff.1 hz).1
      refine⟨cv i,(bZ.2 i hi).2.1, ?_⟩;have J:=hr i hi;have S:(y.l.map (bM .u8)).flatten[i]=z:=by
       have K:(y.l.map (bM .u8)).flatten[i]?=some z:=by rw [G]; exact hz
       rw [List.getElem?_eq_getElem hi] at K; simpa using K
      rw [S] at J; exact J
     rw [List.length_map] at g2;rw [g2];have U:cs=y.l.map (Value.int .u8):=by
      clear g2;generalize y.l=l at g1;induction l generalizing cs with
      | nil=>cases g1; rfl
      | cons a r p =>
       rw [List.map_cons] at g1;cases g1 with
       | cons W X=>cases W; rw [p _ X,List.map_cons]
     rw [U]
   rw [hlen] at hv;refine⟨.string ⟨(nJ y).toArray⟩, ?_, ?_⟩
   ·simp only [execOp,hv,Sem.run_bind,run_convert_bytes_string w s t e _ _ _ C E F,run_bytesToString w m _ cap y.l R,Result.andThen,Sem.run_pure];rw [II]; simp [nJ]
   ·exact aF.str _ (by simp only [nJ,List.length_map]; omega)
end
theorem AC.Pn {P:Program}{f:FuncId}{args:List A}{H:ah}{r:A}{cR:List Value}{cv:Value}(enter:∀(cR:Array Value) (w:World),(callFunc f cR).run P w=.ok (.enter f cR) w)
  (hc:∀j w c,fI j w H->bI (cF j w) args c->cF j w r cv/\Calls P f c.toArray w fun e w'=>e=.returned cv/\w'=w):AC P f args H fun v h'=>v=.a r/\h'=H:=by
 refine⟨enter,fun j w c hr b=>?_⟩;obtain⟨h2,g⟩:=hc j w c hr b;refine g.mono ?_;rintro e w' ⟨rfl,rfl⟩;exact⟨_,cv,j,H,rfl,⟨rfl,rfl⟩,h2,hr,bT.refl _ _ _⟩
def gz (P:Program) (o:Ab.Obj):Prop:=∃g t fr,o=.fix g (.cells (Lib.pow10Tab.map fun z=>Value.int .u64 z).toArray t fr)/\P.globalNamed "internal/strconv.uint64pow10"=some g
theorem gz.nK {P:Program}{o:Ab.Obj}(h:gz P o){j:J}{w:World}{id:Nat}(hr:gJ j w id o):Lib.TabIs P w "internal/strconv.uint64pow10" .u64 Lib.pow10Tab:=by
 obtain⟨g,t,fr,rfl,hg⟩:=h;have b:w.heap[g]?=some _:=hr;unfold Lib.TabIs World.var?;rw [hg,Option.bind_some,b]
theorem Po {P:Program}{ρ:Ren}(L:LaysM.n171 P ρ){n:Int}(h0 : -9223372036854775808<=n) (h1:n<=9223372036854775807){F:Nat}(g:F=ρ.f 171){H:ah}{gT:Nat}{oT:Ab.Obj}(l:H gT=some oT) (m:gz P oT) (p:(Lib.itoa n).length<=fD) :
  AC P F [.d (.int .i64 n)] H fun v h'=>v=.a (.d (.str (Lib.itoa n)))/\h'=H:=by
 subst g;refine⟨enters_of L.f171 (by kernel_rfl) rfl,fun j w c hr b=>?_⟩;cases b with
 | cons q b =>
 cases b;have r:aF j w (.int .i64 n) _:=q;cases r;refine(Any.strconv_Itoa L n h0 h1 w (m.nK (hr.obj gT oT l).2)).mono ?_;rintro e w' ⟨rfl,k,os,rfl⟩;have hl:HL j w [] [] H:=⟨hr,⟨.nil,by simp,by simp⟩⟩;obtain⟨s,t⟩:=hl.grown k os;exact⟨_,_,j,H,rfl,⟨rfl,rfl⟩,aF.str _ p,s.1,t⟩
end Go.Ab
/-
 index of an array by value,whose elements are one cell each. No program text.
-/
namespace Go.Ab
open Go Go.RowKit
variable {ak:bP}
end Go.Ab
/-
 Bound methods: functions that hold their first arguments; functions as parameters whose contract is told for one heap. No program text.
-/
namespace Go.Ab
open Go Go.RowKit
variable {ak:bP}
def iL [bP] (P:Program) (fd:D) (args:List A) (H:ah) (cT:V->ah->Prop):Prop :=
 match fd with
 | .func k cl=>AC P k (args++cl.map A.d) H cT
 | .nx k bs=>AC P k (bs.map A.d++args) H cT
 | _=>False
section
variable {P:Program}{ts:Ts}{ls:List (List D)}{h:ah}{dst:Option Tmp}{ty:TypeId}{pos:String}{aD:Array Edge}{g:Option (Nat×Bool)}
theorem Pq {f:Operand}{args:Array Operand}{cn:Array TypeId}{dY:FuncId}{bs:List D}{xs:List A}{cT:V->ah->Prop}{L:List (List D)}{H:ah}(s:ev ts f=.a (.d (.nx dY bs))) (t:ic ts args.toList=some xs)
  (hc:AC P dY (bs.map .d++xs) H cT) :
  dA P (mk dst (.call { callee:=.value f,args:=args,argTypes:=cn }) ty pos aD g) ts L H fun v aS h'=>cT v h'/\aS=L:=by
 intro j w jl a hl k K Q hk;have h1:=k f (by simp [Op.operands,Call.operands]);rw [s] at h1;have h2:=Dw (j:=j) (w:=w) (jl:=jl) (act:=a) args.toList xs t fun x hx=>k x (by simp [Op.operands,Call.operands]; right; simpa using hx);have p:aF j w (.nx dY bs) (a.eval f):=h1;generalize u:a.eval f=S at p;cases p with
 | nx _ _ kr hlen hr =>
  have B:bI (cF j w) (bs.map .d++xs) (kr++args.toList.map a.eval):=by
   refine(bI.k7 (by simp [hlen]) fun i x y hx C=>?_).append h2;rw [List.getElem?_map] at hx;cases e:bs[i]? with
   | none=>rw [e] at hx; simp at hx
   | some z =>
    rw [e] at hx; simp at hx; subst hx;obtain⟨hi,E⟩:=List.getElem?_eq_some_iff.1 e;obtain⟨G,I⟩:=List.getElem?_eq_some_iff.1 C;have:=hr i hi G;rw [E,I] at this; exact this
  have J:=hc.runs j w _ hl.1 B;have M:(execOp a.eval (mk dst (.call { callee:=.value f,args:=args,argTypes:=cn }) ty pos aD g)).run P w=.ok (.enter dY (kr++args.toList.map a.eval).toArray) w:=by
   have he:=hc.enter (kr++args.toList.map a.eval).toArray w;have N:kr.toArray++Array.map a.eval args=(kr++args.toList.map a.eval).toArray:=by apply Array.ext'; simp
   simp only [execOp,resolve,u,Deferred.ofValue,Sem.run_bind,Sem.run_pure,Result.andThen,invoke,List.append_eq,Array.append_empty];rw [N]; exact he
  unfold Oper.wp;rw [M,Oper.upon_enter];refine J.mono ?_;rintro e w' ⟨r,cv,j',h',rfl,O,hv,hh,m⟩;have q:∀b,b∈jl->b<w.heap.size:=fun b l=>aU.lt hl (.inl l);have R:∀b,b∈jl->w'.heap[b]?=w.heap[b]?/\j'.F b=j.F b:=fun b l=>m.frame b (q b l) (hl.2.apart b l);refine hk r L h' cv j' w' jl ⟨O,rfl⟩ (hv.mono (Le.refl _ _) (fun i b l=>by simp at l)) ⟨hh,⟨ny hl.2.each fun xs b l h=>h.keep m.toLe (R b l),hl.2.nodup,fun b l k=>hl.2.apart b l (m.own b (q b l) k)⟩⟩ (Ext.refl _) ?_
  refine { m with frame:=fun b l hn=>m.frame b l (fun k=>hn ?_),own:=fun b l k=>?_ }
  ·rcases k with k|k
   ·simp at k
   ·exact .inr k
  ·rcases k with k|k
   ·exact .inl k
   ·rcases m.own b l (.inr k) with h|h
    ·simp at h
    ·exact .inr h
theorem dA.Pr {f:Operand}{args:Array Operand}{cn:Array TypeId}{fd:D}{xs:List A}{cT:V->ah->Prop}{L:List (List D)}{H:ah}(b:ev ts f=.a (.d fd)) (j:ic ts args.toList=some xs) (hc:iL P fd xs H cT) :
  dA P (mk dst (.call { callee:=.value f,args:=args,argTypes:=cn }) ty pos aD g) ts L H fun v aS h'=>cT v h'/\aS=L:=by
 cases fd with
 | func k cl=>exact ue b j hc
 | nx k bs=>exact Pq b j hc
 | _=>exact hc.elim
theorem aq.mA {f:Operand}{args:Array Operand}{cn:Array TypeId}{fd:D}{xs:List A}{v:V}(b:ev ts f=.a (.d fd)) (j:ic ts args.toList=some xs)
  (hc:iL P fd xs h fun r h'=>r=v/\h'=h) :
  aq P (mk dst (.call { callee:=.value f,args:=args,argTypes:=cn }) ty pos aD g) ts ls h { rh:=true } v ls h:=by
 intro L H _ hH;have e:=hH rfl;subst e;exact(dA.Pr b j hc).mono fun _ _ _ ⟨⟨k,l⟩,m⟩=>⟨k,m,l⟩
end
end Go.Ab
/-
 Memos: maps whose keys are structs of texts and pointers,of which only the forms of keys and values are told (two pointers' equality may be a draw); sets of strings with empty values. No program text.
-/
namespace Go.Ab
open Go Go.RowKit
variable {ak:bP}
def gb (w w':World):Prop:=∃n,w'={ w with drawn:=w.drawn+n }
theorem gb.refl (w:World):gb w w:=⟨0,rfl⟩
theorem gb.trans {a b c:World}(h:gb a b) (k:gb b c):gb a c:=by
 obtain⟨n,rfl⟩:=h; obtain⟨m,rfl⟩:=k;exact⟨n+m,by simp [Nat.add_assoc]⟩
theorem gb.heap {w w':World}(h:gb w w'):w'.heap=w.heap:=by obtain⟨n,rfl⟩:=h; rfl
theorem HL.jK {j:J}{w w':World}{jl:List Nat}{ls:List (List D)}{h:ah}(hl:HL j w jl ls h) (hd:gb w w'):HL j w' jl ls h/\bT j w (aU j h jl) j w' (aU j h jl):=by
 obtain⟨n,rfl⟩:=hd;have hle:Le j w j { w with drawn:=w.drawn+n }:=⟨Nat.le_refl _,fun _ _=>rfl,fun _=>Nat.le_refl _,fun _ _ _=>rfl,fun _ _=>.inl rfl,fun _ _ _ _ _ h=>h⟩;have hk:=hl.keep hle (fun _ _=>⟨rfl,rfl⟩) (fun _ _ _=>rfl) hl.1.fresh;exact⟨hk.1,{ toLe:=hle,size:=Nat.le_refl _,frame:=fun _ _ _=>⟨rfl,rfl⟩,own:=fun _ _ b=>b,os:=rfl,tape:=rfl,output:=fJ.rfl rfl (Nat.le_add_right _ _) }⟩
theorem cF.jK {j:J}{w w':World}(hd:gb w w'){x:A}{v:Value}(h:cF j w x v):cF j w' x v:=by
 obtain⟨n,rfl⟩:=hd;have hle:Le j w j { w with drawn:=w.drawn+n }:=⟨Nat.le_refl _,fun _ _=>rfl,fun _=>Nat.le_refl _,fun _ _ _=>rfl,fun _ _=>.inl rfl,fun _ _ _ _ _ h=>h⟩;exact h.mono hle
section
variable {P:Program}
def nL {α:Type}(P:Program) (m:Sem α) (w:World):Prop:=∃r w',m.run P w=.ok r w'/\gb w w'
theorem Pt {w:World}{a b:Addr}(k:(w.shape? a.block).isSome=true) (l:(w.shape? b.block).isSome=true) (g:w.frozen? a=false):nL P (sameAddr a b) w:=by
 unfold nL sameAddr;by_cases j:a.block=b.block
 ·exact⟨a==b,w,by simp [j],.refl w⟩
 ·obtain⟨s,f⟩:=Option.isSome_iff_exists.1 k;obtain⟨t,ht⟩:=Option.isSome_iff_exists.1 l;have m:(a.block==b.block)=false:=by simpa using j
  have hm:∃r,(mayBeOne a b).run P w=.ok r w:=by
   unfold mayBeOne stringish;obtain⟨p,q⟩:=s;obtain⟨t1,t2⟩:=t;simp only [Sem.run_bind,run_frozen,Result.andThen,g,run_shape,f,ht,Sem.run_pure,Bool.false_eq_true,if_false,Sem.run_ite];cases w.frozen? b<;>simp [f,ht]
  obtain⟨r,hm⟩:=hm;simp only [Sem.run_bind,m,Bool.false_eq_true,if_false,run_frozen,Result.andThen,g,noView,viewAt,run_shape,f,ht,Sem.run_ite,Sem.run_pure,Option.isSome_some,if_true,Bool.false_and,Option.isSome_none,hm];cases r
  ·exact⟨false,w,by simp,.refl w⟩
  ·refine⟨_,_,by simp; rfl,⟨1,rfl⟩⟩
theorem Pu {d:Nat}{t e:TypeId}{i:TypeInfo}(ht:P.underlying t=some (.pointer e)) (he:P.info? e=some i) (hz:i.size≠0){w:World}{a b:Addr}(f:(w.shape? a.block).isSome=true) (g:(w.shape? b.block).isSome=true) (j:w.frozen? a=false) :
  nL P (Op.equalIn (d+1) t (.pointer (some a)) (.pointer (some b))) w:=by
 obtain⟨r,w',h1,h2⟩:=Pt (P:=P) f g j;refine⟨r,w', ?_,h2⟩;simp [Op.equalIn,run_underlying ht,sizeOf,typeInfo,he,hz,h1]
theorem DV {d:Nat}{xs ys:Array Value}{w:World}:∀fs:List Go.Field,(∀f∈fs,f.name ≠ "_"/\∃a b,(∀w',(part f.type xs f.offset).run P w'=.ok a w')/\(∀w',(part f.type ys f.offset).run P w'=.ok b w')/\∀w',gb w w'->nL P (Op.equalIn d f.type a b) w') ->
  ∀w',gb w w'->nL P (Op.eqFields d xs ys fs) w'
 | [],_,w',_=>⟨true,w',by simp [Op.eqFields],.refl w'⟩
 | f::fs,h,w',hd=>by
  obtain⟨hn,a,b,h1,h2,m⟩:=h f (.head _);obtain⟨r,k,l,j⟩:=m w' hd;unfold Op.eqFields;rw [if_pos hn];cases r
  ·refine⟨false,k, ?_,j⟩;simp [h1,h2,l]
  ·obtain⟨p,q,s,t⟩:=DV fs (fun g hg=>h g (.tail _ hg)) k (hd.trans j);refine⟨p,q, ?_,j.trans t⟩;simp [h1,h2,l,s]
structure nM (P:Program) (tb tp ts tq e tz:TypeId):Prop where
 ub:P.underlying tb=some (.struct (P.fieldsOf tb))
 sb:P.stoodInHeld tb=false
 fb:((P.fieldsOf tb).toList.map fun f=>(f.name != "_",f.type,f.offset))=[(true,tp,0),(true,tp,2),(true,tz,4)]
 up:P.underlying tp=some (.struct (P.fieldsOf tp))
 sp:P.stoodInHeld tp=false
 fp:((P.fieldsOf tp).toList.map fun f=>(f.name != "_",f.type,f.offset))=[(true,ts,0),(true,tq,1)]
 us:P.underlying ts=some .string
 uq:P.underlying tq=some (.pointer e)
 ie:∃i,P.info? e=some i/\i.size≠0
 uz:P.underlying tz=some .bool
 ip:∃i,P.info? tp=some i/\i.size=2
def KD (xs:List D):Prop:=∃f g j k l m b,xs=[.str f,.view (.int .i64 g::j),.str k,.view (.int .i64 l::m),.bool b]
def jh (w:World) (v:Value):Prop:=∃a:Addr,v=.pointer (some a)/\(w.shape? a.block).isSome=true/\w.frozen? a=false
theorem IJ {j:J}{w:World}{n:Int}{r:List D}{v:Value}(h:aF j w (.view (.int .i64 n::r)) v):jh w v:=by
 cases h with
 | view _ a cv bZ hr =>
  obtain⟨h1,h2⟩:=bZ;obtain⟨_,g,b⟩:=h2 0 (by simp);have p:=hr 0 (by simp);have k:aF j w (.int .i64 n) (cv 0):=p;have l:a=⟨a.block,a.off,none⟩:=by cases a; simp at h1; simp [h1]
  rw [Nat.add_zero] at g b;rw [<- l] at g;refine⟨a,rfl, ?_, ?_⟩
  ·unfold World.cell? at g;unfold World.shape?
   split at g
   ·rename_i c e f hc; simp [hc]
   ·cases g
  ·unfold Uz at b;rw [<- l] at b;rcases b with b|⟨m,b⟩
   ·exact b
   ·rw [b] at k; cases k
theorem jh.jK {w w':World}{v:Value}(hd:gb w w') (h:jh w v):jh w' v:=by
 obtain⟨n,rfl⟩:=hd; exact h
theorem IK {l:List Go.Field}{x y z:Bool×TypeId×Nat}(h:(l.map fun f=>(f.name != "_",f.type,f.offset))=[x,y,z]):∀f∈l,(f.name != "_",f.type,f.offset)=x\/(f.name != "_",f.type,f.offset)=y\/(f.name != "_",f.type,f.offset)=z:=fun f b=>by
 have:(f.name != "_",f.type,f.offset)∈l.map fun f=>(f.name != "_",f.type,f.offset):=List.mem_map_of_mem b
 rw [h] at this; simpa using this
theorem IL {l:List Go.Field}{x y:Bool×TypeId×Nat}(h:(l.map fun f=>(f.name != "_",f.type,f.offset))=[x,y]):∀f∈l,(f.name != "_",f.type,f.offset)=x\/(f.name != "_",f.type,f.offset)=y:=fun f b=>by
 have:(f.name != "_",f.type,f.offset)∈l.map fun f=>(f.name != "_",f.type,f.offset):=List.mem_map_of_mem b
 rw [h] at this; simpa using this
theorem IM {tb tp ts tq e tz:TypeId}(g:nM P tb tp ts tq e tz){d:Nat}{j k:ByteArray}{l m:Value}{w:World}(h1:jh w l) (h2:jh w m):∀w',gb w w'->nL P (Op.equalIn (d+2) tp (.agg #[.string j,l]) (.agg #[.string k,m])) w':=by
 intro w' hd;have key:=DV (P:=P) (d:=d+1) (xs:=#[.string j,l]) (ys:=#[.string k,m]) (w:=w) (P.fieldsOf tp).toList (fun f p=>by
  obtain⟨i,q,s⟩:=g.ie;rcases IL g.fp f p with h|h
  ·simp only [Prod.mk.injEq,bne_iff_ne,ne_eq] at h;obtain⟨g1,g2,g3⟩:=h;refine⟨g1,.string j,.string k,fun w'=>?_,fun w'=>?_,fun w' _=>?_⟩
   ·rw [g2,g3]; simp [part,isAgg,dz g.us]
   ·rw [g2,g3]; simp [part,isAgg,dz g.us]
   ·rw [g2]; exact⟨_,w',run_equalIn_string w' d ts j k g.us,.refl w'⟩
  ·simp only [Prod.mk.injEq,bne_iff_ne,ne_eq] at h;obtain⟨g1,g2,g3⟩:=h;refine⟨g1,l,m,fun w'=>?_,fun w'=>?_,fun w' hd=>?_⟩
   ·rw [g2,g3]; simp [part,isAgg,dz g.uq]
   ·rw [g2,g3]; simp [part,isAgg,dz g.uq]
   ·rw [g2];obtain⟨a,rfl,t,a2⟩:=h1.jK hd;obtain⟨b,rfl,u,_⟩:=h2.jK hd;exact Pu g.uq q s t u a2) w' hd
 obtain⟨r,v,y,z⟩:=key;exact⟨r,v,by rw [run_equalIn_struct w' (d+1) tp _ _ g.up g.sp]; exact y,z⟩
end
end Go.Ab
/-
 Values of which only a property is known (results that a draw decides). No program text.
-/
namespace Go.Ab
open Go Go.RowKit
variable {ak:bP}
theorem AC.sm {P:Program}{f:FuncId}{args:List A}{h H1:ah}{K:A->Prop}(hc:AC P f args h fun v h'=>(∃x,K x/\v=.a x)/\h'=H1):AC P f args h fun v h'=>v=.sm true K/\h'=H1:=by
 refine⟨hc.1,fun j w cR hr b=>(hc.2 j w cR hr b).mono ?_⟩;rintro e w' ⟨v,cv,j',h',he,⟨⟨x,hx,rfl⟩,rfl⟩,hv,g,k⟩;exact⟨_,cv,j',_,he,⟨rfl,rfl⟩,⟨fun _=>⟨x,hx,hv⟩,fun e=>by cases e⟩,g,k⟩
theorem Az {j:J}{w:World}{jl:List Nat}{ts:Ts}{a:Act}(h:∀i,bD j w jl (get ts i) (a.tmps.getD i undef)){k:Nat}{v:V}(hv:bD j w jl v (a.tmps.getD k undef)):∀i,bD j w jl (get ((k,v)::ts) i) (a.tmps.getD i undef):=fun i=>by
 by_cases e:k=i
 ·subst e; rw [gp]; exact hv
 ·rw [ia _ _ e]; exact h i
section
variable {fE:ez}{P:Program}{n:Nat}{ts:Ts}{ls:List (List D)}{h:ah}
theorem ag.kD {c:Code}{Q:Exit->St->Prop}(k:Nat){K:A->Prop}(hk:get ts k=.sm true K) (hr:∀x,K x->ag P c Q ⟨n,(k,.a x)::ts,ls,h⟩):ag P c Q ⟨n,ts,ls,h⟩:=by
 intro j w jl a b;have hv:bD j w jl (get ts k) (a.tmps.getD k undef):=b.tmps k;rw [hk] at hv;obtain⟨x,hx,hv⟩:=hv.1 rfl;exact hr x hx j w jl a ⟨b.defers,b.size,Az b.tmps hv,b.hl⟩
theorem aI.kD {ops:Array Oper}{rest:List Oper}{Q:St->Prop}(k:Nat){K:A->Prop}(hk:get ts k=.sm true K) (hr:∀x,K x->aI P ops rest Q ⟨n,(k,.a x)::ts,ls,h⟩):aI P ops rest Q ⟨n,ts,ls,h⟩:=by
 intro j w jl a b Qc hq;have hv:bD j w jl (get ts k) (a.tmps.getD k undef):=b.tmps k;rw [hk] at hv;obtain⟨x,hx,hv⟩:=hv.1 rfl;exact hr x hx j w jl a ⟨b.defers,b.size,Az b.tmps hv,b.hl⟩ Qc hq
end
section
variable {P:Program}{ts:Ts}{ls:List (List D)}{h:ah}{dst:Option Tmp}{ty:TypeId}{pos:String}{aD:Array Edge}{g:Option (Nat×Bool)}
theorem aq.Pv {c y z:Operand}{b k:Bool}{J:Bool->Prop}(hc:ev ts c=.a (.d (.bool b))) (m:ev ts y=.sm k fun x=>∃r,x=.d (.bool r)/\J r) (p:b=true->k=true) (hz:ev ts z=.a (.d (.bool false))) :
  aq P (mk dst (.pick c y z) ty pos aD g) ts ls h {} (.sm true fun x=>∃r,x=.d (.bool r)/\((b=true/\J r)\/(b=false/\r=false))) ls h :=
 aq.eA fun j w jl a f=>by
  have h1:=f c (by simp [Op.operands]);have h2:=f y (by simp [Op.operands]);have l:=f z (by simp [Op.operands]);rw [hc] at h1; rw [m] at h2; rw [hz] at l;cases b with
  | true =>
   obtain⟨_,⟨r,rfl,q⟩,hv⟩:=h2.1 (p rfl);have s:bD j w jl (.a (.d (.bool r))) (a.eval y):=hv;exact⟨.bool r,by simp [execOp,jH h1,jH s,asBool],fun _=>⟨_,⟨r,rfl,.inl ⟨rfl,q⟩⟩,aF.bool _⟩,fun e=>by cases e⟩
  | false=>exact⟨.bool false,by simp [execOp,jH h1,jH l,asBool],fun _=>⟨_,⟨false,rfl,.inr ⟨rfl,rfl⟩⟩,aF.bool _⟩,fun e=>by cases e⟩
theorem aq.IN {x:Operand}{i:Nat}{K:List A->Prop}(b:A->Prop) (hx:ev ts x=.pK K) (f:∀xs,K xs->∃y,xs[i]?=some y/\b y):aq P (mk dst (.extract x i) ty pos aD g) ts ls h {} (.sm true b) ls h :=
 aq.eA fun j w jl act l=>by
  have h1:=l x (by simp [Op.operands]);rw [hx] at h1;obtain⟨xs,k,cs,e,hr⟩:=h1;obtain⟨y,m,p⟩:=f xs k;obtain⟨c,hc,q⟩:=hr.get m;exact⟨c,by simp [execOp,e,Instr.extract,hc],fun _=>⟨y,p,q⟩,fun e=>by cases e⟩
end
section
variable {P:Program}
theorem Pw {tb tp ts tq e tz:TypeId}(j:nM P tb tp ts tq e tz){d:Nat}{v y t1 t2:ByteArray}{m p q s:Value}{b c:Bool}{w:World}(h1:jh w m) (h2:jh w p) (g1:jh w q) (g2:jh w s) :
  ∀w',gb w w'->nL P (Op.equalIn (d+3) tb (.agg #[.string v,m,.string y,p,.bool b]) (.agg #[.string t1,q,.string t2,s,.bool c])) w':=by
 intro w' hd;obtain⟨ip,z,B⟩:=j.ip;have t:∀w,(isAgg tp).run P w=.ok true w:=fun w=>by simp [isAgg,dz j.up]
 have u:∀w,(sizeOf tp).run P w=.ok 2 w:=fun w=>by simp [sizeOf,typeInfo,z,B]
 have key:=DV (P:=P) (d:=d+2) (xs:=#[.string v,m,.string y,p,.bool b]) (ys:=#[.string t1,q,.string t2,s,.bool c]) (w:=w) (P.fieldsOf tb).toList (fun f C=>by
  rcases IK j.fb f C with h|h|h
  ·simp only [Prod.mk.injEq,bne_iff_ne,ne_eq] at h;obtain⟨l,g,k⟩:=h;refine⟨l,.agg #[.string v,m],.agg #[.string t1,q],fun w'=>?_,fun w'=>?_,fun w' hd=>?_⟩
   ·rw [g,k]; simp [part,t,u]
   ·rw [g,k]; simp [part,t,u]
   ·rw [g]; exact IM j (h1.jK hd) (g1.jK hd) w' (.refl w')
  ·simp only [Prod.mk.injEq,bne_iff_ne,ne_eq] at h;obtain⟨l,g,k⟩:=h;refine⟨l,.agg #[.string y,p],.agg #[.string t2,s],fun w'=>?_,fun w'=>?_,fun w' hd=>?_⟩
   ·rw [g,k]; simp [part,t,u]
   ·rw [g,k]; simp [part,t,u]
   ·rw [g]; exact IM j (h2.jK hd) (g2.jK hd) w' (.refl w')
  ·simp only [Prod.mk.injEq,bne_iff_ne,ne_eq] at h;obtain⟨l,g,k⟩:=h;refine⟨l,.bool b,.bool c,fun w'=>?_,fun w'=>?_,fun w' hd=>?_⟩
   ·rw [g,k]; simp [part,isAgg,dz j.uz]
   ·rw [g,k]; simp [part,isAgg,dz j.uz]
   ·rw [g]; exact⟨b==c,w',by simp [Op.equalIn,dz j.uz],.refl w'⟩) w' hd
 obtain⟨r,E,l,g⟩:=key;exact⟨r,E,by rw [run_equalIn_struct w' (d+2) tb _ _ j.ub j.sb]; exact l,g⟩
theorem IP {t:TypeId}{xs:Array Value}(hu:P.underlying t=some (.struct (P.fieldsOf t))){em:Bool}{n:Nat}{w:World}
  (h:∀f∈(P.fieldsOf t).toList,f.name ≠ "_"/\∃a,(part f.type xs f.offset).run P w=.ok a w/\(Instr.checkKey em n f.type a).run P w=.ok () w):(Instr.checkKey em (n+1) t (.agg xs)).run P w=.ok () w:=by
 rw [Instr.checkKey];simp only [Sem.run_bind,dz hu,Result.andThen];rw [<- Array.forIn_toList];generalize (P.fieldsOf t).toList=L at h;induction L with
 | nil=>simp
 | cons f L b =>
  obtain⟨hn,a,g,j⟩:=h f (.head _);simp only [List.forIn_cons,Sem.run_bind,hn,ne_eq,not_false_eq_true,if_true,Result.andThen,g,j,Sem.run_pure];exact b fun y k=>h y (.tail _ k)
theorem IQ {tb tp ts tq e tz:TypeId}(j:nM P tb tp ts tq e tz){em:Bool}{n:Nat}{m p:ByteArray}{r t:Value}{b:Bool}{w:World}(h1:∃a,r=.pointer (some a)) (h2:∃a,t=.pointer (some a)) :
  (Instr.checkKey em (n+3) tb (.agg #[.string m,r,.string p,t,.bool b])).run P w=.ok () w:=by
 obtain⟨u,rfl⟩:=h1;obtain⟨a2,rfl⟩:=h2;obtain⟨ip,z,B⟩:=j.ip;have v:∀w,(isAgg tp).run P w=.ok true w:=fun w=>by simp [isAgg,dz j.up]
 have y:∀w,(sizeOf tp).run P w=.ok 2 w:=fun w=>by simp [sizeOf,typeInfo,z,B]
 have pr:∀(s:ByteArray) (a:Addr),(Instr.checkKey em (n+2) tp (.agg #[.string s,.pointer (some a)])).run P w=.ok () w:=fun s a=>by
  refine IP j.up fun f q=>?_;rcases IL j.fp f q with h|h
  ·simp only [Prod.mk.injEq,bne_iff_ne,ne_eq] at h;obtain⟨k,g,l⟩:=h;refine⟨k,.string s, ?_, ?_⟩
   ·rw [g,l]; simp [part,isAgg,dz j.us]
   ·rw [g]; simp [Instr.checkKey,dz j.us]
  ·simp only [Prod.mk.injEq,bne_iff_ne,ne_eq] at h;obtain⟨k,g,l⟩:=h;refine⟨k,.pointer (some a), ?_, ?_⟩
   ·rw [g,l]; simp [part,isAgg,dz j.uq]
   ·rw [g]; simp [Instr.checkKey,dz j.uq]
 refine IP j.ub fun f q=>?_;rcases IK j.fb f q with h|h|h
 ·simp only [Prod.mk.injEq,bne_iff_ne,ne_eq] at h;obtain⟨k,g,l⟩:=h;refine⟨k,.agg #[.string m,.pointer (some u)], ?_,by rw [g]; exact pr m u⟩;rw [g,l]; simp [part,v,y]
 ·simp only [Prod.mk.injEq,bne_iff_ne,ne_eq] at h;obtain⟨k,g,l⟩:=h;refine⟨k,.agg #[.string p,.pointer (some a2)], ?_,by rw [g]; exact pr p a2⟩;rw [g,l]; simp [part,v,y]
 ·simp only [Prod.mk.injEq,bne_iff_ne,ne_eq] at h;obtain⟨k,g,l⟩:=h;refine⟨k,.bool b, ?_, ?_⟩
  ·rw [g,l]; simp [part,isAgg,dz j.uz]
  ·rw [g]; simp [Instr.checkKey,dz j.uz]
theorem IR {tb:TypeId}{g:Value}{w:World}:∀(es:List MapEntry),(∀e∈es,∀w',gb w w'->nL P (Op.equal tb g e.key) w')->∀(i:Nat) (w':World),gb w w' ->
  ∃r f,(Instr.findAsking tb g es i).run P w'=.ok r f/\gb w' f/\∀b v,r=some (b,v)->∃k e,b=i+k/\es[k]?=some e/\e.val=v
 | [],_,i,w',_=>⟨none,w',by simp [Instr.findAsking],.refl _,fun _ _ h=>by cases h⟩
 | e::es,h,i,w',hd=>by
  obtain⟨r,j,h1,h2⟩:=h e (.head _) w' hd;cases r with
  | true=>exact⟨some (i,e.val),j,by simp [Instr.findAsking,h1],h2,fun b v hr=>by cases hr; exact⟨0,e,rfl,rfl,rfl⟩⟩
  | false =>
   obtain⟨r,f,l,m,p⟩:=IR es (fun e he=>h e (.tail _ he)) (i+1) j (hd.trans h2);refine⟨r,f,by simp [Instr.findAsking,h1,l],h2.trans m,fun b v hr=>?_⟩;obtain⟨k,q,u,s,t⟩:=p b v hr;exact⟨k+1,q,by omega,by simpa using s,t⟩
theorem Px {j:J}{w:World}{xs:List D}{v:Value}(hk:KD xs) (h:cF j w (.agg xs) v):∃f g k l b,v=.agg #[.string f,g,.string k,l,.bool b]/\jh w g/\jh w l:=by
 obtain⟨f,u,y,k,z,B,b,rfl⟩:=hk;obtain⟨cs,rfl,h⟩:=h;rcases h with _|⟨h1,_|⟨h2,_|⟨m,_|⟨p,_|⟨q,r⟩⟩⟩⟩⟩;cases r;have s:=IJ h2;have t:=IJ p;cases h1; cases m; cases q;exact⟨_,_,_,_,_,rfl,s,t⟩
def gX (w:World) (v:Value):Prop:=∃j f k g b,v=.agg #[.string j,f,.string k,g,.bool b]/\jh w f/\jh w g
theorem gX.asks {tb tp ts tq e tz:TypeId}(f:nM P tb tp ts tq e tz){w:World}{a b:Value}(g:gX w a) (j:gX w b):∀w',gb w w'->nL P (Op.equal tb a b) w':=by
 obtain⟨k,l,m,p,x,rfl,h1,h2⟩:=g;obtain⟨t1,q,t2,r,y,rfl,g1,g2⟩:=j;exact Pw f h1 h2 g1 g2
theorem gX.AA {w:World}{p:Value}(h:jh w p):∃a,p=.pointer (some a):=by obtain⟨a,h,_⟩:=h; exact⟨a,h⟩
theorem IS {tb tp ts tq e tz:TypeId}(f:nM P tb tp ts tq e tz){w:World}{g:Value}(hk:gX w g) (b:List MapEntry) (hm:∀m∈b,gX w m.key) :
  ∃r w',(Instr.findKey tb g b).run P w=.ok r w'/\gb w w'/\∀i v,r=some (i,v)->∃e,b[i]?=some e/\e.val=v:=by
 cases b with
 | nil=>exact⟨none,w,by simp [Instr.findKey,dz f.ub,Instr.findNow],.refl _,fun _ _ h=>by cases h⟩
 | cons m b =>
  obtain⟨r,w',h1,h2,l⟩:=IR (m::b) (fun e he=>gX.asks f hk (hm e he)) 0 w (.refl w);refine⟨r,w', ?_,h2,fun i v hr=>?_⟩
  ·have hn:Instr.findNow (.struct (P.fieldsOf tb)) g (m::b) 0=none:=by
    rw [Instr.findNow]; simp [Instr.sameNow]
   simp [Instr.findKey,dz f.ub,hn,h1]
  ·obtain⟨k,p,j,q,s⟩:=l i v hr;rw [Nat.zero_add] at j; subst j; exact⟨p,q,s⟩
theorem Py {tb tp ts tq e tz:TypeId}(l:nM P tb tp ts tq e tz){t q:TypeId}(hu:P.underlying t=some (.map tb q)){w:World}{b:Nat}{f:List MapEntry}{bu:Nat}(hg:w.heap[b]?=some (.map f.toArray bu))
  {g:Value}(hk:gX w g) (hm:∀m∈f,gX w m.key){zv:Value}(hz:∀w,(zeroValue q).run P w=.ok zv w) :
  ∃cv ok w',(Instr.lookup t (.map (some b)) g true).run P w=.ok (.tuple #[cv,.bool ok]) w'/\gb w w'/\(cv=zv\/∃m∈f,m.val=cv):=by
 obtain⟨r,w',h1,h2,s⟩:=IS l hk f hm;have hc:∀em,(Instr.checkKey em 10000 tb g).run P w=.ok () w:=fun em=>by
  obtain⟨u,y,z,B,x,rfl,j,k⟩:=hk;exact IQ (n:=9997) l (gX.AA j) (gX.AA k)
 cases r with
 | none =>
  refine⟨zv,false,w', ?_,h2,.inl rfl⟩;simp [Instr.lookup,dz hu,lm hg,hc,h1,hz]
 | some p =>
  obtain⟨i,v⟩:=p;obtain⟨m,j,k⟩:=s i v rfl;refine⟨v,true,w', ?_,h2,.inr ⟨m,List.mem_of_getElem? j,k⟩⟩;simp [Instr.lookup,dz hu,lm hg,hc,h1]
end
def IT (v:A):Prop:=∃n,v=.d (.int .i64 n)
abbrev gN:Obj:=.pL KD IT
theorem IU {j:J}{w:World}{jl:List Nat}{id:Nat}{K:List D->Prop}{V:A->Prop}{cv:Value}(k:gJ j w id (.pL K V)) (h:bD j w jl (.a (.d (.map id))) cv) :
  ∃(b c:Nat) (f:List MapEntry) (bu:Nat),cv=.map (some b)/\j.tok id=some ⟨some (b,c),1⟩/\w.heap[b]?=some (.map f.toArray bu)/\(∀m∈f,(∃xs,K xs/\cF j w (.agg xs) m.key)/\∃v,V v/\cF j w v m.val)/\j.F b=0:=by
 have h':aF j w (.map id) cv:=h;obtain⟨b,c,f,bu,h1,h2,l,p⟩:=k;cases h' with
 | map _ r hi hv =>
  obtain⟨_,q⟩:=hv _ h1;obtain⟨c',g⟩:=q rfl;simp only [Option.some.injEq,Prod.mk.injEq] at g;obtain⟨rfl,rfl⟩:=g;exact⟨b,c,f,bu,rfl,h1,h2,l,p⟩
theorem gX.of {j:J}{w:World}{xs:List D}{v:Value}(hk:KD xs) (h:cF j w (.agg xs) v):gX w v:=Px hk h
theorem stays {P:Program}{w:World}(b new:Value):∃k w',(Instr.keyThatStays b new).run P w=.ok k w'/\gb w w'/\(k=new\/k=b):=by
 cases f:Instr.sameBits 10000 b new with
 | true=>exact⟨new,w,by simp [Instr.keyThatStays,f],.refl w,.inl rfl⟩
 | false =>
  refine⟨_,_,by simp [Instr.keyThatStays,f]; rfl,⟨1,rfl⟩, ?_⟩
  split
  ·exact .inl rfl
  ·exact .inr rfl
theorem Pz {h:ah}{id:Nat}{o:Obj}(hm:h id=some o):h.set id (some o)=h:=by
 funext n; unfold ah.set; split
 ·rename_i e; rw [e,hm]
 ·rfl
section
variable {P:Program}{ts:Ts}{ls:List (List D)}{h:ah}{dst:Option Tmp}{ty:TypeId}{pos:String}{aD:Array Edge}{g:Option (Nat×Bool)}{tb tp xx tq e tz:TypeId}
theorem aq.PA {t f:TypeId}{l p:TI}(u:bn P t=some l) (hk:l.k=.map tb f) (z:nM P tb tp xx tq e tz) (B:bn P f=some p) (hz:p.zero=some (.d (.int .i64 0)))
  {x y:Operand}{id:Nat}{xs:List D}(hx:ev ts x=.a (.d (.map id))) (C:ev ts y=.a (.agg xs)) (E:KD xs) (hm:h id=some gN) :
  aq P (mk dst (.lookup t x y true) ty pos aD g) ts ls h { rh:=true } (.pK fun F=>∃n b,F=[.d (.int .i64 n),.d (.bool b)]) ls h:=by
 refine aq.of_run fun L H _ hH j w jl a hl q=>?_;have G:=hH rfl;subst G;have h1:=q x (by simp [Op.operands]);have h2:=q y (by simp [Op.operands]);rw [hx] at h1; rw [C] at h2;obtain⟨b,c,W,bu,I,_,hg,ct,_⟩:=IU (hl.1.obj id _ hm).2 h1;obtain⟨X,Y,J,_,Z,aa,_,r⟩:=gr B;rw [hz] at r;obtain⟨zv,K,M⟩:=mi r;obtain⟨cv,ok,w',N,s,O⟩:=Py z (lg u hk) hg (gX.of E h2) (fun m hm=>by obtain⟨⟨xs,Q,R⟩,_⟩:=ct m hm; exact gX.of Q R) (zv:=zv) (fun w=>by simp [zeroValue,typeInfo,J,K])
 obtain⟨S,U⟩:=hl.jK s;refine⟨.value (.tuple #[cv,.bool ok]),w',.tuple #[cv,.bool ok],j,jl, ?_,.inl rfl, ?_,S,Ext.refl _,U⟩
 ·simp only [execOp,Sem.run_bind,I,N,Result.andThen,Sem.run_pure]
 ·have hv:∃n,cF j w' (.d (.int .i64 n)) cv:=by
   rcases O with rfl|⟨m,hm,rfl⟩
   ·exact⟨0,M j w'⟩
   ·obtain⟨_,v,⟨n,rfl⟩,hv⟩:=ct m hm;exact⟨n,hv.jK s⟩
  obtain⟨n,hv⟩:=hv;exact⟨_,⟨n,ok,rfl⟩,[cv,.bool ok],rfl,.cons hv (.cons (aF.bool _) .nil)⟩
theorem aq.IV {t ae:TypeId}{S:TI}(U:bn P t=some S) (hk:S.k=.map tb ae) (W:nM P tb tp xx tq e tz)
  {x y z:Operand}{id:Nat}{xs:List D}{n:Int}(hx:ev ts x=.a (.d (.map id))) (af:ev ts y=.a (.agg xs)) (F:KD xs) (hz:ev ts z=.a (.d (.int .i64 n))) (hm:h id=some gN) (hd:dst=none) :
  aq P (mk dst (.mapUpdate t x y z) ty pos aD g) ts ls h { rh:=true,wh:=true } .any ls h:=by
 refine aq.of_run fun L H _ hH j w jl a hl G=>?_;have ai:=hH rfl;subst ai;have h1:=G x (by simp [Op.operands]);have h2:=G y (by simp [Op.operands]);have I:=G z (by simp [Op.operands]);rw [hx] at h1; rw [af] at h2; rw [hz] at I;obtain⟨b,c,f,bu,aj,J,hg,ct,K⟩:=IU (hl.1.obj id _ hm).2 h1;have X:=gX.of F h2;have al:∀m∈f,gX w m.key:=fun m hm=>by obtain⟨⟨xs,M,N⟩,_⟩:=ct m hm; exact gX.of M N
 obtain⟨r,O,f1,f2,f3⟩:=IS W X f al;have hc:∀em,(Instr.checkKey em 10000 tb (a.eval y)).run P w=.ok () w:=fun em=>by
  obtain⟨ay,az,aA,aB,x,am,s,Y⟩:=X;rw [am];exact IQ (n:=9997) W (gX.AA s) (gX.AA Y)
 have Z:∀(l:World) (B:List MapEntry) (C:Nat),gb w l->(∀m∈B,(∃xs,KD xs/\cF j w (.agg xs) m.key)/\∃v,IT v/\cF j w v m.val) ->
   (Instr.mapUpdate t (.map (some b)) (a.eval y) (a.eval z)).run P w=.ok () { l with heap:=l.heap.setIfInBounds b (.map B.toArray C) } ->
   ∃r w' cv j' bp,(execOp a.eval (mk dst (.mapUpdate t x y z) ty pos aD g)).run P w=.ok r w'/\(r=.value cv\/(r=.skip/\cv=undef))/\bD j' w' bp .any cv/\HL j' w' bp L H/\Ext jl bp/\bT j w (aU j H jl) j' w' (aU j' H bp):=by
  intro l B C E an ao;obtain⟨ap,ar⟩:=hl.jK E;have av:l.heap[b]?=some (.map f.toArray bu):=by rw [E.heap]; exact hg
  have Q:=fW.setObj (ak:=ak) (o':=.map B.toArray C) av;have hle:=Q.le (j:=j) K;obtain⟨aa,ab⟩:=ap.setObj (o':=gN) hm (by simp [bQ,J]) (by simp [bQ,J]) K Q ⟨b,c,B,C,J,Q.here,fun m hm=>by
   obtain⟨⟨xs,M,N⟩,v,aw,ax⟩:=an m hm;exact⟨⟨xs,M,(N.jK E).mono hle⟩,v,aw,(ax.jK E).mono hle⟩,K⟩
  rw [Pz hm] at aa ab;refine⟨.skip,_,undef,j,jl, ?_,.inr ⟨rfl,rfl⟩,trivial,aa,Ext.refl _,ar.trans ab⟩;simp only [execOp,aj,Sem.run_bind,ao,Result.andThen,Sem.run_pure]
 cases r with
 | none =>
  refine Z O (f++[{ key:=a.eval y,val:=a.eval z,born:=bu }]) (bu+1) f2 (fun m hm=>?_) ?_
  ·rcases List.mem_append.1 hm with hm|hm
   ·exact ct m hm
   ·rw [List.mem_singleton.1 hm]; exact⟨⟨xs,F,h2⟩,_,⟨n,rfl⟩,I⟩
  ·have R:O.heap[b]?=some (.map f.toArray bu):=by rw [f2.heap]; exact hg
   simp [Instr.mapUpdate,dz (lg U hk),lm hg,hc,f1,setObj,Sem.run,R]
 | some p =>
  obtain⟨i,u⟩:=p;obtain⟨m0,s,Y⟩:=f3 i u rfl;obtain⟨k,l,g1,g2,g3⟩:=stays (P:=P) (w:=O) m0.key (a.eval y);refine Z l (f.modify i fun e=>{ e with key:=k,val:=a.eval z }) bu (f2.trans g2) (fun m hm=>?_) ?_
  ·obtain⟨q,hq⟩:=List.mem_iff_getElem?.1 hm;rw [List.getElem?_modify] at hq;by_cases ad:i=q
   ·subst ad;rw [s] at hq;have hq:some ({ m0 with key:=k,val:=a.eval z }:MapEntry)=some m:=by simpa using hq
    cases hq;refine⟨?_,_,⟨n,rfl⟩,I⟩;rcases g3 with rfl|rfl
    ·exact⟨xs,F,h2⟩
    ·exact(ct m0 (List.mem_of_getElem? s)).1
   ·have hq:f[q]?=some m:=by simpa [ad] using hq
    exact ct m (List.mem_of_getElem? hq)
  ·have R:l.heap[b]?=some (.map f.toArray bu):=by rw [g2.heap,f2.heap]; exact hg
   simp [Instr.mapUpdate,dz (lg U hk),lm hg,hc,f1,s,g1,setObj,Sem.run,R]
end
end Go.Ab
/-
 A region that draws its order,in which one operation,on which all later ones wait,has one of many results. No program text.
-/
namespace Go.Ab
open Go Go.RowKit
variable {ak:bP}
variable {fE:ez}
def DW [bP] (P:Program) (o:Oper) (ts:Ts) (h:ah) (R:V->Prop):Prop :=
 ∀L (j:J) (w:World) (jl:List Nat) (a:Act),HL j w jl L h->(∀x,x∈o.op.operands->bD j w jl (ev ts x) (a.eval x)) ->
  ∀(K:Act->World->Prop) (Q:Exit->Act->World->Prop),
   (∀v cv j' w' bp,R v->bD j' w' bp v cv->HL j' w' bp L h->Ext jl bp->bT j w (aU j h jl) j' w' (aU j' h bp)->K (a.put o.dst cv) w')->o.wp P a w K Q
section
variable {P:Program}{ops:Array Oper}{n:Nat}{S S':Nat->St}{fx gA:Nat->Fx}{v v':Nat->V}{p:Nat}{j0:J}{w0:World}{O0:Nat->Prop}
theorem IW (h1:∀k,k<p->gA k=fx k){i k:Nat}(hk:k<p):jd ops gA i k↔jd ops fx i k:=by unfold jd; rw [h1 k hk]
theorem Inv.switch {bU aZ:Array Bool}{lim:List (Nat×Nat)}{tv:Nat->Value}{j:J}{w:World}{jl:List Nat}{a:Act}(hinv:Inv ops S fx v n j0 w0 O0 bU aZ lim tv j w jl a) (X:p<=ops.size)
  (hS:∀k o,ops[k]?=some o->mh P ops n S fx v k o) (f:∀k,k<=p->S' k=S k) (s:∀k,k<p->gA k=fx k) (L:∀k,k<p->v' k=v k) (l:∀k,p<=k->(fx k).wl=false/\(fx k).wh=false)
  (B:∀k,p<=k->¬bh bU k):∃kl kh,kl<=p/\kh<=p/\tX ops S fx j0 w0 O0 aZ lim j w jl kl kh/\tX ops S' gA j0 w0 O0 aZ lim j w jl kl kh/\Inv ops S' gA v' n j0 w0 O0 bU aZ lim tv j w jl a:=by
 have r:∀k,p<=k->¬bh aZ k:=fun k hk c=>B k hk ((hinv.gq k).2 (.inl c));obtain⟨kl,kh,M,N,C,E,F,G,H⟩:=hinv.st;have cut:∀{W:Fx->Bool}{k:Nat},(∀q,q<ops.size->W (fx q)=true->(bh aZ q↔q<k))->(∀q,p<=q->W (fx q)=false)->∀q,q<ops.size->W (fx q)=true->(bh aZ q↔q<min k p):=fun {W k} h1 h2 q hq hw=>by
  have:q<p:=Nat.lt_of_not_le fun c=>by rw [h2 q c] at hw; cases hw
  rw [h1 q hq hw]; omega
 have I:∀{W:Fx->Bool}{k:Nat},(∀q,q<ops.size->W (fx q)=true->(bh aZ q↔q<k))->∀q,q<ops.size->W (gA q)=true->(bh aZ q↔q<min k p):=fun {W k} h1 q hq hw=>by
  rcases Nat.lt_or_ge q p with c|c
  ·rw [s q c] at hw;rw [h1 q hq hw]; omega
  ·exact⟨fun h=>(r q c h).elim,fun h=>by omega⟩
 have el:(S (min kl p)).ls=(S kl).ls:=by
  rcases Nat.le_total kl p with c|c
  ·rw [Nat.min_eq_left c]
  ·rw [Nat.min_eq_right c];exact(w8 (fun k=>(S k).ls) (fun q=>(fx q).wl=true) (fun k hk hn=>(hS k _ (jo hk)).2.2.2.1 (by simpa using hn)) p kl c M fun q hq _ hw=>by rw [(l q hq).1] at hw; cases hw).symm
 have g:(S (min kh p)).h=(S kh).h:=by
  rcases Nat.le_total kh p with c|c
  ·rw [Nat.min_eq_left c]
  ·rw [Nat.min_eq_right c];exact(w8 (fun k=>(S k).h) (fun q=>(fx q).wh=true) (fun k hk hn=>(hS k _ (jo hk)).2.2.2.2.1 (by simpa using hn)) p kh c N fun q hq _ hw=>by rw [(l q hq).2] at hw; cases hw).symm
 have O:tX ops S fx j0 w0 O0 aZ lim j w jl (min kl p) (min kh p):=⟨by omega,by omega,cut (W:=Fx.wl) C fun q hq=>(l q hq).1,cut (W:=Fx.wh) E fun q hq=>(l q hq).2,by rw [el,g]; exact F,by rw [g]; exact G,by rw [g]; exact H⟩;have K:tX ops S' gA j0 w0 O0 aZ lim j w jl (min kl p) (min kh p):=⟨by omega,by omega,I (W:=Fx.wl) C,I (W:=Fx.wh) E,by rw [f _ (by omega),f _ (by omega),el,g]; exact F,by rw [f _ (by omega),g]; exact G,
  by rw [f _ (by omega),g]; exact H⟩
 refine⟨min kl p,min kh p,by omega,by omega,O,K,hinv.jm,hinv.tV,hinv.gq,hinv.k_,fun k hk q hq=>?_,hinv.defers,hinv.rM,hinv.agree,fun t=>?_,⟨_,_,K⟩,hinv.nd,fun m b hm=>?_⟩
 ·have Q:k<p:=Nat.lt_of_not_le fun c=>r k c hk;exact hinv.closed k hk q (hq.imp id fun h=>(IW s Q).1 h)
 ·obtain⟨k,h1,h2,R⟩:=hinv.tm t;refine⟨min k p,by omega,fun q o u hd=>?_, ?_⟩
  ·rcases Nat.lt_or_ge q p with c|c
   ·rw [h2 q o u hd]; omega
   ·exact⟨fun h=>(r q c h).elim,fun h=>by omega⟩
  ·rw [f _ (by omega)];have:get (S (min k p)).ts t=get (S k).ts t:=by
    rcases Nat.le_total k p with c|c
    ·rw [Nat.min_eq_left c]
    ·rw [Nat.min_eq_right c];exact(w8 (fun k=>get (S k).ts t) (fun q=>∃o,ops[q]?=some o/\o.dst=some t) (Df hS t) p k c h1 fun q hq U ⟨o,u,hd⟩=>r q hq ((h2 q o u hd).2 U)).symm
   rw [this]; exact R
 ·obtain⟨g1,g2,g0,o,z,d,cs,e,g3,g4,g5,g6,g7⟩:=hinv.pP m b hm;have y:m<p:=Nat.lt_of_not_le fun c=>B m c ((hinv.gq m).2 (.inr ⟨b,hm⟩));exact⟨g1,by rw [s m y]; exact g2,g0,o,z,d,cs,e,g3,g4,by rw [L m y,f m (by omega)]; exact g5,by rw [f m (by omega),f (m+1) y]; exact g6,g7⟩
def IX [bP] (P:Program) (ops:Array Oper) (n p:Nat) (S:Nat->St) (fx:Nat->Fx) (v:Nat->V) (Qc:St->Prop) (x:V):Prop :=
 ∃(S':Nat->St) (gA:Nat->Fx) (v':Nat->V),(∀k,k<=p->S' k=S k)/\(∀k,k<p->gA k=fx k)/\(∀k,k<p->v' k=v k)/\v' p=x/\gA p={ rh:=true }/\(∀k o,ops[k]?=some o->mh P ops n S' gA v' k o) /\
  (∀k o,k≠p->ops[k]?=some o->jc P ops n o (S' k).ts (S' k).ls (S' k).h (gA k) (v' k) (S' (k+1)).ls (S' (k+1)).h) /\
  (∀i k oi ok,i<k->ops[i]?=some oi->ops[k]?=some ok->vo ops gA i k\/(oi.apart ops ok=true/\(gA i).iH (gA k)=false))/\Qc (S' ops.size)/\∀k,k<=ops.size->(S' k).n=n
theorem PB (aJ:∀k o,ops[k]?=some o->∀e,e∈o.after.toList->Region.binds .any e=true->e.on<k)
  (c_:∀i k oi ok,i<k->ops[i]?=some oi->ops[k]?=some ok->vo ops fx i k\/(oi.apart ops ok=true/\(fx i).iH (fx k)=false))
  (hS:∀k o,ops[k]?=some o->mh P ops n S fx v k o) (hC:∀k o,k<p->ops[k]?=some o->jc P ops n o (S k).ts (S k).ls (S k).h (fx k) (v k) (S (k+1)).ls (S (k+1)).h)
  {op:Oper}(s:ops[p]?=some op) (hg:op.guard=none) (ct:∀k,p<k->k<ops.size->ord ops p k) (L:∀k,p<=k->(fx k).wl=false/\(fx k).wh=false) (al:(fx p).rh=true){Qc:St->Prop}{R:V->Prop}
  (hN:DW P op (S p).ts (S p).h R) (am:∀x,R x->IX P ops n p S fx v Qc x)
  {Q:Exit->Act->World->Prop}(an:∀σ j w jl a,Qc σ->fS j w jl σ a->bT j0 w0 O0 j w (aU j σ.h jl)->Q .normal a w) :
  ∀(fuel:Nat) (bU aZ:Array Bool) (lim:List (Nat×Nat)) (tv:Nat->Value) (j:J) (w:World) (jl:List Nat) (a:Act),¬bh bU p->((List.range ops.size).filter fun i=>!bU.getD i false).length<=fuel ->
   Inv ops S fx v n j0 w0 O0 bU aZ lim tv j w jl a->(∀m b,(m,b)∈lim->∃q,jd ops fx q m/\¬bh aZ q)->wpAny P .any ops Q fuel bU a w:=by
 have z:=nB s;intro fuel;induction fuel with
 | zero =>
  intro bU aZ lim tv j w jl a t ao hinv aa;refine(t ?_).elim;rcases hr:bU.getD p false with _|_
  ·have:p∈(List.range ops.size).filter fun i=>!bU.getD i false:=by simp only [List.mem_filter,List.mem_range]; exact⟨z,by rw [hr]; rfl⟩
   have:=List.length_pos_of_mem this; omega
  ·exact hr
 | succ fuel ab =>
  intro bU aZ lim tv j w jl a t ao hinv aa;refine⟨fun hr=>(t (HC aJ hinv.jm hr p z)).elim,fun i hi=>?_⟩;obtain⟨o,g,M,l,B⟩:=De hi hinv.jm;have C:i<bU.size:=by rw [hinv.jm]; exact M
  have N:((List.range ops.size).filter fun q=>!(bU.setIfInBounds i true).getD q false).length<=fuel:=by
   have aF:((List.range ops.size).filter fun q=>!(bU.setIfInBounds i true).getD q false).length<((List.range ops.size).filter fun q=>!bU.getD q false).length:=by
    have ap:((List.range ops.size).filter fun q=>!(bU.setIfInBounds i true).getD q false)=((List.range ops.size).filter fun q=>!bU.getD q false).filter (fun q=>q != i):=by
     rw [List.filter_filter];refine List.filter_congr fun q _=>?_;by_cases O:q=i
     ·subst O;have u:bh (bU.setIfInBounds q true) q:=(bh.set C).2 (.inl rfl);unfold bh at u;rw [u]; simp
     ·have u:bh (bU.setIfInBounds i true) q↔bh bU q:=by rw [bh.set C]; simp [O]
      unfold bh at u;rcases h1:(bU.setIfInBounds i true).getD q false with _|_<;>rcases h2:bU.getD q false with _|_<;>rw [h1,h2] at u<;>simp at u<;>simp [O]
    rw [ap];refine List.length_filter_lt_length_iff_exists.2 ⟨i, ?_,by simp⟩;simp only [List.mem_filter,List.mem_range];refine⟨M, ?_⟩;unfold bh at l;simp at l ⊢; exact l
   omega
  have U:∀q,ord ops q i->bh bU q:=fun q hq=>z_ aJ g hinv.k_ B hq;have E:∀q,ord ops q i->bh aZ q:=fun q hq=>((hinv.gq q).1 (U q hq)).elim id fun⟨b,h⟩=>(HB hinv aa U q b h hq).elim;have F:∀k,p<=k->¬bh bU k:=fun k hk c=>by
   rcases Nat.eq_or_lt_of_le hk with e|e
   ·subst e; exact t c
   ·refine t (hinv.k_ k c p (ct k e ?_));rcases Nat.lt_or_ge k ops.size with h|h
    ·exact h
    ·unfold bh at c; rw [Array.getD_eq_getD_getElem?,Array.getElem?_eq_none (by rw [hinv.jm]; exact h)] at c; cases c
  by_cases ad:i=p
  ·subst ad;rw [s] at g;simp only [Option.some.injEq] at g;subst g;have ae:(fx i).nu=false:=Classical.byContradiction fun c=>by
    have:=((hS i _ s).2.2.2.2.2 (by simpa using c)).1;rw [(L i (Nat.le_refl _)).1] at this; cases this
   have af:∀q,vo ops fx q i->bh aZ q:=fun q h=>h.elim (E q) fun h=>by rw [h.2.1] at ae; cases ae
   have ar:¬bh aZ i:=fun c=>l ((hinv.gq i).2 (.inl c));obtain⟨kl,kh,ai,y,f,_,_⟩:=hinv.switch (P:=P) (S':=S) (gA:=fx) (v':=v) (Nat.le_of_lt z) hS (fun _ _=>rfl) (fun _ _=>rfl) (fun _ _=>rfl) L F;have hH:(S kh).h=(S i).h:=Ac c_ hS s ar hinv.closed af f.2.1 f.2.2.2.1 (by rw [al]; rfl);have av:=Hw c_ hS hinv s l af;have aj:=f.2.2.2.2.1;rw [hH] at aj;unfold wpOp
   simp only [s];rw [if_pos (rJ hg)];refine .inl (hN (S kl).ls j w jl a aj (Dc av) _ _ fun x cv j' w' bp hx hv hl aw he=>?_);obtain⟨S',gA,v',r,a2,a3,a4,a5,W,ax,X,a9,ay⟩:=am x hx;obtain⟨aG,aK,aL,aM,t1,t2,az⟩:=hinv.switch (P:=P) (S':=S') (gA:=gA) (v':=v') (Nat.le_of_lt z) hS r a2 a3 L F;have aN:∀q k,k<i->(jd ops gA q k↔jd ops fx q k):=fun q k hk=>IW a2 hk
   have aA:tX ops S' gA j0 w0 O0 aZ lim j w jl kl kh:=by
    refine⟨f.1,f.2.1,fun q hq hw=>?_,fun q hq hw=>?_,by rw [r _ ai,r _ y]; exact f.2.2.2.2.1,by rw [r _ y]; exact f.2.2.2.2.2.1,by rw [r _ y]; exact f.2.2.2.2.2.2⟩
    ·rcases Nat.lt_or_ge q i with c|c
     ·rw [a2 q c] at hw; exact f.2.2.1 q hq hw
     ·exact⟨fun h=>(F q c ((hinv.gq q).2 (.inl h))).elim,fun h=>by omega⟩
    ·rcases Nat.lt_or_ge q i with c|c
     ·rw [a2 q c] at hw; exact f.2.2.2.1 q hq hw
     ·exact⟨fun h=>(F q c ((hinv.gq q).2 (.inl h))).elim,fun h=>by omega⟩
   have aB:∀q,vo ops gA q i->bh aZ q:=fun q h=>h.elim (E q) fun h=>by have:=h.2.1; rw [a5] at this; cases this
   have aC:=Hx aJ X W az aA s l B aB (cv:=cv) (j':=j') (w':=w') (bp:=bp) (by rw [a4]; exact hv) (by rw [a5]; show HL j' w' bp (S' kl).ls (S' kh).h; rw [r _ ai,r _ y,hH]; exact hl) aw
    (by rw [a5]; show bT j w (aU j (S' kh).h jl) j' w' (aU j' (S' kh).h bp); rw [r _ y,hH]; exact he)
   refine settle X W _ (Nat.le_refl _) aC fun G H I K h1 h2=>?_;exact HD aJ X W (D:=fun k=>k=i) (fun k o hk g=>ax k o hk g) (fun j w jl a aD he _=>an _ j w jl a a9 aD he) ay _ _ _ _ _ _ _ _ _ (fun k hk=>by subst hk; exact(bh.set C).2 (.inl rfl)) N h1 h2
  ·have aE:i<p:=by
    rcases Nat.lt_or_ge i p with c|c
    ·exact c
    ·exact(t (U p (ct i (by omega) M))).elim
   have ak:¬bh (bU.setIfInBounds i true) p:=fun c=>((bh.set C).1 c).elim (fun e=>ad e.symm) t;by_cases c:∀q,jd ops fx q i->bh aZ q
   ·refine Hy aJ c_ hS hinv g (hC i o aE g) l B (fun q h=>h.elim (E q) (c q)) fun aO j' w' bp Y Z=>?_;exact settle c_ hS _ (Nat.le_refl _) Z fun G H I K h1 h2=>ab _ G H I j' w' K Y ak N h1 h2
   ·have:(fx i).nu=true:=Classical.byContradiction fun c'=>c fun q hq=>(c' hq.2.1).elim;refine Hz aJ c_ hS hinv g l B E this fun w' Y b Z=>?_;exact settle c_ hS _ (Nat.le_refl _) Z fun G H I K h1 h2=>ab _ G H I j w' K Y ak N h1 h2
end
end Go.Ab
namespace Go.Ab
open Go Go.RowKit
variable {ak:bP}
variable {fE:ez}
inductive dN [bP] (P:Program) (ops:Array Oper) (n:Nat) (Q:St->Prop):List Oper->List Fx->St->Prop where
 | IY {o:Oper}{rest:List Oper}{done:List Fx}{ts:Ts}{ls:List (List D)}{h:ah}{R:V->Prop}(hg:o.guard=none) (hd:(o::rest).all (fun o=>jb o.dst n)=true) (hN:DW P o ts h R)
   (AB:nA ops (done.reverse++({ rh:=true }::List.replicate rest.length ({}:Fx)))=true) (ct:(List.range rest.length).all (fun m=>((iS ops.toList []).getD (done.length+1+m) 0).testBit done.length)=true)
   (hr:∀x,R x->aH P ops n rest ({ rh:=true }::done) Q ⟨n,gL o.dst x ts,ls,h⟩):dN P ops n Q (o::rest) done ⟨n,ts,ls,h⟩
 | cons {o:Oper}{rest:List Oper}{done:List Fx}{ts:Ts}{ls aS:List (List D)}{h h':ah}{fx:Fx}{v:V}(hc:jc P ops n o ts ls h fx v aS h')
   (hr:dN P ops n Q rest (fx.plain::done) ⟨n,gL o.dst v ts,(bif fx.wl then aS else ls),(bif fx.wh then h' else h)⟩):dN P ops n Q (o::rest) done ⟨n,ts,ls,h⟩
section
variable {P:Program}{ops:Array Oper}{n:Nat}{Q:St->Prop}
theorem dN.spec {l:List Oper}{done:List Fx}{σ:St}(hd:dN P ops n Q l done σ):∃(p:Nat) (S:Nat->St) (fx:Nat->Fx) (v:Nat->V) (o:Oper) (R:V->Prop),l[p]?=some o/\o.guard=none/\S 0=σ/\(∀k,k<=p->(S k).n=n) /\
  (∀k o,k<p->l[k]?=some o->mg P ops n S fx v k o)/\(∀k o,p<=k->l[k]?=some o->jb o.dst n=true)/\DW P o (S p).ts (S p).h R /\
  nA ops (done.reverse++((List.range p).map fx++({ rh:=true }::List.replicate (l.length-p-1) ({}:Fx))))=true /\
  (∀m,m<l.length-p-1->((iS ops.toList []).getD (done.length+p+1+m) 0).testBit (done.length+p)=true) /\
  ∀x,R x->aH P ops n (l.drop (p+1)) ({ rh:=true }::(((List.range p).map fx).reverse++done)) Q ⟨n,gL o.dst x (S p).ts,(S p).ls,(S p).h⟩:=by
 induction hd with
 | @IY o rest done ts ls h R hg hd hN AB ct hr =>
  refine⟨0,fun _=>⟨n,ts,ls,h⟩,fun _=>{},fun _=>.any,o,R,rfl,hg,rfl,fun _ _=>rfl,fun k o hk=>by omega,fun k o' _ hk=>?_,hN,by simpa using AB,fun m hm=>?_,by simpa using hr⟩
  ·exact List.all_eq_true.1 hd o' (List.mem_of_getElem? hk)
  ·have:=List.all_eq_true.1 ct m (List.mem_range.2 (by simpa using hm))
   simpa using this
 | @cons o rest done ts ls aS h h' fx v hc hr g =>
  obtain⟨p,S,f,u,o1,R,h1,h2,h0,r,s,t,y,z,B,C⟩:=g;refine⟨p+1,fun k=>match k with|0=>⟨n,ts,ls,h⟩|k+1=>S k,fun k=>match k with|0=>fx.plain|k+1=>f k,fun k=>match k with|0=>v|k+1=>u k,o1,R,by simpa using h1,h2,rfl,fun k hk=>?_,fun k o' hk b=>?_,
   fun k o' hk b=>?_,y, ?_,fun m hm=>?_,fun x hx=>?_⟩
  ·cases k with
   | zero=>rfl
   | succ k=>exact r k (by omega)
  ·cases k with
   | zero =>
    simp only [List.getElem?_cons_zero,Option.some.injEq] at b;subst b;unfold mg;dsimp only;rw [h0];refine⟨⟨hc.1,fun L H E hH j w jl a hl b K Q hk=>?_⟩,rfl,rfl,fun e=>by have e:fx.wl=false:=e; simp [e],fun e=>by have e:fx.wh=false:=e; simp [e],fun e=>by cases e⟩;have:=hc.2 L H E hH j w jl a hl b K Q
    revert hk
    show (∀cv j' w' bp,_->HL j' w' bp (bif fx.wl then(bif fx.wl then aS else ls) else L) (bif fx.wh then(bif fx.wh then h' else h) else H)->_->bT j w (aU j H jl) j' w' (aU j' (bif fx.wh then(bif fx.wh then h' else h) else H) bp)->_)->_;cases F:fx.wl<;>cases G:fx.wh<;>simp only [F,G,cond_true,cond_false] at this ⊢<;>exact this
   | succ k =>
    simp only [List.getElem?_cons_succ] at b;exact s k o' (by omega) b
  ·obtain⟨k,rfl⟩:∃q,k=q+1:=⟨k-1,by omega⟩;simp only [List.getElem?_cons_succ] at b;exact t k o' (by omega) b
  ·rw [List.range_succ_eq_map,List.map_cons,List.map_map,List.length_cons,show rest.length+1-(p+1)-1=rest.length-p-1 by omega]
   simpa [Function.comp_def] using z
  ·have:=B m (by simp only [List.length_cons] at hm; omega);rw [List.length_cons] at this;rw [show done.length+(p+1)+1+m=done.length+1+p+1+m by omega,show done.length+(p+1)=done.length+1+p by omega]; exact this
  ·have:=C x hx;rw [List.range_succ_eq_map,List.map_cons,List.map_map,List.drop_succ_cons]
   simpa [Function.comp_def] using this
def rV (l:List Oper) (p:Nat) (t0:Ts):Nat->Ts
 | 0=>t0
 | m+1=>match l[p+1+m]? with
  | some o=>gL o.dst .any (rV l p t0 m)
  | none=>rV l p t0 m
theorem dN.wp (hm:P.follows .mixedOrders=true){id:Nat}{l:List Oper}{σ:St}(hd:dN P l.toArray n Q l [] σ)
  {j:J}{w:World}{jl:List Nat}{a:Act}(K:fS j w jl σ a){Qc:Exit->Act->World->Prop}
  (hk:∀C j' w' bp L,Q C->fS j' w' bp C L->bT j w (aU j σ.h jl) j' w' (aU j' C.h bp)->Qc .normal L w'):(Code.region id l.toArray true).wp P Qc a w:=by
 obtain⟨p,S,fx,v,o,R,h1,h2,h0,M,X,Y,am,an,ao,ap⟩:=hd.spec;have ar:p<l.length:=(List.getElem?_eq_some_iff.1 h1).1
 let B:Nat->St:=fun k=>if k<=p then S k else⟨n,rV l p (gL o.dst .any (S p).ts) (k-p-1),(S p).ls,(S p).h⟩
 let F:Nat->Fx:=fun k=>if k<p then fx k else if k=p then { rh:=true } else {}
 let E:Nat->V:=fun k=>if k<p then v k else .any
 have s:∀k,k<=p->B k=S k:=fun k hk=>if_pos hk;have Z:∀k,p<k->B k=⟨n,rV l p (gL o.dst .any (S p).ts) (k-p-1),(S p).ls,(S p).h⟩:=fun k hk=>if_neg (by omega);have N:∀k,k<p->F k=fx k:=fun k hk=>if_pos hk;have O:F p={ rh:=true }:=by show (if p<p then _ else if p=p then _ else _)=_; rw [if_neg (by omega),if_pos rfl]
 have aa:∀k,p<k->F k={}:=fun k hk=>by show (if k<p then _ else if k=p then _ else _)=_; rw [if_neg (by omega),if_neg (by omega)]
 have ab:∀k,k<p->E k=v k:=fun k hk=>if_pos hk;have ad:∀k,p<=k->E k=.any:=fun k hk=>if_neg (by omega);have at_:∀{k:Nat}{x:Oper},l.toArray[k]?=some x->l[k]?=some x:=fun h=>by simpa using h
 have ae:∀(G:Nat->Fx) (r:List Fx),(∀k,k<p->G k=fx k)->G p={ rh:=true }->r=(List.range (l.length-p-1)).map (fun m=>G (p+1+m))->(List.range l.toArray.toList.length).map G=(List.range p).map fx++({ rh:=true }::r):=fun G r g1 g2 g3=>by
  subst g3;refine List.ext_getElem? fun k=>?_;rcases Nat.lt_trichotomy k p with c|c|c
  ·rw [List.getElem?_append_left (by simpa using c)];simp [List.getElem?_map,List.getElem?_range,c,show k<l.length by omega,g1 k c]
  ·subst c;rw [List.getElem?_append_right (by simp)];simp [List.getElem?_map,List.getElem?_range,ar,g2]
  ·rw [List.getElem?_append_right (by simp; omega)];obtain⟨m,rfl⟩:∃m,k=p+1+m:=⟨k-p-1,by omega⟩;rw [show p+1+m-((List.range p).map fx).length=m+1 by simp; omega,List.getElem?_cons_succ];by_cases H:m<l.length-p-1
   ·simp [List.getElem?_map,List.getElem?_range,H,show p+1+m<l.length by omega]
   ·simp [List.getElem?_map,H,show ¬p+1+m<l.length by omega]
 have okF:nA l.toArray ((List.range l.toArray.toList.length).map F)=true:=by
  rw [ae F (List.replicate (l.length-p-1) ({}:Fx)) N O ?_]
  ·simpa using an
  ·refine List.ext_getElem? fun m=>?_;by_cases H:m<l.length-p-1
   ·simp [List.getElem?_replicate,List.getElem?_map,List.getElem?_range,H,aa (p+1+m) (by omega)]
   ·simp [List.getElem?_replicate,List.getElem?_map,H]
 obtain⟨aJ,c_⟩:=Dd (ops:=l.toArray) (fx:=F) okF;have hS:∀k x,l.toArray[k]?=some x->mh P l.toArray n B F E k x:=fun k x hx=>by
  have hx:=at_ hx;rcases Nat.lt_trichotomy k p with c|c|c
  ·have:=(X k x c hx).w;unfold mh at this ⊢;rw [s k (by omega),s (k+1) (by omega),N k c,ab k c]; exact this
  ·subst c;rw [h1] at hx;simp only [Option.some.injEq] at hx;subst hx;unfold mh;rw [s k (Nat.le_refl _),Z (k+1) (by omega),O,ad k (Nat.le_refl _),show k+1-k-1=0 by omega];exact⟨Y k o (Nat.le_refl _) h1,(M k (Nat.le_refl _)).symm,rfl,fun _=>rfl,fun _=>rfl,fun e=>by cases e⟩
  ·unfold mh;rw [Z k c,Z (k+1) (by omega),aa k c,ad k (by omega)];refine⟨Y k x (by omega) hx,rfl, ?_,fun _=>rfl,fun _=>rfl,fun e=>by cases e⟩;obtain⟨m,rfl⟩:∃m,k=p+1+m:=⟨k-p-1,by omega⟩;show rV l p _ (p+1+m+1-p-1)=gL x.dst .any (rV l p _ (p+1+m-p-1));rw [show p+1+m+1-p-1=m+1 by omega,show p+1+m-p-1=m by omega,rV,hx]
 have av:∀x,R x->IX P l.toArray n p B F E Q x:=fun x hx=>by
  obtain⟨af,f2,v2,aw,ax,ay,az⟩:=ap x hx
  let S':Nat->St:=fun k=>if k<=p then S k else af (k-p-1)
  let g:Nat->Fx:=fun k=>if k<p then fx k else if k=p then { rh:=true } else f2 (k-p-1)
  let v':Nat->V:=fun k=>if k<p then v k else if k=p then x else v2 (k-p-1)
  have I:∀k,k<=p->S' k=S k:=fun k hk=>if_pos hk;have U:∀m,S' (p+1+m)=af m:=fun m=>by show (if _ then _ else _)=_; rw [if_neg (by omega),show p+1+m-p-1=m by omega]
  have g1:∀k,k<p->g k=fx k:=fun k hk=>if_pos hk;have g2:g p={ rh:=true }:=by show (if p<p then _ else if p=p then _ else _)=_; rw [if_neg (by omega),if_pos rfl]
  have g3:∀m,g (p+1+m)=f2 m:=fun m=>by show (if _ then _ else if _ then _ else _)=_; rw [if_neg (by omega),if_neg (by omega),show p+1+m-p-1=m by omega]
  have ai:∀k,k<p->v' k=v k:=fun k hk=>if_pos hk;have aj:v' p=x:=by show (if p<p then _ else if p=p then _ else _)=_; rw [if_neg (by omega),if_pos rfl]
  have aA:∀m,v' (p+1+m)=v2 m:=fun m=>by show (if _ then _ else if _ then _ else _)=_; rw [if_neg (by omega),if_neg (by omega),show p+1+m-p-1=m by omega]
  have bZ:∀k y,k≠p->l.toArray[k]?=some y->mg P l.toArray n S' g v' k y:=fun k y z f=>by
   have f:=at_ f;rcases Nat.lt_or_ge k p with c|c
   ·have:=X k y c f;unfold mg at this ⊢;rw [I k (by omega),I (k+1) (by omega),g1 k c,ai k c]; exact this
   ·obtain⟨m,rfl⟩:∃m,k=p+1+m:=⟨k-p-1,by omega⟩;have:=ax m y (by rw [List.getElem?_drop]; exact f);unfold mg at this ⊢;rw [show p+1+m+1=p+1+(m+1) by omega,U m,U (m+1),g3,aA]; exact this
  have ak:S' (p+1)=⟨n,gL o.dst x (S p).ts,(S p).ls,(S p).h⟩:=by have:=U 0; rw [Nat.add_zero] at this; rw [this,aw]
  have aB:nA l.toArray ((List.range l.toArray.toList.length).map g)=true:=by
   rw [ae g ((List.range (l.length-p-1)).map fun m=>g (p+1+m)) g1 g2 rfl];have al:=ay;rw [show (fun m=>g (p+1+m))=f2 from funext g3];have hl:(l.drop (p+1)).length=l.length-p-1:=by simp; omega
   rw [hl] at al
   simpa using al
  refine⟨S',g,v',fun k hk=>by rw [I k hk,s k hk],fun k hk=>by rw [g1 k hk,N k hk],fun k hk=>by rw [ai k hk,ab k hk],aj,g2,fun k y f=>?_,fun k y z f=>(bZ k y z f).1,(Dd (ops:=l.toArray) (fx:=g) aB).2, ?_, ?_⟩
  ·by_cases c:k=p
   ·subst c;have f:=at_ f;rw [h1] at f;simp only [Option.some.injEq] at f;subst f;unfold mh;rw [I k (Nat.le_refl _),ak,g2,aj];exact⟨Y k o (Nat.le_refl _) h1,(M k (Nat.le_refl _)).symm,rfl,fun _=>rfl,fun _=>rfl,fun e=>by cases e⟩
   ·exact(bZ k y c f).w
  ·have:l.toArray.size=p+1+(l.drop (p+1)).length:=by simp; omega
   rw [this,U]; exact az
  ·have hn:∀k,k<=l.toArray.size->(S' k).n=n:=by
    intro k;induction k with
    | zero=>intro _; rw [I 0 (by omega)]; exact M 0 (by omega)
    | succ k aC =>
     intro hk;by_cases c:k=p
     ·subst c; rw [ak]
     ·rw [(bZ k _ c (jo (by omega))).2.1]; exact aC (by omega)
   exact hn
 refine wp_region_any hm ?_;have aD:∀k,p<k->k<l.toArray.size->ord l.toArray p k:=fun k h1 h2=>by
  obtain⟨m,rfl⟩:∃m,k=p+1+m:=⟨k-p-1,by omega⟩;have:=ao m (by simp at h2; omega);unfold ord
  simpa using this
 refine PB (P:=P) (n:=n) (S:=B) (fx:=F) (v:=E) (p:=p) (j0:=j) (w0:=w) (O0:=aU j σ.h jl) aJ c_ hS (fun k x z hx=>?_) (op:=o) (by simpa using h1) h2 aD (fun k hk=>?_) (by rw [O]) (Qc:=Q) (R:=R) (by rw [s p (Nat.le_refl _)]; exact am) av
  (fun C j' w' bp L hq aE he=>hk C j' w' bp L hq aE he) _ (Array.replicate l.toArray.size false) (Array.replicate l.toArray.size false) [] (fun t=>a.tmps.getD t undef) j w.drew jl a ?_ ?_ ?_ (fun m b h=>by simp at h)
 ·have:=(X k x z (at_ hx)).1;rw [s k (by omega),s (k+1) (by omega),N k z,ab k z]; exact this
 ·rcases Nat.eq_or_lt_of_le hk with e|e
  ·subst e; rw [O]; exact⟨rfl,rfl⟩
  ·rw [aa k e]; exact⟨rfl,rfl⟩
 ·intro h;unfold bh at h;rw [Array.getD_eq_getD_getElem?,Array.getElem?_replicate] at h
  split at h<;>simp at h
 ·have:=List.length_filter_le (fun i=>!(Array.replicate l.toArray.size false).getD i false) (List.range l.toArray.size)
  simpa using this
 ·have u:∀q,¬bh (Array.replicate l.toArray.size false) q:=by
   intro q h;unfold bh at h;rw [Array.getD_eq_getD_getElem?,Array.getElem?_replicate] at h
   split at h<;>simp at h
  have W:B 0=σ:=by rw [s 0 (by omega),h0]
  have aF:σ.n=n:=by rw [<- W,s 0 (by omega)]; exact M 0 (by omega)
  refine⟨by simp,by simp,fun i=>⟨fun h=>(u i h).elim,fun h=>h.elim (fun h=>(u i h).elim) fun⟨b,h⟩=>by simp at h⟩,fun k h=>(u k h).elim,fun k h=>(u k h).elim,K.defers,by rw [K.size,aF],fun _ _=>rfl,
   fun t=>⟨0,Nat.zero_le _,fun q _ _ _=>⟨fun h=>(u q h).elim,fun h=>by omega⟩, ?_⟩,
   ⟨0,0,Nat.zero_le _,Nat.zero_le _,fun q _ _=>⟨fun h=>(u q h).elim,fun h=>by omega⟩,fun q _ _=>⟨fun h=>(u q h).elim,fun h=>by omega⟩, ?_, ?_,fun m b h=>by simp at h⟩,.nil,fun m b h=>by simp at h⟩
  ·rw [W]; exact(K.tmps t).mono (bT.drew j w (aU j σ.h jl)).toLe (Ext.refl _)
  ·rw [W]; exact K.hl.drew
  ·rw [W]; exact bT.drew _ _ _
end
end Go.Ab
namespace Go.Ab
open Go Go.RowKit
variable {ak:bP}
variable {fE:ez}
section
variable {P:Program}{ops:Array Oper}{rest:List Oper}{done:List Fx}{Q:St->Prop}{n:Nat}{ts:Ts}{ls:List (List D)}{h:ah}{d:Nat}{op:Op}{ty:TypeId}{pos:String}{aD:Array Edge}{fx:Fx}{v:V}
theorem dN.s0 (f:aq P ⟨some d,op,ty,pos,aD,none⟩ ts ls h fx v ls h) (hd:Nat.blt d n=true) (hr:dN P ops n Q rest (fx.plain::done) ⟨n,(d,v)::ts,ls,h⟩):dN P ops n Q (⟨some d,op,ty,pos,aD,none⟩::rest) done ⟨n,ts,ls,h⟩ :=
 dN.cons (jc.plain f rfl hd) (by cases fx with|mk a b c d e=>cases b<;>cases d<;>exact hr)
theorem dN.call {f:Operand}{args:Array Operand}{cn:Array TypeId}{dY:FuncId}{cr:List D}{xs:List A}{K:A->Prop}(b:ev ts f=.a (.d (.func dY cr))) (g:ic ts args.toList=some xs)
  (hc:AC P dY (xs++cr.map .d) h fun v h'=>(∃x,K x/\v=.a x)/\h'=h) (hd:(⟨some d,.call { callee:=.value f,args:=args,argTypes:=cn },ty,pos,aD,none⟩::rest:List Oper).all (fun o=>jb o.dst n)=true)
  (AB:nA ops (done.reverse++({ rh:=true }::List.replicate rest.length ({}:Fx)))=true) (ct:(List.range rest.length).all (fun m=>((iS ops.toList []).getD (done.length+1+m) 0).testBit done.length)=true)
  (hr:∀x,K x->aH P ops n rest ({ rh:=true }::done) Q ⟨n,(d,.a x)::ts,ls,h⟩) :
  dN P ops n Q (⟨some d,.call { callee:=.value f,args:=args,argTypes:=cn },ty,pos,aD,none⟩::rest) done ⟨n,ts,ls,h⟩:=by
 refine dN.IY (R:=fun v=>∃x,K x/\v=.a x) rfl hd (fun L j w jl a hl k l Qc hk=>?_) AB ct fun v ⟨x,hx,e⟩=>by subst e; exact hr x hx
 exact ue b g hc j w jl a hl k l Qc fun v aS h' cv j' w' bp ⟨⟨hx,p⟩,q⟩=>by subst p q; exact hk v cv j' w' bp hx
theorem ag.IZ {σ:St}{Q:Exit->St->Prop}(hm:P.follows .mixedOrders=true){id:Nat}{l:List Oper}(h:dN P l.toArray σ.n (Q .normal) l [] σ):ag P (.region id l.toArray true) Q σ:=by
 intro j w jl a b;exact dN.wp hm h b fun f j' w' bp m hq g k=>⟨f,j',bp,hq,g,k⟩
end
end Go.Ab
/-
 Calls whose result is told by what follows; sets of strings with empty values; memos that are made. No program text.
-/
namespace Go.Ab
open Go Go.RowKit
variable {ak:bP}
def nN {ρ β:Type}(C:Bool) (g:(ρ->Option β)->Option β) (d:ρ) (k:ρ->Option β):Option β:=bif C then g k else k d
theorem AD {ρ β:Type}{C:Bool}{g:(ρ->Option β)->Option β}{d:ρ}{k:ρ->Option β}{b:β}(h:nN C g d k=some b) (hC:C=true):g k=some b:=by subst hC; exact h
theorem AE {ρ β:Type}{C:Bool}{g:(ρ->Option β)->Option β}{d:ρ}{k:ρ->Option β}{b:β}(h:nN C g d k=some b){r:ρ}(h1:C=true->k r=some b) (h2:C=false->r=d):k r=some b:=by
 cases C with
 | false=>cases h2 rfl; exact h
 | true=>exact h1 rfl
section
variable {fE:ez}{P:Program}{n:Nat}{ts:Ts}{ls:List (List D)}{h:ah}
theorem aI.DX {ops:Array Oper}{rest:List Oper}{Q:St->Prop}(k:Nat){C:Bool}{R:Type}(e:R->D) (d:R){J:R->Prop}(hk:get ts k=.sm (C&&true) fun x=>∃r,x=.d (e r)/\J r)
  (hr:∀r,(C=true->J r)->(C=false->r=d)->aI P ops rest Q ⟨n,(k,.gd C (.d (e r)))::ts,ls,h⟩):aI P ops rest Q ⟨n,ts,ls,h⟩:=by
 intro j w jl a b Qc hq;have hv:bD j w jl (get ts k) (a.tmps.getD k undef):=b.tmps k;rw [hk,Bool.and_true] at hv;cases C with
 | true =>
  obtain⟨_,⟨r,rfl,f⟩,g⟩:=hv.1 rfl;exact hr r (fun _=>f) (fun e=>by cases e) j w jl a ⟨b.defers,b.size,Az b.tmps ⟨fun _=>g,fun e=>by cases e⟩,b.hl⟩ Qc hq
 | false=>exact hr d (fun e=>by cases e) (fun _=>rfl) j w jl a ⟨b.defers,b.size,Az b.tmps ⟨fun e=>(by cases e),hv.2⟩,b.hl⟩ Qc hq
theorem ag.PC {c:Code}{Q:Exit->St->Prop}(k:Nat){b:Bool}{J:Bool->Prop}(hk:get ts k=.sm true fun x=>∃r,x=.d (.bool r)/\((b=true/\J r)\/(b=false/\r=false)))
  (hr:∀r,(b=true->J r)->(b=false->r=false)->ag P c Q ⟨n,(k,.a (.d (.bool (b&&r))))::ts,ls,h⟩):ag P c Q ⟨n,ts,ls,h⟩:=by
 refine ag.kD k hk fun x ⟨r,hx,f⟩=>?_;subst hx;rcases f with ⟨rfl,f⟩|⟨rfl,rfl⟩
 ·exact hr r (fun _=>f) (fun e=>by cases e)
 ·exact hr false (fun e=>by cases e) (fun _=>rfl)
theorem ag.PD {c:Code}{Q:Exit->St->Prop}(id:Nat) (hi:h id=some (.map [])) (hw:ag P c Q ⟨n,ts,ls,h.set id (some gN)⟩):ag P c Q ⟨n,ts,ls,h⟩:=by
 intro j w jl a f;have hl:=f.hl;obtain⟨hn,b,l,r,bu,k,hg,ct,p,hB⟩:=hl.1.obj id _ hi;cases ct;have hblk:bQ j id gN=bQ j id (.map []):=by simp [bQ,k]
 refine wp_mono (hw j w jl a ⟨f.defers,f.size,f.tmps,⟨hl.1.mz hi hblk ⟨b,l,[],bu,k,hg,(fun m hm=>by cases hm),p⟩,⟨hl.2.each,hl.2.nodup,fun b q g=>hl.2.apart b q ((aU.mz hi hblk).1 g)⟩⟩⟩) fun e a w hq=>AQ.trans ?_ hq;exact { bT.refl j _ (aU j h jl) with own:=fun b _ g=>(aU.mz hi hblk).1 g }
end
def gw (l:List (List UInt8)):List (D×A):=l.map fun s=>(.str s,.agg [])
theorem PE (l:List (List UInt8)) (s:List UInt8):kA (.str s) (gw l)=some (if l.contains s then some (.agg []) else none):=by
 induction l with
 | nil=>rfl
 | cons x r b =>
  simp only [gw,List.map_cons,kA,pT,List.contains_cons];by_cases e:s=x
  ·subst e; simp
  ·have f:(s==x)=false:=by simpa using e
   simp only [f,Bool.false_or]; exact b
theorem PF (l:List (List UInt8)) (s:List UInt8):nF (.str s) (.agg []) (gw l)=some (gw (cB l s)):=by
 induction l with
 | nil=>rfl
 | cons x r f =>
  simp only [gw,List.map_cons,nF,pT,cB,List.contains_cons];by_cases e:s=x
  ·subst e; simp
  ·have g:(s==x)=false:=by simpa using e
   have b:=f;simp only [gw,cB] at b;simp only [g,Bool.false_or,b]
   split<;>simp_all
section
variable {P:Program}{dst:Option Tmp}{ty:TypeId}{pos:String}{aD:Array Edge}{g:Option (Nat×Bool)}{ts:Ts}{ls:List (List D)}{h:ah}
theorem aq.PG {t q u:TypeId}{z B C:TI}{x y:Operand}{id:Nat}{l:List (List UInt8)}{s:List UInt8}(I:bn P t=some z) (hk:z.k=.map q u) (J:bn P q=some B) (K:bn P u=some C) (hz:C.zero=some (.agg []))
  (hx:ev ts x=.a (.d (.map id))) (M:ev ts y=.a (.d (.str s))) (N:iy B.k (.str s)=true) (hm:h id=some (.map (gw l))):aq P (mk dst (.lookup t x y true) ty pos aD g) ts ls h { rh:=true } (.b_ [.agg [],.d (.bool (l.contains s))]) ls h :=
 mo.pQ ⟨rfl,rfl,fun L H _ hH j w jl a hl E=>by
  have h1:=E x (by simp [Op.operands]);have h2:=E y (by simp [Op.operands]);rw [hx] at h1; rw [M] at h2;rw [hH rfl] at hl;obtain⟨X,Y,O,_,Z,aa,_,F⟩:=gr K;rw [hz] at F;obtain⟨zv,Q,R⟩:=mi F;obtain⟨b,S,U⟩:=uh (hl.1.obj id _ hm).2 h1;have f:=PE l s;have key:∀(r:Option A) (m:Bool),kA (.str s) (gw l)=some r->r.isSome=m->(∀v,r=some v->v=.agg [])->∃cv,(execOp a.eval (mk dst (.lookup t x y true) ty pos aD g)).run P w=.ok (.value cv) w/\bD j w jl (.b_ [.agg [],.d (.bool m)]) cv:=fun r m f W hr=>by
   obtain⟨cv,G,p⟩:=DB (ok:=true) I hk J N U h2 f (zv:=zv) (fun _=>by simp [zeroValue,typeInfo,O,Q]);rw [W] at G;refine⟨_,by simp only [execOp,Sem.run_bind,S,G,Result.andThen,Sem.run_pure,if_true]; rfl,_,rfl,.cons ?_ (.cons (aF.bool _) .nil)⟩;cases r with
   | none=>dsimp only at p; subst p; exact R j w
   | some v=>rw [<- hr v rfl]; exact p
  cases hc:l.contains s with
  | true=>rw [hc] at f; exact key _ _ f rfl fun v e=>by cases e; rfl
  | false=>rw [hc] at f; exact key _ _ f rfl fun v e=>by cases e⟩
end
end Go.Ab
/-
 Scopes: code that no jump leaves.
-/
namespace Go.Ab
open Go Go.RowKit
variable {ak:bP}
def I1 (Q:Exit->St->Prop):Exit->St->Prop
 | .goto _,_=>False
 | e,σ=>Q e σ
theorem ag.scope [ez] {P:Program}{Q:Exit->St->Prop}{σ:St}{c:Code}(h:ag P c (I1 Q) σ):ag P (.scope c) Q σ:=fun j w jl a b =>
 wp_scope_straight (wp_mono (h j w jl a b) fun e g w' hq=>by
  cases e with
  | goto l=>obtain⟨_,_,_,f,_⟩:=hq; exact f.elim
  | normal=>exact hq
  | exit id=>exact hq
  | ret=>exact hq
  | panic k=>exact hq
  | outgrown=>exact hq)
theorem PI {Q:Exit->St->Prop}{σ:St}(h:Q .ret σ):I1 Q .ret σ:=h
end Go.Ab
/-
 The library's searches in strings,strconv.Atoi,as contracts. No program text.
-/
namespace Go.Ab
open Go Go.RowKit Go.Proofs Go.Shelf
variable {ak:bP}
theorem PJ {P:Program}{ρ:Ren}(L:Lays.n106 P ρ){s t:Bs}{F:Nat}(g:F=ρ.f 106){H:ah} :
  AC P F [.d (.str s),.d (.str t)] H fun v h'=>v=.a (.d (.int .i64 (Lib.compareBytes s t)))/\h'=H:=by
 subst g;refine AC.Pn (cR:=[]) (cv:=.int .i64 (Lib.compareBytes s t)) (enters_of L.f106 (by kernel_rfl) rfl) fun j w c' hr b=>?_;cases b with
 | cons k b =>
 cases b with
 | cons a2 b =>
 cases b
 rename_i v1 v2
 have l:aF j w (.str s) v1:=k;have m:aF j w (.str t) v2:=a2;cases l; cases m;refine⟨aF.int _ _, ?_⟩;have p:=Any.strings_Compare L ⟨s.toArray⟩ ⟨t.toArray⟩ w
 simpa using p
end Go.Ab
namespace Go.Ab
variable {ak:bP}
def on {α β:Sort _}(v:α) (k:α->β):β:=k v
namespace Q
universe u
variable {R O O2 Z:Type}{α:Type}
theorem DF {c:Bool}{a b r:α}(h:c=true) (h2:a=r):cond c a b=r:=by rw [h]; exact h2
theorem DG {c:Bool}{a b r:α}(h:c=false) (h2:b=r):cond c a b=r:=by rw [h]; exact h2
theorem nO {c:Bool}{a b:Option R}{x y:O}{K:O->Option R}(h1:a=K x) (h2:b=K y):cond c a b=K (cond c x y):=by cases c<;>assumption
theorem kE {c:Bool}{a b:Option R}{x y:Option O}{K:O->Option R}(h1:a=Option.bind x K) (h2:b=Option.bind y K):cond c a b=Option.bind (cond c x y) K:=by cases c<;>assumption
theorem ii {o:Option α}{v:α}{k:α->Option R}{K:O->Option R}{b:α->O}(h:o=some v) (h2:∀x,x=v->k x=K (b x)):o.bind k=K (on v b):=by rw [h]; exact h2 v rfl
theorem iB {o:Option α}{v:α}{k:α->Option R}{K:O->Option R}{b:α->Option O}(h:o=some v) (h2:∀x,x=v->k x=Option.bind (b x) K):o.bind k=Option.bind (on v b) K:=by rw [h]; exact h2 v rfl
theorem ji {o o':Option α}{k:α->Option R}{K:O->Option R}{b:α->Option O}(h:o=o') (h2:∀x,k x=Option.bind (b x) K):o.bind k=Option.bind (o'.bind b) K:=by
 rw [h]; cases o' with
 | none=>rfl
 | some v=>exact h2 v
theorem I2 {c:Bool}{o:Option α}{v d:α}{k:α->Option R}{K:O->Option R}{b:α->Option O}(h:o=some v) (h2:∀x,x=cond c v d->k x=Option.bind (b x) K):a_ c o d k=Option.bind (on (cond c v d) b) K:=by
 rw [h]; cases c<;>exact h2 _ rfl
theorem I3 {c:Bool}{o o':Option α}{d:α}{k:α->Option R}{K:O->Option R}{b:α->Option O}(h:o=o') (h2:∀x,k x=Option.bind (b x) K):a_ c o d k=Option.bind (a_ c o' d b) K:=by
 rw [h]; cases c with
 | false=>exact h2 d
 | true =>
  cases o' with
  | none=>rfl
  | some v=>exact h2 v
variable {lhs:Option R}
theorem jt {q:Z}{b:Z->O}{K:O->Option R}(h:∀f:Z->Option R,(∀o,f o=K (b o))->lhs=f q):lhs=K (on q b):=h (fun o=>K (b o)) fun _=>rfl
theorem lu {q:Z}{b:Z->Option O}{K:O->Option R}(h:∀f:Z->Option R,(∀o,f o=Option.bind (b o) K)->lhs=f q):lhs=Option.bind (on q b) K:=h (fun o=>Option.bind (b o) K) fun _=>rfl
theorem kF {q:Option Z}{b:Z->Option O}{K:O->Option R}(h:∀f:Z->Option R,(∀o,f o=Option.bind (b o) K)->lhs=Option.bind q f):lhs=Option.bind (Option.bind q b) K:=by
 rw [h (fun o=>Option.bind (b o) K) fun _=>rfl]; cases q<;>rfl
theorem I4 {b:Sort _}{F:b}{t:b->Option O}{K:O->Option R}(h:∀k,k=F->lhs=Option.bind (t k) K):lhs=Option.bind (on F t) K:=h F rfl
theorem pV {α:Type}(o:Option α):Option.bind o some=o:=by cases o<;>rfl
theorem gP {l:List α}{i:Nat}{x:α}(h:l[i]?=some x):l.drop i=x::l.drop (i+1):=by
 obtain⟨hi,rfl⟩:=List.getElem?_eq_some_iff.1 h;exact List.drop_eq_getElem_cons hi
theorem AF {i n:Nat}(h:i<n):decide ((i:Int)<(n:Int))=true:=by simpa using h
theorem DY {i n:Nat}(h:¬i<n):decide ((i:Int)<(n:Int))=false:=by simpa using h
theorem mB {s:Sl α}{i:Nat}(h:i<=s.l.length):js s none (some ((i:Nat):Int))=some ⟨s.nl,s.l.take i⟩:=by
 unfold js; rw [if_pos (by simp; omega)]; simp
end Q
end Go.Ab
namespace Go.Ab
variable {ak:bP}
theorem Q.getD_some {α:Type}{l:List α}{i:Nat}{d:α}(h:i<l.length):l[i]?=some (l[i]?.getD d):=by simp [h]
theorem Q.PK {s:Bs}{n:Nat}(h:n<=s.length):Av s none (some ((n:Nat):Int))=some (List.take n s):=by
 unfold Av; rw [if_pos (by simp; omega)]; simp
theorem Q.preB {α R:Type}{o:Option α}{v:α}{k:α->Option R}{r:Option R}(h:o=some v) (h2:∀x,x=v->k x=r):o.bind k=r:=by rw [h]; exact h2 v rfl
theorem Q.I5 {α:Type}{c d:Bool}{a b r:α}(h:c=true) (h2:cond d a b=r):cond (c&&d) a b=r:=by rw [h]; simpa using h2
theorem Q.I6 {α:Type}{c d:Bool}{a b r:α}(h:c=false) (h2:b=r):cond (c&&d) a b=r:=by rw [h]; simpa using h2
end Go.Ab
/-
 Walks over the list layer: what is known of the result is taken apart in the new form (a bind,a value under a name,a guard,a choice,a join,a loop over a list).
-/
namespace Go.Ab
open Go
section
variable {R O Z α:Type}{r:R}
theorem qT {o o':Option α}{k:α->Option R}(p:o'=o) (h:o.bind k=some r):∃x,o'=some x/\k x=some r:=by rw [p]; exact Im h
theorem qO {o o':Option α}{k:α->Option O}{K:O->Option R}(p:o'=o) (h:Option.bind (o.bind k) K=some r):∃x,o'=some x/\Option.bind (k x) K=some r:=by
 rw [p]; cases o with
 | none=>cases h
 | some v=>exact⟨v,rfl,h⟩
theorem vT {o:Option α}{v:α}{k:α->Option R}(p:o=some v) (h:on v k=some r):∃x,o=some x/\k x=some r:=⟨v,p,h⟩
theorem vO {o:Option α}{v:α}{k:α->Option O}{K:O->Option R}(p:o=some v) (h:Option.bind (on v k) K=some r):∃x,o=some x/\Option.bind (k x) K=some r:=⟨v,p,h⟩
theorem vP {o:Option α}{v:α}{k:α->O}{K:O->Option R}(p:o=some v) (h:K (on v k)=some r):∃x,o=some x/\K (k x)=some r:=⟨v,p,h⟩
theorem jv {c:Bool}{o:Option α}{v d:α}{k:α->Option R}(p:c=true->o=some v) (h:on (cond c v d) k=some r):∃x,(c=true->o=some x)/\k x=some r :=
 ⟨cond c v d,fun e=>by rw [e]; exact p e,h⟩
theorem fo {c:Bool}{o:Option α}{v d:α}{k:α->Option O}{K:O->Option R}(p:c=true->o=some v) (h:Option.bind (on (cond c v d) k) K=some r):∃x,(c=true->o=some x)/\Option.bind (k x) K=some r :=
 ⟨cond c v d,fun e=>by rw [e]; exact p e,h⟩
theorem lz {c:Bool}{o:Option α}{v d:α}{k:α->O}{K:O->Option R}(p:c=true->o=some v) (h:K (on (cond c v d) k)=some r):∃x,(c=true->o=some x)/\K (k x)=some r :=
 ⟨cond c v d,fun e=>by rw [e]; exact p e,h⟩
theorem I7 {c:Bool}{o o':Option α}{d:α}{k:α->Option R}(p:o'=o) (h:a_ c o d k=some r):∃x,(c=true->o'=some x)/\k x=some r:=by rw [p]; exact Il h
theorem AG {c:Bool}{o o':Option α}{d:α}{k:α->Option O}{K:O->Option R}(p:o'=o) (h:Option.bind (a_ c o d k) K=some r):∃x,(c=true->o'=some x)/\Option.bind (k x) K=some r:=by
 rw [p]; unfold a_ at h; split at h
 ·obtain⟨x,e,h2⟩:=qO rfl h; exact⟨x,fun _=>e,h2⟩
 ·rename_i hc; exact⟨d,fun e=>absurd e hc,h⟩
theorem b8 {t:Z}{b:Z->Option R}(h:on t b=some r):∃K:Z->Option R,(∀z,K z=b z)/\K t=some r:=⟨b,fun _=>rfl,h⟩
theorem gB {t:Z}{b:Z->Option O}{K:O->Option R}(h:Option.bind (on t b) K=some r):∃J:Z->Option R,(∀z,J z=Option.bind (b z) K)/\J t=some r:=⟨fun z=>Option.bind (b z) K,fun _=>rfl,h⟩
theorem eH {t:Z}{b:Z->O}{K:O->Option R}(h:K (on t b)=some r):∃J:Z->Option R,(∀z,J z=K (b z))/\J t=some r:=⟨fun z=>K (b z),fun _=>rfl,h⟩
theorem b5 {t:Option Z}{b:Z->Option R}(h:Option.bind t b=some r):∃J:Z->Option R,(∀z,J z=b z)/\Option.bind t J=some r:=⟨b,fun _=>rfl,h⟩
theorem eB {t:Option Z}{b:Z->Option O}{K:O->Option R}(h:Option.bind (Option.bind t b) K=some r):∃J:Z->Option R,(∀z,J z=Option.bind (b z) K)/\Option.bind t J=some r :=
 ⟨fun z=>Option.bind (b z) K,fun _=>rfl,by cases t<;>exact h⟩
theorem mT {b:Sort _}{F:b}{t:b->Option R}(h:on F t=some r):∃k,k=F/\t k=some r:=⟨F,rfl,h⟩
theorem mO {b:Sort _}{F:b}{t:b->Option O}{K:O->Option R}(h:Option.bind (on F t) K=some r):∃k,k=F/\Option.bind (t k) K=some r:=⟨F,rfl,h⟩
theorem mP {b:Sort _}{F:b}{t:b->O}{K:O->Option R}(h:K (on F t)=some r):∃k,k=F/\K (t k)=some r:=⟨F,rfl,h⟩
theorem ku {K F:Z->Option R}{z:Z}(h:∀z,K z=F z) (e:K z=some r):F z=some r:=by rw [<- h]; exact e
theorem dl {l:List α}{i:Nat}{x:α}(h:l[i]?=some x):l.length-(i+1)<l.length-i:=by
 obtain⟨hi,_⟩:=List.getElem?_eq_some_iff.1 h; omega
theorem dn {n i:Nat}(h:i<n):n-(i+1)<n-i:=by omega
end
section
variable {ak:bP}{P:Program}{c:Operand}{u v:Code}{Q:Exit->St->Prop}{σ:St}{b:Bool}{α R:Type}{r:R}
theorem ag.kE {A B:Option α}{K:α->Option R}(f:Option.bind (bif b then A else B) K=some r) (hc:ev σ.ts c=.a (.d (.bool b))) (ht:b=true->Option.bind A K=some r->ag P u Q σ) (g:b=false->Option.bind B K=some r->ag P v Q σ):ag P (.cond c u v) Q σ :=
 ag.cond hc (fun h=>ht h (by subst h; exact f)) (fun h=>g h (by subst h; exact f))
theorem ag.nO {A B:α}{K:α->Option R}(f:K (bif b then A else B)=some r) (hc:ev σ.ts c=.a (.d (.bool b))) (ht:b=true->K A=some r->ag P u Q σ) (g:b=false->K B=some r->ag P v Q σ):ag P (.cond c u v) Q σ :=
 ag.cond hc (fun h=>ht h (by subst h; exact f)) (fun h=>g h (by subst h; exact f))
theorem ag.bW {l:List α}{i:Nat}(p:List α->Prop) (b:p (l.drop i)) (hc:ev σ.ts c=.a (.d (.bool (decide (((i:Nat):Int)<((l.length:Nat):Int))))))
  (ht:∀x,l[i]?=some x->decide (((i:Nat):Int)<((l.length:Nat):Int))=true->p (x::l.drop (i+1))->ag P u Q σ) (g:decide (((i:Nat):Int)<((l.length:Nat):Int))=false->p []->ag P v Q σ):ag P (.cond c u v) Q σ:=by
 refine ag.cond hc (fun h=>?_) (fun h=>?_)
 ·have h2:i<l.length:=by have:=of_decide_eq_true h; omega
  have f:l[i]?=some l[i]:=List.getElem?_eq_getElem h2;exact ht _ f h (by rw [<- Go.Ab.Q.gP f]; exact b)
 ·have h2:¬((i:Nat):Int)<((l.length:Nat):Int):=of_decide_eq_false h;exact g h (by rw [List.drop_of_length_le (by omega)] at b; exact b)
theorem ag.I8 {n i:Nat}(p:Nat->Prop) (b:p (n-i)) (hc:ev σ.ts c=.a (.d (.bool (decide (((i:Nat):Int)<((n:Nat):Int))))))
  (ht:i<n->decide (((i:Nat):Int)<((n:Nat):Int))=true->p (n-(i+1)+1)->ag P u Q σ) (f:decide (((i:Nat):Int)<((n:Nat):Int))=false->p 0->ag P v Q σ):ag P (.cond c u v) Q σ:=by
 refine ag.cond hc (fun h=>?_) (fun h=>?_)
 ·have h2:i<n:=by have:=of_decide_eq_true h; omega
  exact ht h2 h (by rw [show n-(i+1)+1=n-i by omega]; exact b)
 ·have h2:¬((i:Nat):Int)<((n:Nat):Int):=of_decide_eq_false h;exact f h (by rw [show n-i=0 by omega] at b; exact b)
theorem ag.uv {l:List α}{i:Nat}{d b:Bool}(p:List α->Prop) (E:Prop) (f:p (l.drop i)) (he:p []->E) (hd:∀x,d=false->p (x::l.drop (i+1))->E) (j:b=(decide (((i:Nat):Int)<((l.length:Nat):Int))&&d)) (hc:ev σ.ts c=.a (.d (.bool b)))
  (ht:∀x,l[i]?=some x->b=true->d=true->p (x::l.drop (i+1))->ag P u Q σ) (k:b=false->E->ag P v Q σ):ag P (.cond c u v) Q σ:=by
 refine ag.cond hc (fun h=>?_) (fun h=>k h ?_)
 ·have h0:=h; rw [j,Bool.and_eq_true] at h0;have h2:i<l.length:=by have:=of_decide_eq_true h0.1; omega
  have g:l[i]?=some l[i]:=List.getElem?_eq_getElem h2;exact ht _ g h h0.2 (by rw [<- Go.Ab.Q.gP g]; exact f)
 ·by_cases h2:i<l.length
  ·have g:l[i]?=some l[i]:=List.getElem?_eq_getElem h2;rw [Go.Ab.Q.gP g] at f;refine hd _ ?_ f;rw [j,Go.Ab.Q.AF h2,Bool.true_and] at h; exact h
  ·exact he (by rw [List.drop_of_length_le (by omega)] at f; exact f)
end
end Go.Ab
namespace Go.Ab
variable {ak:bP}
def Ok {α:Type}(o:Option α):Prop:=∃r,o=some r
section
variable {α β:Type}
theorem b7 (a:α):Ok (Option.some a):=⟨a,rfl⟩
theorem dO {o:Option α}{k:α->Option β}(h:Ok o) (h2:∀v,o=Option.some v->Ok (k v)):Ok (o.bind k):=by
 obtain⟨v,hv⟩:=h; rw [hv]; exact h2 v hv
theorem dQ {c:Bool}{o:Option α}{d:α}{k:α->Option β}(h:c=true->Ok o) (h2:∀v,(c=true->o=Option.some v)->(c=false->v=d)->Ok (k v)):Ok (a_ c o d k):=by
 cases c with
 | false=>exact h2 d (fun h=>by cases h) (fun _=>rfl)
 | true=>obtain⟨v,hv⟩:=h rfl; unfold a_; rw [if_pos rfl,hv]; exact h2 v (fun _=>hv) (fun h=>by cases h)
theorem dB {c:Bool}{a b:Option α}(h:c=true->Ok a) (h2:c=false->Ok b):Ok (_root_.cond c a b):=by
 cases c with
 | false=>exact h2 rfl
 | true=>exact h rfl
theorem dJ {v:α}{k:α->Option β}(h:∀x,x=v->Ok (k x)):Ok (Go.Ab.on v k):=h v rfl
end
theorem fq {a b:Int}(h : -9223372036854775808<=a+b/\a+b<=9223372036854775807):cV a b=some (a+b):=by unfold cV; rw [if_pos h]
theorem DZ {a b:Int}(h : -9223372036854775808<=a-b/\a-b<=9223372036854775807):mu a b=some (a-b):=by unfold mu; rw [if_pos h]
theorem PL {α:Type}{l:List α}{n:Int}(h:0<=n/\n<l.length):Ok (dc l n):=by
 have h2:n.toNat<l.length:=by omega
 unfold dc; rw [if_pos h.1,List.getElem?_eq_getElem h2]; exact⟨_,rfl⟩
theorem PM {α:Type}{l:List α}{n:Nat}(h:n<l.length):Ok (l[n]?):=⟨l[n],List.getElem?_eq_getElem h⟩
theorem fU {α:Type}{z:Nat}{s r:Sl α}(hz:z<=64) (h:s.l.length+r.l.length<=1099511627776):bq z s r=some ⟨s.nl&&r.l.isEmpty,s.l++r.l⟩:=by
 unfold bq; rw [if_pos];have:(s.l.length+r.l.length)*z<=(s.l.length+r.l.length)*64:=Nat.mul_le_mul_left _ hz;unfold dI; omega
theorem eY {a b:Bs}(h:a.length+b.length<=1152921504606846976):cC a b=some (a++b):=by
 unfold cC; rw [if_pos (by unfold fD; omega)]
theorem AH {α:Type}{s:Sl α}(h:1<=s.l.length):js s (some (1:Int)) none=some ⟨s.nl,s.l.drop 1⟩:=by
 unfold js; rw [if_pos (by simp; omega)]; simp
theorem ep:F0=4611686018427387904:=rfl
end Go.Ab
namespace Go.Ab
variable {ak:bP}
theorem jL {α:Type}{z:Nat}{s r:Sl α}(hz:z<=32) (h:s.l.length+r.l.length<=4398046511104):bq z s r=some ⟨s.nl&&r.l.isEmpty,s.l++r.l⟩:=by
 unfold bq; rw [if_pos];have:(s.l.length+r.l.length)*z<=(s.l.length+r.l.length)*32:=Nat.mul_le_mul_left _ hz;unfold dI; omega
def bX {α:Type}(s:Sl α):Prop:=(s.nl=true->s.l=[])/\s.l.length<=1048576
end Go.Ab
/-
 Inputs: what a call is handed,read as plain data; what it leaves.
-/
namespace Go.Ab
open Go Go.RowKit Go.ChangeShapes Go.WideShapes Go.ChangeAt
variable {ak:bP}
def j0 (w:World):J:=⟨fun _=>0,fun b=>match w.heap[b]? with|some (.cells cs _ _)=>cs.size|_=>0,fun _=>none,0⟩
def h0:ah:=fun _=>none
theorem PN {w:World}{b o:Nat}{v:Value}(h:w.cell? ⟨b,o,none⟩=some v):o<(j0 w).F b:=by
 unfold World.cell? at h;simp only [j0]
 split at h
 ·rename_i c t f hc
  simp at h;simp only at hc;rw [hc];exact(Array.getElem?_eq_some_iff.1 h).1
 ·cases h
theorem cell_spot {w:World}{a:Addr}{v:Value}(h:w.cell? a=some v):a.spot=none:=by
 unfold World.cell? at h
 split at h
 ·split at h
  ·cases h
  ·rename_i h2; simpa using h2
 ·cases h
structure xA {H:Type}(B:DataW H->Nat):Prop where
 one:∀d,1<=B d
 str:∀b,b.length+1<=B (.lit (.string b))
 slice:∀e s,(e.map B).sum+1<=B (.slice e s)
 agg:∀l,(l.map B).sum<=B (.agg l)
def NF (w:World) (ps:List MemPlace):Prop:=∀b off,MemPlace.cell b off∈ps->w.frozen? ⟨b,off,none⟩=false
theorem NF.sub {w:World}{ps f:List MemPlace}(h:NF w f) (g:∀x∈ps,x∈f):NF w ps:=fun b o hx=>h b o (g _ hx)
structure di {H:Type}(P:Program) (B:DataW H->Nat) (N:Nat) (t:TypeId){α:Type}(R:α->List D) (sz:α->Nat) (wf:α->Prop):Prop where
 rd:∀{enc:TypeId×Value->H}{w:World}{base:Nat}{sp:Nat->Bool}{held:Bool}{fuel:Nat}{cs:List Value}{x:DataW H×List MemPlace},
  fuel<=N->DataW.trod enc P w base sp held fuel t cs=some x->B x.1<=1048576->NF w x.2->∃a,bI (aF (j0 w) w) (R a) cs/\sz a<=B x.1/\wf a
theorem di.zero {H:Type}{P:Program}{B:DataW H->Nat}{t:TypeId}{α:Type}{R:α->List D}{sz:α->Nat}{wf:α->Prop}:di P B 0 t R sz wf :=
 ⟨fun b h _ _=>by rw [Nat.le_zero.1 b] at h; simp [DataW.trod] at h⟩
theorem D0 {P:Program}{t:TypeId}{b:TI}(f:bn P t=some b):P.cellsOf t=b.size:=by
 obtain⟨i,d,h1,_,h2,_⟩:=gr f;unfold Program.cellsOf; rw [h1]; exact h2
theorem AI {P:Program}{t:TypeId}{b:TI}(f:bn P t=some b):∃d,P.underlying t=some d/\fZ d=b.k:=by
 obtain⟨i,d,_,h1,_,_,h2,_⟩:=gr f;exact⟨d,h1,h2⟩
theorem PO {P:Program}{t:TypeId}{b:TI}(f:bn P t=some b) (hk:b.k=.str):P.underlying t=some .string:=by
 obtain⟨d,h1,h2⟩:=AI f;rw [hk] at h2; cases d<;>simp [fZ] at h2; exact h1
theorem PP {P:Program}{t:TypeId}{b:TI}(f:bn P t=some b) (hk:b.k=.bool):P.underlying t=some .bool:=by
 obtain⟨d,h1,h2⟩:=AI f;rw [hk] at h2; cases d<;>simp [fZ] at h2; exact h1
theorem PR {P:Program}{t:TypeId}{b:TI}{k:IntKind}(f:bn P t=some b) (hk:b.k=.int k):P.underlying t=some (.int k):=by
 obtain⟨d,h1,h2⟩:=AI f;rw [hk] at h2; cases d<;>simp [fZ] at h2; subst h2; exact h1
theorem I9 {P:Program}{t:TypeId}{b:TI}{ps:List (Nat×TypeId)}(g:bn P t=some b) (hk:b.k=.struct ps):∃fs:Array Go.Field,P.underlying t=some (.struct fs)/\fs.toList.map (fun f=>(f.offset,f.type))=ps:=by
 obtain⟨d,h1,h2⟩:=AI g;rw [hk] at h2; cases d<;>simp [fZ] at h2; exact⟨_,h1,by simpa using h2⟩
def xo.sz (s:xo):Nat:=s.1.length+1
def jr.sz {α:Type}(f:α->Nat) (s:jr α):Nat:=1+(s.l.map f).sum
def jr.wf {α:Type}(p:α->Prop) (s:jr α):Prop:=∀x∈s.l,p x
def i64 (n:Int):Prop := -9223372036854775808<=n/\n<=9223372036854775807
section
variable {H:Type}{P:Program}{B:DataW H->Nat}(hB:xA B){N:Nat}
include hB
theorem di.str {t:TypeId}{b:TI}(f:bn P t=some b) (hk:b.k=.str):di P B N t Oh xo.sz fun _=>True:=by
 refine⟨fun {enc w base sp held fuel cs x} _ h g _=>?_⟩;obtain⟨s,rfl,rfl,l⟩:=DataW.trod_string (PO f hk) h;have h1:=hB.str s.data.toList;have h2:s.data.toList.length<=1048576:=by dsimp only at g; omega
 refine⟨⟨s.data.toList,by simp only [dI]; omega⟩,.cons ?_ .nil,h1,trivial⟩;have:=aF.str (j:=j0 w) (w:=w) s.data.toList (by simp only [fD]; omega)
 simpa using this
theorem di.bool {t:TypeId}{f:TI}(g:bn P t=some f) (hk:f.k=.bool):di P B N t (fun b:Bool=>[.bool b]) (fun _=>1) fun _=>True:=by
 refine⟨fun _ h _ _=>?_⟩;obtain⟨b,rfl,rfl⟩:=DataW.trod_bool (PP g hk) h;exact⟨b,.cons (.bool _) .nil,hB.one _,trivial⟩
theorem di.int {t:TypeId}{b:TI}(f:bn P t=some b) (hk:b.k=.int .i64):di P B N t Oi (fun _=>1) i64:=by
 refine⟨fun _ h _ _=>?_⟩;obtain⟨n,rfl,rfl,hw⟩:=DataW.trod_int (PR f hk) h;refine⟨n,.cons (.int _ _) .nil,hB.one _, ?_⟩
 simpa [Lit.wf,IntKind.min,IntKind.max,IntKind.signed,IntKind.bits,i64] using hw
omit hB in
theorem I_ {α:Type}(p:Nat->α->Prop):∀(n:Nat),(∀i,i<n->∃a,p i a)->∃l:List α,l.length=n/\∀i a,l[i]?=some a->p i a
 | 0,_=>⟨[],rfl,by simp⟩
 | n+1,h=>by
  obtain⟨l,hl,g⟩:=I_ p n fun i hi=>h i (by omega);obtain⟨a,j⟩:=h n (by omega);refine⟨l++[a],by simp [hl],fun i b f=>?_⟩;rw [List.getElem?_append] at f
  split at f
  ·exact g i b f
  ·rename_i k
   have:i-l.length=0:=by
    have:=(List.getElem?_eq_some_iff.1 f).1; simp at this; omega
   rw [this] at f; simp at f; subst f;have:i=n:=by omega
   subst this; exact j
omit hB in
theorem Ja {α β:Type}{f:α->Option β}:∀{l:List α}{r:List β},l.mapM f=some r->r.length=l.length/\∀(i:Nat) a,l[i]?=some a->f a=r[i]?
 | [],r,h=>by simp at h; subst h; simp
 | a::l,r,h=>by
  rw [List.mapM_cons] at h;cases g:f a with
  | none=>rw [g] at h; cases h
  | some b =>
   rw [g] at h;cases hm:l.mapM f with
   | none=>rw [hm] at h; cases h
   | some bs =>
    rw [hm] at h;have h':some (b::bs)=some r:=h;simp only [Option.some.injEq] at h';subst h';obtain⟨h1,h2⟩:=Ja hm;refine⟨by simp [h1],fun i x hx=>?_⟩;cases i with
    | zero=>simp at hx; subst hx; simpa using g
    | succ i=>simp at hx; simpa using h2 i x hx
omit hB in
theorem Jb {w:World}{base:Nat}{a:Addr}{n:Nat}{cs:List Value}(h:w.cells? base a n=some cs):cs.length=n/\∀i v,cs[i]?=some v->w.cell? (a.add i)=some v:=by
 unfold World.cells? at h
 split at h
 ·obtain⟨h1,h2⟩:=Ja h;rw [List.length_range] at h1;refine⟨h1,fun i v hv=>?_⟩;have hi:=(List.getElem?_eq_some_iff.1 hv).1;have:=h2 i i (List.getElem?_range (by omega));rw [this]; exact hv
 ·cases h
omit hB in
theorem Jc {α β:Type}{f:α->Nat}{g:β->Nat}:∀{l:List α}{m:List β},l.length=m.length->(∀(i:Nat) a b,l[i]?=some a->m[i]?=some b->f a<=g b)->(l.map f).sum<=(m.map g).sum
 | [],[],_,_=>by simp
 | [],_::_,h,_=>by simp at h
 | _::_,[],h,_=>by simp at h
 | a::l,b::m,h,j=>by
  have h1:=j 0 a b rfl rfl;have h2:=Jc (l:=l) (m:=m) (by simpa using h) fun i x y hx k=>j (i+1) x y (by simpa using hx) (by simpa using k);simp only [List.map_cons,List.sum_cons]; omega
omit hB in
theorem pW {α:Type}{f:α->Nat}{l:List α}{a:α}(h:a∈l):f a<=(l.map f).sum:=by
 induction l with
 | nil=>cases h
 | cons x r b =>
  simp only [List.map_cons,List.sum_cons];rcases List.mem_cons.1 h with e|e
  ·subst e; omega
  ·have:=b e; omega
omit hB in
theorem D1 {α:Type}{f:α->Nat}:∀(l:List α),(∀a∈l,1<=f a)->l.length<=(l.map f).sum
 | [],_=>by simp
 | a::l,h=>by
  have h1:=h a (by simp);have h2:=D1 l fun x hx=>h x (by simp [hx]);simp only [List.length_cons,List.map_cons,List.sum_cons]; omega
omit hB in
theorem PS {a:Addr}{n i:Nat}(h:i<n):MemPlace.cell a.block (a.off+i)∈MemPlace.row a n:=by
 unfold MemPlace.row;exact List.mem_map.2 ⟨i,List.mem_range.2 h,rfl⟩
theorem di.slice {α:Type}{t e:TypeId}{L M:TI}{k:Nat}{R:α->List D}{sz:α->Nat}{wf:α->Prop}(W:bn P t=some L) (X:L.k=.slice e) (Y:bn P e=some M) (Z:M.size=k) (aa:0<k) (ab:∀a,(R a).length=k) (he:di P B N e R sz wf) :
  di P B (N+1) t (fun s:jr α=>[s.d k R]) (jr.sz sz) (jr.wf wf):=by
 have ht:=mq W X;have hk:P.cellsOf e=k:=(D0 Y).trans Z;refine⟨fun {enc w base sp held fuel cs x} al h O hz=>?_⟩;rcases DataW.trod_slice ht h with ⟨rfl,rfl⟩|⟨a,len,cap,b,rest,n,am,rfl,rfl,_,ad,an,hlen,ae,_,_⟩
 ·exact⟨⟨true,[],by simp,fun _=>rfl⟩,.cons (.gH _ _ (by simp)) .nil,by simpa [jr.sz] using hB.one _,by simp [jr.wf]⟩
 ·have ao:=hB.slice (b.map (·.1)) (rest.map (·.1));have af:∀y∈b,B y.1<=1048576:=fun y j=>by
   have:=pW (f:=B) (l:=b.map (·.1)) (a:=y.1) (List.mem_map_of_mem j);dsimp only at O; omega
  have ap:b.length<=1048576:=by
   have:=D1 (f:=B) (b.map (·.1)) fun d _=>hB.one d;simp only [List.length_map] at this;dsimp only at O; omega
  have hex:∀i,i<len->∃y:α×List Value,∃z,b[i]?=some z/\w.cells? base (a.add (i*k)) k=some y.2/\bI (aF (j0 w) w) (R y.1) y.2/\sz y.1<=B z.1/\wf y.1:=by
   intro i hi;have h1:=ae i hi;rw [hk] at h1;have q:i<b.length:=by omega
   rw [List.getElem?_eq_getElem q] at h1;cases hc:w.cells? base (a.add (i*k)) k with
   | none=>rw [hc] at h1; cases h1
   | some cs =>
    rw [hc] at h1;obtain⟨x,h2,C,E⟩:=he.rd (by omega) (show DataW.trod enc P w base sp held n e cs=some b[i] from h1) (af _ (List.getElem_mem q)) (hz.sub fun y j=>List.mem_append.2 (.inr (List.mem_flatMap.2 ⟨_,List.mem_append.2 (.inl (List.getElem_mem q)),j⟩)));exact⟨(x,cs),b[i],List.getElem?_eq_getElem q,rfl,h2,C,E⟩
  obtain⟨l,hl,F⟩:=I_ _ len hex;have ai:(l.map fun y=>y.1).length=len:=by simp [hl]
  refine⟨⟨false,l.map (·.1),by rw [ai]; simp only [dI]; omega,by simp⟩,.cons ?_ .nil, ?_, ?_⟩
  ·have G:∀r∈(l.map (·.1)).map R,r.length=k:=by
    intro r hr;obtain⟨y,_,rfl⟩:=List.mem_map.1 hr;exact ab _
   have p:((l.map (·.1)).map R).length=len:=by simp [hl]
   show aF (j0 w) w (.slice k none false ((l.map (·.1)).map R)) (.slice (some a) len cap);by_cases h0:len=0
   ·subst h0;have:l=[]:=List.eq_nil_of_length_eq_zero hl;subst this;exact aF.slice k none [] a cap (fun _=>undef) (by simp) (by simp) (by simp) ⟨.inl rfl,by simp⟩ (by simp) (fun t h=>by cases h)
   ·have Q:a.spot=none:=by
     have h1:=F 0 (l[0]'(by omega)) (List.getElem?_eq_getElem (by omega));obtain⟨z,_,h2,_⟩:=h1;obtain⟨C,E⟩:=Jb h2;have H:=E 0 _ (List.getElem?_eq_getElem (by omega));rw [Nat.zero_mul] at H;exact cell_spot H
    have I:a=⟨a.block,a.off,none⟩:=by cases a; simp at Q; simp [Q]
    have S:aF (j0 w) w (.slice k none false ((l.map (·.1)).map R)) (.slice (some ⟨a.block,a.off,none⟩) ((l.map (·.1)).map R).length cap):=by
     refine uf G (by rw [p]; simp only [dI]; omega) (by rw [p]; exact ad) (fun i x hx=>?_) (fun t h=>by cases h) (fun i v hi _=>.inl (hz _ _ (List.mem_append.2 (.inl (by
      rw [(jq G).1,p] at hi;rw [I,hk];refine PS (i:=i) ?_;have:len*k<=(b.length+rest.length)*k:=Nat.mul_le_mul_right _ (by omega);omega)))))
     have hi:=(List.getElem?_eq_some_iff.1 hx).1;rw [(jq G).1,p] at hi;have hq:i / k<len:=Nat.div_lt_of_lt_mul (by rw [Nat.mul_comm]; exact hi);have hm:i % k<k:=Nat.mod_lt _ aa;obtain⟨z,_,h2,C,_⟩:=F (i / k) (l[i / k]'(by omega)) (List.getElem?_eq_getElem (by omega));obtain⟨E,H⟩:=Jb h2;have aj:((l.map (·.1)).map R)[i / k]?=some (R (l[i / k]'(by omega)).1):=by simp [hl,hq]
     have U:=(jq G).2 (i / k) _ aj (i % k) hm;rw [Nat.mul_comm,Nat.div_add_mod,hx] at U;obtain⟨v,hv,ak⟩:=C.get U.symm;have J:=H _ _ hv;rw [I,add_plain,add_plain,Nat.add_assoc,Nat.mul_comm,Nat.div_add_mod] at J;exact⟨PN J,v,J,ak⟩
    rw [p,<- I] at S;exact S
  ·simp only [jr.sz];have:=Jc (f:=sz) (g:=B) (l:=l.map (·.1)) (m:=b.map (·.1)) (by simp [hl,hlen]) fun i x y hx j=>by
    rw [List.getElem?_map] at hx j;cases K:l[i]? with
    | none=>rw [K] at hx; cases hx
    | some u =>
     rw [K] at hx; simp at hx; subst hx;obtain⟨z,h1,_,_,h2,_⟩:=F i u K;rw [h1] at j; simp at j; subst j; exact h2
   omega
  ·intro x hx;obtain⟨y,j,rfl⟩:=List.mem_map.1 hx;obtain⟨i,hi,e⟩:=List.getElem_of_mem j;obtain⟨z,_,_,_,_,h⟩:=F i y (by rw [List.getElem?_eq_getElem hi,e]);exact h
structure cm {H:Type}(P:Program) (B:DataW H->Nat) (N n o:Nat) (ps:List (Nat×TypeId)){α:Type}(R:α->List D) (sz:α->Nat) (wf:α->Prop):Prop where
 rd:∀{enc:TypeId×Value->H}{w:World}{base:Nat}{sp:Nat->Bool}{held:Bool}{fuel:Nat}{cs:List Value}{xs:List (DataW H×List MemPlace)},fuel<=N->cs.length=n->xs.length=ps.length ->
  (∀(i:Nat) p,ps[i]?=some p->DataW.trod enc P w base sp held fuel p.2 ((cs.drop p.1).take (P.cellsOf p.2))=xs[i]?)->(xs.map (fun x=>B x.1)).sum<=1048576->(∀x∈xs,NF w x.2) ->
  ∃a,bI (aF (j0 w) w) (R a) (cs.drop o)/\sz a<=(xs.map (fun x=>B x.1)).sum/\wf a
omit hB in
theorem cm.nil {n:Nat}:cm P B N n n [] (fun _:Unit=>[]) (fun _=>0) fun _=>True:=by
 refine⟨fun _ h1 h2 _ _ _=>⟨(), ?_,Nat.zero_le _,trivial⟩⟩;rw [List.drop_of_length_le (by omega)]; exact .nil
omit hB in
theorem cm.cons {α β:Type}{n o o':Nat}{ty:TypeId}{f:TI}{ps:List (Nat×TypeId)}{R:α->List D}{sz:α->Nat}{wf:α->Prop}{j:β->List D}{k:β->Nat}{l:β->Prop}(s:bn P ty=some f) (t:o+f.size=o') (h:di P B N ty R sz wf)
  (ht:cm P B N n o' ps j k l):cm P B N n o ((o,ty)::ps) (fun p:α×β=>R p.1++j p.2) (fun p=>sz p.1+k p.2) fun p=>wf p.1/\l p.2:=by
 refine⟨fun {enc w base sp held fuel cs xs} m h1 h2 q u hz=>?_⟩
 match xs,h2 with
 | x::xs,h2 =>
  simp only [List.map_cons,List.sum_cons] at u ⊢;have r:=q 0 (o,ty) rfl;simp only [List.getElem?_cons_zero] at r;obtain⟨a,v,G,z⟩:=h.rd m r (by omega) (hz _ (.head _));obtain⟨b,C,H,E⟩:=ht.rd (xs:=xs) m h1 (by simpa using h2) (fun i g hg=>by simpa using q (i+1) g (by simpa using hg)) (by omega) (fun y F=>hz y (.tail _ F));refine⟨(a,b), ?_,by dsimp only; omega,z,E⟩;have e:cs.drop o=(cs.drop o).take (P.cellsOf ty)++cs.drop o':=by
   rw [<- t,<- D0 s,<- List.drop_drop]; exact(List.take_append_drop _ _).symm
  rw [e];exact v.append C
theorem di.struct {α β:Type}{t:TypeId}{j:TI}{ps:List (Nat×TypeId)}{R:α->List D}{sz:α->Nat}{wf:α->Prop}(q:bn P t=some j) (hk:j.k=.struct ps) (h:cm P B N j.size 0 ps R sz wf) (g:α->β){r:β->List D}{s:β->Nat}{u:β->Prop}
  (E:∀a,r (g a)=R a) (F:∀a,s (g a)<=sz a) (hw:∀a,wf a->u (g a)):di P B (N+1) t r s u:=by
 refine⟨fun {enc w base sp held fuel cs x} L hx v hz=>?_⟩;obtain⟨fs,ht,C⟩:=I9 q hk;obtain⟨xs,n,M,rfl,h1,h2,G⟩:=DataW.trod_struct ht hx;have l:=hB.agg (xs.map (·.1));rw [List.map_map] at l;obtain⟨a,H,I,J⟩:=h.rd (xs:=xs) (enc:=enc) (w:=w) (base:=base) (sp:=sp) (held:=held) (fuel:=n) (cs:=cs) (by omega) (h1.trans (D0 q)) (by rw [<- C]; simpa using h2) (fun i p b=>by
  rw [<- C,List.getElem?_map] at b;cases m:fs.toList[i]? with
  | none=>rw [m] at b; cases b
  | some f =>
   rw [m] at b; simp at b; subst b;exact G i f (by simpa using m)) (by dsimp only at v; exact Nat.le_trans l v) (fun y K=>hz.sub fun z hm=>List.mem_flatMap.2 ⟨y,K,hm⟩)
 exact⟨g a,by rw [E]; simpa using H,Nat.le_trans (F a) (Nat.le_trans I l),hw _ J⟩
end
section
variable {H:Type}{enc:TypeId×Value->H}{P:Program}{B:DataW H->Nat}{W:World}
theorem Jd {α:Type}{R:α->List D}{sz:α->Nat}{wf:α->Prop}{r:Reach}{f:Nat}{t:TypeId}{b:TI}{fs:List (Nat×TypeId)}{v:Value}{d:DataW H}{ps:List MemPlace}(g:bn P t=some b) (hk:b.k=.struct fs) (hr:∀N,di P B N t R sz wf) (j:Value.okWide P W r f t v)
  (hd:DataW.Trod enc P W 0 (fun _=>true) true t v d ps) (l:B d<=1048576) (hz:NF W ps):∃a:α,cF (j0 W) W (.agg (R a)) v/\sz a<=B d/\wf a:=by
 obtain⟨_,ht,_⟩:=I9 g hk;obtain⟨cs,rfl,_⟩:=okWide_struct ht j;obtain⟨fuel,m⟩:=hd;obtain⟨a,h1,h2,p⟩:=(hr fuel).rd (Nat.le_refl _) m l hz;exact⟨a,⟨cs.toList,by simp,h1⟩,h2,p⟩
end
theorem Below.trodAll {H:Type}{enc:TypeId×Value->H}{P:Program}(hl:laidOutB P=true){W g:World}(j:Below W.heap.size W g) :
  ∀{ts:List TypeId}{vs:List Value}{ds:List (DataW H)}{ps:List MemPlace},(∀t∈ts,P.readableRec t=true/\t<P.types.size)->DataW.TrodAll enc P W 0 (fun _=>true) true ts vs ds ps->(∀x∈ps,x.block<W.heap.size) ->
  ∀f:Nat->Bool,(∀x∈ps,f x.block=true)->DataW.TrodAll enc P g 0 f true ts vs ds ps
 | [],_,_,_,_,h,_,_,_=>by obtain⟨rfl,rfl,rfl⟩:=trodAll_nil h; exact rfl
 | _::_,_,_,_,ht,h,aJ,f,k=>by
  obtain⟨v,l,d,m,a,b,rfl,rfl,rfl,h1,h2⟩:=trodAll_cons h;exact⟨a,b,WideElems.Trod_stays hl (ht _ (by simp)).1 (ht _ (by simp)).2 h1 (fun x hx=>j.same (aJ x (by simp [hx]))) (fun x hx=>k x (by simp [hx])),
   Below.trodAll hl j (fun t h=>ht t (by simp [h])) h2 (fun x hx=>aJ x (by simp [hx])) f (fun x hx=>k x (by simp [hx])),rfl⟩
theorem PT {H:Type}{enc:TypeId×Value->H}{P:Program}{f:Func}{s:ChangeSpec}{fresh handsOn again:Bool}{W g:World}{args:Array Value}{ds:List (DataW H)}{before:List MemPlace}{tb:TypeId}
  (hv:s.vars=[]) (l:DataW.Whole enc P f.params.toList s.vars false W args.toList ds [] before) (j:Below W.heap.size W g) (hl:laidOutB P=true) (z:∀t∈f.params.toList,P.readableRec t=true/\t<P.types.size)
  (hr:f.resultTypes=#[tb]) (m:P.underlying tb=some .bool) (k:s.fn H ds={ results:=[.lit (.bool true)],args:=ds }):s.post enc P f false fresh handsOn again W args (.bool true) g:=by
 have r:=l;have aJ:∀x∈before,x.block<W.heap.size:=fun x hx=>by simpa using r.lt x hx
 obtain⟨p,q,B,u,rfl,hz,hn⟩:=l;rw [hv] at u;obtain⟨_,rfl⟩:=trodVars_none u;simp only [List.append_nil] at aJ hz;have v:∀sp:Nat->Bool,(∀x∈p,sp x.block=true)->DataW.TrodAll enc P g 0 sp true f.params.toList args.toList ds p:=fun sp C=>Below.trodAll hl j z B aJ sp C;have y:∀(b:Nat) (sp:Nat->Bool) (hd:Bool),DataW.TrodAll enc P g b sp hd f.resultTypes.toList ((Value.bool true).resultList f.resultTypes.size) [.lit (.bool true)] []:=by
  intro b sp hd;rw [hr];exact trodAll_cons_mk (shut_bool m _) trodAll_mk0
 refine⟨ds,[],p++[],[],p,[],r, ?_, ?_, ?_,World.keptBut_mono (fun x hx=>⟨hx, ?_⟩) (j.frame (·∈p++[])),fun _=>⟨?_,[.lit (.bool true)]++ds,[],p,⟨p,[], ?_, ?_,by simp, ?_,fun h=>by cases h⟩,fun x hx _=>by simpa using hx⟩⟩
 ·rw [List.append_nil,k]; exact y _ _ _
 ·rw [List.append_nil,k]; exact v _ fun x hx=>by simpa using aJ x hx
 ·rw [hv,List.append_nil,k]; exact rfl
 ·exact .inr (.inl (by simpa using hx))
 ·exact ok_one hr rfl (okWide_bool_mk m _)
 ·exact trodAll_append (v _ fun _ _=>rfl) (y _ _ _)
 ·rw [hv]; exact rfl
 ·intro b off hx;have hblk:=aJ _ hx;rw [World.frozen?_of_block (w:=W) (j.block _ hblk)];exact hz b off hx
end Go.Ab
/-
 The readings of package api's types,at whatever depth.
-/
namespace Go.Ab
open Go Go.RowKit
section
variable {H:Type}{P:Program}{B:DataW H->Nat}(hB:xA B)
include hB
theorem kG.struct {α β:Type}{t:TypeId}{b:TI}{ps:List (Nat×TypeId)}{R:α->List D}{sz:α->Nat}{wf:α->Prop}(m:bn P t=some b) (hk:b.k=.struct ps) (h:∀N,cm P B N b.size 0 ps R sz wf) (g:α->β){f:β->List D}{j:β->Nat}{l:β->Prop}
  (p:∀a,f (g a)=R a) (q:∀a,j (g a)<=sz a) (hw:∀a,wf a->l (g a)):∀N,di P B N t f j l
 | 0=>.zero
 | N+1=>di.struct hB m hk (h N) g p q hw
end
end Go.Ab
/-
 The readings of the models' types.
-/
namespace Go.Ab
open Go Go.RowKit
variable {ak:bP}
def Sl.sz {α:Type}(f:α->Nat) (s:Sl α):Nat:=1+(s.l.map f).sum
def Sl.wf {α:Type}(p:α->Prop) (s:Sl α):Prop:=(s.nl=true->s.l=[])/\s.l.length<=dI/\∀x∈s.l,p x
def Bs.sz (s:Bs):Nat:=s.length+1
section
variable {H:Type}{P:Program}{B:DataW H->Nat}
theorem di.AJ {α β:Type}{N:Nat}{t:TypeId}{R:α->List D}{sz:α->Nat}{wf:α->Prop}(h:di P B N t R sz wf) (g:α->β){b:β->List D}{f:β->Nat}{j:β->Prop}
  (k:∀a,b (g a)=R a) (l:∀a,f (g a)<=sz a) (hw:∀a,wf a->j (g a)):di P B N t b f j :=
 ⟨fun m ht p hz=>by
  obtain⟨a,h1,h2,q⟩:=h.rd m ht p hz;exact⟨g a,by rw [k]; exact h1,Nat.le_trans (l a) h2,hw a q⟩⟩
variable (hB:xA B)
include hB
theorem de.str {t:TypeId}{b:TI}(f:bn P t=some b) (hk:b.k=.str) (N:Nat):di P B N t aW Bs.sz fun _=>True :=
 (di.str hB f hk).AJ (fun s:xo=>s.1) (fun _=>rfl) (fun _=>Nat.le_refl _) fun _ _=>trivial
theorem de.bool {t:TypeId}{b:TI}(f:bn P t=some b) (hk:b.k=.bool) (N:Nat):di P B N t rR (fun _=>1) fun _=>True :=
 (di.bool hB f hk).AJ id (fun _=>rfl) (fun _=>Nat.le_refl _) fun _ _=>trivial
theorem de.int {t:TypeId}{b:TI}(f:bn P t=some b) (hk:b.k=.int .i64) (N:Nat):di P B N t (bM .i64) (fun _=>1) i64 :=
 (di.int hB f hk).AJ id (fun _=>rfl) (fun _=>Nat.le_refl _) fun _ h=>h
theorem de.D2 {α:Type}{N:Nat}{t e:TypeId}{b f:TI}{k:Nat}{R:α->List D}{sz:α->Nat}{wf:α->Prop}(g:bn P t=some b) (j:b.k=.slice e) (m:bn P e=some f) (p:f.size=k) (q:0<k) (r:∀a,(R a).length=k)
  (he:di P B N e R sz wf):di P B (N+1) t (fun s:Sl α=>[Sl.d k R none s]) (Sl.sz sz) (Sl.wf wf) :=
 (di.slice hB g j m p q r he).AJ (fun s:jr α=>(⟨s.nil,s.l⟩:Sl α)) (fun _=>rfl) (fun _=>Nat.le_refl _) (fun s h=>by unfold jr.wf at h; exact⟨s.nn,s.ok,h⟩)
theorem de.slice {α:Type}{t e:TypeId}{b f:TI}{k:Nat}{R:α->List D}{sz:α->Nat}{wf:α->Prop}(g:bn P t=some b) (j:b.k=.slice e) (l:bn P e=some f) (m:f.size=k) (p:0<k) (q:∀a,(R a).length=k)
  (he:∀N,di P B N e R sz wf):∀N,di P B N t (fun s:Sl α=>[Sl.d k R none s]) (Sl.sz sz) (Sl.wf wf)
 | 0=>.zero
 | N+1=>de.D2 hB g j l m p q (he N)
end
theorem Sl.gQ {α:Type}{f:α->Nat}(s:Sl α) (h:∀a,1<=f a):s.l.length<=s.sz f:=by
 have:=D1 (f:=f) s.l fun a _=>h a;unfold Sl.sz; omega
theorem Sl.dh {α:Type}{f:α->Nat}{s:Sl α}{a:α}(h:a∈s.l):f a<s.sz f:=by
 have:=pW (f:=f) h;unfold Sl.sz; omega
end Go.Ab
namespace Go.Ab
variable {ak:bP}
theorem Bs.gf (s:Bs):1<=Bs.sz s:=by unfold Bs.sz; omega
theorem Sl.gf {α:Type}(f:α->Nat) (s:Sl α):1<=Sl.sz f s:=by unfold Sl.sz; omega
theorem Sl.gR {α:Type}{f:α->Nat}(s:Sl α) (h:∀a,1<=f a):s.l.length<Sl.sz f s:=by
 have:=Sl.gQ s h;unfold Sl.sz at *
 suffices s.l.length<=(s.l.map f).sum by omega
 clear this;induction s.l with
 | nil=>simp
 | cons x r b=>have:=h x; simp; omega
end Go.Ab
/-
 Short forms of the rules,for the packed texts.
-/
namespace Go.Ab
open Go Go.RowKit
variable {ak:bP}
class gY (P:Program) where
 T:List TI
 ok:mm P T
theorem gZ {P:Program} [gY P] {i:TypeId}{b:TI}(h:(gY.T P)[i]?=some b):bn P i=some b:=gY.ok i b h
section
variable {P:Program}{Q:Exit->St->Prop}{σ:St}
theorem ag.cE {c:Operand}{u v:Code}{b:Bool}{α:Type}{A B:Option α}{r:α}(f:(bif b then A else B)=some r) (ht:b=true->A=some r->ag P u Q σ) (g:b=false->B=some r->ag P v Q σ) (hc:ev σ.ts c=.a (.d (.bool b)):=by exact rfl):ag P (.cond c u v) Q σ:=ag.OI f hc ht g
end
theorem AC.oW {P:Program} [gY P] (n:Nat) (rs:List ResultVar){f:FuncId}{fn:Func}{c:Code}{args:List A}{h:ah}{cT:V->ah->Prop}(b:∀(cR:Array Value) (w:World),(callFunc f cR).run P w=.ok (.enter f cR) w) (g:P.funcs[f]?=some fn)
  (hw:ag P c (bR (gY.T P) rs cT) ⟨n,nC 0 args,[],h⟩) (j:fn.body=some c:=by exact rfl) (hn:fn.ntmps=n:=by exact rfl) (k:fn.results.toList=rs:=by exact rfl) (hl:Nat.ble args.length n=true:=by exact rfl):AC P f args h cT :=
 AC.of_wp gY.ok b g j hn k hl hw
variable {fE:ez}
section
variable {P:Program}{ops:Array Oper}{rest:List Oper}{Q:St->Prop}{n:Nat}{ts:Ts}{ls aS:List (List D)}{h h':ah}{fx:Fx}{v:V}{d dg gi:Nat}{op:Op}{ty:TypeId}{pos:String}{aD:Array Edge}{want b C:Bool}{done:List Fx}
-- RULES
variable {o:Oper}{c c':Bool}{x x':A}{f:Operand}{args:Array Operand}{cn:Array TypeId}{dY:FuncId}{cr:List D}{xs:List A}
theorem gI {C c:Bool}(h:C=true->c=true:=by intro hC; first|assumption|exact iz (by assumption)|exact iz (iz (by assumption))|exact iz (iz (iz (by assumption)))|exact DD (by assumption)|simp_all):C=true->c=true:=h
theorem S (b:aq P ⟨some d,op,ty,pos,aD,none⟩ ts ls h fx v ls h) (hr:aI P ops rest Q ⟨n,(d,v)::ts,ls,h⟩) (hd:Nat.blt d n=true:=by exact rfl):aI P ops (⟨some d,op,ty,pos,aD,none⟩::rest) Q ⟨n,ts,ls,h⟩:=aI.s0 b hd hr
theorem Sd (b:aq P ⟨some d,op,ty,pos,aD,none⟩ ts ls h fx v ls h) (hr:aH P ops n rest (fx.plain::done) Q ⟨n,(d,v)::ts,ls,h⟩) (hd:Nat.blt d n=true:=by exact rfl):aH P ops n (⟨some d,op,ty,pos,aD,none⟩::rest) done Q ⟨n,ts,ls,h⟩:=aH.s0 b hd hr
theorem G1 (k:Nat) (hk:Ab.get ts k=.gd c x) (b:aq P ⟨some d,op,ty,pos,aD,some (gi,want)⟩ ((k,.a x)::ts) ls h fx v ls h) (hr:aI P ops rest Q ⟨n,(d,v.under C)::ts,ls,h⟩) (hg:(ops[gi]?).bind (·.dst)=some dg:=by exact rfl) (hc:gc (get ts dg) want=some C:=by exact rfl) (hd:Nat.blt d n=true:=by exact rfl) (hi:C=true->c=true:=by exact gI):aI P ops (⟨some d,op,ty,pos,aD,some (gi,want)⟩::rest) Q ⟨n,ts,ls,h⟩:=aI.gC hg hc (fun hC=>aq.ig hk (hi hC) b) hd hr
theorem G2 (k k':Nat) (hk:Ab.get ts k=.gd c x) (b:Ab.get ((k,.a x)::ts) k'=.gd c' x') (f:aq P ⟨some d,op,ty,pos,aD,some (gi,want)⟩ ((k',.a x')::(k,.a x)::ts) ls h fx v ls h) (hr:aI P ops rest Q ⟨n,(d,v.under C)::ts,ls,h⟩) (hg:(ops[gi]?).bind (·.dst)=some dg:=by exact rfl) (hc:gc (get ts dg) want=some C:=by exact rfl) (hd:Nat.blt d n=true:=by exact rfl) (hi:C=true->c=true:=by exact gI) (g:C=true->c'=true:=by exact gI):aI P ops (⟨some d,op,ty,pos,aD,some (gi,want)⟩::rest) Q ⟨n,ts,ls,h⟩:=aI.gC hg hc (fun hC=>aq.ig hk (hi hC) (aq.ig b (g hC) f)) hd hr
theorem dx (k:Nat) (hg:(ops[gi]?).bind (·.dst)=some dg) (hc:gc (get ts dg) want=some C) (hk:Ab.get ts k=.gd c x) (b:ev ((k,.a x)::ts) f=.a (.d (.func dY cr))) (g:ic ((k,.a x)::ts) args.toList=some xs) (j:C=true->∀H:ah,AC P dY (xs++cr.map A.d) H fun r h'=>r=v/\h'=H) (hr:aI P ops rest Q ⟨n,(d,v.under C)::ts,ls,h⟩) (hi:C=true->c=true:=by exact gI) (hd:Nat.blt d n=true:=by exact rfl):aI P ops (⟨some d,.call { callee:=.value f,args:=args,argTypes:=cn },ty,pos,aD,some (gi,want)⟩::rest) Q ⟨n,ts,ls,h⟩:=aI.gC hg hc (fun hC=>aq.ig hk (hi hC) (aq.fT b g (j hC))) hd hr
theorem fV (k k':Nat) (hg:(ops[gi]?).bind (·.dst)=some dg) (hc:gc (get ts dg) want=some C) (hk:Ab.get ts k=.gd c x) (b:Ab.get ((k,.a x)::ts) k'=.gd c' x') (g:ev ((k',.a x')::(k,.a x)::ts) f=.a (.d (.func dY cr))) (j:ic ((k',.a x')::(k,.a x)::ts) args.toList=some xs) (l:C=true->∀H:ah,AC P dY (xs++cr.map A.d) H fun r h'=>r=v/\h'=H) (hr:aI P ops rest Q ⟨n,(d,v.under C)::ts,ls,h⟩) (hi:C=true->c=true:=by exact gI) (m:C=true->c'=true:=by exact gI) (hd:Nat.blt d n=true:=by exact rfl):aI P ops (⟨some d,.call { callee:=.value f,args:=args,argTypes:=cn },ty,pos,aD,some (gi,want)⟩::rest) Q ⟨n,ts,ls,h⟩:=aI.gC hg hc (fun hC=>aq.ig hk (hi hC) (aq.ig b (m hC) (aq.fT g j (l hC)))) hd hr
theorem PU (k:Nat) (hk:Ab.get ts k=.gd c x) (b:aq P ⟨some d,op,ty,pos,aD,some (gi,want)⟩ ((k,.a x)::ts) ls h fx v ls h) (hr:aH P ops n rest (fx.plain::done) Q ⟨n,(d,v.under C)::ts,ls,h⟩) (hg:(ops[gi]?).bind (·.dst)=some dg:=by exact rfl) (hc:gc (get ts dg) want=some C:=by exact rfl) (hd:Nat.blt d n=true:=by exact rfl) (hi:C=true->c=true:=by exact gI):aH P ops n (⟨some d,op,ty,pos,aD,some (gi,want)⟩::rest) done Q ⟨n,ts,ls,h⟩:=aH.gC hg hc (fun hC=>aq.ig hk (hi hC) b) hd hr
theorem D3 (k k':Nat) (hk:Ab.get ts k=.gd c x) (b:Ab.get ((k,.a x)::ts) k'=.gd c' x') (f:aq P ⟨some d,op,ty,pos,aD,some (gi,want)⟩ ((k',.a x')::(k,.a x)::ts) ls h fx v ls h) (hr:aH P ops n rest (fx.plain::done) Q ⟨n,(d,v.under C)::ts,ls,h⟩) (hg:(ops[gi]?).bind (·.dst)=some dg:=by exact rfl) (hc:gc (get ts dg) want=some C:=by exact rfl) (hd:Nat.blt d n=true:=by exact rfl) (hi:C=true->c=true:=by exact gI) (g:C=true->c'=true:=by exact gI):aH P ops n (⟨some d,op,ty,pos,aD,some (gi,want)⟩::rest) done Q ⟨n,ts,ls,h⟩:=aH.gC hg hc (fun hC=>aq.ig hk (hi hC) (aq.ig b (g hC) f)) hd hr
theorem uw (k:Nat) (hg:(ops[gi]?).bind (·.dst)=some dg) (hc:gc (get ts dg) want=some C) (hk:Ab.get ts k=.gd c x) (b:ev ((k,.a x)::ts) f=.a (.d (.func dY cr))) (g:ic ((k,.a x)::ts) args.toList=some xs) (j:C=true->∀H:ah,AC P dY (xs++cr.map A.d) H fun r h'=>r=v/\h'=H) (hr:aH P ops n rest (Fx.plain {}::done) Q ⟨n,(d,v.under C)::ts,ls,h⟩) (hi:C=true->c=true:=by exact gI) (hd:Nat.blt d n=true:=by exact rfl):aH P ops n (⟨some d,.call { callee:=.value f,args:=args,argTypes:=cn },ty,pos,aD,some (gi,want)⟩::rest) done Q ⟨n,ts,ls,h⟩:=aH.gC hg hc (fun hC=>aq.ig hk (hi hC) (aq.fT b g (j hC))) hd hr
theorem nP (k k':Nat) (hg:(ops[gi]?).bind (·.dst)=some dg) (hc:gc (get ts dg) want=some C) (hk:Ab.get ts k=.gd c x) (b:Ab.get ((k,.a x)::ts) k'=.gd c' x') (g:ev ((k',.a x')::(k,.a x)::ts) f=.a (.d (.func dY cr))) (j:ic ((k',.a x')::(k,.a x)::ts) args.toList=some xs) (l:C=true->∀H:ah,AC P dY (xs++cr.map A.d) H fun r h'=>r=v/\h'=H) (hr:aH P ops n rest (Fx.plain {}::done) Q ⟨n,(d,v.under C)::ts,ls,h⟩) (hi:C=true->c=true:=by exact gI) (m:C=true->c'=true:=by exact gI) (hd:Nat.blt d n=true:=by exact rfl):aH P ops n (⟨some d,.call { callee:=.value f,args:=args,argTypes:=cn },ty,pos,aD,some (gi,want)⟩::rest) done Q ⟨n,ts,ls,h⟩:=aH.gC hg hc (fun hC=>aq.ig hk (hi hC) (aq.ig b (m hC) (aq.fT g j (l hC)))) hd hr
theorem BI [gY P] (e:aq P o ts ls h fx v aS h':=by exact aq.An rfl rfl rfl):aq P o ts ls h fx v aS h':=e
theorem BS [gY P] (e:aq P o ts ls h fx v aS h':=by exact aq.HO rfl rfl rfl):aq P o ts ls h fx v aS h':=e
theorem BU [gY P] (e:aq P o ts ls h fx v aS h':=by exact aq.build gY.ok rfl rfl rfl rfl rfl rfl):aq P o ts ls h fx v aS h':=e
theorem aI.SI {t u:TypeId}{x y:Operand}{p q:Int}(hr:aI P ops rest Q ⟨n,(d,.a (.d (.int .i64 (p+q))))::ts,ls,h⟩) (hx:ev ts x=.a (.d (.int .i64 p)):=by exact rfl) (b:ev ts y=.a (.d (.int .i64 q)):=by exact rfl)
  (h1 : -9223372036854775808<=p+q:=by first|omega|(dsimp only; omega)|(simp at *; omega)) (h2:p+q<=9223372036854775807:=by first|omega|(dsimp only; omega)|(simp at *; omega)) (hd:Nat.blt d n=true:=by exact rfl) :
  aI P ops (⟨some d,.binOp .add t x y u,ty,pos,aD,none⟩::rest) Q ⟨n,ts,ls,h⟩:=aI.s0 (aq.HN hx b h1 h2) hd hr
theorem aI.Sc {f:Operand}{args:Array Operand}{cn:Array TypeId}{dY:FuncId}{cr:List D}{xs:List A}(b:ev ts f=.a (.d (.func dY cr))) (g:ic ts args.toList=some xs)
  (hc:∀H:ah,AC P dY (xs++cr.map A.d) H fun r h'=>r=v/\h'=H) (hr:aI P ops rest Q ⟨n,(d,v)::ts,ls,h⟩) (hd:Nat.blt d n=true:=by exact rfl):aI P ops (⟨some d,.call { callee:=.value f,args:=args,argTypes:=cn },ty,pos,aD,none⟩::rest) Q ⟨n,ts,ls,h⟩:=aI.s0 (aq.fT b g hc) hd hr
theorem aI.Sl [gY P] (hr:aI P ops rest Q ⟨n,(d,v)::ts,aS,h⟩) (b:aq P ⟨some d,op,ty,pos,aD,none⟩ ts ls h { wl:=true } v aS h:=by exact aq.OH (gZ rfl) rfl) (hd:Nat.blt d n=true:=by exact rfl) :
  aI P ops (⟨some d,op,ty,pos,aD,none⟩::rest) Q ⟨n,ts,ls,h⟩:=aI.sL b hd hr
theorem aI.Sf [gY P] (hr:aI P ops rest Q ⟨n,ts,aS,h⟩) (b:aq P ⟨none,op,ty,pos,aD,none⟩ ts ls h { wl:=true } v aS h:=by first|exact aq.Ip (gZ rfl) rfl rfl rfl rfl rfl|exact aq.Ap (gZ rfl) rfl rfl rfl rfl (by repeat (first|exact cZ.zero|apply cZ.succ)) (by repeat (first|exact cZ.zero|apply cZ.succ))) :
  aI P ops (⟨none,op,ty,pos,aD,none⟩::rest) Q ⟨n,ts,ls,h⟩:=aI.uj b hr
theorem aI.hq {h:ah}(h':ah) (hw:aI P ops rest Q ⟨n,ts,ls,h'⟩) (e:h=h':=by first|rfl|(rw [ah.set_set]; rfl)|(funext n_; simp only [ah.set]; (repeat' split)<;>first|rfl|(exfalso; simp_all; done)|(simp_all; done))):aI P ops rest Q ⟨n,ts,ls,h⟩:=aI.DH e hw
theorem aH.Dh {h:ah}(h':ah) (hw:aH P ops n rest done Q ⟨n,ts,ls,h'⟩) (e:h=h':=by first|rfl|(rw [ah.set_set]; rfl)|(funext n_; simp only [ah.set]; (repeat' split)<;>first|rfl|(exfalso; simp_all; done)|(simp_all; done))):aH P ops n rest done Q ⟨n,ts,ls,h⟩:=aH.DH e hw
end
section
variable {P:Program}{Q:Exit->St->Prop}{σ:St}
theorem ag.PV {id:Nat}{l:List Oper}{y:Code}(h:aI P l.toArray l (fun b=>ag P y Q b) σ):ag P (.seq (.region id l.toArray false) y) Q σ:=ag.seq (ag.region h)
theorem ag.PW {id:Nat}{l:List Oper}{y:Code}(h:aH P l.toArray σ.n l [] (fun b=>ag P y Q b) σ) (hm:P.follows .mixedOrders=true:=by exact rfl):ag P (.seq (.region id l.toArray true) y) Q σ:=ag.seq (ag.draw hm h)
theorem ag.sk {A K:St->Prop}(b:∀σ,A σ->K σ) (h:A σ) (e:K σ->Q .normal σ:=by exact fun h=>h):ag P .skip Q σ:=ag.skip (e (b _ h))
theorem ag.rt {α:Type}{a r:α}(b:some a=some r) (h:a=r->Q .ret σ:=by intro e; subst e; (repeat (first|refine rP ?_|refine rQ ?_)); exact bR.cK _ rfl ⟨rfl,rfl⟩ (fun _ _ h=>h)):ag P .ret Q σ:=ag.ret (h (Option.some.inj b))
end
theorem bO {α β:Type}{o:Option α}{k:α->Option β}{r:β}(h:o.bind k=some r):∃x,o=some x/\k x=some r:=Im h
theorem gO {α β:Type}{c:Bool}{o:Option α}{d:α}{k:α->Option β}{r:β}(h:a_ c o d k=some r):∃x,(c=true->o=some x)/\k x=some r:=Il h
section
variable {P:Program}{α:Type}{ts:Ts}{ls aS:List (List D)}{h h':ah}{dst:Option Tmp}{ty:TypeId}{pos:String}{aD:Array Edge}{g:Option (Nat×Bool)}{ops:Array Oper}{rest:List Oper}{Q:St->Prop}{n d:Nat}{v:V}{op:Op}{done:List Fx}
theorem ix [gY P] (f:α->List D) (n:Nat){t e:TypeId}{b j:TI}{x i:Operand}{tok:Option Nat}{s:Sl α}{m:IntKind}{y:α}{k:Nat}(hr:s.l[n]?=some y) (p:bn P t=some b:=by exact gZ rfl) (hk:b.k=.slice e:=by exact rfl) (q:bn P e=some j:=by exact gZ rfl)
  (hx:ev ts x=.a (.d (s.d k f tok)):=by exact rfl) (hi:ev ts i=.a (.d (.int m (n:Int))):=by exact rfl) (r:k=j.size:=by exact rfl):aq P ⟨dst,.indexAddr t x i,ty,pos,aD,g⟩ ts ls h {} (.a (.d (.view (f y)))) ls h:=aq.Ot p hk q hx hi r hr
theorem am {t u e:TypeId}{j p b:TI}(f:α->List D){x y:Operand}{tk k k' m:Nat}{tok':Option Nat}{s r w:Sl α}{z:A}(q:bn P t=some j) (hk:j.k=.slice e) (v:bn P e=some b) (B:bn P u=some p) (hr:bq b.bytes s r=some w) (C:∃e,p.k=.slice e:=by exact⟨_,rfl⟩)
  (hz:b.zero=some z:=by exact rfl) (E:(cU z).length=b.size:=by exact rfl) (F:b.size≠0:=by decide) (hx:ev ts x=.a (.d (s.d k f (some tk))):=by exact rfl) (G:ev ts y=.a (.d (r.d k' f tok')):=by exact rfl) (H:k=b.size:=by exact rfl) (I:k'=b.size:=by exact rfl)
  (J:h tk=some (.tok b.size m):=by exact au) (hm:m=s.l.length:=by exact rfl):aq P ⟨dst,.call { callee:=.builtin .append,args:=#[x,y],argTypes:=#[t,u] },ty,pos,aD,g⟩ ts ls h { rh:=true,wh:=true } (.a (.d (w.d k f (some tk)))) ls (h.set tk (some (.tok b.size w.l.length))) :=
 aq.mw q hk v B C hz E F hx G H I J hm hr
theorem SH (b:aq P ⟨some d,op,ty,pos,aD,none⟩ ts ls h { rh:=true,wh:=true } v ls h') (hr:aI P ops rest Q ⟨n,(d,v)::ts,ls,h'⟩) (hd:Nat.blt d n=true:=by exact rfl):aI P ops (⟨some d,op,ty,pos,aD,none⟩::rest) Q ⟨n,ts,ls,h⟩:=aI.sH b hd hr
theorem ck {f:Operand}{args:Array Operand}{cn:Array TypeId}{dY:FuncId}{cr:List D}{xs:List A}(b:ev ts f=.a (.d (.func dY cr))) (g:ic ts args.toList=some xs)
  (hc:∀H:ah,AC P dY (xs++cr.map A.d) H fun r h'=>r=v/\h'=H) (hr:aH P ops n rest (Fx.plain {}::done) Q ⟨n,(d,v)::ts,ls,h⟩) (hd:Nat.blt d n=true:=by exact rfl):aH P ops n (⟨some d,.call { callee:=.value f,args:=args,argTypes:=cn },ty,pos,aD,none⟩::rest) done Q ⟨n,ts,ls,h⟩:=aH.s0 (aq.fT b g hc) hd hr
end
theorem Qe {α:Type}{a b c:α}(h:c=b) (e:a=b):a=c:=e.trans h.symm
theorem Qs {α:Type}{o p:Option α}(h:o=p.bind some):o=p:=h.trans (Q.pV p)
theorem QT {α:Type}{i n:Nat}{a b r:α}(h:i<n) (e:a=r):cond (decide ((i:Int)<(n:Int))) a b=r:=Q.DF (Q.AF h) e
theorem QF {α:Type}{i n:Nat}{a b r:α}(h:¬i<n) (e:b=r):cond (decide ((i:Int)<(n:Int))) a b=r:=Q.DG (Q.DY h) e
theorem Qa {α:Type}{l:List α}{i:Nat}(h:i<l.length):∃x,l[i]?=some x:=⟨_,List.getElem?_eq_getElem h⟩
theorem dL {α:Type}{i:Nat}{l:List α}(h:l.length<=i):l.drop i=[]:=List.drop_of_length_le h
end Go.Ab
/-
 Short rules for walks over the list layer.
-/
namespace Go.Ab
open Go
section
variable {ak:bP}{P:Program}{Q:Exit->St->Prop}{σ:St}
theorem ag.cO {c:Operand}{u v:Code}{b:Bool}{α R:Type}{A B:Option α}{K:α->Option R}{r:R}(f:Option.bind (bif b then A else B) K=some r) (ht:b=true->Option.bind A K=some r->ag P u Q σ) (g:b=false->Option.bind B K=some r->ag P v Q σ) (hc:ev σ.ts c=.a (.d (.bool b)):=by exact rfl):ag P (.cond c u v) Q σ:=ag.kE f hc ht g
theorem ag.cP {c:Operand}{u v:Code}{b:Bool}{α R:Type}{A B:α}{K:α->Option R}{r:R}(f:K (bif b then A else B)=some r) (ht:b=true->K A=some r->ag P u Q σ) (g:b=false->K B=some r->ag P v Q σ) (hc:ev σ.ts c=.a (.d (.bool b)):=by exact rfl):ag P (.cond c u v) Q σ:=ag.nO f hc ht g
end
end Go.Ab
/-
 A law's call beside the library's table of powers of ten. No program text.
-/
namespace Go.Ab
open Go Go.RowKit Go.Proofs Go.ChangeShapes Go.WideShapes Go.ChangeAt
variable {ak:bP}
theorem PX {P:Program}{W:World}{l:List (String×DataW Unit)}{name:String}{k:IntKind}{b:List Int}{g:Nat}{t e:TypeId}{n:Nat}(hg:P.globalNamed name=some g) (f:(P.globals[g]?).map (·.type)=some t) (ht:P.underlying t=some (.array n e))
  (he:P.underlying e=some (.int k)) (j:P.cellsOf e=1) (m:P.cellsOf t=n) (h:laidMet P l W) (hm:(name,Lib.tabData k b)∈l):∃u fr,W.heap[g]?=some (.cells (b.map fun z=>Value.int k z).toArray u fr):=by
 obtain⟨v,w,cs,fuel,p,q,r,hv,hd⟩:=Lib.laidMet.reads h hm;obtain rfl:=Option.some.inj (hg.symm.trans q);obtain rfl:=Option.some.inj (f.symm.trans r);have hc:=Lib.cells_of_tab ht he j m hd;unfold World.var? at hv;rw [hg,Option.bind_some] at hv
 split at hv
 ·rename_i c u fr s
  simp only [Option.some.injEq] at hv;subst hv;refine⟨u,fr, ?_⟩;rw [<- hc];exact s
 ·cases hv
def fK (g:Nat) (o:Go.Obj):ah:=fun i=>if i=0 then some (.fix g o) else none
def jT (w:World):J:={ j0 w with next:=1 }
theorem PY (w:World):Le (j0 w) w (jT w) w:=⟨Nat.zero_le _,fun _ h=>absurd h (Nat.not_lt_zero _),fun _=>Nat.le_refl _,fun _ _ _=>rfl,fun _ h=>absurd h (Nat.not_lt_zero _),fun _ _ _ _ _ h=>h⟩
theorem PZ {w:World}{g:Nat}{o:Go.Obj}(h:w.heap[g]?=some o):fI (jT w) w (fK g o):=by
 refine⟨fun id l hi=>?_,fun jF o1 jG o2 b h1 h2 _ _=>?_,fun b f=>(by simp [jT,j0,Array.getElem?_eq_none f])⟩
 ·unfold fK at hi
  split at hi
  ·rename_i h0; subst h0; cases hi; exact⟨Nat.zero_lt_one,h⟩
  ·cases hi
 ·unfold fK at h1 h2
  split at h1
  ·split at h2
   ·rename_i j k; rw [j,k]
   ·cases h2
  ·cases h1
theorem P0 {P:Program}{f:FuncId}{xs:List A}{g:Nat}{o:Go.Obj}(hc:@AC bP.on P f xs (fK g o) fun r h'=>r=.a (.d (.bool true))/\h'=fK g o){W:World}{args:List Value}(hg:W.heap[g]?=some o) (p:bI (cF (j0 W) W) xs args) :
  Calls P f args.toArray W fun e j=>e=.returned (.bool true)/\Below W.heap.size W j:=by
 letI:bP:=bP.on
 refine(hc.runs (jT W) W args (PZ hg) (p.imp fun _ _ h=>h.mono (PY W))).mono ?_;rintro e j ⟨r,cv,j',h',rfl,⟨rfl,rfl⟩,hv,hr,b⟩;have q:aF j' j (.bool true) cv:=hv;cases q;refine⟨rfl,b.os,b.tape,b.output.1,b.size,fun k hk=>?_⟩;by_cases l:k=g
 ·subst l;have h1:j.heap[k]?=some o:=(hr.obj 0 (.fix k o) rfl).2;rw [h1,hg]
 ·refine(b.frame k hk ?_).1;rintro (h|⟨id,s,h,m⟩)
  ·cases h
  ·unfold fK at h
   split at h
   ·cases h;simp only [bQ,Option.some.injEq] at m;exact l m.symm
   ·cases h
theorem gz.of {P:Program}{g:Nat}{u:TypeId}{fr:Nat×Nat}(hg:P.globalNamed "internal/strconv.uint64pow10"=some g):gz P (.fix g (.cells (Lib.pow10Tab.map fun z=>Value.int .u64 z).toArray u fr)):=⟨g,u,fr,rfl,hg⟩
end Go.Ab
namespace Go.Ab
theorem oB {α β : Type} (a : α) (f : α → Option β) : (some a).bind f = f a := rfl
theorem oJ {α : Type} {a b : α} (h : some a = some b) : a = b := Option.some.inj h
theorem nS (n : Nat) : n < n.succ := Nat.lt_succ_self n
theorem oD {p : Prop} [Decidable p] (h : decide p = true) : p := of_decide_eq_true h
theorem dF {p : Prop} [Decidable p] (h : ¬ p) : decide p = false := decide_eq_false h
theorem dT {p : Prop} [Decidable p] (h : p) : decide p = true := decide_eq_true h
theorem kN {ts : Ts} : fO ts [] := .nil
end Go.Ab
namespace Go.Ab
open aI aq ag dR fO
variable {ak : bP} {fE : ez}
abbrev RT (x : V) (H : ah) : V → ah → Prop := fun v h' => v = x ∧ h' = H
abbrev vi (n : Nat) : V := .a (.d (.int .i64 (n : Int)))
abbrev tS {α : Type} (h : ah) (t k : Nat) (s : Sl α) : ah := h.set t (some (.tok k s.l.length))
abbrev cS (h : ah) (i : Nat) (x : List D) : ah := h.set i (some (.cells x))
section
variable {R O α : Type} {r : R}
theorem bz {o : Option α} {k : α → Option R} (h : o.bind k = some r) : ∃ x, o = some x ∧ k x = some r := qT rfl h
theorem aQ {o : Option α} {k : α → Option O} {K : O → Option R} (h : Option.bind (o.bind k) K = some r) : ∃ x, o = some x ∧ Option.bind (k x) K = some r := qO rfl h
theorem dD {v : α} {k : α → Option R} (h : on v k = some r) : ∃ x, some v = some x ∧ k x = some r := ⟨v, rfl, h⟩
theorem dm {v : α} {k : α → Option O} {K : O → Option R} (h : Option.bind (on v k) K = some r) : ∃ x, some v = some x ∧ Option.bind (k x) K = some r := ⟨v, rfl, h⟩
theorem eL {v : α} {k : α → O} {K : O → Option R} (h : K (on v k) = some r) : ∃ x, some v = some x ∧ K (k x) = some r := ⟨v, rfl, h⟩
theorem dV {c : Bool} {o : Option α} {d : α} {k : α → Option R} (h : a_ c o d k = some r) : ∃ x, (c = true → o = some x) ∧ k x = some r := I7 rfl h
theorem fG {c : Bool} {o : Option α} {d : α} {k : α → Option O} {K : O → Option R} (h : Option.bind (a_ c o d k) K = some r) : ∃ x, (c = true → o = some x) ∧ Option.bind (k x) K = some r := AG rfl h
end
section
variable {P : Program} {dst : Option Nat} {ty : TypeId} {pos : String} {aD : Array Edge} {g : Option (Nat × Bool)} {ts : Ts} {ls : List (List D)} {h : ah}
theorem aq.pX {e : TypeId} {x : Operand} {y : A} {i : Nat} {aS : List (List D)} (hx : ev ts x = .a y) (b : fF (cU y) ls i aS := by repeat (first | exact fF.nil | apply fF.cons)) : aq P (Oper.mk dst (.box e x) ty pos aD g) ts ls h { wl := true } (.dH i 0) aS h := aq.NV hx b
end
theorem Kx {P : Program} [gY P] {o : Oper} {ts : Ts} {ls aS : List (List D)} {h h' : ah} {fx : Fx} {v : V} (e : aq P o ts ls h fx v aS h' := by first | exact aq.lq | exact aq.cA (gZ rfl) rfl rfl rfl | exact aq.OG | exact aq.xw (gZ rfl) rfl rfl (gZ rfl) rfl rfl | exact aq.An rfl rfl rfl | exact aq.NO rfl | exact aq.extract rfl rfl | exact aq.HO rfl rfl rfl | exact aq.f_ rfl rfl rfl | exact aq.kB rfl rfl rfl | exact aq.Om rfl | exact aq.xb (gZ rfl) rfl rfl rfl rfl | exact aq.NH (gZ rfl) rfl rfl (gZ rfl) rfl rfl | exact aq.build gY.ok rfl rfl rfl rfl rfl rfl | exact aq.buildSlice (gZ rfl) rfl (gZ rfl) rfl rfl rfl rfl rfl rfl | exact aq.NT rfl | exact aq.iJ (gZ rfl) rfl rfl (gZ rfl) rfl rfl | exact aq.iI (gZ rfl) rfl rfl au rfl) : aq P o ts ls h fx v aS h' := e
section
variable {P : Program} {α : Type} {ts : Ts} {ls aS : List (List D)} {h h' : ah} {ty : TypeId} {pos : String} {aD : Array Edge} {ops : Array Oper} {rest : List Oper} {Q : St → Prop} {n d dg gi : Nat} {v : V} {op : Op} {done : List Fx} {want C c c' : Bool} {x x' : A} {fx : Fx}
theorem Gk [gY P] (k : Nat) (hr : aI P ops rest Q ⟨n, (d, v.under C) :: ts, ls, h⟩) (hk : Ab.get ts k = .gd c x := by exact rfl) (b : aq P ⟨some d, op, ty, pos, aD, some (gi, want)⟩ ((k, .a x) :: ts) ls h fx v ls h := by exact Kx) (hg : (ops[gi]?).bind (·.dst) = some dg := by exact rfl) (hc : gc (get ts dg) want = some C := by exact rfl) (hd : Nat.blt d n = true := by exact rfl) (hi : C = true → c = true := by exact gI) : aI P ops (⟨some d, op, ty, pos, aD, some (gi, want)⟩ :: rest) Q ⟨n, ts, ls, h⟩ := G1 k hk b hr hg hc hd hi
theorem cG [gY P] (k : Nat) (hr : aH P ops n rest (fx.plain :: done) Q ⟨n, (d, v.under C) :: ts, ls, h⟩) (hk : Ab.get ts k = .gd c x := by exact rfl) (b : aq P ⟨some d, op, ty, pos, aD, some (gi, want)⟩ ((k, .a x) :: ts) ls h fx v ls h := by exact Kx) (hg : (ops[gi]?).bind (·.dst) = some dg := by exact rfl) (hc : gc (get ts dg) want = some C := by exact rfl) (hd : Nat.blt d n = true := by exact rfl) (hi : C = true → c = true := by exact gI) : aH P ops n (⟨some d, op, ty, pos, aD, some (gi, want)⟩ :: rest) done Q ⟨n, ts, ls, h⟩ := PU k hk b hr hg hc hd hi
theorem bE (k : Nat) (hk : Ab.get ts k = .gd c x) (b : C = true → aq P ⟨some d, op, ty, pos, aD, some (gi, want)⟩ ((k, .a x) :: ts) ls h fx v ls h) (hr : aI P ops rest Q ⟨n, (d, v.under C) :: ts, ls, h⟩) (hg : (ops[gi]?).bind (·.dst) = some dg := by exact rfl) (hc : gc (get ts dg) want = some C := by exact rfl) (hd : Nat.blt d n = true := by exact rfl) (hi : C = true → c = true := by exact gI) : aI P ops (⟨some d, op, ty, pos, aD, some (gi, want)⟩ :: rest) Q ⟨n, ts, ls, h⟩ := aI.gC hg hc (fun hC => aq.ig hk (hi hC) (b hC)) hd hr
theorem fL (k : Nat) (hk : Ab.get ts k = .gd c x) (b : C = true → aq P ⟨some d, op, ty, pos, aD, some (gi, want)⟩ ((k, .a x) :: ts) ls h fx v ls h) (hr : aH P ops n rest (fx.plain :: done) Q ⟨n, (d, v.under C) :: ts, ls, h⟩) (hg : (ops[gi]?).bind (·.dst) = some dg := by exact rfl) (hc : gc (get ts dg) want = some C := by exact rfl) (hd : Nat.blt d n = true := by exact rfl) (hi : C = true → c = true := by exact gI) : aH P ops n (⟨some d, op, ty, pos, aD, some (gi, want)⟩ :: rest) done Q ⟨n, ts, ls, h⟩ := aH.gC hg hc (fun hC => aq.ig hk (hi hC) (b hC)) hd hr
theorem fc (k k' : Nat) (hk : Ab.get ts k = .gd c x) (b : Ab.get ((k, .a x) :: ts) k' = .gd c' x') (f : C = true → aq P ⟨some d, op, ty, pos, aD, some (gi, want)⟩ ((k', .a x') :: (k, .a x) :: ts) ls h fx v ls h) (hr : aI P ops rest Q ⟨n, (d, v.under C) :: ts, ls, h⟩) (hg : (ops[gi]?).bind (·.dst) = some dg := by exact rfl) (hc : gc (get ts dg) want = some C := by exact rfl) (hd : Nat.blt d n = true := by exact rfl) (hi : C = true → c = true := by exact gI) (g : C = true → c' = true := by exact gI) : aI P ops (⟨some d, op, ty, pos, aD, some (gi, want)⟩ :: rest) Q ⟨n, ts, ls, h⟩ := aI.gC hg hc (fun hC => aq.ig hk (hi hC) (aq.ig b (g hC) (f hC))) hd hr
theorem nQ (k k' : Nat) (hk : Ab.get ts k = .gd c x) (b : Ab.get ((k, .a x) :: ts) k' = .gd c' x') (f : C = true → aq P ⟨some d, op, ty, pos, aD, some (gi, want)⟩ ((k', .a x') :: (k, .a x) :: ts) ls h fx v ls h) (hr : aH P ops n rest (fx.plain :: done) Q ⟨n, (d, v.under C) :: ts, ls, h⟩) (hg : (ops[gi]?).bind (·.dst) = some dg := by exact rfl) (hc : gc (get ts dg) want = some C := by exact rfl) (hd : Nat.blt d n = true := by exact rfl) (hi : C = true → c = true := by exact gI) (g : C = true → c' = true := by exact gI) : aH P ops n (⟨some d, op, ty, pos, aD, some (gi, want)⟩ :: rest) done Q ⟨n, ts, ls, h⟩ := aH.gC hg hc (fun hC => aq.ig hk (hi hC) (aq.ig b (g hC) (f hC))) hd hr
theorem dW [gY P] {dst : Option Tmp} {g : Option (Nat × Bool)} (f : α → List D) (s : Sl α) {t e : TypeId} {b : TI} {y : Operand} {cn : Array TypeId} {k : Nat} {tok : Option Nat} (bZ : cn[0]? = some t := by exact rfl) (j : bn P t = some b := by exact gZ rfl) (hk : b.k = .slice e := by exact rfl) (hx : ev ts y = .a (.d (s.d k f tok)) := by exact rfl) : aq P ⟨dst, .call { callee := .builtin .len, args := #[y], argTypes := cn }, ty, pos, aD, g⟩ ts ls h {} (.a (.d (.int .i64 (s.l.length : Int)))) ls h := aq.mv j hk bZ hx
theorem eN {dst : Option Tmp} {g : Option (Nat × Bool)} {t u : TypeId} {y z : Operand} {a b r : Bs} (hr : cC a b = some r) (hx : ev ts y = .a (.d (.str a)) := by exact rfl) (f : ev ts z = .a (.d (.str b)) := by exact rfl) : aq P ⟨dst, .binOp .add t y z u, ty, pos, aD, g⟩ ts ls h {} (.a (.d (.str r))) ls h := aq.xu hx f hr
theorem gh {dst : Option Tmp} {g : Option (Nat × Bool)} {t u : TypeId} {y z : Operand} {a b r : Int} (hr : cV a b = some r) (hx : ev ts y = .a (.d (.int .i64 a)) := by exact rfl) (f : ev ts z = .a (.d (.int .i64 b)) := by exact rfl) : aq P ⟨dst, .binOp .add t y z u, ty, pos, aD, g⟩ ts ls h {} (.a (.d (.int .i64 r))) ls h := aq.rT hx f hr
theorem D4 {dst : Option Tmp} {g : Option (Nat × Bool)} {t u : TypeId} {y z : Operand} {a b r : Int} (hr : mu a b = some r) (hx : ev ts y = .a (.d (.int .i64 a)) := by exact rfl) (f : ev ts z = .a (.d (.int .i64 b)) := by exact rfl) : aq P ⟨dst, .binOp .sub t y z u, ty, pos, aD, g⟩ ts ls h {} (.a (.d (.int .i64 r))) ls h := aq.Ou hx f hr
theorem aV [gY P] (f : α → List D) (s : Sl α) {t e : TypeId} {b : TI} {y : Operand} {cn : Array TypeId} {k : Nat} {tok : Option Nat} (hr : s.l.length ≤ 140737488355328 → aI P ops rest Q ⟨n, (d, .a (.d (.int .i64 (s.l.length : Int)))) :: ts, ls, h⟩) (bZ : cn[0]? = some t := by exact rfl) (g : bn P t = some b := by exact gZ rfl) (hk : b.k = .slice e := by exact rfl) (hx : ev ts y = .a (.d (s.d k f tok)) := by exact rfl) (hd : Nat.blt d n = true := by exact rfl) : aI P ops (⟨some d, .call { callee := .builtin .len, args := #[y], argTypes := cn }, ty, pos, aD, none⟩ :: rest) Q ⟨n, ts, ls, h⟩ := aI.sLen g hk bZ hx hd hr
end
theorem sy {H h : ah} (e : ∀ j b, H j = some b → h j = some b := by first | exact fun _ _ h => h | exact ah.Ii (by assumption) | (simp only [ah.set_set]; exact ah.Ii (by assumption)) | (intro i o he; rw [← he]; simp only [ah.set] at he ⊢; (repeat' split) <;> simp_all)) : ∀ j b, H j = some b → h j = some b := e
section
variable {P : Program} {Q Q' : Exit → St → Prop} {σ : St}
theorem ry (h : Q' .ret σ) (e : Q' .ret σ → Q .ret σ := by intro h; (repeat (first | refine rP ?_ | refine rQ ?_)); exact h) : ag P .ret Q σ := ag.ret (e h)
theorem rs {α : Type} {a r : α} (b : some a = some r) (h : a = r → Q .ret σ := by intro e; subst e; (repeat (first | refine rP ?_ | refine rQ ?_)); exact bR.cK _ rfl ⟨rfl, rfl⟩ sy) : ag P .ret Q σ := ag.ret (h (Option.some.inj b))
theorem hz {c : Code} {n : Nat} {ts : Ts} {ls : List (List D)} {h : ah} (h' : ah) (hw : ag P c Q ⟨n, ts, ls, h'⟩) (e : h = h' := by funext n_; simp only [ah.set]; (repeat' split) <;> simp_all) : ag P c Q ⟨n, ts, ls, h⟩ := ag.ur e hw
end
inductive nR (ts : Ts) : List Nat → Ts → Prop
  | nil : nR ts [] []
  | cons {ks : List Nat} {r : Ts} {k : Nat} {v : V} (t : nR ts ks r) (h : Ab.get ts k = v) : nR ts (k :: ks) ((k, v) :: r)
theorem Je {ts : Ts} {ks : List Nat} {r : Ts} {k : Nat} {v : V} (t : nR ts ks r := by first | exact nR.nil | exact Je) (h : Ab.get ts k = v := by conv => lhs; whnf) : nR ts (k :: ks) ((k, v) :: r) := nR.cons t h
theorem tl {ts r : Ts} (ks : List Nat) (h : nR ts ks r := by first | exact nR.nil | exact Je) : fO ts r := by
  induction h with
  | nil => exact kN
  | cons t h b => exact fO.cons h b
inductive nT (ts : Ts) (m : Nat) : List Nat → Ts → Prop
  | nil : nT ts m [] []
  | cons {ks : List Nat} {r : Ts} {k : Nat} {v : V} (t : nT ts m ks r) (h : Ab.get ts k = v) (hv : v.xm m = true) : nT ts m (k :: ks) ((k, v) :: r)
theorem Jf {ts : Ts} {m : Nat} {ks : List Nat} {r : Ts} {k : Nat} {v : V} (t : nT ts m ks r := by first | exact nT.nil | exact Jf) (h : Ab.get ts k = v := by conv => lhs; whnf) (hv : v.xm m = true := by rfl) : nT ts m (k :: ks) ((k, v) :: r) := nT.cons t h hv
theorem kl {ts r : Ts} {m : Nat} (ks : List Nat) (h : nT ts m ks r := by first | exact nT.nil | exact Jf) : dR ts m r := by
  induction h with
  | nil => exact dR.nil
  | cons t h hv b => exact dR.c h hv b
attribute [local irreducible] aI aH ag aq
structure Wr (A : Prop) : Prop where
  x : A
theorem Ys {A B : Prop} (h : Wr A → B := by
  intro a
  first
    | apply ag.PV
    | refine aI.SI ?_
    | (apply aI.s0; exact Kx; exact rfl)
    | apply aI.nil
    | (apply aH.s0; exact Kx; exact rfl)
    | apply ag.block
    | apply ag.region
    | (apply aI.gC; exact rfl; exact rfl; exact fun _ => Kx; exact rfl)
    | refine ag.PW ?_
    | refine aH.nil (by decide +kernel) ?_
    | refine aI.Sl ?_
    | refine aI.Sf ?_
    | (apply aH.gC; exact rfl; exact rfl; exact fun _ => Kx; exact rfl)
    | refine aH.uj (aq.Ip (gZ rfl) rfl rfl rfl rfl rfl) ?_
    | refine aH.sB (gZ rfl) rfl rfl ?_
  exact a.x) (a : A) : B := h ⟨a⟩
theorem Y1 {A B : Prop} (a : A) (h : Wr A → B := by intro a; refine Ys (a := ?_); exact a.x) : B := h ⟨a⟩
theorem Y2 {A B : Prop} (a : A) (h : Wr A → B := by intro a; refine Ys (a := ?_); refine Ys (a := ?_); exact a.x) : B := h ⟨a⟩
theorem Y3 {A B : Prop} (a : A) (h : Wr A → B := by intro a; refine Ys (a := ?_); refine Ys (a := ?_); refine Ys (a := ?_); exact a.x) : B := h ⟨a⟩
theorem Y4 {A B : Prop} (a : A) (h : Wr A → B := by intro a; refine Ys (a := ?_); refine Ys (a := ?_); refine Ys (a := ?_); refine Ys (a := ?_); exact a.x) : B := h ⟨a⟩
theorem Y5 {A B : Prop} (a : A) (h : Wr A → B := by intro a; refine Ys (a := ?_); refine Ys (a := ?_); refine Ys (a := ?_); refine Ys (a := ?_); refine Ys (a := ?_); exact a.x) : B := h ⟨a⟩
theorem Y6 {A B : Prop} (a : A) (h : Wr A → B := by intro a; refine Ys (a := ?_); refine Ys (a := ?_); refine Ys (a := ?_); refine Ys (a := ?_); refine Ys (a := ?_); refine Ys (a := ?_); exact a.x) : B := h ⟨a⟩
theorem Y7 {A B : Prop} (a : A) (h : Wr A → B := by intro a; refine Ys (a := ?_); refine Ys (a := ?_); refine Ys (a := ?_); refine Ys (a := ?_); refine Ys (a := ?_); refine Ys (a := ?_); refine Ys (a := ?_); exact a.x) : B := h ⟨a⟩
theorem Y8 {A B : Prop} (a : A) (h : Wr A → B := by intro a; refine Ys (a := ?_); refine Ys (a := ?_); refine Ys (a := ?_); refine Ys (a := ?_); refine Ys (a := ?_); refine Ys (a := ?_); refine Ys (a := ?_); refine Ys (a := ?_); exact a.x) : B := h ⟨a⟩
theorem Y9 {A B : Prop} (a : A) (h : Wr A → B := by intro a; refine Ys (a := ?_); refine Ys (a := ?_); refine Ys (a := ?_); refine Ys (a := ?_); refine Ys (a := ?_); refine Ys (a := ?_); refine Ys (a := ?_); refine Ys (a := ?_); refine Ys (a := ?_); exact a.x) : B := h ⟨a⟩
theorem jM {A B : Prop} (a : A) (h : Wr A → B := by intro a; refine Ys (a := ?_); refine Ys (a := ?_); refine Ys (a := ?_); refine Ys (a := ?_); refine Ys (a := ?_); refine Ys (a := ?_); refine Ys (a := ?_); refine Ys (a := ?_); refine Ys (a := ?_); refine Ys (a := ?_); exact a.x) : B := h ⟨a⟩
theorem AK {A B : Prop} (a : A) (h : Wr A → B := by intro a; refine Ys (a := ?_); refine Ys (a := ?_); refine Ys (a := ?_); refine Ys (a := ?_); refine Ys (a := ?_); refine Ys (a := ?_); refine Ys (a := ?_); refine Ys (a := ?_); refine Ys (a := ?_); refine Ys (a := ?_); refine Ys (a := ?_); exact a.x) : B := h ⟨a⟩
theorem kH {A B : Prop} (a : A) (h : Wr A → B := by intro a; refine Ys (a := ?_); refine Ys (a := ?_); refine Ys (a := ?_); refine Ys (a := ?_); refine Ys (a := ?_); refine Ys (a := ?_); refine Ys (a := ?_); refine Ys (a := ?_); refine Ys (a := ?_); refine Ys (a := ?_); refine Ys (a := ?_); refine Ys (a := ?_); exact a.x) : B := h ⟨a⟩
theorem xB {A B : Prop} (a : A) (h : Wr A → B := by intro a; refine Ys (a := ?_); refine Ys (a := ?_); refine Ys (a := ?_); refine Ys (a := ?_); refine Ys (a := ?_); refine Ys (a := ?_); refine Ys (a := ?_); refine Ys (a := ?_); refine Ys (a := ?_); refine Ys (a := ?_); refine Ys (a := ?_); refine Ys (a := ?_); refine Ys (a := ?_); exact a.x) : B := h ⟨a⟩
theorem P3 {A B : Prop} (a : A) (h : Wr A → B := by intro a; refine Ys (a := ?_); refine Ys (a := ?_); refine Ys (a := ?_); refine Ys (a := ?_); refine Ys (a := ?_); refine Ys (a := ?_); refine Ys (a := ?_); refine Ys (a := ?_); refine Ys (a := ?_); refine Ys (a := ?_); refine Ys (a := ?_); refine Ys (a := ?_); refine Ys (a := ?_); refine Ys (a := ?_); refine Ys (a := ?_); exact a.x) : B := h ⟨a⟩
theorem P4 {A B : Prop} (a : A) (h : Wr A → B := by intro a; refine Ys (a := ?_); refine Ys (a := ?_); refine Ys (a := ?_); refine Ys (a := ?_); refine Ys (a := ?_); refine Ys (a := ?_); refine Ys (a := ?_); refine Ys (a := ?_); refine Ys (a := ?_); refine Ys (a := ?_); refine Ys (a := ?_); refine Ys (a := ?_); refine Ys (a := ?_); refine Ys (a := ?_); refine Ys (a := ?_); refine Ys (a := ?_); refine Ys (a := ?_); refine Ys (a := ?_); exact a.x) : B := h ⟨a⟩
end Go.Ab
