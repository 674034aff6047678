import Derived.Test.YtgkmefkmmafocaaGreatDoorE2
import Derived.Defers
import Derived.Laws.IdiomRangeMap
import Derived.Sort.Grow
import Derived.Shelf.SlSortCmp.NoneTotal
import Derived.Shelf.Spec.SlicesGrow
import Derived.Shelf.SlicesE.DeleteFunc
import Derived.Laws.BytesString
import Derived.Shelf.Strconv.Itoa3
import Derived.Shelf.Strings.OnBuilder
import Derived.WalkKit
import Derived.ProofKit
import Derived.OpenShut
import Derived.JoinedCond
import Derived.Carry
set_option maxRecDepth 100000
set_option maxHeartbeats 2000000
set_option linter.unusedVariables false
set_option linter.unusedSimpArgs false
/-
 The rules as a walk applies them.
-/
namespace Go.Ab
open Go Go.RowKit
variable {az:bC}
variable {ii:eF}
section
variable {P:Program}{ops:Array Oper}{rest:List Oper}{Q:St->Prop}{n:Nat}{ts:Ts}{ls aH:List (List D)}{h h':ak}{fx:Fx}{v:V}{d dg gi:Nat}{op:Op}{ty:TypeId}{pos:String}{aC:Array Edge}{want b:Bool}
theorem aO.s0 (b:aq P ⟨some d,op,ty,pos,aC,none⟩ ts ls h fx v ls h) (f:Nat.blt d n=true) (hr:aO P ops rest Q ⟨n,(d,v)::ts,ls,h⟩):aO P ops (⟨some d,op,ty,pos,aC,none⟩::rest) Q ⟨n,ts,ls,h⟩ :=
 aO.step b rfl f (by cases fx.wl<;>cases fx.wh<;>exact hr)
theorem aO.sL (b:aq P ⟨some d,op,ty,pos,aC,none⟩ ts ls h { wl:=true } v aH h) (f:Nat.blt d n=true) (hr:aO P ops rest Q ⟨n,(d,v)::ts,aH,h⟩):aO P ops (⟨some d,op,ty,pos,aC,none⟩::rest) Q ⟨n,ts,ls,h⟩ :=
 aO.step b rfl f hr
theorem aO.dA (b:aq P ⟨none,op,ty,pos,aC,none⟩ ts ls h { wl:=true } v aH h) (hr:aO P ops rest Q ⟨n,ts,aH,h⟩):aO P ops (⟨none,op,ty,pos,aC,none⟩::rest) Q ⟨n,ts,ls,h⟩ :=
 aO.step b rfl rfl hr
theorem aO.sH (b:aq P ⟨some d,op,ty,pos,aC,none⟩ ts ls h { rh:=true,wh:=true } v ls h') (f:Nat.blt d n=true) (hr:aO P ops rest Q ⟨n,(d,v)::ts,ls,h'⟩):aO P ops (⟨some d,op,ty,pos,aC,none⟩::rest) Q ⟨n,ts,ls,h⟩ :=
 aO.step b rfl f hr
theorem aO.eR (b:aq P ⟨none,op,ty,pos,aC,none⟩ ts ls h fx v ls h') (f:fx.wl=false) (g:fx.wh=true) (hr:aO P ops rest Q ⟨n,ts,ls,h'⟩):aO P ops (⟨none,op,ty,pos,aC,none⟩::rest) Q ⟨n,ts,ls,h⟩ :=
 aO.step b rfl rfl (by rw [f,g]; exact hr)
theorem aO.sE {R:V->List (List D)->ak->Prop}(b:di P ⟨some d,op,ty,pos,aC,none⟩ ts ls h R) (f:Nat.blt d n=true) (hr:∀v aH h',R v aH h'->aO P ops rest Q ⟨n,(d,v)::ts,aH,h'⟩) :
  aO P ops (⟨some d,op,ty,pos,aC,none⟩::rest) Q ⟨n,ts,ls,h⟩:=aO.Ar b rfl f hr
theorem vG (hg:(ops[gi]?).bind (·.dst)=some dg){dst:Option Tmp}:guardOf ops ⟨dst,op,ty,pos,aC,some (gi,want)⟩=some (dg,want):=by
 simp only [guardOf,hg]
variable {done:List Fx}
theorem au.s0 (f:aq P ⟨some d,op,ty,pos,aC,none⟩ ts ls h fx v ls h) (g:Nat.blt d n=true) (hr:au P ops n rest (fx.plain::done) Q ⟨n,(d,v)::ts,ls,h⟩):au P ops n (⟨some d,op,ty,pos,aC,none⟩::rest) done Q ⟨n,ts,ls,h⟩ :=
 au.cons (kA.plain f rfl g) (by cases fx with|mk a b c d e=>cases b<;>cases d<;>exact hr)
theorem oL.alloc {e:TypeId}{b:TI}{z:A}{i:Nat}{aH:List (List D)}(g:aR P e=some b) (k:b.zero=some z) (l:bN (bZ z) ls i aH):oL P ⟨some d,.alloc e,ty,pos,aC,none⟩ (.cW i 0) ls aH:=by
 obtain⟨inf,s,h1,_,_,_,_,f⟩:=eP g;rw [k] at f;obtain⟨v,m,o⟩:=kC f;obtain⟨p,q⟩:=l.spec;refine⟨bZ z,d,rfl,rfl,by rw [p],q,v.cells.toList,e,fun j w=>(o j w).cells,fun a w K Q hk=>?_⟩;have r:(execOp a.eval (⟨some d,.alloc e,ty,pos,aC,none⟩:Oper)).run P w=.ok (.value (.pointer (some ⟨w.heap.size,0,none⟩))) (w.alloc (.cells v.cells e)):=by
  simp [execOp,Instr.alloc,zeroValue,typeInfo,h1,m,newVar,newRow]
 unfold Oper.wp;rw [r,Oper.upon_value];rw [Array.toArray_toList] at hk;exact hk
theorem au.sB {e:TypeId}{b:TI}{z:A}{i:Nat}{aH:List (List D)}(f:aR P e=some b) (g:b.zero=some z) (j:Nat.blt d n=true) (hr:au P ops n rest ({ wl:=true,nu:=true }::done) Q ⟨n,(d,.cW i 0)::ts,aH,h⟩)
  (k:bN (bZ z) ls i aH:=by repeat (first|exact bN.nil|apply bN.cons)):au P ops n (⟨some d,.alloc e,ty,pos,aC,none⟩::rest) done Q ⟨n,ts,ls,h⟩:=au.born (oL.alloc f g k) j hr
theorem au.dA (b:aq P ⟨none,op,ty,pos,aC,none⟩ ts ls h { wl:=true } v aH h) (hr:au P ops n rest ({ wl:=true }::done) Q ⟨n,ts,aH,h⟩):au P ops n (⟨none,op,ty,pos,aC,none⟩::rest) done Q ⟨n,ts,ls,h⟩ :=
 au.cons (kA.plain b rfl rfl) hr
theorem au.sH (b:aq P ⟨some d,op,ty,pos,aC,none⟩ ts ls h { rh:=true,wh:=true } v ls h') (f:Nat.blt d n=true) (hr:au P ops n rest ({ rh:=true,wh:=true }::done) Q ⟨n,(d,v)::ts,ls,h'⟩) :
  au P ops n (⟨some d,op,ty,pos,aC,none⟩::rest) done Q ⟨n,ts,ls,h⟩:=au.cons (kA.plain b rfl f) hr
theorem au.eR (b:aq P ⟨none,op,ty,pos,aC,none⟩ ts ls h fx v ls h') (f:fx.wl=false) (g:fx.wh=true) (hr:au P ops n rest (fx.plain::done) Q ⟨n,ts,ls,h'⟩):au P ops n (⟨none,op,ty,pos,aC,none⟩::rest) done Q ⟨n,ts,ls,h⟩ :=
 au.cons (kA.plain b rfl rfl) (by rw [f,g]; exact hr)
end
section
variable {P:Program}{ops:Array Oper}{rest:List Oper}{Q:St->Prop}{n:Nat}{ts:Ts}{ls aH:List (List D)}{h h':ak}{fx:Fx}{x:A}{d dg gi:Nat}{op:Op}{ty:TypeId}{pos:String}{aC:Array Edge}{want C:Bool}
def gc:V->Bool->Option Bool
 | .a (.d (.bool b)),true=>some b
 | .a (.d (.bool b)),false=>some (!b)
 | .gd c (.d (.bool b)),true=>some (c&&b)
 | .gd c (.d (.bool b)),false=>some (c&&!b)
 | _,_=>none
theorem Bi {j:J}{w:World}{jl:List Nat}{a:Act}{o:Oper}(hg:guardOf ops o=some (dg,want)) (hc:gc (get ts dg) want=some C) (h:bq j w jl (get ts dg) (a.tmps.getD dg undef)) :
  Region.wanted o (yielded ops a.tmps)=C:=by
 cases hv:get ts dg with
 | a y =>
  cases y with
  | d z =>
   cases z with
   | bool b =>
    rw [hv] at hc;cases want<;>simp only [gc,Option.some.injEq] at hc<;>subst hc<;>rw [Aq hg hv h]<;>cases b<;>rfl
   | _=>rw [hv] at hc; cases want<;>simp [gc] at hc
  | agg z=>rw [hv] at hc; cases want<;>simp [gc] at hc
 | gd c y =>
  cases y with
  | agg z=>rw [hv] at hc; cases want<;>simp [gc] at hc
  | d z =>
   cases z with
   | bool b =>
    rw [hv] at hc;rw [hv] at h;cases c with
    | true =>
     have h1:bq j w jl (get [(dg,.a (.d (.bool b)))] dg) (a.tmps.getD dg undef):=by rw [fm]; exact h.1 rfl
     cases want<;>simp only [gc,Option.some.injEq,Bool.true_and] at hc<;>subst hc<;>rw [Aq (ts:=[(dg,.a (.d (.bool b)))]) hg (fm _ _ _) h1]<;>cases b<;>rfl
    | false =>
     have f:=h.2 rfl;have hC:C=false:=by cases want<;>simp [gc] at hc<;>exact hc
     subst hC;unfold guardOf at hg
     split at hg
     ·simp at hg
     ·rename_i g p k
      split at hg
      ·rename_i i l
       simp only [Option.some.injEq,Prod.mk.injEq] at hg;obtain⟨rfl,rfl⟩:=hg;have m:a.tmps[i]?=none\/a.tmps[i]?=some (.tuple #[]):=by
        rw [Array.getD_eq_getD_getElem?] at f;cases e:a.tmps[i]? with
        | none=>exact .inl rfl
        | some y=>rw [e] at f; simp at f; rw [f]; exact .inr rfl
       simp only [Region.wanted,k,yielded,l,Option.bind_some];rcases m with e|e<;>rw [e]<;>rfl
      ·simp at hg
   | _=>rw [hv] at hc; cases want<;>simp [gc] at hc
 | any=>rw [hv] at hc; cases want<;>simp [gc] at hc
 | cW _ _=>rw [hv] at hc; cases want<;>simp [gc] at hc
 | dz _=>rw [hv] at hc; cases want<;>simp [gc] at hc
 | iY _ _ _=>rw [hv] at hc; cases want<;>simp [gc] at hc
 | full _ _=>rw [hv] at hc; cases want<;>simp [gc] at hc
 | oG _ _ _=>rw [hv] at hc; cases want<;>simp [gc] at hc
theorem aq.gK {o:Oper}{v:V}{k:Nat}{c:Bool}(hk:get ts k=.gd c x) (hc:c=true) (b:aq P o ((k,.a x)::ts) ls h fx v aH h'):aq P o ts ls h fx v aH h':=by
 intro L H f hH j w jl a hl g;refine b L H f hH j w jl a hl fun y i=>?_;have h1:=g y i;cases y with
 | tmp t =>
  by_cases e:k=t
  ·subst e;simp only [ev] at h1 ⊢;rw [fm];rw [hk] at h1;exact h1.1 hc
  ·simp only [ev] at h1 ⊢;rw [gf _ _ e]; exact h1
 | _=>exact h1
theorem aq.Hg {o:Oper}{v:V}{k:Nat}{c:Bool}{i off:Nat}(hk:get ts k=.iY c i off) (hc:c=true) (b:aq P o ((k,.cW i off)::ts) ls h fx v aH h'):aq P o ts ls h fx v aH h':=by
 intro L H f hH j w jl a hl g;refine b L H f hH j w jl a hl fun y l=>?_;have h1:=g y l;cases y with
 | tmp t =>
  by_cases e:k=t
  ·subst e;simp only [ev] at h1 ⊢;rw [fm];rw [hk] at h1;exact h1.1 hc
  ·simp only [ev] at h1 ⊢;rw [gf _ _ e]; exact h1
 | _=>exact h1
theorem aO.gC {v:V}(hg:(ops[gi]?).bind (·.dst)=some dg) (hc:gc (get ts dg) want=some C) (p:C=true->aq P ⟨some d,op,ty,pos,aC,some (gi,want)⟩ ts ls h fx v ls h) (g:Nat.blt d n=true)
  (hr:aO P ops rest Q ⟨n,(d,v.under C)::ts,ls,h⟩):aO P ops (⟨some d,op,ty,pos,aC,some (gi,want)⟩::rest) Q ⟨n,ts,ls,h⟩:=by
 intro j w jl a b f hk;have q:=Bi (o:=⟨some d,op,ty,pos,aC,some (gi,want)⟩) (vG hg) hc (b.tmps dg);refine wpList_step fun K i=>?_;rw [q];cases C with
 | true =>
  rw [if_pos rfl];refine(p rfl).step j w jl a b.hl (fun x _=>ny b.tmps x) K f fun v0 l k cv j' w' r ⟨s,t,u⟩ hv hl hx m=>i _ _ ?_;have y:l=ls:=by rw [t]; cases fx.wl<;>rfl
  have z:k=h:=by rw [u]; cases fx.wh<;>rfl
  subst s y z;exact hr j' w' r _ (b.put m.toLe hx (dst:=some d) g (v:=_) (V.Am hv) hl) f fun B E F G a2 hq H I=>hk B E F G a2 hq H (m.trans I)
 | false =>
  simp only [Bool.false_eq_true,if_false];exact i _ _ (hr j w jl _ (b.put (Le.refl _ _) (Ext.refl _) (dst:=some d) g (v:=v.under false) (V.An v) b.hl) f hk)
theorem au.gC {v:V}{done:List Fx}(hg:(ops[gi]?).bind (·.dst)=some dg) (hc:gc (get ts dg) want=some C) (l:C=true->aq P ⟨some d,op,ty,pos,aC,some (gi,want)⟩ ts ls h fx v ls h) (m:Nat.blt d n=true)
  (hr:au P ops n rest (fx.plain::done) Q ⟨n,(d,v.under C)::ts,ls,h⟩):au P ops n (⟨some d,op,ty,pos,aC,some (gi,want)⟩::rest) done Q ⟨n,ts,ls,h⟩:=by
 refine au.cons (fx:=fx) (v:=v.under C) (aH:=ls) (h':=h) ⟨m,fun L H i hH j w jl a hl k K Q hk=>?_⟩ (by cases fx with|mk a b c d e=>cases b<;>cases d<;>exact hr);have p:=Bi (o:=⟨some d,op,ty,pos,aC,some (gi,want)⟩) (vG hg) hc (k dg (Gj (vG hg)));rw [p];cases C with
 | true =>
  rw [if_pos rfl];exact l rfl L H i hH j w jl a hl (Au k) K Q fun _ _ _ cv j' w' q ⟨g,f,r⟩=>by subst g f r; exact fun hv=>hk cv j' w' q (V.Am hv)
 | false =>
  simp only [Bool.false_eq_true,if_false];refine hk undef j w jl (V.An v) ?_ (Ext.refl _) ?_
  ·have g:(bif fx.wl then ls else L)=L:=by cases hw:fx.wl with
    | true=>exact(i (by rw [hw]; simp)).symm
    | false=>rfl
   have f:(bif fx.wh then h else H)=H:=by cases hw:fx.wh with
    | true=>exact(hH (by rw [hw]; simp)).symm
    | false=>rfl
   rw [g,f]; exact hl
  ·have f:(bif fx.wh then h else H)=H:=by cases hw:fx.wh with
    | true=>exact(hH (by rw [hw]; simp)).symm
    | false=>rfl
   rw [f]; exact bQ.refl _ _ _
variable {dst:Option Tmp}{g:Option (Nat×Bool)}
theorem aq.Hh {c y z:Operand}{b r i:Bool}(hc:ev ts c=.a (.d (.bool b))) (m:ev ts y=.gd i (.d (.bool r))) (o:b=true->i=true) (p:ev ts z=.a (.d (.bool false))) :
  aq P (mk dst (.pick c y z) ty pos aC g) ts ls h {} (.a (.d (.bool (b&&r)))) ls h :=
 aq.cQ fun j w jl a f=>by
  have h1:=f c (by simp [Op.operands]);have k:=f y (by simp [Op.operands]);have l:=f z (by simp [Op.operands]);rw [hc] at h1; rw [m] at k; rw [p] at l;cases b with
  | true =>
   have q:bq j w jl (.a (.d (.bool r))) (a.eval y):=k.1 (o rfl);exact⟨.bool r,by simp [execOp,jb h1,jb q,asBool],by simp only [Bool.true_and]; exact aD.bool _⟩
  | false=>exact⟨.bool false,by simp [execOp,jb h1,jb l,asBool],by simp only [Bool.false_and]; exact aD.bool _⟩
theorem aq.Hi {c y z:Operand}{b r i:Bool}(hc:ev ts c=.a (.d (.bool b))) (m:ev ts y=.a (.d (.bool true))) (o:ev ts z=.gd i (.d (.bool r))) (p:b=false->i=true) :
  aq P (mk dst (.pick c y z) ty pos aC g) ts ls h {} (.a (.d (.bool (b||r)))) ls h :=
 aq.cQ fun j w jl a f=>by
  have h1:=f c (by simp [Op.operands]);have k:=f y (by simp [Op.operands]);have l:=f z (by simp [Op.operands]);rw [hc] at h1; rw [m] at k; rw [o] at l;cases b with
  | false =>
   have q:bq j w jl (.a (.d (.bool r))) (a.eval z):=l.1 (p rfl);exact⟨.bool r,by simp [execOp,jb h1,jb q,asBool],by simp only [Bool.false_or]; exact aD.bool _⟩
  | true=>exact⟨.bool true,by simp [execOp,jb h1,jb k,asBool],by simp only [Bool.true_or]; exact aD.bool _⟩
theorem fo {a b:Bool}(h:(a&&b)=true):a=true:=by cases a<;>simp_all
theorem vH {a b:Bool}(h:(a&&b)=true):b=true:=by cases a<;>simp_all
theorem s8 {b:Bool}(h:b=false):(!b)=true:=by simp [h]
theorem s9 {a b:Bool}(h:a=true) (h':b=true):(a&&b)=true:=by simp [h,h']
end
section
variable {P:Program}{Q:Exit->St->Prop}{σ:St}
theorem bE {id:Nat}(h:Q .ret σ):oS id Q .ret σ:=h
theorem bF {K:St->Prop}(h:Q .ret σ):jP K Q .ret σ:=h
theorem ah.ax {x y:Code}(h:∀K:St->Prop,(∀σ,ah P y Q σ->K σ)->ah P x (jP K Q) σ):ah P (.seq x y) Q σ:=ah.seq (h _ fun _ h=>h)
theorem ah.Hj {α:Type}{c:Code}(inv:α->St) (m:α->Nat) (pre:α->Prop) (g:α) (k:bX σ (inv g)) (h0:pre g)
  (hr:∀x,pre x->∀K:St->Prop,(∀b y,bX b (inv y)->pre y->m y<m x->K b)->ah P c (jP K Q) (inv x)):ah P (.loop c) Q σ:=by
 refine ah.vn k (ah.loop inv m pre g h0 fun x hx=>ah.post (ah.mono (hr x hx (fun b=>∃y,bX b (inv y)/\pre y/\m y<m x) fun b y h1 i j=>⟨y,h1,i,j⟩) ?_));intro e f hq;cases e with
 | normal=>obtain⟨y,h1,i,j⟩:=hq; exact⟨inv y,h1,y,rfl,i,j⟩
 | exit _=>exact⟨f,bX.refl _,hq⟩
 | goto _=>exact⟨f,bX.refl _,hq⟩
 | ret=>exact⟨f,bX.refl _,hq⟩
 | panic _=>exact⟨f,bX.refl _,hq⟩
 | outgrown=>exact⟨f,bX.refl _,hq⟩
theorem bX.Hl {n:Nat}{ts b:Ts}{ls aH:List (List D)}{h h':ak}(m:Nat) (hk:aY ts m b) (hl:ls.take m=aH) (hh:h=h'):bX ⟨n,ts,ls,h⟩ ⟨n,b,aH,h'⟩:=by
 subst hl hh; exact bX.keep m hk
def V.s_ (m:Nat):V->Bool
 | .cW i _=>Nat.blt i m
 | .iY _ i _=>Nat.blt i m
 | _=>true
theorem aY.c {ts:Ts}{m:Nat}{k:Nat}{v:V}{r:Ts}(h:Ab.get ts k=v) (hv:v.s_ m=true) (t:aY ts m r):aY ts m ((k,v)::r) :=
 .cons h ⟨fun i off e=>by subst e; simpa [V.s_,Nat.blt_eq] using hv,fun c i off e=>by subst e; simpa [V.s_,Nat.blt_eq] using hv⟩ t
end
inductive eG (ts:Ts):Ts->Prop where
 | nil:eG ts []
 | cons {k:Nat}{v:V}{r:Ts}(h:Ab.get ts k=v) (t:eG ts r):eG ts ((k,v)::r)
inductive gL {α:Type}:List α->List α->Prop where
 | nil {l:List α}:gL [] l
 | cons {a:α}{l l':List α}(h:gL l l'):gL (a::l) (a::l')
theorem gL.take {α:Type}{l l':List α}(h:gL l l'):l'.take l.length=l:=by
 induction h with
 | nil=>simp
 | cons _ b=>simp [b]
theorem bX.to {n:Nat}{ts b:Ts}{ls aH:List (List D)}{h h':ak}(hk:aY ts aH.length b) (hl:gL aH ls) (hh:h=h'):bX ⟨n,ts,ls,h⟩ ⟨n,b,aH,h'⟩ :=
 bX.Hl aH.length hk hl.take hh
theorem bX.toF {n:Nat}{ts b:Ts}{ls aH:List (List D)}{h h':ak}(hk:aY ts aH.length b) (hl:gL aH ls) (hh:∀id o,h' id=some o->h id=some o):bX ⟨n,ts,ls,h⟩ ⟨n,b,aH,h'⟩ :=
 (bX.to hk hl rfl).trans (bX.forget hh)
section
variable {P:Program}{Q:Exit->St->Prop}{n:Nat}{iq ts:Ts}{ls:List (List D)}{h:ak}
theorem ah.fK {α:Type}{c:Code}(_:eG iq ts) (over:α->Ts) (lo:α->List (List D)) (hh:α->ak) (m:α->Nat) (pre:α->Prop) (b:α) (h0:pre b) (hi:bX ⟨n,iq,ls,h⟩ ⟨n,over b++ts,lo b,hh b⟩)
  (hr:∀x,pre x->∀K:St->Prop,(∀f y,bX f ⟨n,over y++ts,lo y,hh y⟩->pre y->m y<m x->K f)->ah P c (jP K Q) ⟨n,over x++ts,lo x,hh x⟩):ah P (.loop c) Q ⟨n,iq,ls,h⟩ :=
 ah.Hj (fun x=>⟨n,over x++ts,lo x,hh x⟩) m pre b hi h0 hr
theorem ah.ez {α:Type}{x y:Code}(_:eG iq ts) (over:α->Ts) (lo:α->List (List D)) (hh:α->ak) (pre:α->Prop)
  (hx:∀K:St->Prop,(∀b y,bX b ⟨n,over y++ts,lo y,hh y⟩->pre y->K b)->ah P x (jP K Q) ⟨n,iq,ls,h⟩) (i:∀z,pre z->ah P y Q ⟨n,over z++ts,lo z,hh z⟩):ah P (.seq x y) Q ⟨n,iq,ls,h⟩:=by
 refine ah.seq (ah.post (ah.mono (hx (fun b=>∃z,bX b ⟨n,over z++ts,lo z,hh z⟩/\pre z) fun b z h1 g=>⟨z,h1,g⟩) ?_));intro e f hq;cases e with
 | normal=>obtain⟨z,h1,g⟩:=hq; exact⟨_,h1,i z g⟩
 | exit _=>exact⟨f,bX.refl _,hq⟩
 | goto _=>exact⟨f,bX.refl _,hq⟩
 | ret=>exact⟨f,bX.refl _,hq⟩
 | panic _=>exact⟨f,bX.refl _,hq⟩
 | outgrown=>exact⟨f,bX.refl _,hq⟩
theorem ah.bp {α:Type}{c:Code}(_:eG iq ts) (over:α->Ts) (hh:α->ak) (m:α->Nat) (pre:α->Prop) (b:α) (h0:pre b) (hi:bX ⟨n,iq,ls,h⟩ ⟨n,over b++ts,ls,hh b⟩)
  (hr:∀x,pre x->∀K:St->Prop,(∀f y,bX f ⟨n,over y++ts,ls,hh y⟩->pre y->m y<m x->K f)->ah P c (jP K Q) ⟨n,over x++ts,ls,hh x⟩):ah P (.loop c) Q ⟨n,iq,ls,h⟩ :=
 ah.fK ‹_› over (fun _=>ls) hh m pre b h0 hi hr
theorem ah.aP {α:Type}{x y:Code}(_:eG iq ts) (over:α->Ts) (hh:α->ak) (pre:α->Prop)
  (hx:∀K:St->Prop,(∀b y,bX b ⟨n,over y++ts,ls,hh y⟩->pre y->K b)->ah P x (jP K Q) ⟨n,iq,ls,h⟩) (f:∀z,pre z->ah P y Q ⟨n,over z++ts,ls,hh z⟩):ah P (.seq x y) Q ⟨n,iq,ls,h⟩ :=
 ah.ez ‹_› over (fun _=>ls) hh pre hx f
end
end Go.Ab
/-
 The program's data types (package api) as plain Lean types,and how each is laid out in cells.
-/
namespace Go.Ab
open Go Go.RowKit
variable {az:bC}
abbrev qX:={ s:List UInt8 // s.length<=cq }
structure gm (α:Type) where
 nil:Bool
 l:List α
 ok:l.length<=cq
 nn:nil=true->l=[]
def gm.d {α:Type}(k:Nat) (f:α->List D) (s:gm α):D:=.slice k none s.nil (s.l.map f)
def Ho (s:qX):List D:=[.str s.1]
def Hp (n:Int):List D:=[.int .i64 n]
end Go.Ab
/-
 What the functions of package schema compute,in plain terms.
-/
namespace Go.Ab.l5
open Go Go.Ab
end Go.Ab.l5
/-
 Heaps in normal form; nil slices given a token where they are passed.
-/
namespace Go.Ab
open Go Go.RowKit
variable {az:bC}
variable {ii:eF}
theorem ak.bS {h:ak}{i:Nat}{o:Option Obj}(hi:h i=none):∀id b,h id=some b->(h.set i o) id=some b:=by
 intro id b e; rw [ak.cm]; exact e;intro he; rw [he,hi] at e; cases e
inductive jd (h:ak):A->A->Prop where
 | refl (x:A):jd h x x
 | nil {k k' t:Nat}{o:Obj}(ht:h t=some o):jd h (.d (.slice k none true [])) (.d (.slice k' (some t) true []))
 | Bj {k k':Nat}:jd h (.d (.slice k none true [])) (.d (.slice k' none true []))
theorem jd.rel {h:ak}{x y:A}(f:jd h x y){j:J}{w:World}{v:Value}(hh:fC j w h) (hx:cH j w x v):cH j w y v:=by
 cases f with
 | refl=>exact hx
 | @nil k k' t o ht =>
  have b:aD j w (.slice k none true []) v:=hx;cases b;exact aD.eU _ _ fun g e=>by simp at e; subst e; exact(hh.obj _ _ ht).1
 | @Bj k k' =>
  have b:aD j w (.slice k none true []) v:=hx;cases b;exact aD.eU _ _ fun g e=>by cases e
theorem AC.Bk {P:Program}{f:FuncId}{xs ys:List A}{h:ak}{dN:V->ak->Prop}(g:bf (jd h) xs ys) (hc:AC P f ys h dN):AC P f xs h dN :=
 ⟨hc.enter,fun j w ew hh k=>hc.runs j w ew hh (by
  refine bf.lT (by rw [<- g.length,k.length]) fun i y v l hv=>?_;obtain⟨x,hx,m⟩:=g.get' l;obtain⟨o,b,hr⟩:=k.get hx;rw [hv] at b; simp at b; subst b;exact m.rel hh hr)⟩
theorem gM {id:Nat}{Q:Exit->St->Prop}{σ:St}(h:Q .normal σ):oS id Q (.exit id) σ:=by
 unfold oS; simpa using h
theorem gN {id:Nat}{K:St->Prop}{Q:Exit->St->Prop}{σ:St}(h:Q (.exit id) σ):jP K Q (.exit id) σ:=h
theorem gP {id:Nat}{Q:Exit->St->Prop}{σ:St}(h:Q .normal σ):oS id Q .normal σ:=h
theorem ah.tok {P:Program}{c:Code}{Q:Exit->St->Prop}{n:Nat}{ts:Ts}{ls:List (List D)}{h:ak}(k:Nat)
  (hw:∀t,h t=none->ah P c Q ⟨n,ts,ls,h.set t (some (.tok k 0))⟩):ah P c Q ⟨n,ts,ls,h⟩:=by
 intro j w jl a b;obtain⟨h1,f⟩:=b.hl.eO k;have g:=b.hl.1.kz (Nat.le_refl _);refine wp_mono (hw j.next g j.eO w jl a ⟨b.defers,b.size,fun i=>(b.tmps i).mono f.toLe (Ext.refl _),h1⟩) fun e a w hq=>AQ.trans f hq
theorem ah.eH {P:Program}{c:Code}{Q:Exit->St->Prop}{n:Nat}{ts:Ts}{ls:List (List D)}{h:ak}(s k t:Nat){o:Obj}{f:Nat}(g:get ts s=.a (.d (.slice f none true []))) (ht:h t=some o)
  (hw:ah P c Q ⟨n,(s,.a (.d (.slice k (some t) true [])))::ts,ls,h⟩):ah P c Q ⟨n,ts,ls,h⟩:=by
 intro j w jl a b;refine hw j w jl a ⟨b.defers,b.size,fun i=>?_,b.hl⟩;by_cases e:s=i
 ·subst e;show bq _ _ _ (get ((s,_)::ts) s) _;rw [fm];have hv:bq j w jl (get ts s) (a.tmps.getD s undef):=b.tmps s;rw [g] at hv;exact(jd.nil (k':=k) ht).rel b.hl.1 hv
 ·show bq _ _ _ (get ((s,_)::ts) i) _;rw [gf _ _ e];exact b.tmps i
theorem ah.dm {P:Program}{c:Code}{Q:Exit->St->Prop}{n:Nat}{ts:Ts}{ls:List (List D)}{h:ak}(s:Nat){k:Nat}{tk:Option Nat}{nl:Bool}{rows:List (List D)}(g:get ts s=.a (.d (.slice k tk nl rows)))
  (hw:ah P c Q ⟨n,(s,.a (.d (.slice k none nl rows)))::ts,ls,h⟩):ah P c Q ⟨n,ts,ls,h⟩:=by
 intro j w jl a b;refine hw j w jl a ⟨b.defers,b.size,fun i=>?_,b.hl⟩;by_cases e:s=i
 ·subst e;show bq _ _ _ (get ((s,_)::ts) s) _;rw [fm];have hv:bq j w jl (get ts s) (a.tmps.getD s undef):=b.tmps s;rw [g] at hv;have f:aD j w (.slice k tk nl rows) (a.tmps.getD s undef):=hv;generalize a.tmps.getD s undef=x at f ⊢;cases f with
  | eU=>exact aD.eU _ _ fun t e=>by cases e
  | slice _ _ _ a cap cv hk hn hc bM hr ht=>exact aD.slice _ _ _ a cap cv hk hn hc bM hr fun t e=>by cases e
 ·show bq _ _ _ (get ((s,_)::ts) i) _;rw [gf _ _ e];exact b.tmps i
theorem bn.bG {T:List TI}{b:List ResultVar}{dN:V->ak->Prop}{σ:St}{xs:List A}(h':ak) (h:nD T σ b=some xs) (f:dN (oU xs) h') (g:∀id o,h' id=some o->σ.h id=some o):bn T b dN .ret σ:=⟨.inr rfl,xs,h',h,g,f⟩
theorem bn.gQ {T:List TI}{b:List ResultVar}{dN:V->ak->Prop}{σ:St}{xs:List A}(h':ak) (h:nD T σ b=some xs) (f:dN (oU xs) h') (g:∀id o,h' id=some o->σ.h id=some o):bn T b dN .normal σ:=⟨.inl rfl,xs,h',h,g,f⟩
section
variable {P:Program}{dst:Option Tmp}{ty:TypeId}{pos:String}{aC:Array Edge}{g:Option (Nat×Bool)}{ts:Ts}{ls:List (List D)}{h:ak}
end
def br (l:List (List UInt8)):List (D×A):=l.map fun s=>(.str s,.d (.bool true))
def dO (l:List (List UInt8)) (s:List UInt8):List (List UInt8):=if l.contains s then l else l++[s]
theorem Hq (l:List (List UInt8)) (s:List UInt8):kE (.str s) (br l)=some (if l.contains s then some (.d (.bool true)) else none):=by
 induction l with
 | nil=>rfl
 | cons x r b =>
  simp only [br,List.map_cons,kE,o4,List.contains_cons];by_cases e:s=x
  ·subst e; simp
  ·have f:(s==x)=false:=by simpa using e
   have g:(x==s)=false:=by simpa using fun h=>e h.symm
   simp only [f,g,Bool.false_or]; exact b
theorem vI (l:List (List UInt8)) (s:List UInt8):nG (.str s) (.d (.bool true)) (br l)=some (br (dO l s)):=by
 induction l with
 | nil=>rfl
 | cons x r f =>
  simp only [br,List.map_cons,nG,o4,dO,List.contains_cons];by_cases e:s=x
  ·subst e; simp
  ·have g:(s==x)=false:=by simpa using e
   have i:(x==s)=false:=by simpa using fun h=>e h.symm
   have b:=f;simp only [br,dO] at b;simp only [g,i,Bool.false_or,b]
   split<;>simp_all
theorem Bl (l:List (List UInt8)) (s t:List UInt8):(dO l s).contains t=(l.contains t||s==t):=by
 unfold dO; split
 ·rename_i h
  by_cases e:s=t
  ·subst e; simp_all
  ·have:(s==t)=false:=by simpa using e
   simp [this]
 ·simp [Bool.beq_eq_decide_eq,eq_comm]
section
variable {P:Program}{dst:Option Tmp}{ty:TypeId}{pos:String}{aC:Array Edge}{g:Option (Nat×Bool)}{ts:Ts}{ls:List (List D)}{h:ak}
theorem aq.tc {t b f:TypeId}{i j m:TI}{x y:Operand}{id:Nat}{l:List (List UInt8)}{s:List UInt8}(o:aR P t=some i) (hk:i.k=.map b f) (p:aR P b=some j) (u:aR P f=some m) (v:m.zero=some (.d (.bool false)))
  (hx:ev ts x=.a (.d (.map id))) (q:ev ts y=.a (.d (.str s))) (r:gJ j.k (.str s)=true) (hm:h id=some (.map (br l))):aq P (mk dst (.lookup t x y false) ty pos aC g) ts ls h { rh:=true } (.a (.d (.bool (l.contains s)))) ls h:=by
 have h1:=Hq l s;cases hc:l.contains s with
 | true=>rw [hc] at h1; exact aq.G_ o hk p hx q r hm h1
 | false=>rw [hc] at h1; exact aq.He o hk p u v hx q r hm h1
end
end Go.Ab
/-
 Variables that turn no more: a box that is only read,and a local that becomes data.
-/
namespace Go.Ab
open Go Go.RowKit
variable {az:bC}
variable {ii:eF}
theorem Bm {j:J}{w:World}{b:Nat}{xs:List D}{cs:List Value}{e:TypeId}{n:Nat}(hh:w.heap[b]?=some (.cells cs.toArray e (0,0))) (hx:bf (aD j w) xs cs) (g:xs.length<=j.F b) :
  aD j w (.view xs) (.pointer (some ⟨b,0,none⟩)):=by
 refine aD.view xs _ (fun i=>cs.getD i default) ⟨rfl,fun i hi=>?_⟩ fun i hi=>?_
 ·have f:i<cs.length:=hx.length▸hi;refine⟨by show 0+i<j.F b; omega, ?_⟩;show w.cell? ⟨b,0+i,none⟩=_;rw [Nat.zero_add,cell_of_row w b i cs.toArray e (0,0) hh];simp [f]
 ·obtain⟨v,hv,hr⟩:=hx.get (List.getElem?_eq_getElem hi);have:cs.getD i default=v:=by rw [List.getD_eq_getElem?_getD,hv]; rfl
  rw [this]; exact hr
section
variable {P:Program}{dst:Option Tmp}{ty:TypeId}{pos:String}{aC:Array Edge}{g:Option (Nat×Bool)}{ts:Ts}{ls:List (List D)}{h:ak}
theorem aq.Hr {e:TypeId}{x:Operand}{y:A}(hx:ev ts x=.a y):aq P (mk dst (.box e x) ty pos aC g) ts ls h {} (.a (.d (.view (bZ y)))) ls h:=by
 refine aq.of_run fun L H _ _ j w jl a hl f=>?_;have h1:=f x (by simp [Op.operands]);rw [hx] at h1;have i:cH j w y (a.eval x):=h1;obtain⟨k,b⟩:=hl.data (.cells (a.eval x).cells e) (bZ y).length;refine⟨.value (.pointer (some ⟨w.heap.size,0,none⟩)),_,.pointer (some ⟨w.heap.size,0,none⟩),j.eN w.heap.size (bZ y).length,jl,by simp [execOp,Instr.box,newVar,newRow],.inl rfl, ?_,k,Ext.refl _,b⟩
 refine Bm (n:=0) (cs:=(a.eval x).cells.toList) (e:=e) ?_ (i.cells.imp fun _ _ h=>h.mono b.toLe) (by simp [J.eN]);rw [Array.toArray_toList]; exact heap_alloc_new w _
variable {c:Code}{Q:Exit->St->Prop}{n:Nat}
theorem bX.freeze {g:Ts}{aH:List (List D)}{xs:List D}(s i:Nat) (G:get ts s=.cW i 0) (hl:bN xs aH i ls) (hk:aY ts i g):bX ⟨n,ts,ls,h⟩ ⟨n,(s,.a (.d (.view xs)))::g,aH,h⟩:=by
 obtain⟨hi,e⟩:=hl.spec;subst hi e;intro j w jl a f;have l:=f.hl;obtain⟨b,hb,q⟩:∃b,jl[aH.length]?=some b/\a.tmps.getD s undef=.pointer (some ⟨b,0,none⟩):=by
  have:=f.tmps s;have this:bq j w jl (get ts s) (a.tmps.getD s undef):=this;rw [G] at this; exact this
 obtain⟨xs',z,cs,R,B,H,I⟩:∃xs',(aH++[xs])[aH.length]?=some xs'/\jN j w b xs':=l.2.each.get' hb;simp at z; subst z;have aT:=ig B;have C:=l.trim (az:=az) aH.length;rw [List.take_left' rfl] at C;have K:b∉jl.take aH.length:=by
  intro hm;obtain⟨k,L,p⟩:=List.getElem_of_mem hm;rw [List.length_take] at L;have h1:jl[k]?=some b:=by rw [<- p,List.getElem_take]; exact List.getElem?_eq_getElem _
  have E:=(List.getElem?_inj (by omega) l.2.nodup).1 (h1.trans hb.symm);omega
 have M:¬bg j h (jl.take aH.length) b:=by
  rintro (hm|⟨id,o,h1,E⟩)
  ·exact K hm
  ·exact l.2.apart b (List.mem_of_getElem? hb) (.inr ⟨id,o,h1,E⟩)
 have hle:Le j w (j.eN b xs.length) w:=⟨Nat.le_refl _,fun _ _=>rfl,fun b'=>by
  simp only [J.eN]
  split
  ·rename_i e; rw [e,I]; exact Nat.zero_le _
  ·exact Nat.le_refl _,fun _ _ _=>rfl,fun _ _=>.inl rfl⟩
 have r:∀b',b'≠b->(j.eN b xs.length).F b'=j.F b':=fun b' N=>by simp only [J.eN]; rw [if_neg N]
 have p:=C.1.keep hle (fun b' m=>⟨rfl,r b' (fun e=>M (e▸m))⟩) (fun _ _ _=>rfl) (fun b' O=>by rw [r b' (by omega)]; exact l.1.fresh b' O);refine⟨j.eN b xs.length,jl.take aH.length,⟨f.defers,f.size,fun k=>?_,p.1⟩, ?_⟩
 ·by_cases e:s=k
  ·subst e;show bq _ _ _ (get ((s,_)::g) s) _;rw [fm];have q:a.tmps.getD s undef=.pointer (some ⟨b,0,none⟩):=q;rw [q];exact Bm (n:=0) B (H.imp fun _ _ h=>h.mono hle) (by simp [J.eN])
  ·show bq _ _ _ (get ((s,_)::g) k) _;rw [gf _ _ e];obtain⟨S,U,W,_⟩:=bX.keep (az:=az) (n:=n) (ls:=aH++[xs]) (h:=h) aH.length hk j w jl a f;have hv:bq j w jl (get ts k) (a.tmps.getD k undef):=f.tmps k;rcases hk.get k with t|⟨t,P,Q⟩
   ·rw [t]; trivial
   ·rw [<- t] at hv;cases hx:get g k with
    | any=>trivial
    | a x=>rw [hx] at hv; exact cH.mono hle hv
    | cW i off =>
     rw [hx] at hv;obtain⟨u,v,y⟩:=hv;exact⟨u,by rw [List.getElem?_take_of_lt (P i off hx)]; exact v,y⟩
    | dz xs=>rw [hx] at hv; obtain⟨cs,e,hh⟩:=hv; exact⟨cs,e,hh.imp fun _ _ h=>h.mono hle⟩
    | gd c x=>rw [hx] at hv; exact⟨fun hc=>cH.mono hle (hv.1 hc),hv.2⟩
    | full k rows=>rw [hx] at hv; exact⟨aD.mono hle hv.1,hv.2⟩
    | oG c k rows=>rw [hx] at hv; exact⟨fun hc=>⟨aD.mono hle (hv.1 hc).1,(hv.1 hc).2⟩,hv.2⟩
    | iY c i off =>
     rw [hx] at hv;refine⟨fun hc=>?_,hv.2⟩;obtain⟨u,v,y⟩:=hv.1 hc;exact⟨u,by rw [List.getElem?_take_of_lt (Q c i off hx)]; exact v,y⟩
 ·refine { toLe:=hle,size:=Nat.le_refl _,frame:=fun b' _ m=>⟨rfl,r b' fun e=>m (.inl (e▸List.mem_of_getElem? hb))⟩,own:=fun b' _ m=>?_,os:=rfl,tape:=rfl,output:=eY.rfl };rcases (p.2 b').1 m with hm|hm
  ·exact .inl (List.mem_of_mem_take hm)
  ·exact .inr hm
theorem ah.freeze {b:Ts}{aH:List (List D)}{xs:List D}(s i:Nat) (f:get ts s=.cW i 0) (hl:bN xs aH i ls) (hk:aY ts i b) (hw:ah P c Q ⟨n,(s,.a (.d (.view xs)))::b,aH,h⟩):ah P c Q ⟨n,ts,ls,h⟩ :=
 ah.vn (bX.freeze s i f hl hk) hw
end
theorem Bn {k:Nat}{tk:Option Nat}{nl:Bool}{rows:List (List D)}(j:J) (w:World) (cv:Value) (h:bq j w [] (.a (.d (.slice k tk nl rows))) cv):bq j w [] (.a (.d (.slice k none nl rows))) cv:=by
 have h':aD j w (.slice k tk nl rows) cv:=h;cases h' with
 | eU=>exact aD.eU _ _ fun t e=>by cases e
 | slice _ _ _ a cap cv hk hn hc bM hr ht=>exact aD.slice _ _ _ a cap cv hk hn hc bM hr fun t e=>by cases e
end Go.Ab
/-
 Names and violations in plain terms; the reference's functions of layer 10.
-/
namespace Go.Ab.l5
open Go Go.Ab
end Go.Ab.l5
/-
 Layer 10: input types that contain themselves,plainly: the reference's list and what can be reached.
-/
namespace Go.Ab.l5
open Go Go.Ab
end Go.Ab.l5
/-
 The checker of package schema as an object.
-/
namespace Go.Ab
open Go Go.RowKit
variable {az:bC}
variable {ii:eF}
theorem bg.gp {j:J}{h:ak}{c:Nat}{xs ys:List D}(hc:h c=some (.cells xs)){jl:List Nat}{b:Nat}:bg j (h.set c (some (.cells ys))) jl b↔bg j h jl b:=by
 constructor
 ·rintro (h1|⟨id,o,h1,f⟩)
  ·exact .inl h1
  ·by_cases e:id=c
   ·subst e; rw [ak.cL] at h1; simp only [Option.some.injEq] at h1; subst h1;exact .inr ⟨id,_,hc,f⟩
   ·rw [ak.cm _ _ e] at h1; exact .inr ⟨id,o,h1,f⟩
 ·rintro (h1|⟨id,o,h1,f⟩)
  ·exact .inl h1
  ·by_cases e:id=c
   ·subst e; rw [hc] at h1; simp only [Option.some.injEq] at h1; subst h1;exact .inr ⟨id,_,ak.cL _ _ _,f⟩
   ·exact .inr ⟨id,o,by rw [ak.cm _ _ e]; exact h1,f⟩
theorem fC.gp {j:J}{w:World}{h:ak}{c:Nat}{xs ys:List D}(hr:fC j w h) (hc:h c=some (.cells xs)) (i:∀cs,bf (aD j w) xs cs->bf (aD j w) ys cs):fC j w (h.set c (some (.cells ys))):=by
 have key:∀id o,(h.set c (some (.cells ys))) id=some o->∃o',h id=some o'/\bR j id o=bR j id o':=by
  intro id o f;by_cases e:id=c
  ·subst e; rw [ak.cL] at f; simp only [Option.some.injEq] at f; subst f;exact⟨_,hc,rfl⟩
  ·rw [ak.cm _ _ e] at f; exact⟨o,f,rfl⟩
 refine⟨fun id o f=>?_,fun iZ o1 i_ o2 b h1 g k l=>?_,hr.fresh⟩
 ·by_cases e:id=c
  ·subst e; rw [ak.cL] at f; simp only [Option.some.injEq] at f; subst f;obtain⟨hn,cs,m,h1,g,p⟩:=hr.obj _ _ hc;exact⟨hn,cs,m,h1,i _ g,p⟩
  ·rw [ak.cm _ _ e] at f; exact hr.obj _ _ f
 ·obtain⟨u,q,r⟩:=key _ _ h1;obtain⟨v,s,t⟩:=key _ _ g;exact hr.inj _ _ _ _ b q s (r▸k) (t▸l)
theorem ah.gp {P:Program}{c:Code}{Q:Exit->St->Prop}{n:Nat}{ts:Ts}{ls:List (List D)}{h:ak}(id:Nat){xs:List D}(ys:List D) (hc:h id=some (.cells xs)) (i:∀j w cs,fC j w h->bf (aD j w) xs cs->bf (aD j w) ys cs)
  (hw:ah P c Q ⟨n,ts,ls,h.set id (some (.cells ys))⟩):ah P c Q ⟨n,ts,ls,h⟩:=by
 intro j w jl a f;have hl:=f.hl;refine wp_mono (hw j w jl a ⟨f.defers,f.size,f.tmps,⟨hl.1.gp hc (i j w · hl.1),⟨hl.2.each,hl.2.nodup,fun b hb g=>hl.2.apart b hb ((bg.gp hc).1 g)⟩⟩⟩) fun e a w hq=>AQ.trans ?_ hq;exact { bQ.refl j _ (bg j h jl) with own:=fun b _ g=>(bg.gp hc).1 g }
theorem ah.cV {P:Program}{c:Code}{Q:Exit->St->Prop}{n:Nat}{ts:Ts}{ls:List (List D)}{h:ak}(i:Nat){xs:List D}(ys:List D) (hc:ls[i]?=some xs) (l:∀j w cs,fC j w h->bf (aD j w) xs cs->bf (aD j w) ys cs)
  (hw:ah P c Q ⟨n,ts,ls.set i ys,h⟩):ah P c Q ⟨n,ts,ls,h⟩:=by
 intro j w jl a g;have hl:=g.hl;have m:bf (fun xs b=>jN j w b xs) (ls.set i ys) jl:=by
  refine bf.lT (by rw [List.length_set,hl.2.each.length]) fun k x b hx hb=>?_;rw [List.getElem?_set] at hx
  split at hx
  ·rename_i e
   subst e
   split at hx
   ·simp only [Option.some.injEq] at hx; subst hx;obtain⟨b',f,cs,o,h1,p,q⟩:=hl.2.each.get hc;rw [hb] at f; simp only [Option.some.injEq] at f; subst f;exact⟨cs,o,h1,l j w _ hl.1 p,q⟩
   ·cases hx
  ·obtain⟨b',f,h1⟩:=hl.2.each.get hx;rw [hb] at f; simp only [Option.some.injEq] at f; subst f;exact h1
 exact hw j w jl a ⟨g.defers,g.size,g.tmps,⟨hl.1,⟨m,hl.2.nodup,hl.2.apart⟩⟩⟩
end Go.Ab
namespace Go.Ab.l5
open Go Go.Ab
end Go.Ab.l5
/-
 Models: functions that may have no answer; the rules by which a walk follows its function's model.
-/
namespace Go.Ab
open Go Go.RowKit
variable {az:bC}
variable {ii:eF}
structure Sl (α:Type) where
 nl:Bool
 l:List α
abbrev Bs:=List UInt8
def Sl.d {α:Type}(k:Nat) (f:α->List D) (t:Option Nat) (s:Sl α):D:=.slice k t s.nl (s.l.map f)
def Sl.nil {α:Type}:Sl α:=⟨true,[]⟩
def aI (s:Bs):List D:=[.str s]
def td (b:Bool):List D:=[.bool b]
def bJ (k:IntKind) (n:Int):List D:=[.int k n]
def cA (a b:Int):Option Int:=if -9223372036854775808<=a+b/\a+b<=9223372036854775807 then some (a+b) else none
def nH (a b:Int):Option Int:=if -9223372036854775808<=a-b/\a-b<=9223372036854775807 then some (a-b) else none
def cI {α:Type}(l:List α) (n:Int):Option α:=if 0<=n then l[n.toNat]? else none
def cr (a b:Bs):Option Bs:=if a.length+b.length<=gD then some (a++b) else none
def aQ {α:Type}(z:Nat) (s r:Sl α):Option (Sl α):=if (s.l.length+r.l.length)*z<=cq/\s.l.length+r.l.length<=cq then some ⟨s.nl&&r.l.isEmpty,s.l++r.l⟩ else none
def nI {α:Type}(s:Sl α) (lo hi:Option Int):Option (Sl α) :=
 if 0<=lo.getD 0/\lo.getD 0<=hi.getD s.l.length/\hi.getD s.l.length<=s.l.length then some ⟨s.nl,(s.l.take (hi.getD s.l.length).toNat).drop (lo.getD 0).toNat⟩ else none
def tf (s:Bs) (lo hi:Option Int):Option Bs :=
 if 0<=lo.getD 0/\lo.getD 0<=hi.getD s.length/\hi.getD s.length<=s.length then some ((s.take (hi.getD s.length).toNat).drop (lo.getD 0).toNat) else none
def aU {α β:Type}(c:Bool) (o:Option α) (d:α) (k:α->Option β):Option β:=if c=true then o.bind k else k d
theorem Hs {a b x:Int}(h:cA a b=some x):x=a+b /\ -9223372036854775808<=a+b/\a+b<=9223372036854775807:=by
 unfold cA at h; split at h
 ·rename_i f; simp at h; exact⟨h.symm,f⟩
 ·cases h
theorem Ht {a b x:Int}(h:nH a b=some x):x=a-b /\ -9223372036854775808<=a-b/\a-b<=9223372036854775807:=by
 unfold nH at h; split at h
 ·rename_i f; simp at h; exact⟨h.symm,f⟩
 ·cases h
theorem Bo {α:Type}{l:List α}{n:Int}{x:α}(h:cI l n=some x):0<=n/\l[n.toNat]?=some x:=by
 unfold cI at h; split at h
 ·rename_i b; exact⟨b,h⟩
 ·cases h
theorem Hu {a b x:Bs}(h:cr a b=some x):x=a++b/\a.length+b.length<=gD:=by
 unfold cr at h; split at h
 ·rename_i f; simp at h; exact⟨h.symm,f⟩
 ·cases h
theorem Bp {α:Type}{z:Nat}{s r x:Sl α}(h:aQ z s r=some x):x=⟨s.nl&&r.l.isEmpty,s.l++r.l⟩/\(s.l.length+r.l.length)*z<=cq/\s.l.length+r.l.length<=cq:=by
 unfold aQ at h; split at h
 ·rename_i b; simp only [Option.some.injEq] at h; exact⟨h.symm,b⟩
 ·cases h
theorem Bq {α β:Type}{c:Bool}{o:Option α}{d:α}{k:α->Option β}{r:β}(h:aU c o d k=some r):∃x,(c=true->o=some x)/\k x=some r:=by
 unfold aU at h; split at h
 ·obtain⟨x,h1,b⟩:=Option.bind_eq_some_iff.1 h; exact⟨x,fun _=>h1,b⟩
 ·rename_i b; exact⟨d,fun e=>absurd e b,h⟩
theorem aZ {α β:Type}{o:Option α}{k:α->Option β}{r:β}(h:o.bind k=some r):∃x,o=some x/\k x=some r:=Option.bind_eq_some_iff.1 h
theorem vJ {α:Type}{c:Bool}{A B:Option α}{r:α}(hc:c=true) (h:(bif c then A else B)=some r):A=some r:=by subst hc; exact h
theorem vK {α:Type}{c:Bool}{A B:Option α}{r:α}(hc:c=false) (h:(bif c then A else B)=some r):B=some r:=by subst hc; exact h
section
variable {P:Program}{dst:Option Tmp}{ty:TypeId}{pos:String}{aC:Array Edge}{g:Option (Nat×Bool)}{ts:Ts}{ls:List (List D)}{h:ak}{α:Type}{f:α->List D}
theorem aq.b8 {t e:TypeId}{b:TI}{x:Operand}{cR:Array TypeId}{k:Nat}{tok:Option Nat}{s:Sl α}(i:aR P t=some b) (hk:b.k=.slice e) (bM:cR[0]?=some t)
  (hx:ev ts x=.a (.d (s.d k f tok))):aq P (mk dst (.call { callee:=.builtin .len,args:=#[x],argTypes:=cR }) ty pos aC g) ts ls h {} (.a (.d (.int .i64 (s.l.length:Int)))) ls h:=by
 have:=aq.GN (az:=az) (P:=P) (dst:=dst) (ty:=ty) (pos:=pos) (aC:=aC) (g:=g) (ls:=ls) (h:=h) i hk bM hx
 rwa [List.length_map] at this
theorem aq.je {t e:TypeId}{b i:TI}{x ix:Operand}{tok:Option Nat}{s:Sl α}{j:IntKind}{n:Int}{y:α}{k:Nat}(m:aR P t=some b) (hk:b.k=.slice e) (o:aR P e=some i)
  (hx:ev ts x=.a (.d (s.d k f tok))) (hi:ev ts ix=.a (.d (.int j n))) (p:k=i.size) (hr:cI s.l n=some y) :
  aq P (mk dst (.indexAddr t x ix) ty pos aC g) ts ls h {} (.a (.d (.view (f y)))) ls h:=by
 obtain⟨h1,q⟩:=Bo hr;exact aq.AU m hk o hx hi p h1 (by rw [List.getElem?_map,q]; rfl)
theorem aq.dI {t e:TypeId}{b i:TI}{x ix:Operand}{tok:Option Nat}{s:Sl α}{j:IntKind}{n:Nat}{y:α}{k:Nat}(m:aR P t=some b) (hk:b.k=.slice e) (o:aR P e=some i)
  (hx:ev ts x=.a (.d (s.d k f tok))) (hi:ev ts ix=.a (.d (.int j (n:Int)))) (p:k=i.size) (hr:s.l[n]?=some y) :
  aq P (mk dst (.indexAddr t x ix) ty pos aC g) ts ls h {} (.a (.d (.view (f y)))) ls h :=
 aq.AU m hk o hx hi p (by omega) (by rw [Int.toNat_natCast,List.getElem?_map,hr]; rfl)
theorem aq.nJ {t:TypeId}{b:TI}{x ix:Operand}{s:Bs}{f:IntKind}{n:Nat}{c:UInt8}(i:aR P t=some b) (hk:b.k=.str) (hx:ev ts x=.a (.d (.str s))) (hi:ev ts ix=.a (.d (.int f (n:Int)))) (hr:s[n]?=some c) :
  aq P (mk dst (.index t x ix) ty pos aC g) ts ls h {} (.a (.d (.int .u8 (c.toNat:Int)))) ls h :=
 aq.GO i hk hx hi (by omega) (by rw [Int.toNat_natCast]; exact hr)
theorem aq.eL {t u:TypeId}{x y:Operand}{m n r:Int}(hx:ev ts x=.a (.d (.int .i64 m))) (b:ev ts y=.a (.d (.int .i64 n))) (hr:cA m n=some r):aq P (mk dst (.binOp .add t x y u) ty pos aC g) ts ls h {} (.a (.d (.int .i64 r))) ls h:=by
 obtain⟨e,h1,f⟩:=Hs hr;subst e; exact aq.AW hx b h1 f
theorem aq.Br {t u:TypeId}{x y:Operand}{m n r:Int}(hx:ev ts x=.a (.d (.int .i64 m))) (b:ev ts y=.a (.d (.int .i64 n))) (hr:nH m n=some r):aq P (mk dst (.binOp .sub t x y u) ty pos aC g) ts ls h {} (.a (.d (.int .i64 r))) ls h:=by
 obtain⟨e,h1,f⟩:=Ht hr;subst e; exact aq.GH hx b h1 f
theorem aq.dP {t u:TypeId}{x y:Operand}{a b r:Bs}(hx:ev ts x=.a (.d (.str a))) (f:ev ts y=.a (.d (.str b))) (hr:cr a b=some r):aq P (mk dst (.binOp .add t x y u) ty pos aC g) ts ls h {} (.a (.d (.str r))) ls h:=by
 obtain⟨e,h1⟩:=Hu hr;subst e; exact aq.concat hx f h1
theorem aq.Hv {t e:TypeId}{u y:TI}{x:Operand}{lo hi:Option Operand}{k:Nat}{tok:Option Nat}{nl:Bool}{rows:List (List D)}{l r:Nat}(z:aR P t=some u) (hk:u.k=.slice e) (B:aR P e=some y)
  (hx:ev ts x=.a (.d (.slice k tok nl rows))) (G:k=y.size)
  (C:match lo with|none=>l=0|some o=>∃f n,ev ts o=.a (.d (.int f n))/\0<=n/\l=n.toNat) (E:match hi with|none=>r=rows.length|some o=>∃f n,ev ts o=.a (.d (.int f n))/\0<=n/\r=n.toNat)
  (H:l<=r) (i:r<=rows.length):aq P (mk dst (.slice t x lo hi none) ty pos aC g) ts ls h {} (.a (.d (.slice k none nl ((rows.take r).drop l)))) ls h:=by
 cases nl with
 | false=>exact aq.part z hk B hx G C E H i
 | true =>
  refine aq.cQ fun j w jl act m=>?_;have h1:=m x (by simp [Op.operands]);rw [hx] at h1;obtain⟨b,cap,F,hn,hc,I,J,N,hb⟩:=lX h1;cases b with
  | some b=>simp at I
  | none =>
   obtain⟨rfl,rfl⟩:=J rfl;simp only [List.length_nil,Nat.le_zero] at i;subst i;have K:l=0:=by omega
   subst K;have L:(match lo.map act.eval with|some v=>Instr.sliceBound v 0 .sliceB|none=>pure 0).run P w=.ok 0 w:=by
    cases lo with
    | none=>simp
    | some o =>
     obtain⟨f,n,p,q,s⟩:=C;have:=lY (P:=P) (cap:=0) p (m o (by simp [Op.operands])) q (by omega) .sliceB;simp only [Option.map_some]; rw [this,<- s]
   have M:(match hi.map act.eval with|some v=>Instr.sliceBound v 0 .sliceAcap|none=>pure ([]:List (List D)).length).run P w=.ok 0 w:=by
    cases hi with
    | none=>simp
    | some o =>
     obtain⟨f,n,p,q,s⟩:=E;have:=lY (P:=P) (cap:=0) p (m o (by simp [Op.operands])) q (by omega) .sliceAcap;simp only [Option.map_some]; rw [this,<- s]
   refine⟨.slice none 0 0, ?_,aD.eU _ _ (by simp)⟩;have:=Be z hk B (a:=none) (len:=0) (cap:=0) L M;simp only [List.length_nil] at F;simp only [execOp,Sem.run_bind,F,Option.map_none,this,Result.andThen,Sem.run_pure];simp
theorem aq.qY {t e:TypeId}{j m:TI}{x:Operand}{lo hi:Option Operand}{l r:Option Int}{k:Nat}{tok:Option Nat}{s y:Sl α}(p:aR P t=some j) (hk:j.k=.slice e) (q:aR P e=some m)
  (hx:ev ts x=.a (.d (s.d k f tok))) (u:k=m.size)
  (b:match lo,l with|none,none=>True|some o,some n=>ev ts o=.a (.d (.int .i64 n))|_,_=>False) (i:match hi,r with|none,none=>True|some o,some n=>ev ts o=.a (.d (.int .i64 n))|_,_=>False)
  (hr:nI s l r=some y):aq P (mk dst (.slice t x lo hi none) ty pos aC g) ts ls h {} (.a (.d (y.d k f none))) ls h:=by
 unfold nI at hr
 split at hr
 ·rename_i hc
  simp only [Option.some.injEq] at hr;have:=aq.Hv (az:=az) (P:=P) (dst:=dst) (ty:=ty) (pos:=pos) (aC:=aC) (g:=g) (ls:=ls) (h:=h) (l:=(l.getD 0).toNat) (r:=(r.getD s.l.length).toNat) p hk q (lo:=lo) (hi:=hi) hx u
   (by cases lo with
     | none=>cases l with
      | none=>rfl
      | some n=>exact b.elim
     | some o=>cases l with
      | none=>exact b.elim
      | some n=>exact⟨_,n,b,hc.1,rfl⟩)
   (by cases hi with
     | none=>cases r with
      | none=>simp
      | some n=>exact i.elim
     | some o=>cases r with
      | none=>exact i.elim
      | some n=>exact⟨_,n,i,Int.le_trans hc.1 hc.2.1,rfl⟩) (by omega) (by simp; omega)
  rw [<- List.map_take,<- List.map_drop] at this;rw [<- hr]; exact this
 ·cases hr
theorem aq.jf {t u e:TypeId}{j o b:TI}{x y:Operand}{tk k k' m:Nat}{tok':Option Nat}{s r v:Sl α}{z:A}(p:aR P t=some j) (hk:j.k=.slice e) (q:aR P e=some b) (w:aR P u=some o) (B:∃e,o.k=.slice e)
  (C:b.zero=some z) (E:(bZ z).length=b.size) (F:b.size≠0) (hx:ev ts x=.a (.d (s.d k f (some tk)))) (G:ev ts y=.a (.d (r.d k' f tok'))) (i:k=b.size) (H:k'=b.size)
  (I:h tk=some (.tok b.size m)) (hm:m=s.l.length) (hr:aQ b.bytes s r=some v) :
  aq P (mk dst (.call { callee:=.builtin .append,args:=#[x,y],argTypes:=#[t,u] }) ty pos aC g) ts ls h { rh:=true,wh:=true } (.a (.d (v.d k f (some tk)))) ls (h.set tk (some (.tok b.size v.l.length))):=by
 obtain⟨e,h1,J⟩:=Bp hr;subst e;have:=aq.append (az:=az) (P:=P) (dst:=dst) (ty:=ty) (pos:=pos) (aC:=aC) (g:=g) (ls:=ls) p hk q w (.inl B) C E F hx G (.inl i) (.inl H) I (by rw [hm]; simp) (by simpa using h1) (by simpa using J);simp only [List.length_map,List.length_append] at this ⊢;rw [<- List.map_append,List.isEmpty_map,<- i] at this;rw [<- i];exact this
end
section
variable {P:Program}{dst:Option Tmp}{ty:TypeId}{pos:String}{aC:Array Edge}{g:Option (Nat×Bool)}{ts:Ts}{ls:List (List D)}{h:ak}{α:Type}{f:α->List D}
theorem Hw {k k':Nat}(j:J) (w:World) (cv:Value) (h:bq j w [] (.a (.d (.slice k none true []))) cv):bq j w [] (.a (.d (.slice k' none true []))) cv:=by
 have h':aD j w (.slice k none true []) cv:=h;cases h';exact aD.eU _ _ fun t e=>by cases e
theorem aq.dc {x:Operand}{k k':Nat}(hx:ev ts x=.a (.d (.slice k none true []))):aq P (mk dst (.assign x) ty pos aC g) ts ls h {} (.a (.d (.slice k' none true []))) ls h :=
 (aq.assign hx).Bb fun j w _ cv h=>Hw j w cv h
theorem aq.Hx {t u e:TypeId}{F B b:TI}{s:Nat}{y:Operand}{k k':Nat}{tok':Option Nat}{G:Bool}{rows bH:List (List D)}{z:A}(R:aR P t=some F) (S:F.k=.slice e) (U:aR P e=some b) (W:aR P u=some B) (X:(∃e,B.k=.slice e)\/B.k=.str)
  (Y:b.zero=some z) (Z:(bZ z).length=b.size) (aa:b.size≠0) (hx:get ts s=.full k rows) (C:ev ts y=.a (.d (.slice k' tok' G bH))) (ab:∀q,y=.tmp q->s≠q) (i:k=b.size) (ad:k'=b.size\/bH=[])
  (ae:(rows.length+bH.length)*b.bytes<=cq) (hlen:rows.length+bH.length<=cq) :
  aq P (mk dst (.call { callee:=.builtin .append,args:=#[.tmp s,y],argTypes:=#[t,u] }) ty pos aC g) ts ls h {} (.a (.d (.slice b.size none false (rows++bH)))) ls h:=by
 intro L H _ _ j w jl a hl r K Q af;have h1:bq j w jl (get ts s) (a.eval (.tmp s)):=r (.tmp s) (by simp [Op.operands,Call.operands]);rw [hx] at h1;obtain⟨ag,aw,hv⟩:=h1;obtain⟨ah,p⟩:=hl.eE k rows.length;have ai:=hl.1.kz (Nat.le_refl _);have aj:aD (j.eE rows.length) w (.slice k (some j.next) false rows) (a.eval (.tmp s)):=by
  have I:=aD.mono p.toLe ag;rw [hv] at I ⊢;cases I with
  | slice _ _ _ a' cap f hk hn hc bM hr ht =>
   refine aD.slice _ _ _ _ _ f hk hn hc bM hr fun ax M=>?_;simp only [Option.some.injEq] at M;subst M;exact⟨by simp [J.eE],fun ay i=>by simp [J.eE] at i; subst i; exact⟨Nat.le_refl _,fun _=>.inl ⟨rfl,rfl⟩⟩⟩
 have al:ev ((s,V.a (.d (.slice k (some j.next) false rows)))::ts) y=.a (.d (.slice k' tok' G bH)):=by
  cases y with
  | tmp q=>simp only [ev] at C ⊢; rw [gf _ _ (ab q rfl)]; exact C
  | _=>exact C
 have hc:=aq.append (az:=az) (P:=P) (dst:=dst) (ty:=ty) (pos:=pos) (aC:=aC) (g:=g) (ls:=L) (h:=H.set j.next (some (.tok k rows.length))) (ts:=(s,V.a (.d (.slice k (some j.next) false rows)))::ts) (x:=.tmp s) (y:=y) (tk:=j.next) (m:=rows.length)
  R S U W X Y Z aa (by simp only [ev]; rw [fm]) al (.inl i) ad (by rw [ak.cL,i]) rfl ae hlen
 refine hc.step (j.eE rows.length) w jl a ah (fun x E=>?_) K Q ?_
 ·cases x with
  | tmp q =>
   by_cases e:s=q
   ·subst e;simp only [ev]; rw [fm];exact aj
   ·simp only [ev]; rw [gf _ _ e];exact(r (.tmp q) E).mono p.toLe (Ext.refl _)
  | const c=>exact(r (.const c) E).mono p.toLe (Ext.refl _)
  | global c=>trivial
  | func c=>exact(r (.func c) E).mono p.toLe (Ext.refl _)
 ·rintro v l hh cv j' w' am ⟨rfl,rfl,rfl⟩ an ao ap ar;obtain⟨au,av⟩:=ao.forget (h':=H) (fun id o hi=>by
   have N:id≠j.next:=fun e=>by rw [e,ai] at hi; cases hi
   show ((H.set _ _).set _ _) id=_;rw [ak.cm _ _ N,ak.cm _ _ N]; exact hi)
  refine af _ _ _ cv j' w' am ⟨rfl,rfl,rfl⟩ ?_ au ap ((p.trans ar).trans av);have O:aD j' w' (.slice b.size (some j.next) (false&&bH.isEmpty) (rows++bH)) cv:=an;simp only [Bool.false_and] at O;cases O with
  | slice _ _ _ a' cap f hk hn hc bM hr ht=>exact aD.slice _ _ _ _ _ f hk hn hc bM hr fun t e=>by cases e
theorem aq.qZ {t u e:TypeId}{i j b:TI}{s k k':Nat}{y:Operand}{tok':Option Nat}{x r v:Sl α}{z:A}(o:aR P t=some i) (p:i.k=.slice e) (w:aR P e=some b) (B:aR P u=some j) (C:∃e,j.k=.slice e)
  (E:b.zero=some z) (F:(bZ z).length=b.size) (G:b.size≠0) (hx:get ts s=.full k (x.l.map f)) (H:x.nl=false) (I:ev ts y=.a (.d (r.d k' f tok'))) (J:∀q,y=.tmp q->s≠q) (m:k=b.size) (K:k'=b.size)
  (hr:aQ b.bytes x r=some v) :
  aq P (mk dst (.call { callee:=.builtin .append,args:=#[.tmp s,y],argTypes:=#[t,u] }) ty pos aC g) ts ls h {} (.a (.d (v.d k f none))) ls h:=by
 obtain⟨e,h1,L⟩:=Bp hr;subst e;have:=aq.Hx (az:=az) (P:=P) (dst:=dst) (ty:=ty) (pos:=pos) (aC:=aC) (g:=g) (ls:=ls) (h:=h) o p w B (.inl C) E F G hx I J m (.inl K) (by simpa using h1) (by simpa using L);rw [<- List.map_append,<- m] at this;simp only [H,Bool.false_and];exact this
theorem Hy {t e:TypeId}(hu:P.underlying t=some (.slice e)) (d:Nat) (b:Option Addr) (n cap:Nat) (w:World):(Op.equalIn (d+1) t (.slice b n cap) (.slice none 0 0)).run P w=.ok b.isNone w:=by
 unfold Op.equalIn;simp only [Sem.run_bind,dY hu,Result.andThen];cases b<;>simp
theorem Hz {t e:TypeId}(hu:P.underlying t=some (.slice e)) (b:Option Addr) (n cap:Nat) (w:World):(Op.equal t (.slice b n cap) (.slice none 0 0)).run P w=.ok b.isNone w:=by
 exact Hy hu 9999 b n cap w
theorem HA {t e:TypeId}{op:BinOp}(x y:Operand) (b:Option Addr) (n cap:Nat) (w:World):(eqGuard op t x y (.slice b n cap) (.slice none 0 0)).run P w=.ok () w:=by
 unfold eqGuard;simp
theorem aq.Bt {t e u:TypeId}{f:TI}{x:Operand}{k:Nat}{tok:Option Nat}{nl:Bool}{rows:List (List D)}(i:aR P t=some f) (hk:f.k=.slice e) (hx:ev ts x=.a (.d (.slice k tok nl rows))) :
  aq P (mk dst (.binOp .eql t x (.const (.slice none 0 0)) u) ty pos aC g) ts ls h {} (.a (.d (.bool nl))) ls h :=
 aq.cQ fun j w jl act l=>by
  have h1:=l x (by simp [Op.operands]);rw [hx] at h1;obtain⟨b,cap,m,_,_,o,_⟩:=lX h1;have hu:=kD i hk;subst o;have p:act.eval (.const (.slice none 0 0))=.slice none 0 0:=rfl;refine⟨.bool b.isNone, ?_,aD.bool _⟩;simp only [execOp,m,p,Sem.run_bind,HA (e:=e),Result.andThen,binOp,Sem.run_map,Hz hu,Sem.run_pure]
theorem aq.HB {x y:Operand}{cR:Array TypeId}{k:IntKind}{m n:Int}(hx:ev ts x=.a (.d (.int k m))) (i:ev ts y=.a (.d (.int k n))) :
  aq P (mk dst (.call { callee:=.builtin .max,args:=#[x,y],argTypes:=cR }) ty pos aC g) ts ls h {} (.a (.d (.int k (if n>m then n else m)))) ls h :=
 aq.cQ fun j w jl act b=>by
  have h1:=b x (by simp [Op.operands,Call.operands]);have f:=b y (by simp [Op.operands,Call.operands]);rw [hx] at h1; rw [i] at f;exact⟨_,by simp only [execOp,resolve,invoke,builtin,List.map_toArray,List.map_cons,List.map_nil,gh h1,gh f]; simp [run_max_int2],aD.int _ _⟩
theorem aq.HC {t:TypeId}{j:TI}{x:Operand}{lo hi:Option Operand}{l r:Option Int}{s y:Bs}(i:aR P t=some j) (hk:j.k=.str) (hx:ev ts x=.a (.d (.str s)))
  (f:match lo,l with|none,none=>True|some o,some n=>ev ts o=.a (.d (.int .i64 n))|_,_=>False) (b:match hi,r with|none,none=>True|some o,some n=>ev ts o=.a (.d (.int .i64 n))|_,_=>False)
  (p:lo.isSome=true\/hi.isSome=true) (hr:tf s l r=some y):aq P (mk dst (.slice t x lo hi none) ty pos aC g) ts ls h {} (.a (.d (.str y))) ls h:=by
 unfold tf at hr
 split at hr
 ·rename_i hc
  simp only [Option.some.injEq] at hr;cases lo with
  | none =>
   cases l with
   | some n=>exact f.elim
   | none =>
    cases hi with
    | none=>simp at p
    | some o =>
     cases r with
     | none=>exact b.elim
     | some n =>
      have:=aq.vj (az:=az) (P:=P) (dst:=dst) (ty:=ty) (pos:=pos) (aC:=aC) (g:=g) (ls:=ls) (h:=h) i hk hx b (by simpa using hc.2.1) (by simpa using hc.2.2);rw [<- hr]; simpa using this
  | some o =>
   cases l with
   | none=>exact f.elim
   | some n =>
    cases hi with
    | none =>
     cases r with
     | some m=>exact b.elim
     | none =>
      have:=aq.sG (az:=az) (P:=P) (dst:=dst) (ty:=ty) (pos:=pos) (aC:=aC) (g:=g) (ls:=ls) (h:=h) i hk hx f (by simpa using hc.1) (by simpa using hc.2.1);rw [<- hr]; simpa using this
    | some o' =>
     cases r with
     | none=>exact b.elim
     | some m =>
      have:=aq.GP (az:=az) (P:=P) (dst:=dst) (ty:=ty) (pos:=pos) (aC:=aC) (g:=g) (ls:=ls) (h:=h) i hk hx f b (by simpa using hc.1) (by simpa using hc.2.1) (by simpa using hc.2.2);rw [<- hr];simp only [Option.getD_some];rw [List.drop_take];exact this
 ·cases hr
end
theorem aO.sLen {P:Program}{ops:Array Oper}{rest:List Oper}{Q:St->Prop}{n:Nat}{ts:Ts}{ls:List (List D)}{h:ak}{d:Nat}{ty:TypeId}{pos:String}{aC:Array Edge}{t e:TypeId}{b:TI}{x:Operand}{cR:Array TypeId}{k:Nat}{tok:Option Nat}{α:Type}{f:α->List D}{s:Sl α}
  (i:aR P t=some b) (hk:b.k=.slice e) (bM:cR[0]?=some t) (hx:ev ts x=.a (.d (s.d k f tok))) (m:Nat.blt d n=true)
  (hr:s.l.length<=140737488355328->aO P ops rest Q ⟨n,(d,.a (.d (.int .i64 (s.l.length:Int))))::ts,ls,h⟩) :
  aO P ops (⟨some d,.call { callee:=.builtin .len,args:=#[x],argTypes:=cR },ty,pos,aC,none⟩::rest) Q ⟨n,ts,ls,h⟩:=by
 intro j w jl a g o p;have hlen:s.l.length<=140737488355328:=by
  have h1:=ny g.tmps x;rw [hx] at h1;obtain⟨_,_,_,hn,_⟩:=lX h1
  simpa [cq] using hn
 exact aO.s0 (aq.b8 i hk bM hx) m (hr hlen) j w jl a g o p
theorem aO.o8 {P:Program}{ops:Array Oper}{rest:List Oper}{Q:St->Prop}{n:Nat}{ts:Ts}{ls:List (List D)}{h:ak}{d:Nat}{ty:TypeId}{pos:String}{aC:Array Edge}{t:TypeId}{b:TI}{x:Operand}{cR:Array TypeId}{s:Bs}
  (g:aR P t=some b) (hk:b.k=.str) (bM:cR[0]?=some t) (hx:ev ts x=.a (.d (.str s))) (i:Nat.blt d n=true)
  (hr:s.length<=4611686018427387904->aO P ops rest Q ⟨n,(d,.a (.d (.int .i64 (s.length:Int))))::ts,ls,h⟩) :
  aO P ops (⟨some d,.call { callee:=.builtin .len,args:=#[x],argTypes:=cR },ty,pos,aC,none⟩::rest) Q ⟨n,ts,ls,h⟩:=by
 intro j w jl a f l m;have hlen:s.length<=4611686018427387904:=by
  have h1:=ny f.tmps x;rw [hx] at h1;exact(gH h1).2
 exact aO.s0 (aq.sQ g hk bM hx) i (hr hlen) j w jl a f l m
theorem aO.vL {P:Program}{ops:Array Oper}{rest:List Oper}{Q:St->Prop}{n:Nat}{ts:Ts}{ls:List (List D)}{h h':ak}(e:h=h') (hw:aO P ops rest Q ⟨n,ts,ls,h'⟩):aO P ops rest Q ⟨n,ts,ls,h⟩:=e▸hw
theorem au.vL {P:Program}{ops:Array Oper}{m:Nat}{rest:List Oper}{done:List Fx}{Q:St->Prop}{n:Nat}{ts:Ts}{ls:List (List D)}{h h':ak}(e:h=h') (hw:au P ops m rest done Q ⟨n,ts,ls,h'⟩):au P ops m rest done Q ⟨n,ts,ls,h⟩:=e▸hw
theorem ah.dQ {P:Program}{c:Code}{Q:Exit->St->Prop}{n:Nat}{ts:Ts}{ls:List (List D)}{h h':ak}(e:h=h') (hw:ah P c Q ⟨n,ts,ls,h'⟩):ah P c Q ⟨n,ts,ls,h⟩:=e▸hw
theorem ak.dJ {h:ak}{i r:Nat}{o:Obj}(e:(h.set i (some o)) r=none):r≠i/\h r=none:=by
 have h1:r≠i:=fun b=>by rw [b,ak.cL] at e; cases e
 exact⟨h1,by rw [ak.cm _ _ h1] at e; exact e⟩
section
variable {P:Program}{ops:Array Oper}{rest:List Oper}{Q:St->Prop}{n:Nat}{ts:Ts}{ls:List (List D)}{h:ak}
theorem aO.gp (id:Nat){xs:List D}(ys:List D) (hc:h id=some (.cells xs)) (i:∀j w cs,fC j w h->bf (aD j w) xs cs->bf (aD j w) ys cs)
  (hw:aO P ops rest Q ⟨n,ts,ls,h.set id (some (.cells ys))⟩):aO P ops rest Q ⟨n,ts,ls,h⟩:=by
 intro j w jl a f k hk;have hl:=f.hl;refine hw j w jl a ⟨f.defers,f.size,f.tmps,⟨hl.1.gp hc (i j w · hl.1),⟨hl.2.each,hl.2.nodup,fun b hb g=>hl.2.apart b hb ((bg.gp hc).1 g)⟩⟩⟩ k fun l j' w' m a' hq o p=>hk l j' w' m a' hq o (bQ.trans ?_ p);exact { bQ.refl j _ (bg j h jl) with own:=fun b _ g=>(bg.gp hc).1 g }
theorem aO.cV (i:Nat){xs:List D}(ys:List D) (hc:ls[i]?=some xs) (l:∀j w cs,fC j w h->bf (aD j w) xs cs->bf (aD j w) ys cs)
  (hw:aO P ops rest Q ⟨n,ts,ls.set i ys,h⟩):aO P ops rest Q ⟨n,ts,ls,h⟩:=by
 intro j w jl a g;have hl:=g.hl;have m:bf (fun xs b=>jN j w b xs) (ls.set i ys) jl:=by
  refine bf.lT (by rw [List.length_set,hl.2.each.length]) fun k x b hx hb=>?_;rw [List.getElem?_set] at hx
  split at hx
  ·rename_i e
   subst e
   split at hx
   ·simp only [Option.some.injEq] at hx; subst hx;obtain⟨b',f,cs,o,h1,p,q⟩:=hl.2.each.get hc;rw [hb] at f; simp only [Option.some.injEq] at f; subst f;exact⟨cs,o,h1,l j w _ hl.1 p,q⟩
   ·cases hx
  ·obtain⟨b',f,h1⟩:=hl.2.each.get hx;rw [hb] at f; simp only [Option.some.injEq] at f; subst f;exact h1
 exact hw j w jl a ⟨g.defers,g.size,g.tmps,⟨hl.1,⟨m,hl.2.nodup,hl.2.apart⟩⟩⟩
theorem aO.tok (k:Nat) (hw:∀t,h t=none->aO P ops rest Q ⟨n,ts,ls,h.set t (some (.tok k 0))⟩):aO P ops rest Q ⟨n,ts,ls,h⟩:=by
 intro j w jl a b g hk;obtain⟨h1,f⟩:=b.hl.eO k;have l:=b.hl.1.kz (Nat.le_refl _);exact hw j.next l j.eO w jl a ⟨b.defers,b.size,fun i=>(b.tmps i).mono f.toLe (Ext.refl _),h1⟩ g fun m j' w' o a' hq p q=>hk m j' w' o a' hq p (f.trans q)
theorem aO.eH (s k t:Nat){o:Obj}{f:Nat}(g:get ts s=.a (.d (.slice f none true []))) (ht:h t=some o)
  (hw:aO P ops rest Q ⟨n,(s,.a (.d (.slice k (some t) true [])))::ts,ls,h⟩):aO P ops rest Q ⟨n,ts,ls,h⟩:=by
 intro j w jl a b;refine hw j w jl a ⟨b.defers,b.size,fun i=>?_,b.hl⟩;by_cases e:s=i
 ·subst e;show bq _ _ _ (get ((s,_)::ts) s) _;rw [fm];have hv:bq j w jl (get ts s) (a.tmps.getD s undef):=b.tmps s;rw [g] at hv;exact(jd.nil (k':=k) ht).rel b.hl.1 hv
 ·show bq _ _ _ (get ((s,_)::ts) i) _;rw [gf _ _ e];exact b.tmps i
theorem aO.dm (s:Nat){k:Nat}{tk:Option Nat}{nl:Bool}{rows:List (List D)}(f:get ts s=.a (.d (.slice k tk nl rows)))
  (hw:aO P ops rest Q ⟨n,(s,.a (.d (.slice k none nl rows)))::ts,ls,h⟩):aO P ops rest Q ⟨n,ts,ls,h⟩:=by
 intro j w jl a b;refine hw j w jl a ⟨b.defers,b.size,fun i=>?_,b.hl⟩;by_cases e:s=i
 ·subst e;show bq _ _ _ (get ((s,_)::ts) s) _;rw [fm];have hv:bq j w jl (get ts s) (a.tmps.getD s undef):=b.tmps s;rw [f] at hv;exact Bn j w _ hv
 ·show bq _ _ _ (get ((s,_)::ts) i) _;rw [gf _ _ e];exact b.tmps i
end
theorem tok_cell {j:J}{w:World}{h:ak}{t:Nat}{o:Obj}{xs:List D}{cs:List Value}(i k k':Nat) (hh:fC j w h) (ht:h t=some o) (hx:bf (aD j w) xs cs) (hi:xs[i]?=some (.slice k none true [])) :
  bf (aD j w) (xs.set i (.slice k' (some t) true [])) cs:=by
 refine bf.lT (by rw [List.length_set,hx.length]) fun n x v hn hv=>?_;rw [List.getElem?_set] at hn
 split at hn
 ·rename_i e
  subst e
  split at hn
  ·simp only [Option.some.injEq] at hn; subst hn;obtain⟨f,b,hr⟩:=hx.get hi;rw [hv] at b; simp only [Option.some.injEq] at b; subst b;exact(jd.nil (k:=k) (k':=k') ht).rel hh (x:=.d (.slice k none true [])) hr
  ·cases hn
 ·obtain⟨f,b,hr⟩:=hx.get hn;rw [hv] at b; simp only [Option.some.injEq] at b; subst b;exact hr
theorem jg {j:J}{w:World}{xs:List D}{cs:List Value}(i:Nat){k:Nat}{tk:Option Nat}{nl:Bool}{rows:List (List D)}(hx:bf (aD j w) xs cs) (hi:xs[i]?=some (.slice k tk nl rows)) :
  bf (aD j w) (xs.set i (.slice k none nl rows)) cs:=by
 refine bf.lT (by rw [List.length_set,hx.length]) fun n x v hn hv=>?_;rw [List.getElem?_set] at hn
 split at hn
 ·rename_i e
  subst e
  split at hn
  ·simp only [Option.some.injEq] at hn; subst hn;obtain⟨f,b,hr⟩:=hx.get hi;rw [hv] at b; simp only [Option.some.injEq] at b; subst b;exact Bn j w v hr
  ·cases hn
 ·obtain⟨f,b,hr⟩:=hx.get hn;rw [hv] at b; simp only [Option.some.injEq] at b; subst b;exact hr
def F0:Nat:=4611686018427387904
theorem wA {n:Nat}{ts b:Ts}{ls aH:List (List D)}{h h':ak}(hk:aY ts aH.length b:=by repeat (first|exact aY.nil|refine aY.c rfl rfl ?_|refine aY.c (by(first|(first|rfl|((conv=>lhs; whnf); first|(simp [bZ,vM,vN,vQ,HD.HE,Nat.add_assoc,empty_append,Bool.and_assoc]; done)|(simp [bZ,vM,vN,vQ,Nat.add_assoc,empty_append,Bool.and_assoc]; repeat (first|rfl|constructor))))|rfl|(simp only [fm,ev]; done)|(simp [*,bZ]; done)|(show V.a (A.d (D.slice _ _ _ _))=V.a (A.d (D.slice _ _ _ _)); simp [*,bZ]; done))) rfl ?_)) (hl:gL aH ls:=by repeat (first|exact gL.nil|apply gL.cons)) (hh:h=h':=by first|rfl|(first|rfl|(simp only [ak.set_set,List.length_append,List.length_nil,List.length_cons,List.length_map,List.length_singleton,Nat.zero_add]; done)|(simp [ak.set_set,Nat.add_assoc]; done))|(((funext n; simp only [ak.set]; (repeat' split)<;>simp_all))<;>first|rfl|exact⟨rfl,rfl⟩)):bX ⟨n,ts,ls,h⟩ ⟨n,b,aH,h'⟩:=bX.to hk hl hh
theorem bX.toFA {n:Nat}{ts b:Ts}{ls aH:List (List D)}{h h':ak}(hh:∀id o,h' id=some o->h id=some o) (hk:aY ts aH.length b:=by repeat (first|exact aY.nil|refine aY.c rfl rfl ?_|refine aY.c (by(first|(first|rfl|((conv=>lhs; whnf); first|(simp [bZ,vM,vN,vQ,HD.HE,Nat.add_assoc,empty_append,Bool.and_assoc]; done)|(simp [bZ,vM,vN,vQ,Nat.add_assoc,empty_append,Bool.and_assoc]; repeat (first|rfl|constructor))))|rfl|(simp only [fm,ev]; done)|(simp [*,bZ]; done)|(show V.a (A.d (D.slice _ _ _ _))=V.a (A.d (D.slice _ _ _ _)); simp [*,bZ]; done))) rfl ?_)) (hl:gL aH ls:=by repeat (first|exact gL.nil|apply gL.cons)):bX ⟨n,ts,ls,h⟩ ⟨n,b,aH,h'⟩:=bX.toF hk hl hh
theorem aB {h:ak}{i:Nat}{o:Option Obj}(hg:h i=o:=by(first|assumption|exact ak.cL _ _ _|((repeat (refine(ak.cm _ _ (by first|assumption|(apply Ne.symm; assumption))).trans ?_)); first|assumption|exact ak.cL _ _ _)|(simp only [ak.set_set,ak.cL]; done)|(simp [ak.set, *]; done))):h i=o:=hg
theorem and_left {a b:Bool}(h:(a&&b)=true):a=true:=by cases a<;>simp_all
end Go.Ab
namespace Go.Ab
open Go Go.RowKit
variable {az:bC}
section
variable {P:Program}{ts:Ts}{ls aH:List (List D)}{h h':ak}{fx:Fx}{x:A}{dst:Option Tmp}{ty:TypeId}{pos:String}{aC:Array Edge}{g:Option (Nat×Bool)}
theorem aq.aL {o:Oper}{v:V}{k:Nat}{c:Bool}(hk:get ts k=.gd c x) (b:aq P o ((k,.a x)::ts) ls h fx v aH h') (hc:c=true:=by first|assumption|exact fo (by assumption)|exact fo (fo (by assumption))|exact fo (fo (fo (by assumption)))|exact vH (by assumption)|simp_all):aq P o ts ls h fx v aH h':=aq.gK hk hc b
theorem aq.vR {o:Oper}{v:V}{k:Nat}{c:Bool}{i off:Nat}(hk:get ts k=.iY c i off) (b:aq P o ((k,.cW i off)::ts) ls h fx v aH h') (hc:c=true:=by first|assumption|exact fo (by assumption)|exact fo (fo (by assumption))|exact fo (fo (fo (by assumption)))|exact vH (by assumption)|simp_all):aq P o ts ls h fx v aH h':=aq.Hg hk hc b
theorem aq.gR {c y z:Operand}{b r f:Bool}(hc:ev ts c=.a (.d (.bool b))) (i:ev ts y=.gd f (.d (.bool r))) (j:ev ts z=.a (.d (.bool false))) (k:b=true->f=true:=by intro hh; first|exact hh|exact s8 hh|exact s9 (by assumption) hh|exact s9 (by assumption) (s8 hh)|simp_all) :
  aq P (mk dst (.pick c y z) ty pos aC g) ts ls h {} (.a (.d (.bool (b&&r)))) ls h:=aq.Hh hc i k j
theorem aq.o9 {c y z:Operand}{b r f:Bool}(hc:ev ts c=.a (.d (.bool b))) (i:ev ts y=.a (.d (.bool true))) (j:ev ts z=.gd f (.d (.bool r))) (k:b=false->f=true:=by intro hh; first|exact hh|exact s8 hh|exact s9 (by assumption) hh|exact s9 (by assumption) (s8 hh)|simp_all) :
  aq P (mk dst (.pick c y z) ty pos aC g) ts ls h {} (.a (.d (.bool (b||r)))) ls h:=aq.Hi hc i j k
theorem aq.HF {x:Operand}{v:V}(hx:ev ts x=v:=by conv=>lhs; whnf):aq P (mk dst (.move x) ty pos aC g) ts ls h {} v ls h:=aq.move hx
theorem aq.HG {x:Operand}{v:V}(hx:ev ts x=v:=by conv=>lhs; whnf):aq P (mk dst (.assign x) ty pos aC g) ts ls h {} v ls h:=aq.assign hx
theorem aq.HH {t:TypeId}{b i:TI}{fs:List (Nat×TypeId)}{x:Operand}{f o:Nat}{xs ys:List D}{j:TypeId}(l:aR P t=some b) (hk:b.k=.struct fs) (m:fs[f]?=some (o,j)) (p:aR P j=some i)
  (q:Nat.beq i.size 0=false) (hx:ev ts x=.a (.d (.view xs))) (r:xs.drop o=ys:=by conv=>lhs; whnf):aq P (mk dst (.fieldAddr t x f) ty pos aC g) ts ls h {} (.a (.d (.view ys))) ls h:=aq.GC l hk m p q hx r
theorem eG.A {ts:Ts}{k:Nat}{v:V}{r:Ts}(t:eG ts r) (h:Ab.get ts k=v:=by conv=>lhs; whnf):eG ts ((k,v)::r):=eG.cons h t
theorem aq.HI {e:TypeId}{b:TI}{z:A}{i:Nat}{aH:List (List D)}(f:aR P e=some b) (j:b.zero=some z) (k:bN (bZ z) ls i aH:=by repeat (first|exact bN.nil|apply bN.cons)) :
  aq P (mk dst (.alloc e) ty pos aC g) ts ls h { wl:=true } (.cW i 0) aH h:=aq.GQ f j k
theorem aq.eA {t:TypeId}{b:TI}{x y:Operand}{i:Nat}{xs ys:List D}{aH:List (List D)}(f:aR P t=some b) (hx:ev ts x=.cW i 0) (j:ev ts y=.a (.agg ys)) (hl:ls[i]?=some xs)
  (k:ys.length=b.size) (hle:xs.length=b.size) (l:bL ys ls i aH:=by repeat (first|exact bL.zero|apply bL.succ)):aq P (mk none (.store t x y) ty pos aC g) ts ls h { wl:=true } .any aH h:=aq.GR f hx j hl k hle l
theorem ah.bA {c:Code}{Q:Exit->St->Prop}{n:Nat}{b:Ts}{aH:List (List D)}{xs:List D}(s i:Nat) (f:get ts s=.cW i 0) (hk:aY ts i b) (hw:ah P c Q ⟨n,(s,.a (.d (.view xs)))::b,aH,h⟩) (hl:bN xs aH i ls:=by repeat (first|exact bN.nil|apply bN.cons)):ah P c Q ⟨n,ts,ls,h⟩:=ah.freeze s i f hl hk hw
theorem aO.tokFull {ops:Array Oper}{rest:List Oper}{Q:St->Prop}{n:Nat}{α:Type}(s:Nat){k:Nat}{f:α->List D}{y:Sl α}(q:get ts s=.full k (y.l.map f)) (r:y.nl=false)
  (hw:∀t,h t=none->aO P ops rest Q ⟨n,(s,.a (.d (y.d k f (some t))))::ts,ls,h.set t (some (.tok k y.l.length))⟩):aO P ops rest Q ⟨n,ts,ls,h⟩:=by
 intro j w jl a b u hk;obtain⟨v,g⟩:=b.hl.eE k y.l.length;have x:=b.hl.1.kz (Nat.le_refl _);refine hw j.next x (j.eE y.l.length) w jl a ⟨b.defers,b.size,fun i=>?_,v⟩ u fun z j' w' B a' hq C E=>hk z j' w' B a' hq C (g.trans E);by_cases e:s=i
 ·subst e;show bq _ _ _ (get ((s,_)::ts) s) _;rw [fm];have hv:bq j w jl (get ts s) (a.tmps.getD s undef):=b.tmps s;rw [q] at hv;obtain⟨F,G,hv⟩:=hv;have m:=aD.mono g.toLe F;show aD _ _ (y.d k f (some j.next)) _;unfold Sl.d;rw [r];rw [hv] at m ⊢;cases m with
  | slice _ _ _ a' cap f hk hn hc bM hr ht =>
   refine aD.slice _ _ _ _ _ f hk hn hc bM hr fun H o=>?_;simp only [Option.some.injEq] at o;subst o;exact⟨by simp [J.eE],fun I p=>by simp [J.eE] at p; subst p; exact⟨by simp,fun _=>.inl ⟨rfl,by simp⟩⟩⟩
 ·show bq _ _ _ (get ((s,_)::ts) i) _;rw [gf _ _ e];exact(b.tmps i).mono g.toLe (Ext.refl _)
theorem ah.HJ {c:Operand}{u v:Code}{Q:Exit->St->Prop}{σ:St}{b:Bool}{α:Type}{A B:Option α}{r:α}(f:(bif b then A else B)=some r) (hc:ev σ.ts c=.a (.d (.bool b))) (ht:b=true->A=some r->ah P u Q σ) (g:b=false->B=some r->ah P v Q σ):ah P (.cond c u v) Q σ :=
 ah.cond hc (fun h=>ht h (Go.Ab.vJ h f)) (fun h=>g h (Go.Ab.vK h f))
end
end Go.Ab
/-
 Slices that may be stored to: their object holds the rows; the slot tells the object and the length.
-/
namespace Go.Ab
open Go Go.RowKit
variable {az:bC}
variable {ii:eF}
section
variable {P:Program}{ts:Ts}{ls:List (List D)}{h:ak}{dst:Option Tmp}{ty:TypeId}{pos:String}{aC:Array Edge}{g:Option (Nat×Bool)}{α:Type}{f:α->List D}
end
section
variable {P:Program}{ts:Ts}{ls:List (List D)}{h:ak}{dst:Option Tmp}{ty:TypeId}{pos:String}{aC:Array Edge}{g:Option (Nat×Bool)}{α:Type}{f:α->List D}
end
section
variable {P:Program}{ts:Ts}{ls:List (List D)}{h:ak}{dst:Option Tmp}{ty:TypeId}{pos:String}{aC:Array Edge}{g:Option (Nat×Bool)}{α:Type}{f:α->List D}
variable {c:Code}{Q:Exit->St->Prop}{n:Nat}{ops:Array Oper}{rest:List Oper}{Q':St->Prop}
end
end Go.Ab
/-
 A function that lays one deferred call and returns: the deferred closure is called behind the body,then the results are read. No program text.
-/
namespace Go.Ab
open Go Go.RowKit
variable {az:bC}
section
variable {P:Program}{M:St->Prop}{σ:St}{Y:Code}
end
end Go.Ab
namespace Go.Ab
open Go Go.RowKit
variable {az:bC}
end Go.Ab
namespace Go.Ab
variable {az:bC}
end Go.Ab
/-
 Arrays that are built at once and then only read.
-/
namespace Go.Ab
open Go Go.RowKit
variable {az:bC}
def vS (n k:Nat) (e:TypeId):List (Nat×TypeId):=(List.range n).map fun i=>(i*k,e)
section
variable {P:Program}{T:List TI}{ts:Ts}{ls:List (List D)}{h:ak}{dst:Option Tmp}{ty:TypeId}{pos:String}{aC:Array Edge}{g:Option (Nat×Bool)}
theorem aq.HK (r:lW P T){t e:TypeId}{n:Nat}{f b:TI}{k ys:List D}{parts:Array (Nat×Operand)}{ps:List (Nat×A)}(hu:P.underlying t=some (.array n e)) (y:T[t]?=some f) (s:T[e]?=some b) (z:f.zero=some (.agg k))
  (B:lZ ts parts.toList=some ps) (hb:oZ T (vS n b.size e) k ps=some ys):aq P (mk dst (.build t parts) ty pos aC g) ts ls h {} (.a (.agg ys)) ls h :=
 aq.cQ fun j w jl a C=>by
  have hr:=sY (j:=j) (w:=w) (jl:=jl) (act:=a) parts.toList ps B fun x hx=>C x (by simp [Op.operands] at hx ⊢; exact hx);have E:=r t f y;obtain⟨inf,d,h1,_,_,_,_,u⟩:=eP E;rw [z] at u;obtain⟨zv,F,G⟩:=kC u;obtain⟨l,H,I⟩:=vE (j:=j) (w:=w) (T:=T) (fs:=vS n b.size e) (place:=fun i=>some (i*b.size,b.size)) (fun i o K L hi v=>by
   unfold vS at hi;rw [List.getElem?_map] at hi;cases m:(List.range n)[i]? with
   | none=>rw [m] at hi; cases hi
   | some q =>
    rw [m] at hi;simp only [Option.map_some,Option.some.injEq,Prod.mk.injEq] at hi;obtain⟨rfl,rfl⟩:=hi;rw [s] at v; cases v;have:=(List.getElem?_eq_some_iff.1 m).2;rw [List.getElem_range] at this;rw [this]) ps _ k ys zv.cells hb hr (G j w).cells
  refine⟨.agg l, ?_,⟨l.toList,by simp,I⟩⟩;have J:(Instr.build t (parts.map fun(i,x)=>(i,a.eval x))).run P w=.ok (.agg l) w:=by
   simp only [Instr.build,Sem.run_bind,zeroValue,typeInfo,run_program,h1,F,Result.andThen,Sem.run_pure,dY hu,gG (r e b s)];have e:(Array.map (fun(x:Nat×Operand)=>(x.1,a.eval x.2)) parts).toList=parts.toList.map fun p=>(p.1,a.eval p.2):=by simp
   rw [e,H];simp
  simp only [execOp,Sem.run_bind,J,Result.andThen,Sem.run_pure]
end
end Go.Ab
/-
 Ranging over a set of strings: the map as it is,the iterator,its steps,delete.
-/
namespace Go.Ab
open Go Go.RowKit
variable {az:bC}{ii:eF}
section
variable {P:Program}{c:Code}{Q:Exit->St->Prop}{n:Nat}{ts:Ts}{ls:List (List D)}{h:ak}
end
section
variable {P:Program}{ts:Ts}{ls:List (List D)}{h:ak}{dst:Option Tmp}{ty:TypeId}{pos:String}{aC:Array Edge}{g:Option (Nat×Bool)}
end
section
variable {P:Program}{ts:Ts}{ls:List (List D)}{h:ak}{dst:Option Tmp}{ty:TypeId}{pos:String}{aC:Array Edge}{g:Option (Nat×Bool)}
end
section
variable {f:List UInt8->Option Bool}{r:List (List UInt8)}{c8:Nat}{p:List (List UInt8×Nat)}{seen:Array Nat}{s:List UInt8}{n:Nat}
end
section
variable {P:Program}{ts:Ts}{ls:List (List D)}{h:ak}{dst:Option Tmp}{ty:TypeId}{pos:String}{aC:Array Edge}{g:Option (Nat×Bool)}
end
end Go.Ab
/-
 Calls that only lay new blocks. No program text.
-/
namespace Go.Ab
open Go Go.RowKit Go.Sort
variable {az:bC}
end Go.Ab
/-
 slices.SortFunc over a slice that may be stored to: the shelf's contract,read in the abstract state. No program text.
-/
namespace Go.Ab
open Go Go.RowKit Go.Proofs Go.Shelf Go.Sort
variable {az:bC}
section
variable {P:Program}{ρ:Ren}{T:Type} [Inhabited T] (c:T->List D) (k:Nat)
end
section
variable {P:Program}{ρ:Ren}{T:Type} [Inhabited T] {c:T->List D}{k:Nat}
end
end Go.Ab
/-
 slices.Grow of a nil slice: the shelf's contract,read in the abstract state: a slice that may grow. No program text.
-/
namespace Go.Ab
open Go Go.RowKit Go.Proofs Go.Shelf
variable {az:bC}
def J.fp (j:J) (b cap:Nat):J:={ j with tok:=fun x=>if x=j.next then some ⟨some (b,cap),0⟩ else j.tok x,next:=j.next+1 }
theorem HL.fp {j:J}{w:World}{jl:List Nat}{ls:List (List D)}{h:ak}(hl:HL j w jl ls h) (k:Nat){b cap:Nat}{cs:Array Value}{e:TypeId}(hb:w.heap[b]?=some (.cells cs e (0,0))) (E:cs.size=cap*k) (G:j.F b=0)
  (u:¬bg j h jl b){w0:World}{O:Nat->Prop}(f:bQ j w0 O j w (bg j h jl)) (H:w0.heap.size<=b) :
  HL (j.fp b cap) w jl ls (h.set j.next (some (.tok k 0)))/\bQ j w0 O (j.fp b cap) w (bg (j.fp b cap) (h.set j.next (some (.tok k 0))) jl):=by
 have hle:Le j w (j.fp b cap) w:=⟨by simp [J.fp],fun _ _=>rfl,fun _=>Nat.le_refl _,fun _ _ _=>rfl,fun t ht=>.inl (by simp only [J.fp]; rw [if_neg (by omega)])⟩;have hk:=hl.keep hle (fun _ _=>⟨rfl,rfl⟩) (fun id hid _=>by simp only [J.fp]; rw [if_neg (by omega)]) hl.1.fresh;have m:bR (j.fp b cap) j.next (.tok k 0)=some b:=by simp [bR,J.fp]
 have I:∀n q,h n=some q->n≠j.next:=fun n q hn c=>by rw [c,hl.1.kz (Nat.le_refl _)] at hn; cases hn
 have v:∀jl x,bg (j.fp b cap) (h.set j.next (some (.tok k 0))) jl x->x=b\/bg (j.fp b cap) h jl x:=by
  rintro jl x (hm|⟨n,q,hn,e⟩)
  ·exact .inr (.inl hm)
  ·by_cases c:n=j.next
   ·subst c; rw [ak.cL] at hn; simp only [Option.some.injEq] at hn; subst hn;rw [m] at e; simp only [Option.some.injEq] at e; exact .inl e.symm
   ·rw [ak.cm h _ c] at hn; exact .inr (.inr ⟨n,q,hn,e⟩)
 have y:∀n q,h n=some q->bR (j.fp b cap) n q≠some b:=fun n q hn e=>u ((hk.2 b).1 (.inr ⟨n,q,hn,e⟩));refine⟨⟨⟨fun id o hi=>?_,fun p z r B x h1 g i l=>?_,hl.1.fresh⟩,⟨hk.1.2.each,hk.1.2.nodup,fun x hx s=>?_⟩⟩,
  { toLe:=f.toLe.trans hle,size:=f.size,frame:=fun x hx hn=>f.frame x hx hn,own:=fun x hx s=>?_,os:=f.os,tape:=f.tape,output:=f.output }⟩
 ·by_cases c:id=j.next
  ·subst c; rw [ak.cL] at hi; simp only [Option.some.injEq] at hi; subst hi;refine⟨by simp [J.fp],some (b,cap),by simp [J.fp],fun b' K C=>?_,fun h=>by cases h⟩;simp only [Option.some.injEq,Prod.mk.injEq] at C;obtain⟨rfl,rfl⟩:=C;exact⟨cs,e,hb,E,by rw [Nat.zero_mul]; exact G,Nat.zero_le _,fun _ h=>(by cases h)⟩
  ·rw [ak.cm h _ c] at hi; exact hk.1.1.obj id o hi
 ·by_cases c1:p=j.next<;>by_cases c2:r=j.next
  ·omega
  ·subst c1; rw [ak.cL] at h1; simp only [Option.some.injEq] at h1; subst h1;rw [ak.cm h _ c2] at g;rw [m] at i; simp only [Option.some.injEq] at i; subst i;exact absurd l (y r B g)
  ·subst c2; rw [ak.cL] at g; simp only [Option.some.injEq] at g; subst g;rw [ak.cm h _ c1] at h1;rw [m] at l; simp only [Option.some.injEq] at l; subst l;exact absurd i (y p z h1)
  ·rw [ak.cm h _ c1] at h1; rw [ak.cm h _ c2] at g;exact hk.1.1.inj p z r B x h1 g i l
 ·rcases v [] x s with c|c
  ·subst c; exact u (.inl hx)
  ·exact hk.1.2.apart x hx c
 ·rcases v jl x s with c|c
  ·omega
  ·exact f.own x hx ((hk.2 x).1 c)
theorem HM {P:Program}{ρ:Ren}(L:Lays8.n4 P ρ){b:TI}{z:A}(B:aR P (ρ.t 25)=some b) (C:b.zero=some z) (E:(bZ z).length=b.size) (ah:b.size≠0){n:Int}(h0:0<=n) (p:n.toNat*b.bytes<=cq) (hn:n.toNat<=cq)
  {F:Nat}(G:F=ρ.f 4){T:Type}(c:T->List D){r:Nat}(H:ak) :
  AC P F [.d (.slice r none true []),.d (.int .i64 n)] H fun v h'=>∃tk,H tk=none/\v=.a (.d (Sl.d b.size c (some tk) ⟨decide (n=0),[]⟩))/\h'=H.set tk (some (.tok b.size 0)):=by
 subst G;refine⟨L.f4.enters rfl,fun j w ew hr g=>?_⟩;have hl:HL j w [] [] H:=⟨hr,⟨.nil,by simp,by simp⟩⟩;cases g with
 | cons h1 g =>
 cases g with
 | cons I g =>
 cases g
 rename_i v1 v2
 obtain⟨K,ai,M,_,N,O,_,s⟩:=eP B;rw [C] at s;obtain⟨zv,Q,R⟩:=kC s;have S:zv.cells.size=b.size:=by have:=(R j w).cells.length; rw [E] at this; simpa using this.symm
 have U:aD j w (.slice r none true []) v1:=h1;have W:aD j w (.int .i64 n) v2:=I;cases U;cases W;have u:=hr.kz (Nat.le_refl _);have x:n=(n.toNat:Int):=(Int.toNat_of_nonneg h0).symm;have aj:cq=140737488355328:=rfl;generalize n.toNat=m at x p hn;subst x;by_cases hm:m=0
 ·subst hm;refine(Any8.slices_Grow_room L none 0 0 0 w (by omega) (by omega) (by omega) (by omega)).mono ?_;rintro e w' ⟨rfl,rfl⟩;obtain⟨k,l⟩:=hl.eO b.size;refine⟨_,_,j.eO,_,rfl,⟨j.next,u,rfl,rfl⟩, ?_,k.1,l⟩;exact aD.eU _ _ fun t ht=>by simp at ht; subst ht; simp [J.eO]
 ·refine(Any8.slices_Grow_grow L K zv M Q (by rw [N]; omega) none 0 0 m [] w (by omega) (by omega) (by rw [O]; simpa [cq] using p) (by omega) (by simp) (fun _=>rfl) (fun a h=>by cases h)).mono ?_;rintro e w' ⟨rfl,rfl⟩;generalize X:grownCap w (0+m) 0 (ρ.t 25)=cap;have al:m<=cap:=by rw [<- X]; have:=grownCap_ge w (0+m) 0 (ρ.t 25); omega
  generalize Y:(([]:List Value).toArray++Builtin.zeroCells zv.cells (0+m-0)++Builtin.zeroCells zv.cells (cap-(0+m)))=cs;have Z:cs.size=cap*b.size:=by
   rw [<- Y];simp only [Array.size_append,size_zeroCells,S,<- Nat.add_mul,List.size_toArray,List.length_nil,Nat.zero_add]
   congr 1; omega
  have y:=hl.drew.data (az:=az) (.cells cs (ρ.t 25)) 0;have aa:j.eN w.drew.heap.size 0=j:=J.qK (hl.1.fresh _ (Nat.le_refl _));rw [aa] at y;have am:(w.drew).heap.size=w.heap.size:=rfl;obtain⟨k,l⟩:=y;obtain⟨ab,ad⟩:=k.fp b.size (heap_alloc_new w.drew _) Z (hl.1.fresh _ (Nat.le_refl _)) (fun ae=>by
   have af:bg j H [] w.heap.size:=by
    rcases ae with hm|⟨i,o,hi,e⟩
    ·simp at hm
    ·exact .inr ⟨i,o,hi,e⟩
   have:=bg.lt hl af; omega) ((bQ.drew j w _).trans l) (Nat.le_refl _)
  refine⟨_,_,_,_,rfl,⟨j.next,u,rfl,rfl⟩, ?_,ab.1,ad⟩;have ag:decide ((m:Int)=0)=false:=decide_eq_false (by omega);show aD _ _ (.slice b.size (some j.next) (decide ((m:Int)=0)) []) _;rw [ag];refine aD.slice _ _ [] ⟨w.heap.size,0,none⟩ cap (fun _=>undef) (by simp) (by simp) (by simp) ⟨.inl rfl,by simp⟩ (by simp) fun t ht=>?_;simp only [Option.some.injEq] at ht;subst ht;refine⟨by simp [J.fp],fun q hq=>?_⟩
  simp only [J.fp,if_true,Option.some.injEq] at hq;subst hq;exact⟨by simp,fun _=>.inr ⟨_,rfl,rfl⟩⟩
end Go.Ab
/-
 slices.DeleteFunc over a slice that may be stored to and is not used any more: the shelf's contract,read in the abstract state. No program text.
-/
namespace Go.Proofs
open Go.Shelf Go.RowKit Go.Lib Go.Sort
variable {P:Program}{ρ:Ren}
end Go.Proofs
namespace Go.Ab
open Go Go.RowKit Go.Proofs Go.Shelf Go.Sort
variable {az:bC}
section
variable {P:Program}{ρ:Ren}
variable {T:Type} [Inhabited T] {v:T->Value}{d1:T->D}
end
end Go.Ab
/-
 Functions of the library that only compute,division,conversions; a block that stays as it is. No program text.
-/
namespace Go.Ab
open Go Go.RowKit Go.Proofs Go.Shelf
variable {az:bC}
section
variable {P:Program}{ts:Ts}{ls:List (List D)}{h:ak}{dst:Option Tmp}{ty:TypeId}{pos:String}{aC:Array Edge}{g:Option (Nat×Bool)}
theorem aq.HN {t u:TypeId}{x y:Operand}{k:IntKind}{m n:Int}(hx:ev ts x=.a (.d (.int k m))) (i:ev ts y=.a (.d (.int k n))) (hn:n≠0) :
  aq P (mk dst (.binOp .quo t x y u) ty pos aC g) ts ls h {} (.a (.d (.int k (k.wrap (m.tdiv n))))) ls h :=
 aq.cQ fun j w jl a b=>by
  have h1:=b x (by simp [Op.operands]);have f:=b y (by simp [Op.operands]);rw [hx] at h1; rw [i] at f;exact⟨_,by simp [execOp,gh h1,gh f,vw,binOp,Op.intDiv,hn],aD.int _ _⟩
theorem aq.HO {t u:TypeId}{x y:Operand}{k:IntKind}{m n:Int}(hx:ev ts x=.a (.d (.int k m))) (i:ev ts y=.a (.d (.int k n))) (hn:n≠0) :
  aq P (mk dst (.binOp .rem t x y u) ty pos aC g) ts ls h {} (.a (.d (.int k (m.tmod n)))) ls h :=
 aq.cQ fun j w jl a b=>by
  have h1:=b x (by simp [Op.operands]);have f:=b y (by simp [Op.operands]);rw [hx] at h1; rw [i] at f;exact⟨_,by simp [execOp,gh h1,gh f,vw,binOp,Op.intDiv,hn],aD.int _ _⟩
theorem Bu {P:Program}{t:TypeId}{b:TI}(f:aR P t=some b):∃d,P.underlying t=some d/\ep d=b.k:=by
 obtain⟨i,d,_,g,_,_,j,_⟩:=eP f;exact⟨d,g,j⟩
theorem Bv {P:Program}{t:TypeId}{f:TI}{k:IntKind}(g:aR P t=some f) (hk:f.k=.int k):P.underlying t=some (.int k):=by
 obtain⟨d,h1,b⟩:=Bu g;rw [hk] at b;cases d<;>simp [ep] at b;subst b; exact h1
theorem aq.HP {s t:TypeId}{f b:TI}{x:Operand}{k k':IntKind}{n:Int}(hS:aR P s=some f) (i:aR P t=some b) (hk:b.k=.int k') (hx:ev ts x=.a (.d (.int k n))) :
  aq P (mk dst (.convert s t x) ty pos aC g) ts ls h {} (.a (.d (.int k' (k'.wrap n)))) ls h :=
 aq.cQ fun j w jl a l=>by
  have h1:=l x (by simp [Op.operands]);rw [hx] at h1;obtain⟨d,m,_⟩:=Bu hS;exact⟨.int k' (k'.wrap n),by simp [execOp,gh h1,convert,run_underlying m,run_underlying (Bv i hk),Conv.intToInt],aD.int _ _⟩
def kF (s:Sl Int):Bs:=s.l.map fun n=>UInt8.ofNat n.toNat
theorem Bw:∀(l:List Int) (r:ByteArray),l.foldl (fun r n=>r.push (UInt8.ofNat n.toNat)) r=⟨(r.data.toList++l.map fun n=>UInt8.ofNat n.toNat).toArray⟩
 | [],r=>by simp
 | a::l,r=>by rw [List.foldl_cons,Bw l]; simp [ByteArray.push]
theorem aq.HQ {s e t:TypeId}{q u B:TI}{x:Operand}{tok:Option Nat}{y:Sl Int}(hS:aR P s=some q) (M:q.k=.slice e) (N:aR P e=some u) (he:u.k=.int .u8) (O:aR P t=some B) (ht:B.k=.str)
  (hx:ev ts x=.a (.d (Sl.d 1 (bJ .u8) tok y))):aq P (mk dst (.convert s t x) ty pos aC g) ts ls h {} (.a (.d (.str (kF y)))) ls h :=
 aq.cQ fun j w jl a Q=>by
  have h1:=Q x (by simp [Op.operands]);rw [hx] at h1;have f:aD j w (.slice 1 tok y.nl (y.l.map (bJ .u8))) (a.eval x):=h1;have C:=kD hS M;have E:=Bv N he;have F:=oV O ht;generalize hv:a.eval x=v at f;have G:(y.l.map (bJ .u8)).flatten=y.l.map (D.int .u8):=by
   induction y.l with
   | nil=>rfl
   | cons a r p=>simp [bJ,p]
  generalize H:y.l.map (bJ .u8)=rows at f;generalize Z:y.nl=nl at f;cases f with
  | eU _ _ _ =>
   have R:y.l=[]:=by simpa using H
   exact⟨.string .empty,by simp [execOp,hv,run_convert_bytes_string w s t e _ _ _ C E F,Conv.bytesToString],by
    show aD j w (.str (kF y)) _;rw [kF,R]; exact aD.str [] (by simp [gD])⟩
  | slice _ _ _ m cap cv hk hn hc bM hr aa =>
   subst H;rw [List.length_map] at hn hc;have hlen:(y.l.map (bJ .u8)).length=y.l.length:=by simp
   have ab:cq<=gD:=by unfold cq gD; omega
   have S:(loadCells m y.l.length).run P w=.ok (y.l.map (Value.int .u8)).toArray w:=by
    by_cases h0:y.l=[]
    ·rw [h0]; rfl
    ·have I:m.spot=none:=bM.1.resolve_left (by simpa using h0);obtain⟨b,o,sp⟩:=m;simp only at I; subst I;obtain⟨cs,g1,g2⟩:=vp (P:=P) (j:=j) (w:=w) (b:=b) (o:=o) (y.l.map (D.int .u8)) fun i z J=>by
      have hi:i<(y.l.map (bJ .u8)).flatten.length:=by rw [G]; exact(List.getElem?_eq_some_iff.1 J).1
      refine⟨cv i,(bM.2 i hi).2, ?_⟩;have K:=hr i hi;have U:(y.l.map (bJ .u8)).flatten[i]=z:=by
       have L:(y.l.map (bJ .u8)).flatten[i]?=some z:=by rw [G]; exact J
       rw [List.getElem?_eq_getElem hi] at L; simpa using L
      rw [U] at K; exact K
     rw [List.length_map] at g2;rw [g2];have W:cs=y.l.map (Value.int .u8):=by
      clear g2;generalize y.l=l at g1;induction l generalizing cs with
      | nil=>cases g1; rfl
      | cons a r p =>
       rw [List.map_cons] at g1;cases g1 with
       | cons X Y=>cases X; rw [p _ Y,List.map_cons]
     rw [W]
   rw [hlen] at hv;refine⟨.string ⟨(kF y).toArray⟩, ?_, ?_⟩
   ·simp only [execOp,hv,Sem.run_bind,run_convert_bytes_string w s t e _ _ _ C E F,run_bytesToString w m _ cap y.l S,Result.andThen,Sem.run_pure];rw [Bw]; simp [kF]
   ·exact aD.str _ (by simp only [kF,List.length_map]; omega)
end
end Go.Ab
/-
 index of an array by value,whose elements are one cell each. No program text.
-/
namespace Go.Ab
open Go Go.RowKit
variable {az:bC}
theorem aq.HR {α:Type}{f:α->D}{P:Program}{ts:Ts}{ls:List (List D)}{h:ak}{dst:Option Tmp}{ty:TypeId}{pos:String}{aC:Array Edge}{g:Option (Nat×Bool)}{t e:TypeId}{n:Nat}{b:TI}{x ix:Operand}{p:IntKind}{z:Int}{l:List α}{y:α}(hu:P.underlying t=some (.array n e)) (q:P.underlying e=some .string) (r:aR P e=some b) (s:b.size=1) (hx:ev ts x=.a (.agg (l.map f))) (hi:ev ts ix=.a (.d (.int p z)))
  (hn:n=l.length) (hr:cI l z=some y):aq P (mk dst (.index t x ix) ty pos aC g) ts ls h {} (.a (.d (f y))) ls h :=
 aq.cQ fun j w jl act k=>by
  have h1:=k x (by simp [Op.operands]);have m:=k ix (by simp [Op.operands]);rw [hx] at h1; rw [hi] at m;obtain⟨cs,u,B⟩:=h1;obtain⟨h0,o⟩:=Bo hr;have aT:=(List.getElem?_eq_some_iff.1 o).1;have C:z<(n:Int):=by omega
  obtain⟨v,hv,E⟩:=B.get (i:=z.toNat) (x:=f y) (by rw [List.getElem?_map,o]; rfl);refine⟨v, ?_,E⟩;simp [execOp,u,gh m,Instr.index,asIntOf,dY hu,gG r,h0,C,s];have F:(Go.part e cs.toArray z.toNat).run P w=.ok v w:=by simp [Go.part,isAgg,run_underlying q,hv]
  rw [F]; rfl
end Go.Ab
/-
 A state in which a local's cells are read in another way is weaker. No program text.
-/
namespace Go.Ab
open Go Go.RowKit
variable {az:bC}
theorem aq.HS {P:Program}{ts:Ts}{ls:List (List D)}{h:ak}{dst:Option Tmp}{ty:TypeId}{pos:String}{aC:Array Edge}{g:Option (Nat×Bool)}{f:FuncId}{b b_:Array Operand} :
  aq P (mk dst (.makeFunc (.func f) b b_) ty pos aC g) ts ls h {} (.a (.d .lS)) ls h :=
 aq.cQ fun j w jl act i=>⟨.func (.func f) (b.map act.eval) (b_.map act.eval),by simp [execOp,Instr.makeFunc],.lS _ _ _⟩
end Go.Ab
namespace Go.Ab
variable {az:bC}
def on {α β:Sort _}(v:α) (k:α->β):β:=k v
namespace Q
universe u
variable {R O O2 Z:Type}{α:Type}
theorem vJ {c:Bool}{a b r:α}(h:c=true) (f:a=r):cond c a b=r:=by rw [h]; exact f
theorem vK {c:Bool}{a b r:α}(h:c=false) (f:b=r):cond c a b=r:=by rw [h]; exact f
theorem vU {c:Bool}{a b:Option R}{x y:O}{K:O->Option R}(h1:a=K x) (f:b=K y):cond c a b=K (cond c x y):=by cases c<;>assumption
theorem ir {c:Bool}{a b:Option R}{x y:Option O}{K:O->Option R}(h1:a=Option.bind x K) (f:b=Option.bind y K):cond c a b=Option.bind (cond c x y) K:=by cases c<;>assumption
theorem vV {o:Option α}{v:α}{k:α->Option R}{K:O->Option R}{b:α->O}(h:o=some v) (f:∀x,x=v->k x=K (b x)):o.bind k=K (on v b):=by rw [h]; exact f v rfl
theorem e9 {o:Option α}{v:α}{k:α->Option R}{K:O->Option R}{b:α->Option O}(h:o=some v) (f:∀x,x=v->k x=Option.bind (b x) K):o.bind k=Option.bind (on v b) K:=by rw [h]; exact f v rfl
theorem jh {o o':Option α}{k:α->Option R}{K:O->Option R}{b:α->Option O}(h:o=o') (f:∀x,k x=Option.bind (b x) K):o.bind k=Option.bind (o'.bind b) K:=by
 rw [h]; cases o' with
 | none=>rfl
 | some v=>exact f v
theorem vW {c:Bool}{o:Option α}{v d:α}{k:α->Option R}{K:O->Option R}{b:α->Option O}(h:o=some v) (f:∀x,x=cond c v d->k x=Option.bind (b x) K):aU c o d k=Option.bind (on (cond c v d) b) K:=by
 rw [h]; cases c<;>exact f _ rfl
theorem nK {c:Bool}{o o':Option α}{d:α}{k:α->Option R}{K:O->Option R}{b:α->Option O}(h:o=o') (f:∀x,k x=Option.bind (b x) K):aU c o d k=Option.bind (aU c o' d b) K:=by
 rw [h]; cases c with
 | false=>exact f d
 | true =>
  cases o' with
  | none=>rfl
  | some v=>exact f v
variable {lhs:Option R}
theorem Bx {q:Z}{b:Z->O}{K:O->Option R}(h:∀f:Z->Option R,(∀o,f o=K (b o))->lhs=f q):lhs=K (on q b):=h (fun o=>K (b o)) fun _=>rfl
theorem jQ {q:Z}{b:Z->Option O}{K:O->Option R}(h:∀f:Z->Option R,(∀o,f o=Option.bind (b o) K)->lhs=f q):lhs=Option.bind (on q b) K:=h (fun o=>Option.bind (b o) K) fun _=>rfl
theorem iu {q:Option Z}{b:Z->Option O}{K:O->Option R}(h:∀f:Z->Option R,(∀o,f o=Option.bind (b o) K)->lhs=Option.bind q f):lhs=Option.bind (Option.bind q b) K:=by
 rw [h (fun o=>Option.bind (b o) K) fun _=>rfl]; cases q<;>rfl
theorem HT {α:Type}(o:Option α):Option.bind o some=o:=by cases o<;>rfl
theorem gq {l:List α}{i:Nat}{x:α}(h:l[i]?=some x):l.drop i=x::l.drop (i+1):=by
 obtain⟨hi,rfl⟩:=List.getElem?_eq_some_iff.1 h;exact List.drop_eq_getElem_cons hi
theorem tg {i n:Nat}(h:i<n):decide ((i:Int)<(n:Int))=true:=by simpa using h
theorem vX {i n:Nat}(h:¬i<n):decide ((i:Int)<(n:Int))=false:=by simpa using h
theorem th {s:Sl α}{i:Nat}(h:i<=s.l.length):nI s none (some ((i:Nat):Int))=some ⟨s.nl,s.l.take i⟩:=by
 unfold nI; rw [if_pos (by simp; omega)]; simp
end Q
end Go.Ab
namespace Go.Ab
variable {az:bC}
theorem Q.getD_some {α:Type}{l:List α}{i:Nat}{d:α}(h:i<l.length):l[i]?=some (l[i]?.getD d):=by simp [h]
theorem Q.HU {s:Bs}{n:Nat}(h:n<=s.length):tf s none (some ((n:Nat):Int))=some (List.take n s):=by
 unfold tf; rw [if_pos (by simp; omega)]; simp
theorem Q.preB {α R:Type}{o:Option α}{v:α}{k:α->Option R}{r:Option R}(h:o=some v) (b:∀x,x=v->k x=r):o.bind k=r:=by rw [h]; exact b v rfl
theorem Q.By {α:Type}{c d:Bool}{a b r:α}(h:c=true) (f:cond d a b=r):cond (c&&d) a b=r:=by rw [h]; simpa using f
theorem Q.Bz {α:Type}{c d:Bool}{a b r:α}(h:c=false) (f:b=r):cond (c&&d) a b=r:=by rw [h]; simpa using f
end Go.Ab
/-
 Walks over the list layer: what is known of the result is taken apart in the new form (a bind,a value under a name,a guard,a choice,a join,a loop over a list).
-/
namespace Go.Ab
open Go
section
variable {R O Z α:Type}{r:R}
theorem qT {o o':Option α}{k:α->Option R}(p:o'=o) (h:o.bind k=some r):∃x,o'=some x/\k x=some r:=by rw [p]; exact aZ h
theorem qO {o o':Option α}{k:α->Option O}{K:O->Option R}(p:o'=o) (h:Option.bind (o.bind k) K=some r):∃x,o'=some x/\Option.bind (k x) K=some r:=by
 rw [p]; cases o with
 | none=>cases h
 | some v=>exact⟨v,rfl,h⟩
theorem vT {o:Option α}{v:α}{k:α->Option R}(p:o=some v) (h:on v k=some r):∃x,o=some x/\k x=some r:=⟨v,p,h⟩
theorem vO {o:Option α}{v:α}{k:α->Option O}{K:O->Option R}(p:o=some v) (h:Option.bind (on v k) K=some r):∃x,o=some x/\Option.bind (k x) K=some r:=⟨v,p,h⟩
theorem vP {o:Option α}{v:α}{k:α->O}{K:O->Option R}(p:o=some v) (h:K (on v k)=some r):∃x,o=some x/\K (k x)=some r:=⟨v,p,h⟩
theorem tj {c:Bool}{o:Option α}{v d:α}{k:α->Option R}(p:c=true->o=some v) (h:on (cond c v d) k=some r):∃x,(c=true->o=some x)/\k x=some r :=
 ⟨cond c v d,fun e=>by rw [e]; exact p e,h⟩
theorem eB {c:Bool}{o:Option α}{v d:α}{k:α->Option O}{K:O->Option R}(p:c=true->o=some v) (h:Option.bind (on (cond c v d) k) K=some r):∃x,(c=true->o=some x)/\Option.bind (k x) K=some r :=
 ⟨cond c v d,fun e=>by rw [e]; exact p e,h⟩
theorem kG {c:Bool}{o:Option α}{v d:α}{k:α->O}{K:O->Option R}(p:c=true->o=some v) (h:K (on (cond c v d) k)=some r):∃x,(c=true->o=some x)/\K (k x)=some r :=
 ⟨cond c v d,fun e=>by rw [e]; exact p e,h⟩
theorem dR {c:Bool}{o o':Option α}{d:α}{k:α->Option R}(p:o'=o) (h:aU c o d k=some r):∃x,(c=true->o'=some x)/\k x=some r:=by rw [p]; exact Bq h
theorem eC {c:Bool}{o o':Option α}{d:α}{k:α->Option O}{K:O->Option R}(p:o'=o) (h:Option.bind (aU c o d k) K=some r):∃x,(c=true->o'=some x)/\Option.bind (k x) K=some r:=by
 rw [p]; unfold aU at h; split at h
 ·obtain⟨x,e,b⟩:=qO rfl h; exact⟨x,fun _=>e,b⟩
 ·rename_i hc; exact⟨d,fun e=>absurd e hc,h⟩
theorem bT {t:Z}{b:Z->Option R}(h:on t b=some r):∃K:Z->Option R,(∀z,K z=b z)/\K t=some r:=⟨b,fun _=>rfl,h⟩
theorem gT {t:Z}{b:Z->Option O}{K:O->Option R}(h:Option.bind (on t b) K=some r):∃J:Z->Option R,(∀z,J z=Option.bind (b z) K)/\J t=some r:=⟨fun z=>Option.bind (b z) K,fun _=>rfl,h⟩
theorem dU {t:Z}{b:Z->O}{K:O->Option R}(h:K (on t b)=some r):∃J:Z->Option R,(∀z,J z=K (b z))/\J t=some r:=⟨fun z=>K (b z),fun _=>rfl,h⟩
theorem bY {t:Option Z}{b:Z->Option R}(h:Option.bind t b=some r):∃J:Z->Option R,(∀z,J z=b z)/\Option.bind t J=some r:=⟨b,fun _=>rfl,h⟩
theorem dZ {t:Option Z}{b:Z->Option O}{K:O->Option R}(h:Option.bind (Option.bind t b) K=some r):∃J:Z->Option R,(∀z,J z=Option.bind (b z) K)/\Option.bind t J=some r :=
 ⟨fun z=>Option.bind (b z) K,fun _=>rfl,by cases t<;>exact h⟩
theorem mT {b:Sort _}{F:b}{t:b->Option R}(h:on F t=some r):∃k,k=F/\t k=some r:=⟨F,rfl,h⟩
theorem mO {b:Sort _}{F:b}{t:b->Option O}{K:O->Option R}(h:Option.bind (on F t) K=some r):∃k,k=F/\Option.bind (t k) K=some r:=⟨F,rfl,h⟩
theorem mP {b:Sort _}{F:b}{t:b->O}{K:O->Option R}(h:K (on F t)=some r):∃k,k=F/\K (t k)=some r:=⟨F,rfl,h⟩
theorem ku {K F:Z->Option R}{z:Z}(h:∀z,K z=F z) (e:K z=some r):F z=some r:=by rw [<- h]; exact e
theorem dl {l:List α}{i:Nat}{x:α}(h:l[i]?=some x):l.length-(i+1)<l.length-i:=by
 obtain⟨hi,_⟩:=List.getElem?_eq_some_iff.1 h; omega
theorem dn {n i:Nat}(h:i<n):n-(i+1)<n-i:=by omega
end
section
variable {az:bC}{P:Program}{c:Operand}{u v:Code}{Q:Exit->St->Prop}{σ:St}{b:Bool}{α R:Type}{r:R}
theorem ah.ir {A B:Option α}{K:α->Option R}(f:Option.bind (bif b then A else B) K=some r) (hc:ev σ.ts c=.a (.d (.bool b))) (ht:b=true->Option.bind A K=some r->ah P u Q σ) (g:b=false->Option.bind B K=some r->ah P v Q σ):ah P (.cond c u v) Q σ :=
 ah.cond hc (fun h=>ht h (by subst h; exact f)) (fun h=>g h (by subst h; exact f))
theorem ah.vU {A B:α}{K:α->Option R}(f:K (bif b then A else B)=some r) (hc:ev σ.ts c=.a (.d (.bool b))) (ht:b=true->K A=some r->ah P u Q σ) (g:b=false->K B=some r->ah P v Q σ):ah P (.cond c u v) Q σ :=
 ah.cond hc (fun h=>ht h (by subst h; exact f)) (fun h=>g h (by subst h; exact f))
theorem ah.bK {l:List α}{i:Nat}(p:List α->Prop) (b:p (l.drop i)) (hc:ev σ.ts c=.a (.d (.bool (decide (((i:Nat):Int)<((l.length:Nat):Int))))))
  (ht:∀x,l[i]?=some x->decide (((i:Nat):Int)<((l.length:Nat):Int))=true->p (x::l.drop (i+1))->ah P u Q σ) (j:decide (((i:Nat):Int)<((l.length:Nat):Int))=false->p []->ah P v Q σ):ah P (.cond c u v) Q σ:=by
 refine ah.cond hc (fun h=>?_) (fun h=>?_)
 ·have f:i<l.length:=by have:=of_decide_eq_true h; omega
  have g:l[i]?=some l[i]:=List.getElem?_eq_getElem f;exact ht _ g h (by rw [<- Go.Ab.Q.gq g]; exact b)
 ·have f:¬((i:Nat):Int)<((l.length:Nat):Int):=of_decide_eq_false h;exact j h (by rw [List.drop_of_length_le (by omega)] at b; exact b)
theorem ah.BA {n i:Nat}(p:Nat->Prop) (b:p (n-i)) (hc:ev σ.ts c=.a (.d (.bool (decide (((i:Nat):Int)<((n:Nat):Int))))))
  (ht:i<n->decide (((i:Nat):Int)<((n:Nat):Int))=true->p (n-(i+1)+1)->ah P u Q σ) (g:decide (((i:Nat):Int)<((n:Nat):Int))=false->p 0->ah P v Q σ):ah P (.cond c u v) Q σ:=by
 refine ah.cond hc (fun h=>?_) (fun h=>?_)
 ·have f:i<n:=by have:=of_decide_eq_true h; omega
  exact ht f h (by rw [show n-(i+1)+1=n-i by omega]; exact b)
 ·have f:¬((i:Nat):Int)<((n:Nat):Int):=of_decide_eq_false h;exact g h (by rw [show n-i=0 by omega] at b; exact b)
theorem ah.tq {l:List α}{i:Nat}{d b:Bool}(p:List α->Prop) (E:Prop) (f:p (l.drop i)) (he:p []->E) (k:∀x,d=false->p (x::l.drop (i+1))->E) (hb:b=(decide (((i:Nat):Int)<((l.length:Nat):Int))&&d)) (hc:ev σ.ts c=.a (.d (.bool b)))
  (ht:∀x,l[i]?=some x->b=true->d=true->p (x::l.drop (i+1))->ah P u Q σ) (m:b=false->E->ah P v Q σ):ah P (.cond c u v) Q σ:=by
 refine ah.cond hc (fun h=>?_) (fun h=>m h ?_)
 ·have h0:=h; rw [hb,Bool.and_eq_true] at h0;have g:i<l.length:=by have:=of_decide_eq_true h0.1; omega
  have j:l[i]?=some l[i]:=List.getElem?_eq_getElem g;exact ht _ j h h0.2 (by rw [<- Go.Ab.Q.gq j]; exact f)
 ·by_cases g:i<l.length
  ·have j:l[i]?=some l[i]:=List.getElem?_eq_getElem g;rw [Go.Ab.Q.gq j] at f;refine k _ ?_ f;rw [hb,Go.Ab.Q.tg g,Bool.true_and] at h; exact h
  ·exact he (by rw [List.drop_of_length_le (by omega)] at f; exact f)
end
end Go.Ab
namespace Go.Ab
variable {az:bC}
def Ok {α:Type}(o:Option α):Prop:=∃r,o=some r
namespace aS
variable {α β:Type}
theorem some (a:α):Ok (Option.some a):=⟨a,rfl⟩
theorem bind {o:Option α}{k:α->Option β}(h:Ok o) (b:∀v,o=Option.some v->Ok (k v)):Ok (o.bind k):=by
 obtain⟨v,hv⟩:=h; rw [hv]; exact b v hv
theorem guard {c:Bool}{o:Option α}{d:α}{k:α->Option β}(h:c=true->Ok o) (b:∀v,(c=true->o=Option.some v)->(c=false->v=d)->Ok (k v)):Ok (aU c o d k):=by
 cases c with
 | false=>exact b d (fun h=>by cases h) (fun _=>rfl)
 | true=>obtain⟨v,hv⟩:=h rfl; unfold aU; rw [if_pos rfl,hv]; exact b v (fun _=>hv) (fun h=>by cases h)
theorem cond {c:Bool}{a b:Option α}(h:c=true->Ok a) (f:c=false->Ok b):Ok (_root_.cond c a b):=by
 cases c with
 | false=>exact f rfl
 | true=>exact h rfl
theorem on {v:α}{k:α->Option β}(h:∀x,x=v->Ok (k x)):Ok (Go.Ab.on v k):=h v rfl
end aS
theorem eV {a b:Int}(h : -9223372036854775808<=a+b/\a+b<=9223372036854775807):cA a b=some (a+b):=by unfold cA; rw [if_pos h]
theorem BB {a b:Int}(h : -9223372036854775808<=a-b/\a-b<=9223372036854775807):nH a b=some (a-b):=by unfold nH; rw [if_pos h]
theorem HV {α:Type}{l:List α}{n:Int}(h:0<=n/\n<l.length):Ok (cI l n):=by
 have b:n.toNat<l.length:=by omega
 unfold cI; rw [if_pos h.1,List.getElem?_eq_getElem b]; exact⟨_,rfl⟩
theorem HW {α:Type}{l:List α}{n:Nat}(h:n<l.length):Ok (l[n]?):=⟨l[n],List.getElem?_eq_getElem h⟩
theorem fq {α:Type}{z:Nat}{s r:Sl α}(b:z<=64) (h:s.l.length+r.l.length<=1099511627776):aQ z s r=some ⟨s.nl&&r.l.isEmpty,s.l++r.l⟩:=by
 unfold aQ; rw [if_pos];have:(s.l.length+r.l.length)*z<=(s.l.length+r.l.length)*64:=Nat.mul_le_mul_left _ b;unfold cq; omega
theorem eS {a b:Bs}(h:a.length+b.length<=1152921504606846976):cr a b=some (a++b):=by
 unfold cr; rw [if_pos (by unfold gD; omega)]
theorem BC {α:Type}{s:Sl α}(h:1<=s.l.length):nI s (some (1:Int)) none=some ⟨s.nl,s.l.drop 1⟩:=by
 unfold nI; rw [if_pos (by simp; omega)]; simp
theorem fe:F0=4611686018427387904:=rfl
end Go.Ab
namespace Go.Ab
variable {az:bC}
theorem BD {α:Type}{z:Nat}{s r:Sl α}(b:z<=32) (h:s.l.length+r.l.length<=4398046511104):aQ z s r=some ⟨s.nl&&r.l.isEmpty,s.l++r.l⟩:=by
 unfold aQ; rw [if_pos];have:(s.l.length+r.l.length)*z<=(s.l.length+r.l.length)*32:=Nat.mul_le_mul_left _ b;unfold cq; omega
def gU {α:Type}(s:Sl α):Prop:=(s.nl=true->s.l=[])/\s.l.length<=1048576
end Go.Ab
/-
 Inputs: what a call is handed,read as plain data; what it leaves.
-/
namespace Go.Ab
open Go Go.RowKit Go.ChangeShapes Go.WideShapes Go.ChangeAt
variable {az:bC}
def j0 (w:World):J:=⟨fun _=>0,fun b=>match w.heap[b]? with|some (.cells cs _ _)=>cs.size|_=>0,fun _=>none,0⟩
def h0:ak:=fun _=>none
theorem HX (w:World):fC (j0 w) w h0 :=
 ⟨fun _ _ h=>(by cases h),fun _ _ _ _ _ h=>(by cases h),fun b hb=>(by simp [j0,Array.getElem?_eq_none hb])⟩
theorem HY {w:World}{b o:Nat}{v:Value}(h:w.cell? ⟨b,o,none⟩=some v):o<(j0 w).F b:=by
 unfold World.cell? at h;simp only [j0]
 split at h
 ·rename_i c t f hc
  simp at h;simp only at hc;rw [hc];exact(Array.getElem?_eq_some_iff.1 h).1
 ·cases h
theorem HZ {w:World}{a:Addr}{v:Value}(h:w.cell? a=some v):a.spot=none:=by
 unfold World.cell? at h
 split at h
 ·split at h
  ·cases h
  ·rename_i b; simpa using b
 ·cases h
structure q4 {H:Type}(B:DataW H->Nat):Prop where
 one:∀d,1<=B d
 str:∀b,b.length+1<=B (.lit (.string b))
 slice:∀e s,(e.map B).sum+1<=B (.slice e s)
 agg:∀l,(l.map B).sum<=B (.agg l)
structure cB {H:Type}(P:Program) (B:DataW H->Nat) (N:Nat) (t:TypeId){α:Type}(R:α->List D) (sz:α->Nat) (wf:α->Prop):Prop where
 rd:∀{enc:TypeId×Value->H}{w:World}{base:Nat}{sp:Nat->Bool}{held:Bool}{fuel:Nat}{cs:List Value}{x:DataW H×List MemPlace},
  fuel<=N->DataW.trod enc P w base sp held fuel t cs=some x->B x.1<=1048576->∃a,bf (aD (j0 w) w) (R a) cs/\sz a<=B x.1/\wf a
theorem cB.zero {H:Type}{P:Program}{B:DataW H->Nat}{t:TypeId}{α:Type}{R:α->List D}{sz:α->Nat}{wf:α->Prop}:cB P B 0 t R sz wf :=
 ⟨fun b h _=>by rw [Nat.le_zero.1 b] at h; simp [DataW.trod] at h⟩
theorem vY {P:Program}{t:TypeId}{b:TI}(f:aR P t=some b):P.cellsOf t=b.size:=by
 obtain⟨i,d,h1,_,g,_⟩:=eP f;unfold Program.cellsOf; rw [h1]; exact g
theorem tr {P:Program}{t:TypeId}{b:TI}(f:aR P t=some b):∃d,P.underlying t=some d/\ep d=b.k:=by
 obtain⟨i,d,_,h1,_,_,g,_⟩:=eP f;exact⟨d,h1,g⟩
theorem H6 {P:Program}{t:TypeId}{b:TI}(g:aR P t=some b) (hk:b.k=.str):P.underlying t=some .string:=by
 obtain⟨d,h1,f⟩:=tr g;rw [hk] at f; cases d<;>simp [ep] at f; exact h1
theorem H7 {P:Program}{t:TypeId}{b:TI}(g:aR P t=some b) (hk:b.k=.bool):P.underlying t=some .bool:=by
 obtain⟨d,h1,f⟩:=tr g;rw [hk] at f; cases d<;>simp [ep] at f; exact h1
theorem H8 {P:Program}{t:TypeId}{f:TI}{k:IntKind}(g:aR P t=some f) (hk:f.k=.int k):P.underlying t=some (.int k):=by
 obtain⟨d,h1,b⟩:=tr g;rw [hk] at b; cases d<;>simp [ep] at b; subst b; exact h1
theorem BE {P:Program}{t:TypeId}{g:TI}{ps:List (Nat×TypeId)}(i:aR P t=some g) (hk:g.k=.struct ps):∃fs:Array Go.Field,P.underlying t=some (.struct fs)/\fs.toList.map (fun f=>(f.offset,f.type))=ps:=by
 obtain⟨d,h1,b⟩:=tr i;rw [hk] at b; cases d<;>simp [ep] at b; exact⟨_,h1,by simpa using b⟩
def qX.sz (s:qX):Nat:=s.1.length+1
def gm.sz {α:Type}(f:α->Nat) (s:gm α):Nat:=1+(s.l.map f).sum
def gm.wf {α:Type}(p:α->Prop) (s:gm α):Prop:=∀x∈s.l,p x
def i64 (n:Int):Prop := -9223372036854775808<=n/\n<=9223372036854775807
section
variable {H:Type}{P:Program}{B:DataW H->Nat}(hB:q4 B){N:Nat}
include hB
theorem cB.str {t:TypeId}{b:TI}(f:aR P t=some b) (hk:b.k=.str):cB P B N t Ho qX.sz fun _=>True:=by
 refine⟨fun {enc w base sp held fuel cs x} _ h hb=>?_⟩;obtain⟨s,rfl,rfl,g⟩:=DataW.trod_string (H6 f hk) h;have h1:=hB.str s.data.toList;have i:s.data.toList.length<=1048576:=by dsimp only at hb; omega
 refine⟨⟨s.data.toList,by simp only [cq]; omega⟩,.cons ?_ .nil,h1,trivial⟩;have:=aD.str (j:=j0 w) (w:=w) s.data.toList (by simp only [gD]; omega)
 simpa using this
theorem cB.bool {t:TypeId}{f:TI}(g:aR P t=some f) (hk:f.k=.bool):cB P B N t (fun b:Bool=>[.bool b]) (fun _=>1) fun _=>True:=by
 refine⟨fun _ h _=>?_⟩;obtain⟨b,rfl,rfl⟩:=DataW.trod_bool (H7 g hk) h;exact⟨b,.cons (.bool _) .nil,hB.one _,trivial⟩
theorem cB.int {t:TypeId}{b:TI}(f:aR P t=some b) (hk:b.k=.int .i64):cB P B N t Hp (fun _=>1) i64:=by
 refine⟨fun _ h _=>?_⟩;obtain⟨n,rfl,rfl,hw⟩:=DataW.trod_int (H8 f hk) h;refine⟨n,.cons (.int _ _) .nil,hB.one _, ?_⟩
 simpa [Lit.wf,IntKind.min,IntKind.max,IntKind.signed,IntKind.bits,i64] using hw
omit hB in
theorem BF {α:Type}(p:Nat->α->Prop):∀(n:Nat),(∀i,i<n->∃a,p i a)->∃l:List α,l.length=n/\∀i a,l[i]?=some a->p i a
 | 0,_=>⟨[],rfl,by simp⟩
 | n+1,h=>by
  obtain⟨l,hl,f⟩:=BF p n fun i hi=>h i (by omega);obtain⟨a,g⟩:=h n (by omega);refine⟨l++[a],by simp [hl],fun i b hb=>?_⟩;rw [List.getElem?_append] at hb
  split at hb
  ·exact f i b hb
  ·rename_i j
   have:i-l.length=0:=by
    have:=(List.getElem?_eq_some_iff.1 hb).1; simp at this; omega
   rw [this] at hb; simp at hb; subst hb;have:i=n:=by omega
   subst this; exact g
omit hB in
theorem BG {α β:Type}{f:α->Option β}:∀{l:List α}{r:List β},l.mapM f=some r->r.length=l.length/\∀(i:Nat) a,l[i]?=some a->f a=r[i]?
 | [],r,h=>by simp at h; subst h; simp
 | a::l,r,h=>by
  rw [List.mapM_cons] at h;cases g:f a with
  | none=>rw [g] at h; cases h
  | some b =>
   rw [g] at h;cases hm:l.mapM f with
   | none=>rw [hm] at h; cases h
   | some j =>
    rw [hm] at h;have h':some (b::j)=some r:=h;simp only [Option.some.injEq] at h';subst h';obtain⟨h1,k⟩:=BG hm;refine⟨by simp [h1],fun i x hx=>?_⟩;cases i with
    | zero=>simp at hx; subst hx; simpa using g
    | succ i=>simp at hx; simpa using k i x hx
omit hB in
theorem BH {w:World}{base:Nat}{a:Addr}{n:Nat}{cs:List Value}(h:w.cells? base a n=some cs):cs.length=n/\∀i v,cs[i]?=some v->w.cell? (a.add i)=some v:=by
 unfold World.cells? at h
 split at h
 ·obtain⟨h1,b⟩:=BG h;rw [List.length_range] at h1;refine⟨h1,fun i v hv=>?_⟩;have hi:=(List.getElem?_eq_some_iff.1 hv).1;have:=b i i (List.getElem?_range (by omega));rw [this]; exact hv
 ·cases h
omit hB in
theorem BJ {α β:Type}{f:α->Nat}{g:β->Nat}:∀{l:List α}{m:List β},l.length=m.length->(∀(i:Nat) a b,l[i]?=some a->m[i]?=some b->f a<=g b)->(l.map f).sum<=(m.map g).sum
 | [],[],_,_=>by simp
 | [],_::_,h,_=>by simp at h
 | _::_,[],h,_=>by simp at h
 | a::l,b::m,h,j=>by
  have h1:=j 0 a b rfl rfl;have o:=BJ (l:=l) (m:=m) (by simpa using h) fun i x y hx k=>j (i+1) x y (by simpa using hx) (by simpa using k);simp only [List.map_cons,List.sum_cons]; omega
omit hB in
theorem BK {α:Type}{f:α->Nat}{l:List α}{a:α}(h:a∈l):f a<=(l.map f).sum:=by
 induction l with
 | nil=>cases h
 | cons x r b =>
  simp only [List.map_cons,List.sum_cons];rcases List.mem_cons.1 h with e|e
  ·subst e; omega
  ·have:=b e; omega
omit hB in
theorem vZ {α:Type}{f:α->Nat}:∀(l:List α),(∀a∈l,1<=f a)->l.length<=(l.map f).sum
 | [],_=>by simp
 | a::l,h=>by
  have h1:=h a (by simp);have b:=vZ l fun x hx=>h x (by simp [hx]);simp only [List.length_cons,List.map_cons,List.sum_cons]; omega
theorem cB.slice {α:Type}{t e:TypeId}{K L:TI}{k:Nat}{R:α->List D}{sz:α->Nat}{wf:α->Prop}(U:aR P t=some K) (W:K.k=.slice e) (X:aR P e=some L) (Y:L.size=k) (Z:0<k) (aa:∀a,(R a).length=k) (he:cB P B N e R sz wf) :
  cB P B (N+1) t (fun s:gm α=>[s.d k R]) (gm.sz sz) (gm.wf wf):=by
 have ht:=kD U W;have hk:P.cellsOf e=k:=(vY X).trans Y;refine⟨fun {enc w base sp held fuel cs x} ai h hb=>?_⟩;rcases DataW.trod_slice ht h with ⟨rfl,rfl⟩|⟨a,len,cap,b,rest,n,aj,rfl,rfl,_,ab,al,hlen,ad,_,_⟩
 ·exact⟨⟨true,[],by simp,fun _=>rfl⟩,.cons (.eU _ _ (by simp)) .nil,by simpa [gm.sz] using hB.one _,by simp [gm.wf]⟩
 ·have am:=hB.slice (b.map (·.1)) (rest.map (·.1));have ae:∀y∈b,B y.1<=1048576:=fun y j=>by
   have:=BK (f:=B) (l:=b.map (·.1)) (a:=y.1) (List.mem_map_of_mem j);dsimp only at hb; omega
  have an:b.length<=1048576:=by
   have:=vZ (f:=B) (b.map (·.1)) fun d _=>hB.one d;simp only [List.length_map] at this;dsimp only at hb; omega
  have hex:∀i,i<len->∃y:α×List Value,∃z,b[i]?=some z/\w.cells? base (a.add (i*k)) k=some y.2/\bf (aD (j0 w) w) (R y.1) y.2/\sz y.1<=B z.1/\wf y.1:=by
   intro i hi;have h1:=ad i hi;rw [hk] at h1;have G:i<b.length:=by omega
   rw [List.getElem?_eq_getElem G] at h1;cases hc:w.cells? base (a.add (i*k)) k with
   | none=>rw [hc] at h1; cases h1
   | some cs =>
    rw [hc] at h1;obtain⟨x,o,p,q⟩:=he.rd (by omega) (show DataW.trod enc P w base sp held n e cs=some b[i] from h1) (ae _ (List.getElem_mem G));exact⟨(x,cs),b[i],List.getElem?_eq_getElem G,rfl,o,p,q⟩
  obtain⟨l,hl,C⟩:=BF _ len hex;have af:(l.map fun y=>y.1).length=len:=by simp [hl]
  refine⟨⟨false,l.map (·.1),by rw [af]; simp only [cq]; omega,by simp⟩,.cons ?_ .nil, ?_, ?_⟩
  ·have H:∀r∈(l.map (·.1)).map R,r.length=k:=by
    intro r hr;obtain⟨y,_,rfl⟩:=List.mem_map.1 hr;exact aa _
   have E:((l.map (·.1)).map R).length=len:=by simp [hl]
   show aD (j0 w) w (.slice k none false ((l.map (·.1)).map R)) (.slice (some a) len cap);by_cases h0:len=0
   ·subst h0;have:l=[]:=List.eq_nil_of_length_eq_zero hl;subst this;exact aD.slice k none [] a cap (fun _=>undef) (by simp) (by simp) (by simp) ⟨.inl rfl,by simp⟩ (by simp) (fun t h=>by cases h)
   ·have M:a.spot=none:=by
     have h1:=C 0 (l[0]'(by omega)) (List.getElem?_eq_getElem (by omega));obtain⟨z,_,o,_⟩:=h1;obtain⟨p,q⟩:=BH o;have F:=q 0 _ (List.getElem?_eq_getElem (by omega));rw [Nat.zero_mul] at F;exact HZ F
    have O:a=⟨a.block,a.off,none⟩:=by cases a; simp at M; simp [M]
    have Q:aD (j0 w) w (.slice k none false ((l.map (·.1)).map R)) (.slice (some ⟨a.block,a.off,none⟩) ((l.map (·.1)).map R).length cap):=by
     refine qW H (by rw [E]; simp only [cq]; omega) (by rw [E]; exact ab) (fun i x hx=>?_) (fun t h=>by cases h);have hi:=(List.getElem?_eq_some_iff.1 hx).1;rw [(jc H).1,E] at hi;have hq:i / k<len:=Nat.div_lt_of_lt_mul (by rw [Nat.mul_comm]; exact hi);have hm:i % k<k:=Nat.mod_lt _ Z;obtain⟨z,_,o,p,_⟩:=C (i / k) (l[i / k]'(by omega)) (List.getElem?_eq_getElem (by omega))
     obtain⟨q,F⟩:=BH o;have ag:((l.map (·.1)).map R)[i / k]?=some (R (l[i / k]'(by omega)).1):=by simp [hl,hq]
     have S:=(jc H).2 (i / k) _ ag (i % k) hm;rw [Nat.mul_comm,Nat.div_add_mod,hx] at S;obtain⟨v,hv,ah⟩:=p.get S.symm;have I:=F _ _ hv;rw [O,add_plain,add_plain,Nat.add_assoc,Nat.mul_comm,Nat.div_add_mod] at I;exact⟨HY I,v,I,ah⟩
    rw [E,<- O] at Q;exact Q
  ·simp only [gm.sz];have:=BJ (f:=sz) (g:=B) (l:=l.map (·.1)) (m:=b.map (·.1)) (by simp [hl,hlen]) fun i x y hx j=>by
    rw [List.getElem?_map] at hx j;cases J:l[i]? with
    | none=>rw [J] at hx; cases hx
    | some u =>
     rw [J] at hx; simp at hx; subst hx;obtain⟨z,h1,_,_,o,_⟩:=C i u J;rw [h1] at j; simp at j; subst j; exact o
   omega
  ·intro x hx;obtain⟨y,j,rfl⟩:=List.mem_map.1 hx;obtain⟨i,hi,e⟩:=List.getElem_of_mem j;obtain⟨z,_,_,_,_,h⟩:=C i y (by rw [List.getElem?_eq_getElem hi,e]);exact h
structure cn {H:Type}(P:Program) (B:DataW H->Nat) (N n o:Nat) (ps:List (Nat×TypeId)){α:Type}(R:α->List D) (sz:α->Nat) (wf:α->Prop):Prop where
 rd:∀{enc:TypeId×Value->H}{w:World}{base:Nat}{sp:Nat->Bool}{held:Bool}{fuel:Nat}{cs:List Value}{xs:List (DataW H×List MemPlace)},fuel<=N->cs.length=n->xs.length=ps.length ->
  (∀(i:Nat) p,ps[i]?=some p->DataW.trod enc P w base sp held fuel p.2 ((cs.drop p.1).take (P.cellsOf p.2))=xs[i]?)->(xs.map (fun x=>B x.1)).sum<=1048576 ->
  ∃a,bf (aD (j0 w) w) (R a) (cs.drop o)/\sz a<=(xs.map (fun x=>B x.1)).sum/\wf a
omit hB in
theorem cn.nil {n:Nat}:cn P B N n n [] (fun _:Unit=>[]) (fun _=>0) fun _=>True:=by
 refine⟨fun _ h1 b _ _=>⟨(), ?_,Nat.zero_le _,trivial⟩⟩;rw [List.drop_of_length_le (by omega)]; exact .nil
omit hB in
theorem cn.cons {α β:Type}{n o o':Nat}{ty:TypeId}{j:TI}{ps:List (Nat×TypeId)}{R:α->List D}{sz:α->Nat}{wf:α->Prop}{k:β->List D}{l:β->Nat}{m:β->Prop}(t:aR P ty=some j) (u:o+j.size=o') (h:cB P B N ty R sz wf)
  (ht:cn P B N n o' ps k l m):cn P B N n o ((o,ty)::ps) (fun p:α×β=>R p.1++k p.2) (fun p=>sz p.1+l p.2) fun p=>wf p.1/\m p.2:=by
 refine⟨fun {enc w base sp held fuel cs xs} q h1 f r v=>?_⟩
 match xs,f with
 | x::xs,f =>
  simp only [List.map_cons,List.sum_cons] at v ⊢;have s:=r 0 (o,ty) rfl;simp only [List.getElem?_cons_zero] at s;obtain⟨a,y,F,z⟩:=h.rd q s (by omega);obtain⟨b,C,G,E⟩:=ht.rd (xs:=xs) q h1 (by simpa using f) (fun i g hg=>by simpa using r (i+1) g (by simpa using hg)) (by omega);refine⟨(a,b), ?_,by dsimp only; omega,z,E⟩;have e:cs.drop o=(cs.drop o).take (P.cellsOf ty)++cs.drop o':=by
   rw [<- u,<- vY t,<- List.drop_drop]; exact(List.take_append_drop _ _).symm
  rw [e];exact y.append C
theorem cB.struct {α β:Type}{t:TypeId}{j:TI}{ps:List (Nat×TypeId)}{R:α->List D}{sz:α->Nat}{wf:α->Prop}(o:aR P t=some j) (hk:j.k=.struct ps) (h:cn P B N j.size 0 ps R sz wf) (g:α->β){q:β->List D}{r:β->Nat}{s:β->Prop}
  (v:∀a,q (g a)=R a) (y:∀a,r (g a)<=sz a) (hw:∀a,wf a->s (g a)):cB P B (N+1) t q r s:=by
 refine⟨fun {enc w base sp held fuel cs x} H hx hb=>?_⟩;obtain⟨fs,ht,u⟩:=BE o hk;obtain⟨xs,n,I,rfl,h1,z,C⟩:=DataW.trod_struct ht hx;have l:=hB.agg (xs.map (·.1));rw [List.map_map] at l;obtain⟨a,E,F,G⟩:=h.rd (xs:=xs) (enc:=enc) (w:=w) (base:=base) (sp:=sp) (held:=held) (fuel:=n) (cs:=cs) (by omega) (h1.trans (vY o)) (by rw [<- u]; simpa using z) (fun i p b=>by
  rw [<- u,List.getElem?_map] at b;cases m:fs.toList[i]? with
  | none=>rw [m] at b; cases b
  | some f =>
   rw [m] at b; simp at b; subst b;exact C i f (by simpa using m)) (by dsimp only at hb; exact Nat.le_trans l hb)
 exact⟨g a,by rw [v]; simpa using E,Nat.le_trans (y a) (Nat.le_trans F l),hw _ G⟩
end
section
variable {H:Type}{enc:TypeId×Value->H}{P:Program}{B:DataW H->Nat}{W:World}
theorem H9 {α:Type}{R:α->List D}{sz:α->Nat}{wf:α->Prop}{r:Reach}{f:Nat}{t:TypeId}{b:TI}{fs:List (Nat×TypeId)}{v:Value}{d:DataW H}{ps:List MemPlace}(g:aR P t=some b) (hk:b.k=.struct fs) (hr:∀N,cB P B N t R sz wf) (i:Value.okWide P W r f t v)
  (j:DataW.Trod enc P W 0 (fun _=>true) true t v d ps) (hb:B d<=1048576):∃a:α,cH (j0 W) W (.agg (R a)) v/\sz a<=B d/\wf a:=by
 obtain⟨_,ht,_⟩:=BE g hk;obtain⟨cs,rfl,_⟩:=okWide_struct ht i;obtain⟨fuel,l⟩:=j;obtain⟨a,h1,m,o⟩:=(hr fuel).rd (Nat.le_refl _) l hb;exact⟨a,⟨cs.toList,by simp,h1⟩,m,o⟩
end
theorem H_ {P:Program}{f:FuncId}{xs:List A}(hc:@AC bC.on P f xs h0 fun r _=>r=.a (.d (.bool true))){W:World}{args:List Value}(i:bf (cH (j0 W) W) xs args) :
  Calls P f args.toArray W fun e g=>e=.returned (.bool true)/\Below W.heap.size W g:=by
 letI:bC:=bC.on
 refine(hc.runs (j0 W) W args (HX W) i).mono ?_;rintro e g ⟨r,cv,j',h',rfl,rfl,hv,_,b⟩;have j:aD j' g (.bool true) cv:=hv;cases j;refine⟨rfl,b.os,b.tape,b.output.1,b.size,fun k hk=>(b.frame k hk ?_).1⟩;rintro (h|⟨id,o,h,_⟩)
 ·cases h
 ·cases h
theorem Below.trodAll {H:Type}{enc:TypeId×Value->H}{P:Program}(hl:laidOutB P=true){W g:World}(hb:Below W.heap.size W g) :
  ∀{ts:List TypeId}{i:List Value}{ds:List (DataW H)}{ps:List MemPlace},(∀t∈ts,P.readableRec t=true/\t<P.types.size)->DataW.TrodAll enc P W 0 (fun _=>true) true ts i ds ps->(∀x∈ps,x.block<W.heap.size) ->
  ∀f:Nat->Bool,(∀x∈ps,f x.block=true)->DataW.TrodAll enc P g 0 f true ts i ds ps
 | [],_,_,_,_,h,_,_,_=>by obtain⟨rfl,rfl,rfl⟩:=trodAll_nil h; exact rfl
 | _::_,_,_,_,ht,h,aT,f,j=>by
  obtain⟨v,l,d,m,a,b,rfl,rfl,rfl,h1,k⟩:=trodAll_cons h;exact⟨a,b,WideElems.Trod_stays hl (ht _ (by simp)).1 (ht _ (by simp)).2 h1 (fun x hx=>hb.same (aT x (by simp [hx]))) (fun x hx=>j x (by simp [hx])),
   Below.trodAll hl hb (fun t h=>ht t (by simp [h])) k (fun x hx=>aT x (by simp [hx])) f (fun x hx=>j x (by simp [hx])),rfl⟩
theorem Ia {H:Type}{enc:TypeId×Value->H}{P:Program}{f:Func}{s:ChangeSpec}{fresh handsOn again:Bool}{W g:World}{args:Array Value}{ds:List (DataW H)}{before:List MemPlace}{j:TypeId}
  (hv:s.vars=[]) (k:DataW.Whole enc P f.params.toList s.vars false W args.toList ds [] before) (hb:Below W.heap.size W g) (hl:laidOutB P=true) (z:∀t∈f.params.toList,P.readableRec t=true/\t<P.types.size)
  (hr:f.resultTypes=#[j]) (l:P.underlying j=some .bool) (i:s.fn H ds={ results:=[.lit (.bool true)],args:=ds }):s.post enc P f false fresh handsOn again W args (.bool true) g:=by
 have m:=k;have aT:∀x∈before,x.block<W.heap.size:=fun x hx=>by simpa using m.lt x hx
 obtain⟨p,q,B,o,rfl,r,hn⟩:=k;rw [hv] at o;obtain⟨_,rfl⟩:=trodVars_none o;simp only [List.append_nil] at aT r;have u:∀sp:Nat->Bool,(∀x∈p,sp x.block=true)->DataW.TrodAll enc P g 0 sp true f.params.toList args.toList ds p:=fun sp C=>Below.trodAll hl hb z B aT sp C;have v:∀(b:Nat) (sp:Nat->Bool) (y:Bool),DataW.TrodAll enc P g b sp y f.resultTypes.toList ((Value.bool true).resultList f.resultTypes.size) [.lit (.bool true)] []:=by
  intro b sp y;rw [hr];exact trodAll_cons_mk (shut_bool l _) trodAll_mk0
 refine⟨ds,[],p++[],[],p,[],m, ?_, ?_, ?_,World.keptBut_mono (fun x hx=>⟨hx, ?_⟩) (hb.frame (·∈p++[])),fun _=>⟨?_,[.lit (.bool true)]++ds,[],p,⟨p,[], ?_, ?_,by simp, ?_,fun h=>by cases h⟩,fun x hx _=>by simpa using hx⟩⟩
 ·rw [List.append_nil,i]; exact v _ _ _
 ·rw [List.append_nil,i]; exact u _ fun x hx=>by simpa using aT x hx
 ·rw [hv,List.append_nil,i]; exact rfl
 ·exact .inr (.inl (by simpa using hx))
 ·exact ok_one hr rfl (okWide_bool_mk l _)
 ·exact trodAll_append (u _ fun _ _=>rfl) (v _ _ _)
 ·rw [hv]; exact rfl
 ·intro b off hx;have hblk:=aT _ hx;rw [World.frozen?_of_block (w:=W) (hb.block _ hblk)];exact r b off hx
end Go.Ab
/-
 The readings of package api's types,at whatever depth.
-/
namespace Go.Ab
open Go Go.RowKit
section
variable {H:Type}{P:Program}{B:DataW H->Nat}(hB:q4 B)
include hB
theorem l6.struct {α β:Type}{t:TypeId}{b:TI}{ps:List (Nat×TypeId)}{R:α->List D}{sz:α->Nat}{wf:α->Prop}(l:aR P t=some b) (hk:b.k=.struct ps) (h:∀N,cn P B N b.size 0 ps R sz wf) (g:α->β){f:β->List D}{i:β->Nat}{j:β->Prop}
  (m:∀a,f (g a)=R a) (o:∀a,i (g a)<=sz a) (hw:∀a,wf a->j (g a)):∀N,cB P B N t f i j
 | 0=>.zero
 | N+1=>cB.struct hB l hk (h N) g m o hw
end
end Go.Ab
/-
 The readings of the models' types.
-/
namespace Go.Ab
open Go Go.RowKit
variable {az:bC}
def Sl.sz {α:Type}(f:α->Nat) (s:Sl α):Nat:=1+(s.l.map f).sum
def Sl.wf {α:Type}(p:α->Prop) (s:Sl α):Prop:=(s.nl=true->s.l=[])/\s.l.length<=cq/\∀x∈s.l,p x
def Bs.sz (s:Bs):Nat:=s.length+1
section
variable {H:Type}{P:Program}{B:DataW H->Nat}
theorem cB.tt {α β:Type}{N:Nat}{t:TypeId}{R:α->List D}{sz:α->Nat}{wf:α->Prop}(h:cB P B N t R sz wf) (g:α->β){b:β->List D}{f:β->Nat}{i:β->Prop}
  (j:∀a,b (g a)=R a) (k:∀a,f (g a)<=sz a) (hw:∀a,wf a->i (g a)):cB P B N t b f i :=
 ⟨fun l ht hb=>by
  obtain⟨a,h1,m,o⟩:=h.rd l ht hb;exact⟨g a,by rw [j]; exact h1,Nat.le_trans (k a) m,hw a o⟩⟩
variable (hB:q4 B)
include hB
theorem cZ.str {t:TypeId}{b:TI}(f:aR P t=some b) (hk:b.k=.str) (N:Nat):cB P B N t aI Bs.sz fun _=>True :=
 (cB.str hB f hk).tt (fun s:qX=>s.1) (fun _=>rfl) (fun _=>Nat.le_refl _) fun _ _=>trivial
theorem cZ.bool {t:TypeId}{b:TI}(f:aR P t=some b) (hk:b.k=.bool) (N:Nat):cB P B N t td (fun _=>1) fun _=>True :=
 (cB.bool hB f hk).tt id (fun _=>rfl) (fun _=>Nat.le_refl _) fun _ _=>trivial
theorem cZ.int {t:TypeId}{b:TI}(f:aR P t=some b) (hk:b.k=.int .i64) (N:Nat):cB P B N t (bJ .i64) (fun _=>1) i64 :=
 (cB.int hB f hk).tt id (fun _=>rfl) (fun _=>Nat.le_refl _) fun _ h=>h
theorem cZ.BL {α:Type}{N:Nat}{t e:TypeId}{b f:TI}{k:Nat}{R:α->List D}{sz:α->Nat}{wf:α->Prop}(g:aR P t=some b) (i:b.k=.slice e) (j:aR P e=some f) (m:f.size=k) (o:0<k) (p:∀a,(R a).length=k)
  (he:cB P B N e R sz wf):cB P B (N+1) t (fun s:Sl α=>[Sl.d k R none s]) (Sl.sz sz) (Sl.wf wf) :=
 (cB.slice hB g i j m o p he).tt (fun s:gm α=>(⟨s.nil,s.l⟩:Sl α)) (fun _=>rfl) (fun _=>Nat.le_refl _) (fun s h=>by unfold gm.wf at h; exact⟨s.nn,s.ok,h⟩)
theorem cZ.slice {α:Type}{t e:TypeId}{b f:TI}{k:Nat}{R:α->List D}{sz:α->Nat}{wf:α->Prop}(g:aR P t=some b) (i:b.k=.slice e) (j:aR P e=some f) (l:f.size=k) (m:0<k) (o:∀a,(R a).length=k)
  (he:∀N,cB P B N e R sz wf):∀N,cB P B N t (fun s:Sl α=>[Sl.d k R none s]) (Sl.sz sz) (Sl.wf wf)
 | 0=>.zero
 | N+1=>cZ.BL hB g i j l m o (he N)
end
theorem Sl.ck {α:Type}{f:α->Nat}(s:Sl α) (h:∀a,1<=f a):s.l.length<=s.sz f:=by
 have:=vZ (f:=f) s.l fun a _=>h a;unfold Sl.sz; omega
theorem Sl.cC {α:Type}{f:α->Nat}{s:Sl α}{a:α}(h:a∈s.l):f a<s.sz f:=by
 have:=BK (f:=f) h;unfold Sl.sz; omega
end Go.Ab
namespace Go.Ab
variable {az:bC}
theorem Bs.fO (s:Bs):1<=Bs.sz s:=by unfold Bs.sz; omega
theorem Sl.nL {α:Type}{f:α->Nat}(s:Sl α) (h:∀a,1<=f a):s.l.length<Sl.sz f s:=by
 have:=Sl.ck s h;unfold Sl.sz at *
 suffices s.l.length<=(s.l.map f).sum by omega
 clear this;induction s.l with
 | nil=>simp
 | cons x r b=>have:=h x; simp; omega
end Go.Ab
/-
 Short forms of the rules,for the packed texts.
-/
namespace Go.Ab
open Go Go.RowKit
variable {az:bC}
class dV (P:Program) where
 T:List TI
 ok:lW P T
theorem gV {P:Program} [dV P] {i:TypeId}{b:TI}(h:(dV.T P)[i]?=some b):aR P i=some b:=dV.ok i b h
section
variable {P:Program}{Q:Exit->St->Prop}{σ:St}
theorem ah.cE {c:Operand}{u v:Code}{b:Bool}{α:Type}{A B:Option α}{r:α}(f:(bif b then A else B)=some r) (ht:b=true->A=some r->ah P u Q σ) (g:b=false->B=some r->ah P v Q σ) (hc:ev σ.ts c=.a (.d (.bool b)):=by exact rfl):ah P (.cond c u v) Q σ:=ah.HJ f hc ht g
end
theorem AC.oW {P:Program} [dV P] (n:Nat) (b:List ResultVar){f:FuncId}{fn:Func}{c:Code}{args:List A}{h:ak}{dN:V->ak->Prop}(g:∀(ew:Array Value) (w:World),(callFunc f ew).run P w=.ok (.enter f ew) w) (i:P.funcs[f]?=some fn)
  (hw:ah P c (bn (dV.T P) b dN) ⟨n,oT 0 args,[],h⟩) (hb:fn.body=some c:=by exact rfl) (hn:fn.ntmps=n:=by exact rfl) (j:fn.results.toList=b:=by exact rfl) (hl:Nat.ble args.length n=true:=by exact rfl):AC P f args h dN :=
 AC.of_wp dV.ok g i hb hn j hl hw
variable {ii:eF}
section
variable {P:Program}{ops:Array Oper}{rest:List Oper}{Q:St->Prop}{n:Nat}{ts:Ts}{ls aH:List (List D)}{h h':ak}{fx:Fx}{v:V}{d dg gi:Nat}{op:Op}{ty:TypeId}{pos:String}{aC:Array Edge}{want b C:Bool}{done:List Fx}
-- RULES
variable {o:Oper}{c c':Bool}{x x':A}{f:Operand}{args:Array Operand}{cR:Array TypeId}{c_:FuncId}{b_:List D}{xs:List A}
theorem gI {C c:Bool}(h:C=true->c=true:=by intro hC; first|assumption|exact fo (by assumption)|exact fo (fo (by assumption))|exact fo (fo (fo (by assumption)))|exact vH (by assumption)|simp_all):C=true->c=true:=h
theorem S (b:aq P ⟨some d,op,ty,pos,aC,none⟩ ts ls h fx v ls h) (hr:aO P ops rest Q ⟨n,(d,v)::ts,ls,h⟩) (f:Nat.blt d n=true:=by exact rfl):aO P ops (⟨some d,op,ty,pos,aC,none⟩::rest) Q ⟨n,ts,ls,h⟩:=aO.s0 b f hr
theorem Sd (b:aq P ⟨some d,op,ty,pos,aC,none⟩ ts ls h fx v ls h) (hr:au P ops n rest (fx.plain::done) Q ⟨n,(d,v)::ts,ls,h⟩) (f:Nat.blt d n=true:=by exact rfl):au P ops n (⟨some d,op,ty,pos,aC,none⟩::rest) done Q ⟨n,ts,ls,h⟩:=au.s0 b f hr
theorem G0 (b:aq P ⟨some d,op,ty,pos,aC,some (gi,want)⟩ ts ls h fx v ls h) (hr:aO P ops rest Q ⟨n,(d,v.under C)::ts,ls,h⟩) (hg:(ops[gi]?).bind (·.dst)=some dg:=by exact rfl) (hc:gc (get ts dg) want=some C:=by exact rfl) (f:Nat.blt d n=true:=by exact rfl):aO P ops (⟨some d,op,ty,pos,aC,some (gi,want)⟩::rest) Q ⟨n,ts,ls,h⟩:=aO.gC hg hc (fun _=>b) f hr
theorem G1 (k:Nat) (hk:Ab.get ts k=.gd c x) (b:aq P ⟨some d,op,ty,pos,aC,some (gi,want)⟩ ((k,.a x)::ts) ls h fx v ls h) (hr:aO P ops rest Q ⟨n,(d,v.under C)::ts,ls,h⟩) (hg:(ops[gi]?).bind (·.dst)=some dg:=by exact rfl) (hc:gc (get ts dg) want=some C:=by exact rfl) (f:Nat.blt d n=true:=by exact rfl) (hi:C=true->c=true:=by exact gI):aO P ops (⟨some d,op,ty,pos,aC,some (gi,want)⟩::rest) Q ⟨n,ts,ls,h⟩:=aO.gC hg hc (fun hC=>aq.gK hk (hi hC) b) f hr
theorem G2 (k k':Nat) (hk:Ab.get ts k=.gd c x) (b:Ab.get ((k,.a x)::ts) k'=.gd c' x') (f:aq P ⟨some d,op,ty,pos,aC,some (gi,want)⟩ ((k',.a x')::(k,.a x)::ts) ls h fx v ls h) (hr:aO P ops rest Q ⟨n,(d,v.under C)::ts,ls,h⟩) (hg:(ops[gi]?).bind (·.dst)=some dg:=by exact rfl) (hc:gc (get ts dg) want=some C:=by exact rfl) (g:Nat.blt d n=true:=by exact rfl) (hi:C=true->c=true:=by exact gI) (i:C=true->c'=true:=by exact gI):aO P ops (⟨some d,op,ty,pos,aC,some (gi,want)⟩::rest) Q ⟨n,ts,ls,h⟩:=aO.gC hg hc (fun hC=>aq.gK hk (hi hC) (aq.gK b (i hC) f)) g hr
theorem c6 (k:Nat) (hg:(ops[gi]?).bind (·.dst)=some dg) (hc:gc (get ts dg) want=some C) (hk:Ab.get ts k=.gd c x) (b:ev ((k,.a x)::ts) f=.a (.d (.func c_ b_))) (g:fJ ((k,.a x)::ts) args.toList=some xs) (i:C=true->∀H:ak,AC P c_ (xs++b_.map A.d) H fun r h'=>r=v/\h'=H) (hr:aO P ops rest Q ⟨n,(d,v.under C)::ts,ls,h⟩) (hi:C=true->c=true:=by exact gI) (j:Nat.blt d n=true:=by exact rfl):aO P ops (⟨some d,.call { callee:=.value f,args:=args,argTypes:=cR },ty,pos,aC,some (gi,want)⟩::rest) Q ⟨n,ts,ls,h⟩:=aO.gC hg hc (fun hC=>aq.gK hk (hi hC) (aq.fE b g (i hC))) j hr
theorem fu (k k':Nat) (hg:(ops[gi]?).bind (·.dst)=some dg) (hc:gc (get ts dg) want=some C) (hk:Ab.get ts k=.gd c x) (b:Ab.get ((k,.a x)::ts) k'=.gd c' x') (g:ev ((k',.a x')::(k,.a x)::ts) f=.a (.d (.func c_ b_))) (i:fJ ((k',.a x')::(k,.a x)::ts) args.toList=some xs) (j:C=true->∀H:ak,AC P c_ (xs++b_.map A.d) H fun r h'=>r=v/\h'=H) (hr:aO P ops rest Q ⟨n,(d,v.under C)::ts,ls,h⟩) (hi:C=true->c=true:=by exact gI) (l:C=true->c'=true:=by exact gI) (m:Nat.blt d n=true:=by exact rfl):aO P ops (⟨some d,.call { callee:=.value f,args:=args,argTypes:=cR },ty,pos,aC,some (gi,want)⟩::rest) Q ⟨n,ts,ls,h⟩:=aO.gC hg hc (fun hC=>aq.gK hk (hi hC) (aq.gK b (l hC) (aq.fE g i (j hC)))) m hr
theorem cD (b:aq P ⟨some d,op,ty,pos,aC,some (gi,want)⟩ ts ls h fx v ls h) (hr:au P ops n rest (fx.plain::done) Q ⟨n,(d,v.under C)::ts,ls,h⟩) (hg:(ops[gi]?).bind (·.dst)=some dg:=by exact rfl) (hc:gc (get ts dg) want=some C:=by exact rfl) (f:Nat.blt d n=true:=by exact rfl):au P ops n (⟨some d,op,ty,pos,aC,some (gi,want)⟩::rest) done Q ⟨n,ts,ls,h⟩:=au.gC hg hc (fun _=>b) f hr
theorem cM (k:Nat) (hk:Ab.get ts k=.gd c x) (b:aq P ⟨some d,op,ty,pos,aC,some (gi,want)⟩ ((k,.a x)::ts) ls h fx v ls h) (hr:au P ops n rest (fx.plain::done) Q ⟨n,(d,v.under C)::ts,ls,h⟩) (hg:(ops[gi]?).bind (·.dst)=some dg:=by exact rfl) (hc:gc (get ts dg) want=some C:=by exact rfl) (f:Nat.blt d n=true:=by exact rfl) (hi:C=true->c=true:=by exact gI):au P ops n (⟨some d,op,ty,pos,aC,some (gi,want)⟩::rest) done Q ⟨n,ts,ls,h⟩:=au.gC hg hc (fun hC=>aq.gK hk (hi hC) b) f hr
theorem tu (k k':Nat) (hk:Ab.get ts k=.gd c x) (b:Ab.get ((k,.a x)::ts) k'=.gd c' x') (f:aq P ⟨some d,op,ty,pos,aC,some (gi,want)⟩ ((k',.a x')::(k,.a x)::ts) ls h fx v ls h) (hr:au P ops n rest (fx.plain::done) Q ⟨n,(d,v.under C)::ts,ls,h⟩) (hg:(ops[gi]?).bind (·.dst)=some dg:=by exact rfl) (hc:gc (get ts dg) want=some C:=by exact rfl) (g:Nat.blt d n=true:=by exact rfl) (hi:C=true->c=true:=by exact gI) (i:C=true->c'=true:=by exact gI):au P ops n (⟨some d,op,ty,pos,aC,some (gi,want)⟩::rest) done Q ⟨n,ts,ls,h⟩:=au.gC hg hc (fun hC=>aq.gK hk (hi hC) (aq.gK b (i hC) f)) g hr
theorem Ib (hg:(ops[gi]?).bind (·.dst)=some dg) (hc:gc (get ts dg) want=some C) (b:ev ts f=.a (.d (.func c_ b_))) (g:fJ ts args.toList=some xs) (i:C=true->∀H:ak,AC P c_ (xs++b_.map A.d) H fun r h'=>r=v/\h'=H) (hr:au P ops n rest (Fx.plain {}::done) Q ⟨n,(d,v.under C)::ts,ls,h⟩) (j:Nat.blt d n=true:=by exact rfl):au P ops n (⟨some d,.call { callee:=.value f,args:=args,argTypes:=cR },ty,pos,aC,some (gi,want)⟩::rest) done Q ⟨n,ts,ls,h⟩:=au.gC hg hc (fun hC=>aq.fE b g (i hC)) j hr
theorem l7 (k:Nat) (hg:(ops[gi]?).bind (·.dst)=some dg) (hc:gc (get ts dg) want=some C) (hk:Ab.get ts k=.gd c x) (b:ev ((k,.a x)::ts) f=.a (.d (.func c_ b_))) (g:fJ ((k,.a x)::ts) args.toList=some xs) (i:C=true->∀H:ak,AC P c_ (xs++b_.map A.d) H fun r h'=>r=v/\h'=H) (hr:au P ops n rest (Fx.plain {}::done) Q ⟨n,(d,v.under C)::ts,ls,h⟩) (hi:C=true->c=true:=by exact gI) (j:Nat.blt d n=true:=by exact rfl):au P ops n (⟨some d,.call { callee:=.value f,args:=args,argTypes:=cR },ty,pos,aC,some (gi,want)⟩::rest) done Q ⟨n,ts,ls,h⟩:=au.gC hg hc (fun hC=>aq.gK hk (hi hC) (aq.fE b g (i hC))) j hr
theorem pe (k k':Nat) (hg:(ops[gi]?).bind (·.dst)=some dg) (hc:gc (get ts dg) want=some C) (hk:Ab.get ts k=.gd c x) (b:Ab.get ((k,.a x)::ts) k'=.gd c' x') (g:ev ((k',.a x')::(k,.a x)::ts) f=.a (.d (.func c_ b_))) (i:fJ ((k',.a x')::(k,.a x)::ts) args.toList=some xs) (j:C=true->∀H:ak,AC P c_ (xs++b_.map A.d) H fun r h'=>r=v/\h'=H) (hr:au P ops n rest (Fx.plain {}::done) Q ⟨n,(d,v.under C)::ts,ls,h⟩) (hi:C=true->c=true:=by exact gI) (l:C=true->c'=true:=by exact gI) (m:Nat.blt d n=true:=by exact rfl):au P ops n (⟨some d,.call { callee:=.value f,args:=args,argTypes:=cR },ty,pos,aC,some (gi,want)⟩::rest) done Q ⟨n,ts,ls,h⟩:=au.gC hg hc (fun hC=>aq.gK hk (hi hC) (aq.gK b (l hC) (aq.fE g i (j hC)))) m hr
theorem Mv [dV P] (e:aq P o ts ls h fx v aH h':=by exact aq.HF):aq P o ts ls h fx v aH h':=e
theorem As [dV P] (e:aq P o ts ls h fx v aH h':=by exact aq.HG):aq P o ts ls h fx v aH h':=e
theorem Ld [dV P] (e:aq P o ts ls h fx v aH h':=by exact aq.dH (gV rfl) rfl rfl rfl):aq P o ts ls h fx v aH h':=e
theorem Fv [dV P] (e:aq P o ts ls h fx v aH h':=by exact aq.HH (gV rfl) rfl rfl (gV rfl) rfl rfl):aq P o ts ls h fx v aH h':=e
theorem BI [dV P] (e:aq P o ts ls h fx v aH h':=by exact aq.vz rfl rfl rfl):aq P o ts ls h fx v aH h':=e
theorem BS [dV P] (e:aq P o ts ls h fx v aH h':=by exact aq.GJ rfl rfl rfl):aq P o ts ls h fx v aH h':=e
theorem PA [dV P] (e:aq P o ts ls h fx v aH h':=by exact aq.gR rfl rfl rfl):aq P o ts ls h fx v aH h':=e
theorem PO [dV P] (e:aq P o ts ls h fx v aH h':=by exact aq.o9 rfl rfl rfl):aq P o ts ls h fx v aH h':=e
theorem NB [dV P] (e:aq P o ts ls h fx v aH h':=by exact aq.GL rfl):aq P o ts ls h fx v aH h':=e
theorem EX [dV P] (e:aq P o ts ls h fx v aH h':=by exact aq.extract rfl rfl):aq P o ts ls h fx v aH h':=e
theorem BX [dV P] (e:aq P o ts ls h fx v aH h':=by exact aq.Hr rfl):aq P o ts ls h fx v aH h':=e
theorem LL [dV P] (e:aq P o ts ls h fx v aH h':=by exact aq.vt (gV rfl) rfl rfl rfl rfl):aq P o ts ls h fx v aH h':=e
theorem FL [dV P] (e:aq P o ts ls h fx v aH h':=by exact aq.AT (gV rfl) rfl rfl (gV rfl) rfl rfl):aq P o ts ls h fx v aH h':=e
theorem BU [dV P] (e:aq P o ts ls h fx v aH h':=by exact aq.build dV.ok rfl rfl rfl rfl rfl rfl):aq P o ts ls h fx v aH h':=e
theorem BV [dV P] (e:aq P o ts ls h fx v aH h':=by exact aq.buildSlice (gV rfl) rfl (gV rfl) rfl rfl rfl rfl rfl rfl):aq P o ts ls h fx v aH h':=e
theorem NP [dV P] (e:aq P o ts ls h fx v aH h':=by exact aq.e8 rfl):aq P o ts ls h fx v aH h':=e
theorem aO.SI {t u:TypeId}{x y:Operand}{p q:Int}(hr:aO P ops rest Q ⟨n,(d,.a (.d (.int .i64 (p+q))))::ts,ls,h⟩) (hx:ev ts x=.a (.d (.int .i64 p)):=by exact rfl) (b:ev ts y=.a (.d (.int .i64 q)):=by exact rfl)
  (h1 : -9223372036854775808<=p+q:=by first|omega|(dsimp only; omega)|(simp at *; omega)) (f:p+q<=9223372036854775807:=by first|omega|(dsimp only; omega)|(simp at *; omega)) (g:Nat.blt d n=true:=by exact rfl) :
  aO P ops (⟨some d,.binOp .add t x y u,ty,pos,aC,none⟩::rest) Q ⟨n,ts,ls,h⟩:=aO.s0 (aq.AW hx b h1 f) g hr
theorem aO.Sc {f:Operand}{args:Array Operand}{cR:Array TypeId}{c_:FuncId}{b_:List D}{xs:List A}(b:ev ts f=.a (.d (.func c_ b_))) (g:fJ ts args.toList=some xs)
  (hc:∀H:ak,AC P c_ (xs++b_.map A.d) H fun r h'=>r=v/\h'=H) (hr:aO P ops rest Q ⟨n,(d,v)::ts,ls,h⟩) (i:Nat.blt d n=true:=by exact rfl):aO P ops (⟨some d,.call { callee:=.value f,args:=args,argTypes:=cR },ty,pos,aC,none⟩::rest) Q ⟨n,ts,ls,h⟩:=aO.s0 (aq.fE b g hc) i hr
theorem aO.Sl [dV P] (hr:aO P ops rest Q ⟨n,(d,v)::ts,aH,h⟩) (b:aq P ⟨some d,op,ty,pos,aC,none⟩ ts ls h { wl:=true } v aH h:=by exact aq.HI (gV rfl) rfl) (f:Nat.blt d n=true:=by exact rfl) :
  aO P ops (⟨some d,op,ty,pos,aC,none⟩::rest) Q ⟨n,ts,ls,h⟩:=aO.sL b f hr
theorem aO.Sf [dV P] (hr:aO P ops rest Q ⟨n,ts,aH,h⟩) (b:aq P ⟨none,op,ty,pos,aC,none⟩ ts ls h { wl:=true } v aH h:=by first|exact aq.eA (gV rfl) rfl rfl rfl rfl rfl|exact aq.qU (gV rfl) rfl rfl rfl rfl (by repeat (first|exact bL.zero|apply bL.succ)) (by repeat (first|exact bL.zero|apply bL.succ))) :
  aO P ops (⟨none,op,ty,pos,aC,none⟩::rest) Q ⟨n,ts,ls,h⟩:=aO.dA b hr
theorem aO.hq {h:ak}(h':ak) (hw:aO P ops rest Q ⟨n,ts,ls,h'⟩) (e:h=h':=by first|rfl|(rw [ak.set_set]; rfl)|(funext n_; simp only [ak.set]; (repeat' split)<;>first|rfl|(exfalso; simp_all; done)|(simp_all; done))):aO P ops rest Q ⟨n,ts,ls,h⟩:=aO.vL e hw
theorem au.Dh {h:ak}(h':ak) (hw:au P ops n rest done Q ⟨n,ts,ls,h'⟩) (e:h=h':=by first|rfl|(rw [ak.set_set]; rfl)|(funext n_; simp only [ak.set]; (repeat' split)<;>first|rfl|(exfalso; simp_all; done)|(simp_all; done))):au P ops n rest done Q ⟨n,ts,ls,h⟩:=au.vL e hw
end
section
variable {P:Program}{Q:Exit->St->Prop}{σ:St}
theorem ah.af {id:Nat}{l:List Oper}{y:Code}(h:aO P l.toArray l (fun b=>ah P y Q b) σ):ah P (.seq (.region id l.toArray false) y) Q σ:=ah.seq (ah.region h)
theorem ah.b5 {id:Nat}{l:List Oper}{y:Code}(h:au P l.toArray σ.n l [] (fun b=>ah P y Q b) σ) (hm:P.follows .mixedOrders=true:=by exact rfl):ah P (.seq (.region id l.toArray true) y) Q σ:=ah.seq (ah.draw hm h)
theorem ah.sk {A K:St->Prop}(b:∀σ,A σ->K σ) (h:A σ) (e:K σ->Q .normal σ:=by exact id):ah P .skip Q σ:=ah.skip (e (b _ h))
theorem ah.rt {α:Type}{a r:α}(b:some a=some r) (h:a=r->Q .ret σ:=by intro e; subst e; (repeat (first|refine bE ?_|refine bF ?_)); exact bn.bG _ rfl ⟨rfl,rfl⟩ (fun _ _ h=>h)):ah P .ret Q σ:=ah.ret (h (Option.some.inj b))
end
theorem bO {α β:Type}{o:Option α}{k:α->Option β}{r:β}(h:o.bind k=some r):∃x,o=some x/\k x=some r:=aZ h
theorem gO {α β:Type}{c:Bool}{o:Option α}{d:α}{k:α->Option β}{r:β}(h:aU c o d k=some r):∃x,(c=true->o=some x)/\k x=some r:=Bq h
theorem aY.KA {ts:Ts}{m:Nat}{v:V}{r:Ts}(k:Nat) (t:aY ts m r) (h:Ab.get ts k=v:=by conv=>lhs; whnf) (hv:v.s_ m=true:=by rfl):aY ts m ((k,v)::r):=aY.c h hv t
theorem eG.TA {ts:Ts}{v:V}{r:Ts}(k:Nat) (t:eG ts r) (h:Ab.get ts k=v:=by conv=>lhs; whnf):eG ts ((k,v)::r):=eG.cons h t
section
variable {P:Program}{α:Type}{ts:Ts}{ls aH:List (List D)}{h h':ak}{dst:Option Tmp}{ty:TypeId}{pos:String}{aC:Array Edge}{g:Option (Nat×Bool)}{ops:Array Oper}{rest:List Oper}{Q:St->Prop}{n d:Nat}{v:V}{op:Op}{done:List Fx}
theorem ix [dV P] (f:α->List D) (n:Nat){t e:TypeId}{b j:TI}{x i:Operand}{tok:Option Nat}{s:Sl α}{m:IntKind}{y:α}{k:Nat}(hr:s.l[n]?=some y) (o:aR P t=some b:=by exact gV rfl) (hk:b.k=.slice e:=by exact rfl) (p:aR P e=some j:=by exact gV rfl)
  (hx:ev ts x=.a (.d (s.d k f tok)):=by exact rfl) (hi:ev ts i=.a (.d (.int m (n:Int))):=by exact rfl) (q:k=j.size:=by exact rfl):aq P ⟨dst,.indexAddr t x i,ty,pos,aC,g⟩ ts ls h {} (.a (.d (.view (f y)))) ls h:=aq.dI o hk p hx hi q hr
theorem am {t u e:TypeId}{i j b:TI}(f:α->List D){x y:Operand}{tk k k' m:Nat}{tok':Option Nat}{s r w:Sl α}{z:A}(o:aR P t=some i) (hk:i.k=.slice e) (p:aR P e=some b) (q:aR P u=some j) (hr:aQ b.bytes s r=some w) (v:∃e,j.k=.slice e:=by exact⟨_,rfl⟩)
  (B:b.zero=some z:=by exact rfl) (C:(bZ z).length=b.size:=by exact rfl) (E:b.size≠0:=by decide) (hx:ev ts x=.a (.d (s.d k f (some tk))):=by exact rfl) (F:ev ts y=.a (.d (r.d k' f tok')):=by exact rfl) (G:k=b.size:=by exact rfl) (H:k'=b.size:=by exact rfl)
  (I:h tk=some (.tok b.size m):=by exact aB) (hm:m=s.l.length:=by exact rfl):aq P ⟨dst,.call { callee:=.builtin .append,args:=#[x,y],argTypes:=#[t,u] },ty,pos,aC,g⟩ ts ls h { rh:=true,wh:=true } (.a (.d (w.d k f (some tk)))) ls (h.set tk (some (.tok b.size w.l.length))) :=
 aq.jf o hk p q v B C E hx F G H I hm hr
theorem SH (b:aq P ⟨some d,op,ty,pos,aC,none⟩ ts ls h { rh:=true,wh:=true } v ls h') (hr:aO P ops rest Q ⟨n,(d,v)::ts,ls,h'⟩) (f:Nat.blt d n=true:=by exact rfl):aO P ops (⟨some d,op,ty,pos,aC,none⟩::rest) Q ⟨n,ts,ls,h⟩:=aO.sH b f hr
theorem ct {f:Operand}{args:Array Operand}{cR:Array TypeId}{c_:FuncId}{b_:List D}{xs:List A}(b:ev ts f=.a (.d (.func c_ b_))) (g:fJ ts args.toList=some xs)
  (hc:∀H:ak,AC P c_ (xs++b_.map A.d) H fun r h'=>r=v/\h'=H) (hr:au P ops n rest (Fx.plain {}::done) Q ⟨n,(d,v)::ts,ls,h⟩) (i:Nat.blt d n=true:=by exact rfl):au P ops n (⟨some d,.call { callee:=.value f,args:=args,argTypes:=cR },ty,pos,aC,none⟩::rest) done Q ⟨n,ts,ls,h⟩:=au.s0 (aq.fE b g hc) i hr
end
theorem Qe {α:Type}{a b c:α}(h:c=b) (e:a=b):a=c:=e.trans h.symm
theorem Qs {α:Type}{o p:Option α}(h:o=p.bind some):o=p:=h.trans (Q.HT p)
theorem QT {α:Type}{i n:Nat}{a b r:α}(h:i<n) (e:a=r):cond (decide ((i:Int)<(n:Int))) a b=r:=Q.vJ (Q.tg h) e
theorem QF {α:Type}{i n:Nat}{a b r:α}(h:¬i<n) (e:b=r):cond (decide ((i:Int)<(n:Int))) a b=r:=Q.vK (Q.vX h) e
theorem Qa {α:Type}{l:List α}{i:Nat}(h:i<l.length):∃x,l[i]?=some x:=⟨_,List.getElem?_eq_getElem h⟩
theorem dL {α:Type}{i:Nat}{l:List α}(h:l.length<=i):l.drop i=[]:=List.drop_of_length_le h
end Go.Ab
/-
 Short rules for walks over the list layer.
-/
namespace Go.Ab
open Go
section
variable {az:bC}{P:Program}{Q:Exit->St->Prop}{σ:St}
theorem ah.cO {c:Operand}{u v:Code}{b:Bool}{α R:Type}{A B:Option α}{K:α->Option R}{r:R}(f:Option.bind (bif b then A else B) K=some r) (ht:b=true->Option.bind A K=some r->ah P u Q σ) (g:b=false->Option.bind B K=some r->ah P v Q σ) (hc:ev σ.ts c=.a (.d (.bool b)):=by exact rfl):ah P (.cond c u v) Q σ:=ah.ir f hc ht g
theorem ah.cP {c:Operand}{u v:Code}{b:Bool}{α R:Type}{A B:α}{K:α->Option R}{r:R}(f:K (bif b then A else B)=some r) (ht:b=true->K A=some r->ah P u Q σ) (g:b=false->K B=some r->ah P v Q σ) (hc:ev σ.ts c=.a (.d (.bool b)):=by exact rfl):ah P (.cond c u v) Q σ:=ah.vU f hc ht g
end
end Go.Ab
namespace Go.Ab
theorem oB {α β : Type} (a : α) (f : α → Option β) : (some a).bind f = f a := rfl
theorem oJ {α : Type} {a b : α} (h : some a = some b) : a = b := Option.some.inj h
theorem nS (n : Nat) : n < n.succ := Nat.lt_succ_self n
theorem oD {p : Prop} [Decidable p] (h : decide p = true) : p := of_decide_eq_true h
theorem dF {p : Prop} [Decidable p] (h : ¬ p) : decide p = false := decide_eq_false h
theorem dT {p : Prop} [Decidable p] (h : p) : decide p = true := decide_eq_true h
theorem kN {ts : Ts} : eG ts [] := .nil
end Go.Ab
