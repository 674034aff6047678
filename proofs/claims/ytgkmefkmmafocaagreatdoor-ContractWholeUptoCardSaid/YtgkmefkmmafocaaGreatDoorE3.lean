import Derived.Test.YtgkmefkmmafocaaGreatDoorE2
import Derived.Defers
import Derived.Laws.IdiomRangeMap
import Derived.Sort.Grow
import Derived.Shelf.SlSortCmp.NoneTotal
import Derived.Shelf.Spec.SlicesGrow
import Derived.Shelf.SlicesE.DeleteFunc
import Derived.Laws.BytesString
import Derived.Shelf.Strconv.Itoa3
import Derived.Shelf.Strings.OnBuilder
import Derived.WalkKit
import Derived.ProofKit
import Derived.OpenShut
import Derived.JoinedCond
import Derived.Carry
import Derived.Lib.LaidU8
set_option maxRecDepth 100000
set_option maxHeartbeats 2000000
set_option linter.unusedVariables false
set_option linter.unusedSimpArgs false
/-
 The rules as a walk applies them.
-/
namespace Go.Ab
open Go Go.RowKit
variable {ax:bK}
variable {fM:eN}
section
variable {P:Program}{ops:Array Oper}{rest:List Oper}{Q:St->Prop}{n:Nat}{ts:Ts}{ls aM:List (List D)}{h h':ai}{fx:Fx}{v:V}{d dg gi:Nat}{op:Op}{ty:TypeId}{pos:String}{aJ:Array Edge}{want b:Bool}
theorem Mg (h:Nat.blt d n=true):kT (some d) n=true:=h
theorem aP.s0 (b:ar P ⟨some d,op,ty,pos,aJ,none⟩ ts ls h fx v ls h) (f:Nat.blt d n=true) (hr:aP P ops rest Q ⟨n,(d,v)::ts,ls,h⟩):aP P ops (⟨some d,op,ty,pos,aJ,none⟩::rest) Q ⟨n,ts,ls,h⟩ :=
 aP.step b rfl f (by cases fx.wl<;>cases fx.wh<;>exact hr)
theorem aP.sL (b:ar P ⟨some d,op,ty,pos,aJ,none⟩ ts ls h { wl:=true } v aM h) (f:Nat.blt d n=true) (hr:aP P ops rest Q ⟨n,(d,v)::ts,aM,h⟩):aP P ops (⟨some d,op,ty,pos,aJ,none⟩::rest) Q ⟨n,ts,ls,h⟩ :=
 aP.step b rfl f hr
theorem aP.dB (b:ar P ⟨none,op,ty,pos,aJ,none⟩ ts ls h { wl:=true } v aM h) (hr:aP P ops rest Q ⟨n,ts,aM,h⟩):aP P ops (⟨none,op,ty,pos,aJ,none⟩::rest) Q ⟨n,ts,ls,h⟩ :=
 aP.step b rfl rfl hr
theorem aP.sH (b:ar P ⟨some d,op,ty,pos,aJ,none⟩ ts ls h { rh:=true,wh:=true } v ls h') (f:Nat.blt d n=true) (hr:aP P ops rest Q ⟨n,(d,v)::ts,ls,h'⟩):aP P ops (⟨some d,op,ty,pos,aJ,none⟩::rest) Q ⟨n,ts,ls,h⟩ :=
 aP.step b rfl f hr
theorem aP.dA (b:ar P ⟨none,op,ty,pos,aJ,none⟩ ts ls h fx v ls h') (f:fx.wl=false) (g:fx.wh=true) (hr:aP P ops rest Q ⟨n,ts,ls,h'⟩):aP P ops (⟨none,op,ty,pos,aJ,none⟩::rest) Q ⟨n,ts,ls,h⟩ :=
 aP.step b rfl rfl (by rw [f,g]; exact hr)
theorem aP.sE {R:V->List (List D)->ai->Prop}(b:c_ P ⟨some d,op,ty,pos,aJ,none⟩ ts ls h R) (f:Nat.blt d n=true) (hr:∀v aM h',R v aM h'->aP P ops rest Q ⟨n,(d,v)::ts,aM,h'⟩) :
  aP P ops (⟨some d,op,ty,pos,aJ,none⟩::rest) Q ⟨n,ts,ls,h⟩:=aP.Eo b rfl f hr
theorem zQ (hg:(ops[gi]?).bind (·.dst)=some dg){dst:Option Tmp}:guardOf ops ⟨dst,op,ty,pos,aJ,some (gi,want)⟩=some (dg,want):=by
 simp only [guardOf,hg]
variable {done:List Fx}
theorem au.s0 (f:ar P ⟨some d,op,ty,pos,aJ,none⟩ ts ls h fx v ls h) (g:Nat.blt d n=true) (hr:au P ops n rest (fx.plain::done) Q ⟨n,(d,v)::ts,ls,h⟩):au P ops n (⟨some d,op,ty,pos,aJ,none⟩::rest) done Q ⟨n,ts,ls,h⟩ :=
 au.cons (ni.plain f rfl g) (by cases fx with|mk a b c d e=>cases b<;>cases d<;>exact hr)
theorem sw.alloc {e:TypeId}{b:TI}{z:A}{i:Nat}{aM:List (List D)}(g:aU P e=some b) (k:b.zero=some z) (l:bL (cD z) ls i aM):sw P ⟨some d,.alloc e,ty,pos,aJ,none⟩ (.cZ i 0) ls aM:=by
 obtain⟨inf,s,h1,_,_,_,_,f⟩:=fH g;rw [k] at f;obtain⟨v,m,o⟩:=nk f;obtain⟨p,q⟩:=l.spec;refine⟨cD z,d,rfl,rfl,by rw [p],q,v.cells.toList,e,fun j w=>(o j w).cells,fun a w K Q hk=>?_⟩;have r:(execOp a.eval (⟨some d,.alloc e,ty,pos,aJ,none⟩:Oper)).run P w=.ok (.value (.pointer (some ⟨w.heap.size,0,none⟩))) (w.alloc (.cells v.cells e)):=by
  simp [execOp,Instr.alloc,zeroValue,typeInfo,h1,m,newVar,newRow]
 unfold Oper.wp;rw [r,Oper.upon_value];rw [Array.toArray_toList] at hk;exact hk
theorem au.sB {e:TypeId}{b:TI}{z:A}{i:Nat}{aM:List (List D)}(f:aU P e=some b) (g:b.zero=some z) (j:Nat.blt d n=true) (hr:au P ops n rest ({ wl:=true,nu:=true }::done) Q ⟨n,(d,.cZ i 0)::ts,aM,h⟩)
  (k:bL (cD z) ls i aM:=by repeat (first|exact bL.nil|apply bL.cons)):au P ops n (⟨some d,.alloc e,ty,pos,aJ,none⟩::rest) done Q ⟨n,ts,ls,h⟩:=au.born (sw.alloc f g k) j hr
theorem au.dB (b:ar P ⟨none,op,ty,pos,aJ,none⟩ ts ls h { wl:=true } v aM h) (hr:au P ops n rest ({ wl:=true }::done) Q ⟨n,ts,aM,h⟩):au P ops n (⟨none,op,ty,pos,aJ,none⟩::rest) done Q ⟨n,ts,ls,h⟩ :=
 au.cons (ni.plain b rfl rfl) hr
theorem au.sH (b:ar P ⟨some d,op,ty,pos,aJ,none⟩ ts ls h { rh:=true,wh:=true } v ls h') (f:Nat.blt d n=true) (hr:au P ops n rest ({ rh:=true,wh:=true }::done) Q ⟨n,(d,v)::ts,ls,h'⟩) :
  au P ops n (⟨some d,op,ty,pos,aJ,none⟩::rest) done Q ⟨n,ts,ls,h⟩:=au.cons (ni.plain b rfl f) hr
theorem au.dA (b:ar P ⟨none,op,ty,pos,aJ,none⟩ ts ls h fx v ls h') (f:fx.wl=false) (g:fx.wh=true) (hr:au P ops n rest (fx.plain::done) Q ⟨n,ts,ls,h'⟩):au P ops n (⟨none,op,ty,pos,aJ,none⟩::rest) done Q ⟨n,ts,ls,h⟩ :=
 au.cons (ni.plain b rfl rfl) (by rw [f,g]; exact hr)
end
section
variable {P:Program}{ops:Array Oper}{rest:List Oper}{Q:St->Prop}{n:Nat}{ts:Ts}{ls aM:List (List D)}{h h':ai}{fx:Fx}{x:A}{d dg gi:Nat}{op:Op}{ty:TypeId}{pos:String}{aJ:Array Edge}{want C:Bool}
def gc:V->Bool->Option Bool
 | .a (.d (.bool b)),true=>some b
 | .a (.d (.bool b)),false=>some (!b)
 | .gd c (.d (.bool b)),true=>some (c&&b)
 | .gd c (.d (.bool b)),false=>some (c&&!b)
 | _,_=>none
theorem E8 {j:J}{w:World}{jl:List Nat}{a:Act}{o:Oper}(hg:guardOf ops o=some (dg,want)) (hc:gc (get ts dg) want=some C) (h:bz j w jl (get ts dg) (a.tmps.getD dg undef)) :
  Region.wanted o (yielded ops a.tmps)=C:=by
 cases hv:get ts dg with
 | a y =>
  cases y with
  | d z =>
   cases z with
   | bool b =>
    rw [hv] at hc;cases want<;>simp only [gc,Option.some.injEq] at hc<;>subst hc<;>rw [En hg hv h]<;>cases b<;>rfl
   | _=>rw [hv] at hc; cases want<;>simp [gc] at hc
  | agg z=>rw [hv] at hc; cases want<;>simp [gc] at hc
 | gd c y =>
  cases y with
  | agg z=>rw [hv] at hc; cases want<;>simp [gc] at hc
  | d z =>
   cases z with
   | bool b =>
    rw [hv] at hc;rw [hv] at h;cases c with
    | true =>
     have h1:bz j w jl (get [(dg,.a (.d (.bool b)))] dg) (a.tmps.getD dg undef):=by rw [ga]; exact h.1 rfl
     cases want<;>simp only [gc,Option.some.injEq,Bool.true_and] at hc<;>subst hc<;>rw [En (ts:=[(dg,.a (.d (.bool b)))]) hg (ga _ _ _) h1]<;>cases b<;>rfl
    | false =>
     have f:=h.2 rfl;have hC:C=false:=by cases want<;>simp [gc] at hc<;>exact hc
     subst hC;unfold guardOf at hg
     split at hg
     ·simp at hg
     ·rename_i g p k
      split at hg
      ·rename_i i l
       simp only [Option.some.injEq,Prod.mk.injEq] at hg;obtain⟨rfl,rfl⟩:=hg;have m:a.tmps[i]?=none\/a.tmps[i]?=some (.tuple #[]):=by
        rw [Array.getD_eq_getD_getElem?] at f;cases e:a.tmps[i]? with
        | none=>exact .inl rfl
        | some y=>rw [e] at f; simp at f; rw [f]; exact .inr rfl
       simp only [Region.wanted,k,yielded,l,Option.bind_some];rcases m with e|e<;>rw [e]<;>rfl
      ·simp at hg
   | _=>rw [hv] at hc; cases want<;>simp [gc] at hc
 | any=>rw [hv] at hc; cases want<;>simp [gc] at hc
 | cZ _ _=>rw [hv] at hc; cases want<;>simp [gc] at hc
 | cF _=>rw [hv] at hc; cases want<;>simp [gc] at hc
 | gr _ _ _=>rw [hv] at hc; cases want<;>simp [gc] at hc
 | full _ _=>rw [hv] at hc; cases want<;>simp [gc] at hc
 | qx _ _ _=>rw [hv] at hc; cases want<;>simp [gc] at hc
theorem ar.jq {o:Oper}{v:V}{k:Nat}{c:Bool}(hk:get ts k=.gd c x) (hc:c=true) (b:ar P o ((k,.a x)::ts) ls h fx v aM h'):ar P o ts ls h fx v aM h':=by
 intro L H f hH j w jl a hl g;refine b L H f hH j w jl a hl fun y i=>?_;have h1:=g y i;cases y with
 | tmp t =>
  by_cases e:k=t
  ·subst e;simp only [ev] at h1 ⊢;rw [ga];rw [hk] at h1;exact h1.1 hc
  ·simp only [ev] at h1 ⊢;rw [g_ _ _ e]; exact h1
 | _=>exact h1
theorem ar.Mh {o:Oper}{v:V}{k:Nat}{c:Bool}{i off:Nat}(hk:get ts k=.gr c i off) (hc:c=true) (b:ar P o ((k,.cZ i off)::ts) ls h fx v aM h'):ar P o ts ls h fx v aM h':=by
 intro L H f hH j w jl a hl g;refine b L H f hH j w jl a hl fun y l=>?_;have h1:=g y l;cases y with
 | tmp t =>
  by_cases e:k=t
  ·subst e;simp only [ev] at h1 ⊢;rw [ga];rw [hk] at h1;exact h1.1 hc
  ·simp only [ev] at h1 ⊢;rw [g_ _ _ e]; exact h1
 | _=>exact h1
theorem aP.gC {v:V}(hg:(ops[gi]?).bind (·.dst)=some dg) (hc:gc (get ts dg) want=some C) (p:C=true->ar P ⟨some d,op,ty,pos,aJ,some (gi,want)⟩ ts ls h fx v ls h) (g:Nat.blt d n=true)
  (hr:aP P ops rest Q ⟨n,(d,v.under C)::ts,ls,h⟩):aP P ops (⟨some d,op,ty,pos,aJ,some (gi,want)⟩::rest) Q ⟨n,ts,ls,h⟩:=by
 intro j w jl a b f hk;have q:=E8 (o:=⟨some d,op,ty,pos,aJ,some (gi,want)⟩) (zQ hg) hc (b.tmps dg);refine wpList_step fun K i=>?_;rw [q];cases C with
 | true =>
  rw [if_pos rfl];refine(p rfl).step j w jl a b.hl (fun x _=>oQ b.tmps x) K f fun v0 l k cv j' w' r ⟨s,t,u⟩ hv hl hx m=>i _ _ ?_;have y:l=ls:=by rw [t]; cases fx.wl<;>rfl
  have z:k=h:=by rw [u]; cases fx.wh<;>rfl
  subst s y z;exact hr j' w' r _ (b.put m.toLe hx (dst:=some d) g (v:=_) (V.Ej hv) hl) f fun B E F G a2 hq H I=>hk B E F G a2 hq H (m.trans I)
 | false =>
  simp only [Bool.false_eq_true,if_false];exact i _ _ (hr j w jl _ (b.put (Le.refl _ _) (Ext.refl _) (dst:=some d) g (v:=v.under false) (V.Ek v) b.hl) f hk)
theorem au.gC {v:V}{done:List Fx}(hg:(ops[gi]?).bind (·.dst)=some dg) (hc:gc (get ts dg) want=some C) (l:C=true->ar P ⟨some d,op,ty,pos,aJ,some (gi,want)⟩ ts ls h fx v ls h) (m:Nat.blt d n=true)
  (hr:au P ops n rest (fx.plain::done) Q ⟨n,(d,v.under C)::ts,ls,h⟩):au P ops n (⟨some d,op,ty,pos,aJ,some (gi,want)⟩::rest) done Q ⟨n,ts,ls,h⟩:=by
 refine au.cons (fx:=fx) (v:=v.under C) (aM:=ls) (h':=h) ⟨m,fun L H i hH j w jl a hl k K Q hk=>?_⟩ (by cases fx with|mk a b c d e=>cases b<;>cases d<;>exact hr);have p:=E8 (o:=⟨some d,op,ty,pos,aJ,some (gi,want)⟩) (zQ hg) hc (k dg (Lo (zQ hg)));rw [p];cases C with
 | true =>
  rw [if_pos rfl];exact l rfl L H i hH j w jl a hl (Ep k) K Q fun _ _ _ cv j' w' q ⟨g,f,r⟩=>by subst g f r; exact fun hv=>hk cv j' w' q (V.Ej hv)
 | false =>
  simp only [Bool.false_eq_true,if_false];refine hk undef j w jl (V.Ek v) ?_ (Ext.refl _) ?_
  ·have g:(bif fx.wl then ls else L)=L:=by cases hw:fx.wl with
    | true=>exact(i (by rw [hw]; simp)).symm
    | false=>rfl
   have f:(bif fx.wh then h else H)=H:=by cases hw:fx.wh with
    | true=>exact(hH (by rw [hw]; simp)).symm
    | false=>rfl
   rw [g,f]; exact hl
  ·have f:(bif fx.wh then h else H)=H:=by cases hw:fx.wh with
    | true=>exact(hH (by rw [hw]; simp)).symm
    | false=>rfl
   rw [f]; exact bV.refl _ _ _
variable {dst:Option Tmp}{g:Option (Nat×Bool)}
theorem ar.Mi {c y z:Operand}{b r i:Bool}(hc:ev ts c=.a (.d (.bool b))) (m:ev ts y=.gd i (.d (.bool r))) (o:b=true->i=true) (p:ev ts z=.a (.d (.bool false))) :
  ar P (mk dst (.pick c y z) ty pos aJ g) ts ls h {} (.a (.d (.bool (b&&r)))) ls h :=
 ar.dH fun j w jl a f=>by
  have h1:=f c (by simp [Op.operands]);have k:=f y (by simp [Op.operands]);have l:=f z (by simp [Op.operands]);rw [hc] at h1; rw [m] at k; rw [p] at l;cases b with
  | true =>
   have q:bz j w jl (.a (.d (.bool r))) (a.eval y):=k.1 (o rfl);exact⟨.bool r,by simp [execOp,kX h1,kX q,asBool],by simp only [Bool.true_and]; exact aI.bool _⟩
  | false=>exact⟨.bool false,by simp [execOp,kX h1,kX l,asBool],by simp only [Bool.false_and]; exact aI.bool _⟩
theorem ar.Mj {c y z:Operand}{b r i:Bool}(hc:ev ts c=.a (.d (.bool b))) (m:ev ts y=.a (.d (.bool true))) (o:ev ts z=.gd i (.d (.bool r))) (p:b=false->i=true) :
  ar P (mk dst (.pick c y z) ty pos aJ g) ts ls h {} (.a (.d (.bool (b||r)))) ls h :=
 ar.dH fun j w jl a f=>by
  have h1:=f c (by simp [Op.operands]);have k:=f y (by simp [Op.operands]);have l:=f z (by simp [Op.operands]);rw [hc] at h1; rw [m] at k; rw [o] at l;cases b with
  | false =>
   have q:bz j w jl (.a (.d (.bool r))) (a.eval z):=l.1 (p rfl);exact⟨.bool r,by simp [execOp,kX h1,kX q,asBool],by simp only [Bool.false_or]; exact aI.bool _⟩
  | true=>exact⟨.bool true,by simp [execOp,kX h1,kX k,asBool],by simp only [Bool.true_or]; exact aI.bool _⟩
theorem gF {a b:Bool}(h:(a&&b)=true):a=true:=by cases a<;>simp_all
theorem zR {a b:Bool}(h:(a&&b)=true):b=true:=by cases a<;>simp_all
theorem wZ {b:Bool}(h:b=false):(!b)=true:=by simp [h]
theorem w6 {a b:Bool}(h:a=true) (h':b=true):(a&&b)=true:=by simp [h,h']
end
section
variable {P:Program}{Q:Exit->St->Prop}{σ:St}
theorem bF {id:Nat}(h:Q .ret σ):sG id Q .ret σ:=h
theorem bG {K:St->Prop}(h:Q .ret σ):jR K Q .ret σ:=h
theorem ah.ay {x y:Code}(h:∀K:St->Prop,(∀σ,ah P y Q σ->K σ)->ah P x (jR K Q) σ):ah P (.seq x y) Q σ:=ah.seq (h _ fun _ h=>h)
theorem ah.Mk {α:Type}{c:Code}(inv:α->St) (m:α->Nat) (pre:α->Prop) (g:α) (k:cq σ (inv g)) (h0:pre g)
  (hr:∀x,pre x->∀K:St->Prop,(∀b y,cq b (inv y)->pre y->m y<m x->K b)->ah P c (jR K Q) (inv x)):ah P (.loop c) Q σ:=by
 refine ah.qC k (ah.loop inv m pre g h0 fun x hx=>ah.post (ah.mono (hr x hx (fun b=>∃y,cq b (inv y)/\pre y/\m y<m x) fun b y h1 i j=>⟨y,h1,i,j⟩) ?_));intro e f hq;cases e with
 | normal=>obtain⟨y,h1,i,j⟩:=hq; exact⟨inv y,h1,y,rfl,i,j⟩
 | exit _=>exact⟨f,cq.refl _,hq⟩
 | goto _=>exact⟨f,cq.refl _,hq⟩
 | ret=>exact⟨f,cq.refl _,hq⟩
 | panic _=>exact⟨f,cq.refl _,hq⟩
 | outgrown=>exact⟨f,cq.refl _,hq⟩
theorem cq.Ml {n:Nat}{ts b:Ts}{ls aM:List (List D)}{h h':ai}(m:Nat) (hk:aS ts m b) (hl:ls.take m=aM) (hh:h=h'):cq ⟨n,ts,ls,h⟩ ⟨n,b,aM,h'⟩:=by
 subst hl hh; exact cq.keep m hk
def V.w8 (m:Nat):V->Bool
 | .cZ i _=>Nat.blt i m
 | .gr _ i _=>Nat.blt i m
 | _=>true
theorem aS.c {ts:Ts}{m:Nat}{k:Nat}{v:V}{r:Ts}(h:Ab.get ts k=v) (hv:v.w8 m=true) (t:aS ts m r):aS ts m ((k,v)::r) :=
 .cons h ⟨fun i off e=>by subst e; simpa [V.w8,Nat.blt_eq] using hv,fun c i off e=>by subst e; simpa [V.w8,Nat.blt_eq] using hv⟩ t
end
inductive fp (ts:Ts):Ts->Prop where
 | nil:fp ts []
 | cons {k:Nat}{v:V}{r:Ts}(h:Ab.get ts k=v) (t:fp ts r):fp ts ((k,v)::r)
inductive jr {α:Type}:List α->List α->Prop where
 | nil {l:List α}:jr [] l
 | cons {a:α}{l l':List α}(h:jr l l'):jr (a::l) (a::l')
theorem jr.take {α:Type}{l l':List α}(h:jr l l'):l'.take l.length=l:=by
 induction h with
 | nil=>simp
 | cons _ b=>simp [b]
theorem cq.to {n:Nat}{ts b:Ts}{ls aM:List (List D)}{h h':ai}(hk:aS ts aM.length b) (hl:jr aM ls) (hh:h=h'):cq ⟨n,ts,ls,h⟩ ⟨n,b,aM,h'⟩ :=
 cq.Ml aM.length hk hl.take hh
theorem cq.toF {n:Nat}{ts b:Ts}{ls aM:List (List D)}{h h':ai}(hk:aS ts aM.length b) (hl:jr aM ls) (hh:∀id o,h' id=some o->h id=some o):cq ⟨n,ts,ls,h⟩ ⟨n,b,aM,h'⟩ :=
 (cq.to hk hl rfl).trans (cq.forget hh)
section
variable {P:Program}{Q:Exit->St->Prop}{n:Nat}{hG ts:Ts}{ls:List (List D)}{h:ai}
theorem ah.gb {α:Type}{c:Code}(_:fp hG ts) (over:α->Ts) (lo:α->List (List D)) (hh:α->ai) (m:α->Nat) (pre:α->Prop) (b:α) (h0:pre b) (hi:cq ⟨n,hG,ls,h⟩ ⟨n,over b++ts,lo b,hh b⟩)
  (hr:∀x,pre x->∀K:St->Prop,(∀f y,cq f ⟨n,over y++ts,lo y,hh y⟩->pre y->m y<m x->K f)->ah P c (jR K Q) ⟨n,over x++ts,lo x,hh x⟩):ah P (.loop c) Q ⟨n,hG,ls,h⟩ :=
 ah.Mk (fun x=>⟨n,over x++ts,lo x,hh x⟩) m pre b hi h0 hr
theorem ah.eb {α:Type}{x y:Code}(_:fp hG ts) (over:α->Ts) (lo:α->List (List D)) (hh:α->ai) (pre:α->Prop)
  (hx:∀K:St->Prop,(∀b y,cq b ⟨n,over y++ts,lo y,hh y⟩->pre y->K b)->ah P x (jR K Q) ⟨n,hG,ls,h⟩) (i:∀z,pre z->ah P y Q ⟨n,over z++ts,lo z,hh z⟩):ah P (.seq x y) Q ⟨n,hG,ls,h⟩:=by
 refine ah.seq (ah.post (ah.mono (hx (fun b=>∃z,cq b ⟨n,over z++ts,lo z,hh z⟩/\pre z) fun b z h1 g=>⟨z,h1,g⟩) ?_));intro e f hq;cases e with
 | normal=>obtain⟨z,h1,g⟩:=hq; exact⟨_,h1,i z g⟩
 | exit _=>exact⟨f,cq.refl _,hq⟩
 | goto _=>exact⟨f,cq.refl _,hq⟩
 | ret=>exact⟨f,cq.refl _,hq⟩
 | panic _=>exact⟨f,cq.refl _,hq⟩
 | outgrown=>exact⟨f,cq.refl _,hq⟩
theorem ah.bA {α:Type}{c:Code}(_:fp hG ts) (over:α->Ts) (hh:α->ai) (m:α->Nat) (pre:α->Prop) (b:α) (h0:pre b) (hi:cq ⟨n,hG,ls,h⟩ ⟨n,over b++ts,ls,hh b⟩)
  (hr:∀x,pre x->∀K:St->Prop,(∀f y,cq f ⟨n,over y++ts,ls,hh y⟩->pre y->m y<m x->K f)->ah P c (jR K Q) ⟨n,over x++ts,ls,hh x⟩):ah P (.loop c) Q ⟨n,hG,ls,h⟩ :=
 ah.gb ‹_› over (fun _=>ls) hh m pre b h0 hi hr
theorem ah.aQ {α:Type}{x y:Code}(_:fp hG ts) (over:α->Ts) (hh:α->ai) (pre:α->Prop)
  (hx:∀K:St->Prop,(∀b y,cq b ⟨n,over y++ts,ls,hh y⟩->pre y->K b)->ah P x (jR K Q) ⟨n,hG,ls,h⟩) (f:∀z,pre z->ah P y Q ⟨n,over z++ts,ls,hh z⟩):ah P (.seq x y) Q ⟨n,hG,ls,h⟩ :=
 ah.eb ‹_› over (fun _=>ls) hh pre hx f
end
end Go.Ab
/-
 The program's data types (package api) as plain Lean types,and how each is laid out in cells.
-/
namespace Go.Ab
open Go Go.RowKit
variable {ax:bK}
abbrev uU:={ s:List UInt8 // s.length<=cS }
structure iK (α:Type) where
 nil:Bool
 l:List α
 ok:l.length<=cS
 nn:nil=true->l=[]
def iK.d {α:Type}(k:Nat) (f:α->List D) (s:iK α):D:=.slice k none s.nil (s.l.map f)
def Mm (s:uU):List D:=[.str s.1]
def Mn (n:Int):List D:=[.int .i64 n]
end Go.Ab
/-
 What the functions of package schema compute,in plain terms.
-/
namespace Go.Ab.o8
open Go Go.Ab
end Go.Ab.o8
/-
 Heaps in normal form; nil slices given a token where they are passed.
-/
namespace Go.Ab
open Go Go.RowKit
variable {ax:bK}
variable {fM:eN}
theorem ai.cm {h:ai}{i:Nat}{o:Option Obj}(hi:h i=none):∀id b,h id=some b->(h.set i o) id=some b:=by
 intro id b e; rw [ai.ct]; exact e;intro he; rw [he,hi] at e; cases e
inductive js (h:ai):A->A->Prop where
 | refl (x:A):js h x x
 | nil {k k' t:Nat}{o:Obj}(ht:h t=some o):js h (.d (.slice k none true [])) (.d (.slice k' (some t) true []))
 | w9 {k k':Nat}:js h (.d (.slice k none true [])) (.d (.slice k' none true []))
theorem js.rel {h:ai}{x y:A}(f:js h x y){j:J}{w:World}{v:Value}(hh:e9 j w h) (hx:de j w x v):de j w y v:=by
 cases f with
 | refl=>exact hx
 | @nil k k' t o ht =>
  have b:aI j w (.slice k none true []) v:=hx;cases b;exact aI.f_ _ _ fun g e=>by simp at e; subst e; exact(hh.obj _ _ ht).1
 | @w9 k k' =>
  have b:aI j w (.slice k none true []) v:=hx;cases b;exact aI.f_ _ _ fun g e=>by cases e
theorem AC.zS {P:Program}{f:FuncId}{xs g:List A}{h:ai}{cI:V->ai->Prop}(k:aY (js h) xs g) (hc:AC P f g h cI):AC P f xs h cI :=
 ⟨hc.enter,fun j w cT hh l=>hc.runs j w cT hh (by
  refine aY.jN (by rw [<- k.length,l.length]) fun i y v m hv=>?_;obtain⟨x,hx,o⟩:=k.get' m;obtain⟨p,b,hr⟩:=l.get hx;rw [hv] at b; simp at b; subst b;exact o.rel hh hr)⟩
theorem fc {id:Nat}{Q:Exit->St->Prop}{σ:St}(h:Q .normal σ):sG id Q (.exit id) σ:=by
 unfold sG; simpa using h
theorem fe {id:Nat}{K:St->Prop}{Q:Exit->St->Prop}{σ:St}(h:Q (.exit id) σ):jR K Q (.exit id) σ:=h
theorem ff {id:Nat}{Q:Exit->St->Prop}{σ:St}(h:Q .normal σ):sG id Q .normal σ:=h
theorem ah.tok {P:Program}{c:Code}{Q:Exit->St->Prop}{n:Nat}{ts:Ts}{ls:List (List D)}{h:ai}(k:Nat)
  (hw:∀t,h t=none->ah P c Q ⟨n,ts,ls,h.set t (some (.tok k 0))⟩):ah P c Q ⟨n,ts,ls,h⟩:=by
 intro j w jl a b;obtain⟨h1,f⟩:=b.hl.fG k;have g:=b.hl.1.nh (Nat.le_refl _);refine wp_mono (hw j.next g j.fG w jl a ⟨b.defers,b.size,fun i=>(b.tmps i).mono f.toLe (Ext.refl _),h1⟩) fun e a w hq=>AQ.trans f hq
theorem ah.fJ {P:Program}{c:Code}{Q:Exit->St->Prop}{n:Nat}{ts:Ts}{ls:List (List D)}{h:ai}(s k t:Nat){o:Obj}{f:Nat}(g:get ts s=.a (.d (.slice f none true []))) (ht:h t=some o)
  (hw:ah P c Q ⟨n,(s,.a (.d (.slice k (some t) true [])))::ts,ls,h⟩):ah P c Q ⟨n,ts,ls,h⟩:=by
 intro j w jl a b;refine hw j w jl a ⟨b.defers,b.size,fun i=>?_,b.hl⟩;by_cases e:s=i
 ·subst e;show bz _ _ _ (get ((s,_)::ts) s) _;rw [ga];have hv:bz j w jl (get ts s) (a.tmps.getD s undef):=b.tmps s;rw [g] at hv;exact(js.nil (k':=k) ht).rel b.hl.1 hv
 ·show bz _ _ _ (get ((s,_)::ts) i) _;rw [g_ _ _ e];exact b.tmps i
theorem ah.dU {P:Program}{c:Code}{Q:Exit->St->Prop}{n:Nat}{ts:Ts}{ls:List (List D)}{h:ai}(s:Nat){k:Nat}{tk:Option Nat}{nl:Bool}{rows:List (List D)}(g:get ts s=.a (.d (.slice k tk nl rows)))
  (hw:ah P c Q ⟨n,(s,.a (.d (.slice k none nl rows)))::ts,ls,h⟩):ah P c Q ⟨n,ts,ls,h⟩:=by
 intro j w jl a b;refine hw j w jl a ⟨b.defers,b.size,fun i=>?_,b.hl⟩;by_cases e:s=i
 ·subst e;show bz _ _ _ (get ((s,_)::ts) s) _;rw [ga];have hv:bz j w jl (get ts s) (a.tmps.getD s undef):=b.tmps s;rw [g] at hv;have f:aI j w (.slice k tk nl rows) (a.tmps.getD s undef):=hv;generalize a.tmps.getD s undef=x at f ⊢;cases f with
  | f_=>exact aI.f_ _ _ fun t e=>by cases e
  | slice _ _ _ a cap cv hk hn hc bR hr ht=>exact aI.slice _ _ _ a cap cv hk hn hc bR hr fun t e=>by cases e
 ·show bz _ _ _ (get ((s,_)::ts) i) _;rw [g_ _ _ e];exact b.tmps i
theorem bn.bH {T:List TI}{rs:List ResultVar}{cI:V->ai->Prop}{σ:St}{xs:List A}(h':ai) (h:nr T σ rs=some xs) (b:cI (kW xs) h') (f:∀id o,h' id=some o->σ.h id=some o):bn T rs cI .ret σ:=⟨.inr rfl,xs,h',h,f,b⟩
theorem bn.fq {T:List TI}{rs:List ResultVar}{cI:V->ai->Prop}{σ:St}{xs:List A}(h':ai) (h:nr T σ rs=some xs) (b:cI (kW xs) h') (f:∀id o,h' id=some o->σ.h id=some o):bn T rs cI .normal σ:=⟨.inl rfl,xs,h',h,f,b⟩
section
variable {P:Program}{dst:Option Tmp}{ty:TypeId}{pos:String}{aJ:Array Edge}{g:Option (Nat×Bool)}{ts:Ts}{ls:List (List D)}{h:ai}
end
def bf (l:List (List UInt8)):List (D×A):=l.map fun s=>(.str s,.d (.bool true))
def b7 (l:List (List UInt8)) (s:List UInt8):List (List UInt8):=if l.contains s then l else l++[s]
theorem Mo (l:List (List UInt8)) (s:List UInt8):nv (.str s) (bf l)=some (if l.contains s then some (.d (.bool true)) else none):=by
 induction l with
 | nil=>rfl
 | cons x r b =>
  simp only [bf,List.map_cons,nv,sQ,List.contains_cons];by_cases e:s=x
  ·subst e; simp
  ·have f:(s==x)=false:=by simpa using e
   have g:(x==s)=false:=by simpa using fun h=>e h.symm
   simp only [f,g,Bool.false_or]; exact b
theorem o9 (l:List (List UInt8)) (s:List UInt8):qG (.str s) (.d (.bool true)) (bf l)=some (bf (b7 l s)):=by
 induction l with
 | nil=>rfl
 | cons x r f =>
  simp only [bf,List.map_cons,qG,sQ,b7,List.contains_cons];by_cases e:s=x
  ·subst e; simp
  ·have g:(s==x)=false:=by simpa using e
   have i:(x==s)=false:=by simpa using fun h=>e h.symm
   have b:=f;simp only [bf,b7] at b;simp only [g,i,Bool.false_or,b]
   split<;>simp_all
section
variable {P:Program}{dst:Option Tmp}{ty:TypeId}{pos:String}{aJ:Array Edge}{g:Option (Nat×Bool)}{ts:Ts}{ls:List (List D)}{h:ai}
theorem ar.qI {t b f:TypeId}{i j m:TI}{x y:Operand}{id:Nat}{l:List (List UInt8)}{s:List UInt8}(o:aU P t=some i) (hk:i.k=.map b f) (p:aU P b=some j) (u:aU P f=some m) (v:m.zero=some (.d (.bool false)))
  (hx:ev ts x=.a (.d (.map id))) (q:ev ts y=.a (.d (.str s))) (r:gM j.k (.str s)=true) (hm:h id=some (.map (bf l))):ar P (mk dst (.lookup t x y false) ty pos aJ g) ts ls h { rh:=true } (.a (.d (.bool (l.contains s)))) ls h:=by
 have h1:=Mo l s;cases hc:l.contains s with
 | true=>rw [hc] at h1; exact ar.Md o hk p hx q r hm h1
 | false=>rw [hc] at h1; exact ar.Me o hk p u v hx q r hm h1
end
end Go.Ab
/-
 Variables that turn no more: a box that is only read,and a local that becomes data.
-/
namespace Go.Ab
open Go Go.RowKit
variable {ax:bK}
variable {fM:eN}
theorem zT {j:J}{w:World}{b:Nat}{xs:List D}{cs:List Value}{e:TypeId}{n:Nat}(hh:w.heap[b]?=some (.cells cs.toArray e (0,0))) (hx:aY (aI j w) xs cs) (g:xs.length<=j.F b) :
  aI j w (.view xs) (.pointer (some ⟨b,0,none⟩)):=by
 refine aI.view xs _ (fun i=>cs.getD i default) ⟨rfl,fun i hi=>?_⟩ fun i hi=>?_
 ·have f:i<cs.length:=hx.length▸hi;refine⟨by show 0+i<j.F b; omega, ?_⟩;show w.cell? ⟨b,0+i,none⟩=_;rw [Nat.zero_add,cell_of_row w b i cs.toArray e (0,0) hh];simp [f]
 ·obtain⟨v,hv,hr⟩:=hx.get (List.getElem?_eq_getElem hi);have:cs.getD i default=v:=by rw [List.getD_eq_getElem?_getD,hv]; rfl
  rw [this]; exact hr
section
variable {P:Program}{dst:Option Tmp}{ty:TypeId}{pos:String}{aJ:Array Edge}{g:Option (Nat×Bool)}{ts:Ts}{ls:List (List D)}{h:ai}
theorem ar.Mp {e:TypeId}{x:Operand}{y:A}(hx:ev ts x=.a y):ar P (mk dst (.box e x) ty pos aJ g) ts ls h {} (.a (.d (.view (cD y)))) ls h:=by
 refine ar.of_run fun L H _ _ j w jl a hl f=>?_;have h1:=f x (by simp [Op.operands]);rw [hx] at h1;have i:de j w y (a.eval x):=h1;obtain⟨k,b⟩:=hl.data (.cells (a.eval x).cells e) (cD y).length;refine⟨.value (.pointer (some ⟨w.heap.size,0,none⟩)),_,.pointer (some ⟨w.heap.size,0,none⟩),j.eP w.heap.size (cD y).length,jl,by simp [execOp,Instr.box,newVar,newRow],.inl rfl, ?_,k,Ext.refl _,b⟩
 refine zT (n:=0) (cs:=(a.eval x).cells.toList) (e:=e) ?_ (i.cells.imp fun _ _ h=>h.mono b.toLe) (by simp [J.eP]);rw [Array.toArray_toList]; exact heap_alloc_new w _
variable {c:Code}{Q:Exit->St->Prop}{n:Nat}
theorem cq.freeze {g:Ts}{aM:List (List D)}{xs:List D}(s i:Nat) (H:get ts s=.cZ i 0) (hl:bL xs aM i ls) (hk:aS ts i g):cq ⟨n,ts,ls,h⟩ ⟨n,(s,.a (.d (.view xs)))::g,aM,h⟩:=by
 obtain⟨hi,e⟩:=hl.spec;subst hi e;intro j w jl a f;have l:=f.hl;obtain⟨b,p,r⟩:∃b,jl[aM.length]?=some b/\a.tmps.getD s undef=.pointer (some ⟨b,0,none⟩):=by
  have:=f.tmps s;have this:bz j w jl (get ts s) (a.tmps.getD s undef):=this;rw [H] at this; exact this
 obtain⟨xs',B,cs,S,C,I,K⟩:∃xs',(aM++[xs])[aM.length]?=some xs'/\kS j w b xs':=l.2.each.get' p;simp at B; subst B;have bw:=ji C;have E:=l.trim (ax:=ax) aM.length;rw [List.take_left' rfl] at E;have L:b∉jl.take aM.length:=by
  intro hm;obtain⟨k,M,q⟩:=List.getElem_of_mem hm;rw [List.length_take] at M;have h1:jl[k]?=some b:=by rw [<- q,List.getElem_take]; exact List.getElem?_eq_getElem _
  have G:=(List.getElem?_inj (by omega) l.2.nodup).1 (h1.trans p.symm);omega
 have N:¬aV j h (jl.take aM.length) b:=by
  rintro (hm|⟨id,o,h1,G⟩)
  ·exact L hm
  ·exact l.2.apart b (List.mem_of_getElem? p) (.inr ⟨id,o,h1,G⟩)
 have hle:Le j w (j.eP b xs.length) w:=⟨Nat.le_refl _,fun _ _=>rfl,fun b'=>by
  simp only [J.eP]
  split
  ·rename_i e; rw [e,K]; exact Nat.zero_le _
  ·exact Nat.le_refl _,fun _ _ _=>rfl,fun _ _=>.inl rfl⟩
 have t:∀b',b'≠b->(j.eP b xs.length).F b'=j.F b':=fun b' O=>by simp only [J.eP]; rw [if_neg O]
 have q:=E.1.keep hle (fun b' m=>⟨rfl,t b' (fun e=>N (e▸m))⟩) (fun _ _ _=>rfl) (fun b' P=>by rw [t b' (by omega)]; exact l.1.fresh b' P);refine⟨j.eP b xs.length,jl.take aM.length,⟨f.defers,f.size,fun k=>?_,q.1⟩, ?_⟩
 ·by_cases e:s=k
  ·subst e;show bz _ _ _ (get ((s,_)::g) s) _;rw [ga];have r:a.tmps.getD s undef=.pointer (some ⟨b,0,none⟩):=r;rw [r];exact zT (n:=0) C (I.imp fun _ _ h=>h.mono hle) (by simp [J.eP])
  ·show bz _ _ _ (get ((s,_)::g) k) _;rw [g_ _ _ e];obtain⟨U,W,X,_⟩:=cq.keep (ax:=ax) (n:=n) (ls:=aM++[xs]) (h:=h) aM.length hk j w jl a f;have hv:bz j w jl (get ts k) (a.tmps.getD k undef):=f.tmps k;rcases hk.get k with u|⟨u,Q,R⟩
   ·rw [u]; trivial
   ·rw [<- u] at hv;cases hx:get g k with
    | any=>trivial
    | a x=>rw [hx] at hv; exact de.mono hle hv
    | cZ i off =>
     rw [hx] at hv;obtain⟨v,y,z⟩:=hv;exact⟨v,by rw [List.getElem?_take_of_lt (Q i off hx)]; exact y,z⟩
    | cF xs=>rw [hx] at hv; obtain⟨cs,e,hh⟩:=hv; exact⟨cs,e,hh.imp fun _ _ h=>h.mono hle⟩
    | gd c x=>rw [hx] at hv; exact⟨fun hc=>de.mono hle (hv.1 hc),hv.2⟩
    | full k rows=>rw [hx] at hv; exact⟨aI.mono hle hv.1,hv.2⟩
    | qx c k rows=>rw [hx] at hv; exact⟨fun hc=>⟨aI.mono hle (hv.1 hc).1,(hv.1 hc).2⟩,hv.2⟩
    | gr c i off =>
     rw [hx] at hv;refine⟨fun hc=>?_,hv.2⟩;obtain⟨v,y,z⟩:=hv.1 hc;exact⟨v,by rw [List.getElem?_take_of_lt (R c i off hx)]; exact y,z⟩
 ·refine { toLe:=hle,size:=Nat.le_refl _,frame:=fun b' _ m=>⟨rfl,t b' fun e=>m (.inl (e▸List.mem_of_getElem? p))⟩,own:=fun b' _ m=>?_,os:=rfl,tape:=rfl,output:=fS.rfl };rcases (q.2 b').1 m with hm|hm
  ·exact .inl (List.mem_of_mem_take hm)
  ·exact .inr hm
theorem ah.freeze {b:Ts}{aM:List (List D)}{xs:List D}(s i:Nat) (f:get ts s=.cZ i 0) (hl:bL xs aM i ls) (hk:aS ts i b) (hw:ah P c Q ⟨n,(s,.a (.d (.view xs)))::b,aM,h⟩):ah P c Q ⟨n,ts,ls,h⟩ :=
 ah.qC (cq.freeze s i f hl hk) hw
end
theorem E9 {k:Nat}{tk:Option Nat}{nl:Bool}{rows:List (List D)}(j:J) (w:World) (cv:Value) (h:bz j w [] (.a (.d (.slice k tk nl rows))) cv):bz j w [] (.a (.d (.slice k none nl rows))) cv:=by
 have h':aI j w (.slice k tk nl rows) cv:=h;cases h' with
 | f_=>exact aI.f_ _ _ fun t e=>by cases e
 | slice _ _ _ a cap cv hk hn hc bR hr ht=>exact aI.slice _ _ _ a cap cv hk hn hc bR hr fun t e=>by cases e
end Go.Ab
/-
 Names and violations in plain terms; the reference's functions of layer 10.
-/
namespace Go.Ab.o8
open Go Go.Ab
end Go.Ab.o8
/-
 Layer 10: input types that contain themselves,plainly: the reference's list and what can be reached.
-/
namespace Go.Ab.o8
open Go Go.Ab
end Go.Ab.o8
/-
 The checker of package schema as an object.
-/
namespace Go.Ab
open Go Go.RowKit
variable {ax:bK}
variable {fM:eN}
theorem aV.iL {j:J}{h:ai}{c:Nat}{xs g:List D}(hc:h c=some (.cells xs)){jl:List Nat}{b:Nat}:aV j (h.set c (some (.cells g))) jl b↔aV j h jl b:=by
 constructor
 ·rintro (h1|⟨id,o,h1,f⟩)
  ·exact .inl h1
  ·by_cases e:id=c
   ·subst e; rw [ai.cN] at h1; simp only [Option.some.injEq] at h1; subst h1;exact .inr ⟨id,_,hc,f⟩
   ·rw [ai.ct _ _ e] at h1; exact .inr ⟨id,o,h1,f⟩
 ·rintro (h1|⟨id,o,h1,f⟩)
  ·exact .inl h1
  ·by_cases e:id=c
   ·subst e; rw [hc] at h1; simp only [Option.some.injEq] at h1; subst h1;exact .inr ⟨id,_,ai.cN _ _ _,f⟩
   ·exact .inr ⟨id,o,by rw [ai.ct _ _ e]; exact h1,f⟩
theorem e9.iL {j:J}{w:World}{h:ai}{c:Nat}{xs g:List D}(hr:e9 j w h) (hc:h c=some (.cells xs)) (k:∀cs,aY (aI j w) xs cs->aY (aI j w) g cs):e9 j w (h.set c (some (.cells g))):=by
 have key:∀id o,(h.set c (some (.cells g))) id=some o->∃o',h id=some o'/\bS j id o=bS j id o':=by
  intro id o f;by_cases e:id=c
  ·subst e; rw [ai.cN] at f; simp only [Option.some.injEq] at f; subst f;exact⟨_,hc,rfl⟩
  ·rw [ai.ct _ _ e] at f; exact⟨o,f,rfl⟩
 refine⟨fun id o f=>?_,fun jg o1 jh o2 b h1 i l m=>?_,hr.fresh⟩
 ·by_cases e:id=c
  ·subst e; rw [ai.cN] at f; simp only [Option.some.injEq] at f; subst f;obtain⟨hn,cs,p,h1,i,q⟩:=hr.obj _ _ hc;exact⟨hn,cs,p,h1,k _ i,q⟩
  ·rw [ai.ct _ _ e] at f; exact hr.obj _ _ f
 ·obtain⟨v,r,s⟩:=key _ _ h1;obtain⟨x,t,u⟩:=key _ _ i;exact hr.inj _ _ _ _ b r t (s▸l) (u▸m)
theorem ah.iL {P:Program}{c:Code}{Q:Exit->St->Prop}{n:Nat}{ts:Ts}{ls:List (List D)}{h:ai}(id:Nat){xs:List D}(i:List D) (hc:h id=some (.cells xs)) (k:∀j w cs,e9 j w h->aY (aI j w) xs cs->aY (aI j w) i cs)
  (hw:ah P c Q ⟨n,ts,ls,h.set id (some (.cells i))⟩):ah P c Q ⟨n,ts,ls,h⟩:=by
 intro j w jl a f;have hl:=f.hl;refine wp_mono (hw j w jl a ⟨f.defers,f.size,f.tmps,⟨hl.1.iL hc (k j w · hl.1),⟨hl.2.each,hl.2.nodup,fun b l g=>hl.2.apart b l ((aV.iL hc).1 g)⟩⟩⟩) fun e a w hq=>AQ.trans ?_ hq;exact { bV.refl j _ (aV j h jl) with own:=fun b _ g=>(aV.iL hc).1 g }
theorem ah.cU {P:Program}{c:Code}{Q:Exit->St->Prop}{n:Nat}{ts:Ts}{ls:List (List D)}{h:ai}(i:Nat){xs:List D}(l:List D) (hc:ls[i]?=some xs) (o:∀j w cs,e9 j w h->aY (aI j w) xs cs->aY (aI j w) l cs)
  (hw:ah P c Q ⟨n,ts,ls.set i l,h⟩):ah P c Q ⟨n,ts,ls,h⟩:=by
 intro j w jl a g;have hl:=g.hl;have p:aY (fun xs b=>kS j w b xs) (ls.set i l) jl:=by
  refine aY.jN (by rw [List.length_set,hl.2.each.length]) fun k x b hx m=>?_;rw [List.getElem?_set] at hx
  split at hx
  ·rename_i e
   subst e
   split at hx
   ·simp only [Option.some.injEq] at hx; subst hx;obtain⟨b',f,cs,q,h1,r,s⟩:=hl.2.each.get hc;rw [m] at f; simp only [Option.some.injEq] at f; subst f;exact⟨cs,q,h1,o j w _ hl.1 r,s⟩
   ·cases hx
  ·obtain⟨b',f,h1⟩:=hl.2.each.get hx;rw [m] at f; simp only [Option.some.injEq] at f; subst f;exact h1
 exact hw j w jl a ⟨g.defers,g.size,g.tmps,⟨hl.1,⟨p,hl.2.nodup,hl.2.apart⟩⟩⟩
end Go.Ab
namespace Go.Ab.o8
open Go Go.Ab
end Go.Ab.o8
/-
 Models: functions that may have no answer; the rules by which a walk follows its function's model.
-/
namespace Go.Ab
open Go Go.RowKit
variable {ax:bK}
variable {fM:eN}
structure Sl (α:Type) where
 nl:Bool
 l:List α
abbrev Bs:=List UInt8
def Sl.d {α:Type}(k:Nat) (f:α->List D) (t:Option Nat) (s:Sl α):D:=.slice k t s.nl (s.l.map f)
def Sl.nil {α:Type}:Sl α:=⟨true,[]⟩
def aO (s:Bs):List D:=[.str s]
def sU (b:Bool):List D:=[.bool b]
def bC (k:IntKind) (n:Int):List D:=[.int k n]
def cG (a b:Int):Option Int:=if -9223372036854775808<=a+b/\a+b<=9223372036854775807 then some (a+b) else none
def qJ (a b:Int):Option Int:=if -9223372036854775808<=a-b/\a-b<=9223372036854775807 then some (a-b) else none
def dh {α:Type}(l:List α) (n:Int):Option α:=if 0<=n then l[n.toNat]? else none
def bM (a b:Bs):Option Bs:=if a.length+b.length<=eW then some (a++b) else none
def aW {α:Type}(z:Nat) (s r:Sl α):Option (Sl α):=if (s.l.length+r.l.length)*z<=cS/\s.l.length+r.l.length<=cS then some ⟨s.nl&&r.l.isEmpty,s.l++r.l⟩ else none
def nw {α:Type}(s:Sl α) (lo hi:Option Int):Option (Sl α) :=
 if 0<=lo.getD 0/\lo.getD 0<=hi.getD s.l.length/\hi.getD s.l.length<=s.l.length then some ⟨s.nl,(s.l.take (hi.getD s.l.length).toNat).drop (lo.getD 0).toNat⟩ else none
def w_ (s:Bs) (lo hi:Option Int):Option Bs :=
 if 0<=lo.getD 0/\lo.getD 0<=hi.getD s.length/\hi.getD s.length<=s.length then some ((s.take (hi.getD s.length).toNat).drop (lo.getD 0).toNat) else none
def aR {α β:Type}(c:Bool) (o:Option α) (d:α) (k:α->Option β):Option β:=if c=true then o.bind k else k d
theorem Mq {a b x:Int}(h:cG a b=some x):x=a+b /\ -9223372036854775808<=a+b/\a+b<=9223372036854775807:=by
 unfold cG at h; split at h
 ·rename_i f; simp at h; exact⟨h.symm,f⟩
 ·cases h
theorem Mr {a b x:Int}(h:qJ a b=some x):x=a-b /\ -9223372036854775808<=a-b/\a-b<=9223372036854775807:=by
 unfold qJ at h; split at h
 ·rename_i f; simp at h; exact⟨h.symm,f⟩
 ·cases h
theorem E_ {α:Type}{l:List α}{n:Int}{x:α}(h:dh l n=some x):0<=n/\l[n.toNat]?=some x:=by
 unfold dh at h; split at h
 ·rename_i b; exact⟨b,h⟩
 ·cases h
theorem Ms {a b x:Bs}(h:bM a b=some x):x=a++b/\a.length+b.length<=eW:=by
 unfold bM at h; split at h
 ·rename_i f; simp at h; exact⟨h.symm,f⟩
 ·cases h
theorem Fa {α:Type}{z:Nat}{s r x:Sl α}(h:aW z s r=some x):x=⟨s.nl&&r.l.isEmpty,s.l++r.l⟩/\(s.l.length+r.l.length)*z<=cS/\s.l.length+r.l.length<=cS:=by
 unfold aW at h; split at h
 ·rename_i b; simp only [Option.some.injEq] at h; exact⟨h.symm,b⟩
 ·cases h
theorem Fb {α β:Type}{c:Bool}{o:Option α}{d:α}{k:α->Option β}{r:β}(h:aR c o d k=some r):∃x,(c=true->o=some x)/\k x=some r:=by
 unfold aR at h; split at h
 ·obtain⟨x,h1,b⟩:=Option.bind_eq_some_iff.1 h; exact⟨x,fun _=>h1,b⟩
 ·rename_i b; exact⟨d,fun e=>absurd e b,h⟩
theorem bx {α β:Type}{o:Option α}{k:α->Option β}{r:β}(h:o.bind k=some r):∃x,o=some x/\k x=some r:=Option.bind_eq_some_iff.1 h
theorem kZ {α:Type}{c:Bool}{A B:Option α}{r:α}(hc:c=true) (h:(bif c then A else B)=some r):A=some r:=by subst hc; exact h
theorem zU {α:Type}{c:Bool}{A B:Option α}{r:α}(hc:c=false) (h:(bif c then A else B)=some r):B=some r:=by subst hc; exact h
section
variable {P:Program}{dst:Option Tmp}{ty:TypeId}{pos:String}{aJ:Array Edge}{g:Option (Nat×Bool)}{ts:Ts}{ls:List (List D)}{h:ai}{α:Type}{f:α->List D}
theorem ar.cK {t e:TypeId}{b:TI}{x:Operand}{cA:Array TypeId}{k:Nat}{tok:Option Nat}{s:Sl α}(i:aU P t=some b) (hk:b.k=.slice e) (bR:cA[0]?=some t)
  (hx:ev ts x=.a (.d (s.d k f tok))):ar P (mk dst (.call { callee:=.builtin .len,args:=#[x],argTypes:=cA }) ty pos aJ g) ts ls h {} (.a (.d (.int .i64 (s.l.length:Int)))) ls h:=by
 have:=ar.LS (ax:=ax) (P:=P) (dst:=dst) (ty:=ty) (pos:=pos) (aJ:=aJ) (g:=g) (ls:=ls) (h:=h) i hk bR hx
 rwa [List.length_map] at this
theorem ar.jS {t e:TypeId}{b i:TI}{x ix:Operand}{tok:Option Nat}{s:Sl α}{j:IntKind}{n:Int}{y:α}{k:Nat}(m:aU P t=some b) (hk:b.k=.slice e) (o:aU P e=some i)
  (hx:ev ts x=.a (.d (s.d k f tok))) (hi:ev ts ix=.a (.d (.int j n))) (p:k=i.size) (hr:dh s.l n=some y) :
  ar P (mk dst (.indexAddr t x ix) ty pos aJ g) ts ls h {} (.a (.d (.view (f y)))) ls h:=by
 obtain⟨h1,q⟩:=E_ hr;exact ar.EN m hk o hx hi p h1 (by rw [List.getElem?_map,q]; rfl)
theorem ar.ee {t e:TypeId}{b i:TI}{x ix:Operand}{tok:Option Nat}{s:Sl α}{j:IntKind}{n:Nat}{y:α}{k:Nat}(m:aU P t=some b) (hk:b.k=.slice e) (o:aU P e=some i)
  (hx:ev ts x=.a (.d (s.d k f tok))) (hi:ev ts ix=.a (.d (.int j (n:Int)))) (p:k=i.size) (hr:s.l[n]?=some y) :
  ar P (mk dst (.indexAddr t x ix) ty pos aJ g) ts ls h {} (.a (.d (.view (f y)))) ls h :=
 ar.EN m hk o hx hi p (by omega) (by rw [Int.toNat_natCast,List.getElem?_map,hr]; rfl)
theorem ar.qK {t:TypeId}{b:TI}{x ix:Operand}{s:Bs}{f:IntKind}{n:Nat}{c:UInt8}(i:aU P t=some b) (hk:b.k=.str) (hx:ev ts x=.a (.d (.str s))) (hi:ev ts ix=.a (.d (.int f (n:Int)))) (hr:s[n]?=some c) :
  ar P (mk dst (.index t x ix) ty pos aJ g) ts ls h {} (.a (.d (.int .u8 (c.toNat:Int)))) ls h :=
 ar.LU i hk hx hi (by omega) (by rw [Int.toNat_natCast]; exact hr)
theorem ar.eR {t u:TypeId}{x y:Operand}{m n r:Int}(hx:ev ts x=.a (.d (.int .i64 m))) (b:ev ts y=.a (.d (.int .i64 n))) (hr:cG m n=some r):ar P (mk dst (.binOp .add t x y u) ty pos aJ g) ts ls h {} (.a (.d (.int .i64 r))) ls h:=by
 obtain⟨e,h1,f⟩:=Mq hr;subst e; exact ar.EP hx b h1 f
theorem ar.Fc {t u:TypeId}{x y:Operand}{m n r:Int}(hx:ev ts x=.a (.d (.int .i64 m))) (b:ev ts y=.a (.d (.int .i64 n))) (hr:qJ m n=some r):ar P (mk dst (.binOp .sub t x y u) ty pos aJ g) ts ls h {} (.a (.d (.int .i64 r))) ls h:=by
 obtain⟨e,h1,f⟩:=Mr hr;subst e; exact ar.LM hx b h1 f
theorem ar.cL {t u:TypeId}{x y:Operand}{a b r:Bs}(hx:ev ts x=.a (.d (.str a))) (f:ev ts y=.a (.d (.str b))) (hr:bM a b=some r):ar P (mk dst (.binOp .add t x y u) ty pos aJ g) ts ls h {} (.a (.d (.str r))) ls h:=by
 obtain⟨e,h1⟩:=Ms hr;subst e; exact ar.concat hx f h1
theorem ar.Mt {t e:TypeId}{u y:TI}{x:Operand}{lo hi:Option Operand}{k:Nat}{tok:Option Nat}{nl:Bool}{rows:List (List D)}{l r:Nat}(z:aU P t=some u) (hk:u.k=.slice e) (B:aU P e=some y)
  (hx:ev ts x=.a (.d (.slice k tok nl rows))) (G:k=y.size)
  (C:match lo with|none=>l=0|some o=>∃f n,ev ts o=.a (.d (.int f n))/\0<=n/\l=n.toNat) (E:match hi with|none=>r=rows.length|some o=>∃f n,ev ts o=.a (.d (.int f n))/\0<=n/\r=n.toNat)
  (H:l<=r) (i:r<=rows.length):ar P (mk dst (.slice t x lo hi none) ty pos aJ g) ts ls h {} (.a (.d (.slice k none nl ((rows.take r).drop l)))) ls h:=by
 cases nl with
 | false=>exact ar.part z hk B hx G C E H i
 | true =>
  refine ar.dH fun j w jl act m=>?_;have h1:=m x (by simp [Op.operands]);rw [hx] at h1;obtain⟨b,cap,F,hn,hc,I,J,N,O⟩:=oZ h1;cases b with
  | some b=>simp at I
  | none =>
   obtain⟨rfl,rfl⟩:=J rfl;simp only [List.length_nil,Nat.le_zero] at i;subst i;have K:l=0:=by omega
   subst K;have L:(match lo.map act.eval with|some v=>Instr.sliceBound v 0 .sliceB|none=>pure 0).run P w=.ok 0 w:=by
    cases lo with
    | none=>simp
    | some o =>
     obtain⟨f,n,p,q,s⟩:=C;have:=o3 (P:=P) (cap:=0) p (m o (by simp [Op.operands])) q (by omega) .sliceB;simp only [Option.map_some]; rw [this,<- s]
   have M:(match hi.map act.eval with|some v=>Instr.sliceBound v 0 .sliceAcap|none=>pure ([]:List (List D)).length).run P w=.ok 0 w:=by
    cases hi with
    | none=>simp
    | some o =>
     obtain⟨f,n,p,q,s⟩:=E;have:=o3 (P:=P) (cap:=0) p (m o (by simp [Op.operands])) q (by omega) .sliceAcap;simp only [Option.map_some]; rw [this,<- s]
   refine⟨.slice none 0 0, ?_,aI.f_ _ _ (by simp)⟩;have:=E4 z hk B (a:=none) (len:=0) (cap:=0) L M;simp only [List.length_nil] at F;simp only [execOp,Sem.run_bind,F,Option.map_none,this,Result.andThen,Sem.run_pure];simp
theorem ar.mm {t e:TypeId}{j m:TI}{x:Operand}{lo hi:Option Operand}{l r:Option Int}{k:Nat}{tok:Option Nat}{s y:Sl α}(p:aU P t=some j) (hk:j.k=.slice e) (q:aU P e=some m)
  (hx:ev ts x=.a (.d (s.d k f tok))) (u:k=m.size)
  (b:match lo,l with|none,none=>True|some o,some n=>ev ts o=.a (.d (.int .i64 n))|_,_=>False) (i:match hi,r with|none,none=>True|some o,some n=>ev ts o=.a (.d (.int .i64 n))|_,_=>False)
  (hr:nw s l r=some y):ar P (mk dst (.slice t x lo hi none) ty pos aJ g) ts ls h {} (.a (.d (y.d k f none))) ls h:=by
 unfold nw at hr
 split at hr
 ·rename_i hc
  simp only [Option.some.injEq] at hr;have:=ar.Mt (ax:=ax) (P:=P) (dst:=dst) (ty:=ty) (pos:=pos) (aJ:=aJ) (g:=g) (ls:=ls) (h:=h) (l:=(l.getD 0).toNat) (r:=(r.getD s.l.length).toNat) p hk q (lo:=lo) (hi:=hi) hx u
   (by cases lo with
     | none=>cases l with
      | none=>rfl
      | some n=>exact b.elim
     | some o=>cases l with
      | none=>exact b.elim
      | some n=>exact⟨_,n,b,hc.1,rfl⟩)
   (by cases hi with
     | none=>cases r with
      | none=>simp
      | some n=>exact i.elim
     | some o=>cases r with
      | none=>exact i.elim
      | some n=>exact⟨_,n,i,Int.le_trans hc.1 hc.2.1,rfl⟩) (by omega) (by simp; omega)
  rw [<- List.map_take,<- List.map_drop] at this;rw [<- hr]; exact this
 ·cases hr
theorem ar.jU {t u e:TypeId}{j o b:TI}{x y:Operand}{tk k k' m:Nat}{tok':Option Nat}{s r v:Sl α}{z:A}(p:aU P t=some j) (hk:j.k=.slice e) (q:aU P e=some b) (w:aU P u=some o) (B:∃e,o.k=.slice e)
  (C:b.zero=some z) (E:(cD z).length=b.size) (F:b.size≠0) (hx:ev ts x=.a (.d (s.d k f (some tk)))) (G:ev ts y=.a (.d (r.d k' f tok'))) (i:k=b.size) (H:k'=b.size)
  (I:h tk=some (.tok b.size m)) (hm:m=s.l.length) (hr:aW b.bytes s r=some v) :
  ar P (mk dst (.call { callee:=.builtin .append,args:=#[x,y],argTypes:=#[t,u] }) ty pos aJ g) ts ls h { rh:=true,wh:=true } (.a (.d (v.d k f (some tk)))) ls (h.set tk (some (.tok b.size v.l.length))):=by
 obtain⟨e,h1,J⟩:=Fa hr;subst e;have:=ar.append (ax:=ax) (P:=P) (dst:=dst) (ty:=ty) (pos:=pos) (aJ:=aJ) (g:=g) (ls:=ls) p hk q w (.inl B) C E F hx G (.inl i) (.inl H) I (by rw [hm]; simp) (by simpa using h1) (by simpa using J);simp only [List.length_map,List.length_append] at this ⊢;rw [<- List.map_append,List.isEmpty_map,<- i] at this;rw [<- i];exact this
end
section
variable {P:Program}{dst:Option Tmp}{ty:TypeId}{pos:String}{aJ:Array Edge}{g:Option (Nat×Bool)}{ts:Ts}{ls:List (List D)}{h:ai}{α:Type}{f:α->List D}
theorem Mu {k k':Nat}(j:J) (w:World) (cv:Value) (h:bz j w [] (.a (.d (.slice k none true []))) cv):bz j w [] (.a (.d (.slice k' none true []))) cv:=by
 have h':aI j w (.slice k none true []) cv:=h;cases h';exact aI.f_ _ _ fun t e=>by cases e
theorem ar.dR {x:Operand}{k k':Nat}(hx:ev ts x=.a (.d (.slice k none true []))):ar P (mk dst (.assign x) ty pos aJ g) ts ls h {} (.a (.d (.slice k' none true []))) ls h :=
 (ar.assign hx).E1 fun j w _ cv h=>Mu j w cv h
theorem ar.Mw {t u e:TypeId}{F B b:TI}{s:Nat}{y:Operand}{k k':Nat}{tok':Option Nat}{G:Bool}{rows bX:List (List D)}{z:A}(R:aU P t=some F) (S:F.k=.slice e) (U:aU P e=some b) (W:aU P u=some B) (X:(∃e,B.k=.slice e)\/B.k=.str)
  (Y:b.zero=some z) (Z:(cD z).length=b.size) (aa:b.size≠0) (hx:get ts s=.full k rows) (C:ev ts y=.a (.d (.slice k' tok' G bX))) (ab:∀q,y=.tmp q->s≠q) (i:k=b.size) (ad:k'=b.size\/bX=[])
  (ae:(rows.length+bX.length)*b.bytes<=cS) (hlen:rows.length+bX.length<=cS) :
  ar P (mk dst (.call { callee:=.builtin .append,args:=#[.tmp s,y],argTypes:=#[t,u] }) ty pos aJ g) ts ls h {} (.a (.d (.slice b.size none false (rows++bX)))) ls h:=by
 intro L H _ _ j w jl a hl r K Q af;have h1:bz j w jl (get ts s) (a.eval (.tmp s)):=r (.tmp s) (by simp [Op.operands,Call.operands]);rw [hx] at h1;obtain⟨ag,az,hv⟩:=h1;obtain⟨ah,p⟩:=hl.gv k rows.length;have aj:=hl.1.nh (Nat.le_refl _);have ak:aI (j.gv rows.length) w (.slice k (some j.next) false rows) (a.eval (.tmp s)):=by
  have I:=aI.mono p.toLe ag;rw [hv] at I ⊢;cases I with
  | slice _ _ _ al cap f hk hn hc bR hr ht =>
   refine aI.slice _ _ _ _ _ f hk hn hc bR hr fun aA M=>?_;simp only [Option.some.injEq] at M;subst M;exact⟨by simp [J.gv],fun aB i=>by simp [J.gv] at i; subst i; exact⟨Nat.le_refl _,fun _=>.inl ⟨rfl,rfl⟩⟩⟩
 have am:ev ((s,V.a (.d (.slice k (some j.next) false rows)))::ts) y=.a (.d (.slice k' tok' G bX)):=by
  cases y with
  | tmp q=>simp only [ev] at C ⊢; rw [g_ _ _ (ab q rfl)]; exact C
  | _=>exact C
 have hc:=ar.append (ax:=ax) (P:=P) (dst:=dst) (ty:=ty) (pos:=pos) (aJ:=aJ) (g:=g) (ls:=L) (h:=H.set j.next (some (.tok k rows.length))) (ts:=(s,V.a (.d (.slice k (some j.next) false rows)))::ts) (x:=.tmp s) (y:=y) (tk:=j.next) (m:=rows.length)
  R S U W X Y Z aa (by simp only [ev]; rw [ga]) am (.inl i) ad (by rw [ai.cN,i]) rfl ae hlen
 refine hc.step (j.gv rows.length) w jl a ah (fun x E=>?_) K Q ?_
 ·cases x with
  | tmp q =>
   by_cases e:s=q
   ·subst e;simp only [ev]; rw [ga];exact ak
   ·simp only [ev]; rw [g_ _ _ e];exact(r (.tmp q) E).mono p.toLe (Ext.refl _)
  | const c=>exact(r (.const c) E).mono p.toLe (Ext.refl _)
  | global c=>trivial
  | func c=>exact(r (.func c) E).mono p.toLe (Ext.refl _)
 ·rintro v l hh cv j' w' an ⟨rfl,rfl,rfl⟩ ao ap aq au;obtain⟨aw,ay⟩:=ap.forget (h':=H) (fun id o hi=>by
   have N:id≠j.next:=fun e=>by rw [e,aj] at hi; cases hi
   show ((H.set _ _).set _ _) id=_;rw [ai.ct _ _ N,ai.ct _ _ N]; exact hi)
  refine af _ _ _ cv j' w' an ⟨rfl,rfl,rfl⟩ ?_ aw aq ((p.trans au).trans ay);have O:aI j' w' (.slice b.size (some j.next) (false&&bX.isEmpty) (rows++bX)) cv:=ao;simp only [Bool.false_and] at O;cases O with
  | slice _ _ _ al cap f hk hn hc bR hr ht=>exact aI.slice _ _ _ _ _ f hk hn hc bR hr fun t e=>by cases e
theorem ar.uV {t u e:TypeId}{i j b:TI}{s k k':Nat}{y:Operand}{tok':Option Nat}{x r v:Sl α}{z:A}(o:aU P t=some i) (p:i.k=.slice e) (w:aU P e=some b) (B:aU P u=some j) (C:∃e,j.k=.slice e)
  (E:b.zero=some z) (F:(cD z).length=b.size) (G:b.size≠0) (hx:get ts s=.full k (x.l.map f)) (H:x.nl=false) (I:ev ts y=.a (.d (r.d k' f tok'))) (J:∀q,y=.tmp q->s≠q) (m:k=b.size) (K:k'=b.size)
  (hr:aW b.bytes x r=some v) :
  ar P (mk dst (.call { callee:=.builtin .append,args:=#[.tmp s,y],argTypes:=#[t,u] }) ty pos aJ g) ts ls h {} (.a (.d (v.d k f none))) ls h:=by
 obtain⟨e,h1,L⟩:=Fa hr;subst e;have:=ar.Mw (ax:=ax) (P:=P) (dst:=dst) (ty:=ty) (pos:=pos) (aJ:=aJ) (g:=g) (ls:=ls) (h:=h) o p w B (.inl C) E F G hx I J m (.inl K) (by simpa using h1) (by simpa using L);rw [<- List.map_append,<- m] at this;simp only [H,Bool.false_and];exact this
theorem Mx {t e:TypeId}(hu:P.underlying t=some (.slice e)) (d:Nat) (b:Option Addr) (n cap:Nat) (w:World):(Op.equalIn (d+1) t (.slice b n cap) (.slice none 0 0)).run P w=.ok b.isNone w:=by
 unfold Op.equalIn;simp only [Sem.run_bind,eE hu,Result.andThen];cases b<;>simp
theorem My {t e:TypeId}(hu:P.underlying t=some (.slice e)) (b:Option Addr) (n cap:Nat) (w:World):(Op.equal t (.slice b n cap) (.slice none 0 0)).run P w=.ok b.isNone w:=by
 exact Mx hu 9999 b n cap w
theorem Mz {t e:TypeId}{op:BinOp}(x y:Operand) (b:Option Addr) (n cap:Nat) (w:World):(eqGuard op t x y (.slice b n cap) (.slice none 0 0)).run P w=.ok () w:=by
 unfold eqGuard;simp
theorem ar.Fe {t e u:TypeId}{f:TI}{x:Operand}{k:Nat}{tok:Option Nat}{nl:Bool}{rows:List (List D)}(i:aU P t=some f) (hk:f.k=.slice e) (hx:ev ts x=.a (.d (.slice k tok nl rows))) :
  ar P (mk dst (.binOp .eql t x (.const (.slice none 0 0)) u) ty pos aJ g) ts ls h {} (.a (.d (.bool nl))) ls h :=
 ar.dH fun j w jl act l=>by
  have h1:=l x (by simp [Op.operands]);rw [hx] at h1;obtain⟨b,cap,m,_,_,o,_⟩:=oZ h1;have hu:=nt i hk;subst o;have p:act.eval (.const (.slice none 0 0))=.slice none 0 0:=rfl;refine⟨.bool b.isNone, ?_,aI.bool _⟩;simp only [execOp,m,p,Sem.run_bind,Mz (e:=e),Result.andThen,binOp,Sem.run_map,My hu,Sem.run_pure]
theorem ar.MA {x y:Operand}{cA:Array TypeId}{k:IntKind}{m n:Int}(hx:ev ts x=.a (.d (.int k m))) (i:ev ts y=.a (.d (.int k n))) :
  ar P (mk dst (.call { callee:=.builtin .max,args:=#[x,y],argTypes:=cA }) ty pos aJ g) ts ls h {} (.a (.d (.int k (if n>m then n else m)))) ls h :=
 ar.dH fun j w jl act b=>by
  have h1:=b x (by simp [Op.operands,Call.operands]);have f:=b y (by simp [Op.operands,Call.operands]);rw [hx] at h1; rw [i] at f;exact⟨_,by simp only [execOp,resolve,invoke,builtin,List.map_toArray,List.map_cons,List.map_nil,iI h1,iI f]; simp [run_max_int2],aI.int _ _⟩
theorem ar.MB {t:TypeId}{j:TI}{x:Operand}{lo hi:Option Operand}{l r:Option Int}{s y:Bs}(i:aU P t=some j) (hk:j.k=.str) (hx:ev ts x=.a (.d (.str s)))
  (f:match lo,l with|none,none=>True|some o,some n=>ev ts o=.a (.d (.int .i64 n))|_,_=>False) (b:match hi,r with|none,none=>True|some o,some n=>ev ts o=.a (.d (.int .i64 n))|_,_=>False)
  (p:lo.isSome=true\/hi.isSome=true) (hr:w_ s l r=some y):ar P (mk dst (.slice t x lo hi none) ty pos aJ g) ts ls h {} (.a (.d (.str y))) ls h:=by
 unfold w_ at hr
 split at hr
 ·rename_i hc
  simp only [Option.some.injEq] at hr;cases lo with
  | none =>
   cases l with
   | some n=>exact f.elim
   | none =>
    cases hi with
    | none=>simp at p
    | some o =>
     cases r with
     | none=>exact b.elim
     | some n =>
      have:=ar.zw (ax:=ax) (P:=P) (dst:=dst) (ty:=ty) (pos:=pos) (aJ:=aJ) (g:=g) (ls:=ls) (h:=h) i hk hx b (by simpa using hc.2.1) (by simpa using hc.2.2);rw [<- hr]; simpa using this
  | some o =>
   cases l with
   | none=>exact f.elim
   | some n =>
    cases hi with
    | none =>
     cases r with
     | some m=>exact b.elim
     | none =>
      have:=ar.wK (ax:=ax) (P:=P) (dst:=dst) (ty:=ty) (pos:=pos) (aJ:=aJ) (g:=g) (ls:=ls) (h:=h) i hk hx f (by simpa using hc.1) (by simpa using hc.2.1);rw [<- hr]; simpa using this
    | some o' =>
     cases r with
     | none=>exact b.elim
     | some m =>
      have:=ar.LV (ax:=ax) (P:=P) (dst:=dst) (ty:=ty) (pos:=pos) (aJ:=aJ) (g:=g) (ls:=ls) (h:=h) i hk hx f b (by simpa using hc.1) (by simpa using hc.2.1) (by simpa using hc.2.2);rw [<- hr];simp only [Option.getD_some];rw [List.drop_take];exact this
 ·cases hr
end
theorem aP.sLen {P:Program}{ops:Array Oper}{rest:List Oper}{Q:St->Prop}{n:Nat}{ts:Ts}{ls:List (List D)}{h:ai}{d:Nat}{ty:TypeId}{pos:String}{aJ:Array Edge}{t e:TypeId}{b:TI}{x:Operand}{cA:Array TypeId}{k:Nat}{tok:Option Nat}{α:Type}{f:α->List D}{s:Sl α}
  (i:aU P t=some b) (hk:b.k=.slice e) (bR:cA[0]?=some t) (hx:ev ts x=.a (.d (s.d k f tok))) (m:Nat.blt d n=true)
  (hr:s.l.length<=140737488355328->aP P ops rest Q ⟨n,(d,.a (.d (.int .i64 (s.l.length:Int))))::ts,ls,h⟩) :
  aP P ops (⟨some d,.call { callee:=.builtin .len,args:=#[x],argTypes:=cA },ty,pos,aJ,none⟩::rest) Q ⟨n,ts,ls,h⟩:=by
 intro j w jl a g o p;have hlen:s.l.length<=140737488355328:=by
  have h1:=oQ g.tmps x;rw [hx] at h1;obtain⟨_,_,_,hn,_⟩:=oZ h1
  simpa [cS] using hn
 exact aP.s0 (ar.cK i hk bR hx) m (hr hlen) j w jl a g o p
theorem aP.sV {P:Program}{ops:Array Oper}{rest:List Oper}{Q:St->Prop}{n:Nat}{ts:Ts}{ls:List (List D)}{h:ai}{d:Nat}{ty:TypeId}{pos:String}{aJ:Array Edge}{t:TypeId}{b:TI}{x:Operand}{cA:Array TypeId}{s:Bs}
  (g:aU P t=some b) (hk:b.k=.str) (bR:cA[0]?=some t) (hx:ev ts x=.a (.d (.str s))) (i:Nat.blt d n=true)
  (hr:s.length<=4611686018427387904->aP P ops rest Q ⟨n,(d,.a (.d (.int .i64 (s.length:Int))))::ts,ls,h⟩) :
  aP P ops (⟨some d,.call { callee:=.builtin .len,args:=#[x],argTypes:=cA },ty,pos,aJ,none⟩::rest) Q ⟨n,ts,ls,h⟩:=by
 intro j w jl a f l m;have hlen:s.length<=4611686018427387904:=by
  have h1:=oQ f.tmps x;rw [hx] at h1;exact(jo h1).2
 exact aP.s0 (ar.wS g hk bR hx) i (hr hlen) j w jl a f l m
theorem aP.zV {P:Program}{ops:Array Oper}{rest:List Oper}{Q:St->Prop}{n:Nat}{ts:Ts}{ls:List (List D)}{h h':ai}(e:h=h') (hw:aP P ops rest Q ⟨n,ts,ls,h'⟩):aP P ops rest Q ⟨n,ts,ls,h⟩:=e▸hw
theorem au.zV {P:Program}{ops:Array Oper}{m:Nat}{rest:List Oper}{done:List Fx}{Q:St->Prop}{n:Nat}{ts:Ts}{ls:List (List D)}{h h':ai}(e:h=h') (hw:au P ops m rest done Q ⟨n,ts,ls,h'⟩):au P ops m rest done Q ⟨n,ts,ls,h⟩:=e▸hw
theorem ah.dx {P:Program}{c:Code}{Q:Exit->St->Prop}{n:Nat}{ts:Ts}{ls:List (List D)}{h h':ai}(e:h=h') (hw:ah P c Q ⟨n,ts,ls,h'⟩):ah P c Q ⟨n,ts,ls,h⟩:=e▸hw
theorem ai.dP {h:ai}{i r:Nat}{o:Obj}(e:(h.set i (some o)) r=none):r≠i/\h r=none:=by
 have h1:r≠i:=fun b=>by rw [b,ai.cN] at e; cases e
 exact⟨h1,by rw [ai.ct _ _ h1] at e; exact e⟩
section
variable {P:Program}{ops:Array Oper}{rest:List Oper}{Q:St->Prop}{n:Nat}{ts:Ts}{ls:List (List D)}{h:ai}
theorem aP.iL (id:Nat){xs:List D}(i:List D) (hc:h id=some (.cells xs)) (k:∀j w cs,e9 j w h->aY (aI j w) xs cs->aY (aI j w) i cs)
  (hw:aP P ops rest Q ⟨n,ts,ls,h.set id (some (.cells i))⟩):aP P ops rest Q ⟨n,ts,ls,h⟩:=by
 intro j w jl a f l hk;have hl:=f.hl;refine hw j w jl a ⟨f.defers,f.size,f.tmps,⟨hl.1.iL hc (k j w · hl.1),⟨hl.2.each,hl.2.nodup,fun b m g=>hl.2.apart b m ((aV.iL hc).1 g)⟩⟩⟩ l fun o j' w' p q hq r s=>hk o j' w' p q hq r (bV.trans ?_ s);exact { bV.refl j _ (aV j h jl) with own:=fun b _ g=>(aV.iL hc).1 g }
theorem aP.cU (i:Nat){xs:List D}(l:List D) (hc:ls[i]?=some xs) (o:∀j w cs,e9 j w h->aY (aI j w) xs cs->aY (aI j w) l cs)
  (hw:aP P ops rest Q ⟨n,ts,ls.set i l,h⟩):aP P ops rest Q ⟨n,ts,ls,h⟩:=by
 intro j w jl a g;have hl:=g.hl;have p:aY (fun xs b=>kS j w b xs) (ls.set i l) jl:=by
  refine aY.jN (by rw [List.length_set,hl.2.each.length]) fun k x b hx m=>?_;rw [List.getElem?_set] at hx
  split at hx
  ·rename_i e
   subst e
   split at hx
   ·simp only [Option.some.injEq] at hx; subst hx;obtain⟨b',f,cs,q,h1,r,s⟩:=hl.2.each.get hc;rw [m] at f; simp only [Option.some.injEq] at f; subst f;exact⟨cs,q,h1,o j w _ hl.1 r,s⟩
   ·cases hx
  ·obtain⟨b',f,h1⟩:=hl.2.each.get hx;rw [m] at f; simp only [Option.some.injEq] at f; subst f;exact h1
 exact hw j w jl a ⟨g.defers,g.size,g.tmps,⟨hl.1,⟨p,hl.2.nodup,hl.2.apart⟩⟩⟩
theorem aP.tok (k:Nat) (hw:∀t,h t=none->aP P ops rest Q ⟨n,ts,ls,h.set t (some (.tok k 0))⟩):aP P ops rest Q ⟨n,ts,ls,h⟩:=by
 intro j w jl a b g hk;obtain⟨h1,f⟩:=b.hl.fG k;have l:=b.hl.1.nh (Nat.le_refl _);exact hw j.next l j.fG w jl a ⟨b.defers,b.size,fun i=>(b.tmps i).mono f.toLe (Ext.refl _),h1⟩ g fun m j' w' o p hq q r=>hk m j' w' o p hq q (f.trans r)
theorem aP.fJ (s k t:Nat){o:Obj}{f:Nat}(g:get ts s=.a (.d (.slice f none true []))) (ht:h t=some o)
  (hw:aP P ops rest Q ⟨n,(s,.a (.d (.slice k (some t) true [])))::ts,ls,h⟩):aP P ops rest Q ⟨n,ts,ls,h⟩:=by
 intro j w jl a b;refine hw j w jl a ⟨b.defers,b.size,fun i=>?_,b.hl⟩;by_cases e:s=i
 ·subst e;show bz _ _ _ (get ((s,_)::ts) s) _;rw [ga];have hv:bz j w jl (get ts s) (a.tmps.getD s undef):=b.tmps s;rw [g] at hv;exact(js.nil (k':=k) ht).rel b.hl.1 hv
 ·show bz _ _ _ (get ((s,_)::ts) i) _;rw [g_ _ _ e];exact b.tmps i
theorem aP.dU (s:Nat){k:Nat}{tk:Option Nat}{nl:Bool}{rows:List (List D)}(f:get ts s=.a (.d (.slice k tk nl rows)))
  (hw:aP P ops rest Q ⟨n,(s,.a (.d (.slice k none nl rows)))::ts,ls,h⟩):aP P ops rest Q ⟨n,ts,ls,h⟩:=by
 intro j w jl a b;refine hw j w jl a ⟨b.defers,b.size,fun i=>?_,b.hl⟩;by_cases e:s=i
 ·subst e;show bz _ _ _ (get ((s,_)::ts) s) _;rw [ga];have hv:bz j w jl (get ts s) (a.tmps.getD s undef):=b.tmps s;rw [f] at hv;exact E9 j w _ hv
 ·show bz _ _ _ (get ((s,_)::ts) i) _;rw [g_ _ _ e];exact b.tmps i
end
theorem tok_cell {j:J}{w:World}{h:ai}{t:Nat}{o:Obj}{xs:List D}{cs:List Value}(i k k':Nat) (hh:e9 j w h) (ht:h t=some o) (hx:aY (aI j w) xs cs) (hi:xs[i]?=some (.slice k none true [])) :
  aY (aI j w) (xs.set i (.slice k' (some t) true [])) cs:=by
 refine aY.jN (by rw [List.length_set,hx.length]) fun n x v hn hv=>?_;rw [List.getElem?_set] at hn
 split at hn
 ·rename_i e
  subst e
  split at hn
  ·simp only [Option.some.injEq] at hn; subst hn;obtain⟨f,b,hr⟩:=hx.get hi;rw [hv] at b; simp only [Option.some.injEq] at b; subst b;exact(js.nil (k:=k) (k':=k') ht).rel hh (x:=.d (.slice k none true [])) hr
  ·cases hn
 ·obtain⟨f,b,hr⟩:=hx.get hn;rw [hv] at b; simp only [Option.some.injEq] at b; subst b;exact hr
theorem jt {j:J}{w:World}{xs:List D}{cs:List Value}(i:Nat){k:Nat}{tk:Option Nat}{nl:Bool}{rows:List (List D)}(hx:aY (aI j w) xs cs) (hi:xs[i]?=some (.slice k tk nl rows)) :
  aY (aI j w) (xs.set i (.slice k none nl rows)) cs:=by
 refine aY.jN (by rw [List.length_set,hx.length]) fun n x v hn hv=>?_;rw [List.getElem?_set] at hn
 split at hn
 ·rename_i e
  subst e
  split at hn
  ·simp only [Option.some.injEq] at hn; subst hn;obtain⟨f,b,hr⟩:=hx.get hi;rw [hv] at b; simp only [Option.some.injEq] at b; subst b;exact E9 j w v hr
  ·cases hn
 ·obtain⟨f,b,hr⟩:=hx.get hn;rw [hv] at b; simp only [Option.some.injEq] at b; subst b;exact hr
def F0:Nat:=4611686018427387904
theorem wA {n:Nat}{ts b:Ts}{ls aM:List (List D)}{h h':ai}(hk:aS ts aM.length b:=by repeat (first|exact aS.nil|refine aS.c rfl rfl ?_|refine aS.c (by(first|(first|rfl|((conv=>lhs; whnf); first|(simp [cD,zW,zX,zY,MC.MD,Nat.add_assoc,empty_append,Bool.and_assoc]; done)|(simp [cD,zW,zX,zY,Nat.add_assoc,empty_append,Bool.and_assoc]; repeat (first|rfl|constructor))))|rfl|(simp only [ga,ev]; done)|(simp [*,cD]; done)|(show V.a (A.d (D.slice _ _ _ _))=V.a (A.d (D.slice _ _ _ _)); simp [*,cD]; done))) rfl ?_)) (hl:jr aM ls:=by repeat (first|exact jr.nil|apply jr.cons)) (hh:h=h':=by first|rfl|(first|rfl|(simp only [ai.set_set,List.length_append,List.length_nil,List.length_cons,List.length_map,List.length_singleton,Nat.zero_add]; done)|(simp [ai.set_set,Nat.add_assoc]; done))|(((funext n; simp only [ai.set]; (repeat' split)<;>simp_all))<;>first|rfl|exact⟨rfl,rfl⟩)):cq ⟨n,ts,ls,h⟩ ⟨n,b,aM,h'⟩:=cq.to hk hl hh
theorem cq.toFA {n:Nat}{ts b:Ts}{ls aM:List (List D)}{h h':ai}(hh:∀id o,h' id=some o->h id=some o) (hk:aS ts aM.length b:=by repeat (first|exact aS.nil|refine aS.c rfl rfl ?_|refine aS.c (by(first|(first|rfl|((conv=>lhs; whnf); first|(simp [cD,zW,zX,zY,MC.MD,Nat.add_assoc,empty_append,Bool.and_assoc]; done)|(simp [cD,zW,zX,zY,Nat.add_assoc,empty_append,Bool.and_assoc]; repeat (first|rfl|constructor))))|rfl|(simp only [ga,ev]; done)|(simp [*,cD]; done)|(show V.a (A.d (D.slice _ _ _ _))=V.a (A.d (D.slice _ _ _ _)); simp [*,cD]; done))) rfl ?_)) (hl:jr aM ls:=by repeat (first|exact jr.nil|apply jr.cons)):cq ⟨n,ts,ls,h⟩ ⟨n,b,aM,h'⟩:=cq.toF hk hl hh
theorem av {h:ai}{i:Nat}{o:Option Obj}(hg:h i=o:=by(first|assumption|exact ai.cN _ _ _|((repeat (refine(ai.ct _ _ (by first|assumption|(apply Ne.symm; assumption))).trans ?_)); first|assumption|exact ai.cN _ _ _)|(simp only [ai.set_set,ai.cN]; done)|(simp [ai.set, *]; done))):h i=o:=hg
theorem and_left {a b:Bool}(h:(a&&b)=true):a=true:=by cases a<;>simp_all
end Go.Ab
namespace Go.Ab
open Go Go.RowKit
variable {ax:bK}
section
variable {P:Program}{ts:Ts}{ls aM:List (List D)}{h h':ai}{fx:Fx}{x:A}{dst:Option Tmp}{ty:TypeId}{pos:String}{aJ:Array Edge}{g:Option (Nat×Bool)}
theorem ar.aK {o:Oper}{v:V}{k:Nat}{c:Bool}(hk:get ts k=.gd c x) (b:ar P o ((k,.a x)::ts) ls h fx v aM h') (hc:c=true:=by first|assumption|exact gF (by assumption)|exact gF (gF (by assumption))|exact gF (gF (gF (by assumption)))|exact zR (by assumption)|simp_all):ar P o ts ls h fx v aM h':=ar.jq hk hc b
theorem ar.sW {o:Oper}{v:V}{k:Nat}{c:Bool}{i off:Nat}(hk:get ts k=.gr c i off) (b:ar P o ((k,.cZ i off)::ts) ls h fx v aM h') (hc:c=true:=by first|assumption|exact gF (by assumption)|exact gF (gF (by assumption))|exact gF (gF (gF (by assumption)))|exact zR (by assumption)|simp_all):ar P o ts ls h fx v aM h':=ar.Mh hk hc b
theorem ar.iM {c y z:Operand}{b r f:Bool}(hc:ev ts c=.a (.d (.bool b))) (i:ev ts y=.gd f (.d (.bool r))) (j:ev ts z=.a (.d (.bool false))) (k:b=true->f=true:=by intro hh; first|exact hh|exact wZ hh|exact w6 (by assumption) hh|exact w6 (by assumption) (wZ hh)|simp_all) :
  ar P (mk dst (.pick c y z) ty pos aJ g) ts ls h {} (.a (.d (.bool (b&&r)))) ls h:=ar.Mi hc i k j
theorem ar.sX {c y z:Operand}{b r f:Bool}(hc:ev ts c=.a (.d (.bool b))) (i:ev ts y=.a (.d (.bool true))) (j:ev ts z=.gd f (.d (.bool r))) (k:b=false->f=true:=by intro hh; first|exact hh|exact wZ hh|exact w6 (by assumption) hh|exact w6 (by assumption) (wZ hh)|simp_all) :
  ar P (mk dst (.pick c y z) ty pos aJ g) ts ls h {} (.a (.d (.bool (b||r)))) ls h:=ar.Mj hc i j k
theorem ar.ME {x:Operand}{v:V}(hx:ev ts x=v:=by conv=>lhs; whnf):ar P (mk dst (.move x) ty pos aJ g) ts ls h {} v ls h:=ar.move hx
theorem ar.MF {x:Operand}{v:V}(hx:ev ts x=v:=by conv=>lhs; whnf):ar P (mk dst (.assign x) ty pos aJ g) ts ls h {} v ls h:=ar.assign hx
theorem ar.MG {t:TypeId}{b i:TI}{fs:List (Nat×TypeId)}{x:Operand}{f o:Nat}{xs j:List D}{l:TypeId}(m:aU P t=some b) (hk:b.k=.struct fs) (p:fs[f]?=some (o,l)) (q:aU P l=some i)
  (r:Nat.beq i.size 0=false) (hx:ev ts x=.a (.d (.view xs))) (s:xs.drop o=j:=by conv=>lhs; whnf):ar P (mk dst (.fieldAddr t x f) ty pos aJ g) ts ls h {} (.a (.d (.view j))) ls h:=ar.LH m hk p q r hx s
theorem fp.A {ts:Ts}{k:Nat}{v:V}{r:Ts}(t:fp ts r) (h:Ab.get ts k=v:=by conv=>lhs; whnf):fp ts ((k,v)::r):=fp.cons h t
theorem ar.MH {e:TypeId}{b:TI}{z:A}{i:Nat}{aM:List (List D)}(f:aU P e=some b) (j:b.zero=some z) (k:bL (cD z) ls i aM:=by repeat (first|exact bL.nil|apply bL.cons)) :
  ar P (mk dst (.alloc e) ty pos aJ g) ts ls h { wl:=true } (.cZ i 0) aM h:=ar.LW f j k
theorem ar.eG {t:TypeId}{b:TI}{x y:Operand}{i:Nat}{xs f:List D}{aM:List (List D)}(j:aU P t=some b) (hx:ev ts x=.cZ i 0) (k:ev ts y=.a (.agg f)) (hl:ls[i]?=some xs)
  (l:f.length=b.size) (hle:xs.length=b.size) (m:bJ f ls i aM:=by repeat (first|exact bJ.zero|apply bJ.succ)):ar P (mk none (.store t x y) ty pos aJ g) ts ls h { wl:=true } .any aM h:=ar.LX j hx k hl l hle m
theorem ah.bu {c:Code}{Q:Exit->St->Prop}{n:Nat}{b:Ts}{aM:List (List D)}{xs:List D}(s i:Nat) (f:get ts s=.cZ i 0) (hk:aS ts i b) (hw:ah P c Q ⟨n,(s,.a (.d (.view xs)))::b,aM,h⟩) (hl:bL xs aM i ls:=by repeat (first|exact bL.nil|apply bL.cons)):ah P c Q ⟨n,ts,ls,h⟩:=ah.freeze s i f hl hk hw
theorem ah.fu {c:Operand}{u v:Code}{Q:Exit->St->Prop}{σ:St}{b:Bool}{α:Type}{A B:Option α}{r:α}(f:(bif b then A else B)=some r) (hc:ev σ.ts c=.a (.d (.bool b))) (ht:b=true->A=some r->ah P u Q σ) (g:b=false->B=some r->ah P v Q σ):ah P (.cond c u v) Q σ :=
 ah.cond hc (fun h=>ht h (Go.Ab.kZ h f)) (fun h=>g h (Go.Ab.zU h f))
end
end Go.Ab
/-
 Slices that may be stored to: their object holds the rows; the slot tells the object and the length.
-/
namespace Go.Ab
open Go Go.RowKit
variable {ax:bK}
variable {fM:eN}
section
variable {P:Program}{ts:Ts}{ls:List (List D)}{h:ai}{dst:Option Tmp}{ty:TypeId}{pos:String}{aJ:Array Edge}{g:Option (Nat×Bool)}{α:Type}{f:α->List D}
end
section
variable {P:Program}{ts:Ts}{ls:List (List D)}{h:ai}{dst:Option Tmp}{ty:TypeId}{pos:String}{aJ:Array Edge}{g:Option (Nat×Bool)}{α:Type}{f:α->List D}
end
section
variable {P:Program}{ts:Ts}{ls:List (List D)}{h:ai}{dst:Option Tmp}{ty:TypeId}{pos:String}{aJ:Array Edge}{g:Option (Nat×Bool)}{α:Type}{f:α->List D}
variable {c:Code}{Q:Exit->St->Prop}{n:Nat}{ops:Array Oper}{rest:List Oper}{Q':St->Prop}
end
end Go.Ab
/-
 A function that lays one deferred call and returns: the deferred closure is called behind the body,then the results are read. No program text.
-/
namespace Go.Ab
open Go Go.RowKit
variable {ax:bK}
structure nx [bK] (P:Program) (f:FuncId) (args:List A) (h:ai) (cI:V->ai->Prop):Prop where
 enter:∀(cT:Array Value) (w:World),(callFunc f cT).run P w=.ok (.enter f cT) w
 runs:∀(j:J) (w:World) (cT:List Value),e9 j w h->aY (de j w) args cT->∀u,CallsD P f cT.toArray u w fun e u' w'=>u'=u /\
  ∃r cv j' h',e=.returned cv/\cI r h'/\bz j' w' [] r cv/\e9 j' w' h'/\bV j w (aV j h []) j' w' (aV j' h' [])
theorem Ff {j:J}{w:World}{h:ai}{fn:Func}{n:Nat}(hn:fn.ntmps=n){args:List A}{cT:List Value}(hl:Nat.ble args.length n=true) (hr:e9 j w h) (b:aY (de j w) args cT) :
  fN j w [] ⟨n,nq 0 args,[],h⟩ { tmps:=cT.toArray++Array.replicate (fn.ntmps-cT.toArray.size) undef,defers:=[] }:=by
 subst hn;have hl:=Nat.le_of_ble_eq_true hl;have hlen:=b.length;refine⟨rfl,by simp; omega,fun t=>?_,⟨hr,⟨.nil,by simp,by simp⟩⟩⟩;refine zA (fun t=>(cT.toArray++Array.replicate (fn.ntmps-cT.toArray.size) undef).getD t undef) 0 args cT b (fun i v hv=>?_) t;rw [Nat.zero_add,Array.getD_eq_getD_getElem?,Array.getElem?_append];have:i<cT.length:=(List.getElem?_eq_some_iff.1 hv).1;simp [this]
 exact(List.getElem?_eq_some_iff.1 hv).2
theorem nx.of_wp {P:Program}{T:List TI}(eF:kV P T){f:FuncId}{fn:Func}{c:Code}{args:List A}{h:ai}{cI:V->ai->Prop}(l:∀(cT:Array Value) (w:World),(callFunc f cT).run P w=.ok (.enter f cT) w) (m:P.funcs[f]?=some fn) (o:fn.body=some c){n:Nat}(hn:fn.ntmps=n){rs:List ResultVar}(p:fn.results.toList=rs) (hl:Nat.ble args.length n=true)
  (hw:ah P c (bn T rs cI) ⟨n,nq 0 args,[],h⟩):nx P f args h cI:=by
 refine⟨l,fun j w cT hr q u=>?_⟩;refine callsD_of_wp m o (wp_mono (hw j w [] _ (Ff hn hl hr q)) ?_);rintro e G w' ⟨H,j',I,⟨he,xs,h',s,t,x⟩,b,y⟩;obtain⟨v,hv,z⟩:=EK (P:=P) eF b p s;obtain⟨B,C⟩:=b.hl.trim 0;obtain⟨E,F⟩:=B.forget t;have k:∃r cv g i,Ending.returned v=.returned cv/\cI r i/\bz g w' [] r cv/\e9 g w' i/\bV j w (aV j h []) g w' (aV g i []) :=
  ⟨kW xs,v,j',h',rfl,x,z,E.1,(y.trans C).trans F⟩
 rcases he with he|he<;>subst he
 ·exact⟨b.defers,v,hv,k⟩
 ·exact⟨b.defers,v,hv,k⟩
def fC [bK] (P:Program) (c Y:Code) (M:St->Prop) (σ:St):Prop :=
 ∀(f:Exit->Act->World->Prop) (j:J) (w:World) (jl:List Nat) (a:Act),fN j w jl σ a ->
  (∀b j' w' g i,M b->fN j' w' g b i->bV j w (aV j σ.h jl) j' w' (aV j' b.h g)->Y.wp P f i w')->c.wp P f a w
section
variable {P:Program}{M:St->Prop}{σ:St}{Y:Code}
theorem fC.done (h:M σ):fC P Y Y M σ:=fun _ _ _ _ _ b hk=>hk _ _ _ _ _ h b (bV.refl _ _ _)
theorem fC.ay {x y:Code}(h:∀K:St->Prop,(∀σ,fC P y Y M σ->K σ)->ah P x (jR K fun _ _=>False) σ):fC P (.seq x y) Y M σ:=by
 intro b j w jl a f hk;refine wp_seq (wp_mono (h (fC P y Y M) (fun _ h=>h) j w jl a f) ?_);rintro e g w' ⟨u,j',i,hq,k,l⟩;cases e with
 | normal=>exact hq b j' w' i g k fun m o p q a2 r s t=>hk m o p q a2 r s (l.trans t)
 | exit _=>exact hq.elim
 | goto _=>exact hq.elim
 | ret=>exact hq.elim
 | panic _=>exact hq.elim
 | outgrown=>exact hq.elim
theorem fC.qC {c:Code}{b:St}(hw:cq σ b) (h:fC P c Y M b):fC P c Y M σ:=by
 intro f j w jl a g hk;obtain⟨j',i,k,l⟩:=hw j w jl a g;exact h f j' w i a k fun m o p q a2 r s t=>hk m o p q a2 r s (l.trans t)
theorem fC.freeze {c:Code}{n:Nat}{ts:Ts}{ls:List (List D)}{h:ai}{b:Ts}{aM:List (List D)}{xs:List D}(s i:Nat) (f:get ts s=.cZ i 0) (hl:bL xs aM i ls) (hk:aS ts i b) (hw:fC P c Y M ⟨n,(s,.a (.d (.view xs)))::b,aM,h⟩):fC P c Y M ⟨n,ts,ls,h⟩ :=
 fC.qC (cq.freeze s i f hl hk) hw
end
def MI [bK] (P:Program) (T:List TI) (rs:List ResultVar) (g:FuncId) (ck:List D) (cI:V->ai->Prop):Exit->St->Prop:=fun e σ =>
 (e=.normal\/e=.ret)/\nx P g (ck.map .d) σ.h fun _ h'=>∃xs b,nr T { σ with h:=h' } rs=some xs/\(∀id o,b id=some o->h' id=some o)/\cI (kW xs) b
def MJ [bK] (P:Program) (T:List TI) (rs:List ResultVar) (g:FuncId) (ck:List Operand) (b:Nat) (Z:Code) (cI:V->ai->Prop):St->Prop:=fun σ =>
 ∃xs,qD σ.ts ck=some xs/\Nat.blt b σ.n=true/\∀fM:eN,@ah _ fM P Z (MI P T rs g xs cI) ⟨σ.n,(b,.any)::σ.ts,σ.ls,σ.h⟩
theorem HL.called {j j':J}{w w':World}{jl:List Nat}{ls:List (List D)}{h h':ai}(hl:HL j w jl ls h) (hh:e9 j' w' h') (i:bV j w (aV j h []) j' w' (aV j' h' [])) :
  HL j' w' jl ls h'/\bV j w (aV j h jl) j' w' (aV j' h' jl):=by
 have k:∀b,b∈jl->b<w.heap.size:=fun b f=>aV.lt hl (.inl f);have l:∀b,b∈jl->w'.heap[b]?=w.heap[b]?/\j'.F b=j.F b:=fun b f=>i.frame b (k b f) (hl.2.apart b f);refine⟨⟨hh,⟨oP hl.2.each fun xs b f h=>h.keep i.toLe (l b f),hl.2.nodup,fun b f g=>hl.2.apart b f (i.own b (k b f) g)⟩⟩, ?_⟩;refine { i with frame:=fun b f hn=>i.frame b f (fun g=>hn ?_),own:=fun b f g=>?_ }
 ·rcases g with g|g
  ·simp at g
  ·exact .inr g
 ·rcases g with g|g
  ·exact .inl g
  ·rcases i.own b f (.inr g) with h|h
   ·simp at h
   ·exact .inr h
theorem AC.MK {P:Program}{T:List TI}(eF:kV P T){f:FuncId}{fn:Func}{c:Code}{args:List A}{h:ai}{cI:V->ai->Prop}(U:∀(cT:Array Value) (w:World),(callFunc f cT).run P w=.ok (.enter f cT) w) (W:P.funcs[f]?=some fn) (X:fn.body=some c){n:Nat}(hn:fn.ntmps=n){rs:List ResultVar}(Y:fn.results.toList=rs) (hl:Nat.ble args.length n=true)
  {aa l:Nat}{g:FuncId}{ck:Array Operand}{Z:Code}{C E:TypeId}{F G:String}{H I:Array Edge}{cA:Array TypeId}
  (hw:fC P c (.seq (.region aa #[⟨some l,.makeFunc (.func g) #[] ck,C,F,H,none⟩,⟨none,.defer { callee:=.value (.tmp l),args:=#[],argTypes:=cA },E,G,I,none⟩] false) Z) (MJ P T rs g ck.toList l Z cI) ⟨n,nq 0 args,[],h⟩):AC P f args h cI:=by
 refine⟨U,fun j w cT hr ab=>?_⟩;refine calls_of_wp_defers W X (hw _ j w [] _ (Ff hn hl hr ab) fun σ q m s b ad p ae=>?_);obtain⟨xs,hx,J,af⟩:=ad;have L:=wT (j:=q) (w:=m) (jl:=s) (act:=b) ck.toList xs hx fun x _=>oQ p.tmps x;have ag:l<b.tmps.size:=by rw [p.size]; simpa [Nat.blt_eq] using J
 have ah:b.defers=[]:=p.defers;refine wp_seq (wp_region_lit ?_);refine wpList_step fun K aj=>?_;rw [if_pos (sv rfl)];unfold Oper.wp;have ak:(execOp b.eval ⟨some l,.makeFunc (.func g) #[] ck,C,F,H,none⟩).run P m=.ok (.value (.func (.func g) #[] (ck.toList.map b.eval).toArray)) m:=by
  simp [execOp,Instr.makeFunc]
  apply Array.ext'; simp
 rw [ak,Oper.upon_value];refine aj _ _ ?_;refine wpList_step fun aR al=>?_;rw [if_pos (sv rfl)];unfold Oper.wp;have am:(b.put (some l) (.func (.func g) #[] (ck.toList.map b.eval).toArray)).eval (.tmp l)=.func (.func g) #[] (ck.toList.map b.eval).toArray:=by
  show (b.put (some l) _).tmps.getD l undef=_;simp [Act.put,Array.getD_eq_getD_getElem?,ag]
 have an:(execOp (b.put (some l) (.func (.func g) #[] (ck.toList.map b.eval).toArray)).eval ⟨none,.defer { callee:=.value (.tmp l),args:=#[],argTypes:=cA },E,G,I,none⟩).run P m=.ok (.defer { target:=.fn (.func g) (ck.toList.map b.eval).toArray,args:=#[] }) m:=by
  simp only [execOp,resolve,am,Deferred.ofValue,Sem.run_bind,Sem.run_pure,Result.andThen];simp
 rw [an,Oper.upon_defer];refine al _ _ ?_;show Code.wp P _ _ _ m;have t:=p.put (Le.refl q m) (Ext.refl s) (dst:=some l) (Mg J) (v:=.any) (cv:=.func (.func g) #[] (ck.toList.map b.eval).toArray) trivial p.hl;have ao:(b.put (some l) (Value.func (.func g) #[] (ck.toList.map b.eval).toArray)).defers=[]:=by rw [put_defers]; exact ah
 have ap:=t.size;have aq:=t.tmps;have au:=t.hl
 let fM:eN:=⟨[{ target:=.fn (.func g) (ck.toList.map b.eval).toArray,args:=#[] }]⟩
 have aw:=af fM;refine wp_mono (aw q m s _ ⟨?_,ap,aq,au⟩) ?_
 ·show _::_=_;rw [ao]; rfl
 ·rintro e a4 M ⟨u,ax,ay,⟨he,N⟩,o,O⟩;have az:a4.defers=[{ target:=.fn (.func g) (ck.toList.map b.eval).toArray,args:=#[] }]:=o.defers;have aA:Leaves P fn a4.tmps (fun e w'=>∃r cv j' h',e=.returned cv/\cI r h'/\bz j' w' [] r cv/\e9 j' w' h'/\bV j w (aV j h []) j' w' (aV j' h' [])) a4.defers .returning M:=by
   rw [az];refine leaves_cons (f:=g) (args:=(ck.toList.map b.eval).toArray) (by simp) (by rw [invoke,Array.empty_append]; exact N.enter _ _) ?_;refine(N.runs ax M _ o.hl.1 (aY.jN (by rw [List.length_map]; exact L.length) fun i x y hx aB=>?_) .returning).mono ?_
   ·rw [List.getElem?_map] at hx;cases e:xs[i]? with
    | none=>rw [e] at hx; simp at hx
    | some z =>
     rw [e] at hx; simp at hx; subst hx;obtain⟨aT,B,hr⟩:=L.get e;rw [aB] at B;simp only [Option.some.injEq] at B;subst B;exact hr.mono O.toLe
   ·rintro aU aW aC ⟨rfl,r,cv,Q,aD,rfl,⟨aE,aF,aG,aH,aI⟩,hv,hh,R⟩;obtain⟨S,aJ⟩:=o.hl.called hh R;have aK:@fN fM Q aC ay ⟨u.n,u.ts,u.ls,aD⟩ a4:=⟨o.defers,o.size,fun k=>(o.tmps k).mono R.toLe (Ext.refl _),S⟩;obtain⟨v,aL,aM⟩:=EK (P:=P) eF aK Y aG;obtain⟨aN,aO⟩:=S.trim 0;obtain⟨aP,aQ⟩:=aN.forget aH;exact⟨v,aL,kW aE,v,Q,aF,rfl,aI,aM,aP.1,((((ae.trans O).trans aJ).trans aO).trans aQ)⟩
  rcases he with he|he<;>subst he<;>exact aA
end Go.Ab
namespace Go.Ab
open Go Go.RowKit
variable {ax:bK}
def V.shift (i:Nat):V->V
 | .cZ q off=>bif Nat.beq q i then .any else bif Nat.blt i q then .cZ (q-1) off else .cZ q off
 | .gr c q off=>bif Nat.beq q i then .any else bif Nat.blt i q then .gr c (q-1) off else .gr c q off
 | v=>v
def qL (i:Nat):Ts->Ts
 | []=>[]
 | (k,v)::r=>(k,v.shift i)::qL i r
theorem Fg (i:Nat):∀(ts:Ts) (k:Nat),get (qL i ts) k=(get ts k).shift i
 | [],_=>rfl
 | (k',v)::r,k=>by
  simp only [qL];by_cases e:k'=k
  ·subst e; rw [ga,ga]
  ·rw [g_ _ _ e,g_ _ _ e,Fg i r k]
theorem get_erase {α:Type}{l:List α}{i a:Nat}(h:a≠i):(l.eraseIdx i)[if i<a then a-1 else a]?=l[a]?:=by
 rw [List.getElem?_eraseIdx];by_cases c:i<a
 ·rw [if_pos c,if_neg (by omega)]; congr 1; omega
 ·rw [if_neg c,if_pos (by omega)]
theorem ML {α β:Type}{R:α->β->Prop}{l:List α}{m:List β}(h:aY R l m):∀(i:Nat),aY R (l.eraseIdx i) (m.eraseIdx i):=by
 induction h with
 | nil=>intro i; exact .nil
 | cons x t b =>
  intro i;cases i with
  | zero=>exact t
  | succ i=>exact .cons x (b i)
theorem V.MM (i q off:Nat):V.shift i (.cZ q off)=bif Nat.beq q i then .any else .cZ (if i<q then q-1 else q) off:=by
 show (bif Nat.beq q i then V.any else bif Nat.blt i q then .cZ (q-1) off else .cZ q off)=_;cases c:Nat.blt i q
 ·rw [if_neg (fun h=>by rw [show Nat.blt i q=true by simpa [Nat.blt_eq] using h] at c; cases c)]; rfl
 ·rw [if_pos (by simpa [Nat.blt_eq] using c)]; rfl
theorem V.MN (i:Nat) (g:Bool) (q off:Nat):V.shift i (.gr g q off)=bif Nat.beq q i then .any else .gr g (if i<q then q-1 else q) off:=by
 show (bif Nat.beq q i then V.any else bif Nat.blt i q then .gr g (q-1) off else .gr g q off)=_;cases c:Nat.blt i q
 ·rw [if_neg (fun h=>by rw [show Nat.blt i q=true by simpa [Nat.blt_eq] using h] at c; cases c)]; rfl
 ·rw [if_pos (by simpa [Nat.blt_eq] using c)]; rfl
theorem bz.shift {j:J}{w:World}{jl:List Nat}{i:Nat}{v:V}{cv:Value}(h:bz j w jl v cv):bz j w (jl.eraseIdx i) (v.shift i) cv:=by
 cases v with
 | cZ q off =>
  rw [V.MM];cases c1:Nat.beq q i
  ·obtain⟨b,f,e⟩:=h;exact⟨b,by rw [get_erase (Nat.ne_of_beq_eq_false c1)]; exact f,e⟩
  ·exact True.intro
 | gr c q off =>
  rw [V.MN];cases c1:Nat.beq q i
  ·refine⟨fun hc=>?_,h.2⟩;obtain⟨b,f,e⟩:=h.1 hc;exact⟨b,by rw [get_erase (Nat.ne_of_beq_eq_false c1)]; exact f,e⟩
  ·exact True.intro
 | any=>exact True.intro
 | a x=>exact h
 | cF xs=>exact h
 | gd c x=>exact h
 | full k rows=>exact h
 | qx c k rows=>exact h
theorem cq.zZ {fM:eN}{n:Nat}{ts:Ts}{ls:List (List D)}{h:ai}{xs:List D}(s i:Nat) (y:get ts s=.cZ i 0) (hx:ls[i]?=some xs) :
  cq ⟨n,ts,ls,h⟩ ⟨n,(s,.a (.d (.view xs)))::qL i ts,ls.eraseIdx i,h⟩:=by
 intro j w jl a m;have f:=m.hl;obtain⟨b,l,z⟩:∃b,jl[i]?=some b/\a.tmps.getD s undef=.pointer (some ⟨b,0,none⟩):=by
  have:=m.tmps s;have this:bz j w jl (get ts s) (a.tmps.getD s undef):=this;rw [y] at this; exact this
 obtain⟨xs',q,cs,N,u,B,C⟩:∃xs',ls[i]?=some xs'/\kS j w b xs':=f.2.each.get' l;rw [hx] at q; simp only [Option.some.injEq] at q; subst q;have bw:=ji u;have E:b∉jl.eraseIdx i:=by
  intro hm;obtain⟨k,G,p⟩:=List.getElem_of_mem hm;have h0:(jl.eraseIdx i)[k]?=some b:=by rw [List.getElem?_eq_getElem G,p]
  rw [List.getElem?_eraseIdx] at h0;have hi:i<jl.length:=(List.getElem?_eq_some_iff.1 l).1;by_cases c:k<i
  ·rw [if_pos c] at h0;have r:=(List.getElem?_inj (by omega) f.2.nodup).1 (h0.trans l.symm);omega
  ·rw [if_neg c] at h0;have hk:k+1<jl.length:=(List.getElem?_eq_some_iff.1 h0).1;have r:=(List.getElem?_inj hk f.2.nodup).1 (h0.trans l.symm);omega
 have v:∀x,x∈jl.eraseIdx i->x∈jl:=fun x hm=>List.mem_of_mem_eraseIdx hm;have H:∀x,aV j h (jl.eraseIdx i) x->aV j h jl x:=fun x g=>g.elim (fun hm=>.inl (v x hm)) .inr;have I:¬aV j h (jl.eraseIdx i) b:=by
  rintro (hm|⟨id,o,h1,r⟩)
  ·exact E hm
  ·exact f.2.apart b (List.mem_of_getElem? l) (.inr ⟨id,o,h1,r⟩)
 have K:HL j w (jl.eraseIdx i) (ls.eraseIdx i) h:=⟨f.1,⟨ML f.2.each i,f.2.nodup.eraseIdx i,fun x hm g=>f.2.apart x (v x hm) g⟩⟩;have hle:Le j w (j.eP b xs.length) w:=⟨Nat.le_refl _,fun _ _=>rfl,fun b'=>by
  simp only [J.eP]
  split
  ·rename_i e; rw [e,C]; exact Nat.zero_le _
  ·exact Nat.le_refl _,fun _ _ _=>rfl,fun _ _=>.inl rfl⟩
 have t:∀b',b'≠b->(j.eP b xs.length).F b'=j.F b':=fun b' L=>by simp only [J.eP]; rw [if_neg L]
 have p:=K.keep hle (fun b' g=>⟨rfl,t b' (fun e=>I (e▸g))⟩) (fun _ _ _=>rfl) (fun b' M=>by rw [t b' (by omega)]; exact f.1.fresh b' M);refine⟨j.eP b xs.length,jl.eraseIdx i,⟨m.defers,m.size,fun k=>?_,p.1⟩, ?_⟩
 ·by_cases e:s=k
  ·subst e;show bz _ _ _ (get ((s,_)::qL i ts) s) _;rw [ga,z];exact zT (n:=0) u (B.imp fun _ _ h=>h.mono hle) (by simp [J.eP])
  ·show bz _ _ _ (get ((s,_)::qL i ts) k) _;rw [g_ _ _ e,Fg];have hv:bz j w jl (get ts k) (a.tmps.getD k undef):=m.tmps k;exact(hv.shift (i:=i)).mono hle (Ext.refl _)
 ·refine { toLe:=hle,size:=Nat.le_refl _,frame:=fun b' _ g=>⟨rfl,t b' fun e=>g (.inl (e▸List.mem_of_getElem? l))⟩,own:=fun b' _ g=>H b' ((p.2 b').1 g),os:=rfl,tape:=rfl,output:=fS.rfl }
theorem ah.zZ {fM:eN}{P:Program}{c:Code}{Q:Exit->St->Prop}{n:Nat}{ts:Ts}{ls:List (List D)}{h:ai}{xs:List D}(s i:Nat) (b:get ts s=.cZ i 0) (hx:ls[i]?=some xs)
  (hw:ah P c Q ⟨n,(s,.a (.d (.view xs)))::qL i ts,ls.eraseIdx i,h⟩):ah P c Q ⟨n,ts,ls,h⟩:=ah.qC (cq.zZ s i b hx) hw
theorem ah.MO {fM:eN}{P:Program}{Q:Exit->St->Prop}{n:Nat}{hG ts:Ts}{ls:List (List D)}{h:ai}{α:Type}{x y:Code}(_:fp hG ts) (over:α->Ts) (lo:α->List (List D)) (hh:α->ai) (pre:α->Prop)
  (hx:∀K:St->Prop,(∀b y,cq b ⟨n,over y++ts,lo y,hh y⟩->pre y->K b)->(∀b,ah P y Q b->K b)->ah P x (jR K Q) ⟨n,hG,ls,h⟩) (f:∀z,pre z->ah P y Q ⟨n,over z++ts,lo z,hh z⟩):ah P (.seq x y) Q ⟨n,hG,ls,h⟩:=by
 exact ah.seq (hx (ah P y Q) (fun b z h1 g=>ah.qC h1 (f z g)) fun b h=>h)
end Go.Ab
namespace Go.Ab
variable {ax:bK}
theorem nx.mono {P:Go.Program}{f:Go.FuncId}{args:List A}{h:ai}{cI b:V->ai->Prop}(hc:nx P f args h cI) (g:∀r h',cI r h'->b r h'):nx P f args h b :=
 ⟨hc.enter,fun j w cT hr i u=>(hc.runs j w cT hr i u).mono fun _ _ _ ⟨k,r,cv,j',h',e,p,rest⟩=>⟨k,r,cv,j',h',e,g r h' p,rest⟩⟩
theorem fC.dx {P:Go.Program}{M:St->Prop}{c Y:Go.Code}{n:Nat}{ts:Ts}{ls:List (List D)}{h h':ai}(e:h=h') (hw:fC P c Y M ⟨n,ts,ls,h'⟩):fC P c Y M ⟨n,ts,ls,h⟩:=by subst e; exact hw
end Go.Ab
/-
 Arrays that are built at once and then only read.
-/
namespace Go.Ab
open Go Go.RowKit
variable {ax:bK}
def z6 (n k:Nat) (e:TypeId):List (Nat×TypeId):=(List.range n).map fun i=>(i*k,e)
section
variable {P:Program}{T:List TI}{ts:Ts}{ls:List (List D)}{h:ai}{dst:Option Tmp}{ty:TypeId}{pos:String}{aJ:Array Edge}{g:Option (Nat×Bool)}
theorem ar.MP (eF:kV P T){t e:TypeId}{n:Nat}{f b:TI}{k l:List D}{parts:Array (Nat×Operand)}{ps:List (Nat×A)}(hu:P.underlying t=some (.array n e)) (y:T[t]?=some f) (s:T[e]?=some b) (z:f.zero=some (.agg k))
  (B:o4 ts parts.toList=some ps) (C:sN T (z6 n b.size e) k ps=some l):ar P (mk dst (.build t parts) ty pos aJ g) ts ls h {} (.a (.agg l)) ls h :=
 ar.dH fun j w jl a E=>by
  have hr:=wX (j:=j) (w:=w) (jl:=jl) (act:=a) parts.toList ps B fun x hx=>E x (by simp [Op.operands] at hx ⊢; exact hx);have F:=eF t f y;obtain⟨inf,d,h1,_,_,_,_,u⟩:=fH F;rw [z] at u;obtain⟨zv,G,H⟩:=nk u;obtain⟨m,I,J⟩:=zP (j:=j) (w:=w) (T:=T) (fs:=z6 n b.size e) (place:=fun i=>some (i*b.size,b.size)) (fun i o L M hi v=>by
   unfold z6 at hi;rw [List.getElem?_map] at hi;cases r:(List.range n)[i]? with
   | none=>rw [r] at hi; cases hi
   | some q =>
    rw [r] at hi;simp only [Option.map_some,Option.some.injEq,Prod.mk.injEq] at hi;obtain⟨rfl,rfl⟩:=hi;rw [s] at v; cases v;have:=(List.getElem?_eq_some_iff.1 r).2;rw [List.getElem_range] at this;rw [this]) ps _ k l zv.cells C hr (H j w).cells
  refine⟨.agg m, ?_,⟨m.toList,by simp,J⟩⟩;have K:(Instr.build t (parts.map fun(i,x)=>(i,a.eval x))).run P w=.ok (.agg m) w:=by
   simp only [Instr.build,Sem.run_bind,zeroValue,typeInfo,run_program,h1,G,Result.andThen,Sem.run_pure,eE hu,jm (eF e b s)];have e:(Array.map (fun(x:Nat×Operand)=>(x.1,a.eval x.2)) parts).toList=parts.toList.map fun p=>(p.1,a.eval p.2):=by simp
   rw [e,I];simp
  simp only [execOp,Sem.run_bind,K,Result.andThen,Sem.run_pure]
end
end Go.Ab
/-
 Ranging over a set of strings: the map as it is,the iterator,its steps,delete.
-/
namespace Go.Ab
open Go Go.RowKit
variable {ax:bK}{fM:eN}
def mE (p:List (List UInt8×Nat)):List MapEntry:=p.map fun x=>⟨.string ⟨x.1.toArray⟩,.bool true,x.2⟩
structure ny (l:List (List UInt8)) (p:List (List UInt8×Nat)) (br:Nat):Prop where
 keys:p.map (·.1)=l
 nodup:(p.map (·.2)).Nodup
 xa:l.Nodup
 lt:∀x∈p,x.2<br
 len:∀s∈l,s.length<=eW
theorem Fh {p:List (List UInt8×Nat)}(h:((mE p).map (·.key)).Nodup):(p.map (·.1)).Nodup:=by
 have:(mE p).map (·.key)=(p.map (·.1)).map fun s=>Value.string ⟨s.toArray⟩:=by simp [mE,Function.comp_def]
 rw [this] at h;rw [List.nodup_iff_pairwise_ne,List.pairwise_map] at h;rw [List.nodup_iff_pairwise_ne];exact h.imp fun b e=>b (by rw [e])
theorem nodup_keys {p:List (List UInt8×Nat)}(h:(p.map (·.1)).Nodup):((mE p).map (·.key)).Nodup:=by
 have:(mE p).map (·.key)=(p.map (·.1)).map fun s=>Value.string ⟨s.toArray⟩:=by simp [mE,Function.comp_def]
 rw [this];rw [List.nodup_iff_pairwise_ne] at h ⊢;rw [List.pairwise_map];exact h.imp fun b e=>b (by
  have e:=Value.string.inj e
  simpa using e)
theorem z_ {j:J}{w:World}:∀{l:List (List UInt8)}{f:List MapEntry},aY (jf j w) (bf l) f->∃p,f=mE p/\p.map (·.1)=l/\∀s∈l,s.length<=eW
 | [],f,h=>by cases h; exact⟨[],rfl,rfl,fun _ h=>by cases h⟩
 | s::l,f,h=>by
  cases h with
  | @cons _ m _ f h t =>
   obtain⟨p,g,i,o⟩:=z_ (l:=l) t;obtain⟨k,v,b⟩:=m;obtain⟨hk,hv⟩:=h;have hk:aI j w (.str s) k:=hk;have hv:aI j w (.bool true) v:=hv;cases hk with
   | str _ q =>
    cases hv;exact⟨(s,b)::p,by rw [g]; rfl,by simp [i],fun x hx=>(List.mem_cons.1 hx).elim (fun e=>e▸q) (o x)⟩
theorem Aa {j:J}{w:World}:∀(p:List (List UInt8×Nat)),(∀x∈p,x.1.length<=eW)->aY (jf j w) (bf (p.map (·.1))) (mE p)
 | [],_=>.nil
 | x::p,h=>.cons ⟨aI.str _ (h x (.head _)),aI.bool _⟩ (Aa p fun y b=>h y (.tail _ b))
theorem aV.qM {j:J}{h:ai}{c:Nat}{o o':Obj}(hc:h c=some o) (g:bS j c o'=bS j c o){jl:List Nat}{b:Nat}:aV j (h.set c (some o')) jl b↔aV j h jl b:=by
 constructor
 ·rintro (h1|⟨id,q,h1,f⟩)
  ·exact .inl h1
  ·by_cases e:id=c
   ·subst e; rw [ai.cN] at h1; simp only [Option.some.injEq] at h1; subst h1;exact .inr ⟨id,_,hc,g▸f⟩
   ·rw [ai.ct _ _ e] at h1; exact .inr ⟨id,q,h1,f⟩
 ·rintro (h1|⟨id,q,h1,f⟩)
  ·exact .inl h1
  ·by_cases e:id=c
   ·subst e; rw [hc] at h1; simp only [Option.some.injEq] at h1; subst h1;exact .inr ⟨id,_,ai.cN _ _ _,g.symm▸f⟩
   ·exact .inr ⟨id,q,by rw [ai.ct _ _ e]; exact h1,f⟩
theorem e9.qM {j:J}{w:World}{h:ai}{c:Nat}{o o':Obj}(hr:e9 j w h) (hc:h c=some o) (g:bS j c o'=bS j c o) (i:gu j w c o'):e9 j w (h.set c (some o')):=by
 have key:∀id q,(h.set c (some o')) id=some q->∃f,h id=some f/\bS j id q=bS j id f:=by
  intro id q hq;by_cases e:id=c
  ·subst e; rw [ai.cN] at hq; simp only [Option.some.injEq] at hq; subst hq;exact⟨_,hc,g⟩
  ·rw [ai.ct _ _ e] at hq; exact⟨q,hq,rfl⟩
 refine⟨fun id q hq=>?_,fun jg o1 jh o2 b h1 k l m=>?_,hr.fresh⟩
 ·by_cases e:id=c
  ·subst e; rw [ai.cN] at hq; simp only [Option.some.injEq] at hq; subst hq;exact⟨(hr.obj _ _ hc).1,i⟩
  ·rw [ai.ct _ _ e] at hq; exact hr.obj _ _ hq
 ·obtain⟨u,p,r⟩:=key _ _ h1;obtain⟨v,s,t⟩:=key _ _ k;exact hr.inj _ _ _ _ b p s (r▸l) (t▸m)
section
variable {P:Program}{c:Code}{Q:Exit->St->Prop}{n:Nat}{ts:Ts}{ls:List (List D)}{h:ai}
theorem ah.MQ (id:Nat){l:List (List UInt8)}(hi:h id=some (.map (bf l))) (hw:∀b p br,ny l p br->ah P c Q ⟨n,ts,ls,h.set id (some (.dD b (.map (mE p).toArray br)))⟩):ah P c Q ⟨n,ts,ls,h⟩:=by
 intro j w jl a f;have hl:=f.hl;obtain⟨hn,b,m,u,br,i,hg,o,q,hB⟩:=hl.1.obj id _ hi;obtain⟨p,rfl,k,r⟩:=z_ o;have s:ny l p br:=⟨k,by have:=hB.1; simpa [mE,Function.comp_def] using this,by rw [<- k]; exact Fh hB.2.2,fun x hx=>hB.2.1 _ (List.mem_map_of_mem hx),r⟩;have hblk:bS j id (.dD b (.map (mE p).toArray br))=bS j id (.map (bf l)):=by simp [bS,i]
 refine wp_mono (hw b p br s j w jl a ⟨f.defers,f.size,f.tmps,⟨hl.1.qM hi hblk ⟨m,i,hg,q⟩,⟨hl.2.each,hl.2.nodup,fun b t g=>hl.2.apart b t ((aV.qM hi hblk).1 g)⟩⟩⟩) fun e a w hq=>AQ.trans ?_ hq;exact { bV.refl j _ (aV j h jl) with own:=fun b _ g=>(aV.qM hi hblk).1 g }
theorem ah.MR (id:Nat){b br:Nat}{p:List (List UInt8×Nat)}(hi:h id=some (.dD b (.map (mE p).toArray br))) (f:ny (p.map (·.1)) p br) (hw:ah P c Q ⟨n,ts,ls,h.set id (some (.map (bf (p.map (·.1)))))⟩):ah P c Q ⟨n,ts,ls,h⟩:=by
 intro j w jl a g;have hl:=g.hl;obtain⟨hn,l,k,hg,o⟩:=hl.1.obj id _ hi;have hblk:bS j id (.map (bf (p.map (·.1))))=bS j id (.dD b (.map (mE p).toArray br)):=by simp [bS,k]
 have hB:kR (mE p) br:=⟨by have:=f.nodup; simpa [mE,Function.comp_def] using this,(fun m hm=>by obtain⟨x,hx,rfl⟩:=List.mem_map.1 hm; exact f.lt x hx),nodup_keys f.xa⟩;refine wp_mono (hw j w jl a ⟨g.defers,g.size,g.tmps,⟨hl.1.qM hi hblk ⟨b,l,_,br,k,hg,Aa p (fun x hx=>f.len _ (List.mem_map_of_mem hx)),o,hB⟩,⟨hl.2.each,hl.2.nodup,fun b q i=>hl.2.apart b q ((aV.qM hi hblk).1 i)⟩⟩⟩) fun e a w hq=>AQ.trans ?_ hq
 exact { bV.refl j _ (aV j h jl) with own:=fun b _ i=>(aV.qM hi hblk).1 i }
end
theorem HL.MS {j:J}{w:World}{jl:List Nat}{ls:List (List D)}{h:ai}(hl:HL j w jl ls h){t k:Nat}(ht:h t=some (.tok k 0)) (go:Go.Obj) :
  HL (j.dw t ⟨some (w.heap.size,0),1⟩ w.heap.size 0) (w.alloc go) jl ls (h.set t (some (.dD w.heap.size go))) /\
   bV j w (aV j h jl) (j.dw t ⟨some (w.heap.size,0),1⟩ w.heap.size 0) (w.alloc go) (aV (j.dw t ⟨some (w.heap.size,0),1⟩ w.heap.size 0) (h.set t (some (.dD w.heap.size go))) jl) /\
   bz (j.dw t ⟨some (w.heap.size,0),1⟩ w.heap.size 0) (w.alloc go) jl (.a (.d (.je t 1 0))) (.pointer (some ⟨w.heap.size,0,none⟩)):=by
 obtain⟨G,eD,M,hblk,_⟩:=hl.1.obj t _ ht;have H:j.F w.heap.size=0:=hl.1.fresh _ (Nat.le_refl _);have r:∀x,x<w.heap.size->(w.alloc go).heap[x]?=w.heap[x]?:=fun x hx=>uH hx;generalize i:j.dw t ⟨some (w.heap.size,0),1⟩ w.heap.size 0=j';have f:∀x,j'.F x=j.F x:=fun x=>by
  subst i; simp only [J.dw]; split
  ·rename_i c; rw [c,H]
  ·rfl
 have z:j'.next=j.next:=by subst i; rfl
 have B:j'.tok t=some ⟨some (w.heap.size,0),1⟩:=by subst i; simp [J.dw]
 have I:∀x,x≠t->j'.tok x=j.tok x:=fun x hx=>by subst i; simp [J.dw,hx]
 have hle:Le j w j' (w.alloc go):=by
  refine⟨by rw [z]; exact Nat.le_refl _,fun _ _=>by subst i; rfl,fun x=>by rw [f]; exact Nat.le_refl _,fun x o l=>?_,fun x hx=>?_⟩
  ·refine uJ (r x ?_);rcases Nat.lt_or_ge x w.heap.size with h1|h1
   ·exact h1
   ·rw [hl.1.fresh x h1] at l; omega
  ·by_cases c:x=t
   ·subst c; exact .inr ⟨_,_,M,B,Nat.zero_lt_one⟩
   ·exact .inl (I x c)
 have C:∀n q x,h n=some q->bS j n q=some x->x<w.heap.size:=fun n q x hn hx=>aV.lt hl (.inr ⟨n,q,hn,hx⟩);have K:∀x,x∈jl->x<w.heap.size:=fun x hx=>aV.lt hl (.inl hx);have g:∀n q,h n=some q->n≠t->gu j' (w.alloc go) n q/\bS j' n q=bS j n q:=fun n q hn N =>
  (hl.1.obj n q hn).2.keep hle (hl.1.obj n q hn).1 (fun x hx=>⟨r x (C n q x hn hx),f x⟩) (fun _=>I n N)
 have E:bS j' t (.dD w.heap.size go)=some w.heap.size:=rfl;have L:∀jl x,aV j' (h.set t (some (.dD w.heap.size go))) jl x->x=w.heap.size\/aV j h jl x:=by
  rintro jl x (hx|⟨n,q,hn,hx⟩)
  ·exact .inr (.inl hx)
  ·by_cases c:n=t
   ·subst c; rw [ai.cN] at hn; simp only [Option.some.injEq] at hn; subst hn;rw [E] at hx; simp only [Option.some.injEq] at hx; exact .inl hx.symm
   ·rw [ai.ct h _ c] at hn;exact .inr (.inr ⟨n,q,hn,(g n q hn c).2▸hx⟩)
 refine⟨⟨⟨fun n q hn=>?_,fun m s p u x h1 b v y=>?_,fun x hx=>?_⟩,
  ⟨oP hl.2.each fun xs x hx h=>h.keep hle ⟨r x (K x hx),f x⟩,hl.2.nodup,fun x hx l=>?_⟩⟩, ?_, ?_⟩
 ·rw [z];by_cases c:n=t
  ·subst c; rw [ai.cN] at hn; simp only [Option.some.injEq] at hn; subst hn;exact⟨G,0,B,heap_alloc_new w _,by rw [f]; exact H⟩
  ·rw [ai.ct h _ c] at hn;exact⟨(hl.1.obj n q hn).1,(g n q hn c).1⟩
 ·by_cases c1:m=t<;>by_cases c2:p=t
  ·omega
  ·subst c1; rw [ai.cN] at h1; simp only [Option.some.injEq] at h1; subst h1;rw [ai.ct h _ c2] at b;rw [E] at v; simp only [Option.some.injEq] at v;have:=C p u x b ((g p u b c2).2▸y); omega
  ·subst c2; rw [ai.cN] at b; simp only [Option.some.injEq] at b; subst b;rw [ai.ct h _ c1] at h1;rw [E] at y; simp only [Option.some.injEq] at y;have:=C m s x h1 ((g m s h1 c1).2▸v); omega
  ·rw [ai.ct h _ c1] at h1; rw [ai.ct h _ c2] at b;exact hl.1.inj m s p u x h1 b ((g m s h1 c1).2▸v) ((g p u b c2).2▸y)
 ·rw [f];simp only [World.size_alloc] at hx;exact hl.1.fresh x (by omega)
 ·rcases L [] x l with c|c
  ·have:=K x hx; omega
  ·exact hl.2.apart x hx c
 ·refine { toLe:=hle,size:=(by simp),frame:=fun x hx hn=>⟨r x hx,f x⟩,own:=fun x hx l=>?_,os:=rfl,tape:=rfl,output:=fS.rfl };rcases L jl x l with c|c
  ·omega
  ·exact c
 ·show aI j' (w.alloc go) (.je t 1 0) (.pointer (some ⟨w.heap.size,0,none⟩));refine .je t 1 0 w.heap.size (by rw [z]; exact G) fun tk hk=>?_;rw [B] at hk;obtain rfl:=Option.some.inj hk;exact⟨Nat.le_refl _,fun _=>⟨0,rfl⟩⟩
theorem Fi {j:J}{w:World}{jl:List Nat}{id b:Nat}{o:Go.Obj}{cv:Value}(g:gu j w id (.dD b o)) (h:bz j w jl (.a (.d (.map id))) cv):cv=.map (some b)/\w.heap[b]?=some o/\j.F b=0:=by
 have h':aI j w (.map id) cv:=h;obtain⟨c,h1,i,k⟩:=g;cases h' with
 | map _ b' hi hv =>
  obtain⟨_,l⟩:=hv _ h1;obtain⟨c',f⟩:=l rfl;simp only [Option.some.injEq,Prod.mk.injEq] at f;obtain⟨rfl,rfl⟩:=f;exact⟨rfl,i,k⟩
theorem Fj {j:J}{w:World}{jl:List Nat}{id b:Nat}{o:Go.Obj}{cv:Value}(g:gu j w id (.dD b o)) (h:bz j w jl (.a (.d (.je id 1 0))) cv):cv=.pointer (some ⟨b,0,none⟩)/\w.heap[b]?=some o/\j.F b=0:=by
 have h':aI j w (.je id 1 0) cv:=h;obtain⟨c,h1,i,k⟩:=g;cases h' with
 | je _ _ _ b' hi hv =>
  obtain⟨_,l⟩:=hv _ h1;obtain⟨c',f⟩:=l rfl;simp only [Option.some.injEq,Prod.mk.injEq] at f;obtain⟨rfl,rfl⟩:=f;exact⟨rfl,i,k⟩
section
variable {P:Program}{ts:Ts}{ls:List (List D)}{h:ai}{dst:Option Tmp}{ty:TypeId}{pos:String}{aJ:Array Edge}{g:Option (Nat×Bool)}
theorem c_.MT {t f i:TypeId}{l:TI}{x:Operand}{id b br:Nat}{es:Array MapEntry}(m:aU P t=some l) (hk:l.k=.map f i) (hx:ev ts x=.a (.d (.map id))) (hm:h id=some (.dD b (.map es br))) :
  c_ P (mk dst (.range t x) ty pos aJ g) ts ls h fun v aM h'=>∃it r,h it=none/\v=.a (.d (.je it 1 0))/\aM=ls/\h'=h.set it (some (.dD r (.mapIter (some b) br #[] br))):=by
 intro j w jl a hl o K Q p;have h1:=o x (by simp [Op.operands]);rw [hx] at h1;obtain⟨e,hg,_⟩:=Fi (hl.1.obj id _ hm).2 h1;have hr:(execOp a.eval (mk dst (.range t x) ty pos aJ g)).run P w=.ok (.value (.pointer (some ⟨w.heap.size,0,none⟩))) (w.alloc (.mapIter (some b) br #[] br)):=by
  simp [execOp,e,run_range_map w t f i b es br (qH m hk) hg,Result.andThen]
 obtain⟨h1,q⟩:=hl.fG 0;obtain⟨s,u,y⟩:=h1.MS (ai.cN _ _ _) (.mapIter (some b) br #[] br);unfold Oper.wp;rw [hr,Oper.upon_value];exact p _ _ _ _ _ _ jl ⟨j.next,w.heap.size,hl.1.nh (Nat.le_refl _),rfl,rfl,(ai.set_set _ _ _ _)⟩ y s (Ext.refl _) (q.trans u)
def dy (p:List (List UInt8×Nat)) (seen:Array Nat):List (List UInt8×Nat):=p.filter fun x=>!seen.contains x.2
theorem Fk (p:List (List UInt8×Nat)) (seen:Array Nat):(mE p).toArray.filter (fun e=>!seen.contains e.born)=(mE (dy p seen)).toArray:=by
 apply Array.toList_inj.1
 simp [mE,dy,List.filter_map,Function.comp_def]
theorem c_.MU {it id b r br:Nat}{x:Operand}{p:List (List UInt8×Nat)}{seen:Array Nat}(hx:ev ts x=.a (.d (.je it 1 0))) (hit:h it=some (.dD r (.mapIter (some b) br seen br))) (hm:h id=some (.dD b (.map (mE p).toArray br))) (bw:∀x∈p,x.2<br) (hlen:∀x∈p,x.1.length<=eW) :
  c_ P (mk dst (.next x false) ty pos aJ g) ts ls h fun v aM h'=>aM=ls/\((dy p seen=[]/\v=.cF [.d (.bool false)]/\h'=h) \/
   ∃s n,(s,n)∈dy p seen/\v=.cF [.d (.bool true),.d (.str s),.d (.bool true)]/\h'=h.set it (some (.dD r (.mapIter (some b) br (seen.push n) br)))):=by
 intro j w jl a hl L K Q t;have h1:=L x (by simp [Op.operands]);rw [hx] at h1;obtain⟨e,hg,u⟩:=Fj (hl.1.obj it _ hit).2 h1;have B:w.heap[b]?=some (.map (mE p).toArray br):=by obtain⟨_,_,_,M,_⟩:=hl.1.obj id _ hm; exact M
 have hold:∀x∈(mE p).toArray.toList,x.born<br:=fun y f=>by
  have f:y∈mE p:=by simpa using f
  obtain⟨z,l,rfl⟩:=List.mem_map.1 f;exact bw z l
 have m:∀y∈dy p seen,y∈p:=fun y f=>(List.mem_filter.1 f).1;have C:(mE (dy p seen)).toArray.filter (fun x=>decide (x.born<br))=(mE (dy p seen)).toArray:=Array.filter_eq_self.2 (fun y f=>by
  have f:y∈mE (dy p seen):=by simpa using f
  obtain⟨z,l,rfl⟩:=List.mem_map.1 f
  simpa using bw z (m z l))
 have E:(mE (dy p seen)).toArray.filter (fun x=>decide (x.born>=br))=#[]:=by
  rw [Array.filter_eq_empty_iff];intro y f;have f:y∈mE (dy p seen):=by simpa using f
  obtain⟨z,l,rfl⟩:=List.mem_map.1 f;have:=bw z (m z l);simp;omega
 by_cases h0:dy p seen=[]
 ·have hr:(execOp a.eval (mk dst (.next x false) ty pos aJ g)).run P w=.ok (.value (.tuple #[.bool false])) w:=by
   simp only [execOp,e,Instr.next,getObj,Sem.run_bind,Sem.run,hg,B,Result.andThen,next_test_false seen _ br br hold (Nat.le_refl _),Bool.false_eq_true,if_false,Fk,C,E,Array.append_empty,h0];simp [mE,choose,Sem.run,Question.forced,Result.andThen]
  unfold Oper.wp;rw [hr,Oper.upon_value];exact t _ _ _ _ _ _ jl ⟨rfl,.inl ⟨h0,rfl,rfl⟩⟩ ⟨[.bool false],rfl,.cons (aI.bool _) .nil⟩ hl (Ext.refl _) (bV.refl _ _ _)
 ·obtain⟨i,k,hi,F,N⟩:∃(i:Nat) (k:World),i<(dy p seen).length/\(k=w\/k=w.drew)/\(choose (Question.mapNext (dy p seen).length)).run P w=.ok i k:=by
   by_cases G:(dy p seen).length<=1
   ·exact⟨0,w,by have:=List.length_pos_iff.2 h0; omega,.inl rfl,by simp [choose,Sem.run,Question.forced,G]⟩
   ·exact⟨_,w.drew,Nat.mod_lt _ (by omega),.inr rfl,by
     simp only [choose,Sem.run,Question.forced,decide_eq_true_eq,G,if_false,Question.cut];rfl⟩
  have o:HL j k jl ls h/\bV j w (aV j h jl) j k (aV j h jl):=by
   rcases F with rfl|rfl
   ·exact⟨hl,bV.refl _ _ _⟩
   ·exact⟨hl.drew,bV.drew _ _ _⟩
  have H:k.heap[r]?=some (.mapIter (some b) br seen br):=by rcases F with rfl|rfl<;>exact hg
  have hr:(execOp a.eval (mk dst (.next x false) ty pos aJ g)).run P w=.ok (.value (.tuple #[.bool true,.string ⟨(dy p seen)[i].1.toArray⟩,.bool true])) { k with heap:=k.heap.setIfInBounds r (.mapIter (some b) br (seen.push (dy p seen)[i].2) br) }:=by
   have O:(mE (dy p seen)).toArray.isEmpty=false:=by
    cases hq:dy p seen with
    | nil=>exact absurd hq h0
    | cons y q=>rfl
   have R:((#[]:Array (Option MapEntry))++Array.map some (mE (dy p seen)).toArray).size=(dy p seen).length:=by simp [mE]
   simp only [execOp,e,Instr.next,getObj,Sem.run_bind,Sem.run,hg,B,Result.andThen,next_test_false seen _ br br hold (Nat.le_refl _),Bool.false_eq_true,if_false,Fk,C,E,Array.append_empty,O,R,N];simp [mE,hi,setObj,Sem.run,H,Result.andThen]
  have I:((dy p seen)[i].1,(dy p seen)[i].2)∈dy p seen:=List.getElem_mem hi;have J:=fL.setObj (ax:=ax) (o':=.mapIter (some b) br (seen.push (dy p seen)[i].2) br) H;obtain⟨hn,c,S,_,_⟩:=o.1.1.obj it _ hit;obtain⟨U,W⟩:=o.1.setObj (o':=.dD r (.mapIter (some b) br (seen.push (dy p seen)[i].2) br)) hit rfl rfl u J ⟨c,S,J.here,u⟩;unfold Oper.wp;rw [hr,Oper.upon_value]
  exact t _ _ _ _ _ _ jl ⟨rfl,.inr ⟨_,_,I,rfl,rfl⟩⟩ ⟨[.bool true,_,.bool true],rfl,.cons (aI.bool _) (.cons (aI.str _ (hlen _ (m _ I))) (.cons (aI.bool _) .nil))⟩ U (Ext.refl _) (o.2.trans W)
end
def fT (p:List (List UInt8×Nat)) (s:List UInt8):List (List UInt8×Nat):=p.eraseP fun x=>s==x.1
theorem uW (s:List UInt8):∀p:List (List UInt8×Nat),(fT p s).map (·.1)=(p.map (·.1)).erase s
 | []=>rfl
 | x::p=>by
  unfold fT;rw [List.eraseP_cons,List.map_cons,List.erase_cons];rw [show (x.1==s)=(s==x.1) from Bool.beq_comm];cases s==x.1
  ·exact congrArg (x.1::·) (uW s p)
  ·rfl
theorem Ac (p:List (List UInt8×Nat)) (s:List UInt8):(fT p s).Sublist p:=List.eraseP_sublist
theorem ny.del {l:List (List UInt8)}{p:List (List UInt8×Nat)}{br:Nat}(h:ny l p br) (s:List UInt8):ny (l.erase s) (fT p s) br :=
 ⟨by rw [uW,h.keys],h.nodup.sublist ((Ac p s).map _),h.xa.erase s,fun x hx=>h.lt x ((Ac p s).subset hx),fun x hx=>h.len x (List.erase_subset hx)⟩
theorem Fl {d:TypeDesc}{s:List UInt8}(b:gM (fo d) (.str s)=true) (f:s.length<=eW):∀(p:List (List UInt8×Nat)) (n:Nat),(∀x∈p,x.1.length<=eW) ->
  (Instr.findNow d (.string ⟨s.toArray⟩) (mE p) n=some none/\fT p s=p)\/∃i,Instr.findNow d (.string ⟨s.toArray⟩) (mE p) n=some (some (n+i,.bool true))/\i<p.length/\fT p s=p.eraseIdx i
 | [],n,_=>.inl ⟨rfl,rfl⟩
 | x::p,n,h=>by
  have hn:=uS (j:=⟨fun _=>0,fun _=>0,fun _=>none,0⟩) (w:=default) b (aI.str s f) (aI.str x.1 (h x (.head _))) rfl;unfold fT;rw [List.eraseP_cons];show (Instr.findNow d _ (⟨.string ⟨x.1.toArray⟩,.bool true,x.2⟩::mE p) n=_/\_)\/∃i,Instr.findNow d _ (⟨.string ⟨x.1.toArray⟩,.bool true,x.2⟩::mE p) n=_/\_;simp only [Instr.findNow,hn];cases s==x.1
  ·rcases Fl b f p (n+1) (fun y k=>h y (.tail _ k)) with ⟨h1,g⟩|⟨i,h1,g,l⟩
   ·exact .inl ⟨h1,congrArg (x::·) g⟩
   ·exact .inr ⟨i+1,by rw [h1,show n+1+i=n+(i+1) by omega],by simp only [List.length_cons]; omega,congrArg (x::·) l⟩
  ·exact .inr ⟨0,rfl,by simp,rfl⟩
theorem Fm:∀(p:List (List UInt8×Nat)) (i:Nat),mE (p.eraseIdx i)=(mE p).eraseIdx i
 | [],_=>rfl
 | _::_,0=>rfl
 | x::p,i+1=>congrArg ((⟨.string ⟨x.1.toArray⟩,.bool true,x.2⟩:MapEntry)::·) (Fm p i)
theorem Fo {P:Program}{w:World}{b br:Nat}{t f y ty:TypeId}{o q:TI}{cA:Array TypeId}{p:List (List UInt8×Nat)}{s:List UInt8}(r:aU P t=some o) (hk:o.k=.map f y) (z:aU P f=some q) (g:gM q.k (.str s)=true) (bR:cA[0]?=some t)
  (hg:w.heap[b]?=some (.map (mE p).toArray br)) (u:s.length<=eW) (B:∀x∈p,x.1.length<=eW) :
  (Builtin.delete_ cA ty #[.map (some b),.string ⟨s.toArray⟩]).run P w=.ok (.tuple #[]) { w with heap:=w.heap.setIfInBounds b (.map (mE (fT p s)).toArray br) }:=by
 obtain⟨F,G,_,l,_,_,C,_⟩:=fH z;rw [<- C] at g;have v:∀e,(Instr.checkKey e 10000 f (.string ⟨s.toArray⟩)).run P w=.ok () w:=fun e=>uT (j:=⟨fun _=>0,fun _=>0,fun _=>none,0⟩) (w0:=default) l g (aI.str s u);rcases Fl g u p 0 B with ⟨h1,m⟩|⟨i,h1,m,E⟩
 ·simp [Builtin.delete_,bR,eE (qH r hk),sS hg,v,Instr.findKey,eE l,h1,m,setObj,Sem.run,hg,Result.andThen]
 ·rw [Nat.zero_add] at h1;have hl:i<(mE p).length:=by simpa [mE] using m
  simp [Builtin.delete_,bR,eE (qH r hk),sS hg,v,Instr.findKey,eE l,h1,E,Fm,setObj,Sem.run,hg,Result.andThen,Array.eraseIdxIfInBounds,hl]
section
variable {P:Program}{ts:Ts}{ls:List (List D)}{h:ai}{dst:Option Tmp}{ty:TypeId}{pos:String}{aJ:Array Edge}{g:Option (Nat×Bool)}
theorem ar.MV {t i u:TypeId}{l m:TI}{x y:Operand}{cA:Array TypeId}{id b br:Nat}{p:List (List UInt8×Nat)}{s:List UInt8}(v:aU P t=some l) (hk:l.k=.map i u) (z:aU P i=some m) (B:gM m.k (.str s)=true) (bR:cA[0]?=some t)
  (hx:ev ts x=.a (.d (.map id))) (C:ev ts y=.a (.d (.str s))) (hm:h id=some (.dD b (.map (mE p).toArray br))) (E:∀x∈p,x.1.length<=eW) :
  ar P (mk dst (.call { callee:=.builtin .delete,args:=#[x,y],argTypes:=cA }) ty pos aJ g) ts ls h { rh:=true,wh:=true } (.cF []) ls (h.set id (some (.dD b (.map (mE (fT p s)).toArray br)))):=by
 refine ar.of_run fun L H _ hH j w jl a hl o=>?_;have F:=hH rfl;subst F;have h1:=o x (by simp [Op.operands,Call.operands]);have f:=o y (by simp [Op.operands,Call.operands]);rw [hx] at h1; rw [C] at f;obtain⟨e,hg,q⟩:=Fi (hl.1.obj id _ hm).2 h1;obtain⟨hn,c,G,_,_⟩:=hl.1.obj id _ hm;have f:aI j w (.str s) (a.eval y):=f;generalize hv:a.eval y=M at f;cases f with
 | str _ I =>
  have hr:=Fo (ty:=ty) v hk z B bR hg I E;have r:=fL.setObj (ax:=ax) (o':=.map (mE (fT p s)).toArray br) hg;obtain⟨J,K⟩:=hl.setObj (o':=.dD b (.map (mE (fT p s)).toArray br)) hm rfl rfl q r ⟨c,G,r.here,q⟩;exact⟨.value (.tuple #[]),_,_,j,jl,by simp [execOp,resolve,invoke,builtin,e,hv,hr,Result.andThen],.inl rfl,⟨[],rfl,.nil⟩,J,Ext.refl _,K⟩
theorem ar.MW {t q E:TypeId}{r u:TI}{x y:Operand}{cA:Array TypeId}{id:Nat}{l:List (List UInt8)}{s:List UInt8}(F:aU P t=some r) (hk:r.k=.map q E) (G:aU P q=some u) (I:gM u.k (.str s)=true) (bR:cA[0]?=some t)
  (hx:ev ts x=.a (.d (.map id))) (J:ev ts y=.a (.d (.str s))) (hm:h id=some (.map (bf l))) :
  ar P (mk dst (.call { callee:=.builtin .delete,args:=#[x,y],argTypes:=cA }) ty pos aJ g) ts ls h { rh:=true,wh:=true } (.cF []) ls (h.set id (some (.map (bf (l.erase s))))):=by
 refine ar.of_run fun L H _ hH j w jl a hl v=>?_;have K:=hH rfl;subst K;have h1:=v x (by simp [Op.operands,Call.operands]);have f:=v y (by simp [Op.operands,Call.operands]);rw [hx] at h1; rw [J] at f;obtain⟨b,e,c,X,br,i,hg,M,z,hB⟩:=wY (hl.1.obj id _ hm).2 h1;obtain⟨p,rfl,o,B⟩:=z_ M;have N:ny l p br:=⟨o,by have:=hB.1; simpa [mE,Function.comp_def] using this,by rw [<- o]; exact Fh hB.2.2,fun x hx=>hB.2.1 _ (List.mem_map_of_mem hx),B⟩
 have O:∀x∈p,x.1.length<=eW:=fun x hx=>B _ (o▸List.mem_map_of_mem hx);have f:aI j w (.str s) (a.eval y):=f;generalize hv:a.eval y=Y at f;cases f with
 | str _ Q =>
  have hr:=Fo (ty:=ty) F hk G I bR hg Q O;have C:=fL.setObj (ax:=ax) (o':=.map (mE (fT p s)).toArray br) hg;have hq:=N.del s;have R:aY (jf j { w with heap:=w.heap.setIfInBounds b (.map (mE (fT p s)).toArray br) }) (bf (l.erase s)) (mE (fT p s)):=by
   rw [<- hq.keys]; exact Aa _ fun x hx=>hq.len _ (hq.keys▸List.mem_map_of_mem hx)
  have S:kR (mE (fT p s)) br:=⟨by have:=hq.nodup; simpa [mE,Function.comp_def] using this,(fun m hm=>by obtain⟨x,hx,rfl⟩:=List.mem_map.1 hm; exact hq.lt x hx),nodup_keys (by rw [hq.keys]; exact hq.xa)⟩;obtain⟨U,W⟩:=hl.setObj (o':=.map (bf (l.erase s))) hm (by simp [bS,i]) (by simp [bS,i]) z C ⟨b,c,_,br,i,C.here,R,z,S⟩;exact⟨.value (.tuple #[]),_,_,j,jl,by simp [execOp,resolve,invoke,builtin,e,hv,hr,Result.andThen],.inl rfl,⟨[],rfl,.nil⟩,U,Ext.refl _,W⟩
end
def sY (f:List UInt8->Option Bool):List (List UInt8)->Option (List (List UInt8))
 | []=>some []
 | s::l=>(f s).bind fun b=>(sY f l).bind fun r=>some (bif b then s::r else r)
theorem Ae {f:List UInt8->Option Bool}:∀{l r:List (List UInt8)},sY f l=some r->(∀s∈l,∃b,f s=some b)/\r=l.filter fun s=>f s==some true
 | [],r,h=>by cases h; exact⟨(fun _ h=>by cases h),rfl⟩
 | s::l,r,h=>by
  obtain⟨b,h1,h⟩:=Option.bind_eq_some_iff.1 h;obtain⟨q,g,h⟩:=Option.bind_eq_some_iff.1 h;obtain⟨i,j⟩:=Ae g;cases h;refine⟨fun x hx=>?_, ?_⟩
  ·rcases List.mem_cons.1 hx with rfl|hx
   ·exact⟨b,h1⟩
   ·exact i x hx
  ·rw [List.filter_cons,h1,<- j];cases b<;>rfl
theorem Af {α β:Type}{f:α->β}:∀{l:List α},(l.map f).Nodup->∀{x y:α},x∈l->y∈l->f x=f y->x=y
 | [],_,_,_,h,_,_=>by cases h
 | a::l,hn,x,y,hx,g,e=>by
  rw [List.map_cons,List.nodup_cons] at hn;rcases List.mem_cons.1 hx with rfl|i
  ·rcases List.mem_cons.1 g with rfl|b
   ·rfl
   ·exact absurd (List.mem_map.2 ⟨y,b,e.symm⟩) hn.1
  ·rcases List.mem_cons.1 g with rfl|b
   ·exact absurd (List.mem_map.2 ⟨x,i,e⟩) hn.1
   ·exact Af hn.2 i b e
structure jV (f:List UInt8->Option Bool) (r:List (List UInt8)) (br:Nat) (z:List (List UInt8×Nat)×Array Nat):Prop where
 pop:ny (z.1.map (·.1)) z.1 br
 told:∀x∈z.1,∃b,f x.1=some b
 seen:∀x∈z.1,z.2.contains x.2=true->f x.1=some true
 rest:(z.1.map (·.1)).filter (fun s=>f s==some true)=r
section
variable {f:List UInt8->Option Bool}{r:List (List UInt8)}{br:Nat}{p:List (List UInt8×Nat)}{seen:Array Nat}{s:List UInt8}{n:Nat}
theorem jV.start {l:List (List UInt8)}(h:sY f l=some r) (b:ny l p br):jV f r br (p,#[]):=by
 obtain⟨h1,g⟩:=Ae h;refine⟨by rw [b.keys]; exact b,fun x hx=>h1 _ (by rw [<- b.keys]; exact List.mem_map_of_mem hx),fun x _ hx=>by simp at hx,by rw [b.keys]; exact g.symm⟩
theorem uX {x:List UInt8×Nat}(h:x∈dy p seen):x∈p/\seen.contains x.2=false:=by
 obtain⟨h1,b⟩:=List.mem_filter.1 h;exact⟨h1,by simpa using b⟩
theorem Fp (hx:(s,n)∈dy p seen):(dy p (seen.push n)).length<(dy p seen).length:=by
 have e:dy p (seen.push n)=(dy p seen).filter fun x=>!(x.2==n):=by
  unfold dy;rw [List.filter_filter];refine List.filter_congr fun x _=>?_;rw [show (seen.push n).contains x.2=(seen.contains x.2||x.2==n) by
   rw [Bool.eq_iff_iff];simp [Array.contains_eq_mem]]
  cases seen.contains x.2<;>simp
 rw [e];refine List.length_filter_lt_length_iff_exists.2 ⟨_,hx,by simp⟩
theorem contains_push {x:Nat}(h:(seen.push n).contains x=true):seen.contains x=true\/x=n:=by
 simpa [Array.contains_eq_mem] using h
theorem jV.keep (h:jV f r br (p,seen)) (hx:(s,n)∈dy p seen) (g:f s=some true):jV f r br (p,seen.push n)/\(dy p (seen.push n)).length<(dy p seen).length:=by
 obtain⟨hm,-⟩:=uX hx;refine⟨⟨h.pop,h.told,fun x b hc=>?_,h.rest⟩,Fp hx⟩;rcases contains_push hc with hc|hc
 ·exact h.seen x b hc
 ·rw [Af h.pop.nodup b hm hc]; exact g
theorem jV.drop (h:jV f r br (p,seen)) (hx:(s,n)∈dy p seen) (i:f s=some false):jV f r br (fT p s,seen.push n)/\(dy (fT p s) (seen.push n)).length<(dy p seen).length:=by
 obtain⟨hm,-⟩:=uX hx;have hu:(p.map (·.1)).Nodup:=h.pop.xa;have g:=Ac p s;have j:=h.pop.del s;refine⟨⟨by rw [uW]; exact j,fun x b=>h.told x (g.subset b),fun x b hc=>?_, ?_⟩, ?_⟩
 ·rcases contains_push hc with hc|hc
  ·exact h.seen x (g.subset b) hc
  ·have e:=Af h.pop.nodup (g.subset b) hm hc;have h1:s∈(fT p s).map (·.1):=List.mem_map.2 ⟨x,b,by rw [e]⟩;rw [uW,hu.mem_erase_iff] at h1;exact absurd rfl h1.1
 ·show ((fT p s).map (·.1)).filter _=r;rw [uW,hu.erase_eq_filter,List.filter_filter,<- h.rest];refine List.filter_congr fun x _=>?_;by_cases e:x=s
  ·subst e; rw [i]; simp
  ·simp [e]
 ·exact Nat.lt_of_le_of_lt ((g.filter _).length_le) (Fp hx)
theorem jV.done (h:jV f r br (p,seen)) (hx:dy p seen=[]):p.map (·.1)=r:=by
 have b:∀x∈p,f x.1=some true:=fun x hm=>h.seen x hm (by
  have:x∉dy p seen:=by rw [hx]; simp
  cases hc:seen.contains x.2
  ·exact absurd (List.mem_filter.2 ⟨hm,by rw [hc]; rfl⟩) this
  ·rfl)
 rw [<- h.rest];refine(List.filter_eq_self.2 fun s g=>?_).symm;obtain⟨x,hm,rfl⟩:=List.mem_map.1 g;rw [b x hm]; rfl
end
theorem find_born {s:List UInt8}{n:Nat}:∀{p:List (List UInt8×Nat)},(p.map (·.2)).Nodup->(s,n)∈p->(mE p).find? (fun e=>e.born==n)=some ⟨.string ⟨s.toArray⟩,.bool true,n⟩
 | [],_,h=>by cases h
 | x::p,hn,h=>by
  rw [List.map_cons,List.nodup_cons] at hn;show (⟨.string ⟨x.1.toArray⟩,.bool true,x.2⟩::mE p:List MapEntry).find? _=_;rw [List.find?_cons];rcases List.mem_cons.1 h with e|h
  ·subst e; simp
  ·have b:x.2≠n:=fun e=>hn.1 (List.mem_map.2 ⟨(s,n),h,e.symm⟩);rw [show ((⟨.string ⟨x.1.toArray⟩,.bool true,x.2⟩:MapEntry).born==n)=false by simpa using b];exact find_born hn.2 h
section
variable {P:Program}{ts:Ts}{ls:List (List D)}{h:ai}{dst:Option Tmp}{ty:TypeId}{pos:String}{aJ:Array Edge}{g:Option (Nat×Bool)}
theorem ar.MX {it id b r br n:Nat}{x:Operand}{p:List (List UInt8×Nat)}{seen:Array Nat}{s:List UInt8}(hx:ev ts x=.a (.d (.je it 1 0))) (hit:h it=some (.dD r (.mapIter (some b) br (seen.push n) br))) (hm:h id=some (.dD b (.map (mE p).toArray br))) (f:(s,n)∈p) (i:(p.map (·.2)).Nodup) (k:s.length<=eW) :
  ar P (mk dst (.entry x) ty pos aJ g) ts ls h { rh:=true } (.cF [.d (.str s),.d (.bool true)]) ls h :=
 oV.sI ⟨rfl,rfl,fun L H _ hH j w jl a hl l=>by
  have h1:=l x (by simp [Op.operands]);rw [hx] at h1;rw [hH rfl] at hl;obtain⟨e,hg,_⟩:=Fj (hl.1.obj it _ hit).2 h1;have m:w.heap[b]?=some (.map (mE p).toArray br):=by obtain⟨_,_,_,o,_⟩:=hl.1.obj id _ hm; exact o
  have q:(mE p).toArray.find? (fun e=>e.born==n)=some ⟨.string ⟨s.toArray⟩,.bool true,n⟩:=by
   rw [List.find?_toArray]; exact find_born i f
  exact⟨.tuple #[.string ⟨s.toArray⟩,.bool true],by simp [execOp,e,Instr.entry,getObj,Sem.run_bind,Sem.run,hg,m,Result.andThen,q],[.string ⟨s.toArray⟩,.bool true],rfl,.cons (aI.str s k) (.cons (aI.bool _) .nil)⟩⟩
end
end Go.Ab
/-
 Calls that only lay new blocks. No program text.
-/
namespace Go.Ab
open Go Go.RowKit Go.Sort
variable {ax:bK}
theorem HL.grown {j:J}{w:World}{jl:List Nat}{ls:List (List D)}{h:ai}(hl:HL j w jl ls h) (n:Nat) (os:Array Go.Obj):HL j (Sort.grow (Sort.ahead w n) os) jl ls h/\bV j w (aV j h jl) j (Sort.grow (Sort.ahead w n) os) (aV j h jl):=by
 have f:∀b,b<w.heap.size->(Sort.grow (Sort.ahead w n) os).heap[b]?=w.heap[b]?:=fun b f=>heap_grow_old _ _ f;have hle:Le j w j (Sort.grow (Sort.ahead w n) os):=⟨Nat.le_refl _,fun _ _=>rfl,fun _=>Nat.le_refl _,fun b o g=>uJ (f b (by
  rcases Nat.lt_or_ge b w.heap.size with h|h
  ·exact h
  ·rw [hl.1.fresh b h] at g; omega)),fun _ _=>.inl rfl⟩
 have hk:=hl.keep hle (fun b g=>⟨f b (g.lt hl),rfl⟩) (fun _ _ _=>rfl) (fun b f=>hl.1.fresh b (by simp at f; omega));exact⟨hk.1,{ toLe:=hle,size:=by simp,frame:=fun b h _=>⟨f b h,rfl⟩,own:=fun b _ g=>g,os:=rfl,tape:=rfl,output:=⟨rfl,by simp [Sort.grow,Sort.ahead]⟩ }⟩
end Go.Ab
/-
 slices.SortFunc over a slice that may be stored to: the shelf's contract,read in the abstract state. No program text.
-/
namespace Go.Ab
open Go Go.RowKit Go.Proofs Go.Shelf Go.Sort
variable {ax:bK}
section
variable {P:Program}{ρ:Ren}{T:Type} [Inhabited T] (c:T->List D) (k:Nat)
end
section
variable {P:Program}{ρ:Ren}{T:Type} [Inhabited T] {c:T->List D}{k:Nat}
end
end Go.Ab
/-
 slices.Grow of a nil slice: the shelf's contract,read in the abstract state: a slice that may grow. No program text.
-/
namespace Go.Ab
open Go Go.RowKit Go.Proofs Go.Shelf
variable {ax:bK}
def J.gG (j:J) (b cap:Nat):J:={ j with tok:=fun x=>if x=j.next then some ⟨some (b,cap),0⟩ else j.tok x,next:=j.next+1 }
theorem HL.gG {j:J}{w:World}{jl:List Nat}{ls:List (List D)}{h:ai}(hl:HL j w jl ls h) (k:Nat){b cap:Nat}{cs:Array Value}{e:TypeId}(E:w.heap[b]?=some (.cells cs e (0,0))) (G:cs.size=cap*k) (H:j.F b=0)
  (u:¬aV j h jl b){w0:World}{O:Nat->Prop}(f:bV j w0 O j w (aV j h jl)) (I:w0.heap.size<=b) :
  HL (j.gG b cap) w jl ls (h.set j.next (some (.tok k 0)))/\bV j w0 O (j.gG b cap) w (aV (j.gG b cap) (h.set j.next (some (.tok k 0))) jl):=by
 have hle:Le j w (j.gG b cap) w:=⟨by simp [J.gG],fun _ _=>rfl,fun _=>Nat.le_refl _,fun _ _ _=>rfl,fun t ht=>.inl (by simp only [J.gG]; rw [if_neg (by omega)])⟩;have hk:=hl.keep hle (fun _ _=>⟨rfl,rfl⟩) (fun id hid _=>by simp only [J.gG]; rw [if_neg (by omega)]) hl.1.fresh;have m:bS (j.gG b cap) j.next (.tok k 0)=some b:=by simp [bS,J.gG]
 have K:∀n q,h n=some q->n≠j.next:=fun n q hn c=>by rw [c,hl.1.nh (Nat.le_refl _)] at hn; cases hn
 have v:∀jl x,aV (j.gG b cap) (h.set j.next (some (.tok k 0))) jl x->x=b\/aV (j.gG b cap) h jl x:=by
  rintro jl x (hm|⟨n,q,hn,e⟩)
  ·exact .inr (.inl hm)
  ·by_cases c:n=j.next
   ·subst c; rw [ai.cN] at hn; simp only [Option.some.injEq] at hn; subst hn;rw [m] at e; simp only [Option.some.injEq] at e; exact .inl e.symm
   ·rw [ai.ct h _ c] at hn; exact .inr (.inr ⟨n,q,hn,e⟩)
 have y:∀n q,h n=some q->bS (j.gG b cap) n q≠some b:=fun n q hn e=>u ((hk.2 b).1 (.inr ⟨n,q,hn,e⟩));refine⟨⟨⟨fun id o hi=>?_,fun p z r B x h1 g i l=>?_,hl.1.fresh⟩,⟨hk.1.2.each,hk.1.2.nodup,fun x hx s=>?_⟩⟩,
  { toLe:=f.toLe.trans hle,size:=f.size,frame:=fun x hx hn=>f.frame x hx hn,own:=fun x hx s=>?_,os:=f.os,tape:=f.tape,output:=f.output }⟩
 ·by_cases c:id=j.next
  ·subst c; rw [ai.cN] at hi; simp only [Option.some.injEq] at hi; subst hi;refine⟨by simp [J.gG],some (b,cap),by simp [J.gG],fun b' L C=>?_,fun h=>by cases h⟩;simp only [Option.some.injEq,Prod.mk.injEq] at C;obtain⟨rfl,rfl⟩:=C;exact⟨cs,e,E,G,by rw [Nat.zero_mul]; exact H,Nat.zero_le _,fun _ h=>(by cases h)⟩
  ·rw [ai.ct h _ c] at hi; exact hk.1.1.obj id o hi
 ·by_cases c1:p=j.next<;>by_cases c2:r=j.next
  ·omega
  ·subst c1; rw [ai.cN] at h1; simp only [Option.some.injEq] at h1; subst h1;rw [ai.ct h _ c2] at g;rw [m] at i; simp only [Option.some.injEq] at i; subst i;exact absurd l (y r B g)
  ·subst c2; rw [ai.cN] at g; simp only [Option.some.injEq] at g; subst g;rw [ai.ct h _ c1] at h1;rw [m] at l; simp only [Option.some.injEq] at l; subst l;exact absurd i (y p z h1)
  ·rw [ai.ct h _ c1] at h1; rw [ai.ct h _ c2] at g;exact hk.1.1.inj p z r B x h1 g i l
 ·rcases v [] x s with c|c
  ·subst c; exact u (.inl hx)
  ·exact hk.1.2.apart x hx c
 ·rcases v jl x s with c|c
  ·omega
  ·exact f.own x hx ((hk.2 x).1 c)
theorem MY {P:Program}{ρ:Ren}(L:Lays8.n4 P ρ){b:TI}{z:A}(B:aU P (ρ.t 25)=some b) (C:b.zero=some z) (E:(cD z).length=b.size) (ah:b.size≠0){n:Int}(h0:0<=n) (p:n.toNat*b.bytes<=cS) (hn:n.toNat<=cS)
  {F:Nat}(G:F=ρ.f 4){T:Type}(c:T->List D){r:Nat}(H:ai) :
  AC P F [.d (.slice r none true []),.d (.int .i64 n)] H fun v h'=>∃tk,H tk=none/\v=.a (.d (Sl.d b.size c (some tk) ⟨decide (n=0),[]⟩))/\h'=H.set tk (some (.tok b.size 0)):=by
 subst G;refine⟨L.f4.enters rfl,fun j w cT hr g=>?_⟩;have hl:HL j w [] [] H:=⟨hr,⟨.nil,by simp,by simp⟩⟩;cases g with
 | cons h1 g =>
 cases g with
 | cons I g =>
 cases g
 rename_i v1 v2
 obtain⟨K,aj,M,_,N,O,_,s⟩:=fH B;rw [C] at s;obtain⟨zv,Q,R⟩:=nk s;have S:zv.cells.size=b.size:=by have:=(R j w).cells.length; rw [E] at this; simpa using this.symm
 have U:aI j w (.slice r none true []) v1:=h1;have W:aI j w (.int .i64 n) v2:=I;cases U;cases W;have u:=hr.nh (Nat.le_refl _);have x:n=(n.toNat:Int):=(Int.toNat_of_nonneg h0).symm;have ak:cS=140737488355328:=rfl;generalize n.toNat=m at x p hn;subst x;by_cases hm:m=0
 ·subst hm;refine(Any8.slices_Grow_room L none 0 0 0 w (by omega) (by omega) (by omega) (by omega)).mono ?_;rintro e w' ⟨rfl,rfl⟩;obtain⟨k,l⟩:=hl.fG b.size;refine⟨_,_,j.fG,_,rfl,⟨j.next,u,rfl,rfl⟩, ?_,k.1,l⟩;exact aI.f_ _ _ fun t ht=>by simp at ht; subst ht; simp [J.fG]
 ·refine(Any8.slices_Grow_grow L K zv M Q (by rw [N]; omega) none 0 0 m [] w (by omega) (by omega) (by rw [O]; simpa [cS] using p) (by omega) (by simp) (fun _=>rfl) (fun a h=>by cases h)).mono ?_;rintro e w' ⟨rfl,rfl⟩;generalize X:grownCap w (0+m) 0 (ρ.t 25)=cap;have al:m<=cap:=by rw [<- X]; have:=grownCap_ge w (0+m) 0 (ρ.t 25); omega
  generalize Y:(([]:List Value).toArray++Builtin.zeroCells zv.cells (0+m-0)++Builtin.zeroCells zv.cells (cap-(0+m)))=cs;have Z:cs.size=cap*b.size:=by
   rw [<- Y];simp only [Array.size_append,size_zeroCells,S,<- Nat.add_mul,List.size_toArray,List.length_nil,Nat.zero_add]
   congr 1; omega
  have y:=hl.drew.data (ax:=ax) (.cells cs (ρ.t 25)) 0;have aa:j.eP w.drew.heap.size 0=j:=J.uI (hl.1.fresh _ (Nat.le_refl _));rw [aa] at y;have am:(w.drew).heap.size=w.heap.size:=rfl;obtain⟨k,l⟩:=y;obtain⟨ab,ad⟩:=k.gG b.size (heap_alloc_new w.drew _) Z (hl.1.fresh _ (Nat.le_refl _)) (fun ae=>by
   have af:aV j H [] w.heap.size:=by
    rcases ae with hm|⟨i,o,hi,e⟩
    ·simp at hm
    ·exact .inr ⟨i,o,hi,e⟩
   have:=aV.lt hl af; omega) ((bV.drew j w _).trans l) (Nat.le_refl _)
  refine⟨_,_,_,_,rfl,⟨j.next,u,rfl,rfl⟩, ?_,ab.1,ad⟩;have ag:decide ((m:Int)=0)=false:=decide_eq_false (by omega);show aI _ _ (.slice b.size (some j.next) (decide ((m:Int)=0)) []) _;rw [ag];refine aI.slice _ _ [] ⟨w.heap.size,0,none⟩ cap (fun _=>undef) (by simp) (by simp) (by simp) ⟨.inl rfl,by simp⟩ (by simp) fun t ht=>?_;simp only [Option.some.injEq] at ht;subst ht;refine⟨by simp [J.gG],fun q hq=>?_⟩
  simp only [J.gG,if_true,Option.some.injEq] at hq;subst hq;exact⟨by simp,fun _=>.inr ⟨_,rfl,rfl⟩⟩
end Go.Ab
/-
 slices.DeleteFunc over a slice that may be stored to and is not used any more: the shelf's contract,read in the abstract state. No program text.
-/
namespace Go.Proofs
open Go.Shelf Go.RowKit Go.Lib Go.Sort
variable {P:Program}{ρ:Ren}
end Go.Proofs
namespace Go.Ab
open Go Go.RowKit Go.Proofs Go.Shelf Go.Sort
variable {ax:bK}
section
variable {P:Program}{ρ:Ren}
variable {T:Type} [Inhabited T] {v:T->Value}{d1:T->D}
end
end Go.Ab
/-
 Functions of the library that only compute,division,conversions; a block that stays as it is. No program text.
-/
namespace Go.Ab
open Go Go.RowKit Go.Proofs Go.Shelf
variable {ax:bK}
section
variable {P:Program}{ts:Ts}{ls:List (List D)}{h:ai}{dst:Option Tmp}{ty:TypeId}{pos:String}{aJ:Array Edge}{g:Option (Nat×Bool)}
theorem ar.MZ {t u:TypeId}{x y:Operand}{k:IntKind}{m n:Int}(hx:ev ts x=.a (.d (.int k m))) (i:ev ts y=.a (.d (.int k n))) (hn:n≠0) :
  ar P (mk dst (.binOp .quo t x y u) ty pos aJ g) ts ls h {} (.a (.d (.int k (k.wrap (m.tdiv n))))) ls h :=
 ar.dH fun j w jl a b=>by
  have h1:=b x (by simp [Op.operands]);have f:=b y (by simp [Op.operands]);rw [hx] at h1; rw [i] at f;exact⟨_,by simp [execOp,iI h1,iI f,zI,binOp,Op.intDiv,hn],aI.int _ _⟩
theorem ar.M0 {t u:TypeId}{x y:Operand}{k:IntKind}{m n:Int}(hx:ev ts x=.a (.d (.int k m))) (i:ev ts y=.a (.d (.int k n))) (hn:n≠0) :
  ar P (mk dst (.binOp .rem t x y u) ty pos aJ g) ts ls h {} (.a (.d (.int k (m.tmod n)))) ls h :=
 ar.dH fun j w jl a b=>by
  have h1:=b x (by simp [Op.operands]);have f:=b y (by simp [Op.operands]);rw [hx] at h1; rw [i] at f;exact⟨_,by simp [execOp,iI h1,iI f,zI,binOp,Op.intDiv,hn],aI.int _ _⟩
theorem Fq {P:Program}{t:TypeId}{b:TI}(f:aU P t=some b):∃d,P.underlying t=some d/\fo d=b.k:=by
 obtain⟨i,d,_,g,_,_,j,_⟩:=fH f;exact⟨d,g,j⟩
theorem Fs {P:Program}{t:TypeId}{f:TI}{k:IntKind}(g:aU P t=some f) (hk:f.k=.int k):P.underlying t=some (.int k):=by
 obtain⟨d,h1,b⟩:=Fq g;rw [hk] at b;cases d<;>simp [fo] at b;subst b; exact h1
theorem ar.M1 {s t:TypeId}{f b:TI}{x:Operand}{k k':IntKind}{n:Int}(hS:aU P s=some f) (i:aU P t=some b) (hk:b.k=.int k') (hx:ev ts x=.a (.d (.int k n))) :
  ar P (mk dst (.convert s t x) ty pos aJ g) ts ls h {} (.a (.d (.int k' (k'.wrap n)))) ls h :=
 ar.dH fun j w jl a l=>by
  have h1:=l x (by simp [Op.operands]);rw [hx] at h1;obtain⟨d,m,_⟩:=Fq hS;exact⟨.int k' (k'.wrap n),by simp [execOp,iI h1,convert,run_underlying m,run_underlying (Fs i hk),Conv.intToInt],aI.int _ _⟩
def nA (s:Sl Int):Bs:=s.l.map fun n=>UInt8.ofNat n.toNat
theorem Ft:∀(l:List Int) (r:ByteArray),l.foldl (fun r n=>r.push (UInt8.ofNat n.toNat)) r=⟨(r.data.toList++l.map fun n=>UInt8.ofNat n.toNat).toArray⟩
 | [],r=>by simp
 | a::l,r=>by rw [List.foldl_cons,Ft l]; simp [ByteArray.push]
theorem ar.M2 {s e t:TypeId}{q u B:TI}{x:Operand}{tok:Option Nat}{y:Sl Int}(hS:aU P s=some q) (M:q.k=.slice e) (N:aU P e=some u) (he:u.k=.int .u8) (O:aU P t=some B) (ht:B.k=.str)
  (hx:ev ts x=.a (.d (Sl.d 1 (bC .u8) tok y))):ar P (mk dst (.convert s t x) ty pos aJ g) ts ls h {} (.a (.d (.str (nA y)))) ls h :=
 ar.dH fun j w jl a Q=>by
  have h1:=Q x (by simp [Op.operands]);rw [hx] at h1;have f:aI j w (.slice 1 tok y.nl (y.l.map (bC .u8))) (a.eval x):=h1;have C:=nt hS M;have E:=Fs N he;have F:=sK O ht;generalize hv:a.eval x=v at f;have G:(y.l.map (bC .u8)).flatten=y.l.map (D.int .u8):=by
   induction y.l with
   | nil=>rfl
   | cons a r p=>simp [bC,p]
  generalize H:y.l.map (bC .u8)=rows at f;generalize Z:y.nl=nl at f;cases f with
  | f_ _ _ _ =>
   have R:y.l=[]:=by simpa using H
   exact⟨.string .empty,by simp [execOp,hv,run_convert_bytes_string w s t e _ _ _ C E F,Conv.bytesToString],by
    show aI j w (.str (nA y)) _;rw [nA,R]; exact aI.str [] (by simp [eW])⟩
  | slice _ _ _ m cap cv hk hn hc bR hr aa =>
   subst H;rw [List.length_map] at hn hc;have hlen:(y.l.map (bC .u8)).length=y.l.length:=by simp
   have ab:cS<=eW:=by unfold cS eW; omega
   have S:(loadCells m y.l.length).run P w=.ok (y.l.map (Value.int .u8)).toArray w:=by
    by_cases h0:y.l=[]
    ·rw [h0]; rfl
    ·have I:m.spot=none:=bR.1.resolve_left (by simpa using h0);obtain⟨b,o,sp⟩:=m;simp only at I; subst I;obtain⟨cs,g1,g2⟩:=zB (P:=P) (j:=j) (w:=w) (b:=b) (o:=o) (y.l.map (D.int .u8)) fun i z J=>by
      have hi:i<(y.l.map (bC .u8)).flatten.length:=by rw [G]; exact(List.getElem?_eq_some_iff.1 J).1
      refine⟨cv i,(bR.2 i hi).2, ?_⟩;have K:=hr i hi;have U:(y.l.map (bC .u8)).flatten[i]=z:=by
       have L:(y.l.map (bC .u8)).flatten[i]?=some z:=by rw [G]; exact J
       rw [List.getElem?_eq_getElem hi] at L; simpa using L
      rw [U] at K; exact K
     rw [List.length_map] at g2;rw [g2];have W:cs=y.l.map (Value.int .u8):=by
      clear g2;generalize y.l=l at g1;induction l generalizing cs with
      | nil=>cases g1; rfl
      | cons a r p =>
       rw [List.map_cons] at g1;cases g1 with
       | cons X Y=>cases X; rw [p _ Y,List.map_cons]
     rw [W]
   rw [hlen] at hv;refine⟨.string ⟨(nA y).toArray⟩, ?_, ?_⟩
   ·simp only [execOp,hv,Sem.run_bind,run_convert_bytes_string w s t e _ _ _ C E F,run_bytesToString w m _ cap y.l S,Result.andThen,Sem.run_pure];rw [Ft]; simp [nA]
   ·exact aI.str _ (by simp only [nA,List.length_map]; omega)
end
def fU (P:Program) (o:Ab.Obj):Prop:=∃g t b,o=.fix g (.cells (Lib.pow10Tab.map fun z=>Value.int .u64 z).toArray t b)/\P.globalNamed "internal/strconv.uint64pow10"=some g
theorem fU.nC {P:Program}{o:Ab.Obj}(h:fU P o){j:J}{w:World}{id:Nat}(hr:gu j w id o):Lib.TabIs P w "internal/strconv.uint64pow10" .u64 Lib.pow10Tab:=by
 obtain⟨g,t,f,rfl,hg⟩:=h;have b:w.heap[g]?=some _:=hr;unfold Lib.TabIs World.var?;rw [hg,Option.bind_some,b]
theorem M3 {P:Program}{ρ:Ren}(L:LaysM.n171 P ρ){n:Int}(h0 : -9223372036854775808<=n) (h1:n<=9223372036854775807){F:Nat}(g:F=ρ.f 171){H:ai}{gT:Nat}{oT:Ab.Obj}(i:H gT=some oT) (l:fU P oT) (m:(Lib.itoa n).length<=eW) :
  AC P F [.d (.int .i64 n)] H fun v h'=>v=.a (.d (.str (Lib.itoa n)))/\h'=H:=by
 subst g;refine⟨enters_of L.f171 (by kernel_rfl) rfl,fun j w c hr b=>?_⟩;cases b with
 | cons o b =>
 cases b;have p:aI j w (.int .i64 n) _:=o;cases p;refine(Any.strconv_Itoa L n h0 h1 w (l.nC (hr.obj gT oT i).2)).mono ?_;rintro e w' ⟨rfl,k,os,rfl⟩;have hl:HL j w [] [] H:=⟨hr,⟨.nil,by simp,by simp⟩⟩;obtain⟨q,r⟩:=hl.grown k os;exact⟨_,_,j,H,rfl,⟨rfl,rfl⟩,aI.str _ m,q.1,r⟩
end Go.Ab
/-
 index of an array by value,whose elements are one cell each. No program text.
-/
namespace Go.Ab
open Go Go.RowKit
variable {ax:bK}
theorem ar.M4 {α:Type}{f:α->D}{P:Program}{ts:Ts}{ls:List (List D)}{h:ai}{dst:Option Tmp}{ty:TypeId}{pos:String}{aJ:Array Edge}{g:Option (Nat×Bool)}{t e:TypeId}{n:Nat}{b:TI}{x ix:Operand}{p:IntKind}{z:Int}{l:List α}{y:α}(hu:P.underlying t=some (.array n e)) (q:P.underlying e=some .string) (r:aU P e=some b) (s:b.size=1) (hx:ev ts x=.a (.agg (l.map f))) (hi:ev ts ix=.a (.d (.int p z)))
  (hn:n=l.length) (hr:dh l z=some y):ar P (mk dst (.index t x ix) ty pos aJ g) ts ls h {} (.a (.d (f y))) ls h :=
 ar.dH fun j w jl act k=>by
  have h1:=k x (by simp [Op.operands]);have m:=k ix (by simp [Op.operands]);rw [hx] at h1; rw [hi] at m;obtain⟨cs,u,B⟩:=h1;obtain⟨h0,o⟩:=E_ hr;have bw:=(List.getElem?_eq_some_iff.1 o).1;have C:z<(n:Int):=by omega
  obtain⟨v,hv,E⟩:=B.get (i:=z.toNat) (x:=f y) (by rw [List.getElem?_map,o]; rfl);refine⟨v, ?_,E⟩;simp [execOp,u,iI m,Instr.index,asIntOf,eE hu,jm r,h0,C,s];have F:(Go.part e cs.toArray z.toNat).run P w=.ok v w:=by simp [Go.part,isAgg,run_underlying q,hv]
  rw [F]; rfl
end Go.Ab
/-
 A state in which a local's cells are read in another way is weaker. No program text.
-/
namespace Go.Ab
open Go Go.RowKit
variable {ax:bK}
end Go.Ab
/-
 Bound methods: functions that hold their first arguments; functions as parameters whose contract is told for one heap. No program text.
-/
namespace Go.Ab
open Go Go.RowKit
variable {ax:bK}
def k7 [bK] (P:Program) (fd:D) (args:List A) (H:ai) (cI:V->ai->Prop):Prop :=
 match fd with
 | .func k cl=>AC P k (args++cl.map A.d) H cI
 | .kQ k bs=>AC P k (bs.map A.d++args) H cI
 | _=>False
section
variable {P:Program}{ts:Ts}{ls:List (List D)}{h:ai}{dst:Option Tmp}{ty:TypeId}{pos:String}{aJ:Array Edge}{g:Option (Nat×Bool)}
theorem ar.M5 {f:FuncId}{b:Array Operand}{xs:List D}(hx:qD ts b.toList=some xs):ar P (mk dst (.makeFunc (.func f) b #[]) ty pos aJ g) ts ls h {} (.a (.d (.kQ f xs))) ls h :=
 ar.dH fun j w jl act l=>by
  have h1:=wT (j:=j) (w:=w) (jl:=jl) (act:=act) b.toList xs hx fun x hx=>l x (by simp [Op.operands]; simpa using hx);refine⟨.func (.func f) (b.toList.map act.eval).toArray #[], ?_,aI.kQ f xs _ h1.length fun i hi m=>?_⟩
  ·simp [execOp,Instr.makeFunc]
   apply Array.ext'; simp
  ·obtain⟨y,k,hr⟩:=h1.get (List.getElem?_eq_getElem hi);rw [List.getElem?_eq_getElem m] at k;simp only [Option.some.injEq] at k;rw [k]; exact hr
theorem M6 {f:Operand}{args:Array Operand}{cA:Array TypeId}{dO:FuncId}{bs:List D}{xs:List A}{cI:V->ai->Prop}{L:List (List D)}{H:ai}(q:ev ts f=.a (.d (.kQ dO bs))) (s:gE ts args.toList=some xs)
  (hc:AC P dO (bs.map .d++xs) H cI) :
  c_ P (mk dst (.call { callee:=.value f,args:=args,argTypes:=cA }) ty pos aJ g) ts L H fun v aM h'=>cI v h'/\aM=L:=by
 intro j w jl a hl k K Q hk;have h1:=k f (by simp [Op.operands,Call.operands]);rw [q] at h1;have t:=zM (j:=j) (w:=w) (jl:=jl) (act:=a) args.toList xs s fun x hx=>k x (by simp [Op.operands,Call.operands]; right; simpa using hx);have o:aI j w (.kQ dO bs) (a.eval f):=h1;generalize u:a.eval f=S at o;cases o with
 | kQ _ _ jP hlen hr =>
  have B:aY (de j w) (bs.map .d++xs) (jP++args.toList.map a.eval):=by
   refine(aY.jN (by simp [hlen]) fun i x y hx C=>?_).append t;rw [List.getElem?_map] at hx;cases e:bs[i]? with
   | none=>rw [e] at hx; simp at hx
   | some z =>
    rw [e] at hx; simp at hx; subst hx;obtain⟨hi,E⟩:=List.getElem?_eq_some_iff.1 e;obtain⟨G,I⟩:=List.getElem?_eq_some_iff.1 C;have:=hr i hi G;rw [E,I] at this; exact this
  have J:=hc.runs j w _ hl.1 B;have M:(execOp a.eval (mk dst (.call { callee:=.value f,args:=args,argTypes:=cA }) ty pos aJ g)).run P w=.ok (.enter dO (jP++args.toList.map a.eval).toArray) w:=by
   have he:=hc.enter (jP++args.toList.map a.eval).toArray w;have N:jP.toArray++Array.map a.eval args=(jP++args.toList.map a.eval).toArray:=by apply Array.ext'; simp
   simp only [execOp,resolve,u,Deferred.ofValue,Sem.run_bind,Sem.run_pure,Result.andThen,invoke,List.append_eq,Array.append_empty];rw [N]; exact he
  unfold Oper.wp;rw [M,Oper.upon_enter];refine J.mono ?_;rintro e w' ⟨r,cv,j',h',rfl,O,hv,hh,m⟩;have p:∀b,b∈jl->b<w.heap.size:=fun b l=>aV.lt hl (.inl l);have R:∀b,b∈jl->w'.heap[b]?=w.heap[b]?/\j'.F b=j.F b:=fun b l=>m.frame b (p b l) (hl.2.apart b l);refine hk r L h' cv j' w' jl ⟨O,rfl⟩ (hv.mono (Le.refl _ _) (fun i b l=>by simp at l)) ⟨hh,⟨oP hl.2.each fun xs b l h=>h.keep m.toLe (R b l),hl.2.nodup,fun b l k=>hl.2.apart b l (m.own b (p b l) k)⟩⟩ (Ext.refl _) ?_
  refine { m with frame:=fun b l hn=>m.frame b l (fun k=>hn ?_),own:=fun b l k=>?_ }
  ·rcases k with k|k
   ·simp at k
   ·exact .inr k
  ·rcases k with k|k
   ·exact .inl k
   ·rcases m.own b l (.inr k) with h|h
    ·simp at h
    ·exact .inr h
theorem c_.M7 {f:Operand}{args:Array Operand}{cA:Array TypeId}{fd:D}{xs:List A}{cI:V->ai->Prop}{L:List (List D)}{H:ai}(b:ev ts f=.a (.d fd)) (i:gE ts args.toList=some xs) (hc:k7 P fd xs H cI) :
  c_ P (mk dst (.call { callee:=.value f,args:=args,argTypes:=cA }) ty pos aJ g) ts L H fun v aM h'=>cI v h'/\aM=L:=by
 cases fd with
 | func k cl=>exact uQ b i hc
 | kQ k bs=>exact M6 b i hc
 | _=>exact hc.elim
theorem ar.Ag {f:Operand}{args:Array Operand}{cA:Array TypeId}{fd:D}{xs:List A}{v:V}(b:ev ts f=.a (.d fd)) (i:gE ts args.toList=some xs)
  (hc:k7 P fd xs h fun r h'=>r=v/\h'=h) :
  ar P (mk dst (.call { callee:=.value f,args:=args,argTypes:=cA }) ty pos aJ g) ts ls h { rh:=true } v ls h:=by
 intro L H _ hH;have e:=hH rfl;subst e;exact(c_.M7 b i hc).mono fun _ _ _ ⟨⟨j,k⟩,l⟩=>⟨j,l,k⟩
end
end Go.Ab
namespace Go.Ab
variable {ax:bK}
def on {α β:Sort _}(v:α) (k:α->β):β:=k v
namespace Q
universe u
variable {R O O2 Z:Type}{α:Type}
theorem kZ {c:Bool}{a b r:α}(h:c=true) (f:a=r):cond c a b=r:=by rw [h]; exact f
theorem zU {c:Bool}{a b r:α}(h:c=false) (f:b=r):cond c a b=r:=by rw [h]; exact f
theorem uY {c:Bool}{a b:Option R}{x y:O}{K:O->Option R}(h1:a=K x) (f:b=K y):cond c a b=K (cond c x y):=by cases c<;>assumption
theorem pe {c:Bool}{a b:Option R}{x y:Option O}{K:O->Option R}(h1:a=Option.bind x K) (f:b=Option.bind y K):cond c a b=Option.bind (cond c x y) K:=by cases c<;>assumption
theorem nD {o:Option α}{v:α}{k:α->Option R}{K:O->Option R}{b:α->O}(h:o=some v) (f:∀x,x=v->k x=K (b x)):o.bind k=K (on v b):=by rw [h]; exact f v rfl
theorem pg {o:Option α}{v:α}{k:α->Option R}{K:O->Option R}{b:α->Option O}(h:o=some v) (f:∀x,x=v->k x=Option.bind (b x) K):o.bind k=Option.bind (on v b) K:=by rw [h]; exact f v rfl
theorem Ah {o o':Option α}{k:α->Option R}{K:O->Option R}{b:α->Option O}(h:o=o') (f:∀x,k x=Option.bind (b x) K):o.bind k=Option.bind (o'.bind b) K:=by
 rw [h]; cases o' with
 | none=>rfl
 | some v=>exact f v
theorem Ai {c:Bool}{o:Option α}{v d:α}{k:α->Option R}{K:O->Option R}{b:α->Option O}(h:o=some v) (f:∀x,x=cond c v d->k x=Option.bind (b x) K):aR c o d k=Option.bind (on (cond c v d) b) K:=by
 rw [h]; cases c<;>exact f _ rfl
theorem xb {c:Bool}{o:Option α}{v d:α}{k:α->Option R}{K:O->Option R}{b:α->O}(h:c=true->o=some v) (f:∀x,x=cond c v d->k x=K (b x)):aR c o d k=K (on (cond c v d) b):=by
 cases c with
 | true=>rw [h rfl]; exact f _ rfl
 | false=>exact f _ rfl
theorem qN {c:Bool}{o o':Option α}{d:α}{k:α->Option R}{K:O->Option R}{b:α->Option O}(h:o=o') (f:∀x,k x=Option.bind (b x) K):aR c o d k=Option.bind (aR c o' d b) K:=by
 rw [h]; cases c with
 | false=>exact f d
 | true =>
  cases o' with
  | none=>rfl
  | some v=>exact f v
variable {lhs:Option R}
theorem sZ {q:Z}{b:Z->O}{K:O->Option R}(h:∀f:Z->Option R,(∀o,f o=K (b o))->lhs=f q):lhs=K (on q b):=h (fun o=>K (b o)) fun _=>rfl
theorem xd {q:Z}{b:Z->Option O}{K:O->Option R}(h:∀f:Z->Option R,(∀o,f o=Option.bind (b o) K)->lhs=f q):lhs=Option.bind (on q b) K:=h (fun o=>Option.bind (b o) K) fun _=>rfl
theorem xe {q:Option Z}{b:Z->Option O}{K:O->Option R}(h:∀f:Z->Option R,(∀o,f o=Option.bind (b o) K)->lhs=Option.bind q f):lhs=Option.bind (Option.bind q b) K:=by
 rw [h (fun o=>Option.bind (b o) K) fun _=>rfl]; cases q<;>rfl
theorem M8 {α:Type}(o:Option α):Option.bind o some=o:=by cases o<;>rfl
theorem k8 {l:List α}{i:Nat}{x:α}(h:l[i]?=some x):l.drop i=x::l.drop (i+1):=by
 obtain⟨hi,rfl⟩:=List.getElem?_eq_some_iff.1 h;exact List.drop_eq_getElem_cons hi
theorem Fu {i n:Nat}(h:i<n):decide ((i:Int)<(n:Int))=true:=by simpa using h
theorem M9 {i n:Nat}(h:¬i<n):decide ((i:Int)<(n:Int))=false:=by simpa using h
theorem qP {s:Sl α}{i:Nat}(h:i<=s.l.length):nw s none (some ((i:Nat):Int))=some ⟨s.nl,s.l.take i⟩:=by
 unfold nw; rw [if_pos (by simp; omega)]; simp
end Q
end Go.Ab
namespace Go.Ab
variable {ax:bK}
theorem Q.getD_some {α:Type}{l:List α}{i:Nat}{d:α}(h:i<l.length):l[i]?=some (l[i]?.getD d):=by simp [h]
theorem Q.M_ {s:Bs}{n:Nat}(h:n<=s.length):w_ s none (some ((n:Nat):Int))=some (List.take n s):=by
 unfold w_; rw [if_pos (by simp; omega)]; simp
theorem Q.preB {α R:Type}{o:Option α}{v:α}{k:α->Option R}{r:Option R}(h:o=some v) (b:∀x,x=v->k x=r):o.bind k=r:=by rw [h]; exact b v rfl
end Go.Ab
/-
 Walks over the list layer: what is known of the result is taken apart in the new form (a bind,a value under a name,a guard,a choice,a join,a loop over a list).
-/
namespace Go.Ab
open Go
section
variable {R O Z α:Type}{r:R}
theorem qT {o o':Option α}{k:α->Option R}(p:o'=o) (h:o.bind k=some r):∃x,o'=some x/\k x=some r:=by rw [p]; exact bx h
theorem qO {o o':Option α}{k:α->Option O}{K:O->Option R}(p:o'=o) (h:Option.bind (o.bind k) K=some r):∃x,o'=some x/\Option.bind (k x) K=some r:=by
 rw [p]; cases o with
 | none=>cases h
 | some v=>exact⟨v,rfl,h⟩
theorem vT {o:Option α}{v:α}{k:α->Option R}(p:o=some v) (h:on v k=some r):∃x,o=some x/\k x=some r:=⟨v,p,h⟩
theorem vO {o:Option α}{v:α}{k:α->Option O}{K:O->Option R}(p:o=some v) (h:Option.bind (on v k) K=some r):∃x,o=some x/\Option.bind (k x) K=some r:=⟨v,p,h⟩
theorem vP {o:Option α}{v:α}{k:α->O}{K:O->Option R}(p:o=some v) (h:K (on v k)=some r):∃x,o=some x/\K (k x)=some r:=⟨v,p,h⟩
theorem k9 {c:Bool}{o:Option α}{v d:α}{k:α->Option R}(p:c=true->o=some v) (h:on (cond c v d) k=some r):∃x,(c=true->o=some x)/\k x=some r :=
 ⟨cond c v d,fun e=>by rw [e]; exact p e,h⟩
theorem eH {c:Bool}{o:Option α}{v d:α}{k:α->Option O}{K:O->Option R}(p:c=true->o=some v) (h:Option.bind (on (cond c v d) k) K=some r):∃x,(c=true->o=some x)/\Option.bind (k x) K=some r :=
 ⟨cond c v d,fun e=>by rw [e]; exact p e,h⟩
theorem iu {c:Bool}{o:Option α}{v d:α}{k:α->O}{K:O->Option R}(p:c=true->o=some v) (h:K (on (cond c v d) k)=some r):∃x,(c=true->o=some x)/\K (k x)=some r :=
 ⟨cond c v d,fun e=>by rw [e]; exact p e,h⟩
theorem dQ {c:Bool}{o o':Option α}{d:α}{k:α->Option R}(p:o'=o) (h:aR c o d k=some r):∃x,(c=true->o'=some x)/\k x=some r:=by rw [p]; exact Fb h
theorem eS {c:Bool}{o o':Option α}{d:α}{k:α->Option O}{K:O->Option R}(p:o'=o) (h:Option.bind (aR c o d k) K=some r):∃x,(c=true->o'=some x)/\Option.bind (k x) K=some r:=by
 rw [p]; unfold aR at h; split at h
 ·obtain⟨x,e,b⟩:=qO rfl h; exact⟨x,fun _=>e,b⟩
 ·rename_i hc; exact⟨d,fun e=>absurd e hc,h⟩
theorem bW {t:Z}{b:Z->Option R}(h:on t b=some r):∃K:Z->Option R,(∀z,K z=b z)/\K t=some r:=⟨b,fun _=>rfl,h⟩
theorem gH {t:Z}{b:Z->Option O}{K:O->Option R}(h:Option.bind (on t b) K=some r):∃J:Z->Option R,(∀z,J z=Option.bind (b z) K)/\J t=some r:=⟨fun z=>Option.bind (b z) K,fun _=>rfl,h⟩
theorem eL {t:Z}{b:Z->O}{K:O->Option R}(h:K (on t b)=some r):∃J:Z->Option R,(∀z,J z=K (b z))/\J t=some r:=⟨fun z=>K (b z),fun _=>rfl,h⟩
theorem b_ {t:Option Z}{b:Z->Option R}(h:Option.bind t b=some r):∃J:Z->Option R,(∀z,J z=b z)/\Option.bind t J=some r:=⟨b,fun _=>rfl,h⟩
theorem dI {t:Option Z}{b:Z->Option O}{K:O->Option R}(h:Option.bind (Option.bind t b) K=some r):∃J:Z->Option R,(∀z,J z=Option.bind (b z) K)/\Option.bind t J=some r :=
 ⟨fun z=>Option.bind (b z) K,fun _=>rfl,by cases t<;>exact h⟩
theorem mT {b:Sort _}{F:b}{t:b->Option R}(h:on F t=some r):∃k,k=F/\t k=some r:=⟨F,rfl,h⟩
theorem mO {b:Sort _}{F:b}{t:b->Option O}{K:O->Option R}(h:Option.bind (on F t) K=some r):∃k,k=F/\Option.bind (t k) K=some r:=⟨F,rfl,h⟩
theorem mP {b:Sort _}{F:b}{t:b->O}{K:O->Option R}(h:K (on F t)=some r):∃k,k=F/\K (t k)=some r:=⟨F,rfl,h⟩
theorem ku {K F:Z->Option R}{z:Z}(h:∀z,K z=F z) (e:K z=some r):F z=some r:=by rw [<- h]; exact e
theorem dl {l:List α}{i:Nat}{x:α}(h:l[i]?=some x):l.length-(i+1)<l.length-i:=by
 obtain⟨hi,_⟩:=List.getElem?_eq_some_iff.1 h; omega
theorem dn {n i:Nat}(h:i<n):n-(i+1)<n-i:=by omega
end
section
variable {ax:bK}{P:Program}{c:Operand}{u v:Code}{Q:Exit->St->Prop}{σ:St}{b:Bool}{α R:Type}{r:R}
theorem ah.pe {A B:Option α}{K:α->Option R}(f:Option.bind (bif b then A else B) K=some r) (hc:ev σ.ts c=.a (.d (.bool b))) (ht:b=true->Option.bind A K=some r->ah P u Q σ) (g:b=false->Option.bind B K=some r->ah P v Q σ):ah P (.cond c u v) Q σ :=
 ah.cond hc (fun h=>ht h (by subst h; exact f)) (fun h=>g h (by subst h; exact f))
theorem ah.uY {A B:α}{K:α->Option R}(f:K (bif b then A else B)=some r) (hc:ev σ.ts c=.a (.d (.bool b))) (ht:b=true->K A=some r->ah P u Q σ) (g:b=false->K B=some r->ah P v Q σ):ah P (.cond c u v) Q σ :=
 ah.cond hc (fun h=>ht h (by subst h; exact f)) (fun h=>g h (by subst h; exact f))
theorem ah.bN {l:List α}{i:Nat}(p:List α->Prop) (b:p (l.drop i)) (hc:ev σ.ts c=.a (.d (.bool (decide (((i:Nat):Int)<((l.length:Nat):Int))))))
  (ht:∀x,l[i]?=some x->decide (((i:Nat):Int)<((l.length:Nat):Int))=true->p (x::l.drop (i+1))->ah P u Q σ) (j:decide (((i:Nat):Int)<((l.length:Nat):Int))=false->p []->ah P v Q σ):ah P (.cond c u v) Q σ:=by
 refine ah.cond hc (fun h=>?_) (fun h=>?_)
 ·have f:i<l.length:=by have:=of_decide_eq_true h; omega
  have g:l[i]?=some l[i]:=List.getElem?_eq_getElem f;exact ht _ g h (by rw [<- Go.Ab.Q.k8 g]; exact b)
 ·have f:¬((i:Nat):Int)<((l.length:Nat):Int):=of_decide_eq_false h;exact j h (by rw [List.drop_of_length_le (by omega)] at b; exact b)
theorem ah.Fw {n i:Nat}(p:Nat->Prop) (b:p (n-i)) (hc:ev σ.ts c=.a (.d (.bool (decide (((i:Nat):Int)<((n:Nat):Int))))))
  (ht:i<n->decide (((i:Nat):Int)<((n:Nat):Int))=true->p (n-(i+1)+1)->ah P u Q σ) (g:decide (((i:Nat):Int)<((n:Nat):Int))=false->p 0->ah P v Q σ):ah P (.cond c u v) Q σ:=by
 refine ah.cond hc (fun h=>?_) (fun h=>?_)
 ·have f:i<n:=by have:=of_decide_eq_true h; omega
  exact ht f h (by rw [show n-(i+1)+1=n-i by omega]; exact b)
 ·have f:¬((i:Nat):Int)<((n:Nat):Int):=of_decide_eq_false h;exact g h (by rw [show n-i=0 by omega] at b; exact b)
theorem ah.xf {l:List α}{i:Nat}{d b:Bool}(p:List α->Prop) (E:Prop) (f:p (l.drop i)) (he:p []->E) (m:∀x,d=false->p (x::l.drop (i+1))->E) (k:b=(decide (((i:Nat):Int)<((l.length:Nat):Int))&&d)) (hc:ev σ.ts c=.a (.d (.bool b)))
  (ht:∀x,l[i]?=some x->b=true->d=true->p (x::l.drop (i+1))->ah P u Q σ) (o:b=false->E->ah P v Q σ):ah P (.cond c u v) Q σ:=by
 refine ah.cond hc (fun h=>?_) (fun h=>o h ?_)
 ·have h0:=h; rw [k,Bool.and_eq_true] at h0;have g:i<l.length:=by have:=of_decide_eq_true h0.1; omega
  have j:l[i]?=some l[i]:=List.getElem?_eq_getElem g;exact ht _ j h h0.2 (by rw [<- Go.Ab.Q.k8 j]; exact f)
 ·by_cases g:i<l.length
  ·have j:l[i]?=some l[i]:=List.getElem?_eq_getElem g;rw [Go.Ab.Q.k8 j] at f;refine m _ ?_ f;rw [k,Go.Ab.Q.Fu g,Bool.true_and] at h; exact h
  ·exact he (by rw [List.drop_of_length_le (by omega)] at f; exact f)
end
end Go.Ab
namespace Go.Ab
variable {ax:bK}
def Ok {α:Type}(o:Option α):Prop:=∃r,o=some r
namespace aZ
variable {α β:Type}
theorem some (a:α):Ok (Option.some a):=⟨a,rfl⟩
theorem bind {o:Option α}{k:α->Option β}(h:Ok o) (b:∀v,o=Option.some v->Ok (k v)):Ok (o.bind k):=by
 obtain⟨v,hv⟩:=h; rw [hv]; exact b v hv
theorem guard {c:Bool}{o:Option α}{d:α}{k:α->Option β}(h:c=true->Ok o) (b:∀v,(c=true->o=Option.some v)->(c=false->v=d)->Ok (k v)):Ok (aR c o d k):=by
 cases c with
 | false=>exact b d (fun h=>by cases h) (fun _=>rfl)
 | true=>obtain⟨v,hv⟩:=h rfl; unfold aR; rw [if_pos rfl,hv]; exact b v (fun _=>hv) (fun h=>by cases h)
theorem cond {c:Bool}{a b:Option α}(h:c=true->Ok a) (f:c=false->Ok b):Ok (_root_.cond c a b):=by
 cases c with
 | false=>exact f rfl
 | true=>exact h rfl
theorem on {v:α}{k:α->Option β}(h:∀x,x=v->Ok (k x)):Ok (Go.Ab.on v k):=h v rfl
end aZ
theorem fP {a b:Int}(h : -9223372036854775808<=a+b/\a+b<=9223372036854775807):cG a b=some (a+b):=by unfold cG; rw [if_pos h]
theorem Fy {a b:Int}(h : -9223372036854775808<=a-b/\a-b<=9223372036854775807):qJ a b=some (a-b):=by unfold qJ; rw [if_pos h]
theorem Na {α:Type}{l:List α}{n:Int}(h:0<=n/\n<l.length):Ok (dh l n):=by
 have b:n.toNat<l.length:=by omega
 unfold dh; rw [if_pos h.1,List.getElem?_eq_getElem b]; exact⟨_,rfl⟩
theorem Nb {α:Type}{l:List α}{n:Nat}(h:n<l.length):Ok (l[n]?):=⟨l[n],List.getElem?_eq_getElem h⟩
theorem gN {α:Type}{z:Nat}{s r:Sl α}(b:z<=64) (h:s.l.length+r.l.length<=1099511627776):aW z s r=some ⟨s.nl&&r.l.isEmpty,s.l++r.l⟩:=by
 unfold aW; rw [if_pos];have:(s.l.length+r.l.length)*z<=(s.l.length+r.l.length)*64:=Nat.mul_le_mul_left _ b;unfold cS; omega
theorem di {a b:Bs}(h:a.length+b.length<=1152921504606846976):bM a b=some (a++b):=by
 unfold bM; rw [if_pos (by unfold eW; omega)]
theorem Aj {α:Type}{s:Sl α}(h:1<=s.l.length):nw s (some (1:Int)) none=some ⟨s.nl,s.l.drop 1⟩:=by
 unfold nw; rw [if_pos (by simp; omega)]; simp
theorem fK:F0=4611686018427387904:=rfl
end Go.Ab
namespace Go.Ab
variable {ax:bK}
theorem uZ {α:Type}{z:Nat}{s r:Sl α}(b:z<=32) (h:s.l.length+r.l.length<=4398046511104):aW z s r=some ⟨s.nl&&r.l.isEmpty,s.l++r.l⟩:=by
 unfold aW; rw [if_pos];have:(s.l.length+r.l.length)*z<=(s.l.length+r.l.length)*32:=Nat.mul_le_mul_left _ b;unfold cS; omega
def dJ {α:Type}(s:Sl α):Prop:=(s.nl=true->s.l=[])/\s.l.length<=1048576
end Go.Ab
/-
 Inputs: what a call is handed,read as plain data; what it leaves.
-/
namespace Go.Ab
open Go Go.RowKit Go.ChangeShapes Go.WideShapes Go.ChangeAt
variable {ax:bK}
def j0 (w:World):J:=⟨fun _=>0,fun b=>match w.heap[b]? with|some (.cells cs _ _)=>cs.size|_=>0,fun _=>none,0⟩
def h0:ai:=fun _=>none
theorem Nc {w:World}{b o:Nat}{v:Value}(h:w.cell? ⟨b,o,none⟩=some v):o<(j0 w).F b:=by
 unfold World.cell? at h;simp only [j0]
 split at h
 ·rename_i c t f hc
  simp at h;simp only at hc;rw [hc];exact(Array.getElem?_eq_some_iff.1 h).1
 ·cases h
theorem cell_spot {w:World}{a:Addr}{v:Value}(h:w.cell? a=some v):a.spot=none:=by
 unfold World.cell? at h
 split at h
 ·split at h
  ·cases h
  ·rename_i b; simpa using b
 ·cases h
structure u0 {H:Type}(B:DataW H->Nat):Prop where
 one:∀d,1<=B d
 str:∀b,b.length+1<=B (.lit (.string b))
 slice:∀e s,(e.map B).sum+1<=B (.slice e s)
 agg:∀l,(l.map B).sum<=B (.agg l)
structure dm {H:Type}(P:Program) (B:DataW H->Nat) (N:Nat) (t:TypeId){α:Type}(R:α->List D) (sz:α->Nat) (wf:α->Prop):Prop where
 rd:∀{enc:TypeId×Value->H}{w:World}{base:Nat}{sp:Nat->Bool}{held:Bool}{fuel:Nat}{cs:List Value}{x:DataW H×List MemPlace},
  fuel<=N->DataW.trod enc P w base sp held fuel t cs=some x->B x.1<=1048576->∃a,aY (aI (j0 w) w) (R a) cs/\sz a<=B x.1/\wf a
theorem dm.zero {H:Type}{P:Program}{B:DataW H->Nat}{t:TypeId}{α:Type}{R:α->List D}{sz:α->Nat}{wf:α->Prop}:dm P B 0 t R sz wf :=
 ⟨fun b h _=>by rw [Nat.le_zero.1 b] at h; simp [DataW.trod] at h⟩
theorem Ak {P:Program}{t:TypeId}{b:TI}(f:aU P t=some b):P.cellsOf t=b.size:=by
 obtain⟨i,d,h1,_,g,_⟩:=fH f;unfold Program.cellsOf; rw [h1]; exact g
theorem xg {P:Program}{t:TypeId}{b:TI}(f:aU P t=some b):∃d,P.underlying t=some d/\fo d=b.k:=by
 obtain⟨i,d,_,h1,_,_,g,_⟩:=fH f;exact⟨d,h1,g⟩
theorem Nd {P:Program}{t:TypeId}{b:TI}(g:aU P t=some b) (hk:b.k=.str):P.underlying t=some .string:=by
 obtain⟨d,h1,f⟩:=xg g;rw [hk] at f; cases d<;>simp [fo] at f; exact h1
theorem Nf {P:Program}{t:TypeId}{b:TI}(g:aU P t=some b) (hk:b.k=.bool):P.underlying t=some .bool:=by
 obtain⟨d,h1,f⟩:=xg g;rw [hk] at f; cases d<;>simp [fo] at f; exact h1
theorem Ng {P:Program}{t:TypeId}{f:TI}{k:IntKind}(g:aU P t=some f) (hk:f.k=.int k):P.underlying t=some (.int k):=by
 obtain⟨d,h1,b⟩:=xg g;rw [hk] at b; cases d<;>simp [fo] at b; subst b; exact h1
theorem Fz {P:Program}{t:TypeId}{g:TI}{ps:List (Nat×TypeId)}(i:aU P t=some g) (hk:g.k=.struct ps):∃fs:Array Go.Field,P.underlying t=some (.struct fs)/\fs.toList.map (fun f=>(f.offset,f.type))=ps:=by
 obtain⟨d,h1,b⟩:=xg i;rw [hk] at b; cases d<;>simp [fo] at b; exact⟨_,h1,by simpa using b⟩
def uU.sz (s:uU):Nat:=s.1.length+1
def iK.sz {α:Type}(f:α->Nat) (s:iK α):Nat:=1+(s.l.map f).sum
def iK.wf {α:Type}(p:α->Prop) (s:iK α):Prop:=∀x∈s.l,p x
def i64 (n:Int):Prop := -9223372036854775808<=n/\n<=9223372036854775807
section
variable {H:Type}{P:Program}{B:DataW H->Nat}(hB:u0 B){N:Nat}
include hB
theorem dm.str {t:TypeId}{b:TI}(f:aU P t=some b) (hk:b.k=.str):dm P B N t Mm uU.sz fun _=>True:=by
 refine⟨fun {enc w base sp held fuel cs x} _ h g=>?_⟩;obtain⟨s,rfl,rfl,i⟩:=DataW.trod_string (Nd f hk) h;have h1:=hB.str s.data.toList;have l:s.data.toList.length<=1048576:=by dsimp only at g; omega
 refine⟨⟨s.data.toList,by simp only [cS]; omega⟩,.cons ?_ .nil,h1,trivial⟩;have:=aI.str (j:=j0 w) (w:=w) s.data.toList (by simp only [eW]; omega)
 simpa using this
theorem dm.bool {t:TypeId}{f:TI}(g:aU P t=some f) (hk:f.k=.bool):dm P B N t (fun b:Bool=>[.bool b]) (fun _=>1) fun _=>True:=by
 refine⟨fun _ h _=>?_⟩;obtain⟨b,rfl,rfl⟩:=DataW.trod_bool (Nf g hk) h;exact⟨b,.cons (.bool _) .nil,hB.one _,trivial⟩
theorem dm.int {t:TypeId}{b:TI}(f:aU P t=some b) (hk:b.k=.int .i64):dm P B N t Mn (fun _=>1) i64:=by
 refine⟨fun _ h _=>?_⟩;obtain⟨n,rfl,rfl,hw⟩:=DataW.trod_int (Ng f hk) h;refine⟨n,.cons (.int _ _) .nil,hB.one _, ?_⟩
 simpa [Lit.wf,IntKind.min,IntKind.max,IntKind.signed,IntKind.bits,i64] using hw
omit hB in
theorem FB {α:Type}(p:Nat->α->Prop):∀(n:Nat),(∀i,i<n->∃a,p i a)->∃l:List α,l.length=n/\∀i a,l[i]?=some a->p i a
 | 0,_=>⟨[],rfl,by simp⟩
 | n+1,h=>by
  obtain⟨l,hl,g⟩:=FB p n fun i hi=>h i (by omega);obtain⟨a,j⟩:=h n (by omega);refine⟨l++[a],by simp [hl],fun i b f=>?_⟩;rw [List.getElem?_append] at f
  split at f
  ·exact g i b f
  ·rename_i k
   have:i-l.length=0:=by
    have:=(List.getElem?_eq_some_iff.1 f).1; simp at this; omega
   rw [this] at f; simp at f; subst f;have:i=n:=by omega
   subst this; exact j
omit hB in
theorem FC {α β:Type}{f:α->Option β}:∀{l:List α}{r:List β},l.mapM f=some r->r.length=l.length/\∀(i:Nat) a,l[i]?=some a->f a=r[i]?
 | [],r,h=>by simp at h; subst h; simp
 | a::l,r,h=>by
  rw [List.mapM_cons] at h;cases g:f a with
  | none=>rw [g] at h; cases h
  | some b =>
   rw [g] at h;cases hm:l.mapM f with
   | none=>rw [hm] at h; cases h
   | some bs =>
    rw [hm] at h;have h':some (b::bs)=some r:=h;simp only [Option.some.injEq] at h';subst h';obtain⟨h1,j⟩:=FC hm;refine⟨by simp [h1],fun i x hx=>?_⟩;cases i with
    | zero=>simp at hx; subst hx; simpa using g
    | succ i=>simp at hx; simpa using j i x hx
omit hB in
theorem FD {w:World}{base:Nat}{a:Addr}{n:Nat}{cs:List Value}(h:w.cells? base a n=some cs):cs.length=n/\∀i v,cs[i]?=some v->w.cell? (a.add i)=some v:=by
 unfold World.cells? at h
 split at h
 ·obtain⟨h1,b⟩:=FC h;rw [List.length_range] at h1;refine⟨h1,fun i v hv=>?_⟩;have hi:=(List.getElem?_eq_some_iff.1 hv).1;have:=b i i (List.getElem?_range (by omega));rw [this]; exact hv
 ·cases h
omit hB in
theorem FE {α β:Type}{f:α->Nat}{g:β->Nat}:∀{l:List α}{m:List β},l.length=m.length->(∀(i:Nat) a b,l[i]?=some a->m[i]?=some b->f a<=g b)->(l.map f).sum<=(m.map g).sum
 | [],[],_,_=>by simp
 | [],_::_,h,_=>by simp at h
 | _::_,[],h,_=>by simp at h
 | a::l,b::m,h,j=>by
  have h1:=j 0 a b rfl rfl;have o:=FE (l:=l) (m:=m) (by simpa using h) fun i x y hx k=>j (i+1) x y (by simpa using hx) (by simpa using k);simp only [List.map_cons,List.sum_cons]; omega
omit hB in
theorem FF {α:Type}{f:α->Nat}{l:List α}{a:α}(h:a∈l):f a<=(l.map f).sum:=by
 induction l with
 | nil=>cases h
 | cons x r b =>
  simp only [List.map_cons,List.sum_cons];rcases List.mem_cons.1 h with e|e
  ·subst e; omega
  ·have:=b e; omega
omit hB in
theorem Al {α:Type}{f:α->Nat}:∀(l:List α),(∀a∈l,1<=f a)->l.length<=(l.map f).sum
 | [],_=>by simp
 | a::l,h=>by
  have h1:=h a (by simp);have b:=Al l fun x hx=>h x (by simp [hx]);simp only [List.length_cons,List.map_cons,List.sum_cons]; omega
theorem dm.slice {α:Type}{t e:TypeId}{K L:TI}{k:Nat}{R:α->List D}{sz:α->Nat}{wf:α->Prop}(W:aU P t=some K) (X:K.k=.slice e) (Y:aU P e=some L) (Z:L.size=k) (aa:0<k) (ab:∀a,(R a).length=k) (he:dm P B N e R sz wf) :
  dm P B (N+1) t (fun s:iK α=>[s.d k R]) (iK.sz sz) (iK.wf wf):=by
 have ht:=nt W X;have hk:P.cellsOf e=k:=(Ak Y).trans Z;refine⟨fun {enc w base sp held fuel cs x} ak h M=>?_⟩;rcases DataW.trod_slice ht h with ⟨rfl,rfl⟩|⟨a,len,cap,b,rest,n,al,rfl,rfl,_,ad,am,hlen,ae,_,_⟩
 ·exact⟨⟨true,[],by simp,fun _=>rfl⟩,.cons (.f_ _ _ (by simp)) .nil,by simpa [iK.sz] using hB.one _,by simp [iK.wf]⟩
 ·have an:=hB.slice (b.map (·.1)) (rest.map (·.1));have af:∀y∈b,B y.1<=1048576:=fun y j=>by
   have:=FF (f:=B) (l:=b.map (·.1)) (a:=y.1) (List.mem_map_of_mem j);dsimp only at M; omega
  have ao:b.length<=1048576:=by
   have:=Al (f:=B) (b.map (·.1)) fun d _=>hB.one d;simp only [List.length_map] at this;dsimp only at M; omega
  have hex:∀i,i<len->∃y:α×List Value,∃z,b[i]?=some z/\w.cells? base (a.add (i*k)) k=some y.2/\aY (aI (j0 w) w) (R y.1) y.2/\sz y.1<=B z.1/\wf y.1:=by
   intro i hi;have h1:=ae i hi;rw [hk] at h1;have G:i<b.length:=by omega
   rw [List.getElem?_eq_getElem G] at h1;cases hc:w.cells? base (a.add (i*k)) k with
   | none=>rw [hc] at h1; cases h1
   | some cs =>
    rw [hc] at h1;obtain⟨x,o,p,q⟩:=he.rd (by omega) (show DataW.trod enc P w base sp held n e cs=some b[i] from h1) (af _ (List.getElem_mem G));exact⟨(x,cs),b[i],List.getElem?_eq_getElem G,rfl,o,p,q⟩
  obtain⟨l,hl,C⟩:=FB _ len hex;have ag:(l.map fun y=>y.1).length=len:=by simp [hl]
  refine⟨⟨false,l.map (·.1),by rw [ag]; simp only [cS]; omega,by simp⟩,.cons ?_ .nil, ?_, ?_⟩
  ·have H:∀r∈(l.map (·.1)).map R,r.length=k:=by
    intro r hr;obtain⟨y,_,rfl⟩:=List.mem_map.1 hr;exact ab _
   have E:((l.map (·.1)).map R).length=len:=by simp [hl]
   show aI (j0 w) w (.slice k none false ((l.map (·.1)).map R)) (.slice (some a) len cap);by_cases h0:len=0
   ·subst h0;have:l=[]:=List.eq_nil_of_length_eq_zero hl;subst this;exact aI.slice k none [] a cap (fun _=>undef) (by simp) (by simp) (by simp) ⟨.inl rfl,by simp⟩ (by simp) (fun t h=>by cases h)
   ·have O:a.spot=none:=by
     have h1:=C 0 (l[0]'(by omega)) (List.getElem?_eq_getElem (by omega));obtain⟨z,_,o,_⟩:=h1;obtain⟨p,q⟩:=FD o;have F:=q 0 _ (List.getElem?_eq_getElem (by omega));rw [Nat.zero_mul] at F;exact cell_spot F
    have Q:a=⟨a.block,a.off,none⟩:=by cases a; simp at O; simp [O]
    have S:aI (j0 w) w (.slice k none false ((l.map (·.1)).map R)) (.slice (some ⟨a.block,a.off,none⟩) ((l.map (·.1)).map R).length cap):=by
     refine uR H (by rw [E]; simp only [cS]; omega) (by rw [E]; exact ad) (fun i x hx=>?_) (fun t h=>by cases h);have hi:=(List.getElem?_eq_some_iff.1 hx).1;rw [(kY H).1,E] at hi;have hq:i / k<len:=Nat.div_lt_of_lt_mul (by rw [Nat.mul_comm]; exact hi);have hm:i % k<k:=Nat.mod_lt _ aa;obtain⟨z,_,o,p,_⟩:=C (i / k) (l[i / k]'(by omega)) (List.getElem?_eq_getElem (by omega))
     obtain⟨q,F⟩:=FD o;have ah:((l.map (·.1)).map R)[i / k]?=some (R (l[i / k]'(by omega)).1):=by simp [hl,hq]
     have U:=(kY H).2 (i / k) _ ah (i % k) hm;rw [Nat.mul_comm,Nat.div_add_mod,hx] at U;obtain⟨v,hv,aj⟩:=p.get U.symm;have I:=F _ _ hv;rw [Q,add_plain,add_plain,Nat.add_assoc,Nat.mul_comm,Nat.div_add_mod] at I;exact⟨Nc I,v,I,aj⟩
    rw [E,<- Q] at S;exact S
  ·simp only [iK.sz];have:=FE (f:=sz) (g:=B) (l:=l.map (·.1)) (m:=b.map (·.1)) (by simp [hl,hlen]) fun i x y hx j=>by
    rw [List.getElem?_map] at hx j;cases J:l[i]? with
    | none=>rw [J] at hx; cases hx
    | some u =>
     rw [J] at hx; simp at hx; subst hx;obtain⟨z,h1,_,_,o,_⟩:=C i u J;rw [h1] at j; simp at j; subst j; exact o
   omega
  ·intro x hx;obtain⟨y,j,rfl⟩:=List.mem_map.1 hx;obtain⟨i,hi,e⟩:=List.getElem_of_mem j;obtain⟨z,_,_,_,_,h⟩:=C i y (by rw [List.getElem?_eq_getElem hi,e]);exact h
structure cV {H:Type}(P:Program) (B:DataW H->Nat) (N n o:Nat) (ps:List (Nat×TypeId)){α:Type}(R:α->List D) (sz:α->Nat) (wf:α->Prop):Prop where
 rd:∀{enc:TypeId×Value->H}{w:World}{base:Nat}{sp:Nat->Bool}{held:Bool}{fuel:Nat}{cs:List Value}{xs:List (DataW H×List MemPlace)},fuel<=N->cs.length=n->xs.length=ps.length ->
  (∀(i:Nat) p,ps[i]?=some p->DataW.trod enc P w base sp held fuel p.2 ((cs.drop p.1).take (P.cellsOf p.2))=xs[i]?)->(xs.map (fun x=>B x.1)).sum<=1048576 ->
  ∃a,aY (aI (j0 w) w) (R a) (cs.drop o)/\sz a<=(xs.map (fun x=>B x.1)).sum/\wf a
omit hB in
theorem cV.nil {n:Nat}:cV P B N n n [] (fun _:Unit=>[]) (fun _=>0) fun _=>True:=by
 refine⟨fun _ h1 b _ _=>⟨(), ?_,Nat.zero_le _,trivial⟩⟩;rw [List.drop_of_length_le (by omega)]; exact .nil
omit hB in
theorem cV.cons {α β:Type}{n o o':Nat}{ty:TypeId}{j:TI}{ps:List (Nat×TypeId)}{R:α->List D}{sz:α->Nat}{wf:α->Prop}{k:β->List D}{l:β->Nat}{m:β->Prop}(t:aU P ty=some j) (u:o+j.size=o') (h:dm P B N ty R sz wf)
  (ht:cV P B N n o' ps k l m):cV P B N n o ((o,ty)::ps) (fun p:α×β=>R p.1++k p.2) (fun p=>sz p.1+l p.2) fun p=>wf p.1/\m p.2:=by
 refine⟨fun {enc w base sp held fuel cs xs} q h1 f r v=>?_⟩
 match xs,f with
 | x::xs,f =>
  simp only [List.map_cons,List.sum_cons] at v ⊢;have s:=r 0 (o,ty) rfl;simp only [List.getElem?_cons_zero] at s;obtain⟨a,y,F,z⟩:=h.rd q s (by omega);obtain⟨b,C,G,E⟩:=ht.rd (xs:=xs) q h1 (by simpa using f) (fun i g hg=>by simpa using r (i+1) g (by simpa using hg)) (by omega);refine⟨(a,b), ?_,by dsimp only; omega,z,E⟩;have e:cs.drop o=(cs.drop o).take (P.cellsOf ty)++cs.drop o':=by
   rw [<- u,<- Ak t,<- List.drop_drop]; exact(List.take_append_drop _ _).symm
  rw [e];exact y.append C
theorem dm.struct {α β:Type}{t:TypeId}{j:TI}{ps:List (Nat×TypeId)}{R:α->List D}{sz:α->Nat}{wf:α->Prop}(o:aU P t=some j) (hk:j.k=.struct ps) (h:cV P B N j.size 0 ps R sz wf) (g:α->β){q:β->List D}{r:β->Nat}{s:β->Prop}
  (y:∀a,q (g a)=R a) (z:∀a,r (g a)<=sz a) (hw:∀a,wf a->s (g a)):dm P B (N+1) t q r s:=by
 refine⟨fun {enc w base sp held fuel cs x} I hx u=>?_⟩;obtain⟨fs,ht,v⟩:=Fz o hk;obtain⟨xs,n,J,rfl,h1,C,E⟩:=DataW.trod_struct ht hx;have l:=hB.agg (xs.map (·.1));rw [List.map_map] at l;obtain⟨a,F,G,H⟩:=h.rd (xs:=xs) (enc:=enc) (w:=w) (base:=base) (sp:=sp) (held:=held) (fuel:=n) (cs:=cs) (by omega) (h1.trans (Ak o)) (by rw [<- v]; simpa using C) (fun i p b=>by
  rw [<- v,List.getElem?_map] at b;cases m:fs.toList[i]? with
  | none=>rw [m] at b; cases b
  | some f =>
   rw [m] at b; simp at b; subst b;exact E i f (by simpa using m)) (by dsimp only at u; exact Nat.le_trans l u)
 exact⟨g a,by rw [y]; simpa using F,Nat.le_trans (z a) (Nat.le_trans G l),hw _ H⟩
end
section
variable {H:Type}{enc:TypeId×Value->H}{P:Program}{B:DataW H->Nat}{W:World}
theorem Nh {α:Type}{R:α->List D}{sz:α->Nat}{wf:α->Prop}{r:Reach}{f:Nat}{t:TypeId}{b:TI}{fs:List (Nat×TypeId)}{v:Value}{d:DataW H}{ps:List MemPlace}(g:aU P t=some b) (hk:b.k=.struct fs) (hr:∀N,dm P B N t R sz wf) (i:Value.okWide P W r f t v)
  (j:DataW.Trod enc P W 0 (fun _=>true) true t v d ps) (l:B d<=1048576):∃a:α,de (j0 W) W (.agg (R a)) v/\sz a<=B d/\wf a:=by
 obtain⟨_,ht,_⟩:=Fz g hk;obtain⟨cs,rfl,_⟩:=okWide_struct ht i;obtain⟨fuel,m⟩:=j;obtain⟨a,h1,o,p⟩:=(hr fuel).rd (Nat.le_refl _) m l;exact⟨a,⟨cs.toList,by simp,h1⟩,o,p⟩
end
theorem Below.trodAll {H:Type}{enc:TypeId×Value->H}{P:Program}(hl:laidOutB P=true){W g:World}(i:Below W.heap.size W g) :
  ∀{ts:List TypeId}{j:List Value}{ds:List (DataW H)}{ps:List MemPlace},(∀t∈ts,P.readableRec t=true/\t<P.types.size)->DataW.TrodAll enc P W 0 (fun _=>true) true ts j ds ps->(∀x∈ps,x.block<W.heap.size) ->
  ∀f:Nat->Bool,(∀x∈ps,f x.block=true)->DataW.TrodAll enc P g 0 f true ts j ds ps
 | [],_,_,_,_,h,_,_,_=>by obtain⟨rfl,rfl,rfl⟩:=trodAll_nil h; exact rfl
 | _::_,_,_,_,ht,h,bw,f,k=>by
  obtain⟨v,m,d,o,a,b,rfl,rfl,rfl,h1,l⟩:=trodAll_cons h;exact⟨a,b,WideElems.Trod_stays hl (ht _ (by simp)).1 (ht _ (by simp)).2 h1 (fun x hx=>i.same (bw x (by simp [hx]))) (fun x hx=>k x (by simp [hx])),
   Below.trodAll hl i (fun t h=>ht t (by simp [h])) l (fun x hx=>bw x (by simp [hx])) f (fun x hx=>k x (by simp [hx])),rfl⟩
theorem Ni {H:Type}{enc:TypeId×Value->H}{P:Program}{f:Func}{s:ChangeSpec}{fresh handsOn again:Bool}{W g:World}{args:Array Value}{ds:List (DataW H)}{before:List MemPlace}{k:TypeId}
  (hv:s.vars=[]) (l:DataW.Whole enc P f.params.toList s.vars false W args.toList ds [] before) (i:Below W.heap.size W g) (hl:laidOutB P=true) (B:∀t∈f.params.toList,P.readableRec t=true/\t<P.types.size)
  (hr:f.resultTypes=#[k]) (m:P.underlying k=some .bool) (j:s.fn H ds={ results:=[.lit (.bool true)],args:=ds }):s.post enc P f false fresh handsOn again W args (.bool true) g:=by
 have o:=l;have bw:∀x∈before,x.block<W.heap.size:=fun x hx=>by simpa using o.lt x hx
 obtain⟨p,q,C,r,rfl,u,hn⟩:=l;rw [hv] at r;obtain⟨_,rfl⟩:=trodVars_none r;simp only [List.append_nil] at bw u;have v:∀sp:Nat->Bool,(∀x∈p,sp x.block=true)->DataW.TrodAll enc P g 0 sp true f.params.toList args.toList ds p:=fun sp E=>Below.trodAll hl i B C bw sp E;have y:∀(b:Nat) (sp:Nat->Bool) (z:Bool),DataW.TrodAll enc P g b sp z f.resultTypes.toList ((Value.bool true).resultList f.resultTypes.size) [.lit (.bool true)] []:=by
  intro b sp z;rw [hr];exact trodAll_cons_mk (shut_bool m _) trodAll_mk0
 refine⟨ds,[],p++[],[],p,[],o, ?_, ?_, ?_,World.keptBut_mono (fun x hx=>⟨hx, ?_⟩) (i.frame (·∈p++[])),fun _=>⟨?_,[.lit (.bool true)]++ds,[],p,⟨p,[], ?_, ?_,by simp, ?_,fun h=>by cases h⟩,fun x hx _=>by simpa using hx⟩⟩
 ·rw [List.append_nil,j]; exact y _ _ _
 ·rw [List.append_nil,j]; exact v _ fun x hx=>by simpa using bw x hx
 ·rw [hv,List.append_nil,j]; exact rfl
 ·exact .inr (.inl (by simpa using hx))
 ·exact ok_one hr rfl (okWide_bool_mk m _)
 ·exact trodAll_append (v _ fun _ _=>rfl) (y _ _ _)
 ·rw [hv]; exact rfl
 ·intro b off hx;have hblk:=bw _ hx;rw [World.frozen?_of_block (w:=W) (i.block _ hblk)];exact u b off hx
end Go.Ab
/-
 The readings of package api's types,at whatever depth.
-/
namespace Go.Ab
open Go Go.RowKit
section
variable {H:Type}{P:Program}{B:DataW H->Nat}(hB:u0 B)
include hB
theorem ph.struct {α β:Type}{t:TypeId}{b:TI}{ps:List (Nat×TypeId)}{R:α->List D}{sz:α->Nat}{wf:α->Prop}(l:aU P t=some b) (hk:b.k=.struct ps) (h:∀N,cV P B N b.size 0 ps R sz wf) (g:α->β){f:β->List D}{i:β->Nat}{j:β->Prop}
  (m:∀a,f (g a)=R a) (o:∀a,i (g a)<=sz a) (hw:∀a,wf a->j (g a)):∀N,dm P B N t f i j
 | 0=>.zero
 | N+1=>dm.struct hB l hk (h N) g m o hw
end
end Go.Ab
/-
 The readings of the models' types.
-/
namespace Go.Ab
open Go Go.RowKit
variable {ax:bK}
def Sl.sz {α:Type}(f:α->Nat) (s:Sl α):Nat:=1+(s.l.map f).sum
def Sl.wf {α:Type}(p:α->Prop) (s:Sl α):Prop:=(s.nl=true->s.l=[])/\s.l.length<=cS/\∀x∈s.l,p x
def Bs.sz (s:Bs):Nat:=s.length+1
section
variable {H:Type}{P:Program}{B:DataW H->Nat}
theorem dm.xh {α β:Type}{N:Nat}{t:TypeId}{R:α->List D}{sz:α->Nat}{wf:α->Prop}(h:dm P B N t R sz wf) (g:α->β){b:β->List D}{f:β->Nat}{i:β->Prop}
  (j:∀a,b (g a)=R a) (k:∀a,f (g a)<=sz a) (hw:∀a,wf a->i (g a)):dm P B N t b f i :=
 ⟨fun l ht m=>by
  obtain⟨a,h1,o,p⟩:=h.rd l ht m;exact⟨g a,by rw [j]; exact h1,Nat.le_trans (k a) o,hw a p⟩⟩
variable (hB:u0 B)
include hB
theorem dV.str {t:TypeId}{b:TI}(f:aU P t=some b) (hk:b.k=.str) (N:Nat):dm P B N t aO Bs.sz fun _=>True :=
 (dm.str hB f hk).xh (fun s:uU=>s.1) (fun _=>rfl) (fun _=>Nat.le_refl _) fun _ _=>trivial
theorem dV.bool {t:TypeId}{b:TI}(f:aU P t=some b) (hk:b.k=.bool) (N:Nat):dm P B N t sU (fun _=>1) fun _=>True :=
 (dm.bool hB f hk).xh id (fun _=>rfl) (fun _=>Nat.le_refl _) fun _ _=>trivial
theorem dV.int {t:TypeId}{b:TI}(f:aU P t=some b) (hk:b.k=.int .i64) (N:Nat):dm P B N t (bC .i64) (fun _=>1) i64 :=
 (dm.int hB f hk).xh id (fun _=>rfl) (fun _=>Nat.le_refl _) fun _ h=>h
theorem dV.FG {α:Type}{N:Nat}{t e:TypeId}{b f:TI}{k:Nat}{R:α->List D}{sz:α->Nat}{wf:α->Prop}(g:aU P t=some b) (i:b.k=.slice e) (j:aU P e=some f) (m:f.size=k) (o:0<k) (p:∀a,(R a).length=k)
  (he:dm P B N e R sz wf):dm P B (N+1) t (fun s:Sl α=>[Sl.d k R none s]) (Sl.sz sz) (Sl.wf wf) :=
 (dm.slice hB g i j m o p he).xh (fun s:iK α=>(⟨s.nil,s.l⟩:Sl α)) (fun _=>rfl) (fun _=>Nat.le_refl _) (fun s h=>by unfold iK.wf at h; exact⟨s.nn,s.ok,h⟩)
theorem dV.slice {α:Type}{t e:TypeId}{b f:TI}{k:Nat}{R:α->List D}{sz:α->Nat}{wf:α->Prop}(g:aU P t=some b) (i:b.k=.slice e) (j:aU P e=some f) (l:f.size=k) (m:0<k) (o:∀a,(R a).length=k)
  (he:∀N,dm P B N e R sz wf):∀N,dm P B N t (fun s:Sl α=>[Sl.d k R none s]) (Sl.sz sz) (Sl.wf wf)
 | 0=>.zero
 | N+1=>dV.FG hB g i j l m o (he N)
end
theorem Sl.ej {α:Type}{f:α->Nat}(s:Sl α) (h:∀a,1<=f a):s.l.length<=s.sz f:=by
 have:=Al (f:=f) s.l fun a _=>h a;unfold Sl.sz; omega
theorem Sl.cW {α:Type}{f:α->Nat}{s:Sl α}{a:α}(h:a∈s.l):f a<s.sz f:=by
 have:=FF (f:=f) h;unfold Sl.sz; omega
end Go.Ab
namespace Go.Ab
variable {ax:bK}
theorem Bs.jW (s:Bs):1<=Bs.sz s:=by unfold Bs.sz; omega
theorem Sl.gz {α:Type}{f:α->Nat}(s:Sl α) (h:∀a,1<=f a):s.l.length<Sl.sz f s:=by
 have:=Sl.ej s h;unfold Sl.sz at *
 suffices s.l.length<=(s.l.map f).sum by omega
 clear this;induction s.l with
 | nil=>simp
 | cons x r b=>have:=h x; simp; omega
end Go.Ab
/-
 Short forms of the rules,for the packed texts.
-/
namespace Go.Ab
open Go Go.RowKit
variable {ax:bK}
class eX (P:Program) where
 T:List TI
 ok:kV P T
theorem jv {P:Program} [eX P] {i:TypeId}{b:TI}(h:(eX.T P)[i]?=some b):aU P i=some b:=eX.ok i b h
section
variable {P:Program}{Q:Exit->St->Prop}{σ:St}
theorem ah.cE {c:Operand}{u v:Code}{b:Bool}{α:Type}{A B:Option α}{r:α}(f:(bif b then A else B)=some r) (ht:b=true->A=some r->ah P u Q σ) (g:b=false->B=some r->ah P v Q σ) (hc:ev σ.ts c=.a (.d (.bool b)):=by exact rfl):ah P (.cond c u v) Q σ:=ah.fu f hc ht g
end
theorem AC.oW {P:Program} [eX P] (n:Nat) (rs:List ResultVar){f:FuncId}{fn:Func}{c:Code}{args:List A}{h:ai}{cI:V->ai->Prop}(b:∀(cT:Array Value) (w:World),(callFunc f cT).run P w=.ok (.enter f cT) w) (g:P.funcs[f]?=some fn)
  (hw:ah P c (bn (eX.T P) rs cI) ⟨n,nq 0 args,[],h⟩) (i:fn.body=some c:=by exact rfl) (hn:fn.ntmps=n:=by exact rfl) (j:fn.results.toList=rs:=by exact rfl) (hl:Nat.ble args.length n=true:=by exact rfl):AC P f args h cI :=
 AC.of_wp eX.ok b g i hn j hl hw
variable {fM:eN}
section
variable {P:Program}{ops:Array Oper}{rest:List Oper}{Q:St->Prop}{n:Nat}{ts:Ts}{ls aM:List (List D)}{h h':ai}{fx:Fx}{v:V}{d dg gi:Nat}{op:Op}{ty:TypeId}{pos:String}{aJ:Array Edge}{want b C:Bool}{done:List Fx}
-- RULES
variable {o:Oper}{c c':Bool}{x x':A}{f:Operand}{args:Array Operand}{cA:Array TypeId}{dO:FuncId}{ck:List D}{xs:List A}
theorem gI {C c:Bool}(h:C=true->c=true:=by intro hC; first|assumption|exact gF (by assumption)|exact gF (gF (by assumption))|exact gF (gF (gF (by assumption)))|exact zR (by assumption)|simp_all):C=true->c=true:=h
theorem S (b:ar P ⟨some d,op,ty,pos,aJ,none⟩ ts ls h fx v ls h) (hr:aP P ops rest Q ⟨n,(d,v)::ts,ls,h⟩) (f:Nat.blt d n=true:=by exact rfl):aP P ops (⟨some d,op,ty,pos,aJ,none⟩::rest) Q ⟨n,ts,ls,h⟩:=aP.s0 b f hr
theorem Sd (b:ar P ⟨some d,op,ty,pos,aJ,none⟩ ts ls h fx v ls h) (hr:au P ops n rest (fx.plain::done) Q ⟨n,(d,v)::ts,ls,h⟩) (f:Nat.blt d n=true:=by exact rfl):au P ops n (⟨some d,op,ty,pos,aJ,none⟩::rest) done Q ⟨n,ts,ls,h⟩:=au.s0 b f hr
theorem G0 (b:ar P ⟨some d,op,ty,pos,aJ,some (gi,want)⟩ ts ls h fx v ls h) (hr:aP P ops rest Q ⟨n,(d,v.under C)::ts,ls,h⟩) (hg:(ops[gi]?).bind (·.dst)=some dg:=by exact rfl) (hc:gc (get ts dg) want=some C:=by exact rfl) (f:Nat.blt d n=true:=by exact rfl):aP P ops (⟨some d,op,ty,pos,aJ,some (gi,want)⟩::rest) Q ⟨n,ts,ls,h⟩:=aP.gC hg hc (fun _=>b) f hr
theorem G1 (k:Nat) (hk:Ab.get ts k=.gd c x) (b:ar P ⟨some d,op,ty,pos,aJ,some (gi,want)⟩ ((k,.a x)::ts) ls h fx v ls h) (hr:aP P ops rest Q ⟨n,(d,v.under C)::ts,ls,h⟩) (hg:(ops[gi]?).bind (·.dst)=some dg:=by exact rfl) (hc:gc (get ts dg) want=some C:=by exact rfl) (f:Nat.blt d n=true:=by exact rfl) (hi:C=true->c=true:=by exact gI):aP P ops (⟨some d,op,ty,pos,aJ,some (gi,want)⟩::rest) Q ⟨n,ts,ls,h⟩:=aP.gC hg hc (fun hC=>ar.jq hk (hi hC) b) f hr
theorem G2 (k k':Nat) (hk:Ab.get ts k=.gd c x) (b:Ab.get ((k,.a x)::ts) k'=.gd c' x') (f:ar P ⟨some d,op,ty,pos,aJ,some (gi,want)⟩ ((k',.a x')::(k,.a x)::ts) ls h fx v ls h) (hr:aP P ops rest Q ⟨n,(d,v.under C)::ts,ls,h⟩) (hg:(ops[gi]?).bind (·.dst)=some dg:=by exact rfl) (hc:gc (get ts dg) want=some C:=by exact rfl) (g:Nat.blt d n=true:=by exact rfl) (hi:C=true->c=true:=by exact gI) (i:C=true->c'=true:=by exact gI):aP P ops (⟨some d,op,ty,pos,aJ,some (gi,want)⟩::rest) Q ⟨n,ts,ls,h⟩:=aP.gC hg hc (fun hC=>ar.jq hk (hi hC) (ar.jq b (i hC) f)) g hr
theorem dz (k:Nat) (hg:(ops[gi]?).bind (·.dst)=some dg) (hc:gc (get ts dg) want=some C) (hk:Ab.get ts k=.gd c x) (b:ev ((k,.a x)::ts) f=.a (.d (.func dO ck))) (g:gE ((k,.a x)::ts) args.toList=some xs) (i:C=true->∀H:ai,AC P dO (xs++ck.map A.d) H fun r h'=>r=v/\h'=H) (hr:aP P ops rest Q ⟨n,(d,v.under C)::ts,ls,h⟩) (hi:C=true->c=true:=by exact gI) (j:Nat.blt d n=true:=by exact rfl):aP P ops (⟨some d,.call { callee:=.value f,args:=args,argTypes:=cA },ty,pos,aJ,some (gi,want)⟩::rest) Q ⟨n,ts,ls,h⟩:=aP.gC hg hc (fun hC=>ar.jq hk (hi hC) (ar.iJ b g (i hC))) j hr
theorem fw (k k':Nat) (hg:(ops[gi]?).bind (·.dst)=some dg) (hc:gc (get ts dg) want=some C) (hk:Ab.get ts k=.gd c x) (b:Ab.get ((k,.a x)::ts) k'=.gd c' x') (g:ev ((k',.a x')::(k,.a x)::ts) f=.a (.d (.func dO ck))) (i:gE ((k',.a x')::(k,.a x)::ts) args.toList=some xs) (j:C=true->∀H:ai,AC P dO (xs++ck.map A.d) H fun r h'=>r=v/\h'=H) (hr:aP P ops rest Q ⟨n,(d,v.under C)::ts,ls,h⟩) (hi:C=true->c=true:=by exact gI) (l:C=true->c'=true:=by exact gI) (m:Nat.blt d n=true:=by exact rfl):aP P ops (⟨some d,.call { callee:=.value f,args:=args,argTypes:=cA },ty,pos,aJ,some (gi,want)⟩::rest) Q ⟨n,ts,ls,h⟩:=aP.gC hg hc (fun hC=>ar.jq hk (hi hC) (ar.jq b (l hC) (ar.iJ g i (j hC)))) m hr
theorem dr (b:ar P ⟨some d,op,ty,pos,aJ,some (gi,want)⟩ ts ls h fx v ls h) (hr:au P ops n rest (fx.plain::done) Q ⟨n,(d,v.under C)::ts,ls,h⟩) (hg:(ops[gi]?).bind (·.dst)=some dg:=by exact rfl) (hc:gc (get ts dg) want=some C:=by exact rfl) (f:Nat.blt d n=true:=by exact rfl):au P ops n (⟨some d,op,ty,pos,aJ,some (gi,want)⟩::rest) done Q ⟨n,ts,ls,h⟩:=au.gC hg hc (fun _=>b) f hr
theorem dK (k:Nat) (hk:Ab.get ts k=.gd c x) (b:ar P ⟨some d,op,ty,pos,aJ,some (gi,want)⟩ ((k,.a x)::ts) ls h fx v ls h) (hr:au P ops n rest (fx.plain::done) Q ⟨n,(d,v.under C)::ts,ls,h⟩) (hg:(ops[gi]?).bind (·.dst)=some dg:=by exact rfl) (hc:gc (get ts dg) want=some C:=by exact rfl) (f:Nat.blt d n=true:=by exact rfl) (hi:C=true->c=true:=by exact gI):au P ops n (⟨some d,op,ty,pos,aJ,some (gi,want)⟩::rest) done Q ⟨n,ts,ls,h⟩:=au.gC hg hc (fun hC=>ar.jq hk (hi hC) b) f hr
theorem xk (k k':Nat) (hk:Ab.get ts k=.gd c x) (b:Ab.get ((k,.a x)::ts) k'=.gd c' x') (f:ar P ⟨some d,op,ty,pos,aJ,some (gi,want)⟩ ((k',.a x')::(k,.a x)::ts) ls h fx v ls h) (hr:au P ops n rest (fx.plain::done) Q ⟨n,(d,v.under C)::ts,ls,h⟩) (hg:(ops[gi]?).bind (·.dst)=some dg:=by exact rfl) (hc:gc (get ts dg) want=some C:=by exact rfl) (g:Nat.blt d n=true:=by exact rfl) (hi:C=true->c=true:=by exact gI) (i:C=true->c'=true:=by exact gI):au P ops n (⟨some d,op,ty,pos,aJ,some (gi,want)⟩::rest) done Q ⟨n,ts,ls,h⟩:=au.gC hg hc (fun hC=>ar.jq hk (hi hC) (ar.jq b (i hC) f)) g hr
theorem pn (k:Nat) (hg:(ops[gi]?).bind (·.dst)=some dg) (hc:gc (get ts dg) want=some C) (hk:Ab.get ts k=.gd c x) (b:ev ((k,.a x)::ts) f=.a (.d (.func dO ck))) (g:gE ((k,.a x)::ts) args.toList=some xs) (i:C=true->∀H:ai,AC P dO (xs++ck.map A.d) H fun r h'=>r=v/\h'=H) (hr:au P ops n rest (Fx.plain {}::done) Q ⟨n,(d,v.under C)::ts,ls,h⟩) (hi:C=true->c=true:=by exact gI) (j:Nat.blt d n=true:=by exact rfl):au P ops n (⟨some d,.call { callee:=.value f,args:=args,argTypes:=cA },ty,pos,aJ,some (gi,want)⟩::rest) done Q ⟨n,ts,ls,h⟩:=au.gC hg hc (fun hC=>ar.jq hk (hi hC) (ar.iJ b g (i hC))) j hr
theorem u3 (k k':Nat) (hg:(ops[gi]?).bind (·.dst)=some dg) (hc:gc (get ts dg) want=some C) (hk:Ab.get ts k=.gd c x) (b:Ab.get ((k,.a x)::ts) k'=.gd c' x') (g:ev ((k',.a x')::(k,.a x)::ts) f=.a (.d (.func dO ck))) (i:gE ((k',.a x')::(k,.a x)::ts) args.toList=some xs) (j:C=true->∀H:ai,AC P dO (xs++ck.map A.d) H fun r h'=>r=v/\h'=H) (hr:au P ops n rest (Fx.plain {}::done) Q ⟨n,(d,v.under C)::ts,ls,h⟩) (hi:C=true->c=true:=by exact gI) (l:C=true->c'=true:=by exact gI) (m:Nat.blt d n=true:=by exact rfl):au P ops n (⟨some d,.call { callee:=.value f,args:=args,argTypes:=cA },ty,pos,aJ,some (gi,want)⟩::rest) done Q ⟨n,ts,ls,h⟩:=au.gC hg hc (fun hC=>ar.jq hk (hi hC) (ar.jq b (l hC) (ar.iJ g i (j hC)))) m hr
theorem Mv [eX P] (e:ar P o ts ls h fx v aM h':=by exact ar.ME):ar P o ts ls h fx v aM h':=e
theorem As [eX P] (e:ar P o ts ls h fx v aM h':=by exact ar.MF):ar P o ts ls h fx v aM h':=e
theorem Ld [eX P] (e:ar P o ts ls h fx v aM h':=by exact ar.dZ (jv rfl) rfl rfl rfl):ar P o ts ls h fx v aM h':=e
theorem Fv [eX P] (e:ar P o ts ls h fx v aM h':=by exact ar.MG (jv rfl) rfl rfl (jv rfl) rfl rfl):ar P o ts ls h fx v aM h':=e
theorem BI [eX P] (e:ar P o ts ls h fx v aM h':=by exact ar.zJ rfl rfl rfl):ar P o ts ls h fx v aM h':=e
theorem BS [eX P] (e:ar P o ts ls h fx v aM h':=by exact ar.LO rfl rfl rfl):ar P o ts ls h fx v aM h':=e
theorem PA [eX P] (e:ar P o ts ls h fx v aM h':=by exact ar.iM rfl rfl rfl):ar P o ts ls h fx v aM h':=e
theorem PO [eX P] (e:ar P o ts ls h fx v aM h':=by exact ar.sX rfl rfl rfl):ar P o ts ls h fx v aM h':=e
theorem NB [eX P] (e:ar P o ts ls h fx v aM h':=by exact ar.LQ rfl):ar P o ts ls h fx v aM h':=e
theorem EX [eX P] (e:ar P o ts ls h fx v aM h':=by exact ar.extract rfl rfl):ar P o ts ls h fx v aM h':=e
theorem BX [eX P] (e:ar P o ts ls h fx v aM h':=by exact ar.Mp rfl):ar P o ts ls h fx v aM h':=e
theorem LL [eX P] (e:ar P o ts ls h fx v aM h':=by exact ar.sJ (jv rfl) rfl rfl rfl rfl):ar P o ts ls h fx v aM h':=e
theorem FL [eX P] (e:ar P o ts ls h fx v aM h':=by exact ar.EM (jv rfl) rfl rfl (jv rfl) rfl rfl):ar P o ts ls h fx v aM h':=e
theorem BU [eX P] (e:ar P o ts ls h fx v aM h':=by exact ar.build eX.ok rfl rfl rfl rfl rfl rfl):ar P o ts ls h fx v aM h':=e
theorem BV [eX P] (e:ar P o ts ls h fx v aM h':=by exact ar.buildSlice (jv rfl) rfl (jv rfl) rfl rfl rfl rfl rfl rfl):ar P o ts ls h fx v aM h':=e
theorem NP [eX P] (e:ar P o ts ls h fx v aM h':=by exact ar.gw rfl):ar P o ts ls h fx v aM h':=e
theorem aP.SI {t u:TypeId}{x y:Operand}{p q:Int}(hr:aP P ops rest Q ⟨n,(d,.a (.d (.int .i64 (p+q))))::ts,ls,h⟩) (hx:ev ts x=.a (.d (.int .i64 p)):=by exact rfl) (b:ev ts y=.a (.d (.int .i64 q)):=by exact rfl)
  (h1 : -9223372036854775808<=p+q:=by first|omega|(dsimp only; omega)|(simp at *; omega)) (f:p+q<=9223372036854775807:=by first|omega|(dsimp only; omega)|(simp at *; omega)) (g:Nat.blt d n=true:=by exact rfl) :
  aP P ops (⟨some d,.binOp .add t x y u,ty,pos,aJ,none⟩::rest) Q ⟨n,ts,ls,h⟩:=aP.s0 (ar.EP hx b h1 f) g hr
theorem aP.Sc {f:Operand}{args:Array Operand}{cA:Array TypeId}{dO:FuncId}{ck:List D}{xs:List A}(b:ev ts f=.a (.d (.func dO ck))) (g:gE ts args.toList=some xs)
  (hc:∀H:ai,AC P dO (xs++ck.map A.d) H fun r h'=>r=v/\h'=H) (hr:aP P ops rest Q ⟨n,(d,v)::ts,ls,h⟩) (i:Nat.blt d n=true:=by exact rfl):aP P ops (⟨some d,.call { callee:=.value f,args:=args,argTypes:=cA },ty,pos,aJ,none⟩::rest) Q ⟨n,ts,ls,h⟩:=aP.s0 (ar.iJ b g hc) i hr
theorem aP.Sl [eX P] (hr:aP P ops rest Q ⟨n,(d,v)::ts,aM,h⟩) (b:ar P ⟨some d,op,ty,pos,aJ,none⟩ ts ls h { wl:=true } v aM h:=by exact ar.MH (jv rfl) rfl) (f:Nat.blt d n=true:=by exact rfl) :
  aP P ops (⟨some d,op,ty,pos,aJ,none⟩::rest) Q ⟨n,ts,ls,h⟩:=aP.sL b f hr
theorem aP.Sf [eX P] (hr:aP P ops rest Q ⟨n,ts,aM,h⟩) (b:ar P ⟨none,op,ty,pos,aJ,none⟩ ts ls h { wl:=true } v aM h:=by first|exact ar.eG (jv rfl) rfl rfl rfl rfl rfl|exact ar.qE (jv rfl) rfl rfl rfl rfl (by repeat (first|exact bJ.zero|apply bJ.succ)) (by repeat (first|exact bJ.zero|apply bJ.succ))) :
  aP P ops (⟨none,op,ty,pos,aJ,none⟩::rest) Q ⟨n,ts,ls,h⟩:=aP.dB b hr
theorem aP.hq {h:ai}(h':ai) (hw:aP P ops rest Q ⟨n,ts,ls,h'⟩) (e:h=h':=by first|rfl|(rw [ai.set_set]; rfl)|(funext n_; simp only [ai.set]; (repeat' split)<;>first|rfl|(exfalso; simp_all; done)|(simp_all; done))):aP P ops rest Q ⟨n,ts,ls,h⟩:=aP.zV e hw
theorem au.Dh {h:ai}(h':ai) (hw:au P ops n rest done Q ⟨n,ts,ls,h'⟩) (e:h=h':=by first|rfl|(rw [ai.set_set]; rfl)|(funext n_; simp only [ai.set]; (repeat' split)<;>first|rfl|(exfalso; simp_all; done)|(simp_all; done))):au P ops n rest done Q ⟨n,ts,ls,h⟩:=au.zV e hw
end
section
variable {P:Program}{Q:Exit->St->Prop}{σ:St}
theorem ah.ag {id:Nat}{l:List Oper}{y:Code}(h:aP P l.toArray l (fun b=>ah P y Q b) σ):ah P (.seq (.region id l.toArray false) y) Q σ:=ah.seq (ah.region h)
theorem ah.cr {id:Nat}{l:List Oper}{y:Code}(h:au P l.toArray σ.n l [] (fun b=>ah P y Q b) σ) (hm:P.follows .mixedOrders=true:=by exact rfl):ah P (.seq (.region id l.toArray true) y) Q σ:=ah.seq (ah.draw hm h)
theorem ah.sk {A K:St->Prop}(b:∀σ,A σ->K σ) (h:A σ) (e:K σ->Q .normal σ:=by exact id):ah P .skip Q σ:=ah.skip (e (b _ h))
theorem ah.rt {α:Type}{a r:α}(b:some a=some r) (h:a=r->Q .ret σ:=by intro e; subst e; (repeat (first|refine bF ?_|refine bG ?_)); exact bn.bH _ rfl ⟨rfl,rfl⟩ (fun _ _ h=>h)):ah P .ret Q σ:=ah.ret (h (Option.some.inj b))
end
theorem bO {α β:Type}{o:Option α}{k:α->Option β}{r:β}(h:o.bind k=some r):∃x,o=some x/\k x=some r:=bx h
theorem gO {α β:Type}{c:Bool}{o:Option α}{d:α}{k:α->Option β}{r:β}(h:aR c o d k=some r):∃x,(c=true->o=some x)/\k x=some r:=Fb h
theorem aS.KA {ts:Ts}{m:Nat}{v:V}{r:Ts}(k:Nat) (t:aS ts m r) (h:Ab.get ts k=v:=by conv=>lhs; whnf) (hv:v.w8 m=true:=by rfl):aS ts m ((k,v)::r):=aS.c h hv t
theorem fp.TA {ts:Ts}{v:V}{r:Ts}(k:Nat) (t:fp ts r) (h:Ab.get ts k=v:=by conv=>lhs; whnf):fp ts ((k,v)::r):=fp.cons h t
section
variable {P:Program}{α:Type}{ts:Ts}{ls aM:List (List D)}{h h':ai}{dst:Option Tmp}{ty:TypeId}{pos:String}{aJ:Array Edge}{g:Option (Nat×Bool)}{ops:Array Oper}{rest:List Oper}{Q:St->Prop}{n d:Nat}{v:V}{op:Op}{done:List Fx}
theorem ix [eX P] (f:α->List D) (n:Nat){t e:TypeId}{b j:TI}{x i:Operand}{tok:Option Nat}{s:Sl α}{m:IntKind}{y:α}{k:Nat}(hr:s.l[n]?=some y) (o:aU P t=some b:=by exact jv rfl) (hk:b.k=.slice e:=by exact rfl) (p:aU P e=some j:=by exact jv rfl)
  (hx:ev ts x=.a (.d (s.d k f tok)):=by exact rfl) (hi:ev ts i=.a (.d (.int m (n:Int))):=by exact rfl) (q:k=j.size:=by exact rfl):ar P ⟨dst,.indexAddr t x i,ty,pos,aJ,g⟩ ts ls h {} (.a (.d (.view (f y)))) ls h:=ar.ee o hk p hx hi q hr
theorem am {t u e:TypeId}{i j b:TI}(f:α->List D){x y:Operand}{tk k k' m:Nat}{tok':Option Nat}{s r w:Sl α}{z:A}(o:aU P t=some i) (hk:i.k=.slice e) (p:aU P e=some b) (q:aU P u=some j) (hr:aW b.bytes s r=some w) (v:∃e,j.k=.slice e:=by exact⟨_,rfl⟩)
  (B:b.zero=some z:=by exact rfl) (C:(cD z).length=b.size:=by exact rfl) (E:b.size≠0:=by decide) (hx:ev ts x=.a (.d (s.d k f (some tk))):=by exact rfl) (F:ev ts y=.a (.d (r.d k' f tok')):=by exact rfl) (G:k=b.size:=by exact rfl) (H:k'=b.size:=by exact rfl)
  (I:h tk=some (.tok b.size m):=by exact av) (hm:m=s.l.length:=by exact rfl):ar P ⟨dst,.call { callee:=.builtin .append,args:=#[x,y],argTypes:=#[t,u] },ty,pos,aJ,g⟩ ts ls h { rh:=true,wh:=true } (.a (.d (w.d k f (some tk)))) ls (h.set tk (some (.tok b.size w.l.length))) :=
 ar.jU o hk p q v B C E hx F G H I hm hr
theorem SH (b:ar P ⟨some d,op,ty,pos,aJ,none⟩ ts ls h { rh:=true,wh:=true } v ls h') (hr:aP P ops rest Q ⟨n,(d,v)::ts,ls,h'⟩) (f:Nat.blt d n=true:=by exact rfl):aP P ops (⟨some d,op,ty,pos,aJ,none⟩::rest) Q ⟨n,ts,ls,h⟩:=aP.sH b f hr
theorem cM {f:Operand}{args:Array Operand}{cA:Array TypeId}{dO:FuncId}{ck:List D}{xs:List A}(b:ev ts f=.a (.d (.func dO ck))) (g:gE ts args.toList=some xs)
  (hc:∀H:ai,AC P dO (xs++ck.map A.d) H fun r h'=>r=v/\h'=H) (hr:au P ops n rest (Fx.plain {}::done) Q ⟨n,(d,v)::ts,ls,h⟩) (i:Nat.blt d n=true:=by exact rfl):au P ops n (⟨some d,.call { callee:=.value f,args:=args,argTypes:=cA },ty,pos,aJ,none⟩::rest) done Q ⟨n,ts,ls,h⟩:=au.s0 (ar.iJ b g hc) i hr
end
theorem Qe {α:Type}{a b c:α}(h:c=b) (e:a=b):a=c:=e.trans h.symm
theorem Qs {α:Type}{o p:Option α}(h:o=p.bind some):o=p:=h.trans (Q.M8 p)
theorem QT {α:Type}{i n:Nat}{a b r:α}(h:i<n) (e:a=r):cond (decide ((i:Int)<(n:Int))) a b=r:=Q.kZ (Q.Fu h) e
theorem QF {α:Type}{i n:Nat}{a b r:α}(h:¬i<n) (e:b=r):cond (decide ((i:Int)<(n:Int))) a b=r:=Q.zU (Q.M9 h) e
theorem Qa {α:Type}{l:List α}{i:Nat}(h:i<l.length):∃x,l[i]?=some x:=⟨_,List.getElem?_eq_getElem h⟩
theorem dL {α:Type}{i:Nat}{l:List α}(h:l.length<=i):l.drop i=[]:=List.drop_of_length_le h
end Go.Ab
/-
 Short rules for walks over the list layer.
-/
namespace Go.Ab
open Go
section
variable {ax:bK}{P:Program}{Q:Exit->St->Prop}{σ:St}
theorem ah.cO {c:Operand}{u v:Code}{b:Bool}{α R:Type}{A B:Option α}{K:α->Option R}{r:R}(f:Option.bind (bif b then A else B) K=some r) (ht:b=true->Option.bind A K=some r->ah P u Q σ) (g:b=false->Option.bind B K=some r->ah P v Q σ) (hc:ev σ.ts c=.a (.d (.bool b)):=by exact rfl):ah P (.cond c u v) Q σ:=ah.pe f hc ht g
theorem ah.cP {c:Operand}{u v:Code}{b:Bool}{α R:Type}{A B:α}{K:α->Option R}{r:R}(f:K (bif b then A else B)=some r) (ht:b=true->K A=some r->ah P u Q σ) (g:b=false->K B=some r->ah P v Q σ) (hc:ev σ.ts c=.a (.d (.bool b)):=by exact rfl):ah P (.cond c u v) Q σ:=ah.uY f hc ht g
end
end Go.Ab
/-
 A law's call beside the library's table of powers of ten. No program text.
-/
namespace Go.Ab
open Go Go.RowKit Go.Proofs Go.ChangeShapes Go.WideShapes Go.ChangeAt
variable {ax:bK}
theorem Nj {P:Program}{W:World}{l:List (String×DataW Unit)}{name:String}{k:IntKind}{f:List Int}{g:Nat}{t e:TypeId}{n:Nat}(hg:P.globalNamed name=some g) (i:(P.globals[g]?).map (·.type)=some t) (ht:P.underlying t=some (.array n e))
  (he:P.underlying e=some (.int k)) (j:P.cellsOf e=1) (m:P.cellsOf t=n) (h:laidMet P l W) (hm:(name,Lib.tabData k f)∈l):∃u b,W.heap[g]?=some (.cells (f.map fun z=>Value.int k z).toArray u b):=by
 obtain⟨v,w,cs,fuel,p,o,q,hv,r⟩:=Lib.laidMet.reads h hm;obtain rfl:=Option.some.inj (hg.symm.trans o);obtain rfl:=Option.some.inj (i.symm.trans q);have hc:=Lib.cells_of_tab ht he j m r;unfold World.var? at hv;rw [hg,Option.bind_some] at hv
 split at hv
 ·rename_i c u b s
  simp only [Option.some.injEq] at hv;subst hv;refine⟨u,b, ?_⟩;rw [<- hc];exact s
 ·cases hv
def eF (g:Nat) (o:Go.Obj):ai:=fun i=>if i=0 then some (.fix g o) else none
def jT (w:World):J:={ j0 w with next:=1 }
theorem Nk (w:World):Le (j0 w) w (jT w) w:=⟨Nat.zero_le _,fun _ h=>absurd h (Nat.not_lt_zero _),fun _=>Nat.le_refl _,fun _ _ _=>rfl,fun _ h=>absurd h (Nat.not_lt_zero _)⟩
theorem Nl {w:World}{g:Nat}{o:Go.Obj}(h:w.heap[g]?=some o):e9 (jT w) w (eF g o):=by
 refine⟨fun id l hi=>?_,fun jg o1 jh o2 b h1 f _ _=>?_,fun b i=>(by simp [jT,j0,Array.getElem?_eq_none i])⟩
 ·unfold eF at hi
  split at hi
  ·rename_i h0; subst h0; cases hi; exact⟨Nat.zero_lt_one,h⟩
  ·cases hi
 ·unfold eF at h1 f
  split at h1
  ·split at f
   ·rename_i j k; rw [j,k]
   ·cases f
  ·cases h1
theorem Nn {P:Program}{f:FuncId}{xs:List A}{g:Nat}{o:Go.Obj}(hc:@AC bK.on P f xs (eF g o) fun r h'=>r=.a (.d (.bool true))/\h'=eF g o){W:World}{args:List Value}(hg:W.heap[g]?=some o) (m:aY (de (j0 W) W) xs args) :
  Calls P f args.toArray W fun e i=>e=.returned (.bool true)/\Below W.heap.size W i:=by
 letI:bK:=bK.on
 refine(hc.runs (jT W) W args (Nl hg) (m.imp fun _ _ h=>h.mono (Nk W))).mono ?_;rintro e i ⟨r,cv,j',h',rfl,⟨rfl,rfl⟩,hv,hr,b⟩;have p:aI j' i (.bool true) cv:=hv;cases p;refine⟨rfl,b.os,b.tape,b.output.1,b.size,fun k hk=>?_⟩;by_cases j:k=g
 ·subst j;have h1:i.heap[k]?=some o:=(hr.obj 0 (.fix k o) rfl).2;rw [h1,hg]
 ·refine(b.frame k hk ?_).1;rintro (h|⟨id,q,h,l⟩)
  ·cases h
  ·unfold eF at h
   split at h
   ·cases h;simp only [bS,Option.some.injEq] at l;exact j l.symm
   ·cases h
theorem fU.of {P:Program}{g:Nat}{u:TypeId}{b:Nat×Nat}(hg:P.globalNamed "internal/strconv.uint64pow10"=some g):fU P (.fix g (.cells (Lib.pow10Tab.map fun z=>Value.int .u64 z).toArray u b)):=⟨g,u,b,rfl,hg⟩
end Go.Ab
namespace Go.Ab
theorem oB {α β : Type} (a : α) (f : α → Option β) : (some a).bind f = f a := rfl
theorem oJ {α : Type} {a b : α} (h : some a = some b) : a = b := Option.some.inj h
theorem nS (n : Nat) : n < n.succ := Nat.lt_succ_self n
theorem oD {p : Prop} [Decidable p] (h : decide p = true) : p := of_decide_eq_true h
theorem dF {p : Prop} [Decidable p] (h : ¬ p) : decide p = false := decide_eq_false h
theorem dT {p : Prop} [Decidable p] (h : p) : decide p = true := decide_eq_true h
theorem kN {ts : Ts} : fp ts [] := .nil
end Go.Ab
