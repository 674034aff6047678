import Derived.Test.YtdlobimnfmjonaaGreatDoorE2
import Derived.Defers
import Derived.Laws.IdiomRangeMap
import Derived.Sort.Grow
import Derived.Shelf.SlSortCmp.NoneTotal
import Derived.Shelf.Spec.SlicesGrow
import Derived.Shelf.SlicesE.DeleteFunc
import Derived.Laws.BytesString
import Derived.Shelf.Strconv.Itoa3
import Derived.Shelf.Strings.OnBuilder
import Derived.Shelf.SlicesE.Reverse
import Derived.Scope
import Derived.WalkKit
import Derived.ProofKit
import Derived.OpenShut
import Derived.JoinedCond
import Derived.Carry
import Derived.Lib.LaidU8
set_option maxRecDepth 100000
set_option maxHeartbeats 2000000
set_option linter.unusedVariables false
set_option linter.unusedSimpArgs false
/-
 The rules as a walk applies them.
-/
namespace Go.Ab
open Go Go.RowKit
variable {au:bS}
variable {f_:eT}
section
variable {P:Program}{ops:Array Oper}{rest:List Oper}{Q:St->Prop}{n:Nat}{ts:Ts}{ls aS:List (List D)}{h h':af}{fx:Fx}{v:V}{d dg gi:Nat}{op:Op}{ty:TypeId}{pos:String}{aI:Array Edge}{want b:Bool}
theorem OO (h:Nat.blt d n=true):nF (some d) n=true:=h
theorem aK.s0 (b:an P ⟨some d,op,ty,pos,aI,none⟩ ts ls h fx v ls h) (f:Nat.blt d n=true) (hr:aK P ops rest Q ⟨n,(d,v)::ts,ls,h⟩):aK P ops (⟨some d,op,ty,pos,aI,none⟩::rest) Q ⟨n,ts,ls,h⟩ :=
 aK.step b rfl f (by cases fx.wl<;>cases fx.wh<;>exact hr)
theorem aK.sL (b:an P ⟨some d,op,ty,pos,aI,none⟩ ts ls h { wl:=true } v aS h) (f:Nat.blt d n=true) (hr:aK P ops rest Q ⟨n,(d,v)::ts,aS,h⟩):aK P ops (⟨some d,op,ty,pos,aI,none⟩::rest) Q ⟨n,ts,ls,h⟩ :=
 aK.step b rfl f hr
theorem aK.iT (b:an P ⟨none,op,ty,pos,aI,none⟩ ts ls h { wl:=true } v aS h) (hr:aK P ops rest Q ⟨n,ts,aS,h⟩):aK P ops (⟨none,op,ty,pos,aI,none⟩::rest) Q ⟨n,ts,ls,h⟩ :=
 aK.step b rfl rfl hr
theorem aK.sH (b:an P ⟨some d,op,ty,pos,aI,none⟩ ts ls h { rh:=true,wh:=true } v ls h') (f:Nat.blt d n=true) (hr:aK P ops rest Q ⟨n,(d,v)::ts,ls,h'⟩):aK P ops (⟨some d,op,ty,pos,aI,none⟩::rest) Q ⟨n,ts,ls,h⟩ :=
 aK.step b rfl f hr
theorem aK.dB (b:an P ⟨none,op,ty,pos,aI,none⟩ ts ls h fx v ls h') (f:fx.wl=false) (g:fx.wh=true) (hr:aK P ops rest Q ⟨n,ts,ls,h'⟩):aK P ops (⟨none,op,ty,pos,aI,none⟩::rest) Q ⟨n,ts,ls,h⟩ :=
 aK.step b rfl rfl (by rw [f,g]; exact hr)
theorem aK.sE {R:V->List (List D)->af->Prop}(b:dm P ⟨some d,op,ty,pos,aI,none⟩ ts ls h R) (f:Nat.blt d n=true) (hr:∀v aS h',R v aS h'->aK P ops rest Q ⟨n,(d,v)::ts,aS,h'⟩) :
  aK P ops (⟨some d,op,ty,pos,aI,none⟩::rest) Q ⟨n,ts,ls,h⟩:=aK.GU b rfl f hr
theorem Dw (hg:(ops[gi]?).bind (·.dst)=some dg){dst:Option Tmp}:guardOf ops ⟨dst,op,ty,pos,aI,some (gi,want)⟩=some (dg,want):=by
 simp only [guardOf,hg]
variable {done:List Fx}
theorem aN.s0 (f:an P ⟨some d,op,ty,pos,aI,none⟩ ts ls h fx v ls h) (g:Nat.blt d n=true) (hr:aN P ops n rest (fx.plain::done) Q ⟨n,(d,v)::ts,ls,h⟩):aN P ops n (⟨some d,op,ty,pos,aI,none⟩::rest) done Q ⟨n,ts,ls,h⟩ :=
 aN.cons (qi.plain f rfl g) (by cases fx with|mk a b c d e=>cases b<;>cases d<;>exact hr)
theorem vQ.alloc {e:TypeId}{b:TI}{z:A}{i:Nat}{aS:List (List D)}(g:aY P e=some b) (hz:b.zero=some z) (k:fw (cw z) ls i aS):vQ P ⟨some d,.alloc e,ty,pos,aI,none⟩ (.cW i 0) ls aS:=by
 obtain⟨inf,s,h1,_,_,_,_,f⟩:=gh g;rw [hz] at f;obtain⟨v,l,m⟩:=nH f;obtain⟨p,q⟩:=k.spec;refine⟨cw z,d,rfl,rfl,by rw [p],q,v.cells.toList,e,fun j w=>(m j w).cells,fun a w K Q hk=>?_⟩;have r:(execOp a.eval (⟨some d,.alloc e,ty,pos,aI,none⟩:Oper)).run P w=.ok (.value (.pointer (some ⟨w.heap.size,0,none⟩))) (w.alloc (.cells v.cells e)):=by
  simp [execOp,Instr.alloc,zeroValue,typeInfo,h1,l,newVar,newRow]
 unfold Oper.wp;rw [r,Oper.upon_value];rw [Array.toArray_toList] at hk;exact hk
theorem aN.sB {e:TypeId}{b:TI}{z:A}{i:Nat}{aS:List (List D)}(f:aY P e=some b) (hz:b.zero=some z) (g:Nat.blt d n=true) (hr:aN P ops n rest ({ wl:=true,nu:=true }::done) Q ⟨n,(d,.cW i 0)::ts,aS,h⟩)
  (j:fw (cw z) ls i aS:=by repeat (first|exact fw.nil|apply fw.cons)):aN P ops n (⟨some d,.alloc e,ty,pos,aI,none⟩::rest) done Q ⟨n,ts,ls,h⟩:=aN.born (vQ.alloc f hz j) g hr
theorem aN.iT (b:an P ⟨none,op,ty,pos,aI,none⟩ ts ls h { wl:=true } v aS h) (hr:aN P ops n rest ({ wl:=true }::done) Q ⟨n,ts,aS,h⟩):aN P ops n (⟨none,op,ty,pos,aI,none⟩::rest) done Q ⟨n,ts,ls,h⟩ :=
 aN.cons (qi.plain b rfl rfl) hr
theorem aN.sH (b:an P ⟨some d,op,ty,pos,aI,none⟩ ts ls h { rh:=true,wh:=true } v ls h') (f:Nat.blt d n=true) (hr:aN P ops n rest ({ rh:=true,wh:=true }::done) Q ⟨n,(d,v)::ts,ls,h'⟩) :
  aN P ops n (⟨some d,op,ty,pos,aI,none⟩::rest) done Q ⟨n,ts,ls,h⟩:=aN.cons (qi.plain b rfl f) hr
theorem aN.dB (b:an P ⟨none,op,ty,pos,aI,none⟩ ts ls h fx v ls h') (f:fx.wl=false) (g:fx.wh=true) (hr:aN P ops n rest (fx.plain::done) Q ⟨n,ts,ls,h'⟩):aN P ops n (⟨none,op,ty,pos,aI,none⟩::rest) done Q ⟨n,ts,ls,h⟩ :=
 aN.cons (qi.plain b rfl rfl) (by rw [f,g]; exact hr)
end
section
variable {P:Program}{ops:Array Oper}{rest:List Oper}{Q:St->Prop}{n:Nat}{ts:Ts}{ls aS:List (List D)}{h h':af}{fx:Fx}{x:A}{d dg gi:Nat}{op:Op}{ty:TypeId}{pos:String}{aI:Array Edge}{want C:Bool}
def gc:V->Bool->Option Bool
 | .a (.d (.bool b)),true=>some b
 | .a (.d (.bool b)),false=>some (!b)
 | .gd c (.d (.bool b)),true=>some (c&&b)
 | .gd c (.d (.bool b)),false=>some (c&&!b)
 | _,_=>none
theorem HH {j:J}{w:World}{jl:List Nat}{a:Act}{o:Oper}(hg:guardOf ops o=some (dg,want)) (hc:gc (get ts dg) want=some C) (h:br j w jl (get ts dg) (a.tmps.getD dg undef)) :
  Region.wanted o (yielded ops a.tmps)=C:=by
 cases hv:get ts dg with
 | a y =>
  cases y with
  | d z =>
   cases z with
   | bool b =>
    rw [hv] at hc;cases want<;>simp only [gc,Option.some.injEq] at hc<;>subst hc<;>rw [GS hg hv h]<;>cases b<;>rfl
   | _=>rw [hv] at hc; cases want<;>simp [gc] at hc
  | agg z=>rw [hv] at hc; cases want<;>simp [gc] at hc
 | gd c y =>
  cases y with
  | agg z=>rw [hv] at hc; cases want<;>simp [gc] at hc
  | d z =>
   cases z with
   | bool b =>
    rw [hv] at hc;rw [hv] at h;cases c with
    | true =>
     have h1:br j w jl (get [(dg,.a (.d (.bool b)))] dg) (a.tmps.getD dg undef):=by rw [ga]; exact h.1 rfl
     cases want<;>simp only [gc,Option.some.injEq,Bool.true_and] at hc<;>subst hc<;>rw [GS (ts:=[(dg,.a (.d (.bool b)))]) hg (ga _ _ _) h1]<;>cases b<;>rfl
    | false =>
     have f:=h.2 rfl;have hC:C=false:=by cases want<;>simp [gc] at hc<;>exact hc
     subst hC;unfold guardOf at hg
     split at hg
     ·simp at hg
     ·rename_i g q l
      split at hg
      ·rename_i k m
       simp only [Option.some.injEq,Prod.mk.injEq] at hg;obtain⟨rfl,rfl⟩:=hg;have p:a.tmps[k]?=none\/a.tmps[k]?=some (.tuple #[]):=by
        rw [Array.getD_eq_getD_getElem?] at f;cases e:a.tmps[k]? with
        | none=>exact .inl rfl
        | some y=>rw [e] at f; simp at f; rw [f]; exact .inr rfl
       simp only [Region.wanted,l,yielded,m,Option.bind_some];rcases p with e|e<;>rw [e]<;>rfl
      ·simp at hg
   | _=>rw [hv] at hc; cases want<;>simp [gc] at hc
 | any=>rw [hv] at hc; cases want<;>simp [gc] at hc
 | cW _ _=>rw [hv] at hc; cases want<;>simp [gc] at hc
 | cL _=>rw [hv] at hc; cases want<;>simp [gc] at hc
 | iI _ _ _=>rw [hv] at hc; cases want<;>simp [gc] at hc
 | full _ _=>rw [hv] at hc; cases want<;>simp [gc] at hc
 | rV _ _ _=>rw [hv] at hc; cases want<;>simp [gc] at hc
theorem an.iU {o:Oper}{v:V}{k:Nat}{c:Bool}(hk:get ts k=.gd c x) (hc:c=true) (b:an P o ((k,.a x)::ts) ls h fx v aS h'):an P o ts ls h fx v aS h':=by
 intro L H f hH j w jl a hl g;refine b L H f hH j w jl a hl fun y l=>?_;have h1:=g y l;cases y with
 | tmp t =>
  by_cases e:k=t
  ·subst e;simp only [ev] at h1 ⊢;rw [ga];rw [hk] at h1;exact h1.1 hc
  ·simp only [ev] at h1 ⊢;rw [ir _ _ e]; exact h1
 | _=>exact h1
theorem an.OP {o:Oper}{v:V}{k:Nat}{c:Bool}{i off:Nat}(hk:get ts k=.iI c i off) (hc:c=true) (b:an P o ((k,.cW i off)::ts) ls h fx v aS h'):an P o ts ls h fx v aS h':=by
 intro L H f hH j w jl a hl g;refine b L H f hH j w jl a hl fun y l=>?_;have h1:=g y l;cases y with
 | tmp t =>
  by_cases e:k=t
  ·subst e;simp only [ev] at h1 ⊢;rw [ga];rw [hk] at h1;exact h1.1 hc
  ·simp only [ev] at h1 ⊢;rw [ir _ _ e]; exact h1
 | _=>exact h1
theorem aK.gC {v:V}(hg:(ops[gi]?).bind (·.dst)=some dg) (hc:gc (get ts dg) want=some C) (q:C=true->an P ⟨some d,op,ty,pos,aI,some (gi,want)⟩ ts ls h fx v ls h) (g:Nat.blt d n=true)
  (hr:aK P ops rest Q ⟨n,(d,v.under C)::ts,ls,h⟩):aK P ops (⟨some d,op,ty,pos,aI,some (gi,want)⟩::rest) Q ⟨n,ts,ls,h⟩:=by
 intro j w jl a b f hk;have r:=HH (o:=⟨some d,op,ty,pos,aI,some (gi,want)⟩) (Dw hg) hc (b.tmps dg);refine wpList_step fun K m=>?_;rw [r];cases C with
 | true =>
  rw [if_pos rfl];refine(q rfl).step j w jl a b.hl (fun x _=>o8 b.tmps x) K f fun v0 l k cv j' w' s ⟨t,u,y⟩ hv hl hx p=>m _ _ ?_;have z:l=ls:=by rw [u]; cases fx.wl<;>rfl
  have B:k=h:=by rw [y]; cases fx.wh<;>rfl
  subst t z B;exact hr j' w' s _ (b.put p.toLe hx (dst:=some d) g (v:=_) (V.GP hv) hl) f fun E F G H a2 hq I J=>hk E F G H a2 hq I (p.trans J)
 | false =>
  simp only [Bool.false_eq_true,if_false];exact m _ _ (hr j w jl _ (b.put (Le.refl _ _) (Ext.refl _) (dst:=some d) g (v:=v.under false) (V.GQ v) b.hl) f hk)
theorem aN.gC {v:V}{done:List Fx}(hg:(ops[gi]?).bind (·.dst)=some dg) (hc:gc (get ts dg) want=some C) (m:C=true->an P ⟨some d,op,ty,pos,aI,some (gi,want)⟩ ts ls h fx v ls h) (p:Nat.blt d n=true)
  (hr:aN P ops n rest (fx.plain::done) Q ⟨n,(d,v.under C)::ts,ls,h⟩):aN P ops n (⟨some d,op,ty,pos,aI,some (gi,want)⟩::rest) done Q ⟨n,ts,ls,h⟩:=by
 refine aN.cons (fx:=fx) (v:=v.under C) (aS:=ls) (h':=h) ⟨p,fun L H k hH j w jl a hl l K Q hk=>?_⟩ (by cases fx with|mk a b c d e=>cases b<;>cases d<;>exact hr);have q:=HH (o:=⟨some d,op,ty,pos,aI,some (gi,want)⟩) (Dw hg) hc (l dg (N2 (Dw hg)));rw [q];cases C with
 | true =>
  rw [if_pos rfl];exact m rfl L H k hH j w jl a hl (GV l) K Q fun _ _ _ cv j' w' r ⟨g,f,s⟩=>by subst g f s; exact fun hv=>hk cv j' w' r (V.GP hv)
 | false =>
  simp only [Bool.false_eq_true,if_false];refine hk undef j w jl (V.GQ v) ?_ (Ext.refl _) ?_
  ·have g:(bif fx.wl then ls else L)=L:=by cases hw:fx.wl with
    | true=>exact(k (by rw [hw]; simp)).symm
    | false=>rfl
   have f:(bif fx.wh then h else H)=H:=by cases hw:fx.wh with
    | true=>exact(hH (by rw [hw]; simp)).symm
    | false=>rfl
   rw [g,f]; exact hl
  ·have f:(bif fx.wh then h else H)=H:=by cases hw:fx.wh with
    | true=>exact(hH (by rw [hw]; simp)).symm
    | false=>rfl
   rw [f]; exact bN.refl _ _ _
variable {dst:Option Tmp}{g:Option (Nat×Bool)}
theorem an.OQ {c y z:Operand}{b r k:Bool}(hc:ev ts c=.a (.d (.bool b))) (p:ev ts y=.gd k (.d (.bool r))) (q:b=true->k=true) (hz:ev ts z=.a (.d (.bool false))) :
  an P (mk dst (.pick c y z) ty pos aI g) ts ls h {} (.a (.d (.bool (b&&r)))) ls h :=
 an.dR fun j w jl a f=>by
  have h1:=f c (by simp [Op.operands]);have l:=f y (by simp [Op.operands]);have m:=f z (by simp [Op.operands]);rw [hc] at h1; rw [p] at l; rw [hz] at m;cases b with
  | true =>
   have s:br j w jl (.a (.d (.bool r))) (a.eval y):=l.1 (q rfl);exact⟨.bool r,by simp [execOp,nK h1,nK s,asBool],by simp only [Bool.true_and]; exact aD.bool _⟩
  | false=>exact⟨.bool false,by simp [execOp,nK h1,nK m,asBool],by simp only [Bool.false_and]; exact aD.bool _⟩
theorem an.OR {c y z:Operand}{b r k:Bool}(hc:ev ts c=.a (.d (.bool b))) (p:ev ts y=.a (.d (.bool true))) (hz:ev ts z=.gd k (.d (.bool r))) (q:b=false->k=true) :
  an P (mk dst (.pick c y z) ty pos aI g) ts ls h {} (.a (.d (.bool (b||r)))) ls h :=
 an.dR fun j w jl a f=>by
  have h1:=f c (by simp [Op.operands]);have l:=f y (by simp [Op.operands]);have m:=f z (by simp [Op.operands]);rw [hc] at h1; rw [p] at l; rw [hz] at m;cases b with
  | false =>
   have s:br j w jl (.a (.d (.bool r))) (a.eval z):=m.1 (q rfl);exact⟨.bool r,by simp [execOp,nK h1,nK s,asBool],by simp only [Bool.false_or]; exact aD.bool _⟩
  | true=>exact⟨.bool true,by simp [execOp,nK h1,nK l,asBool],by simp only [Bool.true_or]; exact aD.bool _⟩
theorem ji {a b:Bool}(h:(a&&b)=true):a=true:=by cases a<;>simp_all
theorem Dx {a b:Bool}(h:(a&&b)=true):b=true:=by cases a<;>simp_all
theorem AX {b:Bool}(h:b=false):(!b)=true:=by simp [h]
theorem AY {a b:Bool}(h:a=true) (h':b=true):(a&&b)=true:=by simp [h,h']
end
section
variable {P:Program}{Q:Exit->St->Prop}{σ:St}
theorem yJ {id:Nat}(h:Q .ret σ):vU id Q .ret σ:=h
theorem yK {K:St->Prop}(h:Q .ret σ):mq K Q .ret σ:=h
theorem ag.ar {x y:Code}(h:∀K:St->Prop,(∀σ,ag P y Q σ->K σ)->ag P x (mq K Q) σ):ag P (.seq x y) Q σ:=ag.seq (h _ fun _ h=>h)
theorem ag.OS {α:Type}{c:Code}(inv:α->St) (m:α->Nat) (pre:α->Prop) (g:α) (l:cC σ (inv g)) (h0:pre g)
  (hr:∀x,pre x->∀K:St->Prop,(∀b y,cC b (inv y)->pre y->m y<m x->K b)->ag P c (mq K Q) (inv x)):ag P (.loop c) Q σ:=by
 refine ag.uA l (ag.loop inv m pre g h0 fun x hx=>ag.post (ag.mono (hr x hx (fun b=>∃y,cC b (inv y)/\pre y/\m y<m x) fun b y h1 j k=>⟨y,h1,j,k⟩) ?_));intro e f hq;cases e with
 | normal=>obtain⟨y,h1,j,k⟩:=hq; exact⟨inv y,h1,y,rfl,j,k⟩
 | exit _=>exact⟨f,cC.refl _,hq⟩
 | goto _=>exact⟨f,cC.refl _,hq⟩
 | ret=>exact⟨f,cC.refl _,hq⟩
 | panic _=>exact⟨f,cC.refl _,hq⟩
 | outgrown=>exact⟨f,cC.refl _,hq⟩
theorem cC.OT {n:Nat}{ts b:Ts}{ls aS:List (List D)}{h h':af}(m:Nat) (hk:dJ ts m b) (hl:ls.take m=aS) (hh:h=h'):cC ⟨n,ts,ls,h⟩ ⟨n,b,aS,h'⟩:=by
 subst hl hh; exact cC.keep m hk
def V.yL (m:Nat):V->Bool
 | .cW i _=>Nat.blt i m
 | .iI _ i _=>Nat.blt i m
 | _=>true
theorem dJ.c {ts:Ts}{m:Nat}{k:Nat}{v:V}{r:Ts}(h:Ab.get ts k=v) (hv:v.yL m=true) (t:dJ ts m r):dJ ts m ((k,v)::r) :=
 .cons h ⟨fun i off e=>by subst e; simpa [V.yL,Nat.blt_eq] using hv,fun c i off e=>by subst e; simpa [V.yL,Nat.blt_eq] using hv⟩ t
end
inductive fN (ts:Ts):Ts->Prop where
 | nil:fN ts []
 | cons {k:Nat}{v:V}{r:Ts}(h:Ab.get ts k=v) (t:fN ts r):fN ts ((k,v)::r)
inductive lM {α:Type}:List α->List α->Prop where
 | nil {l:List α}:lM [] l
 | cons {a:α}{l l':List α}(h:lM l l'):lM (a::l) (a::l')
theorem lM.take {α:Type}{l l':List α}(h:lM l l'):l'.take l.length=l:=by
 induction h with
 | nil=>simp
 | cons _ b=>simp [b]
theorem cC.to {n:Nat}{ts b:Ts}{ls aS:List (List D)}{h h':af}(hk:dJ ts aS.length b) (hl:lM aS ls) (hh:h=h'):cC ⟨n,ts,ls,h⟩ ⟨n,b,aS,h'⟩ :=
 cC.OT aS.length hk hl.take hh
theorem cC.toF {n:Nat}{ts b:Ts}{ls aS:List (List D)}{h h':af}(hk:dJ ts aS.length b) (hl:lM aS ls) (hh:∀id o,h' id=some o->h id=some o):cC ⟨n,ts,ls,h⟩ ⟨n,b,aS,h'⟩ :=
 (cC.to hk hl rfl).trans (cC.forget hh)
section
variable {P:Program}{Q:Exit->St->Prop}{n:Nat}{jK ts:Ts}{ls:List (List D)}{h:af}
theorem ag.gz {α:Type}{c:Code}(_:fN jK ts) (over:α->Ts) (lo:α->List (List D)) (hh:α->af) (m:α->Nat) (pre:α->Prop) (b:α) (h0:pre b) (hi:cC ⟨n,jK,ls,h⟩ ⟨n,over b++ts,lo b,hh b⟩)
  (hr:∀x,pre x->∀K:St->Prop,(∀f y,cC f ⟨n,over y++ts,lo y,hh y⟩->pre y->m y<m x->K f)->ag P c (mq K Q) ⟨n,over x++ts,lo x,hh x⟩):ag P (.loop c) Q ⟨n,jK,ls,h⟩ :=
 ag.OS (fun x=>⟨n,over x++ts,lo x,hh x⟩) m pre b hi h0 hr
theorem ag.dS {α:Type}{x y:Code}(_:fN jK ts) (over:α->Ts) (lo:α->List (List D)) (hh:α->af) (pre:α->Prop)
  (hx:∀K:St->Prop,(∀b y,cC b ⟨n,over y++ts,lo y,hh y⟩->pre y->K b)->ag P x (mq K Q) ⟨n,jK,ls,h⟩) (j:∀z,pre z->ag P y Q ⟨n,over z++ts,lo z,hh z⟩):ag P (.seq x y) Q ⟨n,jK,ls,h⟩:=by
 refine ag.seq (ag.post (ag.mono (hx (fun b=>∃z,cC b ⟨n,over z++ts,lo z,hh z⟩/\pre z) fun b z h1 g=>⟨z,h1,g⟩) ?_));intro e f hq;cases e with
 | normal=>obtain⟨z,h1,g⟩:=hq; exact⟨_,h1,j z g⟩
 | exit _=>exact⟨f,cC.refl _,hq⟩
 | goto _=>exact⟨f,cC.refl _,hq⟩
 | ret=>exact⟨f,cC.refl _,hq⟩
 | panic _=>exact⟨f,cC.refl _,hq⟩
 | outgrown=>exact⟨f,cC.refl _,hq⟩
theorem ag.bz {α:Type}{c:Code}(_:fN jK ts) (over:α->Ts) (hh:α->af) (m:α->Nat) (pre:α->Prop) (b:α) (h0:pre b) (hi:cC ⟨n,jK,ls,h⟩ ⟨n,over b++ts,ls,hh b⟩)
  (hr:∀x,pre x->∀K:St->Prop,(∀f y,cC f ⟨n,over y++ts,ls,hh y⟩->pre y->m y<m x->K f)->ag P c (mq K Q) ⟨n,over x++ts,ls,hh x⟩):ag P (.loop c) Q ⟨n,jK,ls,h⟩ :=
 ag.gz ‹_› over (fun _=>ls) hh m pre b h0 hi hr
theorem ag.aO {α:Type}{x y:Code}(_:fN jK ts) (over:α->Ts) (hh:α->af) (pre:α->Prop)
  (hx:∀K:St->Prop,(∀b y,cC b ⟨n,over y++ts,ls,hh y⟩->pre y->K b)->ag P x (mq K Q) ⟨n,jK,ls,h⟩) (f:∀z,pre z->ag P y Q ⟨n,over z++ts,ls,hh z⟩):ag P (.seq x y) Q ⟨n,jK,ls,h⟩ :=
 ag.dS ‹_› over (fun _=>ls) hh pre hx f
end
end Go.Ab
/-
 The program's data types (package api) as plain Lean types,and how each is laid out in cells.
-/
namespace Go.Ab
open Go Go.RowKit
variable {au:bS}
abbrev yM:={ s:List UInt8 // s.length<=cA }
structure kG (α:Type) where
 nil:Bool
 l:List α
 ok:l.length<=cA
 nn:nil=true->l=[]
def kG.d {α:Type}(k:Nat) (f:α->List D) (s:kG α):D:=.slice k none s.nil (s.l.map f)
def OU (s:yM):List D:=[.str s.1]
def OV (n:Int):List D:=[.int .i64 n]
end Go.Ab
/-
 What the functions of package schema compute,in plain terms.
-/
namespace Go.Ab.sj
open Go Go.Ab
end Go.Ab.sj
/-
 Heaps in normal form; nil slices given a token where they are passed.
-/
namespace Go.Ab
open Go Go.RowKit
variable {au:bS}
variable {f_:eT}
theorem af.AZ {h:af}{i:Nat}{o:Option Obj}(hi:h i=none):∀id b,h id=some b->(h.set i o) id=some b:=by
 intro id b e; rw [af.aQ]; exact e;intro he; rw [he,hi] at e; cases e
inductive nM (h:af):A->A->Prop where
 | refl (x:A):nM h x x
 | nil {k k' t:Nat}{o:Obj}(ht:h t=some o):nM h (.d (.slice k none true [])) (.d (.slice k' (some t) true []))
 | HI {k k':Nat}:nM h (.d (.slice k none true [])) (.d (.slice k' none true []))
theorem nM.rel {h:af}{x y:A}(f:nM h x y){j:J}{w:World}{v:Value}(hh:fo j w h) (hx:di j w x v):di j w y v:=by
 cases f with
 | refl=>exact hx
 | @nil k k' t o ht =>
  have b:aD j w (.slice k none true []) v:=hx;cases b;exact aD.gD _ _ fun t' e=>by simp at e; subst e; exact(hh.obj _ _ ht).1
 | @HI k k' =>
  have b:aD j w (.slice k none true []) v:=hx;cases b;exact aD.gD _ _ fun t' e=>by cases e
theorem AC.HJ {P:Program}{f:FuncId}{xs g:List A}{h:af}{cZ:V->af->Prop}(k:aW (nM h) xs g) (hc:AC P f g h cZ):AC P f xs h cZ :=
 ⟨hc.enter,fun j w dc hh l=>hc.runs j w dc hh (by
  refine aW.jV (by rw [<- k.length,l.length]) fun i y v m hv=>?_;obtain⟨x,hx,p⟩:=k.get' m;obtain⟨q,b,hr⟩:=l.get hx;rw [hv] at b; simp at b; subst b;exact p.rel hh hr)⟩
theorem fO {id:Nat}{Q:Exit->St->Prop}{σ:St}(h:Q .normal σ):vU id Q (.exit id) σ:=by
 unfold vU; simpa using h
theorem fP {id:Nat}{K:St->Prop}{Q:Exit->St->Prop}{σ:St}(h:Q (.exit id) σ):mq K Q (.exit id) σ:=h
theorem fQ {id:Nat}{Q:Exit->St->Prop}{σ:St}(h:Q .normal σ):vU id Q .normal σ:=h
theorem ag.tok {P:Program}{c:Code}{Q:Exit->St->Prop}{n:Nat}{ts:Ts}{ls:List (List D)}{h:af}(k:Nat)
  (hw:∀t,h t=none->ag P c Q ⟨n,ts,ls,h.set t (some (.tok k 0))⟩):ag P c Q ⟨n,ts,ls,h⟩:=by
 intro j w jl a b;obtain⟨h1,f⟩:=b.hl.dX k;have g:=b.hl.1.mm (Nat.le_refl _);refine wp_mono (hw j.next g j.dX w jl a ⟨b.defers,b.size,fun i=>(b.tmps i).mono f.toLe (Ext.refl _),h1⟩) fun e a w hq=>AQ.trans f hq
theorem ag.fe {P:Program}{c:Code}{Q:Exit->St->Prop}{n:Nat}{ts:Ts}{ls:List (List D)}{h:af}(s k t:Nat){o:Obj}{f:Nat}(g:get ts s=.a (.d (.slice f none true []))) (ht:h t=some o)
  (hw:ag P c Q ⟨n,(s,.a (.d (.slice k (some t) true [])))::ts,ls,h⟩):ag P c Q ⟨n,ts,ls,h⟩:=by
 intro j w jl a b;refine hw j w jl a ⟨b.defers,b.size,fun i=>?_,b.hl⟩;by_cases e:s=i
 ·subst e;show br _ _ _ (get ((s,_)::ts) s) _;rw [ga];have hv:br j w jl (get ts s) (a.tmps.getD s undef):=b.tmps s;rw [g] at hv;exact(nM.nil (k':=k) ht).rel b.hl.1 hv
 ·show br _ _ _ (get ((s,_)::ts) i) _;rw [ir _ _ e];exact b.tmps i
theorem ag.eF {P:Program}{c:Code}{Q:Exit->St->Prop}{n:Nat}{ts:Ts}{ls:List (List D)}{h:af}(s:Nat){k:Nat}{tk:Option Nat}{nl:Bool}{rows:List (List D)}(g:get ts s=.a (.d (.slice k tk nl rows)))
  (hw:ag P c Q ⟨n,(s,.a (.d (.slice k none nl rows)))::ts,ls,h⟩):ag P c Q ⟨n,ts,ls,h⟩:=by
 intro j w jl a b;refine hw j w jl a ⟨b.defers,b.size,fun i=>?_,b.hl⟩;by_cases e:s=i
 ·subst e;show br _ _ _ (get ((s,_)::ts) s) _;rw [ga];have hv:br j w jl (get ts s) (a.tmps.getD s undef):=b.tmps s;rw [g] at hv;have f:aD j w (.slice k tk nl rows) (a.tmps.getD s undef):=hv;generalize a.tmps.getD s undef=x at f ⊢;cases f with
  | gD=>exact aD.gD _ _ fun t e=>by cases e
  | slice _ _ _ a cap cv hk hn hc bQ hr ht=>exact aD.slice _ _ _ a cap cv hk hn hc bQ hr fun t e=>by cases e
 ·show br _ _ _ (get ((s,_)::ts) i) _;rw [ir _ _ e];exact b.tmps i
theorem bU.cH {T:List TI}{rs:List ResultVar}{cZ:V->af->Prop}{σ:St}{xs:List A}(h':af) (h:ql T σ rs=some xs) (b:cZ (nJ xs) h') (f:∀id o,h' id=some o->σ.h id=some o):bU T rs cZ .ret σ:=⟨.inr rfl,xs,h',h,f,b⟩
theorem bU.gj {T:List TI}{rs:List ResultVar}{cZ:V->af->Prop}{σ:St}{xs:List A}(h':af) (h:ql T σ rs=some xs) (b:cZ (nJ xs) h') (f:∀id o,h' id=some o->σ.h id=some o):bU T rs cZ .normal σ:=⟨.inl rfl,xs,h',h,f,b⟩
section
variable {P:Program}{dst:Option Tmp}{ty:TypeId}{pos:String}{aI:Array Edge}{g:Option (Nat×Bool)}{ts:Ts}{ls:List (List D)}{h:af}
end
def bR (l:List (List UInt8)):List (D×A):=l.map fun s=>(.str s,.d (.bool true))
def cD (l:List (List UInt8)) (s:List UInt8):List (List UInt8):=if l.contains s then l else l++[s]
theorem OW (l:List (List UInt8)) (s:List UInt8):qo (.str s) (bR l)=some (if l.contains s then some (.d (.bool true)) else none):=by
 induction l with
 | nil=>rfl
 | cons x r b =>
  simp only [bR,List.map_cons,qo,vZ,List.contains_cons];by_cases e:s=x
  ·subst e; simp
  ·have f:(s==x)=false:=by simpa using e
   have g:(x==s)=false:=by simpa using fun h=>e h.symm
   simp only [f,g,Bool.false_or]; exact b
theorem sn (l:List (List UInt8)) (s:List UInt8):uF (.str s) (.d (.bool true)) (bR l)=some (bR (cD l s)):=by
 induction l with
 | nil=>rfl
 | cons x r f =>
  simp only [bR,List.map_cons,uF,vZ,cD,List.contains_cons];by_cases e:s=x
  ·subst e; simp
  ·have g:(s==x)=false:=by simpa using e
   have j:(x==s)=false:=by simpa using fun h=>e h.symm
   have b:=f;simp only [bR,cD] at b;simp only [g,j,Bool.false_or,b]
   split<;>simp_all
section
variable {P:Program}{dst:Option Tmp}{ty:TypeId}{pos:String}{aI:Array Edge}{g:Option (Nat×Bool)}{ts:Ts}{ls:List (List D)}{h:af}
theorem an.uH {t b f:TypeId}{j m p:TI}{x y:Operand}{id:Nat}{l:List (List UInt8)}{s:List UInt8}(q:aY P t=some j) (hk:j.k=.map b f) (r:aY P b=some m) (w:aY P f=some p) (hz:p.zero=some (.d (.bool false)))
  (hx:ev ts x=.a (.d (.map id))) (u:ev ts y=.a (.d (.str s))) (v:jx m.k (.str s)=true) (hm:h id=some (.map (bR l))):an P (mk dst (.lookup t x y false) ty pos aI g) ts ls h { rh:=true } (.a (.d (.bool (l.contains s)))) ls h:=by
 have h1:=OW l s;cases hc:l.contains s with
 | true=>rw [hc] at h1; exact an.OL q hk r hx u v hm h1
 | false=>rw [hc] at h1; exact an.OM q hk r w hz hx u v hm h1
end
end Go.Ab
/-
 Variables that turn no more: a box that is only read,and a local that becomes data.
-/
namespace Go.Ab
open Go Go.RowKit
variable {au:bS}
variable {f_:eT}
theorem Dy {j:J}{w:World}{b:Nat}{xs:List D}{cs:List Value}{e:TypeId}{n:Nat}(hh:w.heap[b]?=some (.cells cs.toArray e (0,0))) (hx:aW (aD j w) xs cs) (g:xs.length<=j.F b) :
  aD j w (.view xs) (.pointer (some ⟨b,0,none⟩)):=by
 refine aD.view xs _ (fun i=>cs.getD i default) ⟨rfl,fun i hi=>?_⟩ fun i hi=>?_
 ·have f:i<cs.length:=hx.length▸hi;refine⟨by show 0+i<j.F b; omega, ?_,.cells hh⟩;show w.cell? ⟨b,0+i,none⟩=_;rw [Nat.zero_add,cell_of_row w b i cs.toArray e (0,0) hh];simp [f]
 ·obtain⟨v,hv,hr⟩:=hx.get (List.getElem?_eq_getElem hi);have:cs.getD i default=v:=by rw [List.getD_eq_getElem?_getD,hv]; rfl
  rw [this]; exact hr
section
variable {P:Program}{dst:Option Tmp}{ty:TypeId}{pos:String}{aI:Array Edge}{g:Option (Nat×Bool)}{ts:Ts}{ls:List (List D)}{h:af}
theorem an.OX {e:TypeId}{x:Operand}{y:A}(hx:ev ts x=.a y):an P (mk dst (.box e x) ty pos aI g) ts ls h {} (.a (.d (.view (cw y)))) ls h:=by
 refine an.of_run fun L H _ _ j w jl a hl f=>?_;have h1:=f x (by simp [Op.operands]);rw [hx] at h1;have k:di j w y (a.eval x):=h1;obtain⟨l,b⟩:=hl.data (.cells (a.eval x).cells e) (cw y).length;refine⟨.value (.pointer (some ⟨w.heap.size,0,none⟩)),_,.pointer (some ⟨w.heap.size,0,none⟩),j.eC w.heap.size (cw y).length,jl,by simp [execOp,Instr.box,newVar,newRow],.inl rfl, ?_,l,Ext.refl _,b⟩
 refine Dy (n:=0) (cs:=(a.eval x).cells.toList) (e:=e) ?_ (k.cells.imp fun _ _ h=>h.mono b.toLe) (by simp [J.eC]);rw [Array.toArray_toList]; exact heap_alloc_new w _
variable {c:Code}{Q:Exit->St->Prop}{n:Nat}
theorem cC.freeze {g:Ts}{aS:List (List D)}{xs:List D}(s i:Nat) (H:get ts s=.cW i 0) (hl:fw xs aS i ls) (hk:dJ ts i g):cC ⟨n,ts,ls,h⟩ ⟨n,(s,.a (.d (.view xs)))::g,aS,h⟩:=by
 obtain⟨hi,e⟩:=hl.spec;subst hi e;intro j w jl a f;have l:=f.hl;obtain⟨b,p,r⟩:∃b,jl[aS.length]?=some b/\a.tmps.getD s undef=.pointer (some ⟨b,0,none⟩):=by
  have:=f.tmps s;have this:br j w jl (get ts s) (a.tmps.getD s undef):=this;rw [H] at this; exact this
 obtain⟨xs',B,cs,S,C,I,K⟩:∃xs',(aS++[xs])[aS.length]?=some xs'/\jW j w b xs':=l.2.each.get' p;simp at B; subst B;have bn:=jJ C;have E:=l.trim (au:=au) aS.length;rw [List.take_left' rfl] at E;have L:b∉jl.take aS.length:=by
  intro hm;obtain⟨k,M,q⟩:=List.getElem_of_mem hm;rw [List.length_take] at M;have h1:jl[k]?=some b:=by rw [<- q,List.getElem_take]; exact List.getElem?_eq_getElem _
  have G:=(List.getElem?_inj (by omega) l.2.nodup).1 (h1.trans p.symm);omega
 have N:¬aV j h (jl.take aS.length) b:=by
  rintro (hm|⟨id,o,h1,G⟩)
  ·exact L hm
  ·exact l.2.apart b (List.mem_of_getElem? p) (.inr ⟨id,o,h1,G⟩)
 have hle:Le j w (j.eC b xs.length) w:=⟨Nat.le_refl _,fun _ _=>rfl,fun b'=>by
  simp only [J.eC]
  split
  ·rename_i e; rw [e,K]; exact Nat.zero_le _
  ·exact Nat.le_refl _,fun _ _ _=>rfl,fun _ _=>.inl rfl,fun _ _ _ _ _ h=>h⟩
 have t:∀b',b'≠b->(j.eC b xs.length).F b'=j.F b':=fun b' O=>by simp only [J.eC]; rw [if_neg O]
 have q:=E.1.keep hle (fun b' m=>⟨rfl,t b' (fun e=>N (e▸m))⟩) (fun _ _ _=>rfl) (fun b' P=>by rw [t b' (by omega)]; exact l.1.fresh b' P);refine⟨j.eC b xs.length,jl.take aS.length,⟨f.defers,f.size,fun k=>?_,q.1⟩, ?_⟩
 ·by_cases e:s=k
  ·subst e;show br _ _ _ (get ((s,_)::g) s) _;rw [ga];have r:a.tmps.getD s undef=.pointer (some ⟨b,0,none⟩):=r;rw [r];exact Dy (n:=0) C (I.imp fun _ _ h=>h.mono hle) (by simp [J.eC])
  ·show br _ _ _ (get ((s,_)::g) k) _;rw [ir _ _ e];obtain⟨U,W,X,_⟩:=cC.keep (au:=au) (n:=n) (ls:=aS++[xs]) (h:=h) aS.length hk j w jl a f;have hv:br j w jl (get ts k) (a.tmps.getD k undef):=f.tmps k;rcases hk.get k with u|⟨u,Q,R⟩
   ·rw [u]; trivial
   ·rw [<- u] at hv;cases hx:get g k with
    | any=>trivial
    | a x=>rw [hx] at hv; exact di.mono hle hv
    | cW i off =>
     rw [hx] at hv;obtain⟨v,y,z⟩:=hv;exact⟨v,by rw [List.getElem?_take_of_lt (Q i off hx)]; exact y,z⟩
    | cL xs=>rw [hx] at hv; obtain⟨cs,e,hh⟩:=hv; exact⟨cs,e,hh.imp fun _ _ h=>h.mono hle⟩
    | gd c x=>rw [hx] at hv; exact⟨fun hc=>di.mono hle (hv.1 hc),hv.2⟩
    | full k rows=>rw [hx] at hv; exact⟨aD.mono hle hv.1,hv.2⟩
    | rV c k rows=>rw [hx] at hv; exact⟨fun hc=>⟨aD.mono hle (hv.1 hc).1,(hv.1 hc).2⟩,hv.2⟩
    | iI c i off =>
     rw [hx] at hv;refine⟨fun hc=>?_,hv.2⟩;obtain⟨v,y,z⟩:=hv.1 hc;exact⟨v,by rw [List.getElem?_take_of_lt (R c i off hx)]; exact y,z⟩
 ·refine { toLe:=hle,size:=Nat.le_refl _,frame:=fun b' _ m=>⟨rfl,t b' fun e=>m (.inl (e▸List.mem_of_getElem? p))⟩,own:=fun b' _ m=>?_,os:=rfl,tape:=rfl,output:=fZ.rfl };rcases (q.2 b').1 m with hm|hm
  ·exact .inl (List.mem_of_mem_take hm)
  ·exact .inr hm
theorem ag.freeze {b:Ts}{aS:List (List D)}{xs:List D}(s i:Nat) (f:get ts s=.cW i 0) (hl:fw xs aS i ls) (hk:dJ ts i b) (hw:ag P c Q ⟨n,(s,.a (.d (.view xs)))::b,aS,h⟩):ag P c Q ⟨n,ts,ls,h⟩ :=
 ag.uA (cC.freeze s i f hl hk) hw
end
theorem HK {k:Nat}{tk:Option Nat}{nl:Bool}{rows:List (List D)}(j:J) (w:World) (cv:Value) (h:br j w [] (.a (.d (.slice k tk nl rows))) cv):br j w [] (.a (.d (.slice k none nl rows))) cv:=by
 have h':aD j w (.slice k tk nl rows) cv:=h;cases h' with
 | gD=>exact aD.gD _ _ fun t e=>by cases e
 | slice _ _ _ a cap cv hk hn hc bQ hr ht=>exact aD.slice _ _ _ a cap cv hk hn hc bQ hr fun t e=>by cases e
end Go.Ab
/-
 Names and violations in plain terms; the reference's functions of layer 10.
-/
namespace Go.Ab.sj
open Go Go.Ab
end Go.Ab.sj
/-
 Layer 10: input types that contain themselves,plainly: the reference's list and what can be reached.
-/
namespace Go.Ab.sj
open Go Go.Ab
end Go.Ab.sj
/-
 The checker of package schema as an object.
-/
namespace Go.Ab
open Go Go.RowKit
variable {au:bS}
variable {f_:eT}
theorem aV.ph {j:J}{h:af}{c:Nat}{xs g:List D}(hc:h c=some (.cells xs)){jl:List Nat}{b:Nat}:aV j (h.set c (some (.cells g))) jl b↔aV j h jl b:=by
 constructor
 ·rintro (h1|⟨id,o,h1,f⟩)
  ·exact .inl h1
  ·by_cases e:id=c
   ·subst e; rw [af.aT] at h1; simp only [Option.some.injEq] at h1; subst h1;exact .inr ⟨id,_,hc,f⟩
   ·rw [af.aQ _ _ e] at h1; exact .inr ⟨id,o,h1,f⟩
 ·rintro (h1|⟨id,o,h1,f⟩)
  ·exact .inl h1
  ·by_cases e:id=c
   ·subst e; rw [hc] at h1; simp only [Option.some.injEq] at h1; subst h1;exact .inr ⟨id,_,af.aT _ _ _,f⟩
   ·exact .inr ⟨id,o,by rw [af.aQ _ _ e]; exact h1,f⟩
theorem fo.ph {j:J}{w:World}{h:af}{c:Nat}{xs g:List D}(hr:fo j w h) (hc:h c=some (.cells xs)) (l:∀cs,aW (aD j w) xs cs->aW (aD j w) g cs):fo j w (h.set c (some (.cells g))):=by
 have key:∀id o,(h.set c (some (.cells g))) id=some o->∃o',h id=some o'/\bH j id o=bH j id o':=by
  intro id o f;by_cases e:id=c
  ·subst e; rw [af.aT] at f; simp only [Option.some.injEq] at f; subst f;exact⟨_,hc,rfl⟩
  ·rw [af.aQ _ _ e] at f; exact⟨o,f,rfl⟩
 refine⟨fun id o f=>?_,fun jv o1 jw o2 b h1 k m p=>?_,hr.fresh⟩
 ·by_cases e:id=c
  ·subst e; rw [af.aT] at f; simp only [Option.some.injEq] at f; subst f;obtain⟨hn,cs,q,h1,k,r⟩:=hr.obj _ _ hc;exact⟨hn,cs,q,h1,l _ k,r⟩
  ·rw [af.aQ _ _ e] at f; exact hr.obj _ _ f
 ·obtain⟨y,s,t⟩:=key _ _ h1;obtain⟨z,u,v⟩:=key _ _ k;exact hr.inj _ _ _ _ b s u (t▸m) (v▸p)
theorem ag.cU {P:Program}{c:Code}{Q:Exit->St->Prop}{n:Nat}{ts:Ts}{ls:List (List D)}{h:af}(i:Nat){xs:List D}(l:List D) (hc:ls[i]?=some xs) (p:∀j w cs,fo j w h->aW (aD j w) xs cs->aW (aD j w) l cs)
  (hw:ag P c Q ⟨n,ts,ls.set i l,h⟩):ag P c Q ⟨n,ts,ls,h⟩:=by
 intro j w jl a g;have hl:=g.hl;have q:aW (fun xs b=>jW j w b xs) (ls.set i l) jl:=by
  refine aW.jV (by rw [List.length_set,hl.2.each.length]) fun k x b hx m=>?_;rw [List.getElem?_set] at hx
  split at hx
  ·rename_i e
   subst e
   split at hx
   ·simp only [Option.some.injEq] at hx; subst hx;obtain⟨b',f,cs,r,h1,s,t⟩:=hl.2.each.get hc;rw [m] at f; simp only [Option.some.injEq] at f; subst f;exact⟨cs,r,h1,p j w _ hl.1 s,t⟩
   ·cases hx
  ·obtain⟨b',f,h1⟩:=hl.2.each.get hx;rw [m] at f; simp only [Option.some.injEq] at f; subst f;exact h1
 exact hw j w jl a ⟨g.defers,g.size,g.tmps,⟨hl.1,⟨q,hl.2.nodup,hl.2.apart⟩⟩⟩
end Go.Ab
namespace Go.Ab.sj
open Go Go.Ab
end Go.Ab.sj
/-
 Models: functions that may have no answer; the rules by which a walk follows its function's model.
-/
namespace Go.Ab
open Go Go.RowKit
variable {au:bS}
variable {f_:eT}
structure Sl (α:Type) where
 nl:Bool
 l:List α
abbrev Bs:=List UInt8
def Sl.d {α:Type}(k:Nat) (f:α->List D) (t:Option Nat) (s:Sl α):D:=.slice k t s.nl (s.l.map f)
def Sl.nil {α:Type}:Sl α:=⟨true,[]⟩
def aG (s:Bs):List D:=[.str s]
def v8 (b:Bool):List D:=[.bool b]
def bL (k:IntKind) (n:Int):List D:=[.int k n]
def cN (a b:Int):Option Int:=if -9223372036854775808<=a+b/\a+b<=9223372036854775807 then some (a+b) else none
def sq (a b:Int):Option Int:=if -9223372036854775808<=a-b/\a-b<=9223372036854775807 then some (a-b) else none
def c_ {α:Type}(l:List α) (n:Int):Option α:=if 0<=n then l[n.toNat]? else none
def a_ (a b:Bs):Option Bs:=if a.length+b.length<=fu then some (a++b) else none
def bh {α:Type}(z:Nat) (s r:Sl α):Option (Sl α):=if (s.l.length+r.l.length)*z<=cA/\s.l.length+r.l.length<=cA then some ⟨s.nl&&r.l.isEmpty,s.l++r.l⟩ else none
def mu {α:Type}(s:Sl α) (lo hi:Option Int):Option (Sl α) :=
 if 0<=lo.getD 0/\lo.getD 0<=hi.getD s.l.length/\hi.getD s.l.length<=s.l.length then some ⟨s.nl,(s.l.take (hi.getD s.l.length).toNat).drop (lo.getD 0).toNat⟩ else none
def A2 (s:Bs) (lo hi:Option Int):Option Bs :=
 if 0<=lo.getD 0/\lo.getD 0<=hi.getD s.length/\hi.getD s.length<=s.length then some ((s.take (hi.getD s.length).toNat).drop (lo.getD 0).toNat) else none
def aZ {α β:Type}(c:Bool) (o:Option α) (d:α) (k:α->Option β):Option β:=if c=true then o.bind k else k d
theorem OY {a b x:Int}(h:cN a b=some x):x=a+b /\ -9223372036854775808<=a+b/\a+b<=9223372036854775807:=by
 unfold cN at h; split at h
 ·rename_i f; simp at h; exact⟨h.symm,f⟩
 ·cases h
theorem OZ {a b x:Int}(h:sq a b=some x):x=a-b /\ -9223372036854775808<=a-b/\a-b<=9223372036854775807:=by
 unfold sq at h; split at h
 ·rename_i f; simp at h; exact⟨h.symm,f⟩
 ·cases h
theorem HM {α:Type}{l:List α}{n:Int}{x:α}(h:c_ l n=some x):0<=n/\l[n.toNat]?=some x:=by
 unfold c_ at h; split at h
 ·rename_i b; exact⟨b,h⟩
 ·cases h
theorem O3 {a b x:Bs}(h:a_ a b=some x):x=a++b/\a.length+b.length<=fu:=by
 unfold a_ at h; split at h
 ·rename_i f; simp at h; exact⟨h.symm,f⟩
 ·cases h
theorem A3 {α:Type}{z:Nat}{s r x:Sl α}(h:bh z s r=some x):x=⟨s.nl&&r.l.isEmpty,s.l++r.l⟩/\(s.l.length+r.l.length)*z<=cA/\s.l.length+r.l.length<=cA:=by
 unfold bh at h; split at h
 ·rename_i b; simp only [Option.some.injEq] at h; exact⟨h.symm,b⟩
 ·cases h
theorem A4 {α β:Type}{c:Bool}{o:Option α}{d:α}{k:α->Option β}{r:β}(h:aZ c o d k=some r):∃x,(c=true->o=some x)/\k x=some r:=by
 unfold aZ at h; split at h
 ·obtain⟨x,h1,b⟩:=Option.bind_eq_some_iff.1 h; exact⟨x,fun _=>h1,b⟩
 ·rename_i b; exact⟨d,fun e=>absurd e b,h⟩
theorem bx {α β:Type}{o:Option α}{k:α->Option β}{r:β}(h:o.bind k=some r):∃x,o=some x/\k x=some r:=Option.bind_eq_some_iff.1 h
theorem jY {α:Type}{c:Bool}{A B:Option α}{r:α}(hc:c=true) (h:(bif c then A else B)=some r):A=some r:=by subst hc; exact h
theorem uz {α:Type}{c:Bool}{A B:Option α}{r:α}(hc:c=false) (h:(bif c then A else B)=some r):B=some r:=by subst hc; exact h
section
variable {P:Program}{dst:Option Tmp}{ty:TypeId}{pos:String}{aI:Array Edge}{g:Option (Nat×Bool)}{ts:Ts}{ls:List (List D)}{h:af}{α:Type}{f:α->List D}
theorem an.sr {t e:TypeId}{b:TI}{x:Operand}{cq:Array TypeId}{k:Nat}{tok:Option Nat}{s:Sl α}(j:aY P t=some b) (hk:b.k=.slice e) (bQ:cq[0]?=some t)
  (hx:ev ts x=.a (.d (s.d k f tok))):an P (mk dst (.call { callee:=.builtin .len,args:=#[x],argTypes:=cq }) ty pos aI g) ts ls h {} (.a (.d (.int .i64 (s.l.length:Int)))) ls h:=by
 have:=an.Ho (au:=au) (P:=P) (dst:=dst) (ty:=ty) (pos:=pos) (aI:=aI) (g:=g) (ls:=ls) (h:=h) j hk bQ hx
 rwa [List.length_map] at this
theorem an.iV {t e:TypeId}{b j:TI}{x ix:Operand}{tok:Option Nat}{s:Sl α}{m:IntKind}{n:Int}{y:α}{k:Nat}(p:aY P t=some b) (hk:b.k=.slice e) (q:aY P e=some j)
  (hx:ev ts x=.a (.d (s.d k f tok))) (hi:ev ts ix=.a (.d (.int m n))) (r:k=j.size) (hr:c_ s.l n=some y) :
  an P (mk dst (.indexAddr t x ix) ty pos aI g) ts ls h {} (.a (.d (.view (f y)))) ls h:=by
 obtain⟨h1,u⟩:=HM hr;exact an.Hj p hk q hx hi r h1 (by rw [List.getElem?_map,u]; rfl)
theorem an.A5 {t e:TypeId}{b j:TI}{x ix:Operand}{tok:Option Nat}{s:Sl α}{m:IntKind}{n:Nat}{y:α}{k:Nat}(p:aY P t=some b) (hk:b.k=.slice e) (q:aY P e=some j)
  (hx:ev ts x=.a (.d (s.d k f tok))) (hi:ev ts ix=.a (.d (.int m (n:Int)))) (r:k=j.size) (hr:s.l[n]?=some y) :
  an P (mk dst (.indexAddr t x ix) ty pos aI g) ts ls h {} (.a (.d (.view (f y)))) ls h :=
 an.Hj p hk q hx hi r (by omega) (by rw [Int.toNat_natCast,List.getElem?_map,hr]; rfl)
theorem an.su {t:TypeId}{b:TI}{x ix:Operand}{s:Bs}{f:IntKind}{n:Nat}{c:UInt8}(j:aY P t=some b) (hk:b.k=.str) (hx:ev ts x=.a (.d (.str s))) (hi:ev ts ix=.a (.d (.int f (n:Int)))) (hr:s[n]?=some c) :
  an P (mk dst (.index t x ix) ty pos aI g) ts ls h {} (.a (.d (.int .u8 (c.toNat:Int)))) ls h :=
 an.Ox j hk hx hi (by omega) (by rw [Int.toNat_natCast]; exact hr)
theorem an.A6 {t u:TypeId}{x y:Operand}{m n r:Int}(hx:ev ts x=.a (.d (.int .i64 m))) (b:ev ts y=.a (.d (.int .i64 n))) (hr:cN m n=some r):an P (mk dst (.binOp .add t x y u) ty pos aI g) ts ls h {} (.a (.d (.int .i64 r))) ls h:=by
 obtain⟨e,h1,f⟩:=OY hr;subst e; exact an.qn hx b h1 f
theorem an.O4 {t u:TypeId}{x y:Operand}{m n r:Int}(hx:ev ts x=.a (.d (.int .i64 m))) (b:ev ts y=.a (.d (.int .i64 n))) (hr:sq m n=some r):an P (mk dst (.binOp .sub t x y u) ty pos aI g) ts ls h {} (.a (.d (.int .i64 r))) ls h:=by
 obtain⟨e,h1,f⟩:=OZ hr;subst e; exact an.Oq hx b h1 f
theorem an.jL {t u:TypeId}{x y:Operand}{a b r:Bs}(hx:ev ts x=.a (.d (.str a))) (f:ev ts y=.a (.d (.str b))) (hr:a_ a b=some r):an P (mk dst (.binOp .add t x y u) ty pos aI g) ts ls h {} (.a (.d (.str r))) ls h:=by
 obtain⟨e,h1⟩:=O3 hr;subst e; exact an.concat hx f h1
theorem an.O5 {t e:TypeId}{y z:TI}{x:Operand}{lo hi:Option Operand}{k:Nat}{tok:Option Nat}{nl:Bool}{rows:List (List D)}{l r:Nat}(B:aY P t=some y) (hk:y.k=.slice e) (C:aY P e=some z)
  (hx:ev ts x=.a (.d (.slice k tok nl rows))) (H:k=z.size)
  (E:match lo with|none=>l=0|some o=>∃f n,ev ts o=.a (.d (.int f n))/\0<=n/\l=n.toNat) (F:match hi with|none=>r=rows.length|some o=>∃f n,ev ts o=.a (.d (.int f n))/\0<=n/\r=n.toNat)
  (I:l<=r) (m:r<=rows.length):an P (mk dst (.slice t x lo hi none) ty pos aI g) ts ls h {} (.a (.d (.slice k none nl ((rows.take r).drop l)))) ls h:=by
 cases nl with
 | false=>exact an.part B hk C hx H E F I m
 | true =>
  refine an.dR fun j w jl act p=>?_;have h1:=p x (by simp [Op.operands]);rw [hx] at h1;obtain⟨b,cap,G,hn,hc,J,K,O,Q⟩:=qm h1;cases b with
  | some b=>simp at J
  | none =>
   obtain⟨rfl,rfl⟩:=K rfl;simp only [List.length_nil,Nat.le_zero] at m;subst m;have L:l=0:=by omega
   subst L;have M:(match lo.map act.eval with|some v=>Instr.sliceBound v 0 .sliceB|none=>pure 0).run P w=.ok 0 w:=by
    cases lo with
    | none=>simp
    | some o =>
     obtain⟨f,n,q,s,u⟩:=E;have:=pg (P:=P) (cap:=0) q (p o (by simp [Op.operands])) s (by omega) .sliceB;simp only [Option.map_some]; rw [this,<- u]
   have N:(match hi.map act.eval with|some v=>Instr.sliceBound v 0 .sliceAcap|none=>pure ([]:List (List D)).length).run P w=.ok 0 w:=by
    cases hi with
    | none=>simp
    | some o =>
     obtain⟨f,n,q,s,u⟩:=F;have:=pg (P:=P) (cap:=0) q (p o (by simp [Op.operands])) s (by omega) .sliceAcap;simp only [Option.map_some]; rw [this,<- u]
   refine⟨.slice none 0 0, ?_,aD.gD _ _ (by simp)⟩;have:=AV B hk C (a:=none) (len:=0) (cap:=0) M N;simp only [List.length_nil] at G;simp only [execOp,Sem.run_bind,G,Option.map_none,this,Result.andThen,Sem.run_pure];simp
theorem an.lN {t e:TypeId}{m p:TI}{x:Operand}{lo hi:Option Operand}{l r:Option Int}{k:Nat}{tok:Option Nat}{s y:Sl α}(q:aY P t=some m) (hk:m.k=.slice e) (u:aY P e=some p)
  (hx:ev ts x=.a (.d (s.d k f tok))) (v:k=p.size)
  (b:match lo,l with|none,none=>True|some o,some n=>ev ts o=.a (.d (.int .i64 n))|_,_=>False) (j:match hi,r with|none,none=>True|some o,some n=>ev ts o=.a (.d (.int .i64 n))|_,_=>False)
  (hr:mu s l r=some y):an P (mk dst (.slice t x lo hi none) ty pos aI g) ts ls h {} (.a (.d (y.d k f none))) ls h:=by
 unfold mu at hr
 split at hr
 ·rename_i hc
  simp only [Option.some.injEq] at hr;have:=an.O5 (au:=au) (P:=P) (dst:=dst) (ty:=ty) (pos:=pos) (aI:=aI) (g:=g) (ls:=ls) (h:=h) (l:=(l.getD 0).toNat) (r:=(r.getD s.l.length).toNat) q hk u (lo:=lo) (hi:=hi) hx v
   (by cases lo with
     | none=>cases l with
      | none=>rfl
      | some n=>exact b.elim
     | some o=>cases l with
      | none=>exact b.elim
      | some n=>exact⟨_,n,b,hc.1,rfl⟩)
   (by cases hi with
     | none=>cases r with
      | none=>simp
      | some n=>exact j.elim
     | some o=>cases r with
      | none=>exact j.elim
      | some n=>exact⟨_,n,j,Int.le_trans hc.1 hc.2.1,rfl⟩) (by omega) (by simp; omega)
  rw [<- List.map_take,<- List.map_drop] at this;rw [<- hr]; exact this
 ·cases hr
theorem an.jy {t u e:TypeId}{p q b:TI}{x y:Operand}{tk k k' m:Nat}{tok':Option Nat}{s r v:Sl α}{z:A}(w:aY P t=some p) (hk:p.k=.slice e) (B:aY P e=some b) (C:aY P u=some q) (E:∃e,q.k=.slice e)
  (hz:b.zero=some z) (F:(cw z).length=b.size) (G:b.size≠0) (hx:ev ts x=.a (.d (s.d k f (some tk)))) (H:ev ts y=.a (.d (r.d k' f tok'))) (j:k=b.size) (I:k'=b.size)
  (bu:h tk=some (.tok b.size m)) (hm:m=s.l.length) (hr:bh b.bytes s r=some v) :
  an P (mk dst (.call { callee:=.builtin .append,args:=#[x,y],argTypes:=#[t,u] }) ty pos aI g) ts ls h { rh:=true,wh:=true } (.a (.d (v.d k f (some tk)))) ls (h.set tk (some (.tok b.size v.l.length))):=by
 obtain⟨e,h1,J⟩:=A3 hr;subst e;have:=an.append (au:=au) (P:=P) (dst:=dst) (ty:=ty) (pos:=pos) (aI:=aI) (g:=g) (ls:=ls) w hk B C (.inl E) hz F G hx H (.inl j) (.inl I) bu (by rw [hm]; simp) (by simpa using h1) (by simpa using J);simp only [List.length_map,List.length_append] at this ⊢;rw [<- List.map_append,List.isEmpty_map,<- j] at this;rw [<- j];exact this
end
section
variable {P:Program}{dst:Option Tmp}{ty:TypeId}{pos:String}{aI:Array Edge}{g:Option (Nat×Bool)}{ts:Ts}{ls:List (List D)}{h:af}{α:Type}{f:α->List D}
theorem O6 {k k':Nat}(j:J) (w:World) (cv:Value) (h:br j w [] (.a (.d (.slice k none true []))) cv):br j w [] (.a (.d (.slice k' none true []))) cv:=by
 have h':aD j w (.slice k none true []) cv:=h;cases h';exact aD.gD _ _ fun t e=>by cases e
theorem an.dM {x:Operand}{k k':Nat}(hx:ev ts x=.a (.d (.slice k none true []))):an P (mk dst (.assign x) ty pos aI g) ts ls h {} (.a (.d (.slice k' none true []))) ls h :=
 (an.assign hx).HB fun j w _ cv h=>O6 j w cv h
theorem an.O7 {t u e:TypeId}{G C b:TI}{s:Nat}{y:Operand}{k k':Nat}{tok':Option Nat}{I:Bool}{rows bg:List (List D)}{z:A}(S:aY P t=some G) (U:G.k=.slice e) (W:aY P e=some b) (X:aY P u=some C) (Y:(∃e,C.k=.slice e)\/C.k=.str)
  (hz:b.zero=some z) (Z:(cw z).length=b.size) (aa:b.size≠0) (hx:get ts s=.full k rows) (E:ev ts y=.a (.d (.slice k' tok' I bg))) (ab:∀q,y=.tmp q->s≠q) (p:k=b.size) (ad:k'=b.size\/bg=[])
  (ae:(rows.length+bg.length)*b.bytes<=cA) (hlen:rows.length+bg.length<=cA) :
  an P (mk dst (.call { callee:=.builtin .append,args:=#[.tmp s,y],argTypes:=#[t,u] }) ty pos aI g) ts ls h {} (.a (.d (.slice b.size none false (rows++bg)))) ls h:=by
 intro L H _ _ j w jl a hl B K Q ah;have h1:br j w jl (get ts s) (a.eval (.tmp s)):=B (.tmp s) (by simp [Op.operands,Call.operands]);rw [hx] at h1;obtain⟨ai,aA,hv⟩:=h1;obtain⟨aj,r⟩:=hl.iR k rows.length;have ak:=hl.1.mm (Nat.le_refl _);have al:aD (j.iR rows.length) w (.slice k (some j.next) false rows) (a.eval (.tmp s)):=by
  have M:=aD.mono r.toLe ai;rw [hv] at M ⊢;cases M with
  | slice _ _ _ am cap f hk hn hc bQ hr ht =>
   refine aD.slice _ _ _ _ _ f hk hn hc bQ hr fun t' N=>?_;simp only [Option.some.injEq] at N;subst N;exact⟨by simp [J.iR],fun aB p=>by simp [J.iR] at p; subst p; exact⟨Nat.le_refl _,fun _=>.inl ⟨rfl,rfl⟩⟩⟩
 have ao:ev ((s,V.a (.d (.slice k (some j.next) false rows)))::ts) y=.a (.d (.slice k' tok' I bg)):=by
  cases y with
  | tmp q=>simp only [ev] at E ⊢; rw [ir _ _ (ab q rfl)]; exact E
  | _=>exact E
 have hc:=an.append (au:=au) (P:=P) (dst:=dst) (ty:=ty) (pos:=pos) (aI:=aI) (g:=g) (ls:=L) (h:=H.set j.next (some (.tok k rows.length))) (ts:=(s,V.a (.d (.slice k (some j.next) false rows)))::ts) (x:=.tmp s) (y:=y) (tk:=j.next) (m:=rows.length)
  S U W X Y hz Z aa (by simp only [ev]; rw [ga]) ao (.inl p) ad (by rw [af.aT,p]) rfl ae hlen
 refine hc.step (j.iR rows.length) w jl a aj (fun x F=>?_) K Q ?_
 ·cases x with
  | tmp q =>
   by_cases e:s=q
   ·subst e;simp only [ev]; rw [ga];exact al
   ·simp only [ev]; rw [ir _ _ e];exact(B (.tmp q) F).mono r.toLe (Ext.refl _)
  | const c=>exact(B (.const c) F).mono r.toLe (Ext.refl _)
  | global c=>trivial
  | func c=>exact(B (.func c) F).mono r.toLe (Ext.refl _)
 ·rintro v l hh cv j' w' ap ⟨rfl,rfl,rfl⟩ aq ar av aw;obtain⟨ax,ay⟩:=ar.forget (h':=H) (fun id o hi=>by
   have O:id≠j.next:=fun e=>by rw [e,ak] at hi; cases hi
   show ((H.set _ _).set _ _) id=_;rw [af.aQ _ _ O,af.aQ _ _ O]; exact hi)
  refine ah _ _ _ cv j' w' ap ⟨rfl,rfl,rfl⟩ ?_ ax av ((r.trans aw).trans ay);have R:aD j' w' (.slice b.size (some j.next) (false&&bg.isEmpty) (rows++bg)) cv:=aq;simp only [Bool.false_and] at R;cases R with
  | slice _ _ _ am cap f hk hn hc bQ hr ht=>exact aD.slice _ _ _ _ _ f hk hn hc bQ hr fun t e=>by cases e
theorem an.yN {t u e:TypeId}{j m b:TI}{s k k':Nat}{y:Operand}{tok':Option Nat}{x r v:Sl α}{z:A}(w:aY P t=some j) (B:j.k=.slice e) (C:aY P e=some b) (E:aY P u=some m) (F:∃e,m.k=.slice e)
  (hz:b.zero=some z) (G:(cw z).length=b.size) (H:b.size≠0) (hx:get ts s=.full k (x.l.map f)) (I:x.nl=false) (J:ev ts y=.a (.d (r.d k' f tok'))) (K:∀q,y=.tmp q->s≠q) (p:k=b.size) (L:k'=b.size)
  (hr:bh b.bytes x r=some v) :
  an P (mk dst (.call { callee:=.builtin .append,args:=#[.tmp s,y],argTypes:=#[t,u] }) ty pos aI g) ts ls h {} (.a (.d (v.d k f none))) ls h:=by
 obtain⟨e,h1,M⟩:=A3 hr;subst e;have:=an.O7 (au:=au) (P:=P) (dst:=dst) (ty:=ty) (pos:=pos) (aI:=aI) (g:=g) (ls:=ls) (h:=h) w B C E (.inl F) hz G H hx J K p (.inl L) (by simpa using h1) (by simpa using M);rw [<- List.map_append,<- p] at this;simp only [I,Bool.false_and];exact this
theorem O8 {t e:TypeId}(hu:P.underlying t=some (.slice e)) (d:Nat) (b:Option Addr) (n cap:Nat) (w:World):(Op.equalIn (d+1) t (.slice b n cap) (.slice none 0 0)).run P w=.ok b.isNone w:=by
 unfold Op.equalIn;simp only [Sem.run_bind,eU hu,Result.andThen];cases b<;>simp
theorem O9 {t e:TypeId}(hu:P.underlying t=some (.slice e)) (b:Option Addr) (n cap:Nat) (w:World):(Op.equal t (.slice b n cap) (.slice none 0 0)).run P w=.ok b.isNone w:=by
 exact O8 hu 9999 b n cap w
theorem O_ {t e:TypeId}{op:BinOp}(x y:Operand) (b:Option Addr) (n cap:Nat) (w:World):(eqGuard op t x y (.slice b n cap) (.slice none 0 0)).run P w=.ok () w:=by
 unfold eqGuard;simp
theorem an.Dz {t e u:TypeId}{f:TI}{x:Operand}{k:Nat}{tok:Option Nat}{nl:Bool}{rows:List (List D)}(l:aY P t=some f) (hk:f.k=.slice e) (hx:ev ts x=.a (.d (.slice k tok nl rows))) :
  an P (mk dst (.binOp .eql t x (.const (.slice none 0 0)) u) ty pos aI g) ts ls h {} (.a (.d (.bool nl))) ls h :=
 an.dR fun j w jl act m=>by
  have h1:=m x (by simp [Op.operands]);rw [hx] at h1;obtain⟨b,cap,p,_,_,q,_⟩:=qm h1;have hu:=kF l hk;subst q;have r:act.eval (.const (.slice none 0 0))=.slice none 0 0:=rfl;refine⟨.bool b.isNone, ?_,aD.bool _⟩;simp only [execOp,p,r,Sem.run_bind,O_ (e:=e),Result.andThen,binOp,Sem.run_map,O9 hu,Sem.run_pure]
theorem an.Pa {x y:Operand}{cq:Array TypeId}{k:IntKind}{m n:Int}(hx:ev ts x=.a (.d (.int k m))) (l:ev ts y=.a (.d (.int k n))) :
  an P (mk dst (.call { callee:=.builtin .max,args:=#[x,y],argTypes:=cq }) ty pos aI g) ts ls h {} (.a (.d (.int k (if n>m then n else m)))) ls h :=
 an.dR fun j w jl act b=>by
  have h1:=b x (by simp [Op.operands,Call.operands]);have f:=b y (by simp [Op.operands,Call.operands]);rw [hx] at h1; rw [l] at f;exact⟨_,by simp only [execOp,resolve,invoke,builtin,List.map_toArray,List.map_cons,List.map_nil,jZ h1,jZ f]; simp [run_max_int2],aD.int _ _⟩
theorem an.Pb {t:TypeId}{p:TI}{x:Operand}{lo hi:Option Operand}{l r:Option Int}{s y:Bs}(j:aY P t=some p) (hk:p.k=.str) (hx:ev ts x=.a (.d (.str s)))
  (f:match lo,l with|none,none=>True|some o,some n=>ev ts o=.a (.d (.int .i64 n))|_,_=>False) (b:match hi,r with|none,none=>True|some o,some n=>ev ts o=.a (.d (.int .i64 n))|_,_=>False)
  (q:lo.isSome=true\/hi.isSome=true) (hr:A2 s l r=some y):an P (mk dst (.slice t x lo hi none) ty pos aI g) ts ls h {} (.a (.d (.str y))) ls h:=by
 unfold A2 at hr
 split at hr
 ·rename_i hc
  simp only [Option.some.injEq] at hr;cases lo with
  | none =>
   cases l with
   | some n=>exact f.elim
   | none =>
    cases hi with
    | none=>simp at q
    | some o =>
     cases r with
     | none=>exact b.elim
     | some n =>
      have:=an.Da (au:=au) (P:=P) (dst:=dst) (ty:=ty) (pos:=pos) (aI:=aI) (g:=g) (ls:=ls) (h:=h) j hk hx b (by simpa using hc.2.1) (by simpa using hc.2.2);rw [<- hr]; simpa using this
  | some o =>
   cases l with
   | none=>exact f.elim
   | some n =>
    cases hi with
    | none =>
     cases r with
     | some m=>exact b.elim
     | none =>
      have:=an.AF (au:=au) (P:=P) (dst:=dst) (ty:=ty) (pos:=pos) (aI:=aI) (g:=g) (ls:=ls) (h:=h) j hk hx f (by simpa using hc.1) (by simpa using hc.2.1);rw [<- hr]; simpa using this
    | some o' =>
     cases r with
     | none=>exact b.elim
     | some m =>
      have:=an.Oy (au:=au) (P:=P) (dst:=dst) (ty:=ty) (pos:=pos) (aI:=aI) (g:=g) (ls:=ls) (h:=h) j hk hx f b (by simpa using hc.1) (by simpa using hc.2.1) (by simpa using hc.2.2);rw [<- hr];simp only [Option.getD_some];rw [List.drop_take];exact this
 ·cases hr
end
theorem aK.sLen {P:Program}{ops:Array Oper}{rest:List Oper}{Q:St->Prop}{n:Nat}{ts:Ts}{ls:List (List D)}{h:af}{d:Nat}{ty:TypeId}{pos:String}{aI:Array Edge}{t e:TypeId}{b:TI}{x:Operand}{cq:Array TypeId}{k:Nat}{tok:Option Nat}{α:Type}{f:α->List D}{s:Sl α}
  (m:aY P t=some b) (hk:b.k=.slice e) (bQ:cq[0]?=some t) (hx:ev ts x=.a (.d (s.d k f tok))) (p:Nat.blt d n=true)
  (hr:s.l.length<=140737488355328->aK P ops rest Q ⟨n,(d,.a (.d (.int .i64 (s.l.length:Int))))::ts,ls,h⟩) :
  aK P ops (⟨some d,.call { callee:=.builtin .len,args:=#[x],argTypes:=cq },ty,pos,aI,none⟩::rest) Q ⟨n,ts,ls,h⟩:=by
 intro j w jl a g q r;have hlen:s.l.length<=140737488355328:=by
  have h1:=o8 g.tmps x;rw [hx] at h1;obtain⟨_,_,_,hn,_⟩:=qm h1
  simpa [cA] using hn
 exact aK.s0 (an.sr m hk bQ hx) p (hr hlen) j w jl a g q r
theorem aK.uI {P:Program}{ops:Array Oper}{rest:List Oper}{Q:St->Prop}{n:Nat}{ts:Ts}{ls:List (List D)}{h:af}{d:Nat}{ty:TypeId}{pos:String}{aI:Array Edge}{t:TypeId}{b:TI}{x:Operand}{cq:Array TypeId}{s:Bs}
  (g:aY P t=some b) (hk:b.k=.str) (bQ:cq[0]?=some t) (hx:ev ts x=.a (.d (.str s))) (l:Nat.blt d n=true)
  (hr:s.length<=4611686018427387904->aK P ops rest Q ⟨n,(d,.a (.d (.int .i64 (s.length:Int))))::ts,ls,h⟩) :
  aK P ops (⟨some d,.call { callee:=.builtin .len,args:=#[x],argTypes:=cq },ty,pos,aI,none⟩::rest) Q ⟨n,ts,ls,h⟩:=by
 intro j w jl a f m p;have hlen:s.length<=4611686018427387904:=by
  have h1:=o8 f.tmps x;rw [hx] at h1;exact(lK h1).2
 exact aK.s0 (an.AO g hk bQ hx) l (hr hlen) j w jl a f m p
theorem aK.fH {P:Program}{ops:Array Oper}{rest:List Oper}{Q:St->Prop}{n:Nat}{ts:Ts}{ls:List (List D)}{h h':af}(e:h=h') (hw:aK P ops rest Q ⟨n,ts,ls,h'⟩):aK P ops rest Q ⟨n,ts,ls,h⟩:=e▸hw
theorem aN.fH {P:Program}{ops:Array Oper}{m:Nat}{rest:List Oper}{done:List Fx}{Q:St->Prop}{n:Nat}{ts:Ts}{ls:List (List D)}{h h':af}(e:h=h') (hw:aN P ops m rest done Q ⟨n,ts,ls,h'⟩):aN P ops m rest done Q ⟨n,ts,ls,h⟩:=e▸hw
theorem ag.j7 {P:Program}{c:Code}{Q:Exit->St->Prop}{n:Nat}{ts:Ts}{ls:List (List D)}{h h':af}(e:h=h') (hw:ag P c Q ⟨n,ts,ls,h'⟩):ag P c Q ⟨n,ts,ls,h⟩:=e▸hw
theorem af.eA {h:af}{i r:Nat}{o:Obj}(e:(h.set i (some o)) r=none):r≠i/\h r=none:=by
 have h1:r≠i:=fun b=>by rw [b,af.aT] at e; cases e
 exact⟨h1,by rw [af.aQ _ _ h1] at e; exact e⟩
section
variable {P:Program}{ops:Array Oper}{rest:List Oper}{Q:St->Prop}{n:Nat}{ts:Ts}{ls:List (List D)}{h:af}
theorem aK.ph (id:Nat){xs:List D}(k:List D) (hc:h id=some (.cells xs)) (l:∀j w cs,fo j w h->aW (aD j w) xs cs->aW (aD j w) k cs)
  (hw:aK P ops rest Q ⟨n,ts,ls,h.set id (some (.cells k))⟩):aK P ops rest Q ⟨n,ts,ls,h⟩:=by
 intro j w jl a f m hk;have hl:=f.hl;refine hw j w jl a ⟨f.defers,f.size,f.tmps,⟨hl.1.ph hc (l j w · hl.1),⟨hl.2.each,hl.2.nodup,fun b p g=>hl.2.apart b p ((aV.ph hc).1 g)⟩⟩⟩ m fun q j' w' r s hq t u=>hk q j' w' r s hq t (bN.trans ?_ u);exact { bN.refl j _ (aV j h jl) with own:=fun b _ g=>(aV.ph hc).1 g }
theorem aK.cU (i:Nat){xs:List D}(l:List D) (hc:ls[i]?=some xs) (p:∀j w cs,fo j w h->aW (aD j w) xs cs->aW (aD j w) l cs)
  (hw:aK P ops rest Q ⟨n,ts,ls.set i l,h⟩):aK P ops rest Q ⟨n,ts,ls,h⟩:=by
 intro j w jl a g;have hl:=g.hl;have q:aW (fun xs b=>jW j w b xs) (ls.set i l) jl:=by
  refine aW.jV (by rw [List.length_set,hl.2.each.length]) fun k x b hx m=>?_;rw [List.getElem?_set] at hx
  split at hx
  ·rename_i e
   subst e
   split at hx
   ·simp only [Option.some.injEq] at hx; subst hx;obtain⟨b',f,cs,r,h1,s,t⟩:=hl.2.each.get hc;rw [m] at f; simp only [Option.some.injEq] at f; subst f;exact⟨cs,r,h1,p j w _ hl.1 s,t⟩
   ·cases hx
  ·obtain⟨b',f,h1⟩:=hl.2.each.get hx;rw [m] at f; simp only [Option.some.injEq] at f; subst f;exact h1
 exact hw j w jl a ⟨g.defers,g.size,g.tmps,⟨hl.1,⟨q,hl.2.nodup,hl.2.apart⟩⟩⟩
theorem aK.tok (k:Nat) (hw:∀t,h t=none->aK P ops rest Q ⟨n,ts,ls,h.set t (some (.tok k 0))⟩):aK P ops rest Q ⟨n,ts,ls,h⟩:=by
 intro j w jl a b g hk;obtain⟨h1,f⟩:=b.hl.dX k;have l:=b.hl.1.mm (Nat.le_refl _);exact hw j.next l j.dX w jl a ⟨b.defers,b.size,fun i=>(b.tmps i).mono f.toLe (Ext.refl _),h1⟩ g fun m j' w' p q hq r s=>hk m j' w' p q hq r (f.trans s)
theorem aK.fe (s k t:Nat){o:Obj}{f:Nat}(g:get ts s=.a (.d (.slice f none true []))) (ht:h t=some o)
  (hw:aK P ops rest Q ⟨n,(s,.a (.d (.slice k (some t) true [])))::ts,ls,h⟩):aK P ops rest Q ⟨n,ts,ls,h⟩:=by
 intro j w jl a b;refine hw j w jl a ⟨b.defers,b.size,fun i=>?_,b.hl⟩;by_cases e:s=i
 ·subst e;show br _ _ _ (get ((s,_)::ts) s) _;rw [ga];have hv:br j w jl (get ts s) (a.tmps.getD s undef):=b.tmps s;rw [g] at hv;exact(nM.nil (k':=k) ht).rel b.hl.1 hv
 ·show br _ _ _ (get ((s,_)::ts) i) _;rw [ir _ _ e];exact b.tmps i
theorem aK.eF (s:Nat){k:Nat}{tk:Option Nat}{nl:Bool}{rows:List (List D)}(f:get ts s=.a (.d (.slice k tk nl rows)))
  (hw:aK P ops rest Q ⟨n,(s,.a (.d (.slice k none nl rows)))::ts,ls,h⟩):aK P ops rest Q ⟨n,ts,ls,h⟩:=by
 intro j w jl a b;refine hw j w jl a ⟨b.defers,b.size,fun i=>?_,b.hl⟩;by_cases e:s=i
 ·subst e;show br _ _ _ (get ((s,_)::ts) s) _;rw [ga];have hv:br j w jl (get ts s) (a.tmps.getD s undef):=b.tmps s;rw [f] at hv;exact HK j w _ hv
 ·show br _ _ _ (get ((s,_)::ts) i) _;rw [ir _ _ e];exact b.tmps i
end
theorem tok_cell {j:J}{w:World}{h:af}{t:Nat}{o:Obj}{xs:List D}{cs:List Value}(i k k':Nat) (hh:fo j w h) (ht:h t=some o) (hx:aW (aD j w) xs cs) (hi:xs[i]?=some (.slice k none true [])) :
  aW (aD j w) (xs.set i (.slice k' (some t) true [])) cs:=by
 refine aW.jV (by rw [List.length_set,hx.length]) fun n x v hn hv=>?_;rw [List.getElem?_set] at hn
 split at hn
 ·rename_i e
  subst e
  split at hn
  ·simp only [Option.some.injEq] at hn; subst hn;obtain⟨f,b,hr⟩:=hx.get hi;rw [hv] at b; simp only [Option.some.injEq] at b; subst b;exact(nM.nil (k:=k) (k':=k') ht).rel hh (x:=.d (.slice k none true [])) hr
  ·cases hn
 ·obtain⟨f,b,hr⟩:=hx.get hn;rw [hv] at b; simp only [Option.some.injEq] at b; subst b;exact hr
theorem kH {j:J}{w:World}{xs:List D}{cs:List Value}(i:Nat){k:Nat}{tk:Option Nat}{nl:Bool}{rows:List (List D)}(hx:aW (aD j w) xs cs) (hi:xs[i]?=some (.slice k tk nl rows)) :
  aW (aD j w) (xs.set i (.slice k none nl rows)) cs:=by
 refine aW.jV (by rw [List.length_set,hx.length]) fun n x v hn hv=>?_;rw [List.getElem?_set] at hn
 split at hn
 ·rename_i e
  subst e
  split at hn
  ·simp only [Option.some.injEq] at hn; subst hn;obtain⟨f,b,hr⟩:=hx.get hi;rw [hv] at b; simp only [Option.some.injEq] at b; subst b;exact HK j w v hr
  ·cases hn
 ·obtain⟨f,b,hr⟩:=hx.get hn;rw [hv] at b; simp only [Option.some.injEq] at b; subst b;exact hr
def F0:Nat:=4611686018427387904
theorem wA {n:Nat}{ts b:Ts}{ls aS:List (List D)}{h h':af}(hk:dJ ts aS.length b:=by repeat (first|exact dJ.nil|refine dJ.c rfl rfl ?_|refine dJ.c (by(first|(first|rfl|((conv=>lhs; whnf); first|(simp [cw,DA,DB,DC,Pc.Pd,Nat.add_assoc,empty_append,Bool.and_assoc]; done)|(simp [cw,DA,DB,DC,Nat.add_assoc,empty_append,Bool.and_assoc]; repeat (first|rfl|constructor))))|rfl|(simp only [ga,ev]; done)|(simp [*,cw]; done)|(show V.a (A.d (D.slice _ _ _ _))=V.a (A.d (D.slice _ _ _ _)); simp [*,cw]; done))) rfl ?_)) (hl:lM aS ls:=by repeat (first|exact lM.nil|apply lM.cons)) (hh:h=h':=by first|rfl|(first|rfl|(simp only [af.set_set,List.length_append,List.length_nil,List.length_cons,List.length_map,List.length_singleton,Nat.zero_add]; done)|(simp [af.set_set,Nat.add_assoc]; done))|(((funext n; simp only [af.set]; (repeat' split)<;>simp_all))<;>first|rfl|exact⟨rfl,rfl⟩)):cC ⟨n,ts,ls,h⟩ ⟨n,b,aS,h'⟩:=cC.to hk hl hh
theorem cC.toFA {n:Nat}{ts b:Ts}{ls aS:List (List D)}{h h':af}(hh:∀id o,h' id=some o->h id=some o) (hk:dJ ts aS.length b:=by repeat (first|exact dJ.nil|refine dJ.c rfl rfl ?_|refine dJ.c (by(first|(first|rfl|((conv=>lhs; whnf); first|(simp [cw,DA,DB,DC,Pc.Pd,Nat.add_assoc,empty_append,Bool.and_assoc]; done)|(simp [cw,DA,DB,DC,Nat.add_assoc,empty_append,Bool.and_assoc]; repeat (first|rfl|constructor))))|rfl|(simp only [ga,ev]; done)|(simp [*,cw]; done)|(show V.a (A.d (D.slice _ _ _ _))=V.a (A.d (D.slice _ _ _ _)); simp [*,cw]; done))) rfl ?_)) (hl:lM aS ls:=by repeat (first|exact lM.nil|apply lM.cons)):cC ⟨n,ts,ls,h⟩ ⟨n,b,aS,h'⟩:=cC.toF hk hl hh
theorem az {h:af}{i:Nat}{o:Option Obj}(hg:h i=o:=by(first|assumption|exact af.aT _ _ _|((repeat (refine(af.aQ _ _ (by first|assumption|(apply Ne.symm; assumption))).trans ?_)); first|assumption|exact af.aT _ _ _)|(simp only [af.set_set,af.aT]; done)|(simp [af.set, *]; done))):h i=o:=hg
theorem and_left {a b:Bool}(h:(a&&b)=true):a=true:=by cases a<;>simp_all
end Go.Ab
namespace Go.Ab
open Go Go.RowKit
variable {au:bS}
section
variable {P:Program}{ts:Ts}{ls aS:List (List D)}{h h':af}{fx:Fx}{x:A}{dst:Option Tmp}{ty:TypeId}{pos:String}{aI:Array Edge}{g:Option (Nat×Bool)}
theorem an.j8 {o:Oper}{v:V}{k:Nat}{c:Bool}(hk:get ts k=.gd c x) (b:an P o ((k,.a x)::ts) ls h fx v aS h') (hc:c=true:=by first|assumption|exact ji (by assumption)|exact ji (ji (by assumption))|exact ji (ji (ji (by assumption)))|exact Dx (by assumption)|simp_all):an P o ts ls h fx v aS h':=an.iU hk hc b
theorem an.v_ {o:Oper}{v:V}{k:Nat}{c:Bool}{i off:Nat}(hk:get ts k=.iI c i off) (b:an P o ((k,.cW i off)::ts) ls h fx v aS h') (hc:c=true:=by first|assumption|exact ji (by assumption)|exact ji (ji (by assumption))|exact ji (ji (ji (by assumption)))|exact Dx (by assumption)|simp_all):an P o ts ls h fx v aS h':=an.OP hk hc b
theorem an.kI {c y z:Operand}{b r f:Bool}(hc:ev ts c=.a (.d (.bool b))) (j:ev ts y=.gd f (.d (.bool r))) (hz:ev ts z=.a (.d (.bool false))) (k:b=true->f=true:=by intro hh; first|exact hh|exact AX hh|exact AY (by assumption) hh|exact AY (by assumption) (AX hh)|simp_all) :
  an P (mk dst (.pick c y z) ty pos aI g) ts ls h {} (.a (.d (.bool (b&&r)))) ls h:=an.OQ hc j k hz
theorem an.we {c y z:Operand}{b r f:Bool}(hc:ev ts c=.a (.d (.bool b))) (j:ev ts y=.a (.d (.bool true))) (hz:ev ts z=.gd f (.d (.bool r))) (k:b=false->f=true:=by intro hh; first|exact hh|exact AX hh|exact AY (by assumption) hh|exact AY (by assumption) (AX hh)|simp_all) :
  an P (mk dst (.pick c y z) ty pos aI g) ts ls h {} (.a (.d (.bool (b||r)))) ls h:=an.OR hc j hz k
theorem an.Pe {x:Operand}{v:V}(hx:ev ts x=v:=by conv=>lhs; whnf):an P (mk dst (.move x) ty pos aI g) ts ls h {} v ls h:=an.move hx
theorem an.Pf {x:Operand}{v:V}(hx:ev ts x=v:=by conv=>lhs; whnf):an P (mk dst (.assign x) ty pos aI g) ts ls h {} v ls h:=an.assign hx
theorem an.qp {t:TypeId}{b j:TI}{fs:List (Nat×TypeId)}{x:Operand}{f o:Nat}{xs l:List D}{m:TypeId}(p:aY P t=some b) (hk:b.k=.struct fs) (q:fs[f]?=some (o,m)) (r:aY P m=some j)
  (hz:Nat.beq j.size 0=false) (hx:ev ts x=.a (.d (.view xs))) (s:xs.drop o=l:=by conv=>lhs; whnf):an P (mk dst (.fieldAddr t x f) ty pos aI g) ts ls h {} (.a (.d (.view l))) ls h:=an.Ol p hk q r hz hx s
theorem fN.A {ts:Ts}{k:Nat}{v:V}{r:Ts}(t:fN ts r) (h:Ab.get ts k=v:=by conv=>lhs; whnf):fN ts ((k,v)::r):=fN.cons h t
theorem an.Pg {e:TypeId}{b:TI}{z:A}{i:Nat}{aS:List (List D)}(f:aY P e=some b) (hz:b.zero=some z) (j:fw (cw z) ls i aS:=by repeat (first|exact fw.nil|apply fw.cons)) :
  an P (mk dst (.alloc e) ty pos aI g) ts ls h { wl:=true } (.cW i 0) aS h:=an.Oz f hz j
theorem an.yO {t:TypeId}{b:TI}{x y:Operand}{i:Nat}{xs f:List D}{aS:List (List D)}(j:aY P t=some b) (hx:ev ts x=.cW i 0) (k:ev ts y=.a (.agg f)) (hl:ls[i]?=some xs)
  (l:f.length=b.size) (hle:xs.length=b.size) (m:bE f ls i aS:=by repeat (first|exact bE.zero|apply bE.succ)):an P (mk none (.store t x y) ty pos aI g) ts ls h { wl:=true } .any aS h:=an.OB j hx k hl l hle m
theorem ag.bC {c:Code}{Q:Exit->St->Prop}{n:Nat}{b:Ts}{aS:List (List D)}{xs:List D}(s i:Nat) (f:get ts s=.cW i 0) (hk:dJ ts i b) (hw:ag P c Q ⟨n,(s,.a (.d (.view xs)))::b,aS,h⟩) (hl:fw xs aS i ls:=by repeat (first|exact fw.nil|apply fw.cons)):ag P c Q ⟨n,ts,ls,h⟩:=ag.freeze s i f hl hk hw
theorem ag.gm {c:Operand}{u v:Code}{Q:Exit->St->Prop}{σ:St}{b:Bool}{α:Type}{A B:Option α}{r:α}(f:(bif b then A else B)=some r) (hc:ev σ.ts c=.a (.d (.bool b))) (ht:b=true->A=some r->ag P u Q σ) (g:b=false->B=some r->ag P v Q σ):ag P (.cond c u v) Q σ :=
 ag.cond hc (fun h=>ht h (Go.Ab.jY h f)) (fun h=>g h (Go.Ab.uz h f))
end
end Go.Ab
/-
 Slices that may be stored to: their object holds the rows; the slot tells the object and the length.
-/
namespace Go.Ab
open Go Go.RowKit
variable {au:bS}
variable {f_:eT}
theorem HL.Ph {j:J}{w:World}{jl:List Nat}{ls:List (List D)}{h:af}(hl:HL j w jl ls h) (k:Nat) :
  HL j.dX w jl ls (h.set j.next (some (.arr k [])))/\bN j w (aV j h jl) j.dX w (aV j.dX (h.set j.next (some (.arr k []))) jl):=by
 have hle:Le j w j.dX w:=⟨by simp [J.dX],fun _ _=>rfl,fun _=>Nat.le_refl _,fun _ _ _=>rfl,fun t ht=>.inl (by simp only [J.dX]; rw [if_neg (by omega)]),fun _ _ _ _ _ h=>h⟩;have hk:=hl.keep hle (fun _ _=>⟨rfl,rfl⟩) (fun id hid _=>by simp only [J.dX]; rw [if_neg (by omega)]) hl.1.fresh;have g:∀b,bH j.dX j.next (.arr k [])≠some b:=by intro b; simp [bH,J.dX]
 have m:∀jl x,aV j.dX (h.set j.next (some (.arr k []))) jl x->aV j.dX h jl x:=by
  rintro jl x (hm|⟨n,q,hn,e⟩)
  ·exact .inl hm
  ·by_cases c:n=j.next
   ·subst c; rw [af.aT] at hn; simp only [Option.some.injEq] at hn; subst hn;exact absurd e (g x)
   ·rw [af.aQ h _ c] at hn; exact .inr ⟨n,q,hn,e⟩
 refine⟨⟨⟨fun id o hi=>?_,fun p v r y x h1 f s u=>?_,hl.1.fresh⟩,⟨hk.1.2.each,hk.1.2.nodup,fun x hx l=>hk.1.2.apart x hx (m [] x l)⟩⟩,
  { (bN.refl j w (aV j h jl)) with toLe:=hle,frame:=fun _ _ _=>⟨rfl,rfl⟩,own:=fun b _ l=>(hk.2 b).1 (m jl b l) }⟩
 ·by_cases c:id=j.next
  ·subst c; rw [af.aT] at hi; simp only [Option.some.injEq] at hi; subst hi;exact⟨by simp [J.dX],none,by simp [J.dX],⟨fun _=>rfl,fun _=>rfl⟩,by simp,by simp,by simp⟩
  ·rw [af.aQ h _ c] at hi; exact hk.1.1.obj id o hi
 ·by_cases c1:p=j.next
  ·subst c1; rw [af.aT] at h1; simp only [Option.some.injEq] at h1; subst h1;exact absurd s (g x)
  ·by_cases c2:r=j.next
   ·subst c2; rw [af.aT] at f; simp only [Option.some.injEq] at f; subst f;exact absurd u (g x)
   ·rw [af.aQ h _ c1] at h1; rw [af.aQ h _ c2] at f;exact hk.1.1.inj p v r y x h1 f s u
theorem HL.DD {j:J}{w w':World}{jl:List Nat}{ls:List (List D)}{h:af}(hl:HL j w jl ls h){t k:Nat}{rows bg:List (List D)}(ht:h t=some (.arr k rows)) (hm:rows.length<bg.length)
  {b cap:Nat}{cs:List Value}{e:TypeId}(I:w'.heap[b]?=some (.cells cs.toArray e (0,0))) (Q:cs.length=cap*k) (R:bg.length<=cap) (S:∀r∈bg,r.length=k) (U:bg.length<=cA)
  (p:∀x,x≠b->x<w.heap.size->w'.heap[x]?=w.heap[x]?) (W:w.heap.size<=w'.heap.size) (ai:w'.heap.size<=max w.heap.size (b+1))
  (s:w.heap.size<=b\/bH j t (.arr k rows)=some b)
  (X:∀j',Le j w j' w'->aW (aD j' w') bg.flatten (cs.take (bg.length*k)))
  (Y:w'.os=w.os) (Z:w'.tape=w.tape) (aa:fZ w w') :
  HL (j.cG t ⟨some (b,cap),bg.length⟩ b 0) w' jl ls (h.set t (some (.arr k bg))) /\
   bN j w (aV j h jl) (j.cG t ⟨some (b,cap),bg.length⟩ b 0) w' (aV (j.cG t ⟨some (b,cap),bg.length⟩ b 0) (h.set t (some (.arr k bg))) jl):=by
 obtain⟨ab,dI,M,_,_,_,hblk⟩:=hl.1.obj t _ ht;have N:j.F b=0:=by
  rcases s with hc|hc
  ·exact hl.1.fresh b hc
  ·simp only [bH,M,Option.bind_some] at hc;cases dI with
   | none=>simp at hc
   | some ad =>
    obtain⟨b',ae⟩:=ad;simp only [Option.map_some,Option.some.injEq] at hc;subst hc;obtain⟨_,_,_,_,ah,_⟩:=hblk _ _ rfl;exact ah
 have hle:Le j w (j.cG t ⟨some (b,cap),bg.length⟩ b (0)) w':=by
  refine⟨Nat.le_refl _,fun _ _=>rfl,fun x=>?_,fun x o g=>?_,fun x hx=>?_,fun x o v g _ hz=>by
   by_cases c:x=b
   ·subst c; exact .cells I
   ·refine hz.same (p x c ?_);rcases Nat.lt_or_ge x w.heap.size with h1|h1
    ·exact h1
    ·rw [hl.1.fresh x h1] at g; omega⟩
  ·simp only [J.cG]; split
   ·rename_i c; rw [c,N]; exact Nat.le_refl _
   ·exact Nat.le_refl _
  ·by_cases c:x=b
   ·subst c;rw [N] at g; omega
   ·refine vM (p x c ?_);rcases Nat.lt_or_ge x w.heap.size with h1|h1
    ·exact h1
    ·rw [hl.1.fresh x h1] at g; omega
  ·by_cases c:x=t
   ·subst c; exact .inr ⟨_,⟨some (b,cap),bg.length⟩,M,by simp [J.cG],hm⟩
   ·exact .inl (by simp [J.cG,c])
 -- the others' blocks are not b
 have C:∀n q x,h n=some q->n≠t->bH j n q=some x->x≠b:=fun n q x hn l hx c=>by
  subst c;rcases s with hc|hc
  ·have:=aV.lt hl (.inr ⟨n,q,hn,hx⟩); omega
  ·exact l (hl.1.inj n q t _ x hn ht hx hc)
 have K:∀x,x∈jl->x≠b:=fun x hx c=>by
  subst c;rcases s with hc|hc
  ·have:=aV.lt hl (.inl hx); omega
  ·exact hl.2.apart x hx (.inr ⟨t,_,ht,hc⟩)
 have E:∀x,x≠b->(j.cG t ⟨some (b,cap),bg.length⟩ b (0)).F x=j.F x:=fun x hx=>by simp [J.cG,hx]
 have m:∀n q,h n=some q->n≠t->iJ (j.cG t ⟨some (b,cap),bg.length⟩ b (0)) w' n q/\bH (j.cG t ⟨some (b,cap),bg.length⟩ b (0)) n q=bH j n q:=fun n q hn l =>
  (hl.1.obj n q hn).2.keep hle (hl.1.obj n q hn).1 (fun x hx=>⟨p x (C n q x hn l hx) (aV.lt hl (.inr ⟨n,q,hn,hx⟩)),E x (C n q x hn l hx)⟩)
   (fun _=>by simp [J.cG,l])
 have L:bH (j.cG t ⟨some (b,cap),bg.length⟩ b (0)) t (.arr k bg)=some b:=by simp [bH,J.cG]
 have O:∀jl x,aV (j.cG t ⟨some (b,cap),bg.length⟩ b (0)) (h.set t (some (.arr k bg))) jl x->x=b\/aV j h jl x:=by
  rintro jl x (hx|⟨n,q,hn,hx⟩)
  ·exact .inr (.inl hx)
  ·by_cases c:n=t
   ·subst c; rw [af.aT] at hn; simp only [Option.some.injEq] at hn; subst hn;rw [L] at hx; simp only [Option.some.injEq] at hx; exact .inl hx.symm
   ·rw [af.aQ h _ c] at hn;exact .inr (.inr ⟨n,q,hn,(m n q hn c).2▸hx⟩)
 refine⟨⟨⟨fun n q hn=>?_,fun u G y H x h1 f z B=>?_,fun x hx=>?_⟩,
  ⟨qh hl.2.each fun xs x hx h=>h.keep hle ⟨p x (K x hx) (aV.lt hl (.inl hx)),E x (K x hx)⟩,hl.2.nodup,fun x hx g=>?_⟩⟩, ?_⟩
 ·by_cases c:n=t
  ·subst c; rw [af.aT] at hn; simp only [Option.some.injEq] at hn; subst hn;refine⟨ab,some (b,cap),by simp [J.cG],⟨by simp,fun e=>by rw [e] at hm; simp at hm⟩,S,U,fun b' ae P=>?_⟩;simp only [Option.some.injEq,Prod.mk.injEq] at P;obtain⟨rfl,rfl⟩:=P;exact⟨cs,e,I,Q,by simp [J.cG],R,X _ hle⟩
  ·rw [af.aQ h _ c] at hn;exact⟨(hl.1.obj n q hn).1,(m n q hn c).1⟩
 ·by_cases c1:u=t<;>by_cases c2:y=t
  ·omega
  ·subst c1; rw [af.aT] at h1; simp only [Option.some.injEq] at h1; subst h1;rw [af.aQ h _ c2] at f;rw [L] at z; simp only [Option.some.injEq] at z;exact absurd z.symm (C y H x f c2 ((m y H f c2).2▸B))
  ·subst c2; rw [af.aT] at f; simp only [Option.some.injEq] at f; subst f;rw [af.aQ h _ c1] at h1;rw [L] at B; simp only [Option.some.injEq] at B;exact absurd B.symm (C u G x h1 c1 ((m u G h1 c1).2▸z))
  ·rw [af.aQ h _ c1] at h1; rw [af.aQ h _ c2] at f;exact hl.1.inj u G y H x h1 f ((m u G h1 c1).2▸z) ((m y H f c2).2▸B)
 ·have aj:=jJ I;rw [E x (by omega)];exact hl.1.fresh x (by omega)
 ·rcases O [] x g with c|c
  ·exact K x hx c
  ·exact hl.2.apart x hx c
 ·refine { toLe:=hle,size:=W,frame:=fun x hx hn=>?_,own:=fun x hx g=>?_,os:=Y,tape:=Z,output:=aa }
  ·have l:x≠b:=fun c=>by
    subst c;rcases s with hc|hc
    ·omega
    ·exact hn (.inr ⟨t,_,ht,hc⟩)
   exact⟨p x l hx,E x l⟩
  ·rcases O jl x g with c|c
   ·subst c;rcases s with hc|hc
    ·omega
    ·exact .inr ⟨t,_,ht,hc⟩
   ·exact c
theorem wg {j:J}{w:World}{jl:List Nat}{k id:Nat}{nl:Bool}{len:Nat}{cv:Value}(h:br j w jl (.a (.d (.arr k id nl len))) cv):∃a cap,cv=.slice a len cap/\id<j.next/\yq j id nl len a cap:=by
 have h':aD j w (.arr k id nl len) cv:=h;cases h' with
 | arr _ _ _ _ a cap hid hv=>exact⟨a,cap,rfl,hid,hv⟩
theorem Pj {j:J}{w:World}{jl:List Nat}{id m off:Nat}{cv:Value}(h:br j w jl (.a (.d (.iq id m off))) cv) :
  ∃b,cv=.pointer (some ⟨b,off,none⟩)/\id<j.next/\∀tk,j.tok id=some tk->m<=tk.m/\(m=tk.m->∃c,tk.dI=some (b,c)):=by
 have h':aD j w (.iq id m off) cv:=h;cases h' with
 | iq _ _ _ b hid hv=>exact⟨b,rfl,hid,hv⟩
theorem HL.sv {j:J}{w:World}{jl:List Nat}{ls:List (List D)}{h:af}(hl:HL j w jl ls h){k k' id n:Nat}{nl:Bool}{rows:List (List D)}(hi:h id=some (.arr k rows)) (hn:n=rows.length){cv:Value}
  (hx:br j w jl (.a (.d (.arr k' id nl n))) cv) :
  (∃a,cv=.slice a 0 0/\nl=a.isNone/\rows=[]/\j.tok id=some ⟨none,0⟩)\/∃b cap cs e,cv=.slice (some ⟨b,0,none⟩) rows.length cap/\nl=false/\j.tok id=some ⟨some (b,cap),rows.length⟩/\w.heap[b]?=some (.cells cs e (0,0)) /\
   cs.size=cap*k/\j.F b=0/\rows.length<=cap/\(∀r∈rows,r.length=k)/\aW (aD j w) rows.flatten (cs.toList.take (rows.length*k)):=by
 subst hn;obtain⟨a,cap,m,hid,hv⟩:=wg hx;obtain⟨_,dI,f,p,q,s,hblk⟩:=hl.1.obj id _ hi;obtain⟨_,hv⟩:=hv _ f;rcases hv rfl with ⟨h1,g,l⟩|⟨b,h1,g,l⟩
 ·dsimp only at h1;subst h1 l;have:=p.1 rfl;subst this;exact .inl ⟨a,m,g,rfl,f⟩
 ·dsimp only at h1;subst h1 g;obtain⟨cs,e,g1,g2,g3,g4,g5⟩:=hblk _ _ rfl;exact .inr ⟨b,cap,cs.toArray,e,m,l,f,g1,by simpa using g2,g3,g4,q,by simpa using g5⟩
theorem HN {rows:List (List D)}{k i o:Nat}{row:List D}(hk:∀r∈rows,r.length=k) (hr:rows[i]?=some row) (b:o<k):rows.flatten[i*k+o]?=row[o]?:=(iu hk).2 i row hr o b
theorem Pk {rows:List (List D)}{k:Nat}(hk:∀r∈rows,r.length=k):∀{i o:Nat}{row:List D}{v:D},rows[i]?=some row->o<k->rows.flatten.set (i*k+o) v=(rows.set i (row.set o v)).flatten:=by
 induction rows with
 | nil=>intro i o row v hr; simp at hr
 | cons r rs b =>
  intro i o row v hr f;have g:r.length=k:=hk r (by simp);cases i with
  | zero =>
   simp at hr; subst hr;rw [Nat.zero_mul,Nat.zero_add,List.flatten_cons,List.set_append_left _ _ (by omega)]; rfl
  | succ i =>
   have:=b (fun x hx=>hk x (by simp [hx])) (i:=i) (o:=o) (v:=v) (by simpa using hr) f;rw [List.flatten_cons,Nat.succ_mul,List.set_append_right _ _ (by omega),show i*k+k+o-r.length=i*k+o by omega,this]; rfl
theorem Pm {rows:List (List D)}{k i:Nat}(hk:∀r∈rows,r.length=k):∀{o:Nat}{b row:List D},rows[i]?=some row->o+b.length<=k->cK rows.flatten (i*k+o) b=(rows.set i (cK row o b)).flatten:=by
 intro o b;induction b generalizing o rows with
 | nil =>
  intro row hr _;show rows.flatten=(rows.set i row).flatten
  congr 1
  refine List.ext_getElem? fun n=>?_;rw [List.getElem?_set]; split
  ·rename_i e; subst e; rw [hr]; simp [(List.getElem?_eq_some_iff.1 hr).1]
  ·rfl
 | cons v b f =>
  intro row hr g;simp only [List.length_cons] at g;have hi:=(List.getElem?_eq_some_iff.1 hr).1;rw [cK,Pk hk hr (by omega),Nat.add_assoc,f (rows:=rows.set i (row.set o v)) (row:=row.set o v) (fun r j=>?_) (by simp [hi]) (by omega)]
  ·rw [List.set_set]; rfl
  ·rcases List.mem_or_eq_of_mem_set j with h|h
   ·exact hk r h
   ·rw [h,List.length_set]; exact hk row (List.mem_of_getElem? hr)
theorem DE {α:Type}:∀(l z:List α) (n:Nat) (r:List α),n+r.length<=l.length->cK (l++z) n r=cK l n r++z
 | _,_,_,[],_=>rfl
 | l,z,n,v::r,h=>by
  simp only [List.length_cons] at h;rw [cK,cK,List.set_append_left _ _ (by omega),DE _ _ _ _ (by simp; omega)]
section
variable {P:Program}{ts:Ts}{ls:List (List D)}{h:af}{dst:Option Tmp}{ty:TypeId}{pos:String}{aI:Array Edge}{g:Option (Nat×Bool)}{α:Type}{f:α->List D}
theorem an.HO {t e:TypeId}{b:TI}{x:Operand}{cq:Array TypeId}{k id m:Nat}{nl:Bool}(f:aY P t=some b) (hk:b.k=.slice e) (bQ:cq[0]?=some t)
  (hx:ev ts x=.a (.d (.arr k id nl m))):an P (mk dst (.call { callee:=.builtin .len,args:=#[x],argTypes:=cq }) ty pos aI g) ts ls h {} (.a (.d (.int .i64 (m:Int)))) ls h :=
 an.dR fun j w jl act l=>by
  have h1:=l x (by simp [Op.operands,Call.operands]);rw [hx] at h1;obtain⟨a,cap,p,_⟩:=wg h1;exact⟨_,by simp [execOp,resolve,invoke,builtin,p,Builtin.len_,bQ,eU (kF f hk),goInt],aD.int _ _⟩
theorem an.qq {t e:TypeId}{p q:TI}{x ix:Operand}{v:IntKind}{n:Nat}{k id m:Nat}{nl:Bool}{l:List α}{y:α}(z:aY P t=some p) (hk:p.k=.slice e) (B:aY P e=some q)
  (hx:ev ts x=.a (.d (.arr k id nl m))) (hi:ev ts ix=.a (.d (.int v (n:Int)))) (C:k=q.size) (hh:h id=some (.arr k (l.map f))) (hm:m=l.length) (hr:l[n]?=some y) :
  an P (mk dst (.indexAddr t x ix) ty pos aI g) ts ls h { rh:=true } (.a (.d (.iq id m (n*k)))) ls h :=
 o9.r_ ⟨rfl,rfl,fun L H _ hH j w jl a hl r=>by
  have h1:=r x (by simp [Op.operands]);have s:=r ix (by simp [Op.operands]);rw [hx] at h1; rw [hi] at s;rw [hH rfl] at hl;subst hm;have bn:=(List.getElem?_eq_some_iff.1 hr).1;rcases hl.sv hh (by simp) h1 with ⟨_,_,_,u,_⟩|⟨b,cap,cs,ce,E,_,F,_⟩
  ·simp at u; subst u; simp at hr
  ·refine⟨.pointer (some ⟨b,n*k,none⟩), ?_,aD.iq id l.length (n*k) b (hl.1.obj id _ hh).1 fun tk bu=>?_⟩
   ·simp [execOp,E,jZ s,Instr.indexAt,asIntOf,eU (kF z hk),kE B,bn,<- C,add_plain]
   ·rw [F] at bu; simp only [Option.some.injEq] at bu; subst bu;exact⟨by simp,fun _=>⟨cap,rfl⟩⟩⟩
theorem HL.HP {j:J}{w:World}{jl:List Nat}{ls:List (List D)}{h:af}(hl:HL j w jl ls h){k id off:Nat}{rows:List (List D)}(hi:h id=some (.arr k rows)){cv:Value}
  (hx:br j w jl (.a (.d (.iq id rows.length off))) cv) :
  ∃b cap cs e,cv=.pointer (some ⟨b,off,none⟩)/\j.tok id=some ⟨some (b,cap),rows.length⟩/\w.heap[b]?=some (.cells (cs:List Value).toArray e (0,0))/\cs.length=cap*k/\j.F b=0/\rows.length<=cap /\
   (∀r∈rows,r.length=k)/\aW (aD j w) rows.flatten (cs.take (rows.length*k))/\rows.length<=cA:=by
 obtain⟨b,l,hid,hv⟩:=Pj hx;obtain⟨_,dI,f,q,m,p,hblk⟩:=hl.1.obj id _ hi;obtain⟨_,hv⟩:=hv _ f;obtain⟨cap,g⟩:=hv rfl;dsimp only at g;subst g;obtain⟨cs,e,g1,g2,g3,g4,g5⟩:=hblk _ _ rfl;exact⟨b,cap,cs,e,l,f,g1,g2,g3,g4,m,g5,p⟩
theorem an.wi {t:TypeId}{r:TI}{x:Operand}{k id m off i o:Nat}{l:List α}{y:α}{v:A}(z:aY P t=some r) (hk:r.k.uw=false) (hx:ev ts x=.a (.d (.iq id m off)))
  (hh:h id=some (.arr k (l.map f))) (hm:m=l.length) (hr:l[i]?=some y) (B:off=i*k+o) (hv:uy r (f y) o=some v) :
  an P (mk dst (.load t x) ty pos aI g) ts ls h { rh:=true } (.a v) ls h :=
 o9.r_ ⟨rfl,rfl,fun L H _ hH j w jl a hl C=>by
  have h1:=C x (by simp [Op.operands]);rw [hx] at h1;rw [hH rfl] at hl;rw [hm,<- List.length_map f] at h1;obtain⟨b,cap,cs,ce,E,_,hg,I,_,J,s,F,_⟩:=hl.HP hh h1;have u:(l.map f)[i]?=some (f y):=by rw [List.getElem?_map,hr]; rfl
  have M:(f y).length=k:=s _ (List.mem_of_getElem? u);have hc:Cells j w b (i*k) (f y):=by
   intro n d hn;have N:=(List.getElem?_eq_some_iff.1 hn).1;have q:=HN s u (o:=n) (by omega);rw [hn] at q;obtain⟨v,p,G⟩:=F.get q;refine⟨v, ?_,G⟩;rw [cell_of_row w b _ cs.toArray ce (0,0) hg];rw [List.getElem?_take] at p; split at p
   ·simpa using p
   ·cases p
  obtain⟨cv,q,p⟩:=yz (P:=P) hc z (K.ux hk) hv;exact⟨cv,by simp [execOp,Instr.loadAt,Instr.sureAddr,E,B,q],p⟩⟩
theorem an.DF {t:TypeId}{p:TI}{x y:Operand}{k id m off i o:Nat}{l:List α}{u u':α}{v:A}(Q:aY P t=some p) (hx:ev ts x=.a (.d (.iq id m off))) (R:ev ts y=.a v)
  (hh:h id=some (.arr k (l.map f))) (hm:m=l.length) (hr:l[i]?=some u) (S:off=i*k+o) (E:(cw v).length=p.size) (hle:o+p.size<=k) (hu:cK (f u) o (cw v)=f u') (aj:dst=none) :
  an P (mk dst (.store t x y) ty pos aI g) ts ls h { wh:=true } .any ls (h.set id (some (.arr k ((l.set i u').map f)))):=by
 refine an.of_run fun L H _ hH j w jl a hl F=>?_;have U:=hH rfl;subst U;have h1:=F x (by simp [Op.operands]);have s:=F y (by simp [Op.operands]);rw [hx] at h1; rw [R] at s;rw [hm,<- List.length_map f] at h1;obtain⟨b,cap,cs,ce,W,G,hg,X,z,I,B,J,Y⟩:=hl.HP hh h1;have K:(l.map f)[i]?=some (f u):=by rw [List.getElem?_map,hr]; rfl
 have hi:=(List.getElem?_eq_some_iff.1 hr).1;have ak:i*k+k<=l.length*k:=by rw [<- Nat.succ_mul]; exact Nat.mul_le_mul_right _ hi
 have al:l.length*k<=cap*k:=Nat.mul_le_mul_right _ (by simpa using I);obtain⟨w',Z,C⟩:=Dg (au:=au) (P:=P) (off:=off) hg Q s E (by omega);have M:=C.le (j:=j) z;have aa:(a.eval y).cells.toList.length=p.size:=by have:=s.cells.length; rw [E] at this; exact this.symm
 have hblk:∀bg,bH j id (.arr k bg)=some b:=fun _=>by simp [bH,G]
 obtain⟨ab,ad⟩:=hl.setObj (o':=.arr k ((l.set i u').map f)) hh (hblk _) (hblk _) z C (by
  refine⟨some (b,cap),by simpa using G,⟨by simp,fun e=>by simp at e; subst e; simp at hr⟩,fun r ae=>?_,by simpa using Y,fun b' am N=>?_⟩
  ·obtain⟨q,hq,rfl⟩:=List.mem_map.1 ae;rcases List.mem_or_eq_of_mem_set hq with hq|hq
   ·exact B _ (List.mem_map.2 ⟨q,hq,rfl⟩)
   ·subst hq; rw [<- hu,uB]; exact B _ (List.mem_of_getElem? K)
  ·simp only [Option.some.injEq,Prod.mk.injEq] at N;obtain⟨rfl,rfl⟩:=N;refine⟨_,ce,C.here,by rw [uB]; exact X,z,by simpa using I, ?_⟩;have ah:((l.set i u').map f).flatten=cK (l.map f).flatten (i*k+o) (cw v):=by
    rw [Pm B K (by omega),List.map_set,hu]
   rw [ah,List.length_map,List.length_set];have ai:cs=cs.take (l.length*k)++cs.drop (l.length*k):=(List.take_append_drop _ _).symm;have O:(cs.take (l.length*k)).length=l.length*k:=by rw [List.length_take]; omega
   have:(cK cs off (a.eval y).cells.toList).take (l.length*k)=cK (cs.take (l.length*k)) off (a.eval y).cells.toList:=by
    conv=>lhs; rw [ai]
    rw [DE _ _ _ _ (by rw [O,aa]; omega)];rw [List.take_left' (by rw [uB,O])]
   rw [show _=(cK cs off (a.eval y).cells.toList) from rfl,this,S];rw [List.length_map] at J;exact(J.imp fun _ _ h=>h.mono M).cK _ (s.cells.imp fun _ _ h=>h.mono M))
 refine⟨.skip,w',undef,j,jl, ?_,.inr ⟨rfl,rfl⟩,trivial,ab,Ext.refl _,ad⟩;simp [execOp,Instr.storeAt,Instr.sureAddr,W,Z]
end
section
variable {P:Program}{ts:Ts}{ls:List (List D)}{h:af}{dst:Option Tmp}{ty:TypeId}{pos:String}{aI:Array Edge}{g:Option (Nat×Bool)}{α:Type}{f:α->List D}
theorem an.Pn {t u e:TypeId}{av ae f:TI}{x y:Operand}{id k k' m:Nat}{tok':Option Nat}{nl aw:Bool}{rows bg:List (List D)}{z:A}(aP:aY P t=some av) (hk:av.k=.slice e) (aR:aY P e=some f) (aS:aY P u=some ae) (aU:(∃e,ae.k=.slice e)\/ae.k=.str)
  (hz:f.zero=some z) (aV:(cw z).length=f.size)
  (hx:ev ts x=.a (.d (.arr k id nl m))) (aW:ev ts y=.a (.d (.slice k' tok' aw bg))) (q:k=f.size) (aX:k'=f.size\/bg=[])
  (bu:h id=some (.arr k rows)) (hm:m=rows.length) (ax:(rows.length+bg.length)*f.bytes<=cA) (hlen:rows.length+bg.length<=cA) :
  an P (mk dst (.call { callee:=.builtin .append,args:=#[x,y],argTypes:=#[t,u] }) ty pos aI g) ts ls h { rh:=true,wh:=true }
   (.a (.d (.arr k id (nl&&bg.isEmpty) (rows.length+bg.length)))) ls (h.set id (some (.arr k (rows++bg)))):=by
 refine an.of_run fun L H _ hH j w jl a hl ay=>?_;have aZ:=hH rfl;subst aZ hm;have h1:br j w jl (.a (.d (.arr k id nl rows.length))) (a.eval x):=by have:=ay x (by simp [Op.operands,Call.operands]); rw [hx] at this; exact this
 have ah:aD j w (.slice k' tok' aw bg) (a.eval y):=by have:=ay y (by simp [Op.operands,Call.operands]); rw [aW] at this; exact this
 obtain⟨ba,bb,M,_,G,aA,_,aB⟩:=gh aR;rw [hz] at aB;obtain⟨zv,aC,a0⟩:=nH aB;have aE:zv.cells.size=f.size:=by have:=(a0 j w).cells.length; rw [aV] at this; simpa using this.symm
 obtain⟨du,hu,N⟩:=Hx aS aU;have ht:=kF aP hk;have Y:∀r∈bg,r.length=f.size:=by
  obtain⟨_,_,_,_,_,_,_,hh,_⟩:=qm (jl:=jl) ah;rcases aX with e|e
  ·rw [<- e]; exact hh
  ·rw [e]; simp
 obtain⟨news,U,O⟩:=Dt (P:=P) ah Y;have Q:=Hv ah P w;have a1:=(iu Y).1;have s:news.length=bg.length*f.size:=by rw [<- U.length,a1]
 have W:∀(v:Value) (w':World),(Builtin.append_ #[t,u] ty #[a.eval x,a.eval y]).run P w=.ok v w' ->
   (execOp a.eval (mk dst (.call { callee:=.builtin .append,args:=#[x,y],argTypes:=#[t,u] }) ty pos aI g)).run P w=.ok (.value v) w':=fun v w' hr=>by
  simp [execOp,resolve,invoke,builtin,hr]
 have l:(rows++bg).length=rows.length+bg.length:=by simp
 have bc:cA=140737488355328:=rfl;have ai:=(hl.1.obj id _ bu).1;rcases hl.sv bu rfl h1 with ⟨base,R,aF,a2,aG⟩|⟨b,cap,B,ce,R,aF,aG,hg,Z,bd,a3,aH,aj⟩
 ·-- nil so far
  subst a2;by_cases S:bg=[]
  ·subst S;have ak:news=[]:=List.eq_nil_of_length_eq_zero (by simpa using s);subst ak;have p:(Builtin.append_ #[t,u] ty #[a.eval x,a.eval y]).run P w=.ok (a.eval x) w:=by
    rw [R];cases base with
    | none=>exact Hu ht hu N M (by simpa using Q) (by rw [G]; simpa using O w (fun _ _ _=>rfl))
    | some a4 =>
     have:=yG (P:=P) (ty:=ty) (sCap:=0) (sLen:=0) (m:=0) (a:=a4) (news:=[]) (w':=w) ht hu N M (by simpa using Q) (by rw [G]; simpa using O w (fun _ _ _=>rfl)) (by omega) (by simp [storeCells])
     simpa using this
   refine⟨_,w,a.eval x,j,jl,W _ _ p,.inl rfl, ?_, ?_,Ext.refl _, ?_⟩
   ·simpa using h1
   ·simp only [List.isEmpty_nil,Bool.and_true,List.append_nil,cond_true];rw [af.kD H id _ bu]; exact hl
   ·simp only [List.isEmpty_nil,Bool.and_true,List.append_nil,cond_true];rw [af.kD H id _ bu]; exact bN.refl _ _ _
  ·have aJ:0<bg.length:=List.length_pos_iff.2 S;have a5:(nl&&bg.isEmpty)=false:=by cases bg with|nil=>exact absurd rfl S|cons _ _=>simp
   rw [a5];have p:=Ds (P:=P) (ty:=ty) (w:=w) (base:=base) (sLen:=0) (sCap:=0) (m:=bg.length) (x:=a.eval y) (olds:=[]) (news:=news) ht hu N M aC Q
    (by cases base<;>simp [Builtin.firstCells,loadCells,loadCellsFrom]) (by rw [G]; exact O w.drew fun _ _ _=>rfl) (by omega) (by simp at hlen; omega) (growslice_fits (by omega) (by rw [aA]; simpa [cA] using ax))
   rw [<- R] at p;generalize al:grownCap w (0+bg.length) 0 e=E at p;have am:bg.length<=E:=by rw [<- al]; have:=grownCap_ge w (0+bg.length) 0 e; omega
   generalize X:[]++news++(Builtin.zeroCells zv.cells (E-(0+bg.length))).toList=F at p;have ao:F.length=E*f.size:=by
    rw [<- X];simp only [List.nil_append,List.length_append,s,Array.length_toList,size_zeroCells,aE,<- Nat.add_mul]
    congr 1; omega
   have ap:=heap_alloc_new w.drew (.cells F.toArray e);obtain⟨K,C⟩:=hl.drew.DD (w':=w.drew.alloc (.cells F.toArray e)) (bg:=[]++bg) bu (by simpa using aJ) (b:=w.heap.size) (cap:=E) ap (by rw [q]; exact ao) (by simpa using am) (by simpa [q] using Y) (by simpa using hlen)
    (fun x hx bn=>rW bn) (by simp) (by simp) (.inl (Nat.le_refl _)) (fun j' hle=>by
     have aq:F.take (bg.length*k)=news:=by rw [<- X,List.nil_append,q,List.take_left' (by rw [s])]
     rw [List.nil_append,aq];exact U.imp fun _ _ h=>(h.mono ((bN.drew j w (fun _=>False)).toLe)).mono hle) rfl rfl fZ.rfl
   refine⟨_,_,_,_,jl,W _ _ p,.inl rfl, ?_,K,Ext.refl _,(bN.drew j w _).trans C⟩;refine aD.arr _ _ _ _ _ _ (Nat.lt_of_lt_of_le ai C.toLe.next) fun tk bu=>?_;simp only [J.cG,if_true,Option.some.injEq] at bu;subst bu;exact⟨by simp,fun _=>.inr ⟨_,rfl,rfl,rfl⟩⟩
 ·have be:=(iu aH).1;subst aF;rw [Bool.false_and];by_cases S:bg=[]
  ·subst S;have ak:news=[]:=List.eq_nil_of_length_eq_zero (by simpa using s);subst ak;have p:(Builtin.append_ #[t,u] ty #[a.eval x,a.eval y]).run P w=.ok (a.eval x) w:=by
    rw [R];have:=yG (P:=P) (ty:=ty) (sCap:=cap) (sLen:=rows.length) (m:=0) (a:=⟨b,0,none⟩) (news:=[]) (w':=w) ht hu N M (by simpa using Q) (by rw [G]; simpa using O w (fun _ _ _=>rfl)) (by omega) (by simp [storeCells])
    simpa using this
   refine⟨_,w,a.eval x,j,jl,W _ _ p,.inl rfl, ?_, ?_,Ext.refl _, ?_⟩
   ·simpa using h1
   ·simp only [List.append_nil,cond_true];rw [af.kD H id _ bu]; exact hl
   ·simp only [List.append_nil,cond_true];rw [af.kD H id _ bu]; exact bN.refl _ _ _
  ·have aJ:0<bg.length:=List.length_pos_iff.2 S;have aL:∀r∈rows++bg,r.length=k:=fun r hr=>(List.mem_append.1 hr).elim (aH r) (fun h=>by rw [q]; exact Y r h);by_cases aa:rows.length+bg.length<=cap
   ·-- in place
    have a6:w.heap[b]?=some (.cells B.toList.toArray ce (0,0)):=by simpa using hg
    obtain⟨w',a7,I⟩:=yA (au:=au) (P:=P) (off:=rows.length*f.size) news 0 B.toList w a6 (by
     rw [s]; simp only [Array.length_toList,Z]; rw [Nat.add_zero,<- Nat.add_mul,q]; exact Nat.mul_le_mul_right _ aa) (AL U)
    rw [Nat.add_zero] at I;have p:(Builtin.append_ #[t,u] ty #[a.eval x,a.eval y]).run P w=.ok (.slice (some ⟨b,0,none⟩) (rows.length+bg.length) cap) w':=by
     rw [R];exact yG ht hu N M Q (by rw [G]; exact O w fun _ _ _=>rfl) aa (by rw [add_plain,G,Nat.zero_add]; exact a7)
    have a8:bH j id (.arr k rows)=some b:=by simp [bH,aG]
    have ab:(rows++bg).length*k<=B.toList.length:=by
     rw [l]; simp only [Array.length_toList,Z]; exact Nat.mul_le_mul_right _ aa
    obtain⟨K,C⟩:=hl.DD (w':=w') (bg:=rows++bg) bu (by rw [l]; omega) (b:=b) (cap:=cap) I.here (by simp [uB,Z]) (by rw [l]; exact aa) aL (by rw [l]; exact hlen) (fun x hx _=>I.other x hx)
     (by rw [I.size]; exact Nat.le_refl _) (by rw [I.size]; omega) (.inr a8) (fun j' hle=>by
      rw [List.flatten_append];have a9:(cK B.toList (rows.length*f.size) news).take ((rows++bg).length*k)=B.toList.take (rows.length*k)++news:=by
       refine List.ext_getElem? fun i=>?_;rw [List.getElem?_take];by_cases hi:i<rows.length*k
       ·rw [if_pos (by rw [l,Nat.add_mul]; omega),yF _ _ _ _ (by rw [<- q]; exact hi),List.getElem?_append_left (by rw [List.length_take]; simp only [l,Nat.add_mul] at ab; omega),List.getElem?_take,if_pos hi]
       ·rw [List.getElem?_append_right (by rw [List.length_take]; omega)];have bn:(B.toList.take (rows.length*k)).length=rows.length*k:=by rw [List.length_take]; simp only [l,Nat.add_mul] at ab; omega
        rw [bn];by_cases ad:i<(rows++bg).length*k
        ·rw [if_pos ad];have aM:i-rows.length*k<news.length:=by rw [s,<- q]; rw [l,Nat.add_mul] at ad; omega
         have:=AT B.toList (rows.length*f.size) news (i-rows.length*k) _ (List.getElem?_eq_getElem aM) (by rw [s,<- q]; simp only [l,Nat.add_mul] at ab; exact ab);rw [<- q,show rows.length*k+(i-rows.length*k)=i by omega] at this;rw [<- q,this,List.getElem?_eq_getElem aM]
        ·rw [if_neg ad]
         symm; apply List.getElem?_eq_none; rw [s,<- q]; rw [l,Nat.add_mul] at ad; omega
      rw [a9];exact(aj.imp fun _ _ h=>h.mono hle).append (U.imp fun _ _ h=>h.mono hle)) I.os I.tape I.output
    rw [l] at C K;refine⟨_,w',_,_,jl,W _ _ p,.inl rfl, ?_,K,Ext.refl _,C⟩;refine aD.arr _ _ _ _ _ _ (Nat.lt_of_lt_of_le ai C.toLe.next) fun tk bu=>?_;simp only [J.cG,if_true,Option.some.injEq] at bu;subst bu;exact⟨Nat.le_refl _,fun _=>.inr ⟨_,rfl,rfl,rfl⟩⟩
   ·-- a new array
    obtain⟨olds,holds,ar⟩:∃olds,olds=B.toList.take (rows.length*k)/\olds.length=rows.length*f.size:=⟨_,rfl,by
     have a_:B.toList.length=cap*k:=by simpa using Z
     have:=Nat.mul_le_mul_right k a3;rw [List.length_take,a_,<- q];omega⟩
    rw [<- holds] at aj;have a':(Builtin.firstCells f.size rows.length (.slice (some ⟨b,0,none⟩) rows.length cap)).run P w.drew=.ok olds.toArray w.drew:=by
     rw [Builtin.firstCells,<- ar];exact run_loadCells_list w.drew _ olds fun n v hv=>by
      rw [add_plain,Nat.zero_add];have:w.drew.cell? ⟨b,n,none⟩=w.cell? ⟨b,n,none⟩:=rfl;rw [this,cell_of_row w b n B ce (0,0) hg];rw [holds,List.getElem?_take] at hv
      split at hv
      ·simpa using hv
      ·cases hv
    have p:=Ds (P:=P) (ty:=ty) (w:=w) (base:=some ⟨b,0,none⟩) (sLen:=rows.length) (sCap:=cap) (m:=bg.length) (x:=a.eval y) (olds:=olds) (news:=news) ht hu N M aC Q
     (by rw [G]; exact a') (by rw [G]; exact O w.drew fun _ _ _=>rfl) (by omega) (by omega) (growslice_fits (by omega) (by rw [aA]; exact ax))
    rw [<- R] at p;generalize al:grownCap w (rows.length+bg.length) cap e=E at p;have am:rows.length+bg.length<=E:=by rw [<- al]; exact grownCap_ge _ _ _ _
    generalize X:olds++news++(Builtin.zeroCells zv.cells (E-(rows.length+bg.length))).toList=F at p;have ao:F.length=E*f.size:=by
     rw [<- X];simp only [List.length_append,ar,s,Array.length_toList,size_zeroCells,aE,<- Nat.add_mul]
     congr 1; omega
    have ap:=heap_alloc_new w.drew (.cells F.toArray e);obtain⟨K,C⟩:=hl.drew.DD (w':=w.drew.alloc (.cells F.toArray e)) (bg:=rows++bg) bu (by rw [l]; omega) (b:=w.heap.size) (cap:=E) ap (by rw [q]; exact ao) (by rw [l]; exact am) aL (by rw [l]; exact hlen)
     (fun x hx bn=>rW bn) (by simp) (by simp) (.inl (Nat.le_refl _)) (fun j' hle=>by
      have aq:F.take ((rows++bg).length*k)=olds++news:=by rw [<- X,List.take_left' (by rw [List.length_append,ar,s,l,q,Nat.add_mul])]
      rw [aq,List.flatten_append];have aO:=(bN.drew j w (fun _=>False)).toLe;exact(aj.imp fun _ _ h=>(h.mono aO).mono hle).append (U.imp fun _ _ h=>(h.mono aO).mono hle)) rfl rfl fZ.rfl
    rw [l] at C K;refine⟨_,_,_,_,jl,W _ _ p,.inl rfl, ?_,K,Ext.refl _,(bN.drew j w _).trans C⟩;refine aD.arr _ _ _ _ _ _ (Nat.lt_of_lt_of_le ai C.toLe.next) fun tk bu=>?_;simp only [J.cG,if_true,Option.some.injEq] at bu;subst bu;exact⟨Nat.le_refl _,fun _=>.inr ⟨_,rfl,rfl,rfl⟩⟩
end
section
variable {P:Program}{ts:Ts}{ls:List (List D)}{h:af}{dst:Option Tmp}{ty:TypeId}{pos:String}{aI:Array Edge}{g:Option (Nat×Bool)}{α:Type}{f:α->List D}
theorem an.DG {t u e:TypeId}{j p b:TI}{x y:Operand}{id k k' m:Nat}{nl:Bool}{tok':Option Nat}{s r v:Sl α}{z:A}(q:aY P t=some j) (hk:j.k=.slice e) (w:aY P e=some b) (B:aY P u=some p) (C:∃e,p.k=.slice e)
  (hz:b.zero=some z) (E:(cw z).length=b.size) (hx:ev ts x=.a (.d (.arr k id nl m))) (F:ev ts y=.a (.d (r.d k' f tok'))) (G:k=b.size) (H:k'=b.size)
  (bu:h id=some (.arr k (s.l.map f))) (hm:m=s.l.length) (I:nl=s.nl) (hr:bh b.bytes s r=some v) :
  an P (mk dst (.call { callee:=.builtin .append,args:=#[x,y],argTypes:=#[t,u] }) ty pos aI g) ts ls h { rh:=true,wh:=true } (.a (.d (.arr k id v.nl v.l.length))) ls (h.set id (some (.arr k (v.l.map f)))):=by
 obtain⟨e,h1,J⟩:=A3 hr;subst e I;have:=an.Pn (au:=au) (P:=P) (dst:=dst) (ty:=ty) (pos:=pos) (aI:=aI) (g:=g) (ls:=ls) q hk w B (.inl C) hz E hx F G (.inl H) bu (by simpa using hm) (by simpa using h1) (by simpa using J);simp only [List.length_map,List.isEmpty_map] at this;rw [<- List.map_append] at this
 simpa using this
variable {c:Code}{Q:Exit->St->Prop}{n:Nat}{ops:Array Oper}{rest:List Oper}{Q':St->Prop}
theorem ag.sw (k:Nat) (hw:∀t,h t=none->ag P c Q ⟨n,ts,ls,h.set t (some (.arr k []))⟩):ag P c Q ⟨n,ts,ls,h⟩:=by
 intro j w jl a b;obtain⟨h1,f⟩:=b.hl.Ph k;have g:=b.hl.1.mm (Nat.le_refl _);refine wp_mono (hw j.next g j.dX w jl a ⟨b.defers,b.size,fun i=>(b.tmps i).mono f.toLe (Ext.refl _),h1⟩) fun e a w hq=>AQ.trans f hq
theorem HQ {j:J}{w:World}{h:af}{t k b f:Nat}(hh:fo j w h) (ht:h t=some (.arr k [])){cv:Value}(hx:aD j w (.slice b none true []) cv):aD j w (.arr f t true 0) cv:=by
 cases hx;obtain⟨h0,dI,h1,g,_⟩:=hh.obj _ _ ht;have l:=g.2 rfl;refine .arr _ _ _ _ _ _ h0 fun tk bu=>?_;rw [h1] at bu; simp only [Option.some.injEq] at bu; subst bu;exact⟨by simp,fun _=>.inl ⟨l,rfl,rfl⟩⟩
theorem aK.A7 (s k t:Nat){f:Nat}(g:get ts s=.a (.d (.slice f none true []))) (ht:h t=some (.arr k []))
  (hw:aK P ops rest Q' ⟨n,(s,.a (.d (.arr k t true 0)))::ts,ls,h⟩):aK P ops rest Q' ⟨n,ts,ls,h⟩:=by
 intro j w jl a b;refine hw j w jl a ⟨b.defers,b.size,fun i=>?_,b.hl⟩;by_cases e:s=i
 ·subst e;show br _ _ _ (get ((s,_)::ts) s) _;rw [ga];have hv:br j w jl (get ts s) (a.tmps.getD s undef):=b.tmps s;rw [g] at hv;exact HQ b.hl.1 ht hv
 ·show br _ _ _ (get ((s,_)::ts) i) _;rw [ir _ _ e];exact b.tmps i
theorem aK.wj {d:Nat}{t e:TypeId}{b:TI}{x:Operand}{cq:Array TypeId}{k k' id m:Nat}{nl:Bool}{l:List α}(p:aY P t=some b) (hk:b.k=.slice e) (bQ:cq[0]?=some t) (hx:ev ts x=.a (.d (.arr k' id nl m)))
  (hh:h id=some (.arr k (l.map f))) (hm:m=l.length) (q:Nat.blt d n=true)
  (hr:l.length<=140737488355328->aK P ops rest Q' ⟨n,(d,.a (.d (.int .i64 (m:Int))))::ts,ls,h⟩) :
  aK P ops (⟨some d,.call { callee:=.builtin .len,args:=#[x],argTypes:=cq },ty,pos,aI,none⟩::rest) Q' ⟨n,ts,ls,h⟩:=by
 intro j w jl a g r s;have hlen:l.length<=140737488355328:=by
  obtain⟨_,_,_,_,_,u,_⟩:=g.hl.1.obj id _ hh
  simpa [cA] using u
 exact aK.s0 (an.HO p hk bQ hx) q (hr hlen) j w jl a g r s
theorem aK.Po (s k t:Nat){f:Nat}(g:get ts s=.full f []) (ht:h t=some (.arr k []))
  (hw:aK P ops rest Q' ⟨n,(s,.a (.d (.arr k t false 0)))::ts,ls,h⟩):aK P ops rest Q' ⟨n,ts,ls,h⟩:=by
 intro j w jl a b;refine hw j w jl a ⟨b.defers,b.size,fun i=>?_,b.hl⟩;by_cases e:s=i
 ·subst e;show br _ _ _ (get ((s,_)::ts) s) _;rw [ga];have hv:br j w jl (get ts s) (a.tmps.getD s undef):=b.tmps s;rw [g] at hv;obtain⟨_,p,hv⟩:=hv;show aD j w (.arr k t false 0) (a.tmps.getD s undef);rw [hv];obtain⟨h0,dI,h1,l,_⟩:=b.hl.1.obj _ _ ht;have m:=l.2 rfl;refine aD.arr _ _ _ _ _ _ h0 fun tk bu=>?_;rw [h1] at bu; simp only [Option.some.injEq] at bu; subst bu;exact⟨by simp,fun _=>.inl ⟨m,rfl,rfl⟩⟩
 ·show br _ _ _ (get ((s,_)::ts) i) _;rw [ir _ _ e];exact b.tmps i
end
def Sl.HR {α:Type}(s:Sl α) (i:Nat) (x:α):Sl α:=⟨s.nl,s.l.set i x⟩
end Go.Ab
/-
 A function that lays one deferred call and returns: the deferred closure is called behind the body,then the results are read. No program text.
-/
namespace Go.Ab
open Go Go.RowKit
variable {au:bS}
structure qt [bS] (P:Program) (f:FuncId) (args:List A) (h:af) (cZ:V->af->Prop):Prop where
 enter:∀(dc:Array Value) (w:World),(callFunc f dc).run P w=.ok (.enter f dc) w
 runs:∀(j:J) (w:World) (dc:List Value),fo j w h->aW (di j w) args dc->∀u,CallsD P f dc.toArray u w fun e u' w'=>u'=u /\
  ∃r cv j' h',e=.returned cv/\cZ r h'/\br j' w' [] r cv/\fo j' w' h'/\bN j w (aV j h []) j' w' (aV j' h' [])
theorem HS {j:J}{w:World}{h:af}{fn:Func}{n:Nat}(hn:fn.ntmps=n){args:List A}{dc:List Value}(hl:Nat.ble args.length n=true) (hr:fo j w h) (b:aW (di j w) args dc) :
  gE j w [] ⟨n,qk 0 args,[],h⟩ { tmps:=dc.toArray++Array.replicate (fn.ntmps-dc.toArray.size) undef,defers:=[] }:=by
 subst hn;have hl:=Nat.le_of_ble_eq_true hl;have hlen:=b.length;refine⟨rfl,by simp; omega,fun t=>?_,⟨hr,⟨.nil,by simp,by simp⟩⟩⟩;refine De (fun t=>(dc.toArray++Array.replicate (fn.ntmps-dc.toArray.size) undef).getD t undef) 0 args dc b (fun i v hv=>?_) t;rw [Nat.zero_add,Array.getD_eq_getD_getElem?,Array.getElem?_append];have:i<dc.length:=(List.getElem?_eq_some_iff.1 hv).1;simp [this]
 exact(List.getElem?_eq_some_iff.1 hv).2
theorem qt.of_wp {P:Program}{T:List TI}(fc:nI P T){f:FuncId}{fn:Func}{c:Code}{args:List A}{h:af}{cZ:V->af->Prop}(m:∀(dc:Array Value) (w:World),(callFunc f dc).run P w=.ok (.enter f dc) w) (p:P.funcs[f]?=some fn) (q:fn.body=some c){n:Nat}(hn:fn.ntmps=n){rs:List ResultVar}(s:fn.results.toList=rs) (hl:Nat.ble args.length n=true)
  (hw:ag P c (bU T rs cZ) ⟨n,qk 0 args,[],h⟩):qt P f args h cZ:=by
 refine⟨m,fun j w dc hr t u=>?_⟩;refine callsD_of_wp p q (wp_mono (hw j w [] _ (HS hn hl hr t)) ?_);rintro e J w' ⟨K,j',L,⟨he,xs,h',y,z,B⟩,b,C⟩;obtain⟨v,hv,E⟩:=Hh (P:=P) fc b s y;obtain⟨F,G⟩:=b.hl.trim 0;obtain⟨H,I⟩:=F.forget z;have l:∃r cv g k,Ending.returned v=.returned cv/\cZ r k/\br g w' [] r cv/\fo g w' k/\bN j w (aV j h []) g w' (aV g k []) :=
  ⟨nJ xs,v,j',h',rfl,B,E,H.1,(C.trans G).trans I⟩
 rcases he with he|he<;>subst he
 ·exact⟨b.defers,v,hv,l⟩
 ·exact⟨b.defers,v,hv,l⟩
def gA [bS] (P:Program) (c Y:Code) (M:St->Prop) (σ:St):Prop :=
 ∀(f:Exit->Act->World->Prop) (j:J) (w:World) (jl:List Nat) (a:Act),gE j w jl σ a ->
  (∀b j' w' g k,M b->gE j' w' g b k->bN j w (aV j σ.h jl) j' w' (aV j' b.h g)->Y.wp P f k w')->c.wp P f a w
section
variable {P:Program}{M:St->Prop}{σ:St}{Y:Code}
theorem gA.done (h:M σ):gA P Y Y M σ:=fun _ _ _ _ _ b hk=>hk _ _ _ _ _ h b (bN.refl _ _ _)
theorem gA.ar {x y:Code}(h:∀K:St->Prop,(∀σ,gA P y Y M σ->K σ)->ag P x (mq K fun _ _=>False) σ):gA P (.seq x y) Y M σ:=by
 intro b j w jl a f hk;refine wp_seq (wp_mono (h (gA P y Y M) (fun _ h=>h) j w jl a f) ?_);rintro e g w' ⟨z,j',k,hq,l,m⟩;cases e with
 | normal=>exact hq b j' w' k g l fun p q r s a2 t u v=>hk p q r s a2 t u (m.trans v)
 | exit _=>exact hq.elim
 | goto _=>exact hq.elim
 | ret=>exact hq.elim
 | panic _=>exact hq.elim
 | outgrown=>exact hq.elim
theorem gA.uA {c:Code}{b:St}(hw:cC σ b) (h:gA P c Y M b):gA P c Y M σ:=by
 intro f j w jl a g hk;obtain⟨j',k,l,m⟩:=hw j w jl a g;exact h f j' w k a l fun p q r s a2 t u v=>hk p q r s a2 t u (m.trans v)
theorem gA.freeze {c:Code}{n:Nat}{ts:Ts}{ls:List (List D)}{h:af}{b:Ts}{aS:List (List D)}{xs:List D}(s i:Nat) (f:get ts s=.cW i 0) (hl:fw xs aS i ls) (hk:dJ ts i b) (hw:gA P c Y M ⟨n,(s,.a (.d (.view xs)))::b,aS,h⟩):gA P c Y M ⟨n,ts,ls,h⟩ :=
 gA.uA (cC.freeze s i f hl hk) hw
end
def Pp [bS] (P:Program) (T:List TI) (rs:List ResultVar) (g:FuncId) (cB:List D) (cZ:V->af->Prop):Exit->St->Prop:=fun e σ =>
 (e=.normal\/e=.ret)/\qt P g (cB.map .d) σ.h fun _ h'=>∃xs b,ql T { σ with h:=h' } rs=some xs/\(∀id o,b id=some o->h' id=some o)/\cZ (nJ xs) b
def Pq [bS] (P:Program) (T:List TI) (rs:List ResultVar) (g:FuncId) (cB:List Operand) (b:Nat) (Z:Code) (cZ:V->af->Prop):St->Prop:=fun σ =>
 ∃xs,uC σ.ts cB=some xs/\Nat.blt b σ.n=true/\∀f_:eT,@ag _ f_ P Z (Pp P T rs g xs cZ) ⟨σ.n,(b,.any)::σ.ts,σ.ls,σ.h⟩
theorem HL.called {j j':J}{w w':World}{jl:List Nat}{ls:List (List D)}{h h':af}(hl:HL j w jl ls h) (hh:fo j' w' h') (k:bN j w (aV j h []) j' w' (aV j' h' [])) :
  HL j' w' jl ls h'/\bN j w (aV j h jl) j' w' (aV j' h' jl):=by
 have l:∀b,b∈jl->b<w.heap.size:=fun b f=>aV.lt hl (.inl f);have m:∀b,b∈jl->w'.heap[b]?=w.heap[b]?/\j'.F b=j.F b:=fun b f=>k.frame b (l b f) (hl.2.apart b f);refine⟨⟨hh,⟨qh hl.2.each fun xs b f h=>h.keep k.toLe (m b f),hl.2.nodup,fun b f g=>hl.2.apart b f (k.own b (l b f) g)⟩⟩, ?_⟩;refine { k with frame:=fun b f hn=>k.frame b f (fun g=>hn ?_),own:=fun b f g=>?_ }
 ·rcases g with g|g
  ·simp at g
  ·exact .inr g
 ·rcases g with g|g
  ·exact .inl g
  ·rcases k.own b f (.inr g) with h|h
   ·simp at h
   ·exact .inr h
theorem AC.Pr {P:Program}{T:List TI}(fc:nI P T){f:FuncId}{fn:Func}{c:Code}{args:List A}{h:af}{cZ:V->af->Prop}(U:∀(dc:Array Value) (w:World),(callFunc f dc).run P w=.ok (.enter f dc) w) (W:P.funcs[f]?=some fn) (X:fn.body=some c){n:Nat}(hn:fn.ntmps=n){rs:List ResultVar}(Y:fn.results.toList=rs) (hl:Nat.ble args.length n=true)
  {aa b:Nat}{g:FuncId}{cB:Array Operand}{Z:Code}{C E:TypeId}{F G:String}{H I:Array Edge}{cq:Array TypeId}
  (hw:gA P c (.seq (.region aa #[⟨some b,.makeFunc (.func g) #[] cB,C,F,H,none⟩,⟨none,.defer { callee:=.value (.tmp b),args:=#[],argTypes:=cq },E,G,I,none⟩] false) Z) (Pq P T rs g cB.toList b Z cZ) ⟨n,qk 0 args,[],h⟩):AC P f args h cZ:=by
 refine⟨U,fun j w dc hr ab=>?_⟩;refine calls_of_wp_defers W X (hw _ j w [] _ (HS hn hl hr ab) fun σ q l s a1 ad p ae=>?_);obtain⟨xs,hx,J,ah⟩:=ad;have L:=AP (j:=q) (w:=l) (jl:=s) (act:=a1) cB.toList xs hx fun x _=>o8 p.tmps x;have ai:b<a1.tmps.size:=by rw [p.size]; simpa [Nat.blt_eq] using J
 have aj:a1.defers=[]:=p.defers;refine wp_seq (wp_region_lit ?_);refine wpList_step fun K ak=>?_;rw [if_pos (rX rfl)];unfold Oper.wp;have al:(execOp a1.eval ⟨some b,.makeFunc (.func g) #[] cB,C,F,H,none⟩).run P l=.ok (.value (.func (.func g) #[] (cB.toList.map a1.eval).toArray)) l:=by
  simp [execOp,Instr.makeFunc]
  apply Array.ext'; simp
 rw [al,Oper.upon_value];refine ak _ _ ?_;refine wpList_step fun aX am=>?_;rw [if_pos (rX rfl)];unfold Oper.wp;have ao:(a1.put (some b) (.func (.func g) #[] (cB.toList.map a1.eval).toArray)).eval (.tmp b)=.func (.func g) #[] (cB.toList.map a1.eval).toArray:=by
  show (a1.put (some b) _).tmps.getD b undef=_;simp [Act.put,Array.getD_eq_getD_getElem?,ai]
 have ap:(execOp (a1.put (some b) (.func (.func g) #[] (cB.toList.map a1.eval).toArray)).eval ⟨none,.defer { callee:=.value (.tmp b),args:=#[],argTypes:=cq },E,G,I,none⟩).run P l=.ok (.defer { target:=.fn (.func g) (cB.toList.map a1.eval).toArray,args:=#[] }) l:=by
  simp only [execOp,resolve,ao,Deferred.ofValue,Sem.run_bind,Sem.run_pure,Result.andThen];simp
 rw [ap,Oper.upon_defer];refine am _ _ ?_;show Code.wp P _ _ _ l;have t:=p.put (Le.refl q l) (Ext.refl s) (dst:=some b) (OO J) (v:=.any) (cv:=.func (.func g) #[] (cB.toList.map a1.eval).toArray) trivial p.hl;have aq:(a1.put (some b) (Value.func (.func g) #[] (cB.toList.map a1.eval).toArray)).defers=[]:=by rw [put_defers]; exact aj
 have ar:=t.size;have au:=t.tmps;have av:=t.hl
 let f_:eT:=⟨[{ target:=.fn (.func g) (cB.toList.map a1.eval).toArray,args:=#[] }]⟩
 have hz:=ah f_;refine wp_mono (hz q l s _ ⟨?_,ar,au,av⟩) ?_
 ·show _::_=_;rw [aq]; rfl
 ·rintro e a4 M ⟨u,aw,ax,⟨he,N⟩,m,O⟩;have ay:a4.defers=[{ target:=.fn (.func g) (cB.toList.map a1.eval).toArray,args:=#[] }]:=m.defers;have aA:Leaves P fn a4.tmps (fun e w'=>∃r cv j' h',e=.returned cv/\cZ r h'/\br j' w' [] r cv/\fo j' w' h'/\bN j w (aV j h []) j' w' (aV j' h' [])) a4.defers .returning M:=by
   rw [ay];refine leaves_cons (f:=g) (args:=(cB.toList.map a1.eval).toArray) (by simp) (by rw [invoke,Array.empty_append]; exact N.enter _ _) ?_;refine(N.runs aw M _ m.hl.1 (aW.jV (by rw [List.length_map]; exact L.length) fun i x y hx aB=>?_) .returning).mono ?_
   ·rw [List.getElem?_map] at hx;cases e:xs[i]? with
    | none=>rw [e] at hx; simp at hx
    | some z =>
     rw [e] at hx; simp at hx; subst hx;obtain⟨aY,B,hr⟩:=L.get e;rw [aB] at B;simp only [Option.some.injEq] at B;subst B;exact hr.mono O.toLe
   ·rintro aZ a0 aC ⟨rfl,r,cv,Q,aD,rfl,⟨aE,aF,aG,aH,aI⟩,hv,hh,R⟩;obtain⟨S,aJ⟩:=m.hl.called hh R;have aL:@gE f_ Q aC ax ⟨u.n,u.ts,u.ls,aD⟩ a4:=⟨m.defers,m.size,fun k=>(m.tmps k).mono R.toLe (Ext.refl _),S⟩;obtain⟨v,aM,aO⟩:=Hh (P:=P) fc aL Y aG;obtain⟨aP,aR⟩:=S.trim 0;obtain⟨aS,aU⟩:=aP.forget aH;exact⟨v,aM,nJ aE,v,Q,aF,rfl,aI,aO,aS.1,((((ae.trans O).trans aJ).trans aR).trans aU)⟩
  rcases he with he|he<;>subst he<;>exact aA
end Go.Ab
namespace Go.Ab
open Go Go.RowKit
variable {au:bS}
def V.shift (i:Nat):V->V
 | .cW q off=>bif Nat.beq q i then .any else bif Nat.blt i q then .cW (q-1) off else .cW q off
 | .iI c q off=>bif Nat.beq q i then .any else bif Nat.blt i q then .iI c (q-1) off else .iI c q off
 | v=>v
def uJ (i:Nat):Ts->Ts
 | []=>[]
 | (k,v)::r=>(k,v.shift i)::uJ i r
theorem HT (i:Nat):∀(ts:Ts) (k:Nat),get (uJ i ts) k=(get ts k).shift i
 | [],_=>rfl
 | (k',v)::r,k=>by
  simp only [uJ];by_cases e:k'=k
  ·subst e; rw [ga,ga]
  ·rw [ir _ _ e,ir _ _ e,HT i r k]
theorem get_erase {α:Type}{l:List α}{i a:Nat}(h:a≠i):(l.eraseIdx i)[if i<a then a-1 else a]?=l[a]?:=by
 rw [List.getElem?_eraseIdx];by_cases c:i<a
 ·rw [if_pos c,if_neg (by omega)]; congr 1; omega
 ·rw [if_neg c,if_pos (by omega)]
theorem Ps {α β:Type}{R:α->β->Prop}{l:List α}{m:List β}(h:aW R l m):∀(i:Nat),aW R (l.eraseIdx i) (m.eraseIdx i):=by
 induction h with
 | nil=>intro i; exact .nil
 | cons x t b =>
  intro i;cases i with
  | zero=>exact t
  | succ i=>exact .cons x (b i)
theorem V.Pt (i q off:Nat):V.shift i (.cW q off)=bif Nat.beq q i then .any else .cW (if i<q then q-1 else q) off:=by
 show (bif Nat.beq q i then V.any else bif Nat.blt i q then .cW (q-1) off else .cW q off)=_;cases c:Nat.blt i q
 ·rw [if_neg (fun h=>by rw [show Nat.blt i q=true by simpa [Nat.blt_eq] using h] at c; cases c)]; rfl
 ·rw [if_pos (by simpa [Nat.blt_eq] using c)]; rfl
theorem V.Pu (i:Nat) (g:Bool) (q off:Nat):V.shift i (.iI g q off)=bif Nat.beq q i then .any else .iI g (if i<q then q-1 else q) off:=by
 show (bif Nat.beq q i then V.any else bif Nat.blt i q then .iI g (q-1) off else .iI g q off)=_;cases c:Nat.blt i q
 ·rw [if_neg (fun h=>by rw [show Nat.blt i q=true by simpa [Nat.blt_eq] using h] at c; cases c)]; rfl
 ·rw [if_pos (by simpa [Nat.blt_eq] using c)]; rfl
theorem br.shift {j:J}{w:World}{jl:List Nat}{i:Nat}{v:V}{cv:Value}(h:br j w jl v cv):br j w (jl.eraseIdx i) (v.shift i) cv:=by
 cases v with
 | cW q off =>
  rw [V.Pt];cases c1:Nat.beq q i
  ·obtain⟨b,f,e⟩:=h;exact⟨b,by rw [get_erase (Nat.ne_of_beq_eq_false c1)]; exact f,e⟩
  ·exact True.intro
 | iI c q off =>
  rw [V.Pu];cases c1:Nat.beq q i
  ·refine⟨fun hc=>?_,h.2⟩;obtain⟨b,f,e⟩:=h.1 hc;exact⟨b,by rw [get_erase (Nat.ne_of_beq_eq_false c1)]; exact f,e⟩
  ·exact True.intro
 | any=>exact True.intro
 | a x=>exact h
 | cL xs=>exact h
 | gd c x=>exact h
 | full k rows=>exact h
 | rV c k rows=>exact h
theorem cC.DH {f_:eT}{n:Nat}{ts:Ts}{ls:List (List D)}{h:af}{xs:List D}(s i:Nat) (y:get ts s=.cW i 0) (hx:ls[i]?=some xs) :
  cC ⟨n,ts,ls,h⟩ ⟨n,(s,.a (.d (.view xs)))::uJ i ts,ls.eraseIdx i,h⟩:=by
 intro j w jl a m;have f:=m.hl;obtain⟨b,l,z⟩:∃b,jl[i]?=some b/\a.tmps.getD s undef=.pointer (some ⟨b,0,none⟩):=by
  have:=m.tmps s;have this:br j w jl (get ts s) (a.tmps.getD s undef):=this;rw [y] at this; exact this
 obtain⟨xs',q,cs,N,u,B,C⟩:∃xs',ls[i]?=some xs'/\jW j w b xs':=f.2.each.get' l;rw [hx] at q; simp only [Option.some.injEq] at q; subst q;have bn:=jJ u;have E:b∉jl.eraseIdx i:=by
  intro hm;obtain⟨k,G,p⟩:=List.getElem_of_mem hm;have h0:(jl.eraseIdx i)[k]?=some b:=by rw [List.getElem?_eq_getElem G,p]
  rw [List.getElem?_eraseIdx] at h0;have hi:i<jl.length:=(List.getElem?_eq_some_iff.1 l).1;by_cases c:k<i
  ·rw [if_pos c] at h0;have r:=(List.getElem?_inj (by omega) f.2.nodup).1 (h0.trans l.symm);omega
  ·rw [if_neg c] at h0;have hk:k+1<jl.length:=(List.getElem?_eq_some_iff.1 h0).1;have r:=(List.getElem?_inj hk f.2.nodup).1 (h0.trans l.symm);omega
 have v:∀x,x∈jl.eraseIdx i->x∈jl:=fun x hm=>List.mem_of_mem_eraseIdx hm;have H:∀x,aV j h (jl.eraseIdx i) x->aV j h jl x:=fun x g=>g.elim (fun hm=>.inl (v x hm)) .inr;have I:¬aV j h (jl.eraseIdx i) b:=by
  rintro (hm|⟨id,o,h1,r⟩)
  ·exact E hm
  ·exact f.2.apart b (List.mem_of_getElem? l) (.inr ⟨id,o,h1,r⟩)
 have K:HL j w (jl.eraseIdx i) (ls.eraseIdx i) h:=⟨f.1,⟨Ps f.2.each i,f.2.nodup.eraseIdx i,fun x hm g=>f.2.apart x (v x hm) g⟩⟩;have hle:Le j w (j.eC b xs.length) w:=⟨Nat.le_refl _,fun _ _=>rfl,fun b'=>by
  simp only [J.eC]
  split
  ·rename_i e; rw [e,C]; exact Nat.zero_le _
  ·exact Nat.le_refl _,fun _ _ _=>rfl,fun _ _=>.inl rfl,fun _ _ _ _ _ h=>h⟩
 have t:∀b',b'≠b->(j.eC b xs.length).F b'=j.F b':=fun b' L=>by simp only [J.eC]; rw [if_neg L]
 have p:=K.keep hle (fun b' g=>⟨rfl,t b' (fun e=>I (e▸g))⟩) (fun _ _ _=>rfl) (fun b' M=>by rw [t b' (by omega)]; exact f.1.fresh b' M);refine⟨j.eC b xs.length,jl.eraseIdx i,⟨m.defers,m.size,fun k=>?_,p.1⟩, ?_⟩
 ·by_cases e:s=k
  ·subst e;show br _ _ _ (get ((s,_)::uJ i ts) s) _;rw [ga,z];exact Dy (n:=0) u (B.imp fun _ _ h=>h.mono hle) (by simp [J.eC])
  ·show br _ _ _ (get ((s,_)::uJ i ts) k) _;rw [ir _ _ e,HT];have hv:br j w jl (get ts k) (a.tmps.getD k undef):=m.tmps k;exact(hv.shift (i:=i)).mono hle (Ext.refl _)
 ·refine { toLe:=hle,size:=Nat.le_refl _,frame:=fun b' _ g=>⟨rfl,t b' fun e=>g (.inl (e▸List.mem_of_getElem? l))⟩,own:=fun b' _ g=>H b' ((p.2 b').1 g),os:=rfl,tape:=rfl,output:=fZ.rfl }
theorem ag.DH {f_:eT}{P:Program}{c:Code}{Q:Exit->St->Prop}{n:Nat}{ts:Ts}{ls:List (List D)}{h:af}{xs:List D}(s i:Nat) (b:get ts s=.cW i 0) (hx:ls[i]?=some xs)
  (hw:ag P c Q ⟨n,(s,.a (.d (.view xs)))::uJ i ts,ls.eraseIdx i,h⟩):ag P c Q ⟨n,ts,ls,h⟩:=ag.uA (cC.DH s i b hx) hw
theorem ag.Pv {f_:eT}{P:Program}{Q:Exit->St->Prop}{n:Nat}{jK ts:Ts}{ls:List (List D)}{h:af}{α:Type}{x y:Code}(_:fN jK ts) (over:α->Ts) (lo:α->List (List D)) (hh:α->af) (pre:α->Prop)
  (hx:∀K:St->Prop,(∀b y,cC b ⟨n,over y++ts,lo y,hh y⟩->pre y->K b)->(∀b,ag P y Q b->K b)->ag P x (mq K Q) ⟨n,jK,ls,h⟩) (f:∀z,pre z->ag P y Q ⟨n,over z++ts,lo z,hh z⟩):ag P (.seq x y) Q ⟨n,jK,ls,h⟩:=by
 exact ag.seq (hx (ag P y Q) (fun b z h1 g=>ag.uA h1 (f z g)) fun b h=>h)
end Go.Ab
namespace Go.Ab
variable {au:bS}
theorem qt.mono {P:Go.Program}{f:Go.FuncId}{args:List A}{h:af}{cZ b:V->af->Prop}(hc:qt P f args h cZ) (g:∀r h',cZ r h'->b r h'):qt P f args h b :=
 ⟨hc.enter,fun j w dc hr k u=>(hc.runs j w dc hr k u).mono fun _ _ _ ⟨l,r,cv,j',h',e,p,rest⟩=>⟨l,r,cv,j',h',e,g r h' p,rest⟩⟩
theorem gA.j7 {P:Go.Program}{M:St->Prop}{c Y:Go.Code}{n:Nat}{ts:Ts}{ls:List (List D)}{h h':af}(e:h=h') (hw:gA P c Y M ⟨n,ts,ls,h'⟩):gA P c Y M ⟨n,ts,ls,h⟩:=by subst e; exact hw
end Go.Ab
/-
 Arrays that are built at once and then only read.
-/
namespace Go.Ab
open Go Go.RowKit
variable {au:bS}
def DI (n k:Nat) (e:TypeId):List (Nat×TypeId):=(List.range n).map fun i=>(i*k,e)
section
variable {P:Program}{T:List TI}{ts:Ts}{ls:List (List D)}{h:af}{dst:Option Tmp}{ty:TypeId}{pos:String}{aI:Array Edge}{g:Option (Nat×Bool)}
theorem an.Pw (fc:nI P T){t e:TypeId}{n:Nat}{f b:TI}{k l:List D}{parts:Array (Nat×Operand)}{ps:List (Nat×A)}(hu:P.underlying t=some (.array n e)) (y:T[t]?=some f) (s:T[e]?=some b) (hz:f.zero=some (.agg k))
  (z:sg ts parts.toList=some ps) (B:vX T (DI n b.size e) k ps=some l):an P (mk dst (.build t parts) ty pos aI g) ts ls h {} (.a (.agg l)) ls h :=
 an.dR fun j w jl a C=>by
  have hr:=AU (j:=j) (w:=w) (jl:=jl) (act:=a) parts.toList ps z fun x hx=>C x (by simp [Op.operands] at hx ⊢; exact hx);have E:=fc t f y;obtain⟨inf,d,h1,_,_,_,_,u⟩:=gh E;rw [hz] at u;obtain⟨zv,F,G⟩:=nH u;obtain⟨m,H,I⟩:=Dv (j:=j) (w:=w) (T:=T) (fs:=DI n b.size e) (place:=fun i=>some (i*b.size,b.size)) (fun i o K L hi v=>by
   unfold DI at hi;rw [List.getElem?_map] at hi;cases r:(List.range n)[i]? with
   | none=>rw [r] at hi; cases hi
   | some q =>
    rw [r] at hi;simp only [Option.map_some,Option.some.injEq,Prod.mk.injEq] at hi;obtain⟨rfl,rfl⟩:=hi;rw [s] at v; cases v;have:=(List.getElem?_eq_some_iff.1 r).2;rw [List.getElem_range] at this;rw [this]) ps _ k l zv.cells B hr (G j w).cells
  refine⟨.agg m, ?_,⟨m.toList,by simp,I⟩⟩;have J:(Instr.build t (parts.map fun(i,x)=>(i,a.eval x))).run P w=.ok (.agg m) w:=by
   simp only [Instr.build,Sem.run_bind,zeroValue,typeInfo,run_program,h1,F,Result.andThen,Sem.run_pure,eU hu,kE (fc e b s)];have e:(Array.map (fun(x:Nat×Operand)=>(x.1,a.eval x.2)) parts).toList=parts.toList.map fun p=>(p.1,a.eval p.2):=by simp
   rw [e,H];simp
  simp only [execOp,Sem.run_bind,J,Result.andThen,Sem.run_pure]
end
end Go.Ab
/-
 Ranging over a set of strings: the map as it is,the iterator,its steps,delete.
-/
namespace Go.Ab
open Go Go.RowKit
variable {au:bS}{f_:eT}
def mE (p:List (List UInt8×Nat)):List MapEntry:=p.map fun x=>⟨.string ⟨x.1.toArray⟩,.bool true,x.2⟩
structure qu (l:List (List UInt8)) (p:List (List UInt8×Nat)) (bD:Nat):Prop where
 keys:p.map (·.1)=l
 nodup:(p.map (·.2)).Nodup
 A8:l.Nodup
 lt:∀x∈p,x.2<bD
 len:∀s∈l,s.length<=fu
theorem HU {p:List (List UInt8×Nat)}(h:((mE p).map (·.key)).Nodup):(p.map (·.1)).Nodup:=by
 have:(mE p).map (·.key)=(p.map (·.1)).map fun s=>Value.string ⟨s.toArray⟩:=by simp [mE,Function.comp_def]
 rw [this] at h;rw [List.nodup_iff_pairwise_ne,List.pairwise_map] at h;rw [List.nodup_iff_pairwise_ne];exact h.imp fun b e=>b (by rw [e])
theorem nodup_keys {p:List (List UInt8×Nat)}(h:(p.map (·.1)).Nodup):((mE p).map (·.key)).Nodup:=by
 have:(mE p).map (·.key)=(p.map (·.1)).map fun s=>Value.string ⟨s.toArray⟩:=by simp [mE,Function.comp_def]
 rw [this];rw [List.nodup_iff_pairwise_ne] at h ⊢;rw [List.pairwise_map];exact h.imp fun b e=>b (by
  have e:=Value.string.inj e
  simpa using e)
theorem DJ {j:J}{w:World}:∀{l:List (List UInt8)}{f:List MapEntry},aW (lH j w) (bR l) f->∃p,f=mE p/\p.map (·.1)=l/\∀s∈l,s.length<=fu
 | [],f,h=>by cases h; exact⟨[],rfl,rfl,fun _ h=>by cases h⟩
 | s::l,f,h=>by
  cases h with
  | @cons _ m _ f h t =>
   obtain⟨p,g,q,r⟩:=DJ (l:=l) t;obtain⟨k,v,b⟩:=m;obtain⟨hk,hv⟩:=h;have hk:aD j w (.str s) k:=hk;have hv:aD j w (.bool true) v:=hv;cases hk with
   | str _ u =>
    cases hv;exact⟨(s,b)::p,by rw [g]; rfl,by simp [q],fun x hx=>(List.mem_cons.1 hx).elim (fun e=>e▸u) (r x)⟩
theorem DK {j:J}{w:World}:∀(p:List (List UInt8×Nat)),(∀x∈p,x.1.length<=fu)->aW (lH j w) (bR (p.map (·.1))) (mE p)
 | [],_=>.nil
 | x::p,h=>.cons ⟨aD.str _ (h x (.head _)),aD.bool _⟩ (DK p fun y b=>h y (.tail _ b))
theorem aV.uK {j:J}{h:af}{c:Nat}{o o':Obj}(hc:h c=some o) (g:bH j c o'=bH j c o){jl:List Nat}{b:Nat}:aV j (h.set c (some o')) jl b↔aV j h jl b:=by
 constructor
 ·rintro (h1|⟨id,q,h1,f⟩)
  ·exact .inl h1
  ·by_cases e:id=c
   ·subst e; rw [af.aT] at h1; simp only [Option.some.injEq] at h1; subst h1;exact .inr ⟨id,_,hc,g▸f⟩
   ·rw [af.aQ _ _ e] at h1; exact .inr ⟨id,q,h1,f⟩
 ·rintro (h1|⟨id,q,h1,f⟩)
  ·exact .inl h1
  ·by_cases e:id=c
   ·subst e; rw [hc] at h1; simp only [Option.some.injEq] at h1; subst h1;exact .inr ⟨id,_,af.aT _ _ _,g.symm▸f⟩
   ·exact .inr ⟨id,q,by rw [af.aQ _ _ e]; exact h1,f⟩
theorem fo.uK {j:J}{w:World}{h:af}{c:Nat}{o o':Obj}(hr:fo j w h) (hc:h c=some o) (g:bH j c o'=bH j c o) (k:iJ j w c o'):fo j w (h.set c (some o')):=by
 have key:∀id q,(h.set c (some o')) id=some q->∃f,h id=some f/\bH j id q=bH j id f:=by
  intro id q hq;by_cases e:id=c
  ·subst e; rw [af.aT] at hq; simp only [Option.some.injEq] at hq; subst hq;exact⟨_,hc,g⟩
  ·rw [af.aQ _ _ e] at hq; exact⟨q,hq,rfl⟩
 refine⟨fun id q hq=>?_,fun jv o1 jw o2 b h1 l m p=>?_,hr.fresh⟩
 ·by_cases e:id=c
  ·subst e; rw [af.aT] at hq; simp only [Option.some.injEq] at hq; subst hq;exact⟨(hr.obj _ _ hc).1,k⟩
  ·rw [af.aQ _ _ e] at hq; exact hr.obj _ _ hq
 ·obtain⟨v,r,s⟩:=key _ _ h1;obtain⟨y,t,u⟩:=key _ _ l;exact hr.inj _ _ _ _ b r t (s▸m) (u▸p)
section
variable {P:Program}{c:Code}{Q:Exit->St->Prop}{n:Nat}{ts:Ts}{ls:List (List D)}{h:af}
theorem ag.Px (id:Nat){l:List (List UInt8)}(hi:h id=some (.map (bR l))) (hw:∀b p bD,qu l p bD->ag P c Q ⟨n,ts,ls,h.set id (some (.dW b (.map (mE p).toArray bD)))⟩):ag P c Q ⟨n,ts,ls,h⟩:=by
 intro j w jl a f;have hl:=f.hl;obtain⟨hn,b,m,v,bD,bu,hg,q,r,hB⟩:=hl.1.obj id _ hi;obtain⟨p,rfl,k,s⟩:=DJ q;have t:qu l p bD:=⟨k,by have:=hB.1; simpa [mE,Function.comp_def] using this,by rw [<- k]; exact HU hB.2.2,fun x hx=>hB.2.1 _ (List.mem_map_of_mem hx),s⟩;have hblk:bH j id (.dW b (.map (mE p).toArray bD))=bH j id (.map (bR l)):=by simp [bH,bu]
 refine wp_mono (hw b p bD t j w jl a ⟨f.defers,f.size,f.tmps,⟨hl.1.uK hi hblk ⟨m,bu,hg,r⟩,⟨hl.2.each,hl.2.nodup,fun b u g=>hl.2.apart b u ((aV.uK hi hblk).1 g)⟩⟩⟩) fun e a w hq=>AQ.trans ?_ hq;exact { bN.refl j _ (aV j h jl) with own:=fun b _ g=>(aV.uK hi hblk).1 g }
theorem ag.Py (id:Nat){b bD:Nat}{p:List (List UInt8×Nat)}(hi:h id=some (.dW b (.map (mE p).toArray bD))) (f:qu (p.map (·.1)) p bD) (hw:ag P c Q ⟨n,ts,ls,h.set id (some (.map (bR (p.map (·.1)))))⟩):ag P c Q ⟨n,ts,ls,h⟩:=by
 intro j w jl a g;have hl:=g.hl;obtain⟨hn,l,bu,hg,q⟩:=hl.1.obj id _ hi;have hblk:bH j id (.map (bR (p.map (·.1))))=bH j id (.dW b (.map (mE p).toArray bD)):=by simp [bH,bu]
 have hB:nE (mE p) bD:=⟨by have:=f.nodup; simpa [mE,Function.comp_def] using this,(fun m hm=>by obtain⟨x,hx,rfl⟩:=List.mem_map.1 hm; exact f.lt x hx),nodup_keys f.A8⟩;refine wp_mono (hw j w jl a ⟨g.defers,g.size,g.tmps,⟨hl.1.uK hi hblk ⟨b,l,_,bD,bu,hg,DK p (fun x hx=>f.len _ (List.mem_map_of_mem hx)),q,hB⟩,⟨hl.2.each,hl.2.nodup,fun b r k=>hl.2.apart b r ((aV.uK hi hblk).1 k)⟩⟩⟩) fun e a w hq=>AQ.trans ?_ hq
 exact { bN.refl j _ (aV j h jl) with own:=fun b _ k=>(aV.uK hi hblk).1 k }
end
theorem HL.Pz {j:J}{w:World}{jl:List Nat}{ls:List (List D)}{h:af}(hl:HL j w jl ls h){t k:Nat}(ht:h t=some (.tok k 0)) (go:Go.Obj) :
  HL (j.cG t ⟨some (w.heap.size,0),1⟩ w.heap.size 0) (w.alloc go) jl ls (h.set t (some (.dW w.heap.size go))) /\
   bN j w (aV j h jl) (j.cG t ⟨some (w.heap.size,0),1⟩ w.heap.size 0) (w.alloc go) (aV (j.cG t ⟨some (w.heap.size,0),1⟩ w.heap.size 0) (h.set t (some (.dW w.heap.size go))) jl) /\
   br (j.cG t ⟨some (w.heap.size,0),1⟩ w.heap.size 0) (w.alloc go) jl (.a (.d (.iq t 1 0))) (.pointer (some ⟨w.heap.size,0,none⟩)):=by
 obtain⟨G,dI,M,hblk,_⟩:=hl.1.obj t _ ht;have H:j.F w.heap.size=0:=hl.1.fresh _ (Nat.le_refl _);have l:∀x,x<w.heap.size->(w.alloc go).heap[x]?=w.heap[x]?:=fun x hx=>rW hx;generalize m:j.cG t ⟨some (w.heap.size,0),1⟩ w.heap.size 0=j';have f:∀x,j'.F x=j.F x:=fun x=>by
  subst m; simp only [J.cG]; split
  ·rename_i c; rw [c,H]
  ·rfl
 have B:j'.next=j.next:=by subst m; rfl
 have bu:j'.tok t=some ⟨some (w.heap.size,0),1⟩:=by subst m; simp [J.cG]
 have I:∀x,x≠t->j'.tok x=j.tok x:=fun x hx=>by subst m; simp [J.cG,hx]
 have hle:Le j w j' (w.alloc go):=by
  refine⟨by rw [B]; exact Nat.le_refl _,fun _ _=>by subst m; rfl,fun x=>by rw [f]; exact Nat.le_refl _,fun x o p=>?_,fun x hx=>?_,AD hl.1.fresh fun x hx _=>l x hx⟩
  ·refine vM (l x ?_);rcases Nat.lt_or_ge x w.heap.size with h1|h1
   ·exact h1
   ·rw [hl.1.fresh x h1] at p; omega
  ·by_cases c:x=t
   ·subst c; exact .inr ⟨_,_,M,bu,Nat.zero_lt_one⟩
   ·exact .inl (I x c)
 have C:∀n q x,h n=some q->bH j n q=some x->x<w.heap.size:=fun n q x hn hx=>aV.lt hl (.inr ⟨n,q,hn,hx⟩);have K:∀x,x∈jl->x<w.heap.size:=fun x hx=>aV.lt hl (.inl hx);have g:∀n q,h n=some q->n≠t->iJ j' (w.alloc go) n q/\bH j' n q=bH j n q:=fun n q hn N =>
  (hl.1.obj n q hn).2.keep hle (hl.1.obj n q hn).1 (fun x hx=>⟨l x (C n q x hn hx),f x⟩) (fun _=>I n N)
 have E:bH j' t (.dW w.heap.size go)=some w.heap.size:=rfl;have L:∀jl x,aV j' (h.set t (some (.dW w.heap.size go))) jl x->x=w.heap.size\/aV j h jl x:=by
  rintro jl x (hx|⟨n,q,hn,hx⟩)
  ·exact .inr (.inl hx)
  ·by_cases c:n=t
   ·subst c; rw [af.aT] at hn; simp only [Option.some.injEq] at hn; subst hn;rw [E] at hx; simp only [Option.some.injEq] at hx; exact .inl hx.symm
   ·rw [af.aQ h _ c] at hn;exact .inr (.inr ⟨n,q,hn,(g n q hn c).2▸hx⟩)
 refine⟨⟨⟨fun n q hn=>?_,fun r u s v x h1 b y z=>?_,fun x hx=>?_⟩,
  ⟨qh hl.2.each fun xs x hx h=>h.keep hle ⟨l x (K x hx),f x⟩,hl.2.nodup,fun x hx p=>?_⟩⟩, ?_, ?_⟩
 ·rw [B];by_cases c:n=t
  ·subst c; rw [af.aT] at hn; simp only [Option.some.injEq] at hn; subst hn;exact⟨G,0,bu,heap_alloc_new w _,by rw [f]; exact H⟩
  ·rw [af.aQ h _ c] at hn;exact⟨(hl.1.obj n q hn).1,(g n q hn c).1⟩
 ·by_cases c1:r=t<;>by_cases c2:s=t
  ·omega
  ·subst c1; rw [af.aT] at h1; simp only [Option.some.injEq] at h1; subst h1;rw [af.aQ h _ c2] at b;rw [E] at y; simp only [Option.some.injEq] at y;have:=C s v x b ((g s v b c2).2▸z); omega
  ·subst c2; rw [af.aT] at b; simp only [Option.some.injEq] at b; subst b;rw [af.aQ h _ c1] at h1;rw [E] at z; simp only [Option.some.injEq] at z;have:=C r u x h1 ((g r u h1 c1).2▸y); omega
  ·rw [af.aQ h _ c1] at h1; rw [af.aQ h _ c2] at b;exact hl.1.inj r u s v x h1 b ((g r u h1 c1).2▸y) ((g s v b c2).2▸z)
 ·rw [f];simp only [World.size_alloc] at hx;exact hl.1.fresh x (by omega)
 ·rcases L [] x p with c|c
  ·have:=K x hx; omega
  ·exact hl.2.apart x hx c
 ·refine { toLe:=hle,size:=(by simp),frame:=fun x hx hn=>⟨l x hx,f x⟩,own:=fun x hx p=>?_,os:=rfl,tape:=rfl,output:=fZ.rfl };rcases L jl x p with c|c
  ·omega
  ·exact c
 ·show aD j' (w.alloc go) (.iq t 1 0) (.pointer (some ⟨w.heap.size,0,none⟩));refine .iq t 1 0 w.heap.size (by rw [B]; exact G) fun tk hk=>?_;rw [bu] at hk;obtain rfl:=Option.some.inj hk;exact⟨Nat.le_refl _,fun _=>⟨0,rfl⟩⟩
theorem HV {j:J}{w:World}{jl:List Nat}{id b:Nat}{o:Go.Obj}{cv:Value}(g:iJ j w id (.dW b o)) (h:br j w jl (.a (.d (.map id))) cv):cv=.map (some b)/\w.heap[b]?=some o/\j.F b=0:=by
 have h':aD j w (.map id) cv:=h;obtain⟨c,h1,k,l⟩:=g;cases h' with
 | map _ b' hi hv =>
  obtain⟨_,m⟩:=hv _ h1;obtain⟨c',f⟩:=m rfl;simp only [Option.some.injEq,Prod.mk.injEq] at f;obtain⟨rfl,rfl⟩:=f;exact⟨rfl,k,l⟩
theorem HW {j:J}{w:World}{jl:List Nat}{id b:Nat}{o:Go.Obj}{cv:Value}(g:iJ j w id (.dW b o)) (h:br j w jl (.a (.d (.iq id 1 0))) cv):cv=.pointer (some ⟨b,0,none⟩)/\w.heap[b]?=some o/\j.F b=0:=by
 have h':aD j w (.iq id 1 0) cv:=h;obtain⟨c,h1,k,l⟩:=g;cases h' with
 | iq _ _ _ b' hi hv =>
  obtain⟨_,m⟩:=hv _ h1;obtain⟨c',f⟩:=m rfl;simp only [Option.some.injEq,Prod.mk.injEq] at f;obtain⟨rfl,rfl⟩:=f;exact⟨rfl,k,l⟩
section
variable {P:Program}{ts:Ts}{ls:List (List D)}{h:af}{dst:Option Tmp}{ty:TypeId}{pos:String}{aI:Array Edge}{g:Option (Nat×Bool)}
theorem dm.PA {t f l:TypeId}{m:TI}{x:Operand}{id b bD:Nat}{es:Array MapEntry}(p:aY P t=some m) (hk:m.k=.map f l) (hx:ev ts x=.a (.d (.map id))) (hm:h id=some (.dW b (.map es bD))) :
  dm P (mk dst (.range t x) ty pos aI g) ts ls h fun v aS h'=>∃it r,h it=none/\v=.a (.d (.iq it 1 0))/\aS=ls/\h'=h.set it (some (.dW r (.mapIter (some b) bD #[] bD))):=by
 intro j w jl a hl q K Q s;have h1:=q x (by simp [Op.operands]);rw [hx] at h1;obtain⟨e,hg,_⟩:=HV (hl.1.obj id _ hm).2 h1;have hr:(execOp a.eval (mk dst (.range t x) ty pos aI g)).run P w=.ok (.value (.pointer (some ⟨w.heap.size,0,none⟩))) (w.alloc (.mapIter (some b) bD #[] bD)):=by
  simp [execOp,e,run_range_map w t f l b es bD (uG p hk) hg,Result.andThen]
 obtain⟨h1,u⟩:=hl.dX 0;obtain⟨y,z,B⟩:=h1.Pz (af.aT _ _ _) (.mapIter (some b) bD #[] bD);unfold Oper.wp;rw [hr,Oper.upon_value];exact s _ _ _ _ _ _ jl ⟨j.next,w.heap.size,hl.1.mm (Nat.le_refl _),rfl,rfl,(af.set_set _ _ _ _)⟩ B y (Ext.refl _) (u.trans z)
def dO (p:List (List UInt8×Nat)) (seen:Array Nat):List (List UInt8×Nat):=p.filter fun x=>!seen.contains x.2
theorem HX (p:List (List UInt8×Nat)) (seen:Array Nat):(mE p).toArray.filter (fun e=>!seen.contains e.born)=(mE (dO p seen)).toArray:=by
 apply Array.toList_inj.1
 simp [mE,dO,List.filter_map,Function.comp_def]
theorem dm.PB {it id b r bD:Nat}{x:Operand}{p:List (List UInt8×Nat)}{seen:Array Nat}(hx:ev ts x=.a (.d (.iq it 1 0))) (hit:h it=some (.dW r (.mapIter (some b) bD seen bD))) (hm:h id=some (.dW b (.map (mE p).toArray bD))) (bn:∀x∈p,x.2<bD) (hlen:∀x∈p,x.1.length<=fu) :
  dm P (mk dst (.next x false) ty pos aI g) ts ls h fun v aS h'=>aS=ls/\((dO p seen=[]/\v=.cL [.d (.bool false)]/\h'=h) \/
   ∃s n,(s,n)∈dO p seen/\v=.cL [.d (.bool true),.d (.str s),.d (.bool true)]/\h'=h.set it (some (.dW r (.mapIter (some b) bD (seen.push n) bD)))):=by
 intro j w jl a hl L K Q t;have h1:=L x (by simp [Op.operands]);rw [hx] at h1;obtain⟨e,hg,u⟩:=HW (hl.1.obj it _ hit).2 h1;have B:w.heap[b]?=some (.map (mE p).toArray bD):=by obtain⟨_,_,_,M,_⟩:=hl.1.obj id _ hm; exact M
 have hold:∀x∈(mE p).toArray.toList,x.born<bD:=fun y f=>by
  have f:y∈mE p:=by simpa using f
  obtain⟨z,hz,rfl⟩:=List.mem_map.1 f;exact bn z hz
 have l:∀y∈dO p seen,y∈p:=fun y f=>(List.mem_filter.1 f).1;have C:(mE (dO p seen)).toArray.filter (fun x=>decide (x.born<bD))=(mE (dO p seen)).toArray:=Array.filter_eq_self.2 (fun y f=>by
  have f:y∈mE (dO p seen):=by simpa using f
  obtain⟨z,hz,rfl⟩:=List.mem_map.1 f
  simpa using bn z (l z hz))
 have E:(mE (dO p seen)).toArray.filter (fun x=>decide (x.born>=bD))=#[]:=by
  rw [Array.filter_eq_empty_iff];intro y f;have f:y∈mE (dO p seen):=by simpa using f
  obtain⟨z,hz,rfl⟩:=List.mem_map.1 f;have:=bn z (l z hz);simp;omega
 by_cases h0:dO p seen=[]
 ·have hr:(execOp a.eval (mk dst (.next x false) ty pos aI g)).run P w=.ok (.value (.tuple #[.bool false])) w:=by
   simp only [execOp,e,Instr.next,getObj,Sem.run_bind,Sem.run,hg,B,Result.andThen,next_test_false seen _ bD bD hold (Nat.le_refl _),Bool.false_eq_true,if_false,HX,C,E,Array.append_empty,h0];simp [mE,choose,Sem.run,Question.forced,Result.andThen]
  unfold Oper.wp;rw [hr,Oper.upon_value];exact t _ _ _ _ _ _ jl ⟨rfl,.inl ⟨h0,rfl,rfl⟩⟩ ⟨[.bool false],rfl,.cons (aD.bool _) .nil⟩ hl (Ext.refl _) (bN.refl _ _ _)
 ·obtain⟨i,k,hi,F,N⟩:∃(i:Nat) (k:World),i<(dO p seen).length/\(k=w\/k=w.drew)/\(choose (Question.mapNext (dO p seen).length)).run P w=.ok i k:=by
   by_cases G:(dO p seen).length<=1
   ·exact⟨0,w,by have:=List.length_pos_iff.2 h0; omega,.inl rfl,by simp [choose,Sem.run,Question.forced,G]⟩
   ·exact⟨_,w.drew,Nat.mod_lt _ (by omega),.inr rfl,by
     simp only [choose,Sem.run,Question.forced,decide_eq_true_eq,G,if_false,Question.cut];rfl⟩
  have m:HL j k jl ls h/\bN j w (aV j h jl) j k (aV j h jl):=by
   rcases F with rfl|rfl
   ·exact⟨hl,bN.refl _ _ _⟩
   ·exact⟨hl.drew,bN.drew _ _ _⟩
  have H:k.heap[r]?=some (.mapIter (some b) bD seen bD):=by rcases F with rfl|rfl<;>exact hg
  have hr:(execOp a.eval (mk dst (.next x false) ty pos aI g)).run P w=.ok (.value (.tuple #[.bool true,.string ⟨(dO p seen)[i].1.toArray⟩,.bool true])) { k with heap:=k.heap.setIfInBounds r (.mapIter (some b) bD (seen.push (dO p seen)[i].2) bD) }:=by
   have O:(mE (dO p seen)).toArray.isEmpty=false:=by
    cases hq:dO p seen with
    | nil=>exact absurd hq h0
    | cons y q=>rfl
   have R:((#[]:Array (Option MapEntry))++Array.map some (mE (dO p seen)).toArray).size=(dO p seen).length:=by simp [mE]
   simp only [execOp,e,Instr.next,getObj,Sem.run_bind,Sem.run,hg,B,Result.andThen,next_test_false seen _ bD bD hold (Nat.le_refl _),Bool.false_eq_true,if_false,HX,C,E,Array.append_empty,O,R,N];simp [mE,hi,setObj,Sem.run,H,Result.andThen]
  have I:((dO p seen)[i].1,(dO p seen)[i].2)∈dO p seen:=List.getElem_mem hi;have J:=gM.setObj (au:=au) (o':=.mapIter (some b) bD (seen.push (dO p seen)[i].2) bD) H;obtain⟨hn,c,bu,_,_⟩:=m.1.1.obj it _ hit;obtain⟨S,U⟩:=m.1.setObj (o':=.dW r (.mapIter (some b) bD (seen.push (dO p seen)[i].2) bD)) hit rfl rfl u J ⟨c,bu,J.here,u⟩;unfold Oper.wp;rw [hr,Oper.upon_value]
  exact t _ _ _ _ _ _ jl ⟨rfl,.inr ⟨_,_,I,rfl,rfl⟩⟩ ⟨[.bool true,_,.bool true],rfl,.cons (aD.bool _) (.cons (aD.str _ (hlen _ (l _ I))) (.cons (aD.bool _) .nil))⟩ S (Ext.refl _) (m.2.trans U)
end
def iv (p:List (List UInt8×Nat)) (s:List UInt8):List (List UInt8×Nat):=p.eraseP fun x=>s==x.1
theorem yP (s:List UInt8):∀p:List (List UInt8×Nat),(iv p s).map (·.1)=(p.map (·.1)).erase s
 | []=>rfl
 | x::p=>by
  unfold iv;rw [List.eraseP_cons,List.map_cons,List.erase_cons];rw [show (x.1==s)=(s==x.1) from Bool.beq_comm];cases s==x.1
  ·exact congrArg (x.1::·) (yP s p)
  ·rfl
theorem DL (p:List (List UInt8×Nat)) (s:List UInt8):(iv p s).Sublist p:=List.eraseP_sublist
theorem qu.del {l:List (List UInt8)}{p:List (List UInt8×Nat)}{bD:Nat}(h:qu l p bD) (s:List UInt8):qu (l.erase s) (iv p s) bD :=
 ⟨by rw [yP,h.keys],h.nodup.sublist ((DL p s).map _),h.A8.erase s,fun x hx=>h.lt x ((DL p s).subset hx),fun x hx=>h.len x (List.erase_subset hx)⟩
theorem HY {d:TypeDesc}{s:List UInt8}(b:jx (gb d) (.str s)=true) (f:s.length<=fu):∀(p:List (List UInt8×Nat)) (n:Nat),(∀x∈p,x.1.length<=fu) ->
  (Instr.findNow d (.string ⟨s.toArray⟩) (mE p) n=some none/\iv p s=p)\/∃i,Instr.findNow d (.string ⟨s.toArray⟩) (mE p) n=some (some (n+i,.bool true))/\i<p.length/\iv p s=p.eraseIdx i
 | [],n,_=>.inl ⟨rfl,rfl⟩
 | x::p,n,h=>by
  have hn:=yH (j:=⟨fun _=>0,fun _=>0,fun _=>none,0⟩) (w:=default) b (aD.str s f) (aD.str x.1 (h x (.head _))) rfl;unfold iv;rw [List.eraseP_cons];show (Instr.findNow d _ (⟨.string ⟨x.1.toArray⟩,.bool true,x.2⟩::mE p) n=_/\_)\/∃i,Instr.findNow d _ (⟨.string ⟨x.1.toArray⟩,.bool true,x.2⟩::mE p) n=_/\_;simp only [Instr.findNow,hn];cases s==x.1
  ·rcases HY b f p (n+1) (fun y k=>h y (.tail _ k)) with ⟨h1,g⟩|⟨i,h1,g,l⟩
   ·exact .inl ⟨h1,congrArg (x::·) g⟩
   ·exact .inr ⟨i+1,by rw [h1,show n+1+i=n+(i+1) by omega],by simp only [List.length_cons]; omega,congrArg (x::·) l⟩
  ·exact .inr ⟨0,rfl,by simp,rfl⟩
theorem HZ:∀(p:List (List UInt8×Nat)) (i:Nat),mE (p.eraseIdx i)=(mE p).eraseIdx i
 | [],_=>rfl
 | _::_,0=>rfl
 | x::p,i+1=>congrArg ((⟨.string ⟨x.1.toArray⟩,.bool true,x.2⟩:MapEntry)::·) (HZ p i)
theorem H6 {P:Program}{w:World}{b bD:Nat}{t f z ty:TypeId}{q r:TI}{cq:Array TypeId}{p:List (List UInt8×Nat)}{s:List UInt8}(u:aY P t=some q) (hk:q.k=.map f z) (B:aY P f=some r) (g:jx r.k (.str s)=true) (bQ:cq[0]?=some t)
  (hg:w.heap[b]?=some (.map (mE p).toArray bD)) (v:s.length<=fu) (C:∀x∈p,x.1.length<=fu) :
  (Builtin.delete_ cq ty #[.map (some b),.string ⟨s.toArray⟩]).run P w=.ok (.tuple #[]) { w with heap:=w.heap.setIfInBounds b (.map (mE (iv p s)).toArray bD) }:=by
 obtain⟨G,H,_,l,_,_,E,_⟩:=gh B;rw [<- E] at g;have y:∀e,(Instr.checkKey e 10000 f (.string ⟨s.toArray⟩)).run P w=.ok () w:=fun e=>yI (j:=⟨fun _=>0,fun _=>0,fun _=>none,0⟩) (w0:=default) l g (aD.str s v);rcases HY g v p 0 C with ⟨h1,m⟩|⟨i,h1,m,F⟩
 ·simp [Builtin.delete_,bQ,eU (uG u hk),v7 hg,y,Instr.findKey,eU l,h1,m,setObj,Sem.run,hg,Result.andThen]
 ·rw [Nat.zero_add] at h1;have hl:i<(mE p).length:=by simpa [mE] using m
  simp [Builtin.delete_,bQ,eU (uG u hk),v7 hg,y,Instr.findKey,eU l,h1,F,HZ,setObj,Sem.run,hg,Result.andThen,Array.eraseIdxIfInBounds,hl]
section
variable {P:Program}{ts:Ts}{ls:List (List D)}{h:af}{dst:Option Tmp}{ty:TypeId}{pos:String}{aI:Array Edge}{g:Option (Nat×Bool)}
theorem an.PC {t l z:TypeId}{m q:TI}{x y:Operand}{cq:Array TypeId}{id b bD:Nat}{p:List (List UInt8×Nat)}{s:List UInt8}(B:aY P t=some m) (hk:m.k=.map l z) (C:aY P l=some q) (E:jx q.k (.str s)=true) (bQ:cq[0]?=some t)
  (hx:ev ts x=.a (.d (.map id))) (F:ev ts y=.a (.d (.str s))) (hm:h id=some (.dW b (.map (mE p).toArray bD))) (G:∀x∈p,x.1.length<=fu) :
  an P (mk dst (.call { callee:=.builtin .delete,args:=#[x,y],argTypes:=cq }) ty pos aI g) ts ls h { rh:=true,wh:=true } (.cL []) ls (h.set id (some (.dW b (.map (mE (iv p s)).toArray bD)))):=by
 refine an.of_run fun L H _ hH j w jl a hl r=>?_;have I:=hH rfl;subst I;have h1:=r x (by simp [Op.operands,Call.operands]);have f:=r y (by simp [Op.operands,Call.operands]);rw [hx] at h1; rw [F] at f;obtain⟨e,hg,u⟩:=HV (hl.1.obj id _ hm).2 h1;obtain⟨hn,c,bu,_,_⟩:=hl.1.obj id _ hm;have f:aD j w (.str s) (a.eval y):=f;generalize hv:a.eval y=N at f;cases f with
 | str _ J =>
  have hr:=H6 (ty:=ty) B hk C E bQ hg J G;have v:=gM.setObj (au:=au) (o':=.map (mE (iv p s)).toArray bD) hg;obtain⟨K,M⟩:=hl.setObj (o':=.dW b (.map (mE (iv p s)).toArray bD)) hm rfl rfl u v ⟨c,bu,v.here,u⟩;exact⟨.value (.tuple #[]),_,_,j,jl,by simp [execOp,resolve,invoke,builtin,e,hv,hr,Result.andThen],.inl rfl,⟨[],rfl,.nil⟩,K,Ext.refl _,M⟩
theorem an.PD {t r F:TypeId}{u v:TI}{x y:Operand}{cq:Array TypeId}{id:Nat}{l:List (List UInt8)}{s:List UInt8}(G:aY P t=some u) (hk:u.k=.map r F) (I:aY P r=some v) (J:jx v.k (.str s)=true) (bQ:cq[0]?=some t)
  (hx:ev ts x=.a (.d (.map id))) (K:ev ts y=.a (.d (.str s))) (hm:h id=some (.map (bR l))) :
  an P (mk dst (.call { callee:=.builtin .delete,args:=#[x,y],argTypes:=cq }) ty pos aI g) ts ls h { rh:=true,wh:=true } (.cL []) ls (h.set id (some (.map (bR (l.erase s))))):=by
 refine an.of_run fun L H _ hH j w jl a hl z=>?_;have M:=hH rfl;subst M;have h1:=z x (by simp [Op.operands,Call.operands]);have f:=z y (by simp [Op.operands,Call.operands]);rw [hx] at h1; rw [K] at f;obtain⟨b,e,c,Y,bD,bu,hg,N,B,hB⟩:=AW (hl.1.obj id _ hm).2 h1;obtain⟨p,rfl,q,C⟩:=DJ N;have O:qu l p bD:=⟨q,by have:=hB.1; simpa [mE,Function.comp_def] using this,by rw [<- q]; exact HU hB.2.2,fun x hx=>hB.2.1 _ (List.mem_map_of_mem hx),C⟩
 have Q:∀x∈p,x.1.length<=fu:=fun x hx=>C _ (q▸List.mem_map_of_mem hx);have f:aD j w (.str s) (a.eval y):=f;generalize hv:a.eval y=Z at f;cases f with
 | str _ R =>
  have hr:=H6 (ty:=ty) G hk I J bQ hg R Q;have E:=gM.setObj (au:=au) (o':=.map (mE (iv p s)).toArray bD) hg;have hq:=O.del s;have S:aW (lH j { w with heap:=w.heap.setIfInBounds b (.map (mE (iv p s)).toArray bD) }) (bR (l.erase s)) (mE (iv p s)):=by
   rw [<- hq.keys]; exact DK _ fun x hx=>hq.len _ (hq.keys▸List.mem_map_of_mem hx)
  have U:nE (mE (iv p s)) bD:=⟨by have:=hq.nodup; simpa [mE,Function.comp_def] using this,(fun m hm=>by obtain⟨x,hx,rfl⟩:=List.mem_map.1 hm; exact hq.lt x hx),nodup_keys (by rw [hq.keys]; exact hq.A8)⟩;obtain⟨W,X⟩:=hl.setObj (o':=.map (bR (l.erase s))) hm (by simp [bH,bu]) (by simp [bH,bu]) B E ⟨b,c,_,bD,bu,E.here,S,B,U⟩;exact⟨.value (.tuple #[]),_,_,j,jl,by simp [execOp,resolve,invoke,builtin,e,hv,hr,Result.andThen],.inl rfl,⟨[],rfl,.nil⟩,W,Ext.refl _,X⟩
end
def wm (f:List UInt8->Option Bool):List (List UInt8)->Option (List (List UInt8))
 | []=>some []
 | s::l=>(f s).bind fun b=>(wm f l).bind fun r=>some (bif b then s::r else r)
theorem DM {f:List UInt8->Option Bool}:∀{l r:List (List UInt8)},wm f l=some r->(∀s∈l,∃b,f s=some b)/\r=l.filter fun s=>f s==some true
 | [],r,h=>by cases h; exact⟨(fun _ h=>by cases h),rfl⟩
 | s::l,r,h=>by
  obtain⟨b,h1,h⟩:=Option.bind_eq_some_iff.1 h;obtain⟨q,g,h⟩:=Option.bind_eq_some_iff.1 h;obtain⟨j,k⟩:=DM g;cases h;refine⟨fun x hx=>?_, ?_⟩
  ·rcases List.mem_cons.1 hx with rfl|hx
   ·exact⟨b,h1⟩
   ·exact j x hx
  ·rw [List.filter_cons,h1,<- k];cases b<;>rfl
theorem DN {α β:Type}{f:α->β}:∀{l:List α},(l.map f).Nodup->∀{x y:α},x∈l->y∈l->f x=f y->x=y
 | [],_,_,_,h,_,_=>by cases h
 | a::l,hn,x,y,hx,g,e=>by
  rw [List.map_cons,List.nodup_cons] at hn;rcases List.mem_cons.1 hx with rfl|j
  ·rcases List.mem_cons.1 g with rfl|b
   ·rfl
   ·exact absurd (List.mem_map.2 ⟨y,b,e.symm⟩) hn.1
  ·rcases List.mem_cons.1 g with rfl|b
   ·exact absurd (List.mem_map.2 ⟨x,j,e⟩) hn.1
   ·exact DN hn.2 j b e
structure gp (f:List UInt8->Option Bool) (r:List (List UInt8)) (bD:Nat) (z:List (List UInt8×Nat)×Array Nat):Prop where
 pop:qu (z.1.map (·.1)) z.1 bD
 told:∀x∈z.1,∃b,f x.1=some b
 seen:∀x∈z.1,z.2.contains x.2=true->f x.1=some true
 rest:(z.1.map (·.1)).filter (fun s=>f s==some true)=r
section
variable {f:List UInt8->Option Bool}{r:List (List UInt8)}{bD:Nat}{p:List (List UInt8×Nat)}{seen:Array Nat}{s:List UInt8}{n:Nat}
theorem gp.start {l:List (List UInt8)}(h:wm f l=some r) (b:qu l p bD):gp f r bD (p,#[]):=by
 obtain⟨h1,g⟩:=DM h;refine⟨by rw [b.keys]; exact b,fun x hx=>h1 _ (by rw [<- b.keys]; exact List.mem_map_of_mem hx),fun x _ hx=>by simp at hx,by rw [b.keys]; exact g.symm⟩
theorem yQ {x:List UInt8×Nat}(h:x∈dO p seen):x∈p/\seen.contains x.2=false:=by
 obtain⟨h1,b⟩:=List.mem_filter.1 h;exact⟨h1,by simpa using b⟩
theorem H7 (hx:(s,n)∈dO p seen):(dO p (seen.push n)).length<(dO p seen).length:=by
 have e:dO p (seen.push n)=(dO p seen).filter fun x=>!(x.2==n):=by
  unfold dO;rw [List.filter_filter];refine List.filter_congr fun x _=>?_;rw [show (seen.push n).contains x.2=(seen.contains x.2||x.2==n) by
   rw [Bool.eq_iff_iff];simp [Array.contains_eq_mem]]
  cases seen.contains x.2<;>simp
 rw [e];refine List.length_filter_lt_length_iff_exists.2 ⟨_,hx,by simp⟩
theorem contains_push {x:Nat}(h:(seen.push n).contains x=true):seen.contains x=true\/x=n:=by
 simpa [Array.contains_eq_mem] using h
theorem gp.keep (h:gp f r bD (p,seen)) (hx:(s,n)∈dO p seen) (g:f s=some true):gp f r bD (p,seen.push n)/\(dO p (seen.push n)).length<(dO p seen).length:=by
 obtain⟨hm,-⟩:=yQ hx;refine⟨⟨h.pop,h.told,fun x b hc=>?_,h.rest⟩,H7 hx⟩;rcases contains_push hc with hc|hc
 ·exact h.seen x b hc
 ·rw [DN h.pop.nodup b hm hc]; exact g
theorem gp.drop (h:gp f r bD (p,seen)) (hx:(s,n)∈dO p seen) (j:f s=some false):gp f r bD (iv p s,seen.push n)/\(dO (iv p s) (seen.push n)).length<(dO p seen).length:=by
 obtain⟨hm,-⟩:=yQ hx;have hu:(p.map (·.1)).Nodup:=h.pop.A8;have g:=DL p s;have k:=h.pop.del s;refine⟨⟨by rw [yP]; exact k,fun x b=>h.told x (g.subset b),fun x b hc=>?_, ?_⟩, ?_⟩
 ·rcases contains_push hc with hc|hc
  ·exact h.seen x (g.subset b) hc
  ·have e:=DN h.pop.nodup (g.subset b) hm hc;have h1:s∈(iv p s).map (·.1):=List.mem_map.2 ⟨x,b,by rw [e]⟩;rw [yP,hu.mem_erase_iff] at h1;exact absurd rfl h1.1
 ·show ((iv p s).map (·.1)).filter _=r;rw [yP,hu.erase_eq_filter,List.filter_filter,<- h.rest];refine List.filter_congr fun x _=>?_;by_cases e:x=s
  ·subst e; rw [j]; simp
  ·simp [e]
 ·exact Nat.lt_of_le_of_lt ((g.filter _).length_le) (H7 hx)
theorem gp.done (h:gp f r bD (p,seen)) (hx:dO p seen=[]):p.map (·.1)=r:=by
 have b:∀x∈p,f x.1=some true:=fun x hm=>h.seen x hm (by
  have:x∉dO p seen:=by rw [hx]; simp
  cases hc:seen.contains x.2
  ·exact absurd (List.mem_filter.2 ⟨hm,by rw [hc]; rfl⟩) this
  ·rfl)
 rw [<- h.rest];refine(List.filter_eq_self.2 fun s g=>?_).symm;obtain⟨x,hm,rfl⟩:=List.mem_map.1 g;rw [b x hm]; rfl
end
theorem find_born {s:List UInt8}{n:Nat}:∀{p:List (List UInt8×Nat)},(p.map (·.2)).Nodup->(s,n)∈p->(mE p).find? (fun e=>e.born==n)=some ⟨.string ⟨s.toArray⟩,.bool true,n⟩
 | [],_,h=>by cases h
 | x::p,hn,h=>by
  rw [List.map_cons,List.nodup_cons] at hn;show (⟨.string ⟨x.1.toArray⟩,.bool true,x.2⟩::mE p:List MapEntry).find? _=_;rw [List.find?_cons];rcases List.mem_cons.1 h with e|h
  ·subst e; simp
  ·have b:x.2≠n:=fun e=>hn.1 (List.mem_map.2 ⟨(s,n),h,e.symm⟩);rw [show ((⟨.string ⟨x.1.toArray⟩,.bool true,x.2⟩:MapEntry).born==n)=false by simpa using b];exact find_born hn.2 h
section
variable {P:Program}{ts:Ts}{ls:List (List D)}{h:af}{dst:Option Tmp}{ty:TypeId}{pos:String}{aI:Array Edge}{g:Option (Nat×Bool)}
theorem an.PE {it id b r bD n:Nat}{x:Operand}{p:List (List UInt8×Nat)}{seen:Array Nat}{s:List UInt8}(hx:ev ts x=.a (.d (.iq it 1 0))) (hit:h it=some (.dW r (.mapIter (some b) bD (seen.push n) bD))) (hm:h id=some (.dW b (.map (mE p).toArray bD))) (f:(s,n)∈p) (k:(p.map (·.2)).Nodup) (l:s.length<=fu) :
  an P (mk dst (.entry x) ty pos aI g) ts ls h { rh:=true } (.cL [.d (.str s),.d (.bool true)]) ls h :=
 o9.r_ ⟨rfl,rfl,fun L H _ hH j w jl a hl m=>by
  have h1:=m x (by simp [Op.operands]);rw [hx] at h1;rw [hH rfl] at hl;obtain⟨e,hg,_⟩:=HW (hl.1.obj it _ hit).2 h1;have q:w.heap[b]?=some (.map (mE p).toArray bD):=by obtain⟨_,_,_,t,_⟩:=hl.1.obj id _ hm; exact t
  have u:(mE p).toArray.find? (fun e=>e.born==n)=some ⟨.string ⟨s.toArray⟩,.bool true,n⟩:=by
   rw [List.find?_toArray]; exact find_born k f
  exact⟨.tuple #[.string ⟨s.toArray⟩,.bool true],by simp [execOp,e,Instr.entry,getObj,Sem.run_bind,Sem.run,hg,q,Result.andThen,u],[.string ⟨s.toArray⟩,.bool true],rfl,.cons (aD.str s l) (.cons (aD.bool _) .nil)⟩⟩
end
end Go.Ab
/-
 Calls that only lay new blocks. No program text.
-/
namespace Go.Ab
open Go Go.RowKit Go.Sort
variable {au:bS}
theorem HL.grown {j:J}{w:World}{jl:List Nat}{ls:List (List D)}{h:af}(hl:HL j w jl ls h) (n:Nat) (os:Array Go.Obj):HL j (Sort.grow (Sort.ahead w n) os) jl ls h/\bN j w (aV j h jl) j (Sort.grow (Sort.ahead w n) os) (aV j h jl):=by
 have f:∀b,b<w.heap.size->(Sort.grow (Sort.ahead w n) os).heap[b]?=w.heap[b]?:=fun b f=>heap_grow_old _ _ f;have hle:Le j w j (Sort.grow (Sort.ahead w n) os):=⟨Nat.le_refl _,fun _ _=>rfl,fun _=>Nat.le_refl _,fun b o g=>vM (f b (by
  rcases Nat.lt_or_ge b w.heap.size with h|h
  ·exact h
  ·rw [hl.1.fresh b h] at g; omega)),fun _ _=>.inl rfl,AD hl.1.fresh fun b h _=>f b h⟩
 have hk:=hl.keep hle (fun b g=>⟨f b (g.lt hl),rfl⟩) (fun _ _ _=>rfl) (fun b f=>hl.1.fresh b (by simp at f; omega));exact⟨hk.1,{ toLe:=hle,size:=by simp,frame:=fun b h _=>⟨f b h,rfl⟩,own:=fun b _ g=>g,os:=rfl,tape:=rfl,output:=⟨rfl,by simp [Sort.grow,Sort.ahead]⟩ }⟩
end Go.Ab
/-
 slices.SortFunc over a slice that may be stored to: the shelf's contract,read in the abstract state. No program text.
-/
namespace Go.Ab
open Go Go.RowKit Go.Proofs Go.Shelf Go.Sort
variable {au:bS}
def PF:D->Bool
 | .str s=>Nat.ble s.length fu
 | .int _ _=>true
 | .bool _=>true
 | _=>false
section
variable {P:Program}{ρ:Ren}{T:Type} [Inhabited T] (c:T->List D) (k:Nat)
def PG (x:T):Bool:=(c x).all PF
def H8 (x:T):T:=bif PG c x then x else default
def PI (b:T->T->Int) (x y:T):Int:=b (H8 c x) (H8 c y)
def DO (b:T->T->Int) (l:List T):List T:=(pdq (ltOf (PI c b)) l.toArray 0 l.length (Lib.bitLen l.length) true true).toList
def DP (b:T->T->Int) (l:List T):List T:=bif Nat.beq (DO c b l).length l.length then DO c b l else l
theorem PJ (b:T->T->Int) (l:List T):(DP c b l).length=l.length:=by
 unfold DP;cases h:Nat.beq (DO c b l).length l.length
 ·rfl
 ·exact Nat.eq_of_beq_eq_true h
end
section
variable {P:Program}{ρ:Ren}{T:Type} [Inhabited T] {c:T->List D}{k:Nat}
end
def PK {T:Type}(f:T->T->Option Int) (x y:T):Int:=(f x y).getD 0
def PL {T:Type} [Inhabited T] (c:T->List D) (f:T->T->Option Int) (s:Sl T):Sl T:=⟨s.nl,DP c (PK f) s.l⟩
theorem H9 {T:Type} [Inhabited T] {c:T->List D}{f:T->T->Option Int}{s:Sl T}:(PL c f s).l.length=s.l.length:=PJ c _ _
end Go.Ab
/-
 slices.Grow of a nil slice: the shelf's contract,read in the abstract state: a slice that may grow. No program text.
-/
namespace Go.Ab
open Go Go.RowKit Go.Proofs Go.Shelf
variable {au:bS}
def J.jj (j:J) (b cap:Nat):J:={ j with tok:=fun x=>if x=j.next then some ⟨some (b,cap),0⟩ else j.tok x,next:=j.next+1 }
theorem HL.jj {j:J}{w:World}{jl:List Nat}{ls:List (List D)}{h:af}(hl:HL j w jl ls h) (k:Nat){b cap:Nat}{cs:Array Value}{e:TypeId}(G:w.heap[b]?=some (.cells cs e (0,0))) (H:cs.size=cap*k) (I:j.F b=0)
  (v:¬aV j h jl b){w0:World}{O:Nat->Prop}(f:bN j w0 O j w (aV j h jl)) (K:w0.heap.size<=b) :
  HL (j.jj b cap) w jl ls (h.set j.next (some (.tok k 0)))/\bN j w0 O (j.jj b cap) w (aV (j.jj b cap) (h.set j.next (some (.tok k 0))) jl):=by
 have hle:Le j w (j.jj b cap) w:=⟨by simp [J.jj],fun _ _=>rfl,fun _=>Nat.le_refl _,fun _ _ _=>rfl,fun t ht=>.inl (by simp only [J.jj]; rw [if_neg (by omega)]),fun _ _ _ _ _ h=>h⟩;have hk:=hl.keep hle (fun _ _=>⟨rfl,rfl⟩) (fun id hid _=>by simp only [J.jj]; rw [if_neg (by omega)]) hl.1.fresh;have p:bH (j.jj b cap) j.next (.tok k 0)=some b:=by simp [bH,J.jj]
 have L:∀n q,h n=some q->n≠j.next:=fun n q hn c=>by rw [c,hl.1.mm (Nat.le_refl _)] at hn; cases hn
 have y:∀jl x,aV (j.jj b cap) (h.set j.next (some (.tok k 0))) jl x->x=b\/aV (j.jj b cap) h jl x:=by
  rintro jl x (hm|⟨n,q,hn,e⟩)
  ·exact .inr (.inl hm)
  ·by_cases c:n=j.next
   ·subst c; rw [af.aT] at hn; simp only [Option.some.injEq] at hn; subst hn;rw [p] at e; simp only [Option.some.injEq] at e; exact .inl e.symm
   ·rw [af.aQ h _ c] at hn; exact .inr (.inr ⟨n,q,hn,e⟩)
 have z:∀n q,h n=some q->bH (j.jj b cap) n q≠some b:=fun n q hn e=>v ((hk.2 b).1 (.inr ⟨n,q,hn,e⟩));refine⟨⟨⟨fun id o hi=>?_,fun r B s C x h1 g l m=>?_,hl.1.fresh⟩,⟨hk.1.2.each,hk.1.2.nodup,fun x hx u=>?_⟩⟩,
  { toLe:=f.toLe.trans hle,size:=f.size,frame:=fun x hx hn=>f.frame x hx hn,own:=fun x hx u=>?_,os:=f.os,tape:=f.tape,output:=f.output }⟩
 ·by_cases c:id=j.next
  ·subst c; rw [af.aT] at hi; simp only [Option.some.injEq] at hi; subst hi;refine⟨by simp [J.jj],some (b,cap),by simp [J.jj],fun b' M E=>?_,fun h=>by cases h⟩;simp only [Option.some.injEq,Prod.mk.injEq] at E;obtain⟨rfl,rfl⟩:=E;exact⟨cs,e,G,H,by rw [Nat.zero_mul]; exact I,Nat.zero_le _,fun _ h=>(by cases h)⟩
  ·rw [af.aQ h _ c] at hi; exact hk.1.1.obj id o hi
 ·by_cases c1:r=j.next<;>by_cases c2:s=j.next
  ·omega
  ·subst c1; rw [af.aT] at h1; simp only [Option.some.injEq] at h1; subst h1;rw [af.aQ h _ c2] at g;rw [p] at l; simp only [Option.some.injEq] at l; subst l;exact absurd m (z s C g)
  ·subst c2; rw [af.aT] at g; simp only [Option.some.injEq] at g; subst g;rw [af.aQ h _ c1] at h1;rw [p] at m; simp only [Option.some.injEq] at m; subst m;exact absurd l (z r B h1)
  ·rw [af.aQ h _ c1] at h1; rw [af.aQ h _ c2] at g;exact hk.1.1.inj r B s C x h1 g l m
 ·rcases y [] x u with c|c
  ·subst c; exact v (.inl hx)
  ·exact hk.1.2.apart x hx c
 ·rcases y jl x u with c|c
  ·omega
  ·exact f.own x hx ((hk.2 x).1 c)
theorem PM {P:Program}{ρ:Ren}(L:Lays8.n4 P ρ){b:TI}{z:A}(C:aY P (ρ.t 25)=some b) (hz:b.zero=some z) (E:(cw z).length=b.size) (aj:b.size≠0){n:Int}(h0:0<=n) (p:n.toNat*b.bytes<=cA) (hn:n.toNat<=cA)
  {F:Nat}(G:F=ρ.f 4){T:Type}(c:T->List D){r:Nat}(H:af) :
  AC P F [.d (.slice r none true []),.d (.int .i64 n)] H fun v h'=>∃tk,H tk=none/\v=.a (.d (Sl.d b.size c (some tk) ⟨decide (n=0),[]⟩))/\h'=H.set tk (some (.tok b.size 0)):=by
 subst G;refine⟨L.f4.enters rfl,fun j w dc hr g=>?_⟩;have hl:HL j w [] [] H:=⟨hr,⟨.nil,by simp,by simp⟩⟩;cases g with
 | cons h1 g =>
 cases g with
 | cons I g =>
 cases g
 rename_i v1 v2
 obtain⟨K,ak,M,_,N,O,_,s⟩:=gh C;rw [hz] at s;obtain⟨zv,Q,R⟩:=nH s;have S:zv.cells.size=b.size:=by have:=(R j w).cells.length; rw [E] at this; simpa using this.symm
 have U:aD j w (.slice r none true []) v1:=h1;have W:aD j w (.int .i64 n) v2:=I;cases U;cases W;have u:=hr.mm (Nat.le_refl _);have y:n=(n.toNat:Int):=(Int.toNat_of_nonneg h0).symm;have al:cA=140737488355328:=rfl;generalize n.toNat=m at y p hn;subst y;by_cases hm:m=0
 ·subst hm;refine(Any8.slices_Grow_room L none 0 0 0 w (by omega) (by omega) (by omega) (by omega)).mono ?_;rintro e w' ⟨rfl,rfl⟩;obtain⟨k,l⟩:=hl.dX b.size;refine⟨_,_,j.dX,_,rfl,⟨j.next,u,rfl,rfl⟩, ?_,k.1,l⟩;exact aD.gD _ _ fun t ht=>by simp at ht; subst ht; simp [J.dX]
 ·refine(Any8.slices_Grow_grow L K zv M Q (by rw [N]; omega) none 0 0 m [] w (by omega) (by omega) (by rw [O]; simpa [cA] using p) (by omega) (by simp) (fun _=>rfl) (fun a h=>by cases h)).mono ?_;rintro e w' ⟨rfl,rfl⟩;generalize X:grownCap w (0+m) 0 (ρ.t 25)=cap;have am:m<=cap:=by rw [<- X]; have:=grownCap_ge w (0+m) 0 (ρ.t 25); omega
  generalize Y:(([]:List Value).toArray++Builtin.zeroCells zv.cells (0+m-0)++Builtin.zeroCells zv.cells (cap-(0+m)))=cs;have Z:cs.size=cap*b.size:=by
   rw [<- Y];simp only [Array.size_append,size_zeroCells,S,<- Nat.add_mul,List.size_toArray,List.length_nil,Nat.zero_add]
   congr 1; omega
  have B:=hl.drew.data (au:=au) (.cells cs (ρ.t 25)) 0;have aa:j.eC w.drew.heap.size 0=j:=J.yt (hl.1.fresh _ (Nat.le_refl _));rw [aa] at B;have ao:(w.drew).heap.size=w.heap.size:=rfl;obtain⟨k,l⟩:=B;obtain⟨ab,ad⟩:=k.jj b.size (heap_alloc_new w.drew _) Z (hl.1.fresh _ (Nat.le_refl _)) (fun ae=>by
   have ah:aV j H [] w.heap.size:=by
    rcases ae with hm|⟨i,o,hi,e⟩
    ·simp at hm
    ·exact .inr ⟨i,o,hi,e⟩
   have:=aV.lt hl ah; omega) ((bN.drew j w _).trans l) (Nat.le_refl _)
  refine⟨_,_,_,_,rfl,⟨j.next,u,rfl,rfl⟩, ?_,ab.1,ad⟩;have ai:decide ((m:Int)=0)=false:=decide_eq_false (by omega);show aD _ _ (.slice b.size (some j.next) (decide ((m:Int)=0)) []) _;rw [ai];refine aD.slice _ _ [] ⟨w.heap.size,0,none⟩ cap (fun _=>undef) (by simp) (by simp) (by simp) ⟨.inl rfl,by simp⟩ (by simp) fun t ht=>?_;simp only [Option.some.injEq] at ht;subst ht;refine⟨by simp [J.jj],fun q hq=>?_⟩
  simp only [J.jj,if_true,Option.some.injEq] at hq;subst hq;exact⟨by simp,fun _=>.inr ⟨_,rfl,rfl⟩⟩
end Go.Ab
/-
 slices.DeleteFunc over a slice that may be stored to and is not used any more: the shelf's contract,read in the abstract state. No program text.
-/
namespace Go.Proofs
open Go.Shelf Go.RowKit Go.Lib Go.Sort
variable {P:Program}{ρ:Ren}
end Go.Proofs
namespace Go.Ab
open Go Go.RowKit Go.Proofs Go.Shelf Go.Sort
variable {au:bS}
section
variable {P:Program}{ρ:Ren}
variable {T:Type} [Inhabited T] {v:T->Value}{d1:T->D}
end
end Go.Ab
/-
 Functions of the library that only compute,division,conversions; a block that stays as it is. No program text.
-/
namespace Go.Ab
open Go Go.RowKit Go.Proofs Go.Shelf
variable {au:bS}
section
variable {P:Program}{ts:Ts}{ls:List (List D)}{h:af}{dst:Option Tmp}{ty:TypeId}{pos:String}{aI:Array Edge}{g:Option (Nat×Bool)}
theorem an.H_ {t u:TypeId}{x y:Operand}{k:IntKind}{m n:Int}(hx:ev ts x=.a (.d (.int k m))) (l:ev ts y=.a (.d (.int k n))) (hn:n≠0) :
  an P (mk dst (.binOp .quo t x y u) ty pos aI g) ts ls h {} (.a (.d (.int k (k.wrap (m.tdiv n))))) ls h :=
 an.dR fun j w jl a b=>by
  have h1:=b x (by simp [Op.operands]);have f:=b y (by simp [Op.operands]);rw [hx] at h1; rw [l] at f;exact⟨_,by simp [execOp,jZ h1,jZ f,Dl,binOp,Op.intDiv,hn],aD.int _ _⟩
theorem an.Ia {t u:TypeId}{x y:Operand}{k:IntKind}{m n:Int}(hx:ev ts x=.a (.d (.int k m))) (l:ev ts y=.a (.d (.int k n))) (hn:n≠0) :
  an P (mk dst (.binOp .rem t x y u) ty pos aI g) ts ls h {} (.a (.d (.int k (m.tmod n)))) ls h :=
 an.dR fun j w jl a b=>by
  have h1:=b x (by simp [Op.operands]);have f:=b y (by simp [Op.operands]);rw [hx] at h1; rw [l] at f;exact⟨_,by simp [execOp,jZ h1,jZ f,Dl,binOp,Op.intDiv,hn],aD.int _ _⟩
theorem Ib {P:Program}{t:TypeId}{b:TI}(f:aY P t=some b):∃d,P.underlying t=some d/\gb d=b.k:=by
 obtain⟨i,d,_,g,_,_,j,_⟩:=gh f;exact⟨d,g,j⟩
theorem Ic {P:Program}{t:TypeId}{f:TI}{k:IntKind}(g:aY P t=some f) (hk:f.k=.int k):P.underlying t=some (.int k):=by
 obtain⟨d,h1,b⟩:=Ib g;rw [hk] at b;cases d<;>simp [gb] at b;subst b; exact h1
theorem an.PN {s t:TypeId}{f b:TI}{x:Operand}{k k':IntKind}{n:Int}(hS:aY P s=some f) (l:aY P t=some b) (hk:b.k=.int k') (hx:ev ts x=.a (.d (.int k n))) :
  an P (mk dst (.convert s t x) ty pos aI g) ts ls h {} (.a (.d (.int k' (k'.wrap n)))) ls h :=
 an.dR fun j w jl a m=>by
  have h1:=m x (by simp [Op.operands]);rw [hx] at h1;obtain⟨d,p,_⟩:=Ib hS;exact⟨.int k' (k'.wrap n),by simp [execOp,jZ h1,convert,run_underlying p,run_underlying (Ic l hk),Conv.intToInt],aD.int _ _⟩
def nN (s:Sl Int):Bs:=s.l.map fun n=>UInt8.ofNat n.toNat
theorem Ie:∀(l:List Int) (r:ByteArray),l.foldl (fun r n=>r.push (UInt8.ofNat n.toNat)) r=⟨(r.data.toList++l.map fun n=>UInt8.ofNat n.toNat).toArray⟩
 | [],r=>by simp
 | a::l,r=>by rw [List.foldl_cons,Ie l]; simp [ByteArray.push]
theorem an.DQ {s e t:TypeId}{q u B:TI}{x:Operand}{tok:Option Nat}{y:Sl Int}(hS:aY P s=some q) (L:q.k=.slice e) (M:aY P e=some u) (he:u.k=.int .u8) (N:aY P t=some B) (ht:B.k=.str)
  (hx:ev ts x=.a (.d (Sl.d 1 (bL .u8) tok y))):an P (mk dst (.convert s t x) ty pos aI g) ts ls h {} (.a (.d (.str (nN y)))) ls h :=
 an.dR fun j w jl a O=>by
  have h1:=O x (by simp [Op.operands]);rw [hx] at h1;have f:aD j w (.slice 1 tok y.nl (y.l.map (bL .u8))) (a.eval x):=h1;have C:=kF hS L;have E:=Ic M he;have F:=vV N ht;generalize hv:a.eval x=v at f;have G:(y.l.map (bL .u8)).flatten=y.l.map (D.int .u8):=by
   induction y.l with
   | nil=>rfl
   | cons a r p=>simp [bL,p]
  generalize H:y.l.map (bL .u8)=rows at f;generalize Y:y.nl=nl at f;cases f with
  | gD _ _ _ =>
   have Q:y.l=[]:=by simpa using H
   exact⟨.string .empty,by simp [execOp,hv,run_convert_bytes_string w s t e _ _ _ C E F,Conv.bytesToString],by
    show aD j w (.str (nN y)) _;rw [nN,Q]; exact aD.str [] (by simp [fu])⟩
  | slice _ _ _ m cap cv hk hn hc bQ hr bu =>
   subst H;rw [List.length_map] at hn hc;have hlen:(y.l.map (bL .u8)).length=y.l.length:=by simp
   have Z:cA<=fu:=by unfold cA fu; omega
   have R:(loadCells m y.l.length).run P w=.ok (y.l.map (Value.int .u8)).toArray w:=by
    by_cases h0:y.l=[]
    ·rw [h0]; rfl
    ·have I:m.spot=none:=bQ.1.resolve_left (by simpa using h0);obtain⟨b,o,sp⟩:=m;simp only at I; subst I;obtain⟨cs,g1,g2⟩:=Df (P:=P) (j:=j) (w:=w) (b:=b) (o:=o) (y.l.map (D.int .u8)) fun i z hz=>by
      have hi:i<(y.l.map (bL .u8)).flatten.length:=by rw [G]; exact(List.getElem?_eq_some_iff.1 hz).1
      refine⟨cv i,(bQ.2 i hi).2.1, ?_⟩;have J:=hr i hi;have S:(y.l.map (bL .u8)).flatten[i]=z:=by
       have K:(y.l.map (bL .u8)).flatten[i]?=some z:=by rw [G]; exact hz
       rw [List.getElem?_eq_getElem hi] at K; simpa using K
      rw [S] at J; exact J
     rw [List.length_map] at g2;rw [g2];have U:cs=y.l.map (Value.int .u8):=by
      clear g2;generalize y.l=l at g1;induction l generalizing cs with
      | nil=>cases g1; rfl
      | cons a r p =>
       rw [List.map_cons] at g1;cases g1 with
       | cons W X=>cases W; rw [p _ X,List.map_cons]
     rw [U]
   rw [hlen] at hv;refine⟨.string ⟨(nN y).toArray⟩, ?_, ?_⟩
   ·simp only [execOp,hv,Sem.run_bind,run_convert_bytes_string w s t e _ _ _ C E F,run_bytesToString w m _ cap y.l R,Result.andThen,Sem.run_pure];rw [Ie]; simp [nN]
   ·exact aD.str _ (by simp only [nN,List.length_map]; omega)
end
def iw (P:Program) (o:Ab.Obj):Prop:=∃g t fr,o=.fix g (.cells (Lib.pow10Tab.map fun z=>Value.int .u64 z).toArray t fr)/\P.globalNamed "internal/strconv.uint64pow10"=some g
theorem iw.qv {P:Program}{o:Ab.Obj}(h:iw P o){j:J}{w:World}{id:Nat}(hr:iJ j w id o):Lib.TabIs P w "internal/strconv.uint64pow10" .u64 Lib.pow10Tab:=by
 obtain⟨g,t,fr,rfl,hg⟩:=h;have b:w.heap[g]?=some _:=hr;unfold Lib.TabIs World.var?;rw [hg,Option.bind_some,b]
theorem PO {P:Program}{ρ:Ren}(L:LaysM.n171 P ρ){n:Int}(h0 : -9223372036854775808<=n) (h1:n<=9223372036854775807){F:Nat}(g:F=ρ.f 171){H:af}{gT:Nat}{oT:Ab.Obj}(l:H gT=some oT) (m:iw P oT) (p:(Lib.itoa n).length<=fu) :
  AC P F [.d (.int .i64 n)] H fun v h'=>v=.a (.d (.str (Lib.itoa n)))/\h'=H:=by
 subst g;refine⟨enters_of L.f171 (by kernel_rfl) rfl,fun j w c hr b=>?_⟩;cases b with
 | cons a1 b =>
 cases b;have q:aD j w (.int .i64 n) _:=a1;cases q;refine(Any.strconv_Itoa L n h0 h1 w (m.qv (hr.obj gT oT l).2)).mono ?_;rintro e w' ⟨rfl,k,os,rfl⟩;have hl:HL j w [] [] H:=⟨hr,⟨.nil,by simp,by simp⟩⟩;obtain⟨r,s⟩:=hl.grown k os;exact⟨_,_,j,H,rfl,⟨rfl,rfl⟩,aD.str _ p,r.1,s⟩
end Go.Ab
/-
 index of an array by value,whose elements are one cell each. No program text.
-/
namespace Go.Ab
open Go Go.RowKit
variable {au:bS}
theorem an.PP {α:Type}{f:α->D}{P:Program}{ts:Ts}{ls:List (List D)}{h:af}{dst:Option Tmp}{ty:TypeId}{pos:String}{aI:Array Edge}{g:Option (Nat×Bool)}{t e:TypeId}{n:Nat}{b:TI}{x ix:Operand}{p:IntKind}{z:Int}{l:List α}{y:α}(hu:P.underlying t=some (.array n e)) (q:P.underlying e=some .string) (r:aY P e=some b) (s:b.size=1) (hx:ev ts x=.a (.agg (l.map f))) (hi:ev ts ix=.a (.d (.int p z)))
  (hn:n=l.length) (hr:c_ l z=some y):an P (mk dst (.index t x ix) ty pos aI g) ts ls h {} (.a (.d (f y))) ls h :=
 an.dR fun j w jl act k=>by
  have h1:=k x (by simp [Op.operands]);have m:=k ix (by simp [Op.operands]);rw [hx] at h1; rw [hi] at m;obtain⟨cs,u,B⟩:=h1;obtain⟨h0,hz⟩:=HM hr;have bn:=(List.getElem?_eq_some_iff.1 hz).1;have C:z<(n:Int):=by omega
  obtain⟨v,hv,E⟩:=B.get (i:=z.toNat) (x:=f y) (by rw [List.getElem?_map,hz]; rfl);refine⟨v, ?_,E⟩;simp [execOp,u,jZ m,Instr.index,asIntOf,eU hu,kE r,h0,C,s];have F:(Go.part e cs.toArray z.toNat).run P w=.ok v w:=by simp [Go.part,isAgg,run_underlying q,hv]
  rw [F]; rfl
end Go.Ab
/-
 A state in which a local's cells are read in another way is weaker. No program text.
-/
namespace Go.Ab
open Go Go.RowKit
variable {au:bS}
end Go.Ab
/-
 Bound methods: functions that hold their first arguments; functions as parameters whose contract is told for one heap. No program text.
-/
namespace Go.Ab
open Go Go.RowKit
variable {au:bS}
def gN [bS] (P:Program) (fd:D) (args:List A) (H:af) (cZ:V->af->Prop):Prop :=
 match fd with
 | .func k cl=>AC P k (args++cl.map A.d) H cZ
 | .nD k bs=>AC P k (bs.map A.d++args) H cZ
 | _=>False
section
variable {P:Program}{ts:Ts}{ls:List (List D)}{h:af}{dst:Option Tmp}{ty:TypeId}{pos:String}{aI:Array Edge}{g:Option (Nat×Bool)}
theorem an.PR {f:FuncId}{b:Array Operand}{xs:List D}(hx:uC ts b.toList=some xs):an P (mk dst (.makeFunc (.func f) b #[]) ty pos aI g) ts ls h {} (.a (.d (.nD f xs))) ls h :=
 an.dR fun j w jl act l=>by
  have h1:=AP (j:=j) (w:=w) (jl:=jl) (act:=act) b.toList xs hx fun x hx=>l x (by simp [Op.operands]; simpa using hx);refine⟨.func (.func f) (b.toList.map act.eval).toArray #[], ?_,aD.nD f xs _ h1.length fun i hi m=>?_⟩
  ·simp [execOp,Instr.makeFunc]
   apply Array.ext'; simp
  ·obtain⟨y,k,hr⟩:=h1.get (List.getElem?_eq_getElem hi);rw [List.getElem?_eq_getElem m] at k;simp only [Option.some.injEq] at k;rw [k]; exact hr
theorem PS {f:Operand}{args:Array Operand}{cq:Array TypeId}{eb:FuncId}{bs:List D}{xs:List A}{cZ:V->af->Prop}{L:List (List D)}{H:af}(s:ev ts f=.a (.d (.nD eb bs))) (t:jh ts args.toList=some xs)
  (hc:AC P eb (bs.map .d++xs) H cZ) :
  dm P (mk dst (.call { callee:=.value f,args:=args,argTypes:=cq }) ty pos aI g) ts L H fun v aS h'=>cZ v h'/\aS=L:=by
 intro j w jl a hl k K Q hk;have h1:=k f (by simp [Op.operands,Call.operands]);rw [s] at h1;have u:=Dr (j:=j) (w:=w) (jl:=jl) (act:=a) args.toList xs t fun x hx=>k x (by simp [Op.operands,Call.operands]; right; simpa using hx);have p:aD j w (.nD eb bs) (a.eval f):=h1;generalize B:a.eval f=U at p;cases p with
 | nD _ _ mj hlen hr =>
  have C:aW (di j w) (bs.map .d++xs) (mj++args.toList.map a.eval):=by
   refine(aW.jV (by simp [hlen]) fun i x y hx E=>?_).append u;rw [List.getElem?_map] at hx;cases e:bs[i]? with
   | none=>rw [e] at hx; simp at hx
   | some z =>
    rw [e] at hx; simp at hx; subst hx;obtain⟨hi,G⟩:=List.getElem?_eq_some_iff.1 e;obtain⟨I,J⟩:=List.getElem?_eq_some_iff.1 E;have:=hr i hi I;rw [G,J] at this; exact this
  have M:=hc.runs j w _ hl.1 C;have N:(execOp a.eval (mk dst (.call { callee:=.value f,args:=args,argTypes:=cq }) ty pos aI g)).run P w=.ok (.enter eb (mj++args.toList.map a.eval).toArray) w:=by
   have he:=hc.enter (mj++args.toList.map a.eval).toArray w;have O:mj.toArray++Array.map a.eval args=(mj++args.toList.map a.eval).toArray:=by apply Array.ext'; simp
   simp only [execOp,resolve,B,Deferred.ofValue,Sem.run_bind,Sem.run_pure,Result.andThen,invoke,List.append_eq,Array.append_empty];rw [O]; exact he
  unfold Oper.wp;rw [N,Oper.upon_enter];refine M.mono ?_;rintro e w' ⟨r,cv,j',h',rfl,R,hv,hh,m⟩;have q:∀b,b∈jl->b<w.heap.size:=fun b l=>aV.lt hl (.inl l);have S:∀b,b∈jl->w'.heap[b]?=w.heap[b]?/\j'.F b=j.F b:=fun b l=>m.frame b (q b l) (hl.2.apart b l);refine hk r L h' cv j' w' jl ⟨R,rfl⟩ (hv.mono (Le.refl _ _) (fun i b l=>by simp at l)) ⟨hh,⟨qh hl.2.each fun xs b l h=>h.keep m.toLe (S b l),hl.2.nodup,fun b l k=>hl.2.apart b l (m.own b (q b l) k)⟩⟩ (Ext.refl _) ?_
  refine { m with frame:=fun b l hn=>m.frame b l (fun k=>hn ?_),own:=fun b l k=>?_ }
  ·rcases k with k|k
   ·simp at k
   ·exact .inr k
  ·rcases k with k|k
   ·exact .inl k
   ·rcases m.own b l (.inr k) with h|h
    ·simp at h
    ·exact .inr h
theorem dm.PT {f:Operand}{args:Array Operand}{cq:Array TypeId}{fd:D}{xs:List A}{cZ:V->af->Prop}{L:List (List D)}{H:af}(b:ev ts f=.a (.d fd)) (j:jh ts args.toList=some xs) (hc:gN P fd xs H cZ) :
  dm P (mk dst (.call { callee:=.value f,args:=args,argTypes:=cq }) ty pos aI g) ts L H fun v aS h'=>cZ v h'/\aS=L:=by
 cases fd with
 | func k cl=>exact yE b j hc
 | nD k bs=>exact PS b j hc
 | _=>exact hc.elim
theorem an.mv {f:Operand}{args:Array Operand}{cq:Array TypeId}{fd:D}{xs:List A}{v:V}(b:ev ts f=.a (.d fd)) (j:jh ts args.toList=some xs)
  (hc:gN P fd xs h fun r h'=>r=v/\h'=h) :
  an P (mk dst (.call { callee:=.value f,args:=args,argTypes:=cq }) ty pos aI g) ts ls h { rh:=true } v ls h:=by
 intro L H _ hH;have e:=hH rfl;subst e;exact(dm.PT b j hc).mono fun _ _ _ ⟨⟨k,l⟩,m⟩=>⟨k,m,l⟩
end
end Go.Ab
/-
 Slices that may be stored to are cut: the tail is cleared,the front goes on under a number of its own. No program text.
-/
namespace Go.Ab
open Go Go.RowKit
variable {au:bS}
variable {f_:eT}
def J.tokT (j:J) (t b cap m:Nat):J:={ j with tok:=fun x=>if x=t then some ⟨some (b,cap),m⟩ else j.tok x }
theorem HL.PU {j:J}{w:World}{jl:List Nat}{ls:List (List D)}{h:af}(hl:HL j w jl ls h){k id t i:Nat}{rows:List (List D)}(hi:h id=some (.arr k rows)) (ht:h t=some (.arr k [])) (ae:t≠id) (hle:i<=rows.length) (R:0<i)
  {b cap:Nat}(G:j.tok id=some ⟨some (b,cap),rows.length⟩) :
  HL (j.tokT t b cap i) w jl ls ((h.set id none).set t (some (.arr k (rows.take i)))) /\
   bN j w (aV j h jl) (j.tokT t b cap i) w (aV (j.tokT t b cap i) ((h.set id none).set t (some (.arr k (rows.take i)))) jl):=by
 obtain⟨S,ah,U,W,_⟩:=hl.1.obj t _ ht;have X:j.tok t=some ⟨none,0⟩:=by rw [U,W.2 rfl]; rfl
 obtain⟨m,Y⟩:=hl.forget (au:=au) (h':=(h.set id none).set t none) fun n o hn=>by
  by_cases c:n=t
  ·subst c; rw [af.aT] at hn; cases hn
  ·rw [af.aQ _ _ c] at hn;by_cases c:n=id
   ·subst c; rw [af.aT] at hn; cases hn
   ·rwa [af.aQ h _ c] at hn
 obtain⟨_,dI,bu,_,H,ai,hblk⟩:=hl.1.obj id _ hi;rw [G] at bu;obtain rfl:some (b,cap)=dI:=by simpa using bu
 obtain⟨cs,ce,hg,Z,aa,aj,ab⟩:=hblk b cap rfl;have v:bH j id (.arr k rows)=some b:=by simp [bH,G]
 have I:∀f,(∀x,x∈f->x∈jl)->¬aV j ((h.set id none).set t none) f b:=by
  rintro f y (hm|⟨n,o,h1,g⟩)
  ·exact hl.2.apart b (y b hm) (.inr ⟨id,_,hi,v⟩)
  ·have c0:n≠t:=fun c=>by subst c; rw [af.aT] at h1; cases h1
   rw [af.aQ _ _ c0] at h1;have c:n≠id:=fun c=>by subst c; rw [af.aT] at h1; cases h1
   rw [af.aQ h _ c] at h1;exact c (hl.1.inj n o id _ b h1 hi g v)
 have z:Le j w (j.tokT t b cap i) w:=⟨Nat.le_refl _,fun _ _=>rfl,fun _=>Nat.le_refl _,fun _ _ _=>rfl,fun x _=>by
  by_cases c:x=t
  ·subst c; exact .inr ⟨_,⟨some (b,cap),i⟩,X,by simp [J.tokT],R⟩
  ·exact .inl (by simp [J.tokT,c]),fun _ _ _ _ _ h=>h⟩
 have K:∀n o,(h.set id none).set t none n=some o->n≠t:=fun n o hn c=>by subst c; rw [af.aT] at hn; cases hn
 have hk:=m.keep z (fun _ _=>⟨rfl,rfl⟩) (fun n _ ⟨o,p,_⟩=>by simp [J.tokT,K n o p]) m.1.fresh;have C:bH (j.tokT t b cap i) t (.arr k (rows.take i))=some b:=by simp [bH,J.tokT]
 have L:∀f,(∀x,x∈f->x∈jl)->¬aV (j.tokT t b cap i) ((h.set id none).set t none) f b:=by
  rintro f y (hm|⟨n,o,h1,g⟩)
  ·exact I f y (.inl hm)
  ·refine I f y (.inr ⟨n,o,h1, ?_⟩);have:=(m.1.obj n o h1).2.keep z (m.1.obj n o h1).1 (fun _ _=>⟨rfl,rfl⟩) (fun _=>by simp [J.tokT,K n o h1]);rw [<- this.2]; exact g
 have l:∀n,n≠t->(h.set id none).set t (some (.arr k (rows.take i))) n=(h.set id none).set t none n:=fun n c=>by rw [af.aQ _ _ c,af.aQ _ _ c]
 have M:∀f x,aV (j.tokT t b cap i) ((h.set id none).set t (some (.arr k (rows.take i)))) f x->x=b\/aV (j.tokT t b cap i) ((h.set id none).set t none) f x:=by
  rintro f x (hm|⟨n,q,hn,e⟩)
  ·exact .inr (.inl hm)
  ·by_cases c:n=t
   ·subst c; rw [af.aT] at hn; simp only [Option.some.injEq] at hn; subst hn;rw [C] at e; exact .inl (by simpa using e.symm)
   ·rw [l n c] at hn; exact .inr (.inr ⟨n,q,hn,e⟩)
 refine⟨⟨⟨fun n o hn=>?_,fun E N B O x h1 g s u=>?_,m.1.fresh⟩,⟨hk.1.2.each,hk.1.2.nodup,fun x hx p=>?_⟩⟩, ?_⟩
 ·by_cases c:n=t
  ·subst c; rw [af.aT] at hn; simp only [Option.some.injEq] at hn; subst hn;have hlen:(rows.take i).length=i:=by rw [List.length_take]; omega
   refine⟨S,some (b,cap),by simp [J.tokT,hlen],⟨by simp,fun e=>by rw [e] at hlen; simp at hlen; omega⟩,fun r hr=>H r (List.mem_of_mem_take hr),by rw [hlen]; omega,fun b' ak P=>?_⟩;simp only [Option.some.injEq,Prod.mk.injEq] at P;obtain⟨rfl,rfl⟩:=P;refine⟨cs,ce,hg,Z,aa,by rw [hlen]; omega, ?_⟩;have ad:(rows.take i).flatten=rows.flatten.take (i*k):=by
    have h1:rows.flatten=(rows.take i).flatten++(rows.drop i).flatten:=by rw [<- List.flatten_append,List.take_append_drop]
    have g:(rows.take i).flatten.length=i*k:=by rw [(iu fun r hr=>H r (List.mem_of_mem_take hr)).1,hlen]
    rw [h1,List.take_left' g]
   rw [hlen,ad];have Q:=(ab.take (i*k)).imp fun _ _ h=>h.mono z;rw [List.take_take,Nat.min_eq_left (Nat.mul_le_mul_right k hle)] at Q;exact Q
  ·rw [l n c] at hn; exact hk.1.1.obj n o hn
 ·by_cases c1:E=t
  ·by_cases c2:B=t
   ·rw [c1,c2]
   ·subst c1; rw [af.aT] at h1; simp only [Option.some.injEq] at h1; subst h1;rw [C] at s; simp only [Option.some.injEq] at s; subst s;rw [l _ c2] at g;exact absurd (.inr ⟨B,O,g,u⟩) (L [] (by simp))
  ·by_cases c2:B=t
   ·subst c2; rw [af.aT] at g; simp only [Option.some.injEq] at g; subst g;rw [C] at u; simp only [Option.some.injEq] at u; subst u;rw [l _ c1] at h1;exact absurd (.inr ⟨E,N,h1,s⟩) (L [] (by simp))
   ·rw [l _ c1] at h1; rw [l _ c2] at g;exact hk.1.1.inj E N B O x h1 g s u
 ·rcases M [] x p with rfl|F
  ·exact hl.2.apart x hx (.inr ⟨id,_,hi,v⟩)
  ·exact hk.1.2.apart x hx F
 ·refine { (bN.refl j w (aV j h jl)) with toLe:=z,frame:=fun _ _ _=>⟨rfl,rfl⟩,own:=fun x hx p=>?_ };rcases M jl x p with rfl|F
  ·exact .inr ⟨id,_,hi,v⟩
  ·exact Y.own x hx ((hk.2 x).1 F)
section
variable {P:Program}{ops:Array Oper}{rest:List Oper}{Q':St->Prop}{n:Nat}{ts:Ts}{ls:List (List D)}{h:af}{α:Type}{f:α->List D}{d:Nat}{ty:TypeId}{pos:String}{aI:Array Edge}
def bP (k id:Nat) (nl:Bool) (n:Nat):D:=bif Nat.beq n 0 then .slice k none nl [] else .arr k id nl n
theorem Ig {k id n:Nat}{nl:Bool}(h:0<n):bP k id nl n=.arr k id nl n:=by unfold bP; cases n with|zero=>omega|succ _=>rfl
theorem uL {j:J}{w:World}{k:Nat}{nl:Bool}{b:Option Addr}{cap:Nat}(h:nl=b.isNone) (hc:nl=true->cap=0):aD j w (.slice k none nl []) (.slice b 0 cap):=by
 subst h;cases b with
 | none=>obtain rfl:=hc rfl; exact .gD _ _ (by simp)
 | some b=>exact .slice k none [] b cap (fun _=>undef) (by simp) (by simp) (by simp) ⟨.inl rfl,by simp⟩ (by simp) (fun t ht=>by cases ht)
variable {dst:Option Tmp}{g:Option (Nat×Bool)}
theorem HL.wo {j:J}{w:World}{jl:List Nat}{ls:List (List D)}{h:af}(hl:HL j w jl ls h){k id t i:Nat}{nl:Bool}{rows:List (List D)}(hi:h id=some (.arr k rows)) (ht:h t=some (.arr k [])) (p:t≠id) (hle:i<=rows.length)
  {l:Option Addr}{cap:Nat}(h1:br j w jl (.a (.d (.arr k id nl rows.length))) (.slice l rows.length cap)) :
  rows.length<=cap/\(∀b,l=some b->rows≠[]->b.add 0=b)/\∃j',aD j' w (bP k t nl i) (.slice l i cap)/\HL j' w jl ls ((h.set id none).set t (some (.arr k (rows.take i))))/\bN j w (aV j h jl) j' w (aV j' ((h.set id none).set t (some (.arr k (rows.take i)))) jl):=by
 have g:HL j w jl ls (h.set id none)/\bN j w (aV j h jl) j w (aV j (h.set id none) jl):=hl.forget (au:=au) fun q o hn=>by
  by_cases c:q=id
  ·subst c; rw [af.aT] at hn; cases hn
  ·rwa [af.aQ h _ c] at hn
 have same:(h.set id none).set t (some (.arr k []))=h.set id none:=af.kD _ t _ (by rw [af.aQ _ _ p]; exact ht);rcases hl.sv hi rfl h1 with ⟨base,f,m,v,r⟩|⟨b,z,B,ce,f,m,r,hg,C,E,y,F,G⟩
 ·subst v;obtain rfl:i=0:=by simpa using hle
  simp only [Value.slice.injEq] at f;obtain⟨rfl,_,rfl⟩:=f;refine⟨by simp,fun _ _ h=>absurd rfl h,j,uL m (fun _=>rfl), ?_, ?_⟩<;>rw [List.take_nil,same]
  ·exact g.1
  ·exact g.2
 ·simp only [Value.slice.injEq] at f;obtain⟨rfl,_,rfl⟩:=f;refine⟨y,fun b' e _=>by simp only [Option.some.injEq] at e; subst e; simp [Addr.add], ?_⟩;subst m;by_cases s:i=0
  ·subst s;refine⟨j,uL rfl (fun h=>by cases h), ?_, ?_⟩<;>rw [List.take_zero,same]
   ·exact g.1
   ·exact g.2
  ·have u:0<i:=Nat.pos_of_ne_zero s;obtain⟨c1,c2⟩:=hl.PU (au:=au) hi ht p hle u r;refine⟨_, ?_,c1,c2⟩;rw [Ig u];refine aD.arr _ _ _ _ _ _ (hl.1.obj t _ ht).1 fun tk bu=>?_;simp only [J.tokT,if_true,Option.some.injEq] at bu;subst bu;exact⟨by simp,fun _=>.inr ⟨_,rfl,rfl,rfl⟩⟩
theorem an.DR {t e:TypeId}{p q:TI}{x o:Operand}{v:IntKind}{k id m i tid:Nat}{nl:Bool}{rows:List (List D)}(y:aY P t=some p) (hk:p.k=.slice e) (z:aY P e=some q)
  (hx:ev ts x=.a (.d (.arr k id nl m))) (B:ev ts o=.a (.d (.int v (i:Int)))) (hh:h id=some (.arr k rows)) (ht:h tid=some (.arr k [])) (C:tid≠id) (hm:m=rows.length) (hi:i<=rows.length) :
  an P (mk dst (.slice t x none (some o) none) ty pos aI g) ts ls h { rh:=true,wh:=true } (.a (.d (bP k tid nl i))) ls ((h.set id none).set tid (some (.arr k (rows.take i)))):=by
 refine an.of_run fun L H _ hH j w jl a hl s=>?_;have E:=hH rfl;subst E hm;have h1:br j w jl (.a (.d (.arr k id nl rows.length))) (a.eval x):=by have:=s x (by simp [Op.operands]); rw [hx] at this; exact this
 obtain⟨f,cap,u,_⟩:=wg h1;rw [u] at h1;obtain⟨I,J,j',g1,g2,g3⟩:=hl.wo (au:=au) hh ht C hi h1;refine⟨_,w,.slice f i cap,j',jl, ?_,.inl rfl,g1,g2,Ext.refl _,g3⟩;have F:(Instr.sliceBound (a.eval o) cap .sliceAcap).run P w=.ok i w:=by
  have:=pg (P:=P) (cap:=cap) B (s o (by simp [Op.operands])) (by omega) (by omega) .sliceAcap;rw [this]; simp
 have:=AV y hk z (a:=f) (len:=rows.length) (cap:=cap) (lo:=none) (hi:=some (a.eval o)) (w:=w) (l:=0) (r:=i) (by simp) F;have G:(if cap=0 then f else f.map (·.add (0*q.size)))=f:=by
  split
  ·rfl
  ·cases f with
   | none=>rfl
   | some b=>simp [Addr.add]
 rw [G] at this;simp only [execOp,Sem.run_bind,u,Option.map_none,Option.map_some,this,Result.andThen,Sem.run_pure,Nat.sub_zero]
theorem ag.wo {c:Code}{Q:Exit->St->Prop}(s id tid:Nat){k m:Nat}{nl:Bool}{rows:List (List D)}(g:get ts s=.a (.d (.arr k id nl m))) (hh:h id=some (.arr k rows)) (ht:h tid=some (.arr k [])) (l:tid≠id) (hm:m=rows.length)
  (hw:ag P c Q ⟨n,(s,.a (.d (bP k tid nl m)))::ts,ls,(h.set id none).set tid (some (.arr k rows))⟩):ag P c Q ⟨n,ts,ls,h⟩:=by
 intro j w jl a b;subst hm;have h1:br j w jl (get ts s) (a.tmps.getD s undef):=b.tmps s;rw [g] at h1;obtain⟨p,cap,f,_⟩:=wg h1;rw [f] at h1;obtain⟨_,_,j',g1,g2,g3⟩:=b.hl.wo (au:=au) hh ht l (Nat.le_refl _) h1;rw [List.take_length] at g2 g3;refine wp_mono (hw j' w jl a ⟨b.defers,b.size,fun i=>?_,g2⟩) fun e a w hq=>AQ.trans g3 hq;by_cases e:s=i
 ·subst e;show br _ _ _ (get ((s,_)::ts) s) _;rw [ga,f]; exact g1
 ·show br _ _ _ (get ((s,_)::ts) i) _;rw [ir _ _ e];exact(b.tmps i).mono g3.toLe (Ext.refl _)
theorem ag.DS {c:Code}{Q:Exit->St->Prop}(id:Nat){k:Nat}{l:List α}(hh:h id=some (.arr k (l.map f))) (hw:l.length<=140737488355328->ag P c Q ⟨n,ts,ls,h⟩):ag P c Q ⟨n,ts,ls,h⟩:=fun j w jl a b =>
 hw (by obtain⟨_,_,_,_,_,g,_⟩:=b.hl.1.obj id _ hh; simpa [cA] using g) j w jl a b
theorem an.sx {t e:TypeId}{b:TI}{x:Operand}{cq:Array TypeId}{k id m:Nat}{nl:Bool}(f:aY P t=some b) (hk:b.k=.slice e) (bQ:cq[0]?=some t)
  (hx:ev ts x=.a (.d (bP k id nl m))):an P (mk dst (.call { callee:=.builtin .len,args:=#[x],argTypes:=cq }) ty pos aI g) ts ls h {} (.a (.d (.int .i64 (m:Int)))) ls h:=by
 cases m with
 | zero=>exact an.Ho f hk bQ hx
 | succ m=>exact an.HO f hk bQ hx
theorem AC.bP {f:FuncId}{args:List A}{k id m:Nat}{nl:Bool}{l:af}{rows:List (List D)}(hc:AC P f args h fun v h'=>v=.a (.d (.arr k id nl m))/\h'=l) (hH:l id=some (.arr k rows)) (hm:m=rows.length) :
  AC P f args h fun v h'=>v=.a (.d (Ab.bP k id nl m))/\h'=l:=by
 cases m with
 | succ m=>exact hc
 | zero =>
  refine⟨hc.1,fun j w dc hr s=>(hc.2 j w dc hr s).mono ?_⟩;rintro e w' ⟨v,cv,j',h',he,⟨rfl,rfl⟩,hv,q,t⟩;refine⟨_,cv,j',h',he,⟨rfl,rfl⟩, ?_,q,t⟩;have r:br j' w' [] (.a (.d (.arr k id nl rows.length))) cv:=by rw [<- hm]; exact hv
  obtain⟨u,cap,g,_⟩:=wg r;have hl:HL j' w' [] [] h':=⟨q,⟨.nil,by simp,by simp⟩⟩;have h0:rows=[]:=by cases rows with|nil=>rfl|cons _ _=>cases hm
  show aD j' w' (.slice k none nl []) cv;rcases hl.sv hH rfl r with ⟨base,g,p,_⟩|⟨b,y,z,ce,g,p,_⟩
  ·rw [g]; exact uL p fun _=>rfl
  ·subst h0; rw [g,p]; exact uL rfl fun h=>by cases h
theorem PV {j:J}{w:World}{z:A}{zv:Value}(hz:di j w z zv){k m:Nat}(hk:(cw z).length=k):aW (aD j w) (List.replicate m (cw z)).flatten (Builtin.zeroCells zv.cells m).toList:=by
 have hc:=hz.cells;have g:zv.cells.size=k:=by have:=hc.length; rw [hk] at this; simpa using this.symm
 have l:∀r∈List.replicate m (cw z),r.length=k:=fun r hr=>by rw [(List.mem_replicate.1 hr).2]; exact hk
 have s:=iu l;have hlen:(List.replicate m (cw z)).flatten.length=m*k:=by rw [s.1,List.length_replicate]
 refine aW.jV (by rw [hlen]; simp [Builtin.zeroCells,g]) fun p x y hx b=>?_;have f:p<m*k:=by rw [<- hlen]; exact(List.getElem?_eq_some_iff.1 hx).1
 have q:0<k:=Nat.pos_of_ne_zero fun e=>by rw [e] at f; simp at f
 have t:p % k<k:=Nat.mod_lt _ q;have u:p / k<m:=(Nat.div_lt_iff_lt_mul q).2 f;have h1:=HN l (i:=p / k) (o:=p % k) (row:=cw z) (by simp [List.getElem?_replicate,u]) t;rw [Nat.div_add_mod'] at h1;rw [h1] at hx;obtain⟨v,hv,hr⟩:=hc.get hx;have B:y=v:=by
  simp only [Builtin.zeroCells,Array.getElem?_toList,Array.getElem?_map,g] at b;rw [Array.getElem?_range,if_pos f] at b;simp only [Option.map_some,Option.some.injEq] at b;rw [Array.getElem?_toList] at hv;rw [<- b,getElem!_def,hv]
 rw [B]; exact hr
theorem aK.DT {t e:TypeId}{X B:TI}{x o:Operand}{ar:IntKind}{k id m i:Nat}{nl:Bool}{l:List α}{z:A}{pn:α}{E:TypeId}{H:String}{I:Array Edge}(Y:aY P t=some X) (hk:X.k=.slice e) (Z:aY P e=some B)
  (hz:B.zero=some z) (L:(cw z).length=B.size) (aa:f pn=cw z)
  (hx:ev ts x=.a (.d (.arr k id nl m))) (av:ev ts o=.a (.d (.int ar (i:Int)))) (F:k=B.size) (hh:h id=some (.arr k (l.map f))) (hm:m=l.length) (hi:i<=l.length) (ab:Nat.blt d n=true)
  (hr:aK P ops rest Q' ⟨n,(d,.any)::ts,ls,h.set id (some (.arr k ((l.take i++List.replicate (l.length-i) pn).map f)))⟩) :
  aK P ops (⟨some d,.slice t x (some o) none none,ty,pos,aI,none⟩::⟨none,.call { callee:=.builtin .clear,args:=#[.tmp d],argTypes:=#[t] },E,H,I,none⟩::rest) Q' ⟨n,ts,ls,h⟩:=by
 intro j w jl a u ad aw;subst hm;have h1:br j w jl (.a (.d (.arr k id nl (l.map f).length))) (a.eval x):=by have:=o8 u.tmps x; rw [hx] at this; simpa using this
 have ax:br j w jl (ev ts o) (a.eval o):=o8 u.tmps o;have bn:d<a.tmps.size:=by have:Nat.blt d n=true:=ab; rw [u.size]; simpa [Nat.blt_eq] using this
 have ay:∀cv,(a.put (some d) cv).eval (.tmp d)=cv:=fun cv=>by simp [Act.eval,Act.put,Array.getD_eq_getD_getElem?,bn]
 obtain⟨bh,bi,aA,_,bj,bk,_,ae⟩:=gh Z;rw [hz] at ae;obtain⟨zv,aB,aC⟩:=nH ae;have ah:=kF Y hk
 -- what the tail is
 have cut:∀(s:Option Addr) (cap:Nat),a.eval x=.slice s l.length cap->(execOp a.eval ⟨some d,.slice t x (some o) none none,ty,pos,aI,none⟩).run P w=.ok (.value (.slice (if cap=i then s else s.map (·.add (i*B.size))) (l.length-i) (cap-i))) w:=by
  intro s cap y;have aE:(Instr.sliceBound (a.eval o) l.length .sliceB).run P w=.ok i w:=by
   have:=pg (P:=P) (cap:=l.length) av ax (by omega) (by omega) .sliceB;rw [this]; simp
  have:=AV Y hk Z (a:=s) (len:=l.length) (cap:=cap) (lo:=some (a.eval o)) (hi:=none) (w:=w) (l:=i) (r:=l.length) aE (by simp);simp only [execOp,Sem.run_bind,y,Option.map_none,Option.map_some,this,Result.andThen,Sem.run_pure]
 have go:∀(cv:Value) (w':World) (j':J) (r:Value),(execOp a.eval ⟨some d,.slice t x (some o) none none,ty,pos,aI,none⟩).run P w=.ok (.value cv) w ->
   (Builtin.clear_ #[t] E #[cv]).run P w=.ok r w' ->
   HL j' w' jl ls (h.set id (some (.arr k ((l.take i++List.replicate (l.length-i) pn).map f))))->bN j w (aV j h jl) j' w' (aV j' (h.set id (some (.arr k ((l.take i++List.replicate (l.length-i) pn).map f)))) jl) ->
   wpList P ops ad (⟨some d,.slice t x (some o) none none,ty,pos,aI,none⟩::⟨none,.call { callee:=.builtin .clear,args:=#[.tmp d],argTypes:=#[t] },E,H,I,none⟩::rest) a w:=by
  intro cv w' j' r aF aG aH ai;refine wpList_step fun K aJ=>?_;rw [if_pos (rX rfl)];unfold Oper.wp;rw [aF,Oper.upon_value];refine aJ _ _ ?_;refine wpList_step fun bl aL=>?_;rw [if_pos (rX rfl)];unfold Oper.wp;have aM:(execOp (a.put (some d) cv).eval ⟨none,.call { callee:=.builtin .clear,args:=#[.tmp d],argTypes:=#[t] },E,H,I,none⟩).run P w=.ok (.value r) w':=by
   simp [execOp,resolve,invoke,builtin,ay,aG]
  rw [aM,Oper.upon_value];refine aL _ _ ?_;have s1:=u.put ai.toLe (Ext.refl _) (dst:=some d) ab (v:=.any) (cv:=cv) trivial aH;exact hr j' w' jl _ s1 ad fun aO aP aR aS a2 hq aU aX=>aw aO aP aR aS a2 hq aU (ai.trans aX)
 by_cases aj:i=l.length
 ·have same:h.set id (some (.arr k ((l.take i++List.replicate (l.length-i) pn).map f)))=h:=by
   rw [aj,List.take_length,Nat.sub_self,List.replicate_zero,List.append_nil]; exact af.kD h id _ hh
  obtain⟨s,cap,y,_⟩:=wg h1;rw [List.length_map] at y;refine go _ w j (.tuple #[]) (cut s cap y) ?_ (by rw [same]; exact u.hl) (by rw [same]; exact bN.refl _ _ _);rw [aj,Nat.sub_self];generalize (if cap=l.length then s else s.map (·.add (l.length*B.size)))=q;cases q<;>simp [Builtin.clear_,run_underlying ah]
 ·have M:i<l.length:=by omega
  rcases u.hl.sv hh (by simp) h1 with ⟨base,y,aZ,a0,N⟩|⟨b,cap,g,ce,y,aZ,N,hg,a1,O,Q,ak,al⟩
  ·have:l=[]:=by simpa using a0
   subst this; simp at M
  ·rw [List.length_map] at y Q al;have a3:w.heap[b]?=some (.cells g.toList.toArray ce (0,0)):=by simpa using hg
   have bm:l.length*k<=cap*k:=Nat.mul_le_mul_right _ Q;have a4:i*k<=l.length*k:=Nat.mul_le_mul_right _ hi;have a5:g.toList.length=cap*k:=by simpa using a1
   generalize R:(Builtin.zeroCells zv.cells (l.length-i)).toList=p;have S:∀j w,aW (aD j w) (List.replicate (l.length-i) (cw z)).flatten p:=fun j w=>by rw [<- R]; exact PV (aC j w) (L.trans F.symm)
   have bo:p.length=(l.length-i)*k:=by
    rw [<- (S j w).length,(iu (k:=k) fun r hr=>by rw [(List.mem_replicate.1 hr).2]; exact L.trans F.symm).1,List.length_replicate]
   have bp:(l.length-i)*k=l.length*k-i*k:=Nat.sub_mul _ _ _;obtain⟨w',a6,U⟩:=yA (au:=au) (P:=P) (off:=i*k) p 0 g.toList w a3 (by omega) (AL (S j w));have a7:(if cap=i then some (⟨b,0,none⟩:Addr) else(some (⟨b,0,none⟩:Addr)).map (·.add (i*B.size)))=some ⟨b,i*k,none⟩:=by
    rw [if_neg (by omega)]; simp [add_plain,F]
   have am:∀bg,bH j id (.arr k bg)=some b:=fun _=>by simp [bH,N]
   have a8:=U.le (j:=j) O;have C:(l.take i++List.replicate (l.length-i) pn).length=l.length:=by simp; omega
   obtain⟨a9,G⟩:=u.hl.setObj (o':=.arr k ((l.take i++List.replicate (l.length-i) pn).map f)) hh (am _) (am _) O U (by
    refine⟨some (b,cap),by rw [List.length_map,C]; simpa using N,⟨by simp,fun e=>by have:=congrArg List.length e; rw [List.length_map,C] at this; rw [this] at M; exact absurd M (Nat.not_lt_zero _)⟩,fun r a_=>?_,by
     rw [List.length_map,C]; obtain⟨_,_,_,_,_,a',_⟩:=u.hl.1.obj id _ hh; simpa using a',fun b' bq ao=>?_⟩
    ·obtain⟨q,hq,rfl⟩:=List.mem_map.1 a_;rcases List.mem_append.1 hq with hq|hq
     ·exact ak _ (List.mem_map.2 ⟨q,List.mem_of_mem_take hq,rfl⟩)
     ·rw [(List.mem_replicate.1 hq).2,aa]; exact L.trans F.symm
    ·simp only [Option.some.injEq,Prod.mk.injEq] at ao;obtain⟨rfl,rfl⟩:=ao;refine⟨_,ce,U.here,by rw [uB]; exact a5,O,by rw [List.length_map,C]; exact Q, ?_⟩;rw [List.length_map,C,List.map_append,List.flatten_append,List.map_replicate,aa];have ba:(cK g.toList (i*k+0) p).take (l.length*k)=(g.toList.take (i*k))++p:=by
      rw [Nat.add_zero];have bb:g.toList=g.toList.take (i*k)++(g.toList.drop (i*k)).take p.length++(g.toList.drop (i*k)).drop p.length:=by
       rw [List.append_assoc,List.take_append_drop,List.take_append_drop]
      have ap:((g.toList.drop (i*k)).take p.length).length=p.length:=by rw [List.length_take,List.length_drop]; omega
      have W:(g.toList.take (i*k)).length=i*k:=by rw [List.length_take]; omega
      have G:=Dq (g.toList.take (i*k)) ((g.toList.drop (i*k)).take p.length) p ap;rw [W] at G;conv=>lhs; rw [bb]
      rw [DE _ _ _ _ (by simp only [List.length_append,ap,W]; omega),G];rw [List.take_left' (by simp only [List.length_append,W]; omega)]
     rw [ba];have bc:((l.take i).map f).flatten=((l.map f).flatten).take (i*k):=by
      have bd:(l.map f).flatten=((l.take i).map f).flatten++((l.drop i).map f).flatten:=by rw [<- List.flatten_append,<- List.map_append,List.take_append_drop]
      have be:((l.take i).map f).flatten.length=i*k:=by
       rw [(iu (k:=k) fun r hr=>by obtain⟨q,hq,rfl⟩:=List.mem_map.1 hr; exact ak _ (List.mem_map.2 ⟨q,List.mem_of_mem_take hq,rfl⟩)).1,List.length_map,List.length_take]; congr 1; omega
      rw [bd,List.take_left' be]
     rw [bc];have aq:=(al.take (i*k)).imp fun _ _ h=>h.mono a8;rw [List.take_take,Nat.min_eq_left a4] at aq;exact aq.append (S j w'))
   refine go _ w' j (.tuple #[]) (by have:=cut (some ⟨b,0,none⟩) cap y; rw [a7] at this; exact this) ?_ a9 G;have bf:l.length-i≠0:=by omega
   obtain⟨q,hq⟩:=Nat.exists_eq_succ_of_ne_zero bf;rw [hq];rw [hq] at R;simp [Builtin.clear_,run_underlying ah,zeroValue,typeInfo,aA,aB,R,a6]
end
theorem AC.forget {P:Program}{f:FuncId}{args:List A}{h:af}{x:V}{H1 b:af}(hc:AC P f args h fun v h'=>v=x/\h'=H1) (g:∀n o,b n=some o->H1 n=some o):AC P f args h fun v h'=>v=x/\h'=b:=by
 refine⟨hc.1,fun j w dc hr k=>(hc.2 j w dc hr k).mono ?_⟩;rintro e w' ⟨v,cv,j',h',he,⟨rfl,rfl⟩,hv,l,m⟩;have hl:HL j' w' [] [] h':=⟨l,⟨.nil,by simp,by simp⟩⟩;obtain⟨h1,p⟩:=hl.forget (au:=au) g;exact⟨_,cv,j',b,he,⟨rfl,rfl⟩,hv,h1.1,m.trans p⟩
def mw {α:Type}(p:α->Bool) (l:List α):Int:=match l.findIdx? p with|some i=>(i:Int)|none => -1
theorem DU {α:Type}{p:α->Bool}{l:List α}(h:∀x∈l,p x=false):mw p l = -1:=by
 unfold mw;rw [List.findIdx?_eq_none_iff.2 h]
theorem DV {α:Type}{p:α->Bool}{l:List α}{i:Nat}{x:α}(h:∀y∈l.take i,p y=false) (hx:l[i]?=some x) (b:p x=true):mw p l=(i:Int):=by
 obtain⟨hi,e⟩:=List.getElem?_eq_some_iff.1 hx;unfold mw;rw [List.findIdx?_eq_some_iff_getElem.2 ⟨hi,by rw [e]; exact b,fun j f=>?_⟩];rw [Bool.not_eq_true];exact h _ (List.mem_iff_getElem?.2 ⟨j,by rw [List.getElem?_take,if_pos f]; exact List.getElem?_eq_getElem (by omega)⟩)
theorem PW {α:Type}{p:α->Bool}{l:List α}:decide ((0:Int)<=mw p l)=l.any p:=by
 unfold mw;cases h:l.findIdx? p with
 | none=>rw [Bool.eq_iff_iff]; simp [List.findIdx?_eq_none_iff.1 h]; intro x hx; simpa using List.findIdx?_eq_none_iff.1 h x hx
 | some i =>
  obtain⟨hi,b,_⟩:=List.findIdx?_eq_some_iff_getElem.1 h;have:l.any p=true:=List.any_eq_true.2 ⟨_,List.getElem_mem hi,b⟩;rw [this]; simp
theorem DW {α:Type}{p:α->Bool}{l:List α}{i:Nat}{x:α}(h:∀y∈l.take i,p y=false) (hx:l[i]?=some x) (f:p x=false):∀y∈l.take (i+1),p y=false:=by
 intro y b;obtain⟨hi,e⟩:=List.getElem?_eq_some_iff.1 hx;rw [List.take_succ_eq_append_getElem hi] at b;rcases List.mem_append.1 b with b|b
 ·exact h y b
 ·rw [List.mem_singleton.1 b,e]; exact f
structure iW {α:Type}(p:α->Bool) (l b9:List α) (i j:Nat):Prop where
 len:b9.length=l.length
 jl:j<=l.length
 ij:i<j
 fr:b9.take i=(l.take j).filter fun x=>!p x
 dr:b9.drop j=l.drop j
theorem A9 {α:Type}{p:α->Bool}{l:List α}(h:∀y∈l,p y=false):(l.filter fun x=>!p x)=l:=List.filter_eq_self.2 fun x hx=>by simp [h x hx]
theorem DX {α:Type}(p:α->Bool) (l:List α):(mw p l = -1/\∀x∈l,p x=false)\/∃i:Nat,mw p l=(i:Int)/\iW p l l i (i+1):=by
 unfold mw;cases h:l.findIdx? p with
 | none=>exact .inl ⟨rfl,List.findIdx?_eq_none_iff.1 h⟩
 | some i =>
  obtain⟨hi,b,f⟩:=List.findIdx?_eq_some_iff_getElem.1 h;refine .inr ⟨i,rfl,rfl,hi,Nat.lt_succ_self i, ?_,rfl⟩;rw [List.take_succ_eq_append_getElem hi,List.filter_append];have h1:[l[i]].filter (fun x=>!p x)=[]:=by simp [b]
  rw [h1,List.append_nil,A9];intro y g;obtain⟨n,hn⟩:=List.mem_iff_getElem?.1 g;rw [List.getElem?_take] at hn
  split at hn
  ·rename_i bn
   have:=f n bn;obtain⟨_,e⟩:=List.getElem?_eq_some_iff.1 hn;rw [<- e]; simpa using this
  ·cases hn
section
variable {α:Type}{p:α->Bool}{l b9:List α}{i j:Nat}{x:α}
theorem iW.at (h:iW p l b9 i j) (hx:b9[j]?=some x):l[j]?=some x:=by
 have h1:=congrArg (fun z=>z[0]?) h.dr;simp only [List.getElem?_drop,Nat.add_zero] at h1;rw [<- h1]; exact hx
theorem iW.next (h:iW p l b9 i j) (hx:b9[j]?=some x):b9.drop (j+1)=l.drop (j+1):=by
 have h1:=congrArg (fun z=>z.drop 1) h.dr
 simpa only [List.drop_drop] using h1
theorem iW.skip (h:iW p l b9 i j) (hx:b9[j]?=some x) (b:p x=true):iW p l b9 i (j+1):=by
 obtain⟨hi,e⟩:=List.getElem?_eq_some_iff.1 (h.at hx);refine⟨h.len,hi,Nat.lt_succ_of_lt h.ij, ?_,h.next hx⟩;rw [List.take_succ_eq_append_getElem hi,List.filter_append,e];have h1:[x].filter (fun x=>!p x)=[]:=by simp [b]
 rw [h1,List.append_nil]; exact h.fr
theorem iW.keep (h:iW p l b9 i j) (hx:b9[j]?=some x) (b:p x=false):iW p l (b9.set i x) (i+1) (j+1):=by
 obtain⟨hi,e⟩:=List.getElem?_eq_some_iff.1 (h.at hx);have f:=h.ij;have hlen:=h.len;refine⟨by rw [List.length_set]; exact h.len,hi,Nat.succ_lt_succ h.ij, ?_, ?_⟩
 ·rw [List.take_succ_eq_append_getElem hi,List.filter_append,e];have h1:[x].filter (fun x=>!p x)=[x]:=by simp [b]
  rw [h1,<- h.fr,List.take_succ_eq_append_getElem (by rw [List.length_set]; omega),List.getElem_set_self,List.take_set_of_le (Nat.le_refl i)]
 ·rw [List.drop_set_of_lt (by omega)]; exact h.next hx
theorem iW.fin (h:iW p l b9 i j) (f:¬j<l.length):i<=b9.length/\b9.take i=l.filter fun x=>!p x:=by
 have h1:=h.fr;have g:=h.ij;have k:=h.jl;have b:l.take j=l:=List.take_of_length_le (by omega);rw [b] at h1;exact⟨by rw [h.len]; omega,h1⟩
end
end Go.Ab
/-
 Many slices that may be stored to become data at once,wherever values tell them. No program text.
-/
namespace Go.Ab
open Go Go.RowKit
variable {au:bS}
variable {f_:eT}
theorem HL.PX {j:J}{w:World}{jl:List Nat}{ls:List (List D)}{h:af}(hl:HL j w jl ls h){k id:Nat}{rows:List (List D)}(hi:h id=some (.arr k rows)) :
  ∃j',HL j' w jl ls (h.set id none)/\bN j w (aV j h jl) j' w (aV j' (h.set id none) jl)/\∀k' nl cv,aD j w (.arr k' id nl rows.length) cv->aD j' w (.slice k none nl rows) cv:=by
 obtain⟨u,y⟩:=hl.forget (au:=au) (h':=h.set id none) fun n o hn=>by
  by_cases c:n=id
  ·subst c; rw [af.aT] at hn; cases hn
  ·rwa [af.aQ h _ c] at hn
 obtain⟨_,dI,p,E,S,G,hblk⟩:=hl.1.obj id _ hi;cases dI with
 | none =>
  have H:=E.1 rfl;refine⟨j,u,y,fun k' nl cv hx=>?_⟩;rcases hl.sv hi rfl (k':=k') (nl:=nl) hx with ⟨base,g,l,_⟩|⟨b,cap,z,ce,g,l,f,_⟩
  ·subst H; rw [g]; exact uL l fun _=>rfl
  ·rw [p] at f; cases f
 | some I =>
  obtain⟨b,cap⟩:=I;obtain⟨U,W,hg,X,K,Y,Z⟩:=hblk b cap rfl;have bn:=jJ hg;have q:bH j id (.arr k rows)=some b:=by simp [bH,p]
  have L:¬aV j (h.set id none) jl b:=by
   rintro (hm|⟨n,o,h1,M⟩)
   ·exact hl.2.apart b hm (.inr ⟨id,_,hi,q⟩)
   ·have c:n≠id:=fun c=>by subst c; rw [af.aT] at h1; cases h1
    rw [af.aQ h _ c] at h1;exact c (hl.1.inj n o id _ b h1 hi M q)
  have hle:Le j w (j.eC b (rows.length*k)) w:=⟨Nat.le_refl _,fun _ _=>rfl,fun b'=>by
   simp only [J.eC]
   split
   ·rename_i e; rw [e,K]; exact Nat.zero_le _
   ·exact Nat.le_refl _,fun _ _ _=>rfl,fun _ _=>.inl rfl,fun _ _ _ _ _ h=>h⟩
  have r:∀b',b'≠b->(j.eC b (rows.length*k)).F b'=j.F b':=fun b' N=>by simp only [J.eC]; rw [if_neg N]
  have B:=u.keep hle (fun b' m=>⟨rfl,r b' (fun e=>L (e▸m))⟩) (fun _ _ _=>rfl) (fun b' s=>by rw [r b' (by omega)]; exact hl.1.fresh b' s);refine⟨j.eC b (rows.length*k),B.1,{ toLe:=hle,size:=Nat.le_refl _,frame:=fun b' _ m=>⟨rfl,r b' fun e=>m (e▸.inr ⟨id,_,hi,q⟩)⟩,own:=fun b' s m=>y.own b' s ((B.2 b').1 m),os:=rfl,tape:=rfl,output:=fZ.rfl },fun k' nl cv hx=>?_⟩
  rcases hl.sv hi rfl (k':=k') (nl:=nl) hx with ⟨base,g,l,_,f⟩|⟨b',aa,z,ce,g,l,f,C,ab,ad,O,P,Q⟩
  ·rw [p] at f; cases f
  ·rw [p] at f;simp only [Option.some.injEq,Tk.mk.injEq,Prod.mk.injEq] at f;obtain⟨⟨rfl,rfl⟩,_⟩:=f;subst g l;refine vW P G O (fun i x hx=>?_) (fun t ht=>by cases ht) (fun _ _ _ _=>.cells C);obtain⟨v,hv,hr⟩:=Q.get hx;have R:i<rows.length*k:=by
    rcases Nat.lt_or_ge i (rows.length*k) with h|h
    ·exact h
    ·rw [List.getElem?_take,if_neg (by omega)] at hv; cases hv
   refine⟨by simp only [J.eC,if_true]; omega,v, ?_,hr.mono hle⟩;rw [Nat.zero_add,cell_of_row w b i z ce (0,0) C];rw [List.getElem?_take,if_pos R] at hv
   simpa using hv
def jA (h:af) (ids:List Nat):af:=fun x=>if x∈ids then none else h x
theorem PY (h:af) (id:Nat) (ids:List Nat):jA (h.set id none) ids=jA h (id::ids):=by
 funext x
 unfold jA;by_cases c:x∈ids
 ·rw [if_pos c,if_pos (by simp [c])]
 ·rw [if_neg c];by_cases e:x=id
  ·subst e; rw [af.aT,if_pos (by simp)]
  ·rw [af.aQ _ _ e,if_neg (by simp [c,e])]
def sA (O:List (Nat×Obj)) (j:J) (w:World) (j':J):Prop:=Le j w j' w/\∀id k rows,(id,Obj.arr k rows)∈O->∀k' nl cv,aD j w (.arr k' id nl rows.length) cv->aD j' w (.slice k none nl rows) cv
theorem HL.Ih {w:World}{jl:List Nat}{ls:List (List D)}:∀(O:List (Nat×Obj)){j:J}{h:af},HL j w jl ls h->(∀p∈O,h p.1=some p.2/\∃k rows,p.2=.arr k rows)->(O.map (·.1)).Nodup ->
  ∃j',HL j' w jl ls (jA h (O.map (·.1)))/\bN j w (aV j h jl) j' w (aV j' (jA h (O.map (·.1))) jl)/\sA O j w j'
 | [],j,h,hl,_,_=>by
  have e:jA h (([]:List (Nat×Obj)).map (·.1))=h:=by funext x; simp [jA]
  rw [e];exact⟨j,hl,bN.refl _ _ _,Le.refl _ _,fun _ _ _ hm=>by cases hm⟩
 | (id,o)::O,j,h,hl,g,hn=>by
  obtain⟨h1,k,rows,rfl⟩:=g (id,o) (.head _);dsimp only at h1;obtain⟨v,g1,g2,g3⟩:=hl.PX (au:=au) h1;rw [List.map_cons] at hn;obtain⟨m,r⟩:=List.nodup_cons.1 hn;have s:∀p∈O,p.1≠id:=fun p b e=>by
   have hm:=List.mem_map_of_mem (f:=fun q:Nat×Obj=>q.1) b;rw [e] at hm; exact m hm
  obtain⟨t,f1,f2,f3,f4⟩:=HL.Ih O g1 (fun p b=>⟨by rw [af.aQ _ _ (s p b)]; exact(g p (.tail _ b)).1,(g p (.tail _ b)).2⟩) r;rw [PY] at f1 f2;refine⟨t,f1,g2.trans f2,g2.toLe.trans f3,fun u k' bg hm l nl cv hx=>?_⟩;rcases List.mem_cons.1 hm with e|hm
  ·simp only [Prod.mk.injEq,Obj.arr.injEq] at e;obtain⟨rfl,rfl,rfl⟩:=e;exact(g3 l nl cv hx).mono f3
  ·exact f4 u k' bg hm l nl cv (hx.mono g2.toLe)
theorem aD.PZ {j j':J}{w:World}(hle:Le j w j' w){k:Nat}{nl:Bool}{rows bg:List (List D)}{v:Value}(hlen:bg.length=rows.length) (hk:∀r∈bg,r.length=k) (hr:∀(i:Nat) x y u,rows.flatten[i]?=some x->bg.flatten[i]?=some y->aD j w x u->aD j' w y u)
  (h:aD j w (.slice k none nl rows) v):aD j' w (.slice k none nl bg) v:=by
 cases h with
 | gD _ _ _ =>
  have:bg=[]:=List.eq_nil_of_length_eq_zero hlen;subst this; exact .gD _ _ (by simp)
 | slice _ _ _ a cap cv b hn hc bQ f ht =>
  have g:bg.flatten.length=rows.flatten.length:=by rw [(iu hk).1,(iu b).1,hlen]
  rw [<- hlen];refine .slice k none bg a cap cv hk (by omega) (by omega) ⟨bQ.1.imp (fun e=>by subst e; exact List.eq_nil_of_length_eq_zero hlen) id,fun i hi=>(bQ.mono hle).2 i (by omega)⟩ (fun i hi=>?_) (fun t ht=>by cases ht);exact hr i _ _ _ (List.getElem?_eq_getElem (by omega)) (List.getElem?_eq_getElem hi) (f i (by omega))
section
variable {P:Program}{c:Code}{Q:Exit->St->Prop}{n:Nat}{ts:Ts}{ls:List (List D)}{h:af}
theorem ag.P0 (O:List (Nat×Obj)) (c0:Nat){xs l:List D}(hO:∀p∈O,h p.1=some p.2/\∃k rows,p.2=.arr k rows) (hn:(O.map (·.1)).Nodup) (hc:h c0=some (.cells xs)) (v:∀j w j' cs,sA O j w j'->aW (aD j w) xs cs->aW (aD j' w) l cs)
  (hw:ag P c Q ⟨n,ts,ls,(jA h (O.map (·.1))).set c0 (some (.cells l))⟩):ag P c Q ⟨n,ts,ls,h⟩:=by
 intro j w jl a g;have hold:=(g.hl.1.obj c0 _ hc).2;obtain⟨j',f1,f2,f3⟩:=HL.Ih (au:=au) O g.hl hO hn;have y:c0∉O.map (·.1):=fun hm=>by
  obtain⟨p,z,e⟩:=List.mem_map.1 hm;obtain⟨g1,k,rows,g2⟩:=hO p z;rw [e,hc,g2] at g1; cases g1
 have q:jA h (O.map (·.1)) c0=some (.cells xs):=by unfold jA; rw [if_neg y]; exact hc
 have s1:gE j' w jl ⟨n,ts,ls,jA h (O.map (·.1))⟩ a:=⟨g.defers,g.size,fun i=>(g.tmps i).mono f2.toLe (Ext.refl _),f1⟩;obtain⟨cs,B,r,s,M⟩:=hold;have bn:=(g.hl.1.obj c0 _ hc).1;have C:j'.out c0=j.out c0:=f2.toLe.out c0 bn;have E:j'.F (j'.out c0)=0:=by
  obtain⟨_,_,_,_,G⟩:=(f1.1.obj c0 _ q).2;exact G
 have hr:fo j' w ((jA h (O.map (·.1))).set c0 (some (.cells l))):=by
  refine⟨fun m o hm=>?_,fun m1 o1 m2 o2 x h1 H r s=>?_,f1.1.fresh⟩
  ·by_cases e:m=c0
   ·subst e; rw [af.aT] at hm; obtain rfl:=Option.some.inj hm;exact⟨(f1.1.obj m _ q).1,cs,B,by rw [C]; exact r,v j w j' cs f3 s,E⟩
   ·rw [af.aQ _ _ e] at hm; exact f1.1.obj m o hm
  ·have f:∀m o,((jA h (O.map (·.1))).set c0 (some (.cells l))) m=some o->∃o',jA h (O.map (·.1)) m=some o'/\bH j' m o'=bH j' m o:=fun m o hm=>by
    by_cases e:m=c0
    ·subst e; rw [af.aT] at hm; obtain rfl:=Option.some.inj hm;exact⟨_,q,rfl⟩
    ·rw [af.aQ _ _ e] at hm; exact⟨o,hm,rfl⟩
   obtain⟨I,g1,J⟩:=f m1 o1 h1;obtain⟨K,g2,k2⟩:=f m2 o2 H;exact f1.1.inj m1 I m2 K x g1 g2 (J.trans r) (k2.trans s)
 have L:HL j' w jl ls ((jA h (O.map (·.1))).set c0 (some (.cells l))):=⟨hr,⟨f1.2.each,f1.2.nodup,fun b t u=>f1.2.apart b t ((aV.ph q).1 u)⟩⟩;refine wp_mono (hw j' w jl a ⟨g.defers,g.size,fun i=>(g.tmps i).mono f2.toLe (Ext.refl _),L⟩) fun e a w hq=>AQ.trans ?_ hq;exact { f2 with own:=fun b t u=>f2.own b t ((aV.ph q).1 u) }
def kJ (h:af) (k:Nat) (l:List Nat):af:=fun x=>if x∈l then some (.arr k []) else h x
theorem ag.Ii (k:Nat):∀(m:Nat){h:af},(∀l:List Nat,l.length=m->l.Nodup->(∀x∈l,h x=none)->ag P c Q ⟨n,ts,ls,kJ h k l⟩)->ag P c Q ⟨n,ts,ls,h⟩
 | 0,h,hw=>by
  have:=hw [] rfl .nil (by simp);have e:kJ h k []=h:=by funext x; simp [kJ]
  rwa [e] at this
 | m+1,h,hw=>by
  refine ag.sw k fun t ht=>ag.Ii k m fun l hl hn b=>?_;have f:t∉l:=fun hm=>by have:=b t hm; rw [af.aT] at this; cases this
  have e:kJ (h.set t (some (.arr k []))) k l=kJ h k (t::l):=by
   funext x
   unfold kJ;by_cases c:x∈l
   ·rw [if_pos c,if_pos (by simp [c])]
   ·rw [if_neg c];by_cases e:x=t
    ·subst e; rw [af.aT,if_pos (by simp)]
    ·rw [af.aQ _ _ e,if_neg (by simp [c,e])]
  rw [e];refine hw (t::l) (by rw [List.length_cons,hl]) (List.nodup_cons.2 ⟨f,hn⟩) fun x hx=>?_;rcases List.mem_cons.1 hx with rfl|hx
  ·exact ht
  ·have:=b x hx;have g:x≠t:=fun e=>f (e▸hx)
   rwa [af.aQ _ _ g] at this
end
def Th (j:J) (w:World) (j':J) (a b:D):Prop:=∀u,aD j w a u->aD j' w b u
theorem Th.same {j j':J}{w:World}(hle:Le j w j' w) (a:D):Th j w j' a a:=fun _ h=>h.mono hle
theorem Th.list {j j':J}{w:World}(hle:Le j w j' w):∀l:List D,aW (Th j w j') l l
 | []=>.nil
 | a::l=>.cons (Th.same hle a) (Th.list hle l)
theorem Th.cells {j j':J}{w:World}{xs b:List D}{cs:List Value}(h:aW (Th j w j') xs b) (hc:aW (aD j w) xs cs):aW (aD j' w) b cs:=by
 induction h generalizing cs with
 | nil=>cases hc; exact .nil
 | cons x _ f=>cases hc with|cons y t=>exact .cons (x _ y) (f t)
theorem Th.flat {j j':J}{w:World}{rows bg:List (List D)}(hr:aW (fun r b=>aW (Th j w j') r b) rows bg):aW (Th j w j') rows.flatten bg.flatten:=by
 induction hr with
 | nil=>exact .nil
 | cons x _ f=>exact aW.append x f
theorem Th.rows {j j':J}{w:World}(hle:Le j w j' w){k:Nat}{nl:Bool}{rows bg:List (List D)}(hk:∀r∈bg,r.length=k) (hr:aW (fun r f=>aW (Th j w j') r f) rows bg) :
  Th j w j' (.slice k none nl rows) (.slice k none nl bg):=fun u h=>by
 refine aD.PZ hle hr.length.symm hk (fun i x y v hx g l=>?_) h;obtain⟨m,b,ht⟩:=(Th.flat hr).get hx;rw [g] at b; obtain rfl:=Option.some.inj b;exact ht v l
theorem DY {α β b:Type}{R:β->b->Prop}{f:α->β}{g:α->b}:∀{l:List α},(∀x∈l,R (f x) (g x))->aW R (l.map f) (l.map g)
 | [],_=>.nil
 | a::_,h=>.cons (h a (.head _)) (DY fun x hx=>h x (.tail _ hx))
theorem Th.arr {O:List (Nat×Obj)}{j j':J}{w:World}(b:sA O j w j'){k id n:Nat}{nl:Bool}{rows:List (List D)}(hm:(id,Obj.arr k rows)∈O) (hn:n=rows.length):Th j w j' (bP k id nl n) (.slice k none nl rows):=fun u h=>by
 subst hn;cases e:rows with
 | nil=>subst e; exact aD.mono b.1 h
 | cons a l =>
  have f:0<rows.length:=by rw [e]; exact Nat.succ_pos _
  rw [Ig f] at h;rw [<- e]; exact b.2 id k rows hm k nl u h
theorem ag.P3 {P:Program}{c:Code}{Q:Exit->St->Prop}{n:Nat}{ts:Ts}{ls:List (List D)}{h:af}(O:List (Nat×Obj)) (c0:Nat){xs b:List D}(hO:∀p∈O,h p.1=some p.2/\∃k rows,p.2=.arr k rows) (hn:(O.map (·.1)).Nodup) (hc:h c0=some (.cells xs))
  (f:∀j w j',sA O j w j'->aW (Th j w j') xs b) (hw:ag P c Q ⟨n,ts,ls,(jA h (O.map (·.1))).set c0 (some (.cells b))⟩):ag P c Q ⟨n,ts,ls,h⟩ :=
 ag.P0 O c0 hO hn hc (fun j w j' _ g hx=>Th.cells (f j w j' g) hx) hw
theorem HL.DZ {j:J}{w:World}{jl:List Nat}{ls:List (List D)}{h:af}(hl:HL j w jl ls h){c0:Nat}{xs:List D}(hc:h c0=some (.cells xs)) :
  HL j w (jl++[j.out c0]) (ls++[xs]) (h.set c0 none)/\bN j w (aV j h jl) j w (aV j (h.set c0 none) (jl++[j.out c0])):=by
 have k:=hl.forget (au:=au) (h':=h.set c0 none) fun n o hn=>by
  by_cases e:n=c0
  ·subst e; rw [af.aT] at hn; cases hn
  ·rwa [af.aQ h _ e] at hn
 obtain⟨bn,cs,m,h1,p,q⟩:=hl.1.obj c0 _ hc;have r:∀n o,(h.set c0 none) n=some o->bH j n o≠some (j.out c0):=fun n o hn e=>by
  have l:n≠c0:=fun e=>by rw [e,af.aT] at hn; cases hn
  rw [af.aQ h _ l] at hn;exact l (hl.1.inj n o c0 _ _ hn hc e rfl)
 have s:j.out c0∉jl:=fun hm=>hl.2.apart _ hm (.inr ⟨c0,_,hc,rfl⟩);refine⟨⟨k.1.1,⟨k.1.2.each.append (.cons ⟨cs,m,h1,p,q⟩ .nil),List.nodup_append.2 ⟨hl.2.nodup,by simp,fun a t b g e=>?_⟩,fun b g f=>?_⟩⟩, ?_⟩
 ·rw [List.mem_singleton] at g; exact s (by rw [<- g,<- e]; exact t)
 ·rcases List.mem_append.1 g with g|g
  ·exact k.1.2.apart b g f
  ·rw [List.mem_singleton] at g;rcases f with f|⟨n,o,hn,e⟩
   ·cases f
   ·exact r n o hn (g▸e)
 ·refine { bN.refl j w (aV j h jl) with own:=fun b g f=>?_ };rcases f with f|f
  ·rcases List.mem_append.1 f with f|f
   ·exact .inl f
   ·rw [List.mem_singleton] at f; subst f; exact .inr ⟨c0,_,hc,rfl⟩
  ·exact k.2.own b g (.inr f)
theorem HL.D0 {j:J}{w:World}{jl:List Nat}{b:Nat}{ls:List (List D)}{xs:List D}{h:af}(hl:HL j w (jl++[b]) (ls++[xs]) h) :
  HL (j.obj b) w jl ls (h.set j.next (some (.cells xs)))/\bN j w (aV j h (jl++[b])) (j.obj b) w (aV (j.obj b) (h.set j.next (some (.cells xs))) jl):=by
 have hle:Le j w (j.obj b) w:=⟨by simp [J.obj],fun id hi=>by simp only [J.obj]; rw [if_neg (by omega)],fun _=>Nat.le_refl _,fun _ _ _=>rfl,fun _ _=>.inl rfl,fun _ _ _ _ _ h=>h⟩;obtain⟨hk,t⟩:=hl.keep hle (fun _ _=>⟨rfl,rfl⟩) (fun _ _ _=>rfl) hl.1.fresh;have hlen:=hl.2.each.length;have q:jl.length=ls.length:=by simp at hlen; omega
 have u:jW (j.obj b) w b xs:=by
  obtain⟨y,l,hr⟩:=hk.2.each.get (i:=ls.length) (x:=xs) (by simp);rw [<- q] at l;simp at l; subst l; exact hr
 have r:aW (fun xs b=>jW (j.obj b) w b xs) ls jl\/True:=.inr trivial;have r:∀{ls jl:List _},aW (fun xs b'=>jW (j.obj b) w b' xs) (ls++[xs]) (jl++[b])->ls.length=jl.length->aW (fun xs b'=>jW (j.obj b) w b' xs) ls jl:=fun {ls jl} v z=>by
  have:=v.take ls.length;rw [List.take_left] at this;rw [z,List.take_left] at this;exact this
 have B:=hl.1.mm (Nat.le_refl j.next);have C:=hl.2.nodup;obtain⟨E,I,F⟩:=List.nodup_append.1 C;have G:b∉jl:=fun hm=>F b hm b (by simp) rfl;have hold:∀id o,h id=some o->id≠j.next:=fun id o hi e=>by rw [e,B] at hi; cases hi
 have s:∀id o,h id=some o->bH (j.obj b) id o≠some b:=fun id o hi e=>hk.2.apart b (by simp) (.inr ⟨id,o,hi,e⟩);obtain⟨cs,H,g1,g2,g3⟩:=u;have g:(j.obj b).out j.next=b:=by simp [J.obj]
 refine⟨⟨⟨fun id o hi=>?_,fun jv o1 jw o2 x h1 k m p=>?_,hk.1.fresh⟩,⟨r hk.2.each q.symm,E,fun x hx f=>?_⟩⟩, ?_⟩
 ·by_cases e:id=j.next
  ·subst e; rw [af.aT] at hi; obtain rfl:=Option.some.inj hi;exact⟨by simp [J.obj],cs,H,by rw [g]; exact g1,g2,by rw [g]; exact g3⟩
  ·rw [af.aQ h _ e] at hi; exact hk.1.obj id o hi
 ·by_cases c1:jv=j.next<;>by_cases c2:jw=j.next
  ·omega
  ·subst c1; rw [af.aT] at h1; obtain rfl:=Option.some.inj h1;rw [af.aQ h _ c2] at k;have:some ((j.obj b).out j.next)=some x:=m;rw [g] at this;exact absurd (this▸p) (s jw o2 k)
  ·subst c2; rw [af.aT] at k; obtain rfl:=Option.some.inj k;rw [af.aQ h _ c1] at h1;have:some ((j.obj b).out j.next)=some x:=p;rw [g] at this;exact absurd (this▸m) (s jv o1 h1)
  ·rw [af.aQ h _ c1] at h1; rw [af.aQ h _ c2] at k;exact hk.1.inj jv o1 jw o2 x h1 k m p
 ·rcases f with f|⟨id,o,hi,e⟩
  ·cases f
  ·by_cases c:id=j.next
   ·subst c; rw [af.aT] at hi; obtain rfl:=Option.some.inj hi;have:some ((j.obj b).out j.next)=some x:=e;rw [g] at this;exact G (Option.some.inj this▸hx)
   ·rw [af.aQ h _ c] at hi;exact hk.2.apart x (by simp [hx]) (.inr ⟨id,o,hi,e⟩)
 ·refine { bN.refl j w (aV j h (jl++[b])) with toLe:=hle,frame:=fun _ _ _=>⟨rfl,rfl⟩,own:=fun x _ f=>?_ };rcases f with f|⟨id,o,hi,e⟩
  ·exact .inl (by simp [f])
  ·by_cases c:id=j.next
   ·subst c; rw [af.aT] at hi; obtain rfl:=Option.some.inj hi;have:some ((j.obj b).out j.next)=some x:=e;rw [g] at this;exact .inl (by simp [Option.some.inj this])
   ·rw [af.aQ h _ c] at hi;exact(t x).1 (.inr ⟨id,o,hi,e⟩)
section
variable {P:Program}{c:Code}{Q:Exit->St->Prop}{n:Nat}{ts:Ts}{ls:List (List D)}{h:af}
theorem ag.DZ (s:Nat){c0:Nat}{xs:List D}(l:get ts s=.a (.d (.ptr c0 0))) (hc:h c0=some (.cells xs)) (hw:ag P c Q ⟨n,(s,.cW ls.length 0)::ts,ls++[xs],h.set c0 none⟩):ag P c Q ⟨n,ts,ls,h⟩:=by
 intro j w jl a f;obtain⟨h1,m⟩:=f.hl.DZ (au:=au) hc;have hlen:ls.length=jl.length:=f.hl.2.each.length;refine wp_mono (hw j w (jl++[j.out c0]) a ⟨f.defers,f.size,fun i=>?_,h1⟩) fun e a w hq=>AQ.trans m hq;by_cases e:s=i
 ·subst e;show br _ _ _ (get ((s,_)::ts) s) _;rw [ga];have hv:br j w jl (get ts s) (a.tmps.getD s undef):=f.tmps s;rw [l] at hv;have g:aD j w (.ptr c0 0) (a.tmps.getD s undef):=hv;generalize a.tmps.getD s undef=v at g;cases g with
  | ptr _ _ _=>exact⟨j.out c0,by rw [hlen]; simp,rfl⟩
 ·show br _ _ _ (get ((s,_)::ts) i) _;rw [ir _ _ e];exact(f.tmps i).mono (Le.refl _ _) fun k b hk=>by rw [List.getElem?_append_left (List.getElem?_eq_some_iff.1 hk).1]; exact hk
theorem ag.D0 (s:Nat){xs:List D}{l:Ts}(y:get ts s=.cW ls.length 0) (hk:dJ ts ls.length l) (hw:∀c0,h c0=none->ag P c Q ⟨n,(s,.a (.d (.ptr c0 0)))::l,ls,h.set c0 (some (.cells xs))⟩):ag P c Q ⟨n,ts,ls++[xs],h⟩:=by
 intro j w jl a g;have hlen:(ls++[xs]).length=jl.length:=g.hl.2.each.length;have hv:br j w jl (get ts s) (a.tmps.getD s undef):=g.tmps s;rw [y] at hv;obtain⟨b,u,ev⟩:=hv;have v:jl=jl.take ls.length++[b]:=by
  have h1:=List.take_append_drop ls.length jl;have bn:=(List.getElem?_eq_some_iff.1 u).1;have m:jl.drop ls.length=[b]:=by
   rw [List.drop_eq_getElem_cons bn,(List.getElem?_eq_some_iff.1 u).2,List.drop_eq_nil_of_le (by simp at hlen; omega)]
  rw [m] at h1; exact h1.symm
 have hl:HL j w (jl.take ls.length++[b]) (ls++[xs]) h:=by rw [<- v]; exact g.hl
 obtain⟨h1,m⟩:=hl.D0 (au:=au);refine wp_mono (hw j.next (g.hl.1.mm (Nat.le_refl _)) (j.obj b) w (jl.take ls.length) a ⟨g.defers,g.size,fun i=>?_,h1⟩) fun e a w hq=>AQ.trans (by rw [<- v] at m; exact m) hq;by_cases e:s=i
 ·subst e;show br _ _ _ (get ((s,_)::l) s) _;rw [ga,ev];have:=aD.ptr (j:=j.obj b) (w:=w) j.next 0 (by simp [J.obj]);rw [show (j.obj b).out j.next=b from by simp [J.obj]] at this;exact this
 ·show br _ _ _ (get ((s,_)::l) i) _;rw [ir _ _ e];rcases hk.get i with p|⟨p,bn,z⟩
  ·rw [p]; trivial
  ·have hv:=g.tmps i;have hv:br j w jl (Ab.get ts i) (a.tmps.getD i undef):=hv;rw [<- p] at hv;have f:=hv.mono m.toLe (Ext.refl _);cases hx:Ab.get l i with
   | cW q off =>
    rw [hx] at f;obtain⟨b',r,t⟩:=f;exact⟨b',by rw [List.getElem?_take_of_lt (bn q off hx)]; exact r,t⟩
   | iI c q off =>
    rw [hx] at f;refine⟨fun hc=>?_,f.2⟩;obtain⟨b',r,t⟩:=f.1 hc;exact⟨b',by rw [List.getElem?_take_of_lt (z c q off hx)]; exact r,t⟩
   | any=>trivial
   | a x=>rw [hx] at f; exact f
   | cL xs=>rw [hx] at f; exact f
   | gd c x=>rw [hx] at f; exact f
   | full k rows=>rw [hx] at f; exact f
   | rV c k rows=>rw [hx] at f; exact f
end
end Go.Ab
/-
 slices.Reverse over a slice that may be stored to; variables whose field is such a slice. No program text.
-/
namespace Go.Ab
open Go Go.RowKit Go.Proofs Go.Shelf Go.Sort
variable {au:bS}
section
variable {P:Program}{ρ:Ren}{T:Type} [Inhabited T] {v:T->Value}{d1:T->D}
end
theorem P4 {j:J}{w:World}{h:af}{t k:Nat}{xs:List D}{cs:List Value}(i f g:Nat) (hh:fo j w h) (ht:h t=some (.arr k [])) (hx:aW (aD j w) xs cs) (hi:xs[i]?=some (.slice f none true [])) :
  aW (aD j w) (xs.set i (.arr g t true 0)) cs:=by
 refine aW.jV (by rw [List.length_set,hx.length]) fun n x v hn hv=>?_;rw [List.getElem?_set] at hn
 split at hn
 ·rename_i e
  subst e
  split at hn
  ·simp only [Option.some.injEq] at hn; subst hn;obtain⟨l,b,hr⟩:=hx.get hi;rw [hv] at b; simp only [Option.some.injEq] at b; subst b;exact HQ hh ht hr
  ·cases hn
 ·obtain⟨l,b,hr⟩:=hx.get hn;rw [hv] at b; simp only [Option.some.injEq] at b; subst b;exact hr
end Go.Ab
/-
 Scopes: code that no jump leaves.
-/
namespace Go.Ab
open Go Go.RowKit
variable {au:bS}
end Go.Ab
namespace Go.Ab
variable {au:bS}
def on {α β:Sort _}(v:α) (k:α->β):β:=k v
namespace Q
universe u
variable {R O O2 Z:Type}{α:Type}
theorem jY {c:Bool}{a b r:α}(h:c=true) (f:a=r):cond c a b=r:=by rw [h]; exact f
theorem uz {c:Bool}{a b r:α}(h:c=false) (f:b=r):cond c a b=r:=by rw [h]; exact f
theorem A_ {c:Bool}{a b:Option R}{x y:O}{K:O->Option R}(h1:a=K x) (f:b=K y):cond c a b=K (cond c x y):=by cases c<;>assumption
theorem qw {c:Bool}{a b:Option R}{x y:Option O}{K:O->Option R}(h1:a=Option.bind x K) (f:b=Option.bind y K):cond c a b=Option.bind (cond c x y) K:=by cases c<;>assumption
theorem wq {o:Option α}{v:α}{k:α->Option R}{K:O->Option R}{b:α->O}(h:o=some v) (f:∀x,x=v->k x=K (b x)):o.bind k=K (on v b):=by rw [h]; exact f v rfl
theorem lP {o:Option α}{v:α}{k:α->Option R}{K:O->Option R}{b:α->Option O}(h:o=some v) (f:∀x,x=v->k x=Option.bind (b x) K):o.bind k=Option.bind (on v b) K:=by rw [h]; exact f v rfl
theorem kK {o o':Option α}{k:α->Option R}{K:O->Option R}{b:α->Option O}(h:o=o') (f:∀x,k x=Option.bind (b x) K):o.bind k=Option.bind (o'.bind b) K:=by
 rw [h]; cases o' with
 | none=>rfl
 | some v=>exact f v
theorem D1 {c:Bool}{o:Option α}{v d:α}{k:α->Option R}{K:O->Option R}{b:α->Option O}(h:o=some v) (f:∀x,x=cond c v d->k x=Option.bind (b x) K):aZ c o d k=Option.bind (on (cond c v d) b) K:=by
 rw [h]; cases c<;>exact f _ rfl
theorem Ba {c:Bool}{o:Option α}{v d:α}{k:α->Option R}{K:O->Option R}{b:α->O}(h:c=true->o=some v) (f:∀x,x=cond c v d->k x=K (b x)):aZ c o d k=K (on (cond c v d) b):=by
 cases c with
 | true=>rw [h rfl]; exact f _ rfl
 | false=>exact f _ rfl
theorem uM {c:Bool}{o o':Option α}{d:α}{k:α->Option R}{K:O->Option R}{b:α->Option O}(h:o=o') (f:∀x,k x=Option.bind (b x) K):aZ c o d k=Option.bind (aZ c o' d b) K:=by
 rw [h]; cases c with
 | false=>exact f d
 | true =>
  cases o' with
  | none=>rfl
  | some v=>exact f v
variable {lhs:Option R}
theorem Bb {q:Z}{b:Z->O}{K:O->Option R}(h:∀f:Z->Option R,(∀o,f o=K (b o))->lhs=f q):lhs=K (on q b):=h (fun o=>K (b o)) fun _=>rfl
theorem uN {q:Z}{b:Z->Option O}{K:O->Option R}(h:∀f:Z->Option R,(∀o,f o=Option.bind (b o) K)->lhs=f q):lhs=Option.bind (on q b) K:=h (fun o=>Option.bind (b o) K) fun _=>rfl
theorem uO {q:Option Z}{b:Z->Option O}{K:O->Option R}(h:∀f:Z->Option R,(∀o,f o=Option.bind (b o) K)->lhs=Option.bind q f):lhs=Option.bind (Option.bind q b) K:=by
 rw [h (fun o=>Option.bind (b o) K) fun _=>rfl]; cases q<;>rfl
theorem P5 {α:Type}(o:Option α):Option.bind o some=o:=by cases o<;>rfl
theorem mz {l:List α}{i:Nat}{x:α}(h:l[i]?=some x):l.drop i=x::l.drop (i+1):=by
 obtain⟨hi,rfl⟩:=List.getElem?_eq_some_iff.1 h;exact List.drop_eq_getElem_cons hi
theorem Ij {i n:Nat}(h:i<n):decide ((i:Int)<(n:Int))=true:=by simpa using h
theorem P6 {i n:Nat}(h:¬i<n):decide ((i:Int)<(n:Int))=false:=by simpa using h
theorem uP {s:Sl α}{i:Nat}(h:i<=s.l.length):mu s none (some ((i:Nat):Int))=some ⟨s.nl,s.l.take i⟩:=by
 unfold mu; rw [if_pos (by simp; omega)]; simp
end Q
end Go.Ab
namespace Go.Ab
variable {au:bS}
theorem Q.getD_some {α:Type}{l:List α}{i:Nat}{d:α}(h:i<l.length):l[i]?=some (l[i]?.getD d):=by simp [h]
theorem Q.P7 {s:Bs}{n:Nat}(h:n<=s.length):A2 s none (some ((n:Nat):Int))=some (List.take n s):=by
 unfold A2; rw [if_pos (by simp; omega)]; simp
theorem Q.preB {α R:Type}{o:Option α}{v:α}{k:α->Option R}{r:Option R}(h:o=some v) (b:∀x,x=v->k x=r):o.bind k=r:=by rw [h]; exact b v rfl
end Go.Ab
/-
 Walks over the list layer: what is known of the result is taken apart in the new form (a bind,a value under a name,a guard,a choice,a join,a loop over a list).
-/
namespace Go.Ab
open Go
section
variable {R O Z α:Type}{r:R}
theorem qT {o o':Option α}{k:α->Option R}(p:o'=o) (h:o.bind k=some r):∃x,o'=some x/\k x=some r:=by rw [p]; exact bx h
theorem qO {o o':Option α}{k:α->Option O}{K:O->Option R}(p:o'=o) (h:Option.bind (o.bind k) K=some r):∃x,o'=some x/\Option.bind (k x) K=some r:=by
 rw [p]; cases o with
 | none=>cases h
 | some v=>exact⟨v,rfl,h⟩
theorem vO {o:Option α}{v:α}{k:α->Option O}{K:O->Option R}(p:o=some v) (h:Option.bind (on v k) K=some r):∃x,o=some x/\Option.bind (k x) K=some r:=⟨v,p,h⟩
theorem vP {o:Option α}{v:α}{k:α->O}{K:O->Option R}(p:o=some v) (h:K (on v k)=some r):∃x,o=some x/\K (k x)=some r:=⟨v,p,h⟩
theorem nO {c:Bool}{o:Option α}{v d:α}{k:α->Option R}(p:c=true->o=some v) (h:on (cond c v d) k=some r):∃x,(c=true->o=some x)/\k x=some r :=
 ⟨cond c v d,fun e=>by rw [e]; exact p e,h⟩
theorem ee {c:Bool}{o:Option α}{v d:α}{k:α->Option O}{K:O->Option R}(p:c=true->o=some v) (h:Option.bind (on (cond c v d) k) K=some r):∃x,(c=true->o=some x)/\Option.bind (k x) K=some r :=
 ⟨cond c v d,fun e=>by rw [e]; exact p e,h⟩
theorem iX {c:Bool}{o:Option α}{v d:α}{k:α->O}{K:O->Option R}(p:c=true->o=some v) (h:K (on (cond c v d) k)=some r):∃x,(c=true->o=some x)/\K (k x)=some r :=
 ⟨cond c v d,fun e=>by rw [e]; exact p e,h⟩
theorem D2 {c:Bool}{o o':Option α}{d:α}{k:α->Option R}(p:o'=o) (h:aZ c o d k=some r):∃x,(c=true->o'=some x)/\k x=some r:=by rw [p]; exact A4 h
theorem uQ {c:Bool}{o o':Option α}{d:α}{k:α->Option O}{K:O->Option R}(p:o'=o) (h:Option.bind (aZ c o d k) K=some r):∃x,(c=true->o'=some x)/\Option.bind (k x) K=some r:=by
 rw [p]; unfold aZ at h; split at h
 ·obtain⟨x,e,b⟩:=qO rfl h; exact⟨x,fun _=>e,b⟩
 ·rename_i hc; exact⟨d,fun e=>absurd e hc,h⟩
theorem bW {t:Z}{b:Z->Option R}(h:on t b=some r):∃K:Z->Option R,(∀z,K z=b z)/\K t=some r:=⟨b,fun _=>rfl,h⟩
theorem iy {t:Z}{b:Z->Option O}{K:O->Option R}(h:Option.bind (on t b) K=some r):∃J:Z->Option R,(∀z,J z=Option.bind (b z) K)/\J t=some r:=⟨fun z=>Option.bind (b z) K,fun _=>rfl,h⟩
theorem dU {t:Z}{b:Z->O}{K:O->Option R}(h:K (on t b)=some r):∃J:Z->Option R,(∀z,J z=K (b z))/\J t=some r:=⟨fun z=>K (b z),fun _=>rfl,h⟩
theorem bZ {t:Option Z}{b:Z->Option R}(h:Option.bind t b=some r):∃J:Z->Option R,(∀z,J z=b z)/\Option.bind t J=some r:=⟨b,fun _=>rfl,h⟩
theorem dA {t:Option Z}{b:Z->Option O}{K:O->Option R}(h:Option.bind (Option.bind t b) K=some r):∃J:Z->Option R,(∀z,J z=Option.bind (b z) K)/\Option.bind t J=some r :=
 ⟨fun z=>Option.bind (b z) K,fun _=>rfl,by cases t<;>exact h⟩
theorem mT {b:Sort _}{F:b}{t:b->Option R}(h:on F t=some r):∃k,k=F/\t k=some r:=⟨F,rfl,h⟩
theorem mO {b:Sort _}{F:b}{t:b->Option O}{K:O->Option R}(h:Option.bind (on F t) K=some r):∃k,k=F/\Option.bind (t k) K=some r:=⟨F,rfl,h⟩
theorem mP {b:Sort _}{F:b}{t:b->O}{K:O->Option R}(h:K (on F t)=some r):∃k,k=F/\K (t k)=some r:=⟨F,rfl,h⟩
theorem ku {K F:Z->Option R}{z:Z}(h:∀z,K z=F z) (e:K z=some r):F z=some r:=by rw [<- h]; exact e
theorem dl {l:List α}{i:Nat}{x:α}(h:l[i]?=some x):l.length-(i+1)<l.length-i:=by
 obtain⟨hi,_⟩:=List.getElem?_eq_some_iff.1 h; omega
theorem dn {n i:Nat}(h:i<n):n-(i+1)<n-i:=by omega
end
section
variable {au:bS}{P:Program}{c:Operand}{u v:Code}{Q:Exit->St->Prop}{σ:St}{b:Bool}{α R:Type}{r:R}
theorem ag.qw {A B:Option α}{K:α->Option R}(f:Option.bind (bif b then A else B) K=some r) (hc:ev σ.ts c=.a (.d (.bool b))) (ht:b=true->Option.bind A K=some r->ag P u Q σ) (g:b=false->Option.bind B K=some r->ag P v Q σ):ag P (.cond c u v) Q σ :=
 ag.cond hc (fun h=>ht h (by subst h; exact f)) (fun h=>g h (by subst h; exact f))
theorem ag.A_ {A B:α}{K:α->Option R}(f:K (bif b then A else B)=some r) (hc:ev σ.ts c=.a (.d (.bool b))) (ht:b=true->K A=some r->ag P u Q σ) (g:b=false->K B=some r->ag P v Q σ):ag P (.cond c u v) Q σ :=
 ag.cond hc (fun h=>ht h (by subst h; exact f)) (fun h=>g h (by subst h; exact f))
theorem ag.bJ {l:List α}{i:Nat}(p:List α->Prop) (b:p (l.drop i)) (hc:ev σ.ts c=.a (.d (.bool (decide (((i:Nat):Int)<((l.length:Nat):Int))))))
  (ht:∀x,l[i]?=some x->decide (((i:Nat):Int)<((l.length:Nat):Int))=true->p (x::l.drop (i+1))->ag P u Q σ) (j:decide (((i:Nat):Int)<((l.length:Nat):Int))=false->p []->ag P v Q σ):ag P (.cond c u v) Q σ:=by
 refine ag.cond hc (fun h=>?_) (fun h=>?_)
 ·have f:i<l.length:=by have:=of_decide_eq_true h; omega
  have g:l[i]?=some l[i]:=List.getElem?_eq_getElem f;exact ht _ g h (by rw [<- Go.Ab.Q.mz g]; exact b)
 ·have f:¬((i:Nat):Int)<((l.length:Nat):Int):=of_decide_eq_false h;exact j h (by rw [List.drop_of_length_le (by omega)] at b; exact b)
theorem ag.Ik {n i:Nat}(p:Nat->Prop) (b:p (n-i)) (hc:ev σ.ts c=.a (.d (.bool (decide (((i:Nat):Int)<((n:Nat):Int))))))
  (ht:i<n->decide (((i:Nat):Int)<((n:Nat):Int))=true->p (n-(i+1)+1)->ag P u Q σ) (g:decide (((i:Nat):Int)<((n:Nat):Int))=false->p 0->ag P v Q σ):ag P (.cond c u v) Q σ:=by
 refine ag.cond hc (fun h=>?_) (fun h=>?_)
 ·have f:i<n:=by have:=of_decide_eq_true h; omega
  exact ht f h (by rw [show n-(i+1)+1=n-i by omega]; exact b)
 ·have f:¬((i:Nat):Int)<((n:Nat):Int):=of_decide_eq_false h;exact g h (by rw [show n-i=0 by omega] at b; exact b)
theorem ag.yR {l:List α}{i:Nat}{d b:Bool}(p:List α->Prop) (E:Prop) (f:p (l.drop i)) (he:p []->E) (m:∀x,d=false->p (x::l.drop (i+1))->E) (k:b=(decide (((i:Nat):Int)<((l.length:Nat):Int))&&d)) (hc:ev σ.ts c=.a (.d (.bool b)))
  (ht:∀x,l[i]?=some x->b=true->d=true->p (x::l.drop (i+1))->ag P u Q σ) (q:b=false->E->ag P v Q σ):ag P (.cond c u v) Q σ:=by
 refine ag.cond hc (fun h=>?_) (fun h=>q h ?_)
 ·have h0:=h; rw [k,Bool.and_eq_true] at h0;have g:i<l.length:=by have:=of_decide_eq_true h0.1; omega
  have j:l[i]?=some l[i]:=List.getElem?_eq_getElem g;exact ht _ j h h0.2 (by rw [<- Go.Ab.Q.mz j]; exact f)
 ·by_cases g:i<l.length
  ·have j:l[i]?=some l[i]:=List.getElem?_eq_getElem g;rw [Go.Ab.Q.mz j] at f;refine m _ ?_ f;rw [k,Go.Ab.Q.Ij g,Bool.true_and] at h; exact h
  ·exact he (by rw [List.drop_of_length_le (by omega)] at f; exact f)
end
end Go.Ab
namespace Go.Ab
variable {au:bS}
def Ok {α:Type}(o:Option α):Prop:=∃r,o=some r
section
variable {α β:Type}
theorem dY (a:α):Ok (Option.some a):=⟨a,rfl⟩
theorem gQ {o:Option α}{k:α->Option β}(h:Ok o) (b:∀v,o=Option.some v->Ok (k v)):Ok (o.bind k):=by
 obtain⟨v,hv⟩:=h; rw [hv]; exact b v hv
theorem gU {c:Bool}{o:Option α}{d:α}{k:α->Option β}(h:c=true->Ok o) (b:∀v,(c=true->o=Option.some v)->(c=false->v=d)->Ok (k v)):Ok (aZ c o d k):=by
 cases c with
 | false=>exact b d (fun h=>by cases h) (fun _=>rfl)
 | true=>obtain⟨v,hv⟩:=h rfl; unfold aZ; rw [if_pos rfl,hv]; exact b v (fun _=>hv) (fun h=>by cases h)
theorem gF {c:Bool}{a b:Option α}(h:c=true->Ok a) (f:c=false->Ok b):Ok (_root_.cond c a b):=by
 cases c with
 | false=>exact f rfl
 | true=>exact h rfl
theorem gV {v:α}{k:α->Option β}(h:∀x,x=v->Ok (k x)):Ok (Go.Ab.on v k):=h v rfl
end
theorem iL {a b:Int}(h : -9223372036854775808<=a+b/\a+b<=9223372036854775807):cN a b=some (a+b):=by unfold cN; rw [if_pos h]
theorem Il {a b:Int}(h : -9223372036854775808<=a-b/\a-b<=9223372036854775807):sq a b=some (a-b):=by unfold sq; rw [if_pos h]
theorem P8 {α:Type}{l:List α}{n:Int}(h:0<=n/\n<l.length):Ok (c_ l n):=by
 have b:n.toNat<l.length:=by omega
 unfold c_; rw [if_pos h.1,List.getElem?_eq_getElem b]; exact⟨_,rfl⟩
theorem P9 {α:Type}{l:List α}{n:Nat}(h:n<l.length):Ok (l[n]?):=⟨l[n],List.getElem?_eq_getElem h⟩
theorem jk {α:Type}{z:Nat}{s r:Sl α}(hz:z<=64) (h:s.l.length+r.l.length<=1099511627776):bh z s r=some ⟨s.nl&&r.l.isEmpty,s.l++r.l⟩:=by
 unfold bh; rw [if_pos];have:(s.l.length+r.l.length)*z<=(s.l.length+r.l.length)*64:=Nat.mul_le_mul_left _ hz;unfold cA; omega
theorem cI {a b:Bs}(h:a.length+b.length<=1152921504606846976):a_ a b=some (a++b):=by
 unfold a_; rw [if_pos (by unfold fu; omega)]
theorem Bc {α:Type}{s:Sl α}(h:1<=s.l.length):mu s (some (1:Int)) none=some ⟨s.nl,s.l.drop 1⟩:=by
 unfold mu; rw [if_pos (by simp; omega)]; simp
theorem fR:F0=4611686018427387904:=rfl
end Go.Ab
namespace Go.Ab
variable {au:bS}
theorem yS {α:Type}{z:Nat}{s r:Sl α}(hz:z<=32) (h:s.l.length+r.l.length<=4398046511104):bh z s r=some ⟨s.nl&&r.l.isEmpty,s.l++r.l⟩:=by
 unfold bh; rw [if_pos];have:(s.l.length+r.l.length)*z<=(s.l.length+r.l.length)*32:=Nat.mul_le_mul_left _ hz;unfold cA; omega
def dZ {α:Type}(s:Sl α):Prop:=(s.nl=true->s.l=[])/\s.l.length<=1048576
end Go.Ab
/-
 Inputs: what a call is handed,read as plain data; what it leaves.
-/
namespace Go.Ab
open Go Go.RowKit Go.ChangeShapes Go.WideShapes Go.ChangeAt
variable {au:bS}
def j0 (w:World):J:=⟨fun _=>0,fun b=>match w.heap[b]? with|some (.cells cs _ _)=>cs.size|_=>0,fun _=>none,0⟩
def h0:af:=fun _=>none
theorem P_ {w:World}{b o:Nat}{v:Value}(h:w.cell? ⟨b,o,none⟩=some v):o<(j0 w).F b:=by
 unfold World.cell? at h;simp only [j0]
 split at h
 ·rename_i c t f hc
  simp at h;simp only at hc;rw [hc];exact(Array.getElem?_eq_some_iff.1 h).1
 ·cases h
theorem cell_spot {w:World}{a:Addr}{v:Value}(h:w.cell? a=some v):a.spot=none:=by
 unfold World.cell? at h
 split at h
 ·split at h
  ·cases h
  ·rename_i b; simpa using b
 ·cases h
structure yT {H:Type}(B:DataW H->Nat):Prop where
 one:∀d,1<=B d
 str:∀b,b.length+1<=B (.lit (.string b))
 slice:∀e s,(e.map B).sum+1<=B (.slice e s)
 agg:∀l,(l.map B).sum<=B (.agg l)
def NF (w:World) (ps:List MemPlace):Prop:=∀b off,MemPlace.cell b off∈ps->w.frozen? ⟨b,off,none⟩=false
theorem NF.sub {w:World}{ps f:List MemPlace}(h:NF w f) (g:∀x∈ps,x∈f):NF w ps:=fun b o hx=>h b o (g _ hx)
structure dD {H:Type}(P:Program) (B:DataW H->Nat) (N:Nat) (t:TypeId){α:Type}(R:α->List D) (sz:α->Nat) (wf:α->Prop):Prop where
 rd:∀{enc:TypeId×Value->H}{w:World}{base:Nat}{sp:Nat->Bool}{held:Bool}{fuel:Nat}{cs:List Value}{x:DataW H×List MemPlace},
  fuel<=N->DataW.trod enc P w base sp held fuel t cs=some x->B x.1<=1048576->NF w x.2->∃a,aW (aD (j0 w) w) (R a) cs/\sz a<=B x.1/\wf a
theorem dD.zero {H:Type}{P:Program}{B:DataW H->Nat}{t:TypeId}{α:Type}{R:α->List D}{sz:α->Nat}{wf:α->Prop}:dD P B 0 t R sz wf :=
 ⟨fun b h _ _=>by rw [Nat.le_zero.1 b] at h; simp [DataW.trod] at h⟩
theorem D3 {P:Program}{t:TypeId}{b:TI}(f:aY P t=some b):P.cellsOf t=b.size:=by
 obtain⟨i,d,h1,_,g,_⟩:=gh f;unfold Program.cellsOf; rw [h1]; exact g
theorem Bd {P:Program}{t:TypeId}{b:TI}(f:aY P t=some b):∃d,P.underlying t=some d/\gb d=b.k:=by
 obtain⟨i,d,_,h1,_,_,g,_⟩:=gh f;exact⟨d,h1,g⟩
theorem Qb {P:Program}{t:TypeId}{b:TI}(g:aY P t=some b) (hk:b.k=.str):P.underlying t=some .string:=by
 obtain⟨d,h1,f⟩:=Bd g;rw [hk] at f; cases d<;>simp [gb] at f; exact h1
theorem Qd {P:Program}{t:TypeId}{b:TI}(g:aY P t=some b) (hk:b.k=.bool):P.underlying t=some .bool:=by
 obtain⟨d,h1,f⟩:=Bd g;rw [hk] at f; cases d<;>simp [gb] at f; exact h1
theorem Qf {P:Program}{t:TypeId}{f:TI}{k:IntKind}(g:aY P t=some f) (hk:f.k=.int k):P.underlying t=some (.int k):=by
 obtain⟨d,h1,b⟩:=Bd g;rw [hk] at b; cases d<;>simp [gb] at b; subst b; exact h1
theorem Im {P:Program}{t:TypeId}{g:TI}{ps:List (Nat×TypeId)}(j:aY P t=some g) (hk:g.k=.struct ps):∃fs:Array Go.Field,P.underlying t=some (.struct fs)/\fs.toList.map (fun f=>(f.offset,f.type))=ps:=by
 obtain⟨d,h1,b⟩:=Bd j;rw [hk] at b; cases d<;>simp [gb] at b; exact⟨_,h1,by simpa using b⟩
def yM.sz (s:yM):Nat:=s.1.length+1
def kG.sz {α:Type}(f:α->Nat) (s:kG α):Nat:=1+(s.l.map f).sum
def kG.wf {α:Type}(p:α->Prop) (s:kG α):Prop:=∀x∈s.l,p x
def i64 (n:Int):Prop := -9223372036854775808<=n/\n<=9223372036854775807
section
variable {H:Type}{P:Program}{B:DataW H->Nat}(hB:yT B){N:Nat}
include hB
theorem dD.str {t:TypeId}{b:TI}(f:aY P t=some b) (hk:b.k=.str):dD P B N t OU yM.sz fun _=>True:=by
 refine⟨fun {enc w base sp held fuel cs x} _ h g _=>?_⟩;obtain⟨s,rfl,rfl,l⟩:=DataW.trod_string (Qb f hk) h;have h1:=hB.str s.data.toList;have m:s.data.toList.length<=1048576:=by dsimp only at g; omega
 refine⟨⟨s.data.toList,by simp only [cA]; omega⟩,.cons ?_ .nil,h1,trivial⟩;have:=aD.str (j:=j0 w) (w:=w) s.data.toList (by simp only [fu]; omega)
 simpa using this
theorem dD.bool {t:TypeId}{f:TI}(g:aY P t=some f) (hk:f.k=.bool):dD P B N t (fun b:Bool=>[.bool b]) (fun _=>1) fun _=>True:=by
 refine⟨fun _ h _ _=>?_⟩;obtain⟨b,rfl,rfl⟩:=DataW.trod_bool (Qd g hk) h;exact⟨b,.cons (.bool _) .nil,hB.one _,trivial⟩
theorem dD.int {t:TypeId}{b:TI}(f:aY P t=some b) (hk:b.k=.int .i64):dD P B N t OV (fun _=>1) i64:=by
 refine⟨fun _ h _ _=>?_⟩;obtain⟨n,rfl,rfl,hw⟩:=DataW.trod_int (Qf f hk) h;refine⟨n,.cons (.int _ _) .nil,hB.one _, ?_⟩
 simpa [Lit.wf,IntKind.min,IntKind.max,IntKind.signed,IntKind.bits,i64] using hw
omit hB in
theorem Io {α:Type}(p:Nat->α->Prop):∀(n:Nat),(∀i,i<n->∃a,p i a)->∃l:List α,l.length=n/\∀i a,l[i]?=some a->p i a
 | 0,_=>⟨[],rfl,by simp⟩
 | n+1,h=>by
  obtain⟨l,hl,g⟩:=Io p n fun i hi=>h i (by omega);obtain⟨a,j⟩:=h n (by omega);refine⟨l++[a],by simp [hl],fun i b f=>?_⟩;rw [List.getElem?_append] at f
  split at f
  ·exact g i b f
  ·rename_i k
   have:i-l.length=0:=by
    have:=(List.getElem?_eq_some_iff.1 f).1; simp at this; omega
   rw [this] at f; simp at f; subst f;have:i=n:=by omega
   subst this; exact j
omit hB in
theorem Ip {α β:Type}{f:α->Option β}:∀{l:List α}{r:List β},l.mapM f=some r->r.length=l.length/\∀(i:Nat) a,l[i]?=some a->f a=r[i]?
 | [],r,h=>by simp at h; subst h; simp
 | a::l,r,h=>by
  rw [List.mapM_cons] at h;cases g:f a with
  | none=>rw [g] at h; cases h
  | some b =>
   rw [g] at h;cases hm:l.mapM f with
   | none=>rw [hm] at h; cases h
   | some bs =>
    rw [hm] at h;have h':some (b::bs)=some r:=h;simp only [Option.some.injEq] at h';subst h';obtain⟨h1,j⟩:=Ip hm;refine⟨by simp [h1],fun i x hx=>?_⟩;cases i with
    | zero=>simp at hx; subst hx; simpa using g
    | succ i=>simp at hx; simpa using j i x hx
omit hB in
theorem Iq {w:World}{base:Nat}{a:Addr}{n:Nat}{cs:List Value}(h:w.cells? base a n=some cs):cs.length=n/\∀i v,cs[i]?=some v->w.cell? (a.add i)=some v:=by
 unfold World.cells? at h
 split at h
 ·obtain⟨h1,b⟩:=Ip h;rw [List.length_range] at h1;refine⟨h1,fun i v hv=>?_⟩;have hi:=(List.getElem?_eq_some_iff.1 hv).1;have:=b i i (List.getElem?_range (by omega));rw [this]; exact hv
 ·cases h
omit hB in
theorem Ir {α β:Type}{f:α->Nat}{g:β->Nat}:∀{l:List α}{m:List β},l.length=m.length->(∀(i:Nat) a b,l[i]?=some a->m[i]?=some b->f a<=g b)->(l.map f).sum<=(m.map g).sum
 | [],[],_,_=>by simp
 | [],_::_,h,_=>by simp at h
 | _::_,[],h,_=>by simp at h
 | a::l,b::m,h,j=>by
  have h1:=j 0 a b rfl rfl;have p:=Ir (l:=l) (m:=m) (by simpa using h) fun i x y hx k=>j (i+1) x y (by simpa using hx) (by simpa using k);simp only [List.map_cons,List.sum_cons]; omega
omit hB in
theorem Is {α:Type}{f:α->Nat}{l:List α}{a:α}(h:a∈l):f a<=(l.map f).sum:=by
 induction l with
 | nil=>cases h
 | cons x r b =>
  simp only [List.map_cons,List.sum_cons];rcases List.mem_cons.1 h with e|e
  ·subst e; omega
  ·have:=b e; omega
omit hB in
theorem D4 {α:Type}{f:α->Nat}:∀(l:List α),(∀a∈l,1<=f a)->l.length<=(l.map f).sum
 | [],_=>by simp
 | a::l,h=>by
  have h1:=h a (by simp);have b:=D4 l fun x hx=>h x (by simp [hx]);simp only [List.length_cons,List.map_cons,List.sum_cons]; omega
omit hB in
theorem Qg {a:Addr}{n i:Nat}(h:i<n):MemPlace.cell a.block (a.off+i)∈MemPlace.row a n:=by
 unfold MemPlace.row;exact List.mem_map.2 ⟨i,List.mem_range.2 h,rfl⟩
theorem dD.slice {α:Type}{t e:TypeId}{M O:TI}{k:Nat}{R:α->List D}{sz:α->Nat}{wf:α->Prop}(X:aY P t=some M) (Y:M.k=.slice e) (Z:aY P e=some O) (aa:O.size=k) (ab:0<k) (ad:∀a,(R a).length=k) (he:dD P B N e R sz wf) :
  dD P B (N+1) t (fun s:kG α=>[s.d k R]) (kG.sz sz) (kG.wf wf):=by
 have ht:=kF X Y;have hk:P.cellsOf e=k:=(D3 Z).trans aa;refine⟨fun {enc w base sp held fuel cs x} am h Q hz=>?_⟩;rcases DataW.trod_slice ht h with ⟨rfl,rfl⟩|⟨a,len,cap,b,rest,n,ao,rfl,rfl,_,ae,ap,hlen,ah,_,_⟩
 ·exact⟨⟨true,[],by simp,fun _=>rfl⟩,.cons (.gD _ _ (by simp)) .nil,by simpa [kG.sz] using hB.one _,by simp [kG.wf]⟩
 ·have aq:=hB.slice (b.map (·.1)) (rest.map (·.1));have ai:∀y∈b,B y.1<=1048576:=fun y j=>by
   have:=Is (f:=B) (l:=b.map (·.1)) (a:=y.1) (List.mem_map_of_mem j);dsimp only at Q; omega
  have ar:b.length<=1048576:=by
   have:=D4 (f:=B) (b.map (·.1)) fun d _=>hB.one d;simp only [List.length_map] at this;dsimp only at Q; omega
  have hex:∀i,i<len->∃y:α×List Value,∃z,b[i]?=some z/\w.cells? base (a.add (i*k)) k=some y.2/\aW (aD (j0 w) w) (R y.1) y.2/\sz y.1<=B z.1/\wf y.1:=by
   intro i hi;have h1:=ah i hi;rw [hk] at h1;have C:i<b.length:=by omega
   rw [List.getElem?_eq_getElem C] at h1;cases hc:w.cells? base (a.add (i*k)) k with
   | none=>rw [hc] at h1; cases h1
   | some cs =>
    rw [hc] at h1;obtain⟨x,p,E,F⟩:=he.rd (by omega) (show DataW.trod enc P w base sp held n e cs=some b[i] from h1) (ai _ (List.getElem_mem C)) (hz.sub fun y j=>List.mem_append.2 (.inr (List.mem_flatMap.2 ⟨_,List.mem_append.2 (.inl (List.getElem_mem C)),j⟩)));exact⟨(x,cs),b[i],List.getElem?_eq_getElem C,rfl,p,E,F⟩
  obtain⟨l,hl,G⟩:=Io _ len hex;have aj:(l.map fun y=>y.1).length=len:=by simp [hl]
  refine⟨⟨false,l.map (·.1),by rw [aj]; simp only [cA]; omega,by simp⟩,.cons ?_ .nil, ?_, ?_⟩
  ·have H:∀r∈(l.map (·.1)).map R,r.length=k:=by
    intro r hr;obtain⟨y,_,rfl⟩:=List.mem_map.1 hr;exact ad _
   have q:((l.map (·.1)).map R).length=len:=by simp [hl]
   show aD (j0 w) w (.slice k none false ((l.map (·.1)).map R)) (.slice (some a) len cap);by_cases h0:len=0
   ·subst h0;have:l=[]:=List.eq_nil_of_length_eq_zero hl;subst this;exact aD.slice k none [] a cap (fun _=>undef) (by simp) (by simp) (by simp) ⟨.inl rfl,by simp⟩ (by simp) (fun t h=>by cases h)
   ·have S:a.spot=none:=by
     have h1:=G 0 (l[0]'(by omega)) (List.getElem?_eq_getElem (by omega));obtain⟨z,_,p,_⟩:=h1;obtain⟨E,F⟩:=Iq p;have I:=F 0 _ (List.getElem?_eq_getElem (by omega));rw [Nat.zero_mul] at I;exact cell_spot I
    have J:a=⟨a.block,a.off,none⟩:=by cases a; simp at S; simp [S]
    have U:aD (j0 w) w (.slice k none false ((l.map (·.1)).map R)) (.slice (some ⟨a.block,a.off,none⟩) ((l.map (·.1)).map R).length cap):=by
     refine vW H (by rw [q]; simp only [cA]; omega) (by rw [q]; exact ae) (fun i x hx=>?_) (fun t h=>by cases h) (fun i v hi _=>.inl (hz _ _ (List.mem_append.2 (.inl (by
      rw [(iu H).1,q] at hi;rw [J,hk];refine Qg (i:=i) ?_;have:len*k<=(b.length+rest.length)*k:=Nat.mul_le_mul_right _ (by omega);omega)))))
     have hi:=(List.getElem?_eq_some_iff.1 hx).1;rw [(iu H).1,q] at hi;have hq:i / k<len:=Nat.div_lt_of_lt_mul (by rw [Nat.mul_comm]; exact hi);have hm:i % k<k:=Nat.mod_lt _ ab;obtain⟨z,_,p,E,_⟩:=G (i / k) (l[i / k]'(by omega)) (List.getElem?_eq_getElem (by omega));obtain⟨F,I⟩:=Iq p;have ak:((l.map (·.1)).map R)[i / k]?=some (R (l[i / k]'(by omega)).1):=by simp [hl,hq]
     have W:=(iu H).2 (i / k) _ ak (i % k) hm;rw [Nat.mul_comm,Nat.div_add_mod,hx] at W;obtain⟨v,hv,al⟩:=E.get W.symm;have K:=I _ _ hv;rw [J,add_plain,add_plain,Nat.add_assoc,Nat.mul_comm,Nat.div_add_mod] at K;exact⟨P_ K,v,K,al⟩
    rw [q,<- J] at U;exact U
  ·simp only [kG.sz];have:=Ir (f:=sz) (g:=B) (l:=l.map (·.1)) (m:=b.map (·.1)) (by simp [hl,hlen]) fun i x y hx j=>by
    rw [List.getElem?_map] at hx j;cases L:l[i]? with
    | none=>rw [L] at hx; cases hx
    | some u =>
     rw [L] at hx; simp at hx; subst hx;obtain⟨z,h1,_,_,p,_⟩:=G i u L;rw [h1] at j; simp at j; subst j; exact p
   omega
  ·intro x hx;obtain⟨y,j,rfl⟩:=List.mem_map.1 hx;obtain⟨i,hi,e⟩:=List.getElem_of_mem j;obtain⟨z,_,_,_,_,h⟩:=G i y (by rw [List.getElem?_eq_getElem hi,e]);exact h
structure dz {H:Type}(P:Program) (B:DataW H->Nat) (N n o:Nat) (ps:List (Nat×TypeId)){α:Type}(R:α->List D) (sz:α->Nat) (wf:α->Prop):Prop where
 rd:∀{enc:TypeId×Value->H}{w:World}{base:Nat}{sp:Nat->Bool}{held:Bool}{fuel:Nat}{cs:List Value}{xs:List (DataW H×List MemPlace)},fuel<=N->cs.length=n->xs.length=ps.length ->
  (∀(i:Nat) p,ps[i]?=some p->DataW.trod enc P w base sp held fuel p.2 ((cs.drop p.1).take (P.cellsOf p.2))=xs[i]?)->(xs.map (fun x=>B x.1)).sum<=1048576->(∀x∈xs,NF w x.2) ->
  ∃a,aW (aD (j0 w) w) (R a) (cs.drop o)/\sz a<=(xs.map (fun x=>B x.1)).sum/\wf a
omit hB in
theorem dz.nil {n:Nat}:dz P B N n n [] (fun _:Unit=>[]) (fun _=>0) fun _=>True:=by
 refine⟨fun _ h1 b _ _ _=>⟨(), ?_,Nat.zero_le _,trivial⟩⟩;rw [List.drop_of_length_le (by omega)]; exact .nil
omit hB in
theorem dz.cons {α β:Type}{n o o':Nat}{ty:TypeId}{j:TI}{ps:List (Nat×TypeId)}{R:α->List D}{sz:α->Nat}{wf:α->Prop}{k:β->List D}{l:β->Nat}{m:β->Prop}(t:aY P ty=some j) (u:o+j.size=o') (h:dD P B N ty R sz wf)
  (ht:dz P B N n o' ps k l m):dz P B N n o ((o,ty)::ps) (fun p:α×β=>R p.1++k p.2) (fun p=>sz p.1+l p.2) fun p=>wf p.1/\m p.2:=by
 refine⟨fun {enc w base sp held fuel cs xs} q h1 f r v hz=>?_⟩
 match xs,f with
 | x::xs,f =>
  simp only [List.map_cons,List.sum_cons] at v ⊢;have s:=r 0 (o,ty) rfl;simp only [List.getElem?_cons_zero] at s;obtain⟨a,z,H,C⟩:=h.rd q s (by omega) (hz _ (.head _));obtain⟨b,E,I,F⟩:=ht.rd (xs:=xs) q h1 (by simpa using f) (fun i g hg=>by simpa using r (i+1) g (by simpa using hg)) (by omega) (fun y G=>hz y (.tail _ G));refine⟨(a,b), ?_,by dsimp only; omega,C,F⟩;have e:cs.drop o=(cs.drop o).take (P.cellsOf ty)++cs.drop o':=by
   rw [<- u,<- D3 t,<- List.drop_drop]; exact(List.take_append_drop _ _).symm
  rw [e];exact z.append E
theorem dD.struct {α β:Type}{t:TypeId}{j:TI}{ps:List (Nat×TypeId)}{R:α->List D}{sz:α->Nat}{wf:α->Prop}(q:aY P t=some j) (hk:j.k=.struct ps) (h:dz P B N j.size 0 ps R sz wf) (g:α->β){r:β->List D}{s:β->Nat}{u:β->Prop}
  (E:∀a,r (g a)=R a) (F:∀a,s (g a)<=sz a) (hw:∀a,wf a->u (g a)):dD P B (N+1) t r s u:=by
 refine⟨fun {enc w base sp held fuel cs x} M hx v hz=>?_⟩;obtain⟨fs,ht,C⟩:=Im q hk;obtain⟨xs,n,O,rfl,h1,G,H⟩:=DataW.trod_struct ht hx;have l:=hB.agg (xs.map (·.1));rw [List.map_map] at l;obtain⟨a,I,J,K⟩:=h.rd (xs:=xs) (enc:=enc) (w:=w) (base:=base) (sp:=sp) (held:=held) (fuel:=n) (cs:=cs) (by omega) (h1.trans (D3 q)) (by rw [<- C]; simpa using G) (fun i p b=>by
  rw [<- C,List.getElem?_map] at b;cases m:fs.toList[i]? with
  | none=>rw [m] at b; cases b
  | some f =>
   rw [m] at b; simp at b; subst b;exact H i f (by simpa using m)) (by dsimp only at v; exact Nat.le_trans l v) (fun y L=>hz.sub fun z hm=>List.mem_flatMap.2 ⟨y,L,hm⟩)
 exact⟨g a,by rw [E]; simpa using I,Nat.le_trans (F a) (Nat.le_trans J l),hw _ K⟩
end
section
variable {H:Type}{enc:TypeId×Value->H}{P:Program}{B:DataW H->Nat}{W:World}
theorem It {α:Type}{R:α->D}{sz:α->Nat}{wf:α->Prop}{r:Reach}{f:Nat}{t e:TypeId}{b:TI}{v:Value}{d:DataW H}{ps:List MemPlace}(g:aY P t=some b) (hk:b.k=.slice e) (hr:∀N,dD P B N t (fun a=>[R a]) sz wf) (j:Value.okWide P W r f t v) (m:DataW.Trod enc P W 0 (fun _=>true) true t v d ps) (p:B d<=1048576) (hz:NF W ps) :
  ∃a:α,di (j0 W) W (.d (R a)) v/\sz a<=B d/\wf a:=by
 obtain⟨a,l,c,rfl⟩:=okWide_slice (kF g hk) j;obtain⟨fuel,q⟩:=m;obtain⟨a,h1,s,u⟩:=(hr fuel).rd (Nat.le_refl _) q p hz;cases h1 with
 | cons h1 _=>exact⟨a,h1,s,u⟩
theorem Qh {α:Type}{R:α->List D}{sz:α->Nat}{wf:α->Prop}{r:Reach}{f:Nat}{t:TypeId}{b:TI}{fs:List (Nat×TypeId)}{v:Value}{d:DataW H}{ps:List MemPlace}(g:aY P t=some b) (hk:b.k=.struct fs) (hr:∀N,dD P B N t R sz wf) (j:Value.okWide P W r f t v)
  (l:DataW.Trod enc P W 0 (fun _=>true) true t v d ps) (m:B d<=1048576) (hz:NF W ps):∃a:α,di (j0 W) W (.agg (R a)) v/\sz a<=B d/\wf a:=by
 obtain⟨_,ht,_⟩:=Im g hk;obtain⟨cs,rfl,_⟩:=okWide_struct ht j;obtain⟨fuel,p⟩:=l;obtain⟨a,h1,q,s⟩:=(hr fuel).rd (Nat.le_refl _) p m hz;exact⟨a,⟨cs.toList,by simp,h1⟩,q,s⟩
end
theorem Below.trodAll {H:Type}{enc:TypeId×Value->H}{P:Program}(hl:laidOutB P=true){W g:World}(j:Below W.heap.size W g) :
  ∀{ts:List TypeId}{k:List Value}{ds:List (DataW H)}{ps:List MemPlace},(∀t∈ts,P.readableRec t=true/\t<P.types.size)->DataW.TrodAll enc P W 0 (fun _=>true) true ts k ds ps->(∀x∈ps,x.block<W.heap.size) ->
  ∀f:Nat->Bool,(∀x∈ps,f x.block=true)->DataW.TrodAll enc P g 0 f true ts k ds ps
 | [],_,_,_,_,h,_,_,_=>by obtain⟨rfl,rfl,rfl⟩:=trodAll_nil h; exact rfl
 | _::_,_,_,_,ht,h,bn,f,l=>by
  obtain⟨v,p,d,q,a,b,rfl,rfl,rfl,h1,m⟩:=trodAll_cons h;exact⟨a,b,WideElems.Trod_stays hl (ht _ (by simp)).1 (ht _ (by simp)).2 h1 (fun x hx=>j.same (bn x (by simp [hx]))) (fun x hx=>l x (by simp [hx])),
   Below.trodAll hl j (fun t h=>ht t (by simp [h])) m (fun x hx=>bn x (by simp [hx])) f (fun x hx=>l x (by simp [hx])),rfl⟩
theorem Qi {H:Type}{enc:TypeId×Value->H}{P:Program}{f:Func}{s:ChangeSpec}{fresh handsOn again:Bool}{W g:World}{args:Array Value}{ds:List (DataW H)}{before:List MemPlace}{l:TypeId}
  (hv:s.vars=[]) (m:DataW.Whole enc P f.params.toList s.vars false W args.toList ds [] before) (j:Below W.heap.size W g) (hl:laidOutB P=true) (C:∀t∈f.params.toList,P.readableRec t=true/\t<P.types.size)
  (hr:f.resultTypes=#[l]) (r:P.underlying l=some .bool) (k:s.fn H ds={ results:=[.lit (.bool true)],args:=ds }):s.post enc P f false fresh handsOn again W args (.bool true) g:=by
 have u:=m;have bn:∀x∈before,x.block<W.heap.size:=fun x hx=>by simpa using u.lt x hx
 obtain⟨p,q,E,v,rfl,hz,hn⟩:=m;rw [hv] at v;obtain⟨_,rfl⟩:=trodVars_none v;simp only [List.append_nil] at bn hz;have y:∀sp:Nat->Bool,(∀x∈p,sp x.block=true)->DataW.TrodAll enc P g 0 sp true f.params.toList args.toList ds p:=fun sp F=>Below.trodAll hl j C E bn sp F;have z:∀(b:Nat) (sp:Nat->Bool) (B:Bool),DataW.TrodAll enc P g b sp B f.resultTypes.toList ((Value.bool true).resultList f.resultTypes.size) [.lit (.bool true)] []:=by
  intro b sp B;rw [hr];exact trodAll_cons_mk (shut_bool r _) trodAll_mk0
 refine⟨ds,[],p++[],[],p,[],u, ?_, ?_, ?_,World.keptBut_mono (fun x hx=>⟨hx, ?_⟩) (j.frame (·∈p++[])),fun _=>⟨?_,[.lit (.bool true)]++ds,[],p,⟨p,[], ?_, ?_,by simp, ?_,fun h=>by cases h⟩,fun x hx _=>by simpa using hx⟩⟩
 ·rw [List.append_nil,k]; exact z _ _ _
 ·rw [List.append_nil,k]; exact y _ fun x hx=>by simpa using bn x hx
 ·rw [hv,List.append_nil,k]; exact rfl
 ·exact .inr (.inl (by simpa using hx))
 ·exact ok_one hr rfl (okWide_bool_mk r _)
 ·exact trodAll_append (y _ fun _ _=>rfl) (z _ _ _)
 ·rw [hv]; exact rfl
 ·intro b off hx;have hblk:=bn _ hx;rw [World.frozen?_of_block (w:=W) (j.block _ hblk)];exact hz b off hx
end Go.Ab
/-
 The readings of package api's types,at whatever depth.
-/
namespace Go.Ab
open Go Go.RowKit
section
variable {H:Type}{P:Program}{B:DataW H->Nat}(hB:yT B)
include hB
theorem sC.struct {α β:Type}{t:TypeId}{b:TI}{ps:List (Nat×TypeId)}{R:α->List D}{sz:α->Nat}{wf:α->Prop}(m:aY P t=some b) (hk:b.k=.struct ps) (h:∀N,dz P B N b.size 0 ps R sz wf) (g:α->β){f:β->List D}{j:β->Nat}{l:β->Prop}
  (p:∀a,f (g a)=R a) (q:∀a,j (g a)<=sz a) (hw:∀a,wf a->l (g a)):∀N,dD P B N t f j l
 | 0=>.zero
 | N+1=>dD.struct hB m hk (h N) g p q hw
end
end Go.Ab
/-
 The readings of the models' types.
-/
namespace Go.Ab
open Go Go.RowKit
variable {au:bS}
def Sl.sz {α:Type}(f:α->Nat) (s:Sl α):Nat:=1+(s.l.map f).sum
def Sl.wf {α:Type}(p:α->Prop) (s:Sl α):Prop:=(s.nl=true->s.l=[])/\s.l.length<=cA/\∀x∈s.l,p x
def Bs.sz (s:Bs):Nat:=s.length+1
section
variable {H:Type}{P:Program}{B:DataW H->Nat}
theorem dD.Be {α β:Type}{N:Nat}{t:TypeId}{R:α->List D}{sz:α->Nat}{wf:α->Prop}(h:dD P B N t R sz wf) (g:α->β){b:β->List D}{f:β->Nat}{j:β->Prop}
  (k:∀a,b (g a)=R a) (l:∀a,f (g a)<=sz a) (hw:∀a,wf a->j (g a)):dD P B N t b f j :=
 ⟨fun m ht p hz=>by
  obtain⟨a,h1,q,r⟩:=h.rd m ht p hz;exact⟨g a,by rw [k]; exact h1,Nat.le_trans (l a) q,hw a r⟩⟩
variable (hB:yT B)
include hB
theorem dV.str {t:TypeId}{b:TI}(f:aY P t=some b) (hk:b.k=.str) (N:Nat):dD P B N t aG Bs.sz fun _=>True :=
 (dD.str hB f hk).Be (fun s:yM=>s.1) (fun _=>rfl) (fun _=>Nat.le_refl _) fun _ _=>trivial
theorem dV.bool {t:TypeId}{b:TI}(f:aY P t=some b) (hk:b.k=.bool) (N:Nat):dD P B N t v8 (fun _=>1) fun _=>True :=
 (dD.bool hB f hk).Be id (fun _=>rfl) (fun _=>Nat.le_refl _) fun _ _=>trivial
theorem dV.int {t:TypeId}{b:TI}(f:aY P t=some b) (hk:b.k=.int .i64) (N:Nat):dD P B N t (bL .i64) (fun _=>1) i64 :=
 (dD.int hB f hk).Be id (fun _=>rfl) (fun _=>Nat.le_refl _) fun _ h=>h
theorem dV.Iu {α:Type}{N:Nat}{t e:TypeId}{b f:TI}{k:Nat}{R:α->List D}{sz:α->Nat}{wf:α->Prop}(g:aY P t=some b) (j:b.k=.slice e) (m:aY P e=some f) (p:f.size=k) (q:0<k) (r:∀a,(R a).length=k)
  (he:dD P B N e R sz wf):dD P B (N+1) t (fun s:Sl α=>[Sl.d k R none s]) (Sl.sz sz) (Sl.wf wf) :=
 (dD.slice hB g j m p q r he).Be (fun s:kG α=>(⟨s.nil,s.l⟩:Sl α)) (fun _=>rfl) (fun _=>Nat.le_refl _) (fun s h=>by unfold kG.wf at h; exact⟨s.nn,s.ok,h⟩)
theorem dV.slice {α:Type}{t e:TypeId}{b f:TI}{k:Nat}{R:α->List D}{sz:α->Nat}{wf:α->Prop}(g:aY P t=some b) (j:b.k=.slice e) (l:aY P e=some f) (m:f.size=k) (p:0<k) (q:∀a,(R a).length=k)
  (he:∀N,dD P B N e R sz wf):∀N,dD P B N t (fun s:Sl α=>[Sl.d k R none s]) (Sl.sz sz) (Sl.wf wf)
 | 0=>.zero
 | N+1=>dV.Iu hB g j l m p q (he N)
end
theorem Sl.eV {α:Type}{f:α->Nat}(s:Sl α) (h:∀a,1<=f a):s.l.length<=s.sz f:=by
 have:=D4 (f:=f) s.l fun a _=>h a;unfold Sl.sz; omega
theorem Sl.de {α:Type}{f:α->Nat}{s:Sl α}{a:α}(h:a∈s.l):f a<s.sz f:=by
 have:=Is (f:=f) h;unfold Sl.sz; omega
end Go.Ab
namespace Go.Ab
variable {au:bS}
theorem Bs.mA (s:Bs):1<=Bs.sz s:=by unfold Bs.sz; omega
theorem Sl.iY {α:Type}{f:α->Nat}(s:Sl α) (h:∀a,1<=f a):s.l.length<Sl.sz f s:=by
 have:=Sl.eV s h;unfold Sl.sz at *
 suffices s.l.length<=(s.l.map f).sum by omega
 clear this;induction s.l with
 | nil=>simp
 | cons x r b=>have:=h x; simp; omega
end Go.Ab
/-
 Short forms of the rules,for the packed texts.
-/
namespace Go.Ab
open Go Go.RowKit
variable {au:bS}
class jm (P:Program) where
 T:List TI
 ok:nI P T
theorem iM {P:Program} [jm P] {i:TypeId}{b:TI}(h:(jm.T P)[i]?=some b):aY P i=some b:=jm.ok i b h
section
variable {P:Program}{Q:Exit->St->Prop}{σ:St}
theorem ag.cE {c:Operand}{u v:Code}{b:Bool}{α:Type}{A B:Option α}{r:α}(f:(bif b then A else B)=some r) (ht:b=true->A=some r->ag P u Q σ) (g:b=false->B=some r->ag P v Q σ) (hc:ev σ.ts c=.a (.d (.bool b)):=by exact rfl):ag P (.cond c u v) Q σ:=ag.gm f hc ht g
end
theorem AC.oW {P:Program} [jm P] (n:Nat) (rs:List ResultVar){f:FuncId}{fn:Func}{c:Code}{args:List A}{h:af}{cZ:V->af->Prop}(b:∀(dc:Array Value) (w:World),(callFunc f dc).run P w=.ok (.enter f dc) w) (g:P.funcs[f]?=some fn)
  (hw:ag P c (bU (jm.T P) rs cZ) ⟨n,qk 0 args,[],h⟩) (j:fn.body=some c:=by exact rfl) (hn:fn.ntmps=n:=by exact rfl) (k:fn.results.toList=rs:=by exact rfl) (hl:Nat.ble args.length n=true:=by exact rfl):AC P f args h cZ :=
 AC.of_wp jm.ok b g j hn k hl hw
variable {f_:eT}
section
variable {P:Program}{ops:Array Oper}{rest:List Oper}{Q:St->Prop}{n:Nat}{ts:Ts}{ls aS:List (List D)}{h h':af}{fx:Fx}{v:V}{d dg gi:Nat}{op:Op}{ty:TypeId}{pos:String}{aI:Array Edge}{want b C:Bool}{done:List Fx}
-- RULES
variable {o:Oper}{c c':Bool}{x x':A}{f:Operand}{args:Array Operand}{cq:Array TypeId}{eb:FuncId}{cB:List D}{xs:List A}
theorem gI {C c:Bool}(h:C=true->c=true:=by intro hC; first|assumption|exact ji (by assumption)|exact ji (ji (by assumption))|exact ji (ji (ji (by assumption)))|exact Dx (by assumption)|simp_all):C=true->c=true:=h
theorem S (b:an P ⟨some d,op,ty,pos,aI,none⟩ ts ls h fx v ls h) (hr:aK P ops rest Q ⟨n,(d,v)::ts,ls,h⟩) (f:Nat.blt d n=true:=by exact rfl):aK P ops (⟨some d,op,ty,pos,aI,none⟩::rest) Q ⟨n,ts,ls,h⟩:=aK.s0 b f hr
theorem Sd (b:an P ⟨some d,op,ty,pos,aI,none⟩ ts ls h fx v ls h) (hr:aN P ops n rest (fx.plain::done) Q ⟨n,(d,v)::ts,ls,h⟩) (f:Nat.blt d n=true:=by exact rfl):aN P ops n (⟨some d,op,ty,pos,aI,none⟩::rest) done Q ⟨n,ts,ls,h⟩:=aN.s0 b f hr
theorem G1 (k:Nat) (hk:Ab.get ts k=.gd c x) (b:an P ⟨some d,op,ty,pos,aI,some (gi,want)⟩ ((k,.a x)::ts) ls h fx v ls h) (hr:aK P ops rest Q ⟨n,(d,v.under C)::ts,ls,h⟩) (hg:(ops[gi]?).bind (·.dst)=some dg:=by exact rfl) (hc:gc (get ts dg) want=some C:=by exact rfl) (f:Nat.blt d n=true:=by exact rfl) (hi:C=true->c=true:=by exact gI):aK P ops (⟨some d,op,ty,pos,aI,some (gi,want)⟩::rest) Q ⟨n,ts,ls,h⟩:=aK.gC hg hc (fun hC=>an.iU hk (hi hC) b) f hr
theorem G2 (k k':Nat) (hk:Ab.get ts k=.gd c x) (b:Ab.get ((k,.a x)::ts) k'=.gd c' x') (f:an P ⟨some d,op,ty,pos,aI,some (gi,want)⟩ ((k',.a x')::(k,.a x)::ts) ls h fx v ls h) (hr:aK P ops rest Q ⟨n,(d,v.under C)::ts,ls,h⟩) (hg:(ops[gi]?).bind (·.dst)=some dg:=by exact rfl) (hc:gc (get ts dg) want=some C:=by exact rfl) (g:Nat.blt d n=true:=by exact rfl) (hi:C=true->c=true:=by exact gI) (j:C=true->c'=true:=by exact gI):aK P ops (⟨some d,op,ty,pos,aI,some (gi,want)⟩::rest) Q ⟨n,ts,ls,h⟩:=aK.gC hg hc (fun hC=>an.iU hk (hi hC) (an.iU b (j hC) f)) g hr
theorem dP (k:Nat) (hg:(ops[gi]?).bind (·.dst)=some dg) (hc:gc (get ts dg) want=some C) (hk:Ab.get ts k=.gd c x) (b:ev ((k,.a x)::ts) f=.a (.d (.func eb cB))) (g:jh ((k,.a x)::ts) args.toList=some xs) (j:C=true->∀H:af,AC P eb (xs++cB.map A.d) H fun r h'=>r=v/\h'=H) (hr:aK P ops rest Q ⟨n,(d,v.under C)::ts,ls,h⟩) (hi:C=true->c=true:=by exact gI) (l:Nat.blt d n=true:=by exact rfl):aK P ops (⟨some d,.call { callee:=.value f,args:=args,argTypes:=cq },ty,pos,aI,some (gi,want)⟩::rest) Q ⟨n,ts,ls,h⟩:=aK.gC hg hc (fun hC=>an.iU hk (hi hC) (an.j6 b g (j hC))) l hr
theorem fS (k k':Nat) (hg:(ops[gi]?).bind (·.dst)=some dg) (hc:gc (get ts dg) want=some C) (hk:Ab.get ts k=.gd c x) (b:Ab.get ((k,.a x)::ts) k'=.gd c' x') (g:ev ((k',.a x')::(k,.a x)::ts) f=.a (.d (.func eb cB))) (j:jh ((k',.a x')::(k,.a x)::ts) args.toList=some xs) (l:C=true->∀H:af,AC P eb (xs++cB.map A.d) H fun r h'=>r=v/\h'=H) (hr:aK P ops rest Q ⟨n,(d,v.under C)::ts,ls,h⟩) (hi:C=true->c=true:=by exact gI) (m:C=true->c'=true:=by exact gI) (p:Nat.blt d n=true:=by exact rfl):aK P ops (⟨some d,.call { callee:=.value f,args:=args,argTypes:=cq },ty,pos,aI,some (gi,want)⟩::rest) Q ⟨n,ts,ls,h⟩:=aK.gC hg hc (fun hC=>an.iU hk (hi hC) (an.iU b (m hC) (an.j6 g j (l hC)))) p hr
theorem Qj (k:Nat) (hk:Ab.get ts k=.gd c x) (b:an P ⟨some d,op,ty,pos,aI,some (gi,want)⟩ ((k,.a x)::ts) ls h fx v ls h) (hr:aN P ops n rest (fx.plain::done) Q ⟨n,(d,v.under C)::ts,ls,h⟩) (hg:(ops[gi]?).bind (·.dst)=some dg:=by exact rfl) (hc:gc (get ts dg) want=some C:=by exact rfl) (f:Nat.blt d n=true:=by exact rfl) (hi:C=true->c=true:=by exact gI):aN P ops n (⟨some d,op,ty,pos,aI,some (gi,want)⟩::rest) done Q ⟨n,ts,ls,h⟩:=aN.gC hg hc (fun hC=>an.iU hk (hi hC) b) f hr
theorem qx (k k':Nat) (hk:Ab.get ts k=.gd c x) (b:Ab.get ((k,.a x)::ts) k'=.gd c' x') (f:an P ⟨some d,op,ty,pos,aI,some (gi,want)⟩ ((k',.a x')::(k,.a x)::ts) ls h fx v ls h) (hr:aN P ops n rest (fx.plain::done) Q ⟨n,(d,v.under C)::ts,ls,h⟩) (hg:(ops[gi]?).bind (·.dst)=some dg:=by exact rfl) (hc:gc (get ts dg) want=some C:=by exact rfl) (g:Nat.blt d n=true:=by exact rfl) (hi:C=true->c=true:=by exact gI) (j:C=true->c'=true:=by exact gI):aN P ops n (⟨some d,op,ty,pos,aI,some (gi,want)⟩::rest) done Q ⟨n,ts,ls,h⟩:=aN.gC hg hc (fun hC=>an.iU hk (hi hC) (an.iU b (j hC) f)) g hr
theorem mB (k:Nat) (hg:(ops[gi]?).bind (·.dst)=some dg) (hc:gc (get ts dg) want=some C) (hk:Ab.get ts k=.gd c x) (b:ev ((k,.a x)::ts) f=.a (.d (.func eb cB))) (g:jh ((k,.a x)::ts) args.toList=some xs) (j:C=true->∀H:af,AC P eb (xs++cB.map A.d) H fun r h'=>r=v/\h'=H) (hr:aN P ops n rest (Fx.plain {}::done) Q ⟨n,(d,v.under C)::ts,ls,h⟩) (hi:C=true->c=true:=by exact gI) (l:Nat.blt d n=true:=by exact rfl):aN P ops n (⟨some d,.call { callee:=.value f,args:=args,argTypes:=cq },ty,pos,aI,some (gi,want)⟩::rest) done Q ⟨n,ts,ls,h⟩:=aN.gC hg hc (fun hC=>an.iU hk (hi hC) (an.j6 b g (j hC))) l hr
theorem sD (k k':Nat) (hg:(ops[gi]?).bind (·.dst)=some dg) (hc:gc (get ts dg) want=some C) (hk:Ab.get ts k=.gd c x) (b:Ab.get ((k,.a x)::ts) k'=.gd c' x') (g:ev ((k',.a x')::(k,.a x)::ts) f=.a (.d (.func eb cB))) (j:jh ((k',.a x')::(k,.a x)::ts) args.toList=some xs) (l:C=true->∀H:af,AC P eb (xs++cB.map A.d) H fun r h'=>r=v/\h'=H) (hr:aN P ops n rest (Fx.plain {}::done) Q ⟨n,(d,v.under C)::ts,ls,h⟩) (hi:C=true->c=true:=by exact gI) (m:C=true->c'=true:=by exact gI) (p:Nat.blt d n=true:=by exact rfl):aN P ops n (⟨some d,.call { callee:=.value f,args:=args,argTypes:=cq },ty,pos,aI,some (gi,want)⟩::rest) done Q ⟨n,ts,ls,h⟩:=aN.gC hg hc (fun hC=>an.iU hk (hi hC) (an.iU b (m hC) (an.j6 g j (l hC)))) p hr
theorem BI [jm P] (e:an P o ts ls h fx v aS h':=by exact an.yC rfl rfl rfl):an P o ts ls h fx v aS h':=e
theorem BS [jm P] (e:an P o ts ls h fx v aS h':=by exact an.Dn rfl rfl rfl):an P o ts ls h fx v aS h':=e
theorem aK.SI {t u:TypeId}{x y:Operand}{p q:Int}(hr:aK P ops rest Q ⟨n,(d,.a (.d (.int .i64 (p+q))))::ts,ls,h⟩) (hx:ev ts x=.a (.d (.int .i64 p)):=by exact rfl) (b:ev ts y=.a (.d (.int .i64 q)):=by exact rfl)
  (h1 : -9223372036854775808<=p+q:=by first|omega|(dsimp only; omega)|(simp at *; omega)) (f:p+q<=9223372036854775807:=by first|omega|(dsimp only; omega)|(simp at *; omega)) (g:Nat.blt d n=true:=by exact rfl) :
  aK P ops (⟨some d,.binOp .add t x y u,ty,pos,aI,none⟩::rest) Q ⟨n,ts,ls,h⟩:=aK.s0 (an.qn hx b h1 f) g hr
theorem aK.Sc {f:Operand}{args:Array Operand}{cq:Array TypeId}{eb:FuncId}{cB:List D}{xs:List A}(b:ev ts f=.a (.d (.func eb cB))) (g:jh ts args.toList=some xs)
  (hc:∀H:af,AC P eb (xs++cB.map A.d) H fun r h'=>r=v/\h'=H) (hr:aK P ops rest Q ⟨n,(d,v)::ts,ls,h⟩) (j:Nat.blt d n=true:=by exact rfl):aK P ops (⟨some d,.call { callee:=.value f,args:=args,argTypes:=cq },ty,pos,aI,none⟩::rest) Q ⟨n,ts,ls,h⟩:=aK.s0 (an.j6 b g hc) j hr
theorem aK.Sl [jm P] (hr:aK P ops rest Q ⟨n,(d,v)::ts,aS,h⟩) (b:an P ⟨some d,op,ty,pos,aI,none⟩ ts ls h { wl:=true } v aS h:=by exact an.Pg (iM rfl) rfl) (f:Nat.blt d n=true:=by exact rfl) :
  aK P ops (⟨some d,op,ty,pos,aI,none⟩::rest) Q ⟨n,ts,ls,h⟩:=aK.sL b f hr
theorem aK.Sf [jm P] (hr:aK P ops rest Q ⟨n,ts,aS,h⟩) (b:an P ⟨none,op,ty,pos,aI,none⟩ ts ls h { wl:=true } v aS h:=by first|exact an.yO (iM rfl) rfl rfl rfl rfl rfl|exact an.mr (iM rfl) rfl rfl rfl rfl (by repeat (first|exact bE.zero|apply bE.succ)) (by repeat (first|exact bE.zero|apply bE.succ))) :
  aK P ops (⟨none,op,ty,pos,aI,none⟩::rest) Q ⟨n,ts,ls,h⟩:=aK.iT b hr
theorem aK.hq {h:af}(h':af) (hw:aK P ops rest Q ⟨n,ts,ls,h'⟩) (e:h=h':=by first|rfl|(rw [af.set_set]; rfl)|(funext n_; simp only [af.set]; (repeat' split)<;>first|rfl|(exfalso; simp_all; done)|(simp_all; done))):aK P ops rest Q ⟨n,ts,ls,h⟩:=aK.fH e hw
theorem aN.Dh {h:af}(h':af) (hw:aN P ops n rest done Q ⟨n,ts,ls,h'⟩) (e:h=h':=by first|rfl|(rw [af.set_set]; rfl)|(funext n_; simp only [af.set]; (repeat' split)<;>first|rfl|(exfalso; simp_all; done)|(simp_all; done))):aN P ops n rest done Q ⟨n,ts,ls,h⟩:=aN.fH e hw
end
section
variable {P:Program}{Q:Exit->St->Prop}{σ:St}
theorem ag.Qk {id:Nat}{l:List Oper}{y:Code}(h:aK P l.toArray l (fun b=>ag P y Q b) σ):ag P (.seq (.region id l.toArray false) y) Q σ:=ag.seq (ag.region h)
theorem ag.Ql {id:Nat}{l:List Oper}{y:Code}(h:aN P l.toArray σ.n l [] (fun b=>ag P y Q b) σ) (hm:P.follows .mixedOrders=true:=by exact rfl):ag P (.seq (.region id l.toArray true) y) Q σ:=ag.seq (ag.draw hm h)
theorem ag.sk {A K:St->Prop}(b:∀σ,A σ->K σ) (h:A σ) (e:K σ->Q .normal σ:=by exact fun h=>h):ag P .skip Q σ:=ag.skip (e (b _ h))
theorem ag.rt {α:Type}{a r:α}(b:some a=some r) (h:a=r->Q .ret σ:=by intro e; subst e; (repeat (first|refine yJ ?_|refine yK ?_)); exact bU.cH _ rfl ⟨rfl,rfl⟩ (fun _ _ h=>h)):ag P .ret Q σ:=ag.ret (h (Option.some.inj b))
end
theorem bO {α β:Type}{o:Option α}{k:α->Option β}{r:β}(h:o.bind k=some r):∃x,o=some x/\k x=some r:=bx h
theorem gO {α β:Type}{c:Bool}{o:Option α}{d:α}{k:α->Option β}{r:β}(h:aZ c o d k=some r):∃x,(c=true->o=some x)/\k x=some r:=A4 h
section
variable {P:Program}{α:Type}{ts:Ts}{ls aS:List (List D)}{h h':af}{dst:Option Tmp}{ty:TypeId}{pos:String}{aI:Array Edge}{g:Option (Nat×Bool)}{ops:Array Oper}{rest:List Oper}{Q:St->Prop}{n d:Nat}{v:V}{op:Op}{done:List Fx}
theorem ix [jm P] (f:α->List D) (n:Nat){t e:TypeId}{b j:TI}{x i:Operand}{tok:Option Nat}{s:Sl α}{m:IntKind}{y:α}{k:Nat}(hr:s.l[n]?=some y) (p:aY P t=some b:=by exact iM rfl) (hk:b.k=.slice e:=by exact rfl) (q:aY P e=some j:=by exact iM rfl)
  (hx:ev ts x=.a (.d (s.d k f tok)):=by exact rfl) (hi:ev ts i=.a (.d (.int m (n:Int))):=by exact rfl) (r:k=j.size:=by exact rfl):an P ⟨dst,.indexAddr t x i,ty,pos,aI,g⟩ ts ls h {} (.a (.d (.view (f y)))) ls h:=an.A5 p hk q hx hi r hr
theorem am {t u e:TypeId}{j p b:TI}(f:α->List D){x y:Operand}{tk k k' m:Nat}{tok':Option Nat}{s r w:Sl α}{z:A}(q:aY P t=some j) (hk:j.k=.slice e) (v:aY P e=some b) (B:aY P u=some p) (hr:bh b.bytes s r=some w) (C:∃e,p.k=.slice e:=by exact⟨_,rfl⟩)
  (hz:b.zero=some z:=by exact rfl) (E:(cw z).length=b.size:=by exact rfl) (F:b.size≠0:=by decide) (hx:ev ts x=.a (.d (s.d k f (some tk))):=by exact rfl) (G:ev ts y=.a (.d (r.d k' f tok')):=by exact rfl) (H:k=b.size:=by exact rfl) (I:k'=b.size:=by exact rfl)
  (bu:h tk=some (.tok b.size m):=by exact az) (hm:m=s.l.length:=by exact rfl):an P ⟨dst,.call { callee:=.builtin .append,args:=#[x,y],argTypes:=#[t,u] },ty,pos,aI,g⟩ ts ls h { rh:=true,wh:=true } (.a (.d (w.d k f (some tk)))) ls (h.set tk (some (.tok b.size w.l.length))) :=
 an.jy q hk v B C hz E F hx G H I bu hm hr
theorem SH (b:an P ⟨some d,op,ty,pos,aI,none⟩ ts ls h { rh:=true,wh:=true } v ls h') (hr:aK P ops rest Q ⟨n,(d,v)::ts,ls,h'⟩) (f:Nat.blt d n=true:=by exact rfl):aK P ops (⟨some d,op,ty,pos,aI,none⟩::rest) Q ⟨n,ts,ls,h⟩:=aK.sH b f hr
theorem cF {f:Operand}{args:Array Operand}{cq:Array TypeId}{eb:FuncId}{cB:List D}{xs:List A}(b:ev ts f=.a (.d (.func eb cB))) (g:jh ts args.toList=some xs)
  (hc:∀H:af,AC P eb (xs++cB.map A.d) H fun r h'=>r=v/\h'=H) (hr:aN P ops n rest (Fx.plain {}::done) Q ⟨n,(d,v)::ts,ls,h⟩) (j:Nat.blt d n=true:=by exact rfl):aN P ops n (⟨some d,.call { callee:=.value f,args:=args,argTypes:=cq },ty,pos,aI,none⟩::rest) done Q ⟨n,ts,ls,h⟩:=aN.s0 (an.j6 b g hc) j hr
end
theorem Qe {α:Type}{a b c:α}(h:c=b) (e:a=b):a=c:=e.trans h.symm
theorem Qs {α:Type}{o p:Option α}(h:o=p.bind some):o=p:=h.trans (Q.P5 p)
theorem QT {α:Type}{i n:Nat}{a b r:α}(h:i<n) (e:a=r):cond (decide ((i:Int)<(n:Int))) a b=r:=Q.jY (Q.Ij h) e
theorem QF {α:Type}{i n:Nat}{a b r:α}(h:¬i<n) (e:b=r):cond (decide ((i:Int)<(n:Int))) a b=r:=Q.uz (Q.P6 h) e
theorem Qa {α:Type}{l:List α}{i:Nat}(h:i<l.length):∃x,l[i]?=some x:=⟨_,List.getElem?_eq_getElem h⟩
theorem dL {α:Type}{i:Nat}{l:List α}(h:l.length<=i):l.drop i=[]:=List.drop_of_length_le h
end Go.Ab
/-
 Short rules for walks over the list layer.
-/
namespace Go.Ab
open Go
section
variable {au:bS}{P:Program}{Q:Exit->St->Prop}{σ:St}
theorem ag.cO {c:Operand}{u v:Code}{b:Bool}{α R:Type}{A B:Option α}{K:α->Option R}{r:R}(f:Option.bind (bif b then A else B) K=some r) (ht:b=true->Option.bind A K=some r->ag P u Q σ) (g:b=false->Option.bind B K=some r->ag P v Q σ) (hc:ev σ.ts c=.a (.d (.bool b)):=by exact rfl):ag P (.cond c u v) Q σ:=ag.qw f hc ht g
theorem ag.cP {c:Operand}{u v:Code}{b:Bool}{α R:Type}{A B:α}{K:α->Option R}{r:R}(f:K (bif b then A else B)=some r) (ht:b=true->K A=some r->ag P u Q σ) (g:b=false->K B=some r->ag P v Q σ) (hc:ev σ.ts c=.a (.d (.bool b)):=by exact rfl):ag P (.cond c u v) Q σ:=ag.A_ f hc ht g
end
end Go.Ab
/-
 A law's call beside the library's table of powers of ten. No program text.
-/
namespace Go.Ab
open Go Go.RowKit Go.Proofs Go.ChangeShapes Go.WideShapes Go.ChangeAt
variable {au:bS}
theorem Qm {P:Program}{W:World}{l:List (String×DataW Unit)}{name:String}{k:IntKind}{b:List Int}{g:Nat}{t e:TypeId}{n:Nat}(hg:P.globalNamed name=some g) (f:(P.globals[g]?).map (·.type)=some t) (ht:P.underlying t=some (.array n e))
  (he:P.underlying e=some (.int k)) (j:P.cellsOf e=1) (m:P.cellsOf t=n) (h:laidMet P l W) (hm:(name,Lib.tabData k b)∈l):∃u fr,W.heap[g]?=some (.cells (b.map fun z=>Value.int k z).toArray u fr):=by
 obtain⟨w,t',cs,fuel,p,q,r,hv,s⟩:=Lib.laidMet.reads h hm;obtain rfl:=Option.some.inj (hg.symm.trans q);obtain rfl:=Option.some.inj (f.symm.trans r);have hc:=Lib.cells_of_tab ht he j m s;unfold World.var? at hv;rw [hg,Option.bind_some] at hv
 split at hv
 ·rename_i c u fr v
  simp only [Option.some.injEq] at hv;subst hv;refine⟨u,fr, ?_⟩;rw [<- hc];exact v
 ·cases hv
def fc (g:Nat) (o:Go.Obj):af:=fun i=>if i=0 then some (.fix g o) else none
def jT (w:World):J:={ j0 w with next:=1 }
theorem Qn (w:World):Le (j0 w) w (jT w) w:=⟨Nat.zero_le _,fun _ h=>absurd h (Nat.not_lt_zero _),fun _=>Nat.le_refl _,fun _ _ _=>rfl,fun _ h=>absurd h (Nat.not_lt_zero _),fun _ _ _ _ _ h=>h⟩
theorem Qo {w:World}{g:Nat}{o:Go.Obj}(h:w.heap[g]?=some o):fo (jT w) w (fc g o):=by
 refine⟨fun id m hi=>?_,fun jv o1 jw o2 b h1 f _ _=>?_,fun b j=>(by simp [jT,j0,Array.getElem?_eq_none j])⟩
 ·unfold fc at hi
  split at hi
  ·rename_i h0; subst h0; cases hi; exact⟨Nat.zero_lt_one,h⟩
  ·cases hi
 ·unfold fc at h1 f
  split at h1
  ·split at f
   ·rename_i k l; rw [k,l]
   ·cases f
  ·cases h1
theorem Qp {P:Program}{f:FuncId}{xs:List A}{g:Nat}{o:Go.Obj}(hc:@AC bS.on P f xs (fc g o) fun r h'=>r=.a (.d (.bool true))/\h'=fc g o){W:World}{args:List Value}(hg:W.heap[g]?=some o) (p:aW (di (j0 W) W) xs args) :
  Calls P f args.toArray W fun e j=>e=.returned (.bool true)/\Below W.heap.size W j:=by
 letI:bS:=bS.on
 refine(hc.runs (jT W) W args (Qo hg) (p.imp fun _ _ h=>h.mono (Qn W))).mono ?_;rintro e j ⟨r,cv,j',h',rfl,⟨rfl,rfl⟩,hv,hr,b⟩;have q:aD j' j (.bool true) cv:=hv;cases q;refine⟨rfl,b.os,b.tape,b.output.1,b.size,fun k hk=>?_⟩;by_cases l:k=g
 ·subst l;have h1:j.heap[k]?=some o:=(hr.obj 0 (.fix k o) rfl).2;rw [h1,hg]
 ·refine(b.frame k hk ?_).1;rintro (h|⟨id,s,h,m⟩)
  ·cases h
  ·unfold fc at h
   split at h
   ·cases h;simp only [bH,Option.some.injEq] at m;exact l m.symm
   ·cases h
theorem iw.of {P:Program}{g:Nat}{u:TypeId}{fr:Nat×Nat}(hg:P.globalNamed "internal/strconv.uint64pow10"=some g):iw P (.fix g (.cells (Lib.pow10Tab.map fun z=>Value.int .u64 z).toArray u fr)):=⟨g,u,fr,rfl,hg⟩
end Go.Ab
namespace Go.Ab
theorem oB {α β : Type} (a : α) (f : α → Option β) : (some a).bind f = f a := rfl
theorem oJ {α : Type} {a b : α} (h : some a = some b) : a = b := Option.some.inj h
theorem nS (n : Nat) : n < n.succ := Nat.lt_succ_self n
theorem oD {p : Prop} [Decidable p] (h : decide p = true) : p := of_decide_eq_true h
theorem dF {p : Prop} [Decidable p] (h : ¬ p) : decide p = false := decide_eq_false h
theorem dT {p : Prop} [Decidable p] (h : p) : decide p = true := decide_eq_true h
theorem kN {ts : Ts} : fN ts [] := .nil
end Go.Ab
namespace Go.Ab
open aK an ag dJ fN
variable {au : bS} {f_ : eT}
abbrev RT (x : V) (H : af) : V → af → Prop := fun v h' => v = x ∧ h' = H
abbrev vi (n : Nat) : V := .a (.d (.int .i64 (n : Int)))
abbrev tS {α : Type} (h : af) (t k : Nat) (s : Sl α) : af := h.set t (some (.tok k s.l.length))
abbrev cS (h : af) (i : Nat) (x : List D) : af := h.set i (some (.cells x))
section
variable {R O α : Type} {r : R}
theorem aX {o : Option α} {k : α → Option R} (h : o.bind k = some r) : ∃ x, o = some x ∧ k x = some r := qT rfl h
theorem aJ {o : Option α} {k : α → Option O} {K : O → Option R} (h : Option.bind (o.bind k) K = some r) : ∃ x, o = some x ∧ Option.bind (k x) K = some r := qO rfl h
theorem dQ {v : α} {k : α → Option R} (h : on v k = some r) : ∃ x, some v = some x ∧ k x = some r := ⟨v, rfl, h⟩
theorem eG {v : α} {k : α → Option O} {K : O → Option R} (h : Option.bind (on v k) K = some r) : ∃ x, some v = some x ∧ Option.bind (k x) K = some r := ⟨v, rfl, h⟩
theorem ff {v : α} {k : α → O} {K : O → Option R} (h : K (on v k) = some r) : ∃ x, some v = some x ∧ K (k x) = some r := ⟨v, rfl, h⟩
theorem eB {c : Bool} {o : Option α} {d : α} {k : α → Option R} (h : aZ c o d k = some r) : ∃ x, (c = true → o = some x) ∧ k x = some r := D2 rfl h
theorem fz {c : Bool} {o : Option α} {d : α} {k : α → Option O} {K : O → Option R} (h : Option.bind (aZ c o d k) K = some r) : ∃ x, (c = true → o = some x) ∧ Option.bind (k x) K = some r := uQ rfl h
end
section
variable {P : Program} {dst : Option Nat} {ty : TypeId} {pos : String} {aI : Array Edge} {g : Option (Nat × Bool)} {ts : Ts} {ls : List (List D)} {h : af}
theorem an.wu {e : TypeId} {x : Operand} {y : A} {i : Nat} {aS : List (List D)} (hx : ev ts x = .a y) (b : fw (cw y) ls i aS := by repeat (first | exact fw.nil | apply fw.cons)) : an P (Oper.mk dst (.box e x) ty pos aI g) ts ls h { wl := true } (.cW i 0) aS h := an.OA hx b
end
theorem Kx {P : Program} [jm P] {o : Oper} {ts : Ts} {ls aS : List (List D)} {h h' : af} {fx : Fx} {v : V} (e : an P o ts ls h fx v aS h' := by first | exact an.Pe | exact an.dK (iM rfl) rfl rfl rfl | exact an.Pf | exact an.qp (iM rfl) rfl rfl (iM rfl) rfl rfl | exact an.yC rfl rfl rfl | exact an.Ov rfl | exact an.extract rfl rfl | exact an.Dn rfl rfl rfl | exact an.kI rfl rfl rfl | exact an.we rfl rfl rfl | exact an.OX rfl | exact an.nL (iM rfl) rfl rfl rfl rfl | exact an.pe (iM rfl) rfl rfl (iM rfl) rfl rfl | exact an.build jm.ok rfl rfl rfl rfl rfl rfl | exact an.buildSlice (iM rfl) rfl (iM rfl) rfl rfl rfl rfl rfl rfl | exact an.iS rfl | exact an.iK (iM rfl) rfl rfl (iM rfl) rfl rfl | exact an.eD (iM rfl) rfl rfl az rfl) : an P o ts ls h fx v aS h' := e
section
variable {P : Program} {α : Type} {ts : Ts} {ls aS : List (List D)} {h h' : af} {ty : TypeId} {pos : String} {aI : Array Edge} {ops : Array Oper} {rest : List Oper} {Q : St → Prop} {n d dg gi : Nat} {v : V} {op : Op} {done : List Fx} {want C c c' : Bool} {x x' : A} {fx : Fx}
theorem Gk [jm P] (k : Nat) (hr : aK P ops rest Q ⟨n, (d, v.under C) :: ts, ls, h⟩) (hk : Ab.get ts k = .gd c x := by exact rfl) (b : an P ⟨some d, op, ty, pos, aI, some (gi, want)⟩ ((k, .a x) :: ts) ls h fx v ls h := by exact Kx) (hg : (ops[gi]?).bind (·.dst) = some dg := by exact rfl) (hc : gc (get ts dg) want = some C := by exact rfl) (f : Nat.blt d n = true := by exact rfl) (hi : C = true → c = true := by exact gI) : aK P ops (⟨some d, op, ty, pos, aI, some (gi, want)⟩ :: rest) Q ⟨n, ts, ls, h⟩ := G1 k hk b hr hg hc f hi
theorem cm [jm P] (k : Nat) (hr : aN P ops n rest (fx.plain :: done) Q ⟨n, (d, v.under C) :: ts, ls, h⟩) (hk : Ab.get ts k = .gd c x := by exact rfl) (b : an P ⟨some d, op, ty, pos, aI, some (gi, want)⟩ ((k, .a x) :: ts) ls h fx v ls h := by exact Kx) (hg : (ops[gi]?).bind (·.dst) = some dg := by exact rfl) (hc : gc (get ts dg) want = some C := by exact rfl) (f : Nat.blt d n = true := by exact rfl) (hi : C = true → c = true := by exact gI) : aN P ops n (⟨some d, op, ty, pos, aI, some (gi, want)⟩ :: rest) done Q ⟨n, ts, ls, h⟩ := Qj k hk b hr hg hc f hi
theorem bI (k : Nat) (hk : Ab.get ts k = .gd c x) (b : C = true → an P ⟨some d, op, ty, pos, aI, some (gi, want)⟩ ((k, .a x) :: ts) ls h fx v ls h) (hr : aK P ops rest Q ⟨n, (d, v.under C) :: ts, ls, h⟩) (hg : (ops[gi]?).bind (·.dst) = some dg := by exact rfl) (hc : gc (get ts dg) want = some C := by exact rfl) (f : Nat.blt d n = true := by exact rfl) (hi : C = true → c = true := by exact gI) : aK P ops (⟨some d, op, ty, pos, aI, some (gi, want)⟩ :: rest) Q ⟨n, ts, ls, h⟩ := aK.gC hg hc (fun hC => an.iU hk (hi hC) (b hC)) f hr
theorem j9 (k : Nat) (hk : Ab.get ts k = .gd c x) (b : C = true → an P ⟨some d, op, ty, pos, aI, some (gi, want)⟩ ((k, .a x) :: ts) ls h fx v ls h) (hr : aN P ops n rest (fx.plain :: done) Q ⟨n, (d, v.under C) :: ts, ls, h⟩) (hg : (ops[gi]?).bind (·.dst) = some dg := by exact rfl) (hc : gc (get ts dg) want = some C := by exact rfl) (f : Nat.blt d n = true := by exact rfl) (hi : C = true → c = true := by exact gI) : aN P ops n (⟨some d, op, ty, pos, aI, some (gi, want)⟩ :: rest) done Q ⟨n, ts, ls, h⟩ := aN.gC hg hc (fun hC => an.iU hk (hi hC) (b hC)) f hr
theorem fJ (k k' : Nat) (hk : Ab.get ts k = .gd c x) (b : Ab.get ((k, .a x) :: ts) k' = .gd c' x') (f : C = true → an P ⟨some d, op, ty, pos, aI, some (gi, want)⟩ ((k', .a x') :: (k, .a x) :: ts) ls h fx v ls h) (hr : aK P ops rest Q ⟨n, (d, v.under C) :: ts, ls, h⟩) (hg : (ops[gi]?).bind (·.dst) = some dg := by exact rfl) (hc : gc (get ts dg) want = some C := by exact rfl) (g : Nat.blt d n = true := by exact rfl) (hi : C = true → c = true := by exact gI) (j : C = true → c' = true := by exact gI) : aK P ops (⟨some d, op, ty, pos, aI, some (gi, want)⟩ :: rest) Q ⟨n, ts, ls, h⟩ := aK.gC hg hc (fun hC => an.iU hk (hi hC) (an.iU b (j hC) (f hC))) g hr
theorem gq (k k' : Nat) (hk : Ab.get ts k = .gd c x) (b : Ab.get ((k, .a x) :: ts) k' = .gd c' x') (f : C = true → an P ⟨some d, op, ty, pos, aI, some (gi, want)⟩ ((k', .a x') :: (k, .a x) :: ts) ls h fx v ls h) (hr : aN P ops n rest (fx.plain :: done) Q ⟨n, (d, v.under C) :: ts, ls, h⟩) (hg : (ops[gi]?).bind (·.dst) = some dg := by exact rfl) (hc : gc (get ts dg) want = some C := by exact rfl) (g : Nat.blt d n = true := by exact rfl) (hi : C = true → c = true := by exact gI) (j : C = true → c' = true := by exact gI) : aN P ops n (⟨some d, op, ty, pos, aI, some (gi, want)⟩ :: rest) done Q ⟨n, ts, ls, h⟩ := aN.gC hg hc (fun hC => an.iU hk (hi hC) (an.iU b (j hC) (f hC))) g hr
theorem dG [jm P] {dst : Option Tmp} {g : Option (Nat × Bool)} (f : α → List D) (s : Sl α) {t e : TypeId} {b : TI} {y : Operand} {cq : Array TypeId} {k : Nat} {tok : Option Nat} (bQ : cq[0]? = some t := by exact rfl) (j : aY P t = some b := by exact iM rfl) (hk : b.k = .slice e := by exact rfl) (hx : ev ts y = .a (.d (s.d k f tok)) := by exact rfl) : an P ⟨dst, .call { callee := .builtin .len, args := #[y], argTypes := cq }, ty, pos, aI, g⟩ ts ls h {} (.a (.d (.int .i64 (s.l.length : Int)))) ls h := an.sr j hk bQ hx
theorem bX {dst : Option Tmp} {g : Option (Nat × Bool)} {t u : TypeId} {y z : Operand} {a b r : Bs} (hr : a_ a b = some r) (hx : ev ts y = .a (.d (.str a)) := by exact rfl) (f : ev ts z = .a (.d (.str b)) := by exact rfl) : an P ⟨dst, .binOp .add t y z u, ty, pos, aI, g⟩ ts ls h {} (.a (.d (.str r))) ls h := an.jL hx f hr
theorem fp {dst : Option Tmp} {g : Option (Nat × Bool)} {t u : TypeId} {y z : Operand} {a b r : Int} (hr : cN a b = some r) (hx : ev ts y = .a (.d (.int .i64 a)) := by exact rfl) (f : ev ts z = .a (.d (.int .i64 b)) := by exact rfl) : an P ⟨dst, .binOp .add t y z u, ty, pos, aI, g⟩ ts ls h {} (.a (.d (.int .i64 r))) ls h := an.A6 hx f hr
theorem Iv {dst : Option Tmp} {g : Option (Nat × Bool)} {t u : TypeId} {y z : Operand} {a b r : Int} (hr : sq a b = some r) (hx : ev ts y = .a (.d (.int .i64 a)) := by exact rfl) (f : ev ts z = .a (.d (.int .i64 b)) := by exact rfl) : an P ⟨dst, .binOp .sub t y z u, ty, pos, aI, g⟩ ts ls h {} (.a (.d (.int .i64 r))) ls h := an.O4 hx f hr
theorem aU [jm P] (f : α → List D) (s : Sl α) {t e : TypeId} {b : TI} {y : Operand} {cq : Array TypeId} {k : Nat} {tok : Option Nat} (hr : s.l.length ≤ 140737488355328 → aK P ops rest Q ⟨n, (d, .a (.d (.int .i64 (s.l.length : Int)))) :: ts, ls, h⟩) (bQ : cq[0]? = some t := by exact rfl) (g : aY P t = some b := by exact iM rfl) (hk : b.k = .slice e := by exact rfl) (hx : ev ts y = .a (.d (s.d k f tok)) := by exact rfl) (j : Nat.blt d n = true := by exact rfl) : aK P ops (⟨some d, .call { callee := .builtin .len, args := #[y], argTypes := cq }, ty, pos, aI, none⟩ :: rest) Q ⟨n, ts, ls, h⟩ := aK.sLen g hk bQ hx j hr
end
theorem sy {H h : af} (e : ∀ j b, H j = some b → h j = some b := by first | exact fun _ _ h => h | exact af.AZ (by assumption) | (simp only [af.set_set]; exact af.AZ (by assumption)) | (intro i o he; rw [← he]; simp only [af.set] at he ⊢; (repeat' split) <;> simp_all)) : ∀ j b, H j = some b → h j = some b := e
section
variable {P : Program} {Q Q' : Exit → St → Prop} {σ : St}
theorem ry (h : Q' .ret σ) (e : Q' .ret σ → Q .ret σ := by intro h; (repeat (first | refine yJ ?_ | refine yK ?_)); exact h) : ag P .ret Q σ := ag.ret (e h)
theorem rs {α : Type} {a r : α} (b : some a = some r) (h : a = r → Q .ret σ := by intro e; subst e; (repeat (first | refine yJ ?_ | refine yK ?_)); exact bU.cH _ rfl ⟨rfl, rfl⟩ sy) : ag P .ret Q σ := ag.ret (h (Option.some.inj b))
theorem hz {c : Code} {n : Nat} {ts : Ts} {ls : List (List D)} {h : af} (h' : af) (hw : ag P c Q ⟨n, ts, ls, h'⟩) (e : h = h' := by funext n_; simp only [af.set]; (repeat' split) <;> simp_all) : ag P c Q ⟨n, ts, ls, h⟩ := ag.j7 e hw
end
inductive qy (ts : Ts) : List Nat → Ts → Prop
  | nil : qy ts [] []
  | cons {ks : List Nat} {r : Ts} {k : Nat} {v : V} (t : qy ts ks r) (h : Ab.get ts k = v) : qy ts (k :: ks) ((k, v) :: r)
theorem Iw {ts : Ts} {ks : List Nat} {r : Ts} {k : Nat} {v : V} (t : qy ts ks r := by first | exact qy.nil | exact Iw) (h : Ab.get ts k = v := by conv => lhs; whnf) : qy ts (k :: ks) ((k, v) :: r) := qy.cons t h
theorem tl {ts r : Ts} (ks : List Nat) (h : qy ts ks r := by first | exact qy.nil | exact Iw) : fN ts r := by
  induction h with
  | nil => exact kN
  | cons t h b => exact fN.cons h b
inductive qz (ts : Ts) (m : Nat) : List Nat → Ts → Prop
  | nil : qz ts m [] []
  | cons {ks : List Nat} {r : Ts} {k : Nat} {v : V} (t : qz ts m ks r) (h : Ab.get ts k = v) (hv : v.yL m = true) : qz ts m (k :: ks) ((k, v) :: r)
theorem Ix {ts : Ts} {m : Nat} {ks : List Nat} {r : Ts} {k : Nat} {v : V} (t : qz ts m ks r := by first | exact qz.nil | exact Ix) (h : Ab.get ts k = v := by conv => lhs; whnf) (hv : v.yL m = true := by rfl) : qz ts m (k :: ks) ((k, v) :: r) := qz.cons t h hv
theorem kl {ts r : Ts} {m : Nat} (ks : List Nat) (h : qz ts m ks r := by first | exact qz.nil | exact Ix) : dJ ts m r := by
  induction h with
  | nil => exact dJ.nil
  | cons t h hv b => exact dJ.c h hv b
attribute [local irreducible] aK aN ag an
structure Wr (A : Prop) : Prop where
  x : A
theorem Ys {A B : Prop} (h : Wr A → B := by
  intro a
  first
    | apply ag.Qk
    | refine aK.SI ?_
    | (apply aK.s0; exact Kx; exact rfl)
    | apply aK.nil
    | (apply aN.s0; exact Kx; exact rfl)
    | apply ag.block
    | apply ag.region
    | (apply aK.gC; exact rfl; exact rfl; exact fun _ => Kx; exact rfl)
    | refine ag.Ql ?_
    | refine aN.nil (by decide +kernel) ?_
    | refine aK.Sl ?_
    | refine aK.Sf ?_
    | (apply aN.gC; exact rfl; exact rfl; exact fun _ => Kx; exact rfl)
    | refine aN.iT (an.yO (iM rfl) rfl rfl rfl rfl rfl) ?_
    | refine aN.sB (iM rfl) rfl rfl ?_
  exact a.x) (a : A) : B := h ⟨a⟩
theorem Y1 {A B : Prop} (a : A) (h : Wr A → B := by intro a; refine Ys (a := ?_); exact a.x) : B := h ⟨a⟩
theorem Y2 {A B : Prop} (a : A) (h : Wr A → B := by intro a; refine Ys (a := ?_); refine Ys (a := ?_); exact a.x) : B := h ⟨a⟩
theorem Y3 {A B : Prop} (a : A) (h : Wr A → B := by intro a; refine Ys (a := ?_); refine Ys (a := ?_); refine Ys (a := ?_); exact a.x) : B := h ⟨a⟩
theorem Y4 {A B : Prop} (a : A) (h : Wr A → B := by intro a; refine Ys (a := ?_); refine Ys (a := ?_); refine Ys (a := ?_); refine Ys (a := ?_); exact a.x) : B := h ⟨a⟩
theorem Y5 {A B : Prop} (a : A) (h : Wr A → B := by intro a; refine Ys (a := ?_); refine Ys (a := ?_); refine Ys (a := ?_); refine Ys (a := ?_); refine Ys (a := ?_); exact a.x) : B := h ⟨a⟩
theorem Y6 {A B : Prop} (a : A) (h : Wr A → B := by intro a; refine Ys (a := ?_); refine Ys (a := ?_); refine Ys (a := ?_); refine Ys (a := ?_); refine Ys (a := ?_); refine Ys (a := ?_); exact a.x) : B := h ⟨a⟩
theorem Y7 {A B : Prop} (a : A) (h : Wr A → B := by intro a; refine Ys (a := ?_); refine Ys (a := ?_); refine Ys (a := ?_); refine Ys (a := ?_); refine Ys (a := ?_); refine Ys (a := ?_); refine Ys (a := ?_); exact a.x) : B := h ⟨a⟩
theorem Y8 {A B : Prop} (a : A) (h : Wr A → B := by intro a; refine Ys (a := ?_); refine Ys (a := ?_); refine Ys (a := ?_); refine Ys (a := ?_); refine Ys (a := ?_); refine Ys (a := ?_); refine Ys (a := ?_); refine Ys (a := ?_); exact a.x) : B := h ⟨a⟩
theorem Y9 {A B : Prop} (a : A) (h : Wr A → B := by intro a; refine Ys (a := ?_); refine Ys (a := ?_); refine Ys (a := ?_); refine Ys (a := ?_); refine Ys (a := ?_); refine Ys (a := ?_); refine Ys (a := ?_); refine Ys (a := ?_); refine Ys (a := ?_); exact a.x) : B := h ⟨a⟩
theorem pq {A B : Prop} (a : A) (h : Wr A → B := by intro a; refine Ys (a := ?_); refine Ys (a := ?_); refine Ys (a := ?_); refine Ys (a := ?_); refine Ys (a := ?_); refine Ys (a := ?_); refine Ys (a := ?_); refine Ys (a := ?_); refine Ys (a := ?_); refine Ys (a := ?_); exact a.x) : B := h ⟨a⟩
theorem Qq {A B : Prop} (a : A) (h : Wr A → B := by intro a; refine Ys (a := ?_); refine Ys (a := ?_); refine Ys (a := ?_); refine Ys (a := ?_); refine Ys (a := ?_); refine Ys (a := ?_); refine Ys (a := ?_); refine Ys (a := ?_); refine Ys (a := ?_); refine Ys (a := ?_); refine Ys (a := ?_); exact a.x) : B := h ⟨a⟩
theorem yU {A B : Prop} (a : A) (h : Wr A → B := by intro a; refine Ys (a := ?_); refine Ys (a := ?_); refine Ys (a := ?_); refine Ys (a := ?_); refine Ys (a := ?_); refine Ys (a := ?_); refine Ys (a := ?_); refine Ys (a := ?_); refine Ys (a := ?_); refine Ys (a := ?_); refine Ys (a := ?_); refine Ys (a := ?_); exact a.x) : B := h ⟨a⟩
theorem D5 {A B : Prop} (a : A) (h : Wr A → B := by intro a; refine Ys (a := ?_); refine Ys (a := ?_); refine Ys (a := ?_); refine Ys (a := ?_); refine Ys (a := ?_); refine Ys (a := ?_); refine Ys (a := ?_); refine Ys (a := ?_); refine Ys (a := ?_); refine Ys (a := ?_); refine Ys (a := ?_); refine Ys (a := ?_); refine Ys (a := ?_); exact a.x) : B := h ⟨a⟩
theorem Qr {A B : Prop} (a : A) (h : Wr A → B := by intro a; refine Ys (a := ?_); refine Ys (a := ?_); refine Ys (a := ?_); refine Ys (a := ?_); refine Ys (a := ?_); refine Ys (a := ?_); refine Ys (a := ?_); refine Ys (a := ?_); refine Ys (a := ?_); refine Ys (a := ?_); refine Ys (a := ?_); refine Ys (a := ?_); refine Ys (a := ?_); refine Ys (a := ?_); exact a.x) : B := h ⟨a⟩
theorem Qt {A B : Prop} (a : A) (h : Wr A → B := by intro a; refine Ys (a := ?_); refine Ys (a := ?_); refine Ys (a := ?_); refine Ys (a := ?_); refine Ys (a := ?_); refine Ys (a := ?_); refine Ys (a := ?_); refine Ys (a := ?_); refine Ys (a := ?_); refine Ys (a := ?_); refine Ys (a := ?_); refine Ys (a := ?_); refine Ys (a := ?_); refine Ys (a := ?_); refine Ys (a := ?_); refine Ys (a := ?_); refine Ys (a := ?_); refine Ys (a := ?_); exact a.x) : B := h ⟨a⟩
end Go.Ab
