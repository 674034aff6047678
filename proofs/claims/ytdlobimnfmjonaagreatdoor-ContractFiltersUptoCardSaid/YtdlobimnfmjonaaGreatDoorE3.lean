import Derived.Test.YtdlobimnfmjonaaGreatDoorE2
import Derived.Defers
import Derived.Laws.IdiomRangeMap
import Derived.Sort.Grow
import Derived.Shelf.SlSortCmp.NoneTotal
import Derived.Shelf.Spec.SlicesGrow
import Derived.Shelf.SlicesE.DeleteFunc
import Derived.Laws.BytesString
import Derived.Shelf.Strconv.Itoa3
import Derived.Shelf.Strings.OnBuilder
import Derived.Shelf.SlicesE.Reverse
import Derived.WalkKit
import Derived.ProofKit
import Derived.OpenShut
import Derived.JoinedCond
import Derived.Carry
import Derived.Lib.LaidU8
set_option maxRecDepth 100000
set_option maxHeartbeats 2000000
set_option linter.unusedVariables false
set_option linter.unusedSimpArgs false
/-
 The rules as a walk applies them.
-/
namespace Go.Ab
open Go Go.RowKit
variable {av:bR}
variable {fS:eT}
section
variable {P:Program}{ops:Array Oper}{rest:List Oper}{Q:St->Prop}{n:Nat}{ts:Ts}{ls aV:List (List D)}{h h':af}{fx:Fx}{v:V}{d dg gi:Nat}{op:Op}{ty:TypeId}{pos:String}{aI:Array Edge}{want b:Bool}
theorem On (h:Nat.blt d n=true):mZ (some d) n=true:=h
theorem aJ.s0 (b:aq P ⟨some d,op,ty,pos,aI,none⟩ ts ls h fx v ls h) (f:Nat.blt d n=true) (hr:aJ P ops rest Q ⟨n,(d,v)::ts,ls,h⟩):aJ P ops (⟨some d,op,ty,pos,aI,none⟩::rest) Q ⟨n,ts,ls,h⟩ :=
 aJ.step b rfl f (by cases fx.wl<;>cases fx.wh<;>exact hr)
theorem aJ.sL (b:aq P ⟨some d,op,ty,pos,aI,none⟩ ts ls h { wl:=true } v aV h) (f:Nat.blt d n=true) (hr:aJ P ops rest Q ⟨n,(d,v)::ts,aV,h⟩):aJ P ops (⟨some d,op,ty,pos,aI,none⟩::rest) Q ⟨n,ts,ls,h⟩ :=
 aJ.step b rfl f hr
theorem aJ.gD (b:aq P ⟨none,op,ty,pos,aI,none⟩ ts ls h { wl:=true } v aV h) (hr:aJ P ops rest Q ⟨n,ts,aV,h⟩):aJ P ops (⟨none,op,ty,pos,aI,none⟩::rest) Q ⟨n,ts,ls,h⟩ :=
 aJ.step b rfl rfl hr
theorem aJ.sH (b:aq P ⟨some d,op,ty,pos,aI,none⟩ ts ls h { rh:=true,wh:=true } v ls h') (f:Nat.blt d n=true) (hr:aJ P ops rest Q ⟨n,(d,v)::ts,ls,h'⟩):aJ P ops (⟨some d,op,ty,pos,aI,none⟩::rest) Q ⟨n,ts,ls,h⟩ :=
 aJ.step b rfl f hr
theorem aJ.dG (b:aq P ⟨none,op,ty,pos,aI,none⟩ ts ls h fx v ls h') (f:fx.wl=false) (g:fx.wh=true) (hr:aJ P ops rest Q ⟨n,ts,ls,h'⟩):aJ P ops (⟨none,op,ty,pos,aI,none⟩::rest) Q ⟨n,ts,ls,h⟩ :=
 aJ.step b rfl rfl (by rw [f,g]; exact hr)
theorem aJ.sE {R:V->List (List D)->af->Prop}(b:dx P ⟨some d,op,ty,pos,aI,none⟩ ts ls h R) (f:Nat.blt d n=true) (hr:∀v aV h',R v aV h'->aJ P ops rest Q ⟨n,(d,v)::ts,aV,h'⟩) :
  aJ P ops (⟨some d,op,ty,pos,aI,none⟩::rest) Q ⟨n,ts,ls,h⟩:=aJ.Gr b rfl f hr
theorem Df (hg:(ops[gi]?).bind (·.dst)=some dg){dst:Option Tmp}:guardOf ops ⟨dst,op,ty,pos,aI,some (gi,want)⟩=some (dg,want):=by
 simp only [guardOf,hg]
variable {done:List Fx}
theorem aN.s0 (f:aq P ⟨some d,op,ty,pos,aI,none⟩ ts ls h fx v ls h) (g:Nat.blt d n=true) (hr:aN P ops n rest (fx.plain::done) Q ⟨n,(d,v)::ts,ls,h⟩):aN P ops n (⟨some d,op,ty,pos,aI,none⟩::rest) done Q ⟨n,ts,ls,h⟩ :=
 aN.cons (pX.plain f rfl g) (by cases fx with|mk a b c d e=>cases b<;>cases d<;>exact hr)
theorem vq.alloc {e:TypeId}{b:TI}{z:A}{i:Nat}{aV:List (List D)}(g:aX P e=some b) (hz:b.zero=some z) (k:ee (ct z) ls i aV):vq P ⟨some d,.alloc e,ty,pos,aI,none⟩ (.c_ i 0) ls aV:=by
 obtain⟨inf,s,h1,_,_,_,_,f⟩:=gj g;rw [hz] at f;obtain⟨v,l,m⟩:=nc f;obtain⟨p,q⟩:=k.spec;refine⟨ct z,d,rfl,rfl,by rw [p],q,v.cells.toList,e,fun j w=>(m j w).cells,fun a w K Q hk=>?_⟩;have r:(execOp a.eval (⟨some d,.alloc e,ty,pos,aI,none⟩:Oper)).run P w=.ok (.value (.pointer (some ⟨w.heap.size,0,none⟩))) (w.alloc (.cells v.cells e)):=by
  simp [execOp,Instr.alloc,zeroValue,typeInfo,h1,l,newVar,newRow]
 unfold Oper.wp;rw [r,Oper.upon_value];rw [Array.toArray_toList] at hk;exact hk
theorem aN.sB {e:TypeId}{b:TI}{z:A}{i:Nat}{aV:List (List D)}(f:aX P e=some b) (hz:b.zero=some z) (g:Nat.blt d n=true) (hr:aN P ops n rest ({ wl:=true,nu:=true }::done) Q ⟨n,(d,.c_ i 0)::ts,aV,h⟩)
  (j:ee (ct z) ls i aV:=by repeat (first|exact ee.nil|apply ee.cons)):aN P ops n (⟨some d,.alloc e,ty,pos,aI,none⟩::rest) done Q ⟨n,ts,ls,h⟩:=aN.born (vq.alloc f hz j) g hr
theorem aN.gD (b:aq P ⟨none,op,ty,pos,aI,none⟩ ts ls h { wl:=true } v aV h) (hr:aN P ops n rest ({ wl:=true }::done) Q ⟨n,ts,aV,h⟩):aN P ops n (⟨none,op,ty,pos,aI,none⟩::rest) done Q ⟨n,ts,ls,h⟩ :=
 aN.cons (pX.plain b rfl rfl) hr
theorem aN.sH (b:aq P ⟨some d,op,ty,pos,aI,none⟩ ts ls h { rh:=true,wh:=true } v ls h') (f:Nat.blt d n=true) (hr:aN P ops n rest ({ rh:=true,wh:=true }::done) Q ⟨n,(d,v)::ts,ls,h'⟩) :
  aN P ops n (⟨some d,op,ty,pos,aI,none⟩::rest) done Q ⟨n,ts,ls,h⟩:=aN.cons (pX.plain b rfl f) hr
theorem aN.dG (b:aq P ⟨none,op,ty,pos,aI,none⟩ ts ls h fx v ls h') (f:fx.wl=false) (g:fx.wh=true) (hr:aN P ops n rest (fx.plain::done) Q ⟨n,ts,ls,h'⟩):aN P ops n (⟨none,op,ty,pos,aI,none⟩::rest) done Q ⟨n,ts,ls,h⟩ :=
 aN.cons (pX.plain b rfl rfl) (by rw [f,g]; exact hr)
end
section
variable {P:Program}{ops:Array Oper}{rest:List Oper}{Q:St->Prop}{n:Nat}{ts:Ts}{ls aV:List (List D)}{h h':af}{fx:Fx}{x:A}{d dg gi:Nat}{op:Op}{ty:TypeId}{pos:String}{aI:Array Edge}{want C:Bool}
def gc:V->Bool->Option Bool
 | .a (.d (.bool b)),true=>some b
 | .a (.d (.bool b)),false=>some (!b)
 | .gd c (.d (.bool b)),true=>some (c&&b)
 | .gd c (.d (.bool b)),false=>some (c&&!b)
 | _,_=>none
theorem He {j:J}{w:World}{jl:List Nat}{a:Act}{o:Oper}(hg:guardOf ops o=some (dg,want)) (hc:gc (get ts dg) want=some C) (h:bp j w jl (get ts dg) (a.tmps.getD dg undef)) :
  Region.wanted o (yielded ops a.tmps)=C:=by
 cases hv:get ts dg with
 | a y =>
  cases y with
  | d z =>
   cases z with
   | bool b =>
    rw [hv] at hc;cases want<;>simp only [gc,Option.some.injEq] at hc<;>subst hc<;>rw [Gq hg hv h]<;>cases b<;>rfl
   | _=>rw [hv] at hc; cases want<;>simp [gc] at hc
  | agg z=>rw [hv] at hc; cases want<;>simp [gc] at hc
 | gd c y =>
  cases y with
  | agg z=>rw [hv] at hc; cases want<;>simp [gc] at hc
  | d z =>
   cases z with
   | bool b =>
    rw [hv] at hc;rw [hv] at h;cases c with
    | true =>
     have h1:bp j w jl (get [(dg,.a (.d (.bool b)))] dg) (a.tmps.getD dg undef):=by rw [gh]; exact h.1 rfl
     cases want<;>simp only [gc,Option.some.injEq,Bool.true_and] at hc<;>subst hc<;>rw [Gq (ts:=[(dg,.a (.d (.bool b)))]) hg (gh _ _ _) h1]<;>cases b<;>rfl
    | false =>
     have f:=h.2 rfl;have hC:C=false:=by cases want<;>simp [gc] at hc<;>exact hc
     subst hC;unfold guardOf at hg
     split at hg
     ·simp at hg
     ·rename_i g q l
      split at hg
      ·rename_i k m
       simp only [Option.some.injEq,Prod.mk.injEq] at hg;obtain⟨rfl,rfl⟩:=hg;have p:a.tmps[k]?=none\/a.tmps[k]?=some (.tuple #[]):=by
        rw [Array.getD_eq_getD_getElem?] at f;cases e:a.tmps[k]? with
        | none=>exact .inl rfl
        | some y=>rw [e] at f; simp at f; rw [f]; exact .inr rfl
       simp only [Region.wanted,l,yielded,m,Option.bind_some];rcases p with e|e<;>rw [e]<;>rfl
      ·simp at hg
   | _=>rw [hv] at hc; cases want<;>simp [gc] at hc
 | any=>rw [hv] at hc; cases want<;>simp [gc] at hc
 | c_ _ _=>rw [hv] at hc; cases want<;>simp [gc] at hc
 | cI _=>rw [hv] at hc; cases want<;>simp [gc] at hc
 | iB _ _ _=>rw [hv] at hc; cases want<;>simp [gc] at hc
 | full _ _=>rw [hv] at hc; cases want<;>simp [gc] at hc
 | rB _ _ _=>rw [hv] at hc; cases want<;>simp [gc] at hc
theorem aq.iL {o:Oper}{v:V}{k:Nat}{c:Bool}(hk:get ts k=.gd c x) (hc:c=true) (b:aq P o ((k,.a x)::ts) ls h fx v aV h'):aq P o ts ls h fx v aV h':=by
 intro L H f hH j w jl a hl g;refine b L H f hH j w jl a hl fun y l=>?_;have h1:=g y l;cases y with
 | tmp t =>
  by_cases e:k=t
  ·subst e;simp only [ev] at h1 ⊢;rw [gh];rw [hk] at h1;exact h1.1 hc
  ·simp only [ev] at h1 ⊢;rw [gZ _ _ e]; exact h1
 | _=>exact h1
theorem aq.Oo {o:Oper}{v:V}{k:Nat}{c:Bool}{i off:Nat}(hk:get ts k=.iB c i off) (hc:c=true) (b:aq P o ((k,.c_ i off)::ts) ls h fx v aV h'):aq P o ts ls h fx v aV h':=by
 intro L H f hH j w jl a hl g;refine b L H f hH j w jl a hl fun y l=>?_;have h1:=g y l;cases y with
 | tmp t =>
  by_cases e:k=t
  ·subst e;simp only [ev] at h1 ⊢;rw [gh];rw [hk] at h1;exact h1.1 hc
  ·simp only [ev] at h1 ⊢;rw [gZ _ _ e]; exact h1
 | _=>exact h1
theorem aJ.gC {v:V}(hg:(ops[gi]?).bind (·.dst)=some dg) (hc:gc (get ts dg) want=some C) (q:C=true->aq P ⟨some d,op,ty,pos,aI,some (gi,want)⟩ ts ls h fx v ls h) (g:Nat.blt d n=true)
  (hr:aJ P ops rest Q ⟨n,(d,v.under C)::ts,ls,h⟩):aJ P ops (⟨some d,op,ty,pos,aI,some (gi,want)⟩::rest) Q ⟨n,ts,ls,h⟩:=by
 intro j w jl a b f hk;have r:=He (o:=⟨some d,op,ty,pos,aI,some (gi,want)⟩) (Df hg) hc (b.tmps dg);refine wpList_step fun K m=>?_;rw [r];cases C with
 | true =>
  rw [if_pos rfl];refine(q rfl).step j w jl a b.hl (fun x _=>oy b.tmps x) K f fun v0 l k cv j' w' s ⟨t,u,y⟩ hv hl hx p=>m _ _ ?_;have z:l=ls:=by rw [u]; cases fx.wl<;>rfl
  have B:k=h:=by rw [y]; cases fx.wh<;>rfl
  subst t z B;exact hr j' w' s _ (b.put p.toLe hx (dst:=some d) g (v:=_) (V.Gm hv) hl) f fun E F G H a2 hq I J=>hk E F G H a2 hq I (p.trans J)
 | false =>
  simp only [Bool.false_eq_true,if_false];exact m _ _ (hr j w jl _ (b.put (Le.refl _ _) (Ext.refl _) (dst:=some d) g (v:=v.under false) (V.Gn v) b.hl) f hk)
theorem aN.gC {v:V}{done:List Fx}(hg:(ops[gi]?).bind (·.dst)=some dg) (hc:gc (get ts dg) want=some C) (m:C=true->aq P ⟨some d,op,ty,pos,aI,some (gi,want)⟩ ts ls h fx v ls h) (p:Nat.blt d n=true)
  (hr:aN P ops n rest (fx.plain::done) Q ⟨n,(d,v.under C)::ts,ls,h⟩):aN P ops n (⟨some d,op,ty,pos,aI,some (gi,want)⟩::rest) done Q ⟨n,ts,ls,h⟩:=by
 refine aN.cons (fx:=fx) (v:=v.under C) (aV:=ls) (h':=h) ⟨p,fun L H k hH j w jl a hl l K Q hk=>?_⟩ (by cases fx with|mk a b c d e=>cases b<;>cases d<;>exact hr);have q:=He (o:=⟨some d,op,ty,pos,aI,some (gi,want)⟩) (Df hg) hc (l dg (NA (Df hg)));rw [q];cases C with
 | true =>
  rw [if_pos rfl];exact m rfl L H k hH j w jl a hl (Gs l) K Q fun _ _ _ cv j' w' r ⟨g,f,s⟩=>by subst g f s; exact fun hv=>hk cv j' w' r (V.Gm hv)
 | false =>
  simp only [Bool.false_eq_true,if_false];refine hk undef j w jl (V.Gn v) ?_ (Ext.refl _) ?_
  ·have g:(bif fx.wl then ls else L)=L:=by cases hw:fx.wl with
    | true=>exact(k (by rw [hw]; simp)).symm
    | false=>rfl
   have f:(bif fx.wh then h else H)=H:=by cases hw:fx.wh with
    | true=>exact(hH (by rw [hw]; simp)).symm
    | false=>rfl
   rw [g,f]; exact hl
  ·have f:(bif fx.wh then h else H)=H:=by cases hw:fx.wh with
    | true=>exact(hH (by rw [hw]; simp)).symm
    | false=>rfl
   rw [f]; exact bM.refl _ _ _
variable {dst:Option Tmp}{g:Option (Nat×Bool)}
theorem aq.Oq {c y z:Operand}{b r k:Bool}(hc:ev ts c=.a (.d (.bool b))) (p:ev ts y=.gd k (.d (.bool r))) (q:b=true->k=true) (hz:ev ts z=.a (.d (.bool false))) :
  aq P (mk dst (.pick c y z) ty pos aI g) ts ls h {} (.a (.d (.bool (b&&r)))) ls h :=
 aq.dS fun j w jl a f=>by
  have h1:=f c (by simp [Op.operands]);have l:=f y (by simp [Op.operands]);have m:=f z (by simp [Op.operands]);rw [hc] at h1; rw [p] at l; rw [hz] at m;cases b with
  | true =>
   have s:bp j w jl (.a (.d (.bool r))) (a.eval y):=l.1 (q rfl);exact⟨.bool r,by simp [execOp,ni h1,ni s,asBool],by simp only [Bool.true_and]; exact aF.bool _⟩
  | false=>exact⟨.bool false,by simp [execOp,ni h1,ni m,asBool],by simp only [Bool.false_and]; exact aF.bool _⟩
theorem aq.Ot {c y z:Operand}{b r k:Bool}(hc:ev ts c=.a (.d (.bool b))) (p:ev ts y=.a (.d (.bool true))) (hz:ev ts z=.gd k (.d (.bool r))) (q:b=false->k=true) :
  aq P (mk dst (.pick c y z) ty pos aI g) ts ls h {} (.a (.d (.bool (b||r)))) ls h :=
 aq.dS fun j w jl a f=>by
  have h1:=f c (by simp [Op.operands]);have l:=f y (by simp [Op.operands]);have m:=f z (by simp [Op.operands]);rw [hc] at h1; rw [p] at l; rw [hz] at m;cases b with
  | false =>
   have s:bp j w jl (.a (.d (.bool r))) (a.eval z):=m.1 (q rfl);exact⟨.bool r,by simp [execOp,ni h1,ni s,asBool],by simp only [Bool.false_or]; exact aF.bool _⟩
  | true=>exact⟨.bool true,by simp [execOp,ni h1,ni l,asBool],by simp only [Bool.true_or]; exact aF.bool _⟩
theorem iY {a b:Bool}(h:(a&&b)=true):a=true:=by cases a<;>simp_all
theorem Dg {a b:Bool}(h:(a&&b)=true):b=true:=by cases a<;>simp_all
theorem AA {b:Bool}(h:b=false):(!b)=true:=by simp [h]
theorem AB {a b:Bool}(h:a=true) (h':b=true):(a&&b)=true:=by simp [h,h']
end
section
variable {P:Program}{Q:Exit->St->Prop}{σ:St}
theorem yc {id:Nat}(h:Q .ret σ):vv id Q .ret σ:=h
theorem yd {K:St->Prop}(h:Q .ret σ):lX K Q .ret σ:=h
theorem ah.ar {x y:Code}(h:∀K:St->Prop,(∀σ,ah P y Q σ->K σ)->ah P x (lX K Q) σ):ah P (.seq x y) Q σ:=ah.seq (h _ fun _ h=>h)
theorem ah.Ou {α:Type}{c:Code}(inv:α->St) (m:α->Nat) (pre:α->Prop) (g:α) (l:ck σ (inv g)) (h0:pre g)
  (hr:∀x,pre x->∀K:St->Prop,(∀b y,ck b (inv y)->pre y->m y<m x->K b)->ah P c (lX K Q) (inv x)):ah P (.loop c) Q σ:=by
 refine ah.ua l (ah.loop inv m pre g h0 fun x hx=>ah.post (ah.mono (hr x hx (fun b=>∃y,ck b (inv y)/\pre y/\m y<m x) fun b y h1 j k=>⟨y,h1,j,k⟩) ?_));intro e f hq;cases e with
 | normal=>obtain⟨y,h1,j,k⟩:=hq; exact⟨inv y,h1,y,rfl,j,k⟩
 | exit _=>exact⟨f,ck.refl _,hq⟩
 | goto _=>exact⟨f,ck.refl _,hq⟩
 | ret=>exact⟨f,ck.refl _,hq⟩
 | panic _=>exact⟨f,ck.refl _,hq⟩
 | outgrown=>exact⟨f,ck.refl _,hq⟩
theorem ck.Ov {n:Nat}{ts b:Ts}{ls aV:List (List D)}{h h':af}(m:Nat) (hk:dN ts m b) (hl:ls.take m=aV) (hh:h=h'):ck ⟨n,ts,ls,h⟩ ⟨n,b,aV,h'⟩:=by
 subst hl hh; exact ck.keep m hk
def V.ye (m:Nat):V->Bool
 | .c_ i _=>Nat.blt i m
 | .iB _ i _=>Nat.blt i m
 | _=>true
theorem dN.c {ts:Ts}{m:Nat}{k:Nat}{v:V}{r:Ts}(h:Ab.get ts k=v) (hv:v.ye m=true) (t:dN ts m r):dN ts m ((k,v)::r) :=
 .cons h ⟨fun i off e=>by subst e; simpa [V.ye,Nat.blt_eq] using hv,fun c i off e=>by subst e; simpa [V.ye,Nat.blt_eq] using hv⟩ t
end
inductive fT (ts:Ts):Ts->Prop where
 | nil:fT ts []
 | cons {k:Nat}{v:V}{r:Ts}(h:Ab.get ts k=v) (t:fT ts r):fT ts ((k,v)::r)
inductive lc {α:Type}:List α->List α->Prop where
 | nil {l:List α}:lc [] l
 | cons {a:α}{l l':List α}(h:lc l l'):lc (a::l) (a::l')
theorem lc.take {α:Type}{l l':List α}(h:lc l l'):l'.take l.length=l:=by
 induction h with
 | nil=>simp
 | cons _ b=>simp [b]
theorem ck.to {n:Nat}{ts b:Ts}{ls aV:List (List D)}{h h':af}(hk:dN ts aV.length b) (hl:lc aV ls) (hh:h=h'):ck ⟨n,ts,ls,h⟩ ⟨n,b,aV,h'⟩ :=
 ck.Ov aV.length hk hl.take hh
theorem ck.toF {n:Nat}{ts b:Ts}{ls aV:List (List D)}{h h':af}(hk:dN ts aV.length b) (hl:lc aV ls) (hh:∀id o,h' id=some o->h id=some o):ck ⟨n,ts,ls,h⟩ ⟨n,b,aV,h'⟩ :=
 (ck.to hk hl rfl).trans (ck.forget hh)
section
variable {P:Program}{Q:Exit->St->Prop}{n:Nat}{jD ts:Ts}{ls:List (List D)}{h:af}
theorem ah.eZ {α:Type}{c:Code}(_:fT jD ts) (over:α->Ts) (lo:α->List (List D)) (hh:α->af) (m:α->Nat) (pre:α->Prop) (b:α) (h0:pre b) (hi:ck ⟨n,jD,ls,h⟩ ⟨n,over b++ts,lo b,hh b⟩)
  (hr:∀x,pre x->∀K:St->Prop,(∀f y,ck f ⟨n,over y++ts,lo y,hh y⟩->pre y->m y<m x->K f)->ah P c (lX K Q) ⟨n,over x++ts,lo x,hh x⟩):ah P (.loop c) Q ⟨n,jD,ls,h⟩ :=
 ah.Ou (fun x=>⟨n,over x++ts,lo x,hh x⟩) m pre b hi h0 hr
theorem ah.cT {α:Type}{x y:Code}(_:fT jD ts) (over:α->Ts) (lo:α->List (List D)) (hh:α->af) (pre:α->Prop)
  (hx:∀K:St->Prop,(∀b y,ck b ⟨n,over y++ts,lo y,hh y⟩->pre y->K b)->ah P x (lX K Q) ⟨n,jD,ls,h⟩) (j:∀z,pre z->ah P y Q ⟨n,over z++ts,lo z,hh z⟩):ah P (.seq x y) Q ⟨n,jD,ls,h⟩:=by
 refine ah.seq (ah.post (ah.mono (hx (fun b=>∃z,ck b ⟨n,over z++ts,lo z,hh z⟩/\pre z) fun b z h1 g=>⟨z,h1,g⟩) ?_));intro e f hq;cases e with
 | normal=>obtain⟨z,h1,g⟩:=hq; exact⟨_,h1,j z g⟩
 | exit _=>exact⟨f,ck.refl _,hq⟩
 | goto _=>exact⟨f,ck.refl _,hq⟩
 | ret=>exact⟨f,ck.refl _,hq⟩
 | panic _=>exact⟨f,ck.refl _,hq⟩
 | outgrown=>exact⟨f,ck.refl _,hq⟩
theorem ah.bD {α:Type}{c:Code}(_:fT jD ts) (over:α->Ts) (hh:α->af) (m:α->Nat) (pre:α->Prop) (b:α) (h0:pre b) (hi:ck ⟨n,jD,ls,h⟩ ⟨n,over b++ts,ls,hh b⟩)
  (hr:∀x,pre x->∀K:St->Prop,(∀f y,ck f ⟨n,over y++ts,ls,hh y⟩->pre y->m y<m x->K f)->ah P c (lX K Q) ⟨n,over x++ts,ls,hh x⟩):ah P (.loop c) Q ⟨n,jD,ls,h⟩ :=
 ah.eZ ‹_› over (fun _=>ls) hh m pre b h0 hi hr
theorem ah.aR {α:Type}{x y:Code}(_:fT jD ts) (over:α->Ts) (hh:α->af) (pre:α->Prop)
  (hx:∀K:St->Prop,(∀b y,ck b ⟨n,over y++ts,ls,hh y⟩->pre y->K b)->ah P x (lX K Q) ⟨n,jD,ls,h⟩) (f:∀z,pre z->ah P y Q ⟨n,over z++ts,ls,hh z⟩):ah P (.seq x y) Q ⟨n,jD,ls,h⟩ :=
 ah.cT ‹_› over (fun _=>ls) hh pre hx f
end
end Go.Ab
/-
 The program's data types (package api) as plain Lean types,and how each is laid out in cells.
-/
namespace Go.Ab
open Go Go.RowKit
variable {av:bR}
abbrev yf:={ s:List UInt8 // s.length<=cC }
structure ko (α:Type) where
 nil:Bool
 l:List α
 ok:l.length<=cC
 nn:nil=true->l=[]
def ko.d {α:Type}(k:Nat) (f:α->List D) (s:ko α):D:=.slice k none s.nil (s.l.map f)
def Ow (s:yf):List D:=[.str s.1]
def Ox (n:Int):List D:=[.int .i64 n]
end Go.Ab
/-
 What the functions of package schema compute,in plain terms.
-/
namespace Go.Ab.rJ
open Go Go.Ab
end Go.Ab.rJ
/-
 Heaps in normal form; nil slices given a token where they are passed.
-/
namespace Go.Ab
open Go Go.RowKit
variable {av:bR}
variable {fS:eT}
theorem af.AD {h:af}{i:Nat}{o:Option Obj}(hi:h i=none):∀id b,h id=some b->(h.set i o) id=some b:=by
 intro id b e; rw [af.aO]; exact e;intro he; rw [he,hi] at e; cases e
inductive nk (h:af):A->A->Prop where
 | refl (x:A):nk h x x
 | nil {k k' t:Nat}{o:Obj}(ht:h t=some o):nk h (.d (.slice k none true [])) (.d (.slice k' (some t) true []))
 | Hf {k k':Nat}:nk h (.d (.slice k none true [])) (.d (.slice k' none true []))
theorem nk.rel {h:af}{x y:A}(f:nk h x y){j:J}{w:World}{v:Value}(hh:fu j w h) (hx:dw j w x v):dw j w y v:=by
 cases f with
 | refl=>exact hx
 | @nil k k' t o ht =>
  have b:aF j w (.slice k none true []) v:=hx;cases b;exact aF.gu _ _ fun t' e=>by simp at e; subst e; exact(hh.obj _ _ ht).1
 | @Hf k k' =>
  have b:aF j w (.slice k none true []) v:=hx;cases b;exact aF.gu _ _ fun t' e=>by cases e
theorem AC.Hg {P:Program}{f:FuncId}{xs g:List A}{h:af}{cZ:V->af->Prop}(k:aQ (nk h) xs g) (hc:AC P f g h cZ):AC P f xs h cZ :=
 ⟨hc.enter,fun j w dc hh l=>hc.runs j w dc hh (by
  refine aQ.jf (by rw [<- k.length,l.length]) fun i y v m hv=>?_;obtain⟨x,hx,p⟩:=k.get' m;obtain⟨q,b,hr⟩:=l.get hx;rw [hv] at b; simp at b; subst b;exact p.rel hh hr)⟩
theorem fU {id:Nat}{Q:Exit->St->Prop}{σ:St}(h:Q .normal σ):vv id Q (.exit id) σ:=by
 unfold vv; simpa using h
theorem fV {id:Nat}{K:St->Prop}{Q:Exit->St->Prop}{σ:St}(h:Q (.exit id) σ):lX K Q (.exit id) σ:=h
theorem fW {id:Nat}{Q:Exit->St->Prop}{σ:St}(h:Q .normal σ):vv id Q .normal σ:=h
theorem ah.tok {P:Program}{c:Code}{Q:Exit->St->Prop}{n:Nat}{ts:Ts}{ls:List (List D)}{h:af}(k:Nat)
  (hw:∀t,h t=none->ah P c Q ⟨n,ts,ls,h.set t (some (.tok k 0))⟩):ah P c Q ⟨n,ts,ls,h⟩:=by
 intro j w jl a b;obtain⟨h1,f⟩:=b.hl.eb k;have g:=b.hl.1.lV (Nat.le_refl _);refine wp_mono (hw j.next g j.eb w jl a ⟨b.defers,b.size,fun i=>(b.tmps i).mono f.toLe (Ext.refl _),h1⟩) fun e a w hq=>AQ.trans f hq
theorem ah.fK {P:Program}{c:Code}{Q:Exit->St->Prop}{n:Nat}{ts:Ts}{ls:List (List D)}{h:af}(s k t:Nat){o:Obj}{f:Nat}(g:get ts s=.a (.d (.slice f none true []))) (ht:h t=some o)
  (hw:ah P c Q ⟨n,(s,.a (.d (.slice k (some t) true [])))::ts,ls,h⟩):ah P c Q ⟨n,ts,ls,h⟩:=by
 intro j w jl a b;refine hw j w jl a ⟨b.defers,b.size,fun i=>?_,b.hl⟩;by_cases e:s=i
 ·subst e;show bp _ _ _ (get ((s,_)::ts) s) _;rw [gh];have hv:bp j w jl (get ts s) (a.tmps.getD s undef):=b.tmps s;rw [g] at hv;exact(nk.nil (k':=k) ht).rel b.hl.1 hv
 ·show bp _ _ _ (get ((s,_)::ts) i) _;rw [gZ _ _ e];exact b.tmps i
theorem ah.dV {P:Program}{c:Code}{Q:Exit->St->Prop}{n:Nat}{ts:Ts}{ls:List (List D)}{h:af}(s:Nat){k:Nat}{tk:Option Nat}{nl:Bool}{rows:List (List D)}(g:get ts s=.a (.d (.slice k tk nl rows)))
  (hw:ah P c Q ⟨n,(s,.a (.d (.slice k none nl rows)))::ts,ls,h⟩):ah P c Q ⟨n,ts,ls,h⟩:=by
 intro j w jl a b;refine hw j w jl a ⟨b.defers,b.size,fun i=>?_,b.hl⟩;by_cases e:s=i
 ·subst e;show bp _ _ _ (get ((s,_)::ts) s) _;rw [gh];have hv:bp j w jl (get ts s) (a.tmps.getD s undef):=b.tmps s;rw [g] at hv;have f:aF j w (.slice k tk nl rows) (a.tmps.getD s undef):=hv;generalize a.tmps.getD s undef=x at f ⊢;cases f with
  | gu=>exact aF.gu _ _ fun t e=>by cases e
  | slice _ _ _ a cap cv hk hn hc bQ hr ht=>exact aF.slice _ _ _ a cap cv hk hn hc bQ hr fun t e=>by cases e
 ·show bp _ _ _ (get ((s,_)::ts) i) _;rw [gZ _ _ e];exact b.tmps i
theorem bH.b9 {T:List TI}{rs:List ResultVar}{cZ:V->af->Prop}{σ:St}{xs:List A}(h':af) (h:p4 T σ rs=some xs) (b:cZ (nh xs) h') (f:∀id o,h' id=some o->σ.h id=some o):bH T rs cZ .ret σ:=⟨.inr rfl,xs,h',h,f,b⟩
theorem bH.gm {T:List TI}{rs:List ResultVar}{cZ:V->af->Prop}{σ:St}{xs:List A}(h':af) (h:p4 T σ rs=some xs) (b:cZ (nh xs) h') (f:∀id o,h' id=some o->σ.h id=some o):bH T rs cZ .normal σ:=⟨.inl rfl,xs,h',h,f,b⟩
section
variable {P:Program}{dst:Option Tmp}{ty:TypeId}{pos:String}{aI:Array Edge}{g:Option (Nat×Bool)}{ts:Ts}{ls:List (List D)}{h:af}
end
def bK (l:List (List UInt8)):List (D×A):=l.map fun s=>(.str s,.d (.bool true))
def cw (l:List (List UInt8)) (s:List UInt8):List (List UInt8):=if l.contains s then l else l++[s]
theorem Oy (l:List (List UInt8)) (s:List UInt8):p7 (.str s) (bK l)=some (if l.contains s then some (.d (.bool true)) else none):=by
 induction l with
 | nil=>rfl
 | cons x r b =>
  simp only [bK,List.map_cons,p7,vD,List.contains_cons];by_cases e:s=x
  ·subst e; simp
  ·have f:(s==x)=false:=by simpa using e
   have g:(x==s)=false:=by simpa using fun h=>e h.symm
   simp only [f,g,Bool.false_or]; exact b
theorem rK (l:List (List UInt8)) (s:List UInt8):uh (.str s) (.d (.bool true)) (bK l)=some (bK (cw l s)):=by
 induction l with
 | nil=>rfl
 | cons x r f =>
  simp only [bK,List.map_cons,uh,vD,cw,List.contains_cons];by_cases e:s=x
  ·subst e; simp
  ·have g:(s==x)=false:=by simpa using e
   have j:(x==s)=false:=by simpa using fun h=>e h.symm
   have b:=f;simp only [bK,cw] at b;simp only [g,j,Bool.false_or,b]
   split<;>simp_all
section
variable {P:Program}{dst:Option Tmp}{ty:TypeId}{pos:String}{aI:Array Edge}{g:Option (Nat×Bool)}{ts:Ts}{ls:List (List D)}{h:af}
theorem aq.uk {t b f:TypeId}{j m p:TI}{x y:Operand}{id:Nat}{l:List (List UInt8)}{s:List UInt8}(q:aX P t=some j) (hk:j.k=.map b f) (r:aX P b=some m) (w:aX P f=some p) (hz:p.zero=some (.d (.bool false)))
  (hx:ev ts x=.a (.d (.map id))) (u:ev ts y=.a (.d (.str s))) (v:ji m.k (.str s)=true) (hm:h id=some (.map (bK l))):aq P (mk dst (.lookup t x y false) ty pos aI g) ts ls h { rh:=true } (.a (.d (.bool (l.contains s)))) ls h:=by
 have h1:=Oy l s;cases hc:l.contains s with
 | true=>rw [hc] at h1; exact aq.Oj q hk r hx u v hm h1
 | false=>rw [hc] at h1; exact aq.Ol q hk r w hz hx u v hm h1
end
end Go.Ab
/-
 Variables that turn no more: a box that is only read,and a local that becomes data.
-/
namespace Go.Ab
open Go Go.RowKit
variable {av:bR}
variable {fS:eT}
theorem Di {j:J}{w:World}{b:Nat}{xs:List D}{cs:List Value}{e:TypeId}{n:Nat}(hh:w.heap[b]?=some (.cells cs.toArray e (0,0))) (hx:aQ (aF j w) xs cs) (g:xs.length<=j.F b) :
  aF j w (.view xs) (.pointer (some ⟨b,0,none⟩)):=by
 refine aF.view xs _ (fun i=>cs.getD i default) ⟨rfl,fun i hi=>?_⟩ fun i hi=>?_
 ·have f:i<cs.length:=hx.length▸hi;refine⟨by show 0+i<j.F b; omega, ?_,.cells hh⟩;show w.cell? ⟨b,0+i,none⟩=_;rw [Nat.zero_add,cell_of_row w b i cs.toArray e (0,0) hh];simp [f]
 ·obtain⟨v,hv,hr⟩:=hx.get (List.getElem?_eq_getElem hi);have:cs.getD i default=v:=by rw [List.getD_eq_getElem?_getD,hv]; rfl
  rw [this]; exact hr
section
variable {P:Program}{dst:Option Tmp}{ty:TypeId}{pos:String}{aI:Array Edge}{g:Option (Nat×Bool)}{ts:Ts}{ls:List (List D)}{h:af}
theorem aq.Oz {e:TypeId}{x:Operand}{y:A}(hx:ev ts x=.a y):aq P (mk dst (.box e x) ty pos aI g) ts ls h {} (.a (.d (.view (ct y)))) ls h:=by
 refine aq.of_run fun L H _ _ j w jl a hl f=>?_;have h1:=f x (by simp [Op.operands]);rw [hx] at h1;have k:dw j w y (a.eval x):=h1;obtain⟨l,b⟩:=hl.data (.cells (a.eval x).cells e) (ct y).length;refine⟨.value (.pointer (some ⟨w.heap.size,0,none⟩)),_,.pointer (some ⟨w.heap.size,0,none⟩),j.eG w.heap.size (ct y).length,jl,by simp [execOp,Instr.box,newVar,newRow],.inl rfl, ?_,l,Ext.refl _,b⟩
 refine Di (n:=0) (cs:=(a.eval x).cells.toList) (e:=e) ?_ (k.cells.imp fun _ _ h=>h.mono b.toLe) (by simp [J.eG]);rw [Array.toArray_toList]; exact heap_alloc_new w _
variable {c:Code}{Q:Exit->St->Prop}{n:Nat}
theorem ck.freeze {g:Ts}{aV:List (List D)}{xs:List D}(s i:Nat) (H:get ts s=.c_ i 0) (hl:ee xs aV i ls) (hk:dN ts i g):ck ⟨n,ts,ls,h⟩ ⟨n,(s,.a (.d (.view xs)))::g,aV,h⟩:=by
 obtain⟨hi,e⟩:=hl.spec;subst hi e;intro j w jl a f;have l:=f.hl;obtain⟨b,p,r⟩:∃b,jl[aV.length]?=some b/\a.tmps.getD s undef=.pointer (some ⟨b,0,none⟩):=by
  have:=f.tmps s;have this:bp j w jl (get ts s) (a.tmps.getD s undef):=this;rw [H] at this; exact this
 obtain⟨xs',B,cs,S,C,I,K⟩:∃xs',(aV++[xs])[aV.length]?=some xs'/\jA j w b xs':=l.2.each.get' p;simp at B; subst B;have bl:=jB C;have E:=l.trim (av:=av) aV.length;rw [List.take_left' rfl] at E;have L:b∉jl.take aV.length:=by
  intro hm;obtain⟨k,M,q⟩:=List.getElem_of_mem hm;rw [List.length_take] at M;have h1:jl[k]?=some b:=by rw [<- q,List.getElem_take]; exact List.getElem?_eq_getElem _
  have G:=(List.getElem?_inj (by omega) l.2.nodup).1 (h1.trans p.symm);omega
 have N:¬aU j h (jl.take aV.length) b:=by
  rintro (hm|⟨id,o,h1,G⟩)
  ·exact L hm
  ·exact l.2.apart b (List.mem_of_getElem? p) (.inr ⟨id,o,h1,G⟩)
 have hle:Le j w (j.eG b xs.length) w:=⟨Nat.le_refl _,fun _ _=>rfl,fun b'=>by
  simp only [J.eG]
  split
  ·rename_i e; rw [e,K]; exact Nat.zero_le _
  ·exact Nat.le_refl _,fun _ _ _=>rfl,fun _ _=>.inl rfl,fun _ _ _ _ _ h=>h⟩
 have t:∀b',b'≠b->(j.eG b xs.length).F b'=j.F b':=fun b' O=>by simp only [J.eG]; rw [if_neg O]
 have q:=E.1.keep hle (fun b' m=>⟨rfl,t b' (fun e=>N (e▸m))⟩) (fun _ _ _=>rfl) (fun b' P=>by rw [t b' (by omega)]; exact l.1.fresh b' P);refine⟨j.eG b xs.length,jl.take aV.length,⟨f.defers,f.size,fun k=>?_,q.1⟩, ?_⟩
 ·by_cases e:s=k
  ·subst e;show bp _ _ _ (get ((s,_)::g) s) _;rw [gh];have r:a.tmps.getD s undef=.pointer (some ⟨b,0,none⟩):=r;rw [r];exact Di (n:=0) C (I.imp fun _ _ h=>h.mono hle) (by simp [J.eG])
  ·show bp _ _ _ (get ((s,_)::g) k) _;rw [gZ _ _ e];obtain⟨U,W,X,_⟩:=ck.keep (av:=av) (n:=n) (ls:=aV++[xs]) (h:=h) aV.length hk j w jl a f;have hv:bp j w jl (get ts k) (a.tmps.getD k undef):=f.tmps k;rcases hk.get k with u|⟨u,Q,R⟩
   ·rw [u]; trivial
   ·rw [<- u] at hv;cases hx:get g k with
    | any=>trivial
    | a x=>rw [hx] at hv; exact dw.mono hle hv
    | c_ i off =>
     rw [hx] at hv;obtain⟨v,y,z⟩:=hv;exact⟨v,by rw [List.getElem?_take_of_lt (Q i off hx)]; exact y,z⟩
    | cI xs=>rw [hx] at hv; obtain⟨cs,e,hh⟩:=hv; exact⟨cs,e,hh.imp fun _ _ h=>h.mono hle⟩
    | gd c x=>rw [hx] at hv; exact⟨fun hc=>dw.mono hle (hv.1 hc),hv.2⟩
    | full k rows=>rw [hx] at hv; exact⟨aF.mono hle hv.1,hv.2⟩
    | rB c k rows=>rw [hx] at hv; exact⟨fun hc=>⟨aF.mono hle (hv.1 hc).1,(hv.1 hc).2⟩,hv.2⟩
    | iB c i off =>
     rw [hx] at hv;refine⟨fun hc=>?_,hv.2⟩;obtain⟨v,y,z⟩:=hv.1 hc;exact⟨v,by rw [List.getElem?_take_of_lt (R c i off hx)]; exact y,z⟩
 ·refine { toLe:=hle,size:=Nat.le_refl _,frame:=fun b' _ m=>⟨rfl,t b' fun e=>m (.inl (e▸List.mem_of_getElem? p))⟩,own:=fun b' _ m=>?_,os:=rfl,tape:=rfl,output:=gb.rfl };rcases (q.2 b').1 m with hm|hm
  ·exact .inl (List.mem_of_mem_take hm)
  ·exact .inr hm
theorem ah.freeze {b:Ts}{aV:List (List D)}{xs:List D}(s i:Nat) (f:get ts s=.c_ i 0) (hl:ee xs aV i ls) (hk:dN ts i b) (hw:ah P c Q ⟨n,(s,.a (.d (.view xs)))::b,aV,h⟩):ah P c Q ⟨n,ts,ls,h⟩ :=
 ah.ua (ck.freeze s i f hl hk) hw
end
theorem Hh {k:Nat}{tk:Option Nat}{nl:Bool}{rows:List (List D)}(j:J) (w:World) (cv:Value) (h:bp j w [] (.a (.d (.slice k tk nl rows))) cv):bp j w [] (.a (.d (.slice k none nl rows))) cv:=by
 have h':aF j w (.slice k tk nl rows) cv:=h;cases h' with
 | gu=>exact aF.gu _ _ fun t e=>by cases e
 | slice _ _ _ a cap cv hk hn hc bQ hr ht=>exact aF.slice _ _ _ a cap cv hk hn hc bQ hr fun t e=>by cases e
end Go.Ab
/-
 Names and violations in plain terms; the reference's functions of layer 10.
-/
namespace Go.Ab.rJ
open Go Go.Ab
end Go.Ab.rJ
/-
 Layer 10: input types that contain themselves,plainly: the reference's list and what can be reached.
-/
namespace Go.Ab.rJ
open Go Go.Ab
end Go.Ab.rJ
/-
 The checker of package schema as an object.
-/
namespace Go.Ab
open Go Go.RowKit
variable {av:bR}
variable {fS:eT}
theorem aU.oE {j:J}{h:af}{c:Nat}{xs g:List D}(hc:h c=some (.cells xs)){jl:List Nat}{b:Nat}:aU j (h.set c (some (.cells g))) jl b↔aU j h jl b:=by
 constructor
 ·rintro (h1|⟨id,o,h1,f⟩)
  ·exact .inl h1
  ·by_cases e:id=c
   ·subst e; rw [af.aS] at h1; simp only [Option.some.injEq] at h1; subst h1;exact .inr ⟨id,_,hc,f⟩
   ·rw [af.aO _ _ e] at h1; exact .inr ⟨id,o,h1,f⟩
 ·rintro (h1|⟨id,o,h1,f⟩)
  ·exact .inl h1
  ·by_cases e:id=c
   ·subst e; rw [hc] at h1; simp only [Option.some.injEq] at h1; subst h1;exact .inr ⟨id,_,af.aS _ _ _,f⟩
   ·exact .inr ⟨id,o,by rw [af.aO _ _ e]; exact h1,f⟩
theorem fu.oE {j:J}{w:World}{h:af}{c:Nat}{xs g:List D}(hr:fu j w h) (hc:h c=some (.cells xs)) (l:∀cs,aQ (aF j w) xs cs->aQ (aF j w) g cs):fu j w (h.set c (some (.cells g))):=by
 have key:∀id o,(h.set c (some (.cells g))) id=some o->∃o',h id=some o'/\bJ j id o=bJ j id o':=by
  intro id o f;by_cases e:id=c
  ·subst e; rw [af.aS] at f; simp only [Option.some.injEq] at f; subst f;exact⟨_,hc,rfl⟩
  ·rw [af.aO _ _ e] at f; exact⟨o,f,rfl⟩
 refine⟨fun id o f=>?_,fun jg o1 jh o2 b h1 k m p=>?_,hr.fresh⟩
 ·by_cases e:id=c
  ·subst e; rw [af.aS] at f; simp only [Option.some.injEq] at f; subst f;obtain⟨hn,cs,q,h1,k,r⟩:=hr.obj _ _ hc;exact⟨hn,cs,q,h1,l _ k,r⟩
  ·rw [af.aO _ _ e] at f; exact hr.obj _ _ f
 ·obtain⟨y,s,t⟩:=key _ _ h1;obtain⟨z,u,v⟩:=key _ _ k;exact hr.inj _ _ _ _ b s u (t▸m) (v▸p)
theorem ah.cq {P:Program}{c:Code}{Q:Exit->St->Prop}{n:Nat}{ts:Ts}{ls:List (List D)}{h:af}(i:Nat){xs:List D}(l:List D) (hc:ls[i]?=some xs) (p:∀j w cs,fu j w h->aQ (aF j w) xs cs->aQ (aF j w) l cs)
  (hw:ah P c Q ⟨n,ts,ls.set i l,h⟩):ah P c Q ⟨n,ts,ls,h⟩:=by
 intro j w jl a g;have hl:=g.hl;have q:aQ (fun xs b=>jA j w b xs) (ls.set i l) jl:=by
  refine aQ.jf (by rw [List.length_set,hl.2.each.length]) fun k x b hx m=>?_;rw [List.getElem?_set] at hx
  split at hx
  ·rename_i e
   subst e
   split at hx
   ·simp only [Option.some.injEq] at hx; subst hx;obtain⟨b',f,cs,r,h1,s,t⟩:=hl.2.each.get hc;rw [m] at f; simp only [Option.some.injEq] at f; subst f;exact⟨cs,r,h1,p j w _ hl.1 s,t⟩
   ·cases hx
  ·obtain⟨b',f,h1⟩:=hl.2.each.get hx;rw [m] at f; simp only [Option.some.injEq] at f; subst f;exact h1
 exact hw j w jl a ⟨g.defers,g.size,g.tmps,⟨hl.1,⟨q,hl.2.nodup,hl.2.apart⟩⟩⟩
end Go.Ab
namespace Go.Ab.rJ
open Go Go.Ab
end Go.Ab.rJ
/-
 Models: functions that may have no answer; the rules by which a walk follows its function's model.
-/
namespace Go.Ab
open Go Go.RowKit
variable {av:bR}
variable {fS:eT}
structure Sl (α:Type) where
 nl:Bool
 l:List α
abbrev Bs:=List UInt8
def Sl.d {α:Type}(k:Nat) (f:α->List D) (t:Option Nat) (s:Sl α):D:=.slice k t s.nl (s.l.map f)
def Sl.nil {α:Type}:Sl α:=⟨true,[]⟩
def aB (s:Bs):List D:=[.str s]
def vF (b:Bool):List D:=[.bool b]
def bI (k:IntKind) (n:Int):List D:=[.int k n]
def cF (a b:Int):Option Int:=if -9223372036854775808<=a+b/\a+b<=9223372036854775807 then some (a+b) else none
def rL (a b:Int):Option Int:=if -9223372036854775808<=a-b/\a-b<=9223372036854775807 then some (a-b) else none
def dh {α:Type}(l:List α) (n:Int):Option α:=if 0<=n then l[n.toNat]? else none
def bV (a b:Bs):Option Bs:=if a.length+b.length<=fJ then some (a++b) else none
def bf {α:Type}(z:Nat) (s r:Sl α):Option (Sl α):=if (s.l.length+r.l.length)*z<=cC/\s.l.length+r.l.length<=cC then some ⟨s.nl&&r.l.isEmpty,s.l++r.l⟩ else none
def lY {α:Type}(s:Sl α) (lo hi:Option Int):Option (Sl α) :=
 if 0<=lo.getD 0/\lo.getD 0<=hi.getD s.l.length/\hi.getD s.l.length<=s.l.length then some ⟨s.nl,(s.l.take (hi.getD s.l.length).toNat).drop (lo.getD 0).toNat⟩ else none
def AE (s:Bs) (lo hi:Option Int):Option Bs :=
 if 0<=lo.getD 0/\lo.getD 0<=hi.getD s.length/\hi.getD s.length<=s.length then some ((s.take (hi.getD s.length).toNat).drop (lo.getD 0).toNat) else none
def aY {α β:Type}(c:Bool) (o:Option α) (d:α) (k:α->Option β):Option β:=if c=true then o.bind k else k d
theorem OA {a b x:Int}(h:cF a b=some x):x=a+b /\ -9223372036854775808<=a+b/\a+b<=9223372036854775807:=by
 unfold cF at h; split at h
 ·rename_i f; simp at h; exact⟨h.symm,f⟩
 ·cases h
theorem OB {a b x:Int}(h:rL a b=some x):x=a-b /\ -9223372036854775808<=a-b/\a-b<=9223372036854775807:=by
 unfold rL at h; split at h
 ·rename_i f; simp at h; exact⟨h.symm,f⟩
 ·cases h
theorem Hi {α:Type}{l:List α}{n:Int}{x:α}(h:dh l n=some x):0<=n/\l[n.toNat]?=some x:=by
 unfold dh at h; split at h
 ·rename_i b; exact⟨b,h⟩
 ·cases h
theorem OC {a b x:Bs}(h:bV a b=some x):x=a++b/\a.length+b.length<=fJ:=by
 unfold bV at h; split at h
 ·rename_i f; simp at h; exact⟨h.symm,f⟩
 ·cases h
theorem AF {α:Type}{z:Nat}{s r x:Sl α}(h:bf z s r=some x):x=⟨s.nl&&r.l.isEmpty,s.l++r.l⟩/\(s.l.length+r.l.length)*z<=cC/\s.l.length+r.l.length<=cC:=by
 unfold bf at h; split at h
 ·rename_i b; simp only [Option.some.injEq] at h; exact⟨h.symm,b⟩
 ·cases h
theorem AG {α β:Type}{c:Bool}{o:Option α}{d:α}{k:α->Option β}{r:β}(h:aY c o d k=some r):∃x,(c=true->o=some x)/\k x=some r:=by
 unfold aY at h; split at h
 ·obtain⟨x,h1,b⟩:=Option.bind_eq_some_iff.1 h; exact⟨x,fun _=>h1,b⟩
 ·rename_i b; exact⟨d,fun e=>absurd e b,h⟩
theorem bw {α β:Type}{o:Option α}{k:α->Option β}{r:β}(h:o.bind k=some r):∃x,o=some x/\k x=some r:=Option.bind_eq_some_iff.1 h
theorem jN {α:Type}{c:Bool}{A B:Option α}{r:α}(hc:c=true) (h:(bif c then A else B)=some r):A=some r:=by subst hc; exact h
theorem t_ {α:Type}{c:Bool}{A B:Option α}{r:α}(hc:c=false) (h:(bif c then A else B)=some r):B=some r:=by subst hc; exact h
section
variable {P:Program}{dst:Option Tmp}{ty:TypeId}{pos:String}{aI:Array Edge}{g:Option (Nat×Bool)}{ts:Ts}{ls:List (List D)}{h:af}{α:Type}{f:α->List D}
theorem aq.rO {t e:TypeId}{b:TI}{x:Operand}{cm:Array TypeId}{k:Nat}{tok:Option Nat}{s:Sl α}(j:aX P t=some b) (hk:b.k=.slice e) (bQ:cm[0]?=some t)
  (hx:ev ts x=.a (.d (s.d k f tok))):aq P (mk dst (.call { callee:=.builtin .len,args:=#[x],argTypes:=cm }) ty pos aI g) ts ls h {} (.a (.d (.int .i64 (s.l.length:Int)))) ls h:=by
 have:=aq.GO (av:=av) (P:=P) (dst:=dst) (ty:=ty) (pos:=pos) (aI:=aI) (g:=g) (ls:=ls) (h:=h) j hk bQ hx
 rwa [List.length_map] at this
theorem aq.iZ {t e:TypeId}{b j:TI}{x ix:Operand}{tok:Option Nat}{s:Sl α}{m:IntKind}{n:Int}{y:α}{k:Nat}(p:aX P t=some b) (hk:b.k=.slice e) (q:aX P e=some j)
  (hx:ev ts x=.a (.d (s.d k f tok))) (hi:ev ts ix=.a (.d (.int m n))) (r:k=j.size) (hr:dh s.l n=some y) :
  aq P (mk dst (.indexAddr t x ix) ty pos aI g) ts ls h {} (.a (.d (.view (f y)))) ls h:=by
 obtain⟨h1,u⟩:=Hi hr;exact aq.GM p hk q hx hi r h1 (by rw [List.getElem?_map,u]; rfl)
theorem aq.AH {t e:TypeId}{b j:TI}{x ix:Operand}{tok:Option Nat}{s:Sl α}{m:IntKind}{n:Nat}{y:α}{k:Nat}(p:aX P t=some b) (hk:b.k=.slice e) (q:aX P e=some j)
  (hx:ev ts x=.a (.d (s.d k f tok))) (hi:ev ts ix=.a (.d (.int m (n:Int)))) (r:k=j.size) (hr:s.l[n]?=some y) :
  aq P (mk dst (.indexAddr t x ix) ty pos aI g) ts ls h {} (.a (.d (.view (f y)))) ls h :=
 aq.GM p hk q hx hi r (by omega) (by rw [Int.toNat_natCast,List.getElem?_map,hr]; rfl)
theorem aq.ul {t:TypeId}{b:TI}{x ix:Operand}{s:Bs}{f:IntKind}{n:Nat}{c:UInt8}(j:aX P t=some b) (hk:b.k=.str) (hx:ev ts x=.a (.d (.str s))) (hi:ev ts ix=.a (.d (.int f (n:Int)))) (hr:s[n]?=some c) :
  aq P (mk dst (.index t x ix) ty pos aI g) ts ls h {} (.a (.d (.int .u8 (c.toNat:Int)))) ls h :=
 aq.N2 j hk hx hi (by omega) (by rw [Int.toNat_natCast]; exact hr)
theorem aq.AI {t u:TypeId}{x y:Operand}{m n r:Int}(hx:ev ts x=.a (.d (.int .i64 m))) (b:ev ts y=.a (.d (.int .i64 n))) (hr:cF m n=some r):aq P (mk dst (.binOp .add t x y u) ty pos aI g) ts ls h {} (.a (.d (.int .i64 r))) ls h:=by
 obtain⟨e,h1,f⟩:=OA hr;subst e; exact aq.p6 hx b h1 f
theorem aq.OD {t u:TypeId}{x y:Operand}{m n r:Int}(hx:ev ts x=.a (.d (.int .i64 m))) (b:ev ts y=.a (.d (.int .i64 n))) (hr:rL m n=some r):aq P (mk dst (.binOp .sub t x y u) ty pos aI g) ts ls h {} (.a (.d (.int .i64 r))) ls h:=by
 obtain⟨e,h1,f⟩:=OB hr;subst e; exact aq.NX hx b h1 f
theorem aq.Dj {t u:TypeId}{x y:Operand}{a b r:Bs}(hx:ev ts x=.a (.d (.str a))) (f:ev ts y=.a (.d (.str b))) (hr:bV a b=some r):aq P (mk dst (.binOp .add t x y u) ty pos aI g) ts ls h {} (.a (.d (.str r))) ls h:=by
 obtain⟨e,h1⟩:=OC hr;subst e; exact aq.concat hx f h1
theorem aq.OE {t e:TypeId}{y z:TI}{x:Operand}{lo hi:Option Operand}{k:Nat}{tok:Option Nat}{nl:Bool}{rows:List (List D)}{l r:Nat}(B:aX P t=some y) (hk:y.k=.slice e) (C:aX P e=some z)
  (hx:ev ts x=.a (.d (.slice k tok nl rows))) (H:k=z.size)
  (E:match lo with|none=>l=0|some o=>∃f n,ev ts o=.a (.d (.int f n))/\0<=n/\l=n.toNat) (F:match hi with|none=>r=rows.length|some o=>∃f n,ev ts o=.a (.d (.int f n))/\0<=n/\r=n.toNat)
  (I:l<=r) (m:r<=rows.length):aq P (mk dst (.slice t x lo hi none) ty pos aI g) ts ls h {} (.a (.d (.slice k none nl ((rows.take r).drop l)))) ls h:=by
 cases nl with
 | false=>exact aq.part B hk C hx H E F I m
 | true =>
  refine aq.dS fun j w jl act p=>?_;have h1:=p x (by simp [Op.operands]);rw [hx] at h1;obtain⟨b,cap,G,hn,hc,J,K,O,Q⟩:=p5 h1;cases b with
  | some b=>simp at J
  | none =>
   obtain⟨rfl,rfl⟩:=K rfl;simp only [List.length_nil,Nat.le_zero] at m;subst m;have L:l=0:=by omega
   subst L;have M:(match lo.map act.eval with|some v=>Instr.sliceBound v 0 .sliceB|none=>pure 0).run P w=.ok 0 w:=by
    cases lo with
    | none=>simp
    | some o =>
     obtain⟨f,n,q,s,u⟩:=E;have:=oA (P:=P) (cap:=0) q (p o (by simp [Op.operands])) s (by omega) .sliceB;simp only [Option.map_some]; rw [this,<- u]
   have N:(match hi.map act.eval with|some v=>Instr.sliceBound v 0 .sliceAcap|none=>pure ([]:List (List D)).length).run P w=.ok 0 w:=by
    cases hi with
    | none=>simp
    | some o =>
     obtain⟨f,n,q,s,u⟩:=F;have:=oA (P:=P) (cap:=0) q (p o (by simp [Op.operands])) s (by omega) .sliceAcap;simp only [Option.map_some]; rw [this,<- u]
   refine⟨.slice none 0 0, ?_,aF.gu _ _ (by simp)⟩;have:=Ax B hk C (a:=none) (len:=0) (cap:=0) M N;simp only [List.length_nil] at G;simp only [execOp,Sem.run_bind,G,Option.map_none,this,Result.andThen,Sem.run_pure];simp
theorem aq.lg {t e:TypeId}{m p:TI}{x:Operand}{lo hi:Option Operand}{l r:Option Int}{k:Nat}{tok:Option Nat}{s y:Sl α}(q:aX P t=some m) (hk:m.k=.slice e) (u:aX P e=some p)
  (hx:ev ts x=.a (.d (s.d k f tok))) (v:k=p.size)
  (b:match lo,l with|none,none=>True|some o,some n=>ev ts o=.a (.d (.int .i64 n))|_,_=>False) (j:match hi,r with|none,none=>True|some o,some n=>ev ts o=.a (.d (.int .i64 n))|_,_=>False)
  (hr:lY s l r=some y):aq P (mk dst (.slice t x lo hi none) ty pos aI g) ts ls h {} (.a (.d (y.d k f none))) ls h:=by
 unfold lY at hr
 split at hr
 ·rename_i hc
  simp only [Option.some.injEq] at hr;have:=aq.OE (av:=av) (P:=P) (dst:=dst) (ty:=ty) (pos:=pos) (aI:=aI) (g:=g) (ls:=ls) (h:=h) (l:=(l.getD 0).toNat) (r:=(r.getD s.l.length).toNat) q hk u (lo:=lo) (hi:=hi) hx v
   (by cases lo with
     | none=>cases l with
      | none=>rfl
      | some n=>exact b.elim
     | some o=>cases l with
      | none=>exact b.elim
      | some n=>exact⟨_,n,b,hc.1,rfl⟩)
   (by cases hi with
     | none=>cases r with
      | none=>simp
      | some n=>exact j.elim
     | some o=>cases r with
      | none=>exact j.elim
      | some n=>exact⟨_,n,j,Int.le_trans hc.1 hc.2.1,rfl⟩) (by omega) (by simp; omega)
  rw [<- List.map_take,<- List.map_drop] at this;rw [<- hr]; exact this
 ·cases hr
theorem aq.iM {t u e:TypeId}{p q b:TI}{x y:Operand}{tk k k' m:Nat}{tok':Option Nat}{s r v:Sl α}{z:A}(w:aX P t=some p) (hk:p.k=.slice e) (B:aX P e=some b) (C:aX P u=some q) (E:∃e,q.k=.slice e)
  (hz:b.zero=some z) (F:(ct z).length=b.size) (G:b.size≠0) (hx:ev ts x=.a (.d (s.d k f (some tk)))) (H:ev ts y=.a (.d (r.d k' f tok'))) (j:k=b.size) (I:k'=b.size)
  (bt:h tk=some (.tok b.size m)) (hm:m=s.l.length) (hr:bf b.bytes s r=some v) :
  aq P (mk dst (.call { callee:=.builtin .append,args:=#[x,y],argTypes:=#[t,u] }) ty pos aI g) ts ls h { rh:=true,wh:=true } (.a (.d (v.d k f (some tk)))) ls (h.set tk (some (.tok b.size v.l.length))):=by
 obtain⟨e,h1,J⟩:=AF hr;subst e;have:=aq.append (av:=av) (P:=P) (dst:=dst) (ty:=ty) (pos:=pos) (aI:=aI) (g:=g) (ls:=ls) w hk B C (.inl E) hz F G hx H (.inl j) (.inl I) bt (by rw [hm]; simp) (by simpa using h1) (by simpa using J);simp only [List.length_map,List.length_append] at this ⊢;rw [<- List.map_append,List.isEmpty_map,<- j] at this;rw [<- j];exact this
end
section
variable {P:Program}{dst:Option Tmp}{ty:TypeId}{pos:String}{aI:Array Edge}{g:Option (Nat×Bool)}{ts:Ts}{ls:List (List D)}{h:af}{α:Type}{f:α->List D}
theorem OF {k k':Nat}(j:J) (w:World) (cv:Value) (h:bp j w [] (.a (.d (.slice k none true []))) cv):bp j w [] (.a (.d (.slice k' none true []))) cv:=by
 have h':aF j w (.slice k none true []) cv:=h;cases h';exact aF.gu _ _ fun t e=>by cases e
theorem aq.di {x:Operand}{k k':Nat}(hx:ev ts x=.a (.d (.slice k none true []))):aq P (mk dst (.assign x) ty pos aI g) ts ls h {} (.a (.d (.slice k' none true []))) ls h :=
 (aq.assign hx).G4 fun j w _ cv h=>OF j w cv h
theorem aq.OG {t u e:TypeId}{G C b:TI}{s:Nat}{y:Operand}{k k':Nat}{tok':Option Nat}{I:Bool}{rows a_:List (List D)}{z:A}(S:aX P t=some G) (U:G.k=.slice e) (W:aX P e=some b) (X:aX P u=some C) (Y:(∃e,C.k=.slice e)\/C.k=.str)
  (hz:b.zero=some z) (Z:(ct z).length=b.size) (aa:b.size≠0) (hx:get ts s=.full k rows) (E:ev ts y=.a (.d (.slice k' tok' I a_))) (ab:∀q,y=.tmp q->s≠q) (p:k=b.size) (ad:k'=b.size\/a_=[])
  (ae:(rows.length+a_.length)*b.bytes<=cC) (hlen:rows.length+a_.length<=cC) :
  aq P (mk dst (.call { callee:=.builtin .append,args:=#[.tmp s,y],argTypes:=#[t,u] }) ty pos aI g) ts ls h {} (.a (.d (.slice b.size none false (rows++a_)))) ls h:=by
 intro L H _ _ j w jl a hl B K Q ag;have h1:bp j w jl (get ts s) (a.eval (.tmp s)):=B (.tmp s) (by simp [Op.operands,Call.operands]);rw [hx] at h1;obtain⟨ai,az,hv⟩:=h1;obtain⟨aj,r⟩:=hl.iJ k rows.length;have ak:=hl.1.lV (Nat.le_refl _);have al:aF (j.iJ rows.length) w (.slice k (some j.next) false rows) (a.eval (.tmp s)):=by
  have M:=aF.mono r.toLe ai;rw [hv] at M ⊢;cases M with
  | slice _ _ _ am cap f hk hn hc bQ hr ht =>
   refine aF.slice _ _ _ _ _ f hk hn hc bQ hr fun t' N=>?_;simp only [Option.some.injEq] at N;subst N;exact⟨by simp [J.iJ],fun aB p=>by simp [J.iJ] at p; subst p; exact⟨Nat.le_refl _,fun _=>.inl ⟨rfl,rfl⟩⟩⟩
 have an:ev ((s,V.a (.d (.slice k (some j.next) false rows)))::ts) y=.a (.d (.slice k' tok' I a_)):=by
  cases y with
  | tmp q=>simp only [ev] at E ⊢; rw [gZ _ _ (ab q rfl)]; exact E
  | _=>exact E
 have hc:=aq.append (av:=av) (P:=P) (dst:=dst) (ty:=ty) (pos:=pos) (aI:=aI) (g:=g) (ls:=L) (h:=H.set j.next (some (.tok k rows.length))) (ts:=(s,V.a (.d (.slice k (some j.next) false rows)))::ts) (x:=.tmp s) (y:=y) (tk:=j.next) (m:=rows.length)
  S U W X Y hz Z aa (by simp only [ev]; rw [gh]) an (.inl p) ad (by rw [af.aS,p]) rfl ae hlen
 refine hc.step (j.iJ rows.length) w jl a aj (fun x F=>?_) K Q ?_
 ·cases x with
  | tmp q =>
   by_cases e:s=q
   ·subst e;simp only [ev]; rw [gh];exact al
   ·simp only [ev]; rw [gZ _ _ e];exact(B (.tmp q) F).mono r.toLe (Ext.refl _)
  | const c=>exact(B (.const c) F).mono r.toLe (Ext.refl _)
  | global c=>trivial
  | func c=>exact(B (.func c) F).mono r.toLe (Ext.refl _)
 ·rintro v l hh cv j' w' ao ⟨rfl,rfl,rfl⟩ ap ar au aw;obtain⟨ax,ay⟩:=ar.forget (h':=H) (fun id o hi=>by
   have O:id≠j.next:=fun e=>by rw [e,ak] at hi; cases hi
   show ((H.set _ _).set _ _) id=_;rw [af.aO _ _ O,af.aO _ _ O]; exact hi)
  refine ag _ _ _ cv j' w' ao ⟨rfl,rfl,rfl⟩ ?_ ax au ((r.trans aw).trans ay);have R:aF j' w' (.slice b.size (some j.next) (false&&a_.isEmpty) (rows++a_)) cv:=ap;simp only [Bool.false_and] at R;cases R with
  | slice _ _ _ am cap f hk hn hc bQ hr ht=>exact aF.slice _ _ _ _ _ f hk hn hc bQ hr fun t e=>by cases e
theorem aq.yg {t u e:TypeId}{j m b:TI}{s k k':Nat}{y:Operand}{tok':Option Nat}{x r v:Sl α}{z:A}(w:aX P t=some j) (B:j.k=.slice e) (C:aX P e=some b) (E:aX P u=some m) (F:∃e,m.k=.slice e)
  (hz:b.zero=some z) (G:(ct z).length=b.size) (H:b.size≠0) (hx:get ts s=.full k (x.l.map f)) (I:x.nl=false) (J:ev ts y=.a (.d (r.d k' f tok'))) (K:∀q,y=.tmp q->s≠q) (p:k=b.size) (L:k'=b.size)
  (hr:bf b.bytes x r=some v) :
  aq P (mk dst (.call { callee:=.builtin .append,args:=#[.tmp s,y],argTypes:=#[t,u] }) ty pos aI g) ts ls h {} (.a (.d (v.d k f none))) ls h:=by
 obtain⟨e,h1,M⟩:=AF hr;subst e;have:=aq.OG (av:=av) (P:=P) (dst:=dst) (ty:=ty) (pos:=pos) (aI:=aI) (g:=g) (ls:=ls) (h:=h) w B C E (.inl F) hz G H hx J K p (.inl L) (by simpa using h1) (by simpa using M);rw [<- List.map_append,<- p] at this;simp only [I,Bool.false_and];exact this
theorem OH {t e:TypeId}(hu:P.underlying t=some (.slice e)) (d:Nat) (b:Option Addr) (n cap:Nat) (w:World):(Op.equalIn (d+1) t (.slice b n cap) (.slice none 0 0)).run P w=.ok b.isNone w:=by
 unfold Op.equalIn;simp only [Sem.run_bind,eV hu,Result.andThen];cases b<;>simp
theorem OI {t e:TypeId}(hu:P.underlying t=some (.slice e)) (b:Option Addr) (n cap:Nat) (w:World):(Op.equal t (.slice b n cap) (.slice none 0 0)).run P w=.ok b.isNone w:=by
 exact OH hu 9999 b n cap w
theorem OJ {t e:TypeId}{op:BinOp}(x y:Operand) (b:Option Addr) (n cap:Nat) (w:World):(eqGuard op t x y (.slice b n cap) (.slice none 0 0)).run P w=.ok () w:=by
 unfold eqGuard;simp
theorem aq.Dk {t e u:TypeId}{f:TI}{x:Operand}{k:Nat}{tok:Option Nat}{nl:Bool}{rows:List (List D)}(l:aX P t=some f) (hk:f.k=.slice e) (hx:ev ts x=.a (.d (.slice k tok nl rows))) :
  aq P (mk dst (.binOp .eql t x (.const (.slice none 0 0)) u) ty pos aI g) ts ls h {} (.a (.d (.bool nl))) ls h :=
 aq.dS fun j w jl act m=>by
  have h1:=m x (by simp [Op.operands]);rw [hx] at h1;obtain⟨b,cap,p,_,_,q,_⟩:=p5 h1;have hu:=kj l hk;subst q;have r:act.eval (.const (.slice none 0 0))=.slice none 0 0:=rfl;refine⟨.bool b.isNone, ?_,aF.bool _⟩;simp only [execOp,p,r,Sem.run_bind,OJ (e:=e),Result.andThen,binOp,Sem.run_map,OI hu,Sem.run_pure]
theorem aq.OK {x y:Operand}{cm:Array TypeId}{k:IntKind}{m n:Int}(hx:ev ts x=.a (.d (.int k m))) (l:ev ts y=.a (.d (.int k n))) :
  aq P (mk dst (.call { callee:=.builtin .max,args:=#[x,y],argTypes:=cm }) ty pos aI g) ts ls h {} (.a (.d (.int k (if n>m then n else m)))) ls h :=
 aq.dS fun j w jl act b=>by
  have h1:=b x (by simp [Op.operands,Call.operands]);have f:=b y (by simp [Op.operands,Call.operands]);rw [hx] at h1; rw [l] at f;exact⟨_,by simp only [execOp,resolve,invoke,builtin,List.map_toArray,List.map_cons,List.map_nil,jO h1,jO f]; simp [run_max_int2],aF.int _ _⟩
theorem aq.OL {t:TypeId}{p:TI}{x:Operand}{lo hi:Option Operand}{l r:Option Int}{s y:Bs}(j:aX P t=some p) (hk:p.k=.str) (hx:ev ts x=.a (.d (.str s)))
  (f:match lo,l with|none,none=>True|some o,some n=>ev ts o=.a (.d (.int .i64 n))|_,_=>False) (b:match hi,r with|none,none=>True|some o,some n=>ev ts o=.a (.d (.int .i64 n))|_,_=>False)
  (q:lo.isSome=true\/hi.isSome=true) (hr:AE s l r=some y):aq P (mk dst (.slice t x lo hi none) ty pos aI g) ts ls h {} (.a (.d (.str y))) ls h:=by
 unfold AE at hr
 split at hr
 ·rename_i hc
  simp only [Option.some.injEq] at hr;cases lo with
  | none =>
   cases l with
   | some n=>exact f.elim
   | none =>
    cases hi with
    | none=>simp at q
    | some o =>
     cases r with
     | none=>exact b.elim
     | some n =>
      have:=aq.CU (av:=av) (P:=P) (dst:=dst) (ty:=ty) (pos:=pos) (aI:=aI) (g:=g) (ls:=ls) (h:=h) j hk hx b (by simpa using hc.2.1) (by simpa using hc.2.2);rw [<- hr]; simpa using this
  | some o =>
   cases l with
   | none=>exact f.elim
   | some n =>
    cases hi with
    | none =>
     cases r with
     | some m=>exact b.elim
     | none =>
      have:=aq.Ah (av:=av) (P:=P) (dst:=dst) (ty:=ty) (pos:=pos) (aI:=aI) (g:=g) (ls:=ls) (h:=h) j hk hx f (by simpa using hc.1) (by simpa using hc.2.1);rw [<- hr]; simpa using this
    | some o' =>
     cases r with
     | none=>exact b.elim
     | some m =>
      have:=aq.N3 (av:=av) (P:=P) (dst:=dst) (ty:=ty) (pos:=pos) (aI:=aI) (g:=g) (ls:=ls) (h:=h) j hk hx f b (by simpa using hc.1) (by simpa using hc.2.1) (by simpa using hc.2.2);rw [<- hr];simp only [Option.getD_some];rw [List.drop_take];exact this
 ·cases hr
end
theorem aJ.sLen {P:Program}{ops:Array Oper}{rest:List Oper}{Q:St->Prop}{n:Nat}{ts:Ts}{ls:List (List D)}{h:af}{d:Nat}{ty:TypeId}{pos:String}{aI:Array Edge}{t e:TypeId}{b:TI}{x:Operand}{cm:Array TypeId}{k:Nat}{tok:Option Nat}{α:Type}{f:α->List D}{s:Sl α}
  (m:aX P t=some b) (hk:b.k=.slice e) (bQ:cm[0]?=some t) (hx:ev ts x=.a (.d (s.d k f tok))) (p:Nat.blt d n=true)
  (hr:s.l.length<=140737488355328->aJ P ops rest Q ⟨n,(d,.a (.d (.int .i64 (s.l.length:Int))))::ts,ls,h⟩) :
  aJ P ops (⟨some d,.call { callee:=.builtin .len,args:=#[x],argTypes:=cm },ty,pos,aI,none⟩::rest) Q ⟨n,ts,ls,h⟩:=by
 intro j w jl a g q r;have hlen:s.l.length<=140737488355328:=by
  have h1:=oy g.tmps x;rw [hx] at h1;obtain⟨_,_,_,hn,_⟩:=p5 h1
  simpa [cC] using hn
 exact aJ.s0 (aq.rO m hk bQ hx) p (hr hlen) j w jl a g q r
theorem aJ.vG {P:Program}{ops:Array Oper}{rest:List Oper}{Q:St->Prop}{n:Nat}{ts:Ts}{ls:List (List D)}{h:af}{d:Nat}{ty:TypeId}{pos:String}{aI:Array Edge}{t:TypeId}{b:TI}{x:Operand}{cm:Array TypeId}{s:Bs}
  (g:aX P t=some b) (hk:b.k=.str) (bQ:cm[0]?=some t) (hx:ev ts x=.a (.d (.str s))) (l:Nat.blt d n=true)
  (hr:s.length<=4611686018427387904->aJ P ops rest Q ⟨n,(d,.a (.d (.int .i64 (s.length:Int))))::ts,ls,h⟩) :
  aJ P ops (⟨some d,.call { callee:=.builtin .len,args:=#[x],argTypes:=cm },ty,pos,aI,none⟩::rest) Q ⟨n,ts,ls,h⟩:=by
 intro j w jl a f m p;have hlen:s.length<=4611686018427387904:=by
  have h1:=oy f.tmps x;rw [hx] at h1;exact(k_ h1).2
 exact aJ.s0 (aq.Aq g hk bQ hx) l (hr hlen) j w jl a f m p
theorem aJ.fP {P:Program}{ops:Array Oper}{rest:List Oper}{Q:St->Prop}{n:Nat}{ts:Ts}{ls:List (List D)}{h h':af}(e:h=h') (hw:aJ P ops rest Q ⟨n,ts,ls,h'⟩):aJ P ops rest Q ⟨n,ts,ls,h⟩:=e▸hw
theorem aN.fP {P:Program}{ops:Array Oper}{m:Nat}{rest:List Oper}{done:List Fx}{Q:St->Prop}{n:Nat}{ts:Ts}{ls:List (List D)}{h h':af}(e:h=h') (hw:aN P ops m rest done Q ⟨n,ts,ls,h'⟩):aN P ops m rest done Q ⟨n,ts,ls,h⟩:=e▸hw
theorem ah.jR {P:Program}{c:Code}{Q:Exit->St->Prop}{n:Nat}{ts:Ts}{ls:List (List D)}{h h':af}(e:h=h') (hw:ah P c Q ⟨n,ts,ls,h'⟩):ah P c Q ⟨n,ts,ls,h⟩:=e▸hw
theorem af.dW {h:af}{i r:Nat}{o:Obj}(e:(h.set i (some o)) r=none):r≠i/\h r=none:=by
 have h1:r≠i:=fun b=>by rw [b,af.aS] at e; cases e
 exact⟨h1,by rw [af.aO _ _ h1] at e; exact e⟩
section
variable {P:Program}{ops:Array Oper}{rest:List Oper}{Q:St->Prop}{n:Nat}{ts:Ts}{ls:List (List D)}{h:af}
theorem aJ.oE (id:Nat){xs:List D}(k:List D) (hc:h id=some (.cells xs)) (l:∀j w cs,fu j w h->aQ (aF j w) xs cs->aQ (aF j w) k cs)
  (hw:aJ P ops rest Q ⟨n,ts,ls,h.set id (some (.cells k))⟩):aJ P ops rest Q ⟨n,ts,ls,h⟩:=by
 intro j w jl a f m hk;have hl:=f.hl;refine hw j w jl a ⟨f.defers,f.size,f.tmps,⟨hl.1.oE hc (l j w · hl.1),⟨hl.2.each,hl.2.nodup,fun b p g=>hl.2.apart b p ((aU.oE hc).1 g)⟩⟩⟩ m fun q j' w' r s hq t u=>hk q j' w' r s hq t (bM.trans ?_ u);exact { bM.refl j _ (aU j h jl) with own:=fun b _ g=>(aU.oE hc).1 g }
theorem aJ.cq (i:Nat){xs:List D}(l:List D) (hc:ls[i]?=some xs) (p:∀j w cs,fu j w h->aQ (aF j w) xs cs->aQ (aF j w) l cs)
  (hw:aJ P ops rest Q ⟨n,ts,ls.set i l,h⟩):aJ P ops rest Q ⟨n,ts,ls,h⟩:=by
 intro j w jl a g;have hl:=g.hl;have q:aQ (fun xs b=>jA j w b xs) (ls.set i l) jl:=by
  refine aQ.jf (by rw [List.length_set,hl.2.each.length]) fun k x b hx m=>?_;rw [List.getElem?_set] at hx
  split at hx
  ·rename_i e
   subst e
   split at hx
   ·simp only [Option.some.injEq] at hx; subst hx;obtain⟨b',f,cs,r,h1,s,t⟩:=hl.2.each.get hc;rw [m] at f; simp only [Option.some.injEq] at f; subst f;exact⟨cs,r,h1,p j w _ hl.1 s,t⟩
   ·cases hx
  ·obtain⟨b',f,h1⟩:=hl.2.each.get hx;rw [m] at f; simp only [Option.some.injEq] at f; subst f;exact h1
 exact hw j w jl a ⟨g.defers,g.size,g.tmps,⟨hl.1,⟨q,hl.2.nodup,hl.2.apart⟩⟩⟩
theorem aJ.tok (k:Nat) (hw:∀t,h t=none->aJ P ops rest Q ⟨n,ts,ls,h.set t (some (.tok k 0))⟩):aJ P ops rest Q ⟨n,ts,ls,h⟩:=by
 intro j w jl a b g hk;obtain⟨h1,f⟩:=b.hl.eb k;have l:=b.hl.1.lV (Nat.le_refl _);exact hw j.next l j.eb w jl a ⟨b.defers,b.size,fun i=>(b.tmps i).mono f.toLe (Ext.refl _),h1⟩ g fun m j' w' p q hq r s=>hk m j' w' p q hq r (f.trans s)
theorem aJ.fK (s k t:Nat){o:Obj}{f:Nat}(g:get ts s=.a (.d (.slice f none true []))) (ht:h t=some o)
  (hw:aJ P ops rest Q ⟨n,(s,.a (.d (.slice k (some t) true [])))::ts,ls,h⟩):aJ P ops rest Q ⟨n,ts,ls,h⟩:=by
 intro j w jl a b;refine hw j w jl a ⟨b.defers,b.size,fun i=>?_,b.hl⟩;by_cases e:s=i
 ·subst e;show bp _ _ _ (get ((s,_)::ts) s) _;rw [gh];have hv:bp j w jl (get ts s) (a.tmps.getD s undef):=b.tmps s;rw [g] at hv;exact(nk.nil (k':=k) ht).rel b.hl.1 hv
 ·show bp _ _ _ (get ((s,_)::ts) i) _;rw [gZ _ _ e];exact b.tmps i
theorem aJ.dV (s:Nat){k:Nat}{tk:Option Nat}{nl:Bool}{rows:List (List D)}(f:get ts s=.a (.d (.slice k tk nl rows)))
  (hw:aJ P ops rest Q ⟨n,(s,.a (.d (.slice k none nl rows)))::ts,ls,h⟩):aJ P ops rest Q ⟨n,ts,ls,h⟩:=by
 intro j w jl a b;refine hw j w jl a ⟨b.defers,b.size,fun i=>?_,b.hl⟩;by_cases e:s=i
 ·subst e;show bp _ _ _ (get ((s,_)::ts) s) _;rw [gh];have hv:bp j w jl (get ts s) (a.tmps.getD s undef):=b.tmps s;rw [f] at hv;exact Hh j w _ hv
 ·show bp _ _ _ (get ((s,_)::ts) i) _;rw [gZ _ _ e];exact b.tmps i
end
theorem tok_cell {j:J}{w:World}{h:af}{t:Nat}{o:Obj}{xs:List D}{cs:List Value}(i k k':Nat) (hh:fu j w h) (ht:h t=some o) (hx:aQ (aF j w) xs cs) (hi:xs[i]?=some (.slice k none true [])) :
  aQ (aF j w) (xs.set i (.slice k' (some t) true [])) cs:=by
 refine aQ.jf (by rw [List.length_set,hx.length]) fun n x v hn hv=>?_;rw [List.getElem?_set] at hn
 split at hn
 ·rename_i e
  subst e
  split at hn
  ·simp only [Option.some.injEq] at hn; subst hn;obtain⟨f,b,hr⟩:=hx.get hi;rw [hv] at b; simp only [Option.some.injEq] at b; subst b;exact(nk.nil (k:=k) (k':=k') ht).rel hh (x:=.d (.slice k none true [])) hr
  ·cases hn
 ·obtain⟨f,b,hr⟩:=hx.get hn;rw [hv] at b; simp only [Option.some.injEq] at b; subst b;exact hr
theorem iE {j:J}{w:World}{xs:List D}{cs:List Value}(i:Nat){k:Nat}{tk:Option Nat}{nl:Bool}{rows:List (List D)}(hx:aQ (aF j w) xs cs) (hi:xs[i]?=some (.slice k tk nl rows)) :
  aQ (aF j w) (xs.set i (.slice k none nl rows)) cs:=by
 refine aQ.jf (by rw [List.length_set,hx.length]) fun n x v hn hv=>?_;rw [List.getElem?_set] at hn
 split at hn
 ·rename_i e
  subst e
  split at hn
  ·simp only [Option.some.injEq] at hn; subst hn;obtain⟨f,b,hr⟩:=hx.get hi;rw [hv] at b; simp only [Option.some.injEq] at b; subst b;exact Hh j w v hr
  ·cases hn
 ·obtain⟨f,b,hr⟩:=hx.get hn;rw [hv] at b; simp only [Option.some.injEq] at b; subst b;exact hr
def F0:Nat:=4611686018427387904
theorem wA {n:Nat}{ts b:Ts}{ls aV:List (List D)}{h h':af}(hk:dN ts aV.length b:=by repeat (first|exact dN.nil|refine dN.c rfl rfl ?_|refine dN.c (by(first|(first|rfl|((conv=>lhs; whnf); first|(simp [ct,Dl,Dm,Dn,OM.ON,Nat.add_assoc,empty_append,Bool.and_assoc]; done)|(simp [ct,Dl,Dm,Dn,Nat.add_assoc,empty_append,Bool.and_assoc]; repeat (first|rfl|constructor))))|rfl|(simp only [gh,ev]; done)|(simp [*,ct]; done)|(show V.a (A.d (D.slice _ _ _ _))=V.a (A.d (D.slice _ _ _ _)); simp [*,ct]; done))) rfl ?_)) (hl:lc aV ls:=by repeat (first|exact lc.nil|apply lc.cons)) (hh:h=h':=by first|rfl|(first|rfl|(simp only [af.set_set,List.length_append,List.length_nil,List.length_cons,List.length_map,List.length_singleton,Nat.zero_add]; done)|(simp [af.set_set,Nat.add_assoc]; done))|(((funext n; simp only [af.set]; (repeat' split)<;>simp_all))<;>first|rfl|exact⟨rfl,rfl⟩)):ck ⟨n,ts,ls,h⟩ ⟨n,b,aV,h'⟩:=ck.to hk hl hh
theorem ck.toFA {n:Nat}{ts b:Ts}{ls aV:List (List D)}{h h':af}(hh:∀id o,h' id=some o->h id=some o) (hk:dN ts aV.length b:=by repeat (first|exact dN.nil|refine dN.c rfl rfl ?_|refine dN.c (by(first|(first|rfl|((conv=>lhs; whnf); first|(simp [ct,Dl,Dm,Dn,OM.ON,Nat.add_assoc,empty_append,Bool.and_assoc]; done)|(simp [ct,Dl,Dm,Dn,Nat.add_assoc,empty_append,Bool.and_assoc]; repeat (first|rfl|constructor))))|rfl|(simp only [gh,ev]; done)|(simp [*,ct]; done)|(show V.a (A.d (D.slice _ _ _ _))=V.a (A.d (D.slice _ _ _ _)); simp [*,ct]; done))) rfl ?_)) (hl:lc aV ls:=by repeat (first|exact lc.nil|apply lc.cons)):ck ⟨n,ts,ls,h⟩ ⟨n,b,aV,h'⟩:=ck.toF hk hl hh
theorem aA {h:af}{i:Nat}{o:Option Obj}(hg:h i=o:=by(first|assumption|exact af.aS _ _ _|((repeat (refine(af.aO _ _ (by first|assumption|(apply Ne.symm; assumption))).trans ?_)); first|assumption|exact af.aS _ _ _)|(simp only [af.set_set,af.aS]; done)|(simp [af.set, *]; done))):h i=o:=hg
theorem and_left {a b:Bool}(h:(a&&b)=true):a=true:=by cases a<;>simp_all
end Go.Ab
namespace Go.Ab
open Go Go.RowKit
variable {av:bR}
section
variable {P:Program}{ts:Ts}{ls aV:List (List D)}{h h':af}{fx:Fx}{x:A}{dst:Option Tmp}{ty:TypeId}{pos:String}{aI:Array Edge}{g:Option (Nat×Bool)}
theorem aq.jS {o:Oper}{v:V}{k:Nat}{c:Bool}(hk:get ts k=.gd c x) (b:aq P o ((k,.a x)::ts) ls h fx v aV h') (hc:c=true:=by first|assumption|exact iY (by assumption)|exact iY (iY (by assumption))|exact iY (iY (iY (by assumption)))|exact Dg (by assumption)|simp_all):aq P o ts ls h fx v aV h':=aq.iL hk hc b
theorem aq.nq {o:Oper}{v:V}{k:Nat}{c:Bool}{i off:Nat}(hk:get ts k=.iB c i off) (b:aq P o ((k,.c_ i off)::ts) ls h fx v aV h') (hc:c=true:=by first|assumption|exact iY (by assumption)|exact iY (iY (by assumption))|exact iY (iY (iY (by assumption)))|exact Dg (by assumption)|simp_all):aq P o ts ls h fx v aV h':=aq.Oo hk hc b
theorem aq.kr {c y z:Operand}{b r f:Bool}(hc:ev ts c=.a (.d (.bool b))) (j:ev ts y=.gd f (.d (.bool r))) (hz:ev ts z=.a (.d (.bool false))) (k:b=true->f=true:=by intro hh; first|exact hh|exact AA hh|exact AB (by assumption) hh|exact AB (by assumption) (AA hh)|simp_all) :
  aq P (mk dst (.pick c y z) ty pos aI g) ts ls h {} (.a (.d (.bool (b&&r)))) ls h:=aq.Oq hc j k hz
theorem aq.um {c y z:Operand}{b r f:Bool}(hc:ev ts c=.a (.d (.bool b))) (j:ev ts y=.a (.d (.bool true))) (hz:ev ts z=.gd f (.d (.bool r))) (k:b=false->f=true:=by intro hh; first|exact hh|exact AA hh|exact AB (by assumption) hh|exact AB (by assumption) (AA hh)|simp_all) :
  aq P (mk dst (.pick c y z) ty pos aI g) ts ls h {} (.a (.d (.bool (b||r)))) ls h:=aq.Ot hc j hz k
theorem aq.OO {x:Operand}{v:V}(hx:ev ts x=v:=by conv=>lhs; whnf):aq P (mk dst (.move x) ty pos aI g) ts ls h {} v ls h:=aq.move hx
theorem aq.OP {x:Operand}{v:V}(hx:ev ts x=v:=by conv=>lhs; whnf):aq P (mk dst (.assign x) ty pos aI g) ts ls h {} v ls h:=aq.assign hx
theorem aq.p8 {t:TypeId}{b j:TI}{fs:List (Nat×TypeId)}{x:Operand}{f o:Nat}{xs l:List D}{m:TypeId}(p:aX P t=some b) (hk:b.k=.struct fs) (q:fs[f]?=some (o,m)) (r:aX P m=some j)
  (hz:Nat.beq j.size 0=false) (hx:ev ts x=.a (.d (.view xs))) (s:xs.drop o=l:=by conv=>lhs; whnf):aq P (mk dst (.fieldAddr t x f) ty pos aI g) ts ls h {} (.a (.d (.view l))) ls h:=aq.NT p hk q r hz hx s
theorem fT.A {ts:Ts}{k:Nat}{v:V}{r:Ts}(t:fT ts r) (h:Ab.get ts k=v:=by conv=>lhs; whnf):fT ts ((k,v)::r):=fT.cons h t
theorem aq.OQ {e:TypeId}{b:TI}{z:A}{i:Nat}{aV:List (List D)}(f:aX P e=some b) (hz:b.zero=some z) (j:ee (ct z) ls i aV:=by repeat (first|exact ee.nil|apply ee.cons)) :
  aq P (mk dst (.alloc e) ty pos aI g) ts ls h { wl:=true } (.c_ i 0) aV h:=aq.N4 f hz j
theorem aq.yh {t:TypeId}{b:TI}{x y:Operand}{i:Nat}{xs f:List D}{aV:List (List D)}(j:aX P t=some b) (hx:ev ts x=.c_ i 0) (k:ev ts y=.a (.agg f)) (hl:ls[i]?=some xs)
  (l:f.length=b.size) (hle:xs.length=b.size) (m:bn f ls i aV:=by repeat (first|exact bn.zero|apply bn.succ)):aq P (mk none (.store t x y) ty pos aI g) ts ls h { wl:=true } .any aV h:=aq.N5 j hx k hl l hle m
theorem ah.bx {c:Code}{Q:Exit->St->Prop}{n:Nat}{b:Ts}{aV:List (List D)}{xs:List D}(s i:Nat) (f:get ts s=.c_ i 0) (hk:dN ts i b) (hw:ah P c Q ⟨n,(s,.a (.d (.view xs)))::b,aV,h⟩) (hl:ee xs aV i ls:=by repeat (first|exact ee.nil|apply ee.cons)):ah P c Q ⟨n,ts,ls,h⟩:=ah.freeze s i f hl hk hw
theorem ah.gp {c:Operand}{u v:Code}{Q:Exit->St->Prop}{σ:St}{b:Bool}{α:Type}{A B:Option α}{r:α}(f:(bif b then A else B)=some r) (hc:ev σ.ts c=.a (.d (.bool b))) (ht:b=true->A=some r->ah P u Q σ) (g:b=false->B=some r->ah P v Q σ):ah P (.cond c u v) Q σ :=
 ah.cond hc (fun h=>ht h (Go.Ab.jN h f)) (fun h=>g h (Go.Ab.t_ h f))
end
end Go.Ab
/-
 Slices that may be stored to: their object holds the rows; the slot tells the object and the length.
-/
namespace Go.Ab
open Go Go.RowKit
variable {av:bR}
variable {fS:eT}
theorem HL.OR {j:J}{w:World}{jl:List Nat}{ls:List (List D)}{h:af}(hl:HL j w jl ls h) (k:Nat) :
  HL j.eb w jl ls (h.set j.next (some (.arr k [])))/\bM j w (aU j h jl) j.eb w (aU j.eb (h.set j.next (some (.arr k []))) jl):=by
 have hle:Le j w j.eb w:=⟨by simp [J.eb],fun _ _=>rfl,fun _=>Nat.le_refl _,fun _ _ _=>rfl,fun t ht=>.inl (by simp only [J.eb]; rw [if_neg (by omega)]),fun _ _ _ _ _ h=>h⟩;have hk:=hl.keep hle (fun _ _=>⟨rfl,rfl⟩) (fun id hid _=>by simp only [J.eb]; rw [if_neg (by omega)]) hl.1.fresh;have g:∀b,bJ j.eb j.next (.arr k [])≠some b:=by intro b; simp [bJ,J.eb]
 have m:∀jl x,aU j.eb (h.set j.next (some (.arr k []))) jl x->aU j.eb h jl x:=by
  rintro jl x (hm|⟨n,q,hn,e⟩)
  ·exact .inl hm
  ·by_cases c:n=j.next
   ·subst c; rw [af.aS] at hn; simp only [Option.some.injEq] at hn; subst hn;exact absurd e (g x)
   ·rw [af.aO h _ c] at hn; exact .inr ⟨n,q,hn,e⟩
 refine⟨⟨⟨fun id o hi=>?_,fun p v r y x h1 f s u=>?_,hl.1.fresh⟩,⟨hk.1.2.each,hk.1.2.nodup,fun x hx l=>hk.1.2.apart x hx (m [] x l)⟩⟩,
  { (bM.refl j w (aU j h jl)) with toLe:=hle,frame:=fun _ _ _=>⟨rfl,rfl⟩,own:=fun b _ l=>(hk.2 b).1 (m jl b l) }⟩
 ·by_cases c:id=j.next
  ·subst c; rw [af.aS] at hi; simp only [Option.some.injEq] at hi; subst hi;exact⟨by simp [J.eb],none,by simp [J.eb],⟨fun _=>rfl,fun _=>rfl⟩,by simp,by simp,by simp⟩
  ·rw [af.aO h _ c] at hi; exact hk.1.1.obj id o hi
 ·by_cases c1:p=j.next
  ·subst c1; rw [af.aS] at h1; simp only [Option.some.injEq] at h1; subst h1;exact absurd s (g x)
  ·by_cases c2:r=j.next
   ·subst c2; rw [af.aS] at f; simp only [Option.some.injEq] at f; subst f;exact absurd u (g x)
   ·rw [af.aO h _ c1] at h1; rw [af.aO h _ c2] at f;exact hk.1.1.inj p v r y x h1 f s u
theorem HL.Dp {j:J}{w w':World}{jl:List Nat}{ls:List (List D)}{h:af}(hl:HL j w jl ls h){t k:Nat}{rows a_:List (List D)}(ht:h t=some (.arr k rows)) (hm:rows.length<a_.length)
  {b cap:Nat}{cs:List Value}{e:TypeId}(I:w'.heap[b]?=some (.cells cs.toArray e (0,0))) (Q:cs.length=cap*k) (R:a_.length<=cap) (S:∀r∈a_,r.length=k) (U:a_.length<=cC)
  (p:∀x,x≠b->x<w.heap.size->w'.heap[x]?=w.heap[x]?) (W:w.heap.size<=w'.heap.size) (ai:w'.heap.size<=max w.heap.size (b+1))
  (s:w.heap.size<=b\/bJ j t (.arr k rows)=some b)
  (X:∀j',Le j w j' w'->aQ (aF j' w') a_.flatten (cs.take (a_.length*k)))
  (Y:w'.os=w.os) (Z:w'.tape=w.tape) (aa:gb w w') :
  HL (j.cG t ⟨some (b,cap),a_.length⟩ b 0) w' jl ls (h.set t (some (.arr k a_))) /\
   bM j w (aU j h jl) (j.cG t ⟨some (b,cap),a_.length⟩ b 0) w' (aU (j.cG t ⟨some (b,cap),a_.length⟩ b 0) (h.set t (some (.arr k a_))) jl):=by
 obtain⟨ab,dM,M,_,_,_,hblk⟩:=hl.1.obj t _ ht;have N:j.F b=0:=by
  rcases s with hc|hc
  ·exact hl.1.fresh b hc
  ·simp only [bJ,M,Option.bind_some] at hc;cases dM with
   | none=>simp at hc
   | some ad =>
    obtain⟨b',ae⟩:=ad;simp only [Option.map_some,Option.some.injEq] at hc;subst hc;obtain⟨_,_,_,_,ag,_⟩:=hblk _ _ rfl;exact ag
 have hle:Le j w (j.cG t ⟨some (b,cap),a_.length⟩ b (0)) w':=by
  refine⟨Nat.le_refl _,fun _ _=>rfl,fun x=>?_,fun x o g=>?_,fun x hx=>?_,fun x o v g _ hz=>by
   by_cases c:x=b
   ·subst c; exact .cells I
   ·refine hz.same (p x c ?_);rcases Nat.lt_or_ge x w.heap.size with h1|h1
    ·exact h1
    ·rw [hl.1.fresh x h1] at g; omega⟩
  ·simp only [J.cG]; split
   ·rename_i c; rw [c,N]; exact Nat.le_refl _
   ·exact Nat.le_refl _
  ·by_cases c:x=b
   ·subst c;rw [N] at g; omega
   ·refine vn (p x c ?_);rcases Nat.lt_or_ge x w.heap.size with h1|h1
    ·exact h1
    ·rw [hl.1.fresh x h1] at g; omega
  ·by_cases c:x=t
   ·subst c; exact .inr ⟨_,⟨some (b,cap),a_.length⟩,M,by simp [J.cG],hm⟩
   ·exact .inl (by simp [J.cG,c])
 -- the others' blocks are not b
 have C:∀n q x,h n=some q->n≠t->bJ j n q=some x->x≠b:=fun n q x hn l hx c=>by
  subst c;rcases s with hc|hc
  ·have:=aU.lt hl (.inr ⟨n,q,hn,hx⟩); omega
  ·exact l (hl.1.inj n q t _ x hn ht hx hc)
 have K:∀x,x∈jl->x≠b:=fun x hx c=>by
  subst c;rcases s with hc|hc
  ·have:=aU.lt hl (.inl hx); omega
  ·exact hl.2.apart x hx (.inr ⟨t,_,ht,hc⟩)
 have E:∀x,x≠b->(j.cG t ⟨some (b,cap),a_.length⟩ b (0)).F x=j.F x:=fun x hx=>by simp [J.cG,hx]
 have m:∀n q,h n=some q->n≠t->iC (j.cG t ⟨some (b,cap),a_.length⟩ b (0)) w' n q/\bJ (j.cG t ⟨some (b,cap),a_.length⟩ b (0)) n q=bJ j n q:=fun n q hn l =>
  (hl.1.obj n q hn).2.keep hle (hl.1.obj n q hn).1 (fun x hx=>⟨p x (C n q x hn l hx) (aU.lt hl (.inr ⟨n,q,hn,hx⟩)),E x (C n q x hn l hx)⟩)
   (fun _=>by simp [J.cG,l])
 have L:bJ (j.cG t ⟨some (b,cap),a_.length⟩ b (0)) t (.arr k a_)=some b:=by simp [bJ,J.cG]
 have O:∀jl x,aU (j.cG t ⟨some (b,cap),a_.length⟩ b (0)) (h.set t (some (.arr k a_))) jl x->x=b\/aU j h jl x:=by
  rintro jl x (hx|⟨n,q,hn,hx⟩)
  ·exact .inr (.inl hx)
  ·by_cases c:n=t
   ·subst c; rw [af.aS] at hn; simp only [Option.some.injEq] at hn; subst hn;rw [L] at hx; simp only [Option.some.injEq] at hx; exact .inl hx.symm
   ·rw [af.aO h _ c] at hn;exact .inr (.inr ⟨n,q,hn,(m n q hn c).2▸hx⟩)
 refine⟨⟨⟨fun n q hn=>?_,fun u G y H x h1 f z B=>?_,fun x hx=>?_⟩,
  ⟨pW hl.2.each fun xs x hx h=>h.keep hle ⟨p x (K x hx) (aU.lt hl (.inl hx)),E x (K x hx)⟩,hl.2.nodup,fun x hx g=>?_⟩⟩, ?_⟩
 ·by_cases c:n=t
  ·subst c; rw [af.aS] at hn; simp only [Option.some.injEq] at hn; subst hn;refine⟨ab,some (b,cap),by simp [J.cG],⟨by simp,fun e=>by rw [e] at hm; simp at hm⟩,S,U,fun b' ae P=>?_⟩;simp only [Option.some.injEq,Prod.mk.injEq] at P;obtain⟨rfl,rfl⟩:=P;exact⟨cs,e,I,Q,by simp [J.cG],R,X _ hle⟩
  ·rw [af.aO h _ c] at hn;exact⟨(hl.1.obj n q hn).1,(m n q hn c).1⟩
 ·by_cases c1:u=t<;>by_cases c2:y=t
  ·omega
  ·subst c1; rw [af.aS] at h1; simp only [Option.some.injEq] at h1; subst h1;rw [af.aO h _ c2] at f;rw [L] at z; simp only [Option.some.injEq] at z;exact absurd z.symm (C y H x f c2 ((m y H f c2).2▸B))
  ·subst c2; rw [af.aS] at f; simp only [Option.some.injEq] at f; subst f;rw [af.aO h _ c1] at h1;rw [L] at B; simp only [Option.some.injEq] at B;exact absurd B.symm (C u G x h1 c1 ((m u G h1 c1).2▸z))
  ·rw [af.aO h _ c1] at h1; rw [af.aO h _ c2] at f;exact hl.1.inj u G y H x h1 f ((m u G h1 c1).2▸z) ((m y H f c2).2▸B)
 ·have aj:=jB I;rw [E x (by omega)];exact hl.1.fresh x (by omega)
 ·rcases O [] x g with c|c
  ·exact K x hx c
  ·exact hl.2.apart x hx c
 ·refine { toLe:=hle,size:=W,frame:=fun x hx hn=>?_,own:=fun x hx g=>?_,os:=Y,tape:=Z,output:=aa }
  ·have l:x≠b:=fun c=>by
    subst c;rcases s with hc|hc
    ·omega
    ·exact hn (.inr ⟨t,_,ht,hc⟩)
   exact⟨p x l hx,E x l⟩
  ·rcases O jl x g with c|c
   ·subst c;rcases s with hc|hc
    ·omega
    ·exact .inr ⟨t,_,ht,hc⟩
   ·exact c
theorem vH {j:J}{w:World}{jl:List Nat}{k id:Nat}{nl:Bool}{len:Nat}{cv:Value}(h:bp j w jl (.a (.d (.arr k id nl len))) cv):∃a cap,cv=.slice a len cap/\id<j.next/\xN j id nl len a cap:=by
 have h':aF j w (.arr k id nl len) cv:=h;cases h' with
 | arr _ _ _ _ a cap hid hv=>exact⟨a,cap,rfl,hid,hv⟩
theorem OS {j:J}{w:World}{jl:List Nat}{id m off:Nat}{cv:Value}(h:bp j w jl (.a (.d (.gY id m off))) cv) :
  ∃b,cv=.pointer (some ⟨b,off,none⟩)/\id<j.next/\∀tk,j.tok id=some tk->m<=tk.m/\(m=tk.m->∃c,tk.dM=some (b,c)):=by
 have h':aF j w (.gY id m off) cv:=h;cases h' with
 | gY _ _ _ b hid hv=>exact⟨b,rfl,hid,hv⟩
theorem HL.rP {j:J}{w:World}{jl:List Nat}{ls:List (List D)}{h:af}(hl:HL j w jl ls h){k k' id n:Nat}{nl:Bool}{rows:List (List D)}(hi:h id=some (.arr k rows)) (hn:n=rows.length){cv:Value}
  (hx:bp j w jl (.a (.d (.arr k' id nl n))) cv) :
  (∃a,cv=.slice a 0 0/\nl=a.isNone/\rows=[]/\j.tok id=some ⟨none,0⟩)\/∃b cap cs e,cv=.slice (some ⟨b,0,none⟩) rows.length cap/\nl=false/\j.tok id=some ⟨some (b,cap),rows.length⟩/\w.heap[b]?=some (.cells cs e (0,0)) /\
   cs.size=cap*k/\j.F b=0/\rows.length<=cap/\(∀r∈rows,r.length=k)/\aQ (aF j w) rows.flatten (cs.toList.take (rows.length*k)):=by
 subst hn;obtain⟨a,cap,m,hid,hv⟩:=vH hx;obtain⟨_,dM,f,p,q,s,hblk⟩:=hl.1.obj id _ hi;obtain⟨_,hv⟩:=hv _ f;rcases hv rfl with ⟨h1,g,l⟩|⟨b,h1,g,l⟩
 ·dsimp only at h1;subst h1 l;have:=p.1 rfl;subst this;exact .inl ⟨a,m,g,rfl,f⟩
 ·dsimp only at h1;subst h1 g;obtain⟨cs,e,g1,g2,g3,g4,g5⟩:=hblk _ _ rfl;exact .inr ⟨b,cap,cs.toArray,e,m,l,f,g1,by simpa using g2,g3,g4,q,by simpa using g5⟩
theorem Hj {rows:List (List D)}{k i o:Nat}{row:List D}(hk:∀r∈rows,r.length=k) (hr:rows[i]?=some row) (b:o<k):rows.flatten[i*k+o]?=row[o]?:=(g_ hk).2 i row hr o b
theorem OT {rows:List (List D)}{k:Nat}(hk:∀r∈rows,r.length=k):∀{i o:Nat}{row:List D}{v:D},rows[i]?=some row->o<k->rows.flatten.set (i*k+o) v=(rows.set i (row.set o v)).flatten:=by
 induction rows with
 | nil=>intro i o row v hr; simp at hr
 | cons r rs b =>
  intro i o row v hr f;have g:r.length=k:=hk r (by simp);cases i with
  | zero =>
   simp at hr; subst hr;rw [Nat.zero_mul,Nat.zero_add,List.flatten_cons,List.set_append_left _ _ (by omega)]; rfl
  | succ i =>
   have:=b (fun x hx=>hk x (by simp [hx])) (i:=i) (o:=o) (v:=v) (by simpa using hr) f;rw [List.flatten_cons,Nat.succ_mul,List.set_append_right _ _ (by omega),show i*k+k+o-r.length=i*k+o by omega,this]; rfl
theorem OU {rows:List (List D)}{k i:Nat}(hk:∀r∈rows,r.length=k):∀{o:Nat}{b row:List D},rows[i]?=some row->o+b.length<=k->cN rows.flatten (i*k+o) b=(rows.set i (cN row o b)).flatten:=by
 intro o b;induction b generalizing o rows with
 | nil =>
  intro row hr _;show rows.flatten=(rows.set i row).flatten
  congr 1
  refine List.ext_getElem? fun n=>?_;rw [List.getElem?_set]; split
  ·rename_i e; subst e; rw [hr]; simp [(List.getElem?_eq_some_iff.1 hr).1]
  ·rfl
 | cons v b f =>
  intro row hr g;simp only [List.length_cons] at g;have hi:=(List.getElem?_eq_some_iff.1 hr).1;rw [cN,OT hk hr (by omega),Nat.add_assoc,f (rows:=rows.set i (row.set o v)) (row:=row.set o v) (fun r j=>?_) (by simp [hi]) (by omega)]
  ·rw [List.set_set]; rfl
  ·rcases List.mem_or_eq_of_mem_set j with h|h
   ·exact hk r h
   ·rw [h,List.length_set]; exact hk row (List.mem_of_getElem? hr)
theorem Dq {α:Type}:∀(l z:List α) (n:Nat) (r:List α),n+r.length<=l.length->cN (l++z) n r=cN l n r++z
 | _,_,_,[],_=>rfl
 | l,z,n,v::r,h=>by
  simp only [List.length_cons] at h;rw [cN,cN,List.set_append_left _ _ (by omega),Dq _ _ _ _ (by simp; omega)]
section
variable {P:Program}{ts:Ts}{ls:List (List D)}{h:af}{dst:Option Tmp}{ty:TypeId}{pos:String}{aI:Array Edge}{g:Option (Nat×Bool)}{α:Type}{f:α->List D}
theorem aq.Hl {t e:TypeId}{b:TI}{x:Operand}{cm:Array TypeId}{k id m:Nat}{nl:Bool}(f:aX P t=some b) (hk:b.k=.slice e) (bQ:cm[0]?=some t)
  (hx:ev ts x=.a (.d (.arr k id nl m))):aq P (mk dst (.call { callee:=.builtin .len,args:=#[x],argTypes:=cm }) ty pos aI g) ts ls h {} (.a (.d (.int .i64 (m:Int)))) ls h :=
 aq.dS fun j w jl act l=>by
  have h1:=l x (by simp [Op.operands,Call.operands]);rw [hx] at h1;obtain⟨a,cap,p,_⟩:=vH h1;exact⟨_,by simp [execOp,resolve,invoke,builtin,p,Builtin.len_,bQ,eV (kj f hk),goInt],aF.int _ _⟩
theorem aq.p9 {t e:TypeId}{p q:TI}{x ix:Operand}{v:IntKind}{n:Nat}{k id m:Nat}{nl:Bool}{l:List α}{y:α}(z:aX P t=some p) (hk:p.k=.slice e) (B:aX P e=some q)
  (hx:ev ts x=.a (.d (.arr k id nl m))) (hi:ev ts ix=.a (.d (.int v (n:Int)))) (C:k=q.size) (hh:h id=some (.arr k (l.map f))) (hm:m=l.length) (hr:l[n]?=some y) :
  aq P (mk dst (.indexAddr t x ix) ty pos aI g) ts ls h { rh:=true } (.a (.d (.gY id m (n*k)))) ls h :=
 oz.rH ⟨rfl,rfl,fun L H _ hH j w jl a hl r=>by
  have h1:=r x (by simp [Op.operands]);have s:=r ix (by simp [Op.operands]);rw [hx] at h1; rw [hi] at s;rw [hH rfl] at hl;subst hm;have bl:=(List.getElem?_eq_some_iff.1 hr).1;rcases hl.rP hh (by simp) h1 with ⟨_,_,_,u,_⟩|⟨b,cap,cs,ce,E,_,F,_⟩
  ·simp at u; subst u; simp at hr
  ·refine⟨.pointer (some ⟨b,n*k,none⟩), ?_,aF.gY id l.length (n*k) b (hl.1.obj id _ hh).1 fun tk bt=>?_⟩
   ·simp [execOp,E,jO s,Instr.indexAt,asIntOf,eV (kj z hk),kg B,bl,<- C,add_plain]
   ·rw [F] at bt; simp only [Option.some.injEq] at bt; subst bt;exact⟨by simp,fun _=>⟨cap,rfl⟩⟩⟩
theorem HL.Ho {j:J}{w:World}{jl:List Nat}{ls:List (List D)}{h:af}(hl:HL j w jl ls h){k id off:Nat}{rows:List (List D)}(hi:h id=some (.arr k rows)){cv:Value}
  (hx:bp j w jl (.a (.d (.gY id rows.length off))) cv) :
  ∃b cap cs e,cv=.pointer (some ⟨b,off,none⟩)/\j.tok id=some ⟨some (b,cap),rows.length⟩/\w.heap[b]?=some (.cells (cs:List Value).toArray e (0,0))/\cs.length=cap*k/\j.F b=0/\rows.length<=cap /\
   (∀r∈rows,r.length=k)/\aQ (aF j w) rows.flatten (cs.take (rows.length*k))/\rows.length<=cC:=by
 obtain⟨b,l,hid,hv⟩:=OS hx;obtain⟨_,dM,f,q,m,p,hblk⟩:=hl.1.obj id _ hi;obtain⟨_,hv⟩:=hv _ f;obtain⟨cap,g⟩:=hv rfl;dsimp only at g;subst g;obtain⟨cs,e,g1,g2,g3,g4,g5⟩:=hblk _ _ rfl;exact⟨b,cap,cs,e,l,f,g1,g2,g3,g4,m,g5,p⟩
theorem aq.vI {t:TypeId}{r:TI}{x:Operand}{k id m off i o:Nat}{l:List α}{y:α}{v:A}(z:aX P t=some r) (hk:r.k.tX=false) (hx:ev ts x=.a (.d (.gY id m off)))
  (hh:h id=some (.arr k (l.map f))) (hm:m=l.length) (hr:l[i]?=some y) (B:off=i*k+o) (hv:tZ r (f y) o=some v) :
  aq P (mk dst (.load t x) ty pos aI g) ts ls h { rh:=true } (.a v) ls h :=
 oz.rH ⟨rfl,rfl,fun L H _ hH j w jl a hl C=>by
  have h1:=C x (by simp [Op.operands]);rw [hx] at h1;rw [hH rfl] at hl;rw [hm,<- List.length_map f] at h1;obtain⟨b,cap,cs,ce,E,_,hg,I,_,J,s,F,_⟩:=hl.Ho hh h1;have u:(l.map f)[i]?=some (f y):=by rw [List.getElem?_map,hr]; rfl
  have M:(f y).length=k:=s _ (List.mem_of_getElem? u);have hc:Cells j w b (i*k) (f y):=by
   intro n d hn;have N:=(List.getElem?_eq_some_iff.1 hn).1;have q:=Hj s u (o:=n) (by omega);rw [hn] at q;obtain⟨v,p,G⟩:=F.get q;refine⟨v, ?_,G⟩;rw [cell_of_row w b _ cs.toArray ce (0,0) hg];rw [List.getElem?_take] at p; split at p
   ·simpa using p
   ·cases p
  obtain⟨cv,q,p⟩:=xT (P:=P) hc z (K.tY hk) hv;exact⟨cv,by simp [execOp,Instr.loadAt,Instr.sureAddr,E,B,q],p⟩⟩
theorem aq.Dr {t:TypeId}{p:TI}{x y:Operand}{k id m off i o:Nat}{l:List α}{u u':α}{v:A}(Q:aX P t=some p) (hx:ev ts x=.a (.d (.gY id m off))) (R:ev ts y=.a v)
  (hh:h id=some (.arr k (l.map f))) (hm:m=l.length) (hr:l[i]?=some u) (S:off=i*k+o) (E:(ct v).length=p.size) (hle:o+p.size<=k) (hu:cN (f u) o (ct v)=f u') (aj:dst=none) :
  aq P (mk dst (.store t x y) ty pos aI g) ts ls h { wh:=true } .any ls (h.set id (some (.arr k ((l.set i u').map f)))):=by
 refine aq.of_run fun L H _ hH j w jl a hl F=>?_;have U:=hH rfl;subst U;have h1:=F x (by simp [Op.operands]);have s:=F y (by simp [Op.operands]);rw [hx] at h1; rw [R] at s;rw [hm,<- List.length_map f] at h1;obtain⟨b,cap,cs,ce,W,G,hg,X,z,I,B,J,Y⟩:=hl.Ho hh h1;have K:(l.map f)[i]?=some (f u):=by rw [List.getElem?_map,hr]; rfl
 have hi:=(List.getElem?_eq_some_iff.1 hr).1;have ak:i*k+k<=l.length*k:=by rw [<- Nat.succ_mul]; exact Nat.mul_le_mul_right _ hi
 have al:l.length*k<=cap*k:=Nat.mul_le_mul_right _ (by simpa using I);obtain⟨w',Z,C⟩:=C0 (av:=av) (P:=P) (off:=off) hg Q s E (by omega);have M:=C.le (j:=j) z;have aa:(a.eval y).cells.toList.length=p.size:=by have:=s.cells.length; rw [E] at this; exact this.symm
 have hblk:∀a_,bJ j id (.arr k a_)=some b:=fun _=>by simp [bJ,G]
 obtain⟨ab,ad⟩:=hl.setObj (o':=.arr k ((l.set i u').map f)) hh (hblk _) (hblk _) z C (by
  refine⟨some (b,cap),by simpa using G,⟨by simp,fun e=>by simp at e; subst e; simp at hr⟩,fun r ae=>?_,by simpa using Y,fun b' am N=>?_⟩
  ·obtain⟨q,hq,rfl⟩:=List.mem_map.1 ae;rcases List.mem_or_eq_of_mem_set hq with hq|hq
   ·exact B _ (List.mem_map.2 ⟨q,hq,rfl⟩)
   ·subst hq; rw [<- hu,uc]; exact B _ (List.mem_of_getElem? K)
  ·simp only [Option.some.injEq,Prod.mk.injEq] at N;obtain⟨rfl,rfl⟩:=N;refine⟨_,ce,C.here,by rw [uc]; exact X,z,by simpa using I, ?_⟩;have ag:((l.set i u').map f).flatten=cN (l.map f).flatten (i*k+o) (ct v):=by
    rw [OU B K (by omega),List.map_set,hu]
   rw [ag,List.length_map,List.length_set];have ai:cs=cs.take (l.length*k)++cs.drop (l.length*k):=(List.take_append_drop _ _).symm;have O:(cs.take (l.length*k)).length=l.length*k:=by rw [List.length_take]; omega
   have:(cN cs off (a.eval y).cells.toList).take (l.length*k)=cN (cs.take (l.length*k)) off (a.eval y).cells.toList:=by
    conv=>lhs; rw [ai]
    rw [Dq _ _ _ _ (by rw [O,aa]; omega)];rw [List.take_left' (by rw [uc,O])]
   rw [show _=(cN cs off (a.eval y).cells.toList) from rfl,this,S];rw [List.length_map] at J;exact(J.imp fun _ _ h=>h.mono M).cN _ (s.cells.imp fun _ _ h=>h.mono M))
 refine⟨.skip,w',undef,j,jl, ?_,.inr ⟨rfl,rfl⟩,trivial,ab,Ext.refl _,ad⟩;simp [execOp,Instr.storeAt,Instr.sureAddr,W,Z]
end
section
variable {P:Program}{ts:Ts}{ls:List (List D)}{h:af}{dst:Option Tmp}{ty:TypeId}{pos:String}{aI:Array Edge}{g:Option (Nat×Bool)}{α:Type}{f:α->List D}
theorem aq.OV {t u e:TypeId}{au ae f:TI}{x y:Operand}{id k k' m:Nat}{tok':Option Nat}{nl aw:Bool}{rows a_:List (List D)}{z:A}(aQ:aX P t=some au) (hk:au.k=.slice e) (aR:aX P e=some f) (aT:aX P u=some ae) (aU:(∃e,ae.k=.slice e)\/ae.k=.str)
  (hz:f.zero=some z) (aV:(ct z).length=f.size)
  (hx:ev ts x=.a (.d (.arr k id nl m))) (aW:ev ts y=.a (.d (.slice k' tok' aw a_))) (q:k=f.size) (aY:k'=f.size\/a_=[])
  (bt:h id=some (.arr k rows)) (hm:m=rows.length) (ax:(rows.length+a_.length)*f.bytes<=cC) (hlen:rows.length+a_.length<=cC) :
  aq P (mk dst (.call { callee:=.builtin .append,args:=#[x,y],argTypes:=#[t,u] }) ty pos aI g) ts ls h { rh:=true,wh:=true }
   (.a (.d (.arr k id (nl&&a_.isEmpty) (rows.length+a_.length)))) ls (h.set id (some (.arr k (rows++a_)))):=by
 refine aq.of_run fun L H _ hH j w jl a hl ay=>?_;have aZ:=hH rfl;subst aZ hm;have h1:bp j w jl (.a (.d (.arr k id nl rows.length))) (a.eval x):=by have:=ay x (by simp [Op.operands,Call.operands]); rw [hx] at this; exact this
 have ag:aF j w (.slice k' tok' aw a_) (a.eval y):=by have:=ay y (by simp [Op.operands,Call.operands]); rw [aW] at this; exact this
 obtain⟨bb,bc,M,_,G,az,_,aB⟩:=gj aR;rw [hz] at aB;obtain⟨zv,aC,a0⟩:=nc aB;have aD:zv.cells.size=f.size:=by have:=(a0 j w).cells.length; rw [aV] at this; simpa using this.symm
 obtain⟨du,hu,N⟩:=GY aT aU;have ht:=kj aQ hk;have Y:∀r∈a_,r.length=f.size:=by
  obtain⟨_,_,_,_,_,_,_,hh,_⟩:=p5 (jl:=jl) ag;rcases aY with e|e
  ·rw [<- e]; exact hh
  ·rw [e]; simp
 obtain⟨news,U,O⟩:=Da (P:=P) ag Y;have Q:=GW ag P w;have a1:=(g_ Y).1;have s:news.length=a_.length*f.size:=by rw [<- U.length,a1]
 have W:∀(v:Value) (w':World),(Builtin.append_ #[t,u] ty #[a.eval x,a.eval y]).run P w=.ok v w' ->
   (execOp a.eval (mk dst (.call { callee:=.builtin .append,args:=#[x,y],argTypes:=#[t,u] }) ty pos aI g)).run P w=.ok (.value v) w':=fun v w' hr=>by
  simp [execOp,resolve,invoke,builtin,hr]
 have l:(rows++a_).length=rows.length+a_.length:=by simp
 have bd:cC=140737488355328:=rfl;have ai:=(hl.1.obj id _ bt).1;rcases hl.rP bt rfl h1 with ⟨base,R,aE,a2,aG⟩|⟨b,cap,B,ce,R,aE,aG,hg,Z,be,a3,aH,aj⟩
 ·-- nil so far
  subst a2;by_cases S:a_=[]
  ·subst S;have ak:news=[]:=List.eq_nil_of_length_eq_zero (by simpa using s);subst ak;have p:(Builtin.append_ #[t,u] ty #[a.eval x,a.eval y]).run P w=.ok (a.eval x) w:=by
    rw [R];cases base with
    | none=>exact GV ht hu N M (by simpa using Q) (by rw [G]; simpa using O w (fun _ _ _=>rfl))
    | some a4 =>
     have:=x_ (P:=P) (ty:=ty) (sCap:=0) (sLen:=0) (m:=0) (a:=a4) (news:=[]) (w':=w) ht hu N M (by simpa using Q) (by rw [G]; simpa using O w (fun _ _ _=>rfl)) (by omega) (by simp [storeCells])
     simpa using this
   refine⟨_,w,a.eval x,j,jl,W _ _ p,.inl rfl, ?_, ?_,Ext.refl _, ?_⟩
   ·simpa using h1
   ·simp only [List.isEmpty_nil,Bool.and_true,List.append_nil,cond_true];rw [af.kf H id _ bt]; exact hl
   ·simp only [List.isEmpty_nil,Bool.and_true,List.append_nil,cond_true];rw [af.kf H id _ bt]; exact bM.refl _ _ _
  ·have aK:0<a_.length:=List.length_pos_iff.2 S;have a5:(nl&&a_.isEmpty)=false:=by cases a_ with|nil=>exact absurd rfl S|cons _ _=>simp
   rw [a5];have p:=C_ (P:=P) (ty:=ty) (w:=w) (base:=base) (sLen:=0) (sCap:=0) (m:=a_.length) (x:=a.eval y) (olds:=[]) (news:=news) ht hu N M aC Q
    (by cases base<;>simp [Builtin.firstCells,loadCells,loadCellsFrom]) (by rw [G]; exact O w.drew fun _ _ _=>rfl) (by omega) (by simp at hlen; omega) (growslice_fits (by omega) (by rw [az]; simpa [cC] using ax))
   rw [<- R] at p;generalize al:grownCap w (0+a_.length) 0 e=E at p;have am:a_.length<=E:=by rw [<- al]; have:=grownCap_ge w (0+a_.length) 0 e; omega
   generalize X:[]++news++(Builtin.zeroCells zv.cells (E-(0+a_.length))).toList=F at p;have an:F.length=E*f.size:=by
    rw [<- X];simp only [List.nil_append,List.length_append,s,Array.length_toList,size_zeroCells,aD,<- Nat.add_mul]
    congr 1; omega
   have ao:=heap_alloc_new w.drew (.cells F.toArray e);obtain⟨K,C⟩:=hl.drew.Dp (w':=w.drew.alloc (.cells F.toArray e)) (a_:=[]++a_) bt (by simpa using aK) (b:=w.heap.size) (cap:=E) ao (by rw [q]; exact an) (by simpa using am) (by simpa [q] using Y) (by simpa using hlen)
    (fun x hx bl=>rC bl) (by simp) (by simp) (.inl (Nat.le_refl _)) (fun j' hle=>by
     have ap:F.take (a_.length*k)=news:=by rw [<- X,List.nil_append,q,List.take_left' (by rw [s])]
     rw [List.nil_append,ap];exact U.imp fun _ _ h=>(h.mono ((bM.drew j w (fun _=>False)).toLe)).mono hle) rfl rfl gb.rfl
   refine⟨_,_,_,_,jl,W _ _ p,.inl rfl, ?_,K,Ext.refl _,(bM.drew j w _).trans C⟩;refine aF.arr _ _ _ _ _ _ (Nat.lt_of_lt_of_le ai C.toLe.next) fun tk bt=>?_;simp only [J.cG,if_true,Option.some.injEq] at bt;subst bt;exact⟨by simp,fun _=>.inr ⟨_,rfl,rfl,rfl⟩⟩
 ·have bf:=(g_ aH).1;subst aE;rw [Bool.false_and];by_cases S:a_=[]
  ·subst S;have ak:news=[]:=List.eq_nil_of_length_eq_zero (by simpa using s);subst ak;have p:(Builtin.append_ #[t,u] ty #[a.eval x,a.eval y]).run P w=.ok (a.eval x) w:=by
    rw [R];have:=x_ (P:=P) (ty:=ty) (sCap:=cap) (sLen:=rows.length) (m:=0) (a:=⟨b,0,none⟩) (news:=[]) (w':=w) ht hu N M (by simpa using Q) (by rw [G]; simpa using O w (fun _ _ _=>rfl)) (by omega) (by simp [storeCells])
    simpa using this
   refine⟨_,w,a.eval x,j,jl,W _ _ p,.inl rfl, ?_, ?_,Ext.refl _, ?_⟩
   ·simpa using h1
   ·simp only [List.append_nil,cond_true];rw [af.kf H id _ bt]; exact hl
   ·simp only [List.append_nil,cond_true];rw [af.kf H id _ bt]; exact bM.refl _ _ _
  ·have aK:0<a_.length:=List.length_pos_iff.2 S;have aL:∀r∈rows++a_,r.length=k:=fun r hr=>(List.mem_append.1 hr).elim (aH r) (fun h=>by rw [q]; exact Y r h);by_cases aa:rows.length+a_.length<=cap
   ·-- in place
    have a6:w.heap[b]?=some (.cells B.toList.toArray ce (0,0)):=by simpa using hg
    obtain⟨w',a7,I⟩:=xU (av:=av) (P:=P) (off:=rows.length*f.size) news 0 B.toList w a6 (by
     rw [s]; simp only [Array.length_toList,Z]; rw [Nat.add_zero,<- Nat.add_mul,q]; exact Nat.mul_le_mul_right _ aa) (An U)
    rw [Nat.add_zero] at I;have p:(Builtin.append_ #[t,u] ty #[a.eval x,a.eval y]).run P w=.ok (.slice (some ⟨b,0,none⟩) (rows.length+a_.length) cap) w':=by
     rw [R];exact x_ ht hu N M Q (by rw [G]; exact O w fun _ _ _=>rfl) aa (by rw [add_plain,G,Nat.zero_add]; exact a7)
    have a8:bJ j id (.arr k rows)=some b:=by simp [bJ,aG]
    have ab:(rows++a_).length*k<=B.toList.length:=by
     rw [l]; simp only [Array.length_toList,Z]; exact Nat.mul_le_mul_right _ aa
    obtain⟨K,C⟩:=hl.Dp (w':=w') (a_:=rows++a_) bt (by rw [l]; omega) (b:=b) (cap:=cap) I.here (by simp [uc,Z]) (by rw [l]; exact aa) aL (by rw [l]; exact hlen) (fun x hx _=>I.other x hx)
     (by rw [I.size]; exact Nat.le_refl _) (by rw [I.size]; omega) (.inr a8) (fun j' hle=>by
      rw [List.flatten_append];have a9:(cN B.toList (rows.length*f.size) news).take ((rows++a_).length*k)=B.toList.take (rows.length*k)++news:=by
       refine List.ext_getElem? fun i=>?_;rw [List.getElem?_take];by_cases hi:i<rows.length*k
       ·rw [if_pos (by rw [l,Nat.add_mul]; omega),xZ _ _ _ _ (by rw [<- q]; exact hi),List.getElem?_append_left (by rw [List.length_take]; simp only [l,Nat.add_mul] at ab; omega),List.getElem?_take,if_pos hi]
       ·rw [List.getElem?_append_right (by rw [List.length_take]; omega)];have bl:(B.toList.take (rows.length*k)).length=rows.length*k:=by rw [List.length_take]; simp only [l,Nat.add_mul] at ab; omega
        rw [bl];by_cases ad:i<(rows++a_).length*k
        ·rw [if_pos ad];have aM:i-rows.length*k<news.length:=by rw [s,<- q]; rw [l,Nat.add_mul] at ad; omega
         have:=Av B.toList (rows.length*f.size) news (i-rows.length*k) _ (List.getElem?_eq_getElem aM) (by rw [s,<- q]; simp only [l,Nat.add_mul] at ab; exact ab);rw [<- q,show rows.length*k+(i-rows.length*k)=i by omega] at this;rw [<- q,this,List.getElem?_eq_getElem aM]
        ·rw [if_neg ad]
         symm; apply List.getElem?_eq_none; rw [s,<- q]; rw [l,Nat.add_mul] at ad; omega
      rw [a9];exact(aj.imp fun _ _ h=>h.mono hle).append (U.imp fun _ _ h=>h.mono hle)) I.os I.tape I.output
    rw [l] at C K;refine⟨_,w',_,_,jl,W _ _ p,.inl rfl, ?_,K,Ext.refl _,C⟩;refine aF.arr _ _ _ _ _ _ (Nat.lt_of_lt_of_le ai C.toLe.next) fun tk bt=>?_;simp only [J.cG,if_true,Option.some.injEq] at bt;subst bt;exact⟨Nat.le_refl _,fun _=>.inr ⟨_,rfl,rfl,rfl⟩⟩
   ·-- a new array
    obtain⟨olds,holds,ar⟩:∃olds,olds=B.toList.take (rows.length*k)/\olds.length=rows.length*f.size:=⟨_,rfl,by
     have a':B.toList.length=cap*k:=by simpa using Z
     have:=Nat.mul_le_mul_right k a3;rw [List.length_take,a',<- q];omega⟩
    rw [<- holds] at aj;have ba:(Builtin.firstCells f.size rows.length (.slice (some ⟨b,0,none⟩) rows.length cap)).run P w.drew=.ok olds.toArray w.drew:=by
     rw [Builtin.firstCells,<- ar];exact run_loadCells_list w.drew _ olds fun n v hv=>by
      rw [add_plain,Nat.zero_add];have:w.drew.cell? ⟨b,n,none⟩=w.cell? ⟨b,n,none⟩:=rfl;rw [this,cell_of_row w b n B ce (0,0) hg];rw [holds,List.getElem?_take] at hv
      split at hv
      ·simpa using hv
      ·cases hv
    have p:=C_ (P:=P) (ty:=ty) (w:=w) (base:=some ⟨b,0,none⟩) (sLen:=rows.length) (sCap:=cap) (m:=a_.length) (x:=a.eval y) (olds:=olds) (news:=news) ht hu N M aC Q
     (by rw [G]; exact ba) (by rw [G]; exact O w.drew fun _ _ _=>rfl) (by omega) (by omega) (growslice_fits (by omega) (by rw [az]; exact ax))
    rw [<- R] at p;generalize al:grownCap w (rows.length+a_.length) cap e=E at p;have am:rows.length+a_.length<=E:=by rw [<- al]; exact grownCap_ge _ _ _ _
    generalize X:olds++news++(Builtin.zeroCells zv.cells (E-(rows.length+a_.length))).toList=F at p;have an:F.length=E*f.size:=by
     rw [<- X];simp only [List.length_append,ar,s,Array.length_toList,size_zeroCells,aD,<- Nat.add_mul]
     congr 1; omega
    have ao:=heap_alloc_new w.drew (.cells F.toArray e);obtain⟨K,C⟩:=hl.drew.Dp (w':=w.drew.alloc (.cells F.toArray e)) (a_:=rows++a_) bt (by rw [l]; omega) (b:=w.heap.size) (cap:=E) ao (by rw [q]; exact an) (by rw [l]; exact am) aL (by rw [l]; exact hlen)
     (fun x hx bl=>rC bl) (by simp) (by simp) (.inl (Nat.le_refl _)) (fun j' hle=>by
      have ap:F.take ((rows++a_).length*k)=olds++news:=by rw [<- X,List.take_left' (by rw [List.length_append,ar,s,l,q,Nat.add_mul])]
      rw [ap,List.flatten_append];have aP:=(bM.drew j w (fun _=>False)).toLe;exact(aj.imp fun _ _ h=>(h.mono aP).mono hle).append (U.imp fun _ _ h=>(h.mono aP).mono hle)) rfl rfl gb.rfl
    rw [l] at C K;refine⟨_,_,_,_,jl,W _ _ p,.inl rfl, ?_,K,Ext.refl _,(bM.drew j w _).trans C⟩;refine aF.arr _ _ _ _ _ _ (Nat.lt_of_lt_of_le ai C.toLe.next) fun tk bt=>?_;simp only [J.cG,if_true,Option.some.injEq] at bt;subst bt;exact⟨Nat.le_refl _,fun _=>.inr ⟨_,rfl,rfl,rfl⟩⟩
end
section
variable {P:Program}{ts:Ts}{ls:List (List D)}{h:af}{dst:Option Tmp}{ty:TypeId}{pos:String}{aI:Array Edge}{g:Option (Nat×Bool)}{α:Type}{f:α->List D}
theorem aq.Ds {t u e:TypeId}{j p b:TI}{x y:Operand}{id k k' m:Nat}{nl:Bool}{tok':Option Nat}{s r v:Sl α}{z:A}(q:aX P t=some j) (hk:j.k=.slice e) (w:aX P e=some b) (B:aX P u=some p) (C:∃e,p.k=.slice e)
  (hz:b.zero=some z) (E:(ct z).length=b.size) (hx:ev ts x=.a (.d (.arr k id nl m))) (F:ev ts y=.a (.d (r.d k' f tok'))) (G:k=b.size) (H:k'=b.size)
  (bt:h id=some (.arr k (s.l.map f))) (hm:m=s.l.length) (I:nl=s.nl) (hr:bf b.bytes s r=some v) :
  aq P (mk dst (.call { callee:=.builtin .append,args:=#[x,y],argTypes:=#[t,u] }) ty pos aI g) ts ls h { rh:=true,wh:=true } (.a (.d (.arr k id v.nl v.l.length))) ls (h.set id (some (.arr k (v.l.map f)))):=by
 obtain⟨e,h1,J⟩:=AF hr;subst e I;have:=aq.OV (av:=av) (P:=P) (dst:=dst) (ty:=ty) (pos:=pos) (aI:=aI) (g:=g) (ls:=ls) q hk w B (.inl C) hz E hx F G (.inl H) bt (by simpa using hm) (by simpa using h1) (by simpa using J);simp only [List.length_map,List.isEmpty_map] at this;rw [<- List.map_append] at this
 simpa using this
variable {c:Code}{Q:Exit->St->Prop}{n:Nat}{ops:Array Oper}{rest:List Oper}{Q':St->Prop}
theorem ah.rQ (k:Nat) (hw:∀t,h t=none->ah P c Q ⟨n,ts,ls,h.set t (some (.arr k []))⟩):ah P c Q ⟨n,ts,ls,h⟩:=by
 intro j w jl a b;obtain⟨h1,f⟩:=b.hl.OR k;have g:=b.hl.1.lV (Nat.le_refl _);refine wp_mono (hw j.next g j.eb w jl a ⟨b.defers,b.size,fun i=>(b.tmps i).mono f.toLe (Ext.refl _),h1⟩) fun e a w hq=>AQ.trans f hq
theorem Hp {j:J}{w:World}{h:af}{t k b f:Nat}(hh:fu j w h) (ht:h t=some (.arr k [])){cv:Value}(hx:aF j w (.slice b none true []) cv):aF j w (.arr f t true 0) cv:=by
 cases hx;obtain⟨h0,dM,h1,g,_⟩:=hh.obj _ _ ht;have l:=g.2 rfl;refine .arr _ _ _ _ _ _ h0 fun tk bt=>?_;rw [h1] at bt; simp only [Option.some.injEq] at bt; subst bt;exact⟨by simp,fun _=>.inl ⟨l,rfl,rfl⟩⟩
theorem aJ.AJ (s k t:Nat){f:Nat}(g:get ts s=.a (.d (.slice f none true []))) (ht:h t=some (.arr k []))
  (hw:aJ P ops rest Q' ⟨n,(s,.a (.d (.arr k t true 0)))::ts,ls,h⟩):aJ P ops rest Q' ⟨n,ts,ls,h⟩:=by
 intro j w jl a b;refine hw j w jl a ⟨b.defers,b.size,fun i=>?_,b.hl⟩;by_cases e:s=i
 ·subst e;show bp _ _ _ (get ((s,_)::ts) s) _;rw [gh];have hv:bp j w jl (get ts s) (a.tmps.getD s undef):=b.tmps s;rw [g] at hv;exact Hp b.hl.1 ht hv
 ·show bp _ _ _ (get ((s,_)::ts) i) _;rw [gZ _ _ e];exact b.tmps i
theorem aJ.vJ {d:Nat}{t e:TypeId}{b:TI}{x:Operand}{cm:Array TypeId}{k k' id m:Nat}{nl:Bool}{l:List α}(p:aX P t=some b) (hk:b.k=.slice e) (bQ:cm[0]?=some t) (hx:ev ts x=.a (.d (.arr k' id nl m)))
  (hh:h id=some (.arr k (l.map f))) (hm:m=l.length) (q:Nat.blt d n=true)
  (hr:l.length<=140737488355328->aJ P ops rest Q' ⟨n,(d,.a (.d (.int .i64 (m:Int))))::ts,ls,h⟩) :
  aJ P ops (⟨some d,.call { callee:=.builtin .len,args:=#[x],argTypes:=cm },ty,pos,aI,none⟩::rest) Q' ⟨n,ts,ls,h⟩:=by
 intro j w jl a g r s;have hlen:l.length<=140737488355328:=by
  obtain⟨_,_,_,_,_,u,_⟩:=g.hl.1.obj id _ hh
  simpa [cC] using u
 exact aJ.s0 (aq.Hl p hk bQ hx) q (hr hlen) j w jl a g r s
theorem aJ.OW (s k t:Nat){f:Nat}(g:get ts s=.full f []) (ht:h t=some (.arr k []))
  (hw:aJ P ops rest Q' ⟨n,(s,.a (.d (.arr k t false 0)))::ts,ls,h⟩):aJ P ops rest Q' ⟨n,ts,ls,h⟩:=by
 intro j w jl a b;refine hw j w jl a ⟨b.defers,b.size,fun i=>?_,b.hl⟩;by_cases e:s=i
 ·subst e;show bp _ _ _ (get ((s,_)::ts) s) _;rw [gh];have hv:bp j w jl (get ts s) (a.tmps.getD s undef):=b.tmps s;rw [g] at hv;obtain⟨_,p,hv⟩:=hv;show aF j w (.arr k t false 0) (a.tmps.getD s undef);rw [hv];obtain⟨h0,dM,h1,l,_⟩:=b.hl.1.obj _ _ ht;have m:=l.2 rfl;refine aF.arr _ _ _ _ _ _ h0 fun tk bt=>?_;rw [h1] at bt; simp only [Option.some.injEq] at bt; subst bt;exact⟨by simp,fun _=>.inl ⟨m,rfl,rfl⟩⟩
 ·show bp _ _ _ (get ((s,_)::ts) i) _;rw [gZ _ _ e];exact b.tmps i
end
def Sl.Hq {α:Type}(s:Sl α) (i:Nat) (x:α):Sl α:=⟨s.nl,s.l.set i x⟩
end Go.Ab
/-
 A function that lays one deferred call and returns: the deferred closure is called behind the body,then the results are read. No program text.
-/
namespace Go.Ab
open Go Go.RowKit
variable {av:bR}
structure p_ [bR] (P:Program) (f:FuncId) (args:List A) (h:af) (cZ:V->af->Prop):Prop where
 enter:∀(dc:Array Value) (w:World),(callFunc f dc).run P w=.ok (.enter f dc) w
 runs:∀(j:J) (w:World) (dc:List Value),fu j w h->aQ (dw j w) args dc->∀u,CallsD P f dc.toArray u w fun e u' w'=>u'=u /\
  ∃r cv j' h',e=.returned cv/\cZ r h'/\bp j' w' [] r cv/\fu j' w' h'/\bM j w (aU j h []) j' w' (aU j' h' [])
theorem Hr {j:J}{w:World}{h:af}{fn:Func}{n:Nat}(hn:fn.ntmps=n){args:List A}{dc:List Value}(hl:Nat.ble args.length n=true) (hr:fu j w h) (b:aQ (dw j w) args dc) :
  gB j w [] ⟨n,pZ 0 args,[],h⟩ { tmps:=dc.toArray++Array.replicate (fn.ntmps-dc.toArray.size) undef,defers:=[] }:=by
 subst hn;have hl:=Nat.le_of_ble_eq_true hl;have hlen:=b.length;refine⟨rfl,by simp; omega,fun t=>?_,⟨hr,⟨.nil,by simp,by simp⟩⟩⟩;refine CY (fun t=>(dc.toArray++Array.replicate (fn.ntmps-dc.toArray.size) undef).getD t undef) 0 args dc b (fun i v hv=>?_) t;rw [Nat.zero_add,Array.getD_eq_getD_getElem?,Array.getElem?_append];have:i<dc.length:=(List.getElem?_eq_some_iff.1 hv).1;simp [this]
 exact(List.getElem?_eq_some_iff.1 hv).2
theorem p_.of_wp {P:Program}{T:List TI}(fw:ng P T){f:FuncId}{fn:Func}{c:Code}{args:List A}{h:af}{cZ:V->af->Prop}(m:∀(dc:Array Value) (w:World),(callFunc f dc).run P w=.ok (.enter f dc) w) (p:P.funcs[f]?=some fn) (q:fn.body=some c){n:Nat}(hn:fn.ntmps=n){rs:List ResultVar}(s:fn.results.toList=rs) (hl:Nat.ble args.length n=true)
  (hw:ah P c (bH T rs cZ) ⟨n,pZ 0 args,[],h⟩):p_ P f args h cZ:=by
 refine⟨m,fun j w dc hr t u=>?_⟩;refine callsD_of_wp p q (wp_mono (hw j w [] _ (Hr hn hl hr t)) ?_);rintro e J w' ⟨K,j',L,⟨he,xs,h',y,z,B⟩,b,C⟩;obtain⟨v,hv,E⟩:=GK (P:=P) fw b s y;obtain⟨F,G⟩:=b.hl.trim 0;obtain⟨H,I⟩:=F.forget z;have l:∃r cv g k,Ending.returned v=.returned cv/\cZ r k/\bp g w' [] r cv/\fu g w' k/\bM j w (aU j h []) g w' (aU g k []) :=
  ⟨nh xs,v,j',h',rfl,B,E,H.1,(C.trans G).trans I⟩
 rcases he with he|he<;>subst he
 ·exact⟨b.defers,v,hv,l⟩
 ·exact⟨b.defers,v,hv,l⟩
def gw [bR] (P:Program) (c Y:Code) (M:St->Prop) (σ:St):Prop :=
 ∀(f:Exit->Act->World->Prop) (j:J) (w:World) (jl:List Nat) (a:Act),gB j w jl σ a ->
  (∀b j' w' g k,M b->gB j' w' g b k->bM j w (aU j σ.h jl) j' w' (aU j' b.h g)->Y.wp P f k w')->c.wp P f a w
section
variable {P:Program}{M:St->Prop}{σ:St}{Y:Code}
theorem gw.done (h:M σ):gw P Y Y M σ:=fun _ _ _ _ _ b hk=>hk _ _ _ _ _ h b (bM.refl _ _ _)
theorem gw.ar {x y:Code}(h:∀K:St->Prop,(∀σ,gw P y Y M σ->K σ)->ah P x (lX K fun _ _=>False) σ):gw P (.seq x y) Y M σ:=by
 intro b j w jl a f hk;refine wp_seq (wp_mono (h (gw P y Y M) (fun _ h=>h) j w jl a f) ?_);rintro e g w' ⟨z,j',k,hq,l,m⟩;cases e with
 | normal=>exact hq b j' w' k g l fun p q r s a2 t u v=>hk p q r s a2 t u (m.trans v)
 | exit _=>exact hq.elim
 | goto _=>exact hq.elim
 | ret=>exact hq.elim
 | panic _=>exact hq.elim
 | outgrown=>exact hq.elim
theorem gw.ua {c:Code}{b:St}(hw:ck σ b) (h:gw P c Y M b):gw P c Y M σ:=by
 intro f j w jl a g hk;obtain⟨j',k,l,m⟩:=hw j w jl a g;exact h f j' w k a l fun p q r s a2 t u v=>hk p q r s a2 t u (m.trans v)
theorem gw.freeze {c:Code}{n:Nat}{ts:Ts}{ls:List (List D)}{h:af}{b:Ts}{aV:List (List D)}{xs:List D}(s i:Nat) (f:get ts s=.c_ i 0) (hl:ee xs aV i ls) (hk:dN ts i b) (hw:gw P c Y M ⟨n,(s,.a (.d (.view xs)))::b,aV,h⟩):gw P c Y M ⟨n,ts,ls,h⟩ :=
 gw.ua (ck.freeze s i f hl hk) hw
end
def OX [bR] (P:Program) (T:List TI) (rs:List ResultVar) (g:FuncId) (cD:List D) (cZ:V->af->Prop):Exit->St->Prop:=fun e σ =>
 (e=.normal\/e=.ret)/\p_ P g (cD.map .d) σ.h fun _ h'=>∃xs b,p4 T { σ with h:=h' } rs=some xs/\(∀id o,b id=some o->h' id=some o)/\cZ (nh xs) b
def OY [bR] (P:Program) (T:List TI) (rs:List ResultVar) (g:FuncId) (cD:List Operand) (b:Nat) (Z:Code) (cZ:V->af->Prop):St->Prop:=fun σ =>
 ∃xs,ud σ.ts cD=some xs/\Nat.blt b σ.n=true/\∀fS:eT,@ah _ fS P Z (OX P T rs g xs cZ) ⟨σ.n,(b,.any)::σ.ts,σ.ls,σ.h⟩
theorem HL.called {j j':J}{w w':World}{jl:List Nat}{ls:List (List D)}{h h':af}(hl:HL j w jl ls h) (hh:fu j' w' h') (k:bM j w (aU j h []) j' w' (aU j' h' [])) :
  HL j' w' jl ls h'/\bM j w (aU j h jl) j' w' (aU j' h' jl):=by
 have l:∀b,b∈jl->b<w.heap.size:=fun b f=>aU.lt hl (.inl f);have m:∀b,b∈jl->w'.heap[b]?=w.heap[b]?/\j'.F b=j.F b:=fun b f=>k.frame b (l b f) (hl.2.apart b f);refine⟨⟨hh,⟨pW hl.2.each fun xs b f h=>h.keep k.toLe (m b f),hl.2.nodup,fun b f g=>hl.2.apart b f (k.own b (l b f) g)⟩⟩, ?_⟩;refine { k with frame:=fun b f hn=>k.frame b f (fun g=>hn ?_),own:=fun b f g=>?_ }
 ·rcases g with g|g
  ·simp at g
  ·exact .inr g
 ·rcases g with g|g
  ·exact .inl g
  ·rcases k.own b f (.inr g) with h|h
   ·simp at h
   ·exact .inr h
theorem AC.OZ {P:Program}{T:List TI}(fw:ng P T){f:FuncId}{fn:Func}{c:Code}{args:List A}{h:af}{cZ:V->af->Prop}(U:∀(dc:Array Value) (w:World),(callFunc f dc).run P w=.ok (.enter f dc) w) (W:P.funcs[f]?=some fn) (X:fn.body=some c){n:Nat}(hn:fn.ntmps=n){rs:List ResultVar}(Y:fn.results.toList=rs) (hl:Nat.ble args.length n=true)
  {aa b:Nat}{g:FuncId}{cD:Array Operand}{Z:Code}{C E:TypeId}{F G:String}{H I:Array Edge}{cm:Array TypeId}
  (hw:gw P c (.seq (.region aa #[⟨some b,.makeFunc (.func g) #[] cD,C,F,H,none⟩,⟨none,.defer { callee:=.value (.tmp b),args:=#[],argTypes:=cm },E,G,I,none⟩] false) Z) (OY P T rs g cD.toList b Z cZ) ⟨n,pZ 0 args,[],h⟩):AC P f args h cZ:=by
 refine⟨U,fun j w dc hr ab=>?_⟩;refine calls_of_wp_defers W X (hw _ j w [] _ (Hr hn hl hr ab) fun σ q l s a1 ad p ae=>?_);obtain⟨xs,hx,J,ag⟩:=ad;have L:=Ar (j:=q) (w:=l) (jl:=s) (act:=a1) cD.toList xs hx fun x _=>oy p.tmps x;have ai:b<a1.tmps.size:=by rw [p.size]; simpa [Nat.blt_eq] using J
 have aj:a1.defers=[]:=p.defers;refine wp_seq (wp_region_lit ?_);refine wpList_step fun K ak=>?_;rw [if_pos (rD rfl)];unfold Oper.wp;have al:(execOp a1.eval ⟨some b,.makeFunc (.func g) #[] cD,C,F,H,none⟩).run P l=.ok (.value (.func (.func g) #[] (cD.toList.map a1.eval).toArray)) l:=by
  simp [execOp,Instr.makeFunc]
  apply Array.ext'; simp
 rw [al,Oper.upon_value];refine ak _ _ ?_;refine wpList_step fun aX am=>?_;rw [if_pos (rD rfl)];unfold Oper.wp;have an:(a1.put (some b) (.func (.func g) #[] (cD.toList.map a1.eval).toArray)).eval (.tmp b)=.func (.func g) #[] (cD.toList.map a1.eval).toArray:=by
  show (a1.put (some b) _).tmps.getD b undef=_;simp [Act.put,Array.getD_eq_getD_getElem?,ai]
 have ao:(execOp (a1.put (some b) (.func (.func g) #[] (cD.toList.map a1.eval).toArray)).eval ⟨none,.defer { callee:=.value (.tmp b),args:=#[],argTypes:=cm },E,G,I,none⟩).run P l=.ok (.defer { target:=.fn (.func g) (cD.toList.map a1.eval).toArray,args:=#[] }) l:=by
  simp only [execOp,resolve,an,Deferred.ofValue,Sem.run_bind,Sem.run_pure,Result.andThen];simp
 rw [ao,Oper.upon_defer];refine am _ _ ?_;show Code.wp P _ _ _ l;have t:=p.put (Le.refl q l) (Ext.refl s) (dst:=some b) (On J) (v:=.any) (cv:=.func (.func g) #[] (cD.toList.map a1.eval).toArray) trivial p.hl;have ap:(a1.put (some b) (Value.func (.func g) #[] (cD.toList.map a1.eval).toArray)).defers=[]:=by rw [put_defers]; exact aj
 have ar:=t.size;have au:=t.tmps;have av:=t.hl
 let fS:eT:=⟨[{ target:=.fn (.func g) (cD.toList.map a1.eval).toArray,args:=#[] }]⟩
 have hz:=ag fS;refine wp_mono (hz q l s _ ⟨?_,ar,au,av⟩) ?_
 ·show _::_=_;rw [ap]; rfl
 ·rintro e a4 M ⟨u,aw,ax,⟨he,N⟩,m,O⟩;have ay:a4.defers=[{ target:=.fn (.func g) (cD.toList.map a1.eval).toArray,args:=#[] }]:=m.defers;have az:Leaves P fn a4.tmps (fun e w'=>∃r cv j' h',e=.returned cv/\cZ r h'/\bp j' w' [] r cv/\fu j' w' h'/\bM j w (aU j h []) j' w' (aU j' h' [])) a4.defers .returning M:=by
   rw [ay];refine leaves_cons (f:=g) (args:=(cD.toList.map a1.eval).toArray) (by simp) (by rw [invoke,Array.empty_append]; exact N.enter _ _) ?_;refine(N.runs aw M _ m.hl.1 (aQ.jf (by rw [List.length_map]; exact L.length) fun i x y hx aB=>?_) .returning).mono ?_
   ·rw [List.getElem?_map] at hx;cases e:xs[i]? with
    | none=>rw [e] at hx; simp at hx
    | some z =>
     rw [e] at hx; simp at hx; subst hx;obtain⟨aY,B,hr⟩:=L.get e;rw [aB] at B;simp only [Option.some.injEq] at B;subst B;exact hr.mono O.toLe
   ·rintro aZ a0 aC ⟨rfl,r,cv,Q,aD,rfl,⟨aE,aF,aG,aH,aI⟩,hv,hh,R⟩;obtain⟨S,aK⟩:=m.hl.called hh R;have aL:@gB fS Q aC ax ⟨u.n,u.ts,u.ls,aD⟩ a4:=⟨m.defers,m.size,fun k=>(m.tmps k).mono R.toLe (Ext.refl _),S⟩;obtain⟨v,aM,aP⟩:=GK (P:=P) fw aL Y aG;obtain⟨aR,aT⟩:=S.trim 0;obtain⟨aV,aW⟩:=aR.forget aH;exact⟨v,aM,nh aE,v,Q,aF,rfl,aI,aP,aV.1,((((ae.trans O).trans aK).trans aT).trans aW)⟩
  rcases he with he|he<;>subst he<;>exact az
end Go.Ab
namespace Go.Ab
open Go Go.RowKit
variable {av:bR}
def V.shift (i:Nat):V->V
 | .c_ q off=>bif Nat.beq q i then .any else bif Nat.blt i q then .c_ (q-1) off else .c_ q off
 | .iB c q off=>bif Nat.beq q i then .any else bif Nat.blt i q then .iB c (q-1) off else .iB c q off
 | v=>v
def uo (i:Nat):Ts->Ts
 | []=>[]
 | (k,v)::r=>(k,v.shift i)::uo i r
theorem Hs (i:Nat):∀(ts:Ts) (k:Nat),get (uo i ts) k=(get ts k).shift i
 | [],_=>rfl
 | (k',v)::r,k=>by
  simp only [uo];by_cases e:k'=k
  ·subst e; rw [gh,gh]
  ·rw [gZ _ _ e,gZ _ _ e,Hs i r k]
theorem get_erase {α:Type}{l:List α}{i a:Nat}(h:a≠i):(l.eraseIdx i)[if i<a then a-1 else a]?=l[a]?:=by
 rw [List.getElem?_eraseIdx];by_cases c:i<a
 ·rw [if_pos c,if_neg (by omega)]; congr 1; omega
 ·rw [if_neg c,if_pos (by omega)]
theorem O3 {α β:Type}{R:α->β->Prop}{l:List α}{m:List β}(h:aQ R l m):∀(i:Nat),aQ R (l.eraseIdx i) (m.eraseIdx i):=by
 induction h with
 | nil=>intro i; exact .nil
 | cons x t b =>
  intro i;cases i with
  | zero=>exact t
  | succ i=>exact .cons x (b i)
theorem V.O4 (i q off:Nat):V.shift i (.c_ q off)=bif Nat.beq q i then .any else .c_ (if i<q then q-1 else q) off:=by
 show (bif Nat.beq q i then V.any else bif Nat.blt i q then .c_ (q-1) off else .c_ q off)=_;cases c:Nat.blt i q
 ·rw [if_neg (fun h=>by rw [show Nat.blt i q=true by simpa [Nat.blt_eq] using h] at c; cases c)]; rfl
 ·rw [if_pos (by simpa [Nat.blt_eq] using c)]; rfl
theorem V.O5 (i:Nat) (g:Bool) (q off:Nat):V.shift i (.iB g q off)=bif Nat.beq q i then .any else .iB g (if i<q then q-1 else q) off:=by
 show (bif Nat.beq q i then V.any else bif Nat.blt i q then .iB g (q-1) off else .iB g q off)=_;cases c:Nat.blt i q
 ·rw [if_neg (fun h=>by rw [show Nat.blt i q=true by simpa [Nat.blt_eq] using h] at c; cases c)]; rfl
 ·rw [if_pos (by simpa [Nat.blt_eq] using c)]; rfl
theorem bp.shift {j:J}{w:World}{jl:List Nat}{i:Nat}{v:V}{cv:Value}(h:bp j w jl v cv):bp j w (jl.eraseIdx i) (v.shift i) cv:=by
 cases v with
 | c_ q off =>
  rw [V.O4];cases c1:Nat.beq q i
  ·obtain⟨b,f,e⟩:=h;exact⟨b,by rw [get_erase (Nat.ne_of_beq_eq_false c1)]; exact f,e⟩
  ·exact True.intro
 | iB c q off =>
  rw [V.O5];cases c1:Nat.beq q i
  ·refine⟨fun hc=>?_,h.2⟩;obtain⟨b,f,e⟩:=h.1 hc;exact⟨b,by rw [get_erase (Nat.ne_of_beq_eq_false c1)]; exact f,e⟩
  ·exact True.intro
 | any=>exact True.intro
 | a x=>exact h
 | cI xs=>exact h
 | gd c x=>exact h
 | full k rows=>exact h
 | rB c k rows=>exact h
theorem ck.Dt {fS:eT}{n:Nat}{ts:Ts}{ls:List (List D)}{h:af}{xs:List D}(s i:Nat) (y:get ts s=.c_ i 0) (hx:ls[i]?=some xs) :
  ck ⟨n,ts,ls,h⟩ ⟨n,(s,.a (.d (.view xs)))::uo i ts,ls.eraseIdx i,h⟩:=by
 intro j w jl a m;have f:=m.hl;obtain⟨b,l,z⟩:∃b,jl[i]?=some b/\a.tmps.getD s undef=.pointer (some ⟨b,0,none⟩):=by
  have:=m.tmps s;have this:bp j w jl (get ts s) (a.tmps.getD s undef):=this;rw [y] at this; exact this
 obtain⟨xs',q,cs,N,u,B,C⟩:∃xs',ls[i]?=some xs'/\jA j w b xs':=f.2.each.get' l;rw [hx] at q; simp only [Option.some.injEq] at q; subst q;have bl:=jB u;have E:b∉jl.eraseIdx i:=by
  intro hm;obtain⟨k,G,p⟩:=List.getElem_of_mem hm;have h0:(jl.eraseIdx i)[k]?=some b:=by rw [List.getElem?_eq_getElem G,p]
  rw [List.getElem?_eraseIdx] at h0;have hi:i<jl.length:=(List.getElem?_eq_some_iff.1 l).1;by_cases c:k<i
  ·rw [if_pos c] at h0;have r:=(List.getElem?_inj (by omega) f.2.nodup).1 (h0.trans l.symm);omega
  ·rw [if_neg c] at h0;have hk:k+1<jl.length:=(List.getElem?_eq_some_iff.1 h0).1;have r:=(List.getElem?_inj hk f.2.nodup).1 (h0.trans l.symm);omega
 have v:∀x,x∈jl.eraseIdx i->x∈jl:=fun x hm=>List.mem_of_mem_eraseIdx hm;have H:∀x,aU j h (jl.eraseIdx i) x->aU j h jl x:=fun x g=>g.elim (fun hm=>.inl (v x hm)) .inr;have I:¬aU j h (jl.eraseIdx i) b:=by
  rintro (hm|⟨id,o,h1,r⟩)
  ·exact E hm
  ·exact f.2.apart b (List.mem_of_getElem? l) (.inr ⟨id,o,h1,r⟩)
 have K:HL j w (jl.eraseIdx i) (ls.eraseIdx i) h:=⟨f.1,⟨O3 f.2.each i,f.2.nodup.eraseIdx i,fun x hm g=>f.2.apart x (v x hm) g⟩⟩;have hle:Le j w (j.eG b xs.length) w:=⟨Nat.le_refl _,fun _ _=>rfl,fun b'=>by
  simp only [J.eG]
  split
  ·rename_i e; rw [e,C]; exact Nat.zero_le _
  ·exact Nat.le_refl _,fun _ _ _=>rfl,fun _ _=>.inl rfl,fun _ _ _ _ _ h=>h⟩
 have t:∀b',b'≠b->(j.eG b xs.length).F b'=j.F b':=fun b' L=>by simp only [J.eG]; rw [if_neg L]
 have p:=K.keep hle (fun b' g=>⟨rfl,t b' (fun e=>I (e▸g))⟩) (fun _ _ _=>rfl) (fun b' M=>by rw [t b' (by omega)]; exact f.1.fresh b' M);refine⟨j.eG b xs.length,jl.eraseIdx i,⟨m.defers,m.size,fun k=>?_,p.1⟩, ?_⟩
 ·by_cases e:s=k
  ·subst e;show bp _ _ _ (get ((s,_)::uo i ts) s) _;rw [gh,z];exact Di (n:=0) u (B.imp fun _ _ h=>h.mono hle) (by simp [J.eG])
  ·show bp _ _ _ (get ((s,_)::uo i ts) k) _;rw [gZ _ _ e,Hs];have hv:bp j w jl (get ts k) (a.tmps.getD k undef):=m.tmps k;exact(hv.shift (i:=i)).mono hle (Ext.refl _)
 ·refine { toLe:=hle,size:=Nat.le_refl _,frame:=fun b' _ g=>⟨rfl,t b' fun e=>g (.inl (e▸List.mem_of_getElem? l))⟩,own:=fun b' _ g=>H b' ((p.2 b').1 g),os:=rfl,tape:=rfl,output:=gb.rfl }
theorem ah.Dt {fS:eT}{P:Program}{c:Code}{Q:Exit->St->Prop}{n:Nat}{ts:Ts}{ls:List (List D)}{h:af}{xs:List D}(s i:Nat) (b:get ts s=.c_ i 0) (hx:ls[i]?=some xs)
  (hw:ah P c Q ⟨n,(s,.a (.d (.view xs)))::uo i ts,ls.eraseIdx i,h⟩):ah P c Q ⟨n,ts,ls,h⟩:=ah.ua (ck.Dt s i b hx) hw
theorem ah.O6 {fS:eT}{P:Program}{Q:Exit->St->Prop}{n:Nat}{jD ts:Ts}{ls:List (List D)}{h:af}{α:Type}{x y:Code}(_:fT jD ts) (over:α->Ts) (lo:α->List (List D)) (hh:α->af) (pre:α->Prop)
  (hx:∀K:St->Prop,(∀b y,ck b ⟨n,over y++ts,lo y,hh y⟩->pre y->K b)->(∀b,ah P y Q b->K b)->ah P x (lX K Q) ⟨n,jD,ls,h⟩) (f:∀z,pre z->ah P y Q ⟨n,over z++ts,lo z,hh z⟩):ah P (.seq x y) Q ⟨n,jD,ls,h⟩:=by
 exact ah.seq (hx (ah P y Q) (fun b z h1 g=>ah.ua h1 (f z g)) fun b h=>h)
end Go.Ab
namespace Go.Ab
variable {av:bR}
theorem p_.mono {P:Go.Program}{f:Go.FuncId}{args:List A}{h:af}{cZ b:V->af->Prop}(hc:p_ P f args h cZ) (g:∀r h',cZ r h'->b r h'):p_ P f args h b :=
 ⟨hc.enter,fun j w dc hr k u=>(hc.runs j w dc hr k u).mono fun _ _ _ ⟨l,r,cv,j',h',e,p,rest⟩=>⟨l,r,cv,j',h',e,g r h' p,rest⟩⟩
theorem gw.jR {P:Go.Program}{M:St->Prop}{c Y:Go.Code}{n:Nat}{ts:Ts}{ls:List (List D)}{h h':af}(e:h=h') (hw:gw P c Y M ⟨n,ts,ls,h'⟩):gw P c Y M ⟨n,ts,ls,h⟩:=by subst e; exact hw
end Go.Ab
/-
 Arrays that are built at once and then only read.
-/
namespace Go.Ab
open Go Go.RowKit
variable {av:bR}
def Du (n k:Nat) (e:TypeId):List (Nat×TypeId):=(List.range n).map fun i=>(i*k,e)
section
variable {P:Program}{T:List TI}{ts:Ts}{ls:List (List D)}{h:af}{dst:Option Tmp}{ty:TypeId}{pos:String}{aI:Array Edge}{g:Option (Nat×Bool)}
theorem aq.O7 (fw:ng P T){t e:TypeId}{n:Nat}{f b:TI}{k l:List D}{parts:Array (Nat×Operand)}{ps:List (Nat×A)}(hu:P.underlying t=some (.array n e)) (y:T[t]?=some f) (s:T[e]?=some b) (hz:f.zero=some (.agg k))
  (z:rI ts parts.toList=some ps) (B:vB T (Du n b.size e) k ps=some l):aq P (mk dst (.build t parts) ty pos aI g) ts ls h {} (.a (.agg l)) ls h :=
 aq.dS fun j w jl a C=>by
  have hr:=Aw (j:=j) (w:=w) (jl:=jl) (act:=a) parts.toList ps z fun x hx=>C x (by simp [Op.operands] at hx ⊢; exact hx);have E:=fw t f y;obtain⟨inf,d,h1,_,_,_,_,u⟩:=gj E;rw [hz] at u;obtain⟨zv,F,G⟩:=nc u;obtain⟨m,H,I⟩:=Dc (j:=j) (w:=w) (T:=T) (fs:=Du n b.size e) (place:=fun i=>some (i*b.size,b.size)) (fun i o K L hi v=>by
   unfold Du at hi;rw [List.getElem?_map] at hi;cases r:(List.range n)[i]? with
   | none=>rw [r] at hi; cases hi
   | some q =>
    rw [r] at hi;simp only [Option.map_some,Option.some.injEq,Prod.mk.injEq] at hi;obtain⟨rfl,rfl⟩:=hi;rw [s] at v; cases v;have:=(List.getElem?_eq_some_iff.1 r).2;rw [List.getElem_range] at this;rw [this]) ps _ k l zv.cells B hr (G j w).cells
  refine⟨.agg m, ?_,⟨m.toList,by simp,I⟩⟩;have J:(Instr.build t (parts.map fun(i,x)=>(i,a.eval x))).run P w=.ok (.agg m) w:=by
   simp only [Instr.build,Sem.run_bind,zeroValue,typeInfo,run_program,h1,F,Result.andThen,Sem.run_pure,eV hu,kg (fw e b s)];have e:(Array.map (fun(x:Nat×Operand)=>(x.1,a.eval x.2)) parts).toList=parts.toList.map fun p=>(p.1,a.eval p.2):=by simp
   rw [e,H];simp
  simp only [execOp,Sem.run_bind,J,Result.andThen,Sem.run_pure]
end
end Go.Ab
/-
 Ranging over a set of strings: the map as it is,the iterator,its steps,delete.
-/
namespace Go.Ab
open Go Go.RowKit
variable {av:bR}{fS:eT}
def mE (p:List (List UInt8×Nat)):List MapEntry:=p.map fun x=>⟨.string ⟨x.1.toArray⟩,.bool true,x.2⟩
structure qa (l:List (List UInt8)) (p:List (List UInt8×Nat)) (bC:Nat):Prop where
 keys:p.map (·.1)=l
 nodup:(p.map (·.2)).Nodup
 AK:l.Nodup
 lt:∀x∈p,x.2<bC
 len:∀s∈l,s.length<=fJ
theorem Ht {p:List (List UInt8×Nat)}(h:((mE p).map (·.key)).Nodup):(p.map (·.1)).Nodup:=by
 have:(mE p).map (·.key)=(p.map (·.1)).map fun s=>Value.string ⟨s.toArray⟩:=by simp [mE,Function.comp_def]
 rw [this] at h;rw [List.nodup_iff_pairwise_ne,List.pairwise_map] at h;rw [List.nodup_iff_pairwise_ne];exact h.imp fun b e=>b (by rw [e])
theorem nodup_keys {p:List (List UInt8×Nat)}(h:(p.map (·.1)).Nodup):((mE p).map (·.key)).Nodup:=by
 have:(mE p).map (·.key)=(p.map (·.1)).map fun s=>Value.string ⟨s.toArray⟩:=by simp [mE,Function.comp_def]
 rw [this];rw [List.nodup_iff_pairwise_ne] at h ⊢;rw [List.pairwise_map];exact h.imp fun b e=>b (by
  have e:=Value.string.inj e
  simpa using e)
theorem Dv {j:J}{w:World}:∀{l:List (List UInt8)}{f:List MapEntry},aQ (k7 j w) (bK l) f->∃p,f=mE p/\p.map (·.1)=l/\∀s∈l,s.length<=fJ
 | [],f,h=>by cases h; exact⟨[],rfl,rfl,fun _ h=>by cases h⟩
 | s::l,f,h=>by
  cases h with
  | @cons _ m _ f h t =>
   obtain⟨p,g,q,r⟩:=Dv (l:=l) t;obtain⟨k,v,b⟩:=m;obtain⟨hk,hv⟩:=h;have hk:aF j w (.str s) k:=hk;have hv:aF j w (.bool true) v:=hv;cases hk with
   | str _ u =>
    cases hv;exact⟨(s,b)::p,by rw [g]; rfl,by simp [q],fun x hx=>(List.mem_cons.1 hx).elim (fun e=>e▸u) (r x)⟩
theorem Dw {j:J}{w:World}:∀(p:List (List UInt8×Nat)),(∀x∈p,x.1.length<=fJ)->aQ (k7 j w) (bK (p.map (·.1))) (mE p)
 | [],_=>.nil
 | x::p,h=>.cons ⟨aF.str _ (h x (.head _)),aF.bool _⟩ (Dw p fun y b=>h y (.tail _ b))
theorem aU.uq {j:J}{h:af}{c:Nat}{o o':Obj}(hc:h c=some o) (g:bJ j c o'=bJ j c o){jl:List Nat}{b:Nat}:aU j (h.set c (some o')) jl b↔aU j h jl b:=by
 constructor
 ·rintro (h1|⟨id,q,h1,f⟩)
  ·exact .inl h1
  ·by_cases e:id=c
   ·subst e; rw [af.aS] at h1; simp only [Option.some.injEq] at h1; subst h1;exact .inr ⟨id,_,hc,g▸f⟩
   ·rw [af.aO _ _ e] at h1; exact .inr ⟨id,q,h1,f⟩
 ·rintro (h1|⟨id,q,h1,f⟩)
  ·exact .inl h1
  ·by_cases e:id=c
   ·subst e; rw [hc] at h1; simp only [Option.some.injEq] at h1; subst h1;exact .inr ⟨id,_,af.aS _ _ _,g.symm▸f⟩
   ·exact .inr ⟨id,q,by rw [af.aO _ _ e]; exact h1,f⟩
theorem fu.uq {j:J}{w:World}{h:af}{c:Nat}{o o':Obj}(hr:fu j w h) (hc:h c=some o) (g:bJ j c o'=bJ j c o) (k:iC j w c o'):fu j w (h.set c (some o')):=by
 have key:∀id q,(h.set c (some o')) id=some q->∃f,h id=some f/\bJ j id q=bJ j id f:=by
  intro id q hq;by_cases e:id=c
  ·subst e; rw [af.aS] at hq; simp only [Option.some.injEq] at hq; subst hq;exact⟨_,hc,g⟩
  ·rw [af.aO _ _ e] at hq; exact⟨q,hq,rfl⟩
 refine⟨fun id q hq=>?_,fun jg o1 jh o2 b h1 l m p=>?_,hr.fresh⟩
 ·by_cases e:id=c
  ·subst e; rw [af.aS] at hq; simp only [Option.some.injEq] at hq; subst hq;exact⟨(hr.obj _ _ hc).1,k⟩
  ·rw [af.aO _ _ e] at hq; exact hr.obj _ _ hq
 ·obtain⟨v,r,s⟩:=key _ _ h1;obtain⟨y,t,u⟩:=key _ _ l;exact hr.inj _ _ _ _ b r t (s▸m) (u▸p)
section
variable {P:Program}{c:Code}{Q:Exit->St->Prop}{n:Nat}{ts:Ts}{ls:List (List D)}{h:af}
theorem ah.O8 (id:Nat){l:List (List UInt8)}(hi:h id=some (.map (bK l))) (hw:∀b p bC,qa l p bC->ah P c Q ⟨n,ts,ls,h.set id (some (.ea b (.map (mE p).toArray bC)))⟩):ah P c Q ⟨n,ts,ls,h⟩:=by
 intro j w jl a f;have hl:=f.hl;obtain⟨hn,b,m,v,bC,bt,hg,q,r,hB⟩:=hl.1.obj id _ hi;obtain⟨p,rfl,k,s⟩:=Dv q;have t:qa l p bC:=⟨k,by have:=hB.1; simpa [mE,Function.comp_def] using this,by rw [<- k]; exact Ht hB.2.2,fun x hx=>hB.2.1 _ (List.mem_map_of_mem hx),s⟩;have hblk:bJ j id (.ea b (.map (mE p).toArray bC))=bJ j id (.map (bK l)):=by simp [bJ,bt]
 refine wp_mono (hw b p bC t j w jl a ⟨f.defers,f.size,f.tmps,⟨hl.1.uq hi hblk ⟨m,bt,hg,r⟩,⟨hl.2.each,hl.2.nodup,fun b u g=>hl.2.apart b u ((aU.uq hi hblk).1 g)⟩⟩⟩) fun e a w hq=>AQ.trans ?_ hq;exact { bM.refl j _ (aU j h jl) with own:=fun b _ g=>(aU.uq hi hblk).1 g }
theorem ah.O9 (id:Nat){b bC:Nat}{p:List (List UInt8×Nat)}(hi:h id=some (.ea b (.map (mE p).toArray bC))) (f:qa (p.map (·.1)) p bC) (hw:ah P c Q ⟨n,ts,ls,h.set id (some (.map (bK (p.map (·.1)))))⟩):ah P c Q ⟨n,ts,ls,h⟩:=by
 intro j w jl a g;have hl:=g.hl;obtain⟨hn,l,bt,hg,q⟩:=hl.1.obj id _ hi;have hblk:bJ j id (.map (bK (p.map (·.1))))=bJ j id (.ea b (.map (mE p).toArray bC)):=by simp [bJ,bt]
 have hB:mY (mE p) bC:=⟨by have:=f.nodup; simpa [mE,Function.comp_def] using this,(fun m hm=>by obtain⟨x,hx,rfl⟩:=List.mem_map.1 hm; exact f.lt x hx),nodup_keys f.AK⟩;refine wp_mono (hw j w jl a ⟨g.defers,g.size,g.tmps,⟨hl.1.uq hi hblk ⟨b,l,_,bC,bt,hg,Dw p (fun x hx=>f.len _ (List.mem_map_of_mem hx)),q,hB⟩,⟨hl.2.each,hl.2.nodup,fun b r k=>hl.2.apart b r ((aU.uq hi hblk).1 k)⟩⟩⟩) fun e a w hq=>AQ.trans ?_ hq
 exact { bM.refl j _ (aU j h jl) with own:=fun b _ k=>(aU.uq hi hblk).1 k }
end
theorem HL.O_ {j:J}{w:World}{jl:List Nat}{ls:List (List D)}{h:af}(hl:HL j w jl ls h){t k:Nat}(ht:h t=some (.tok k 0)) (go:Go.Obj) :
  HL (j.cG t ⟨some (w.heap.size,0),1⟩ w.heap.size 0) (w.alloc go) jl ls (h.set t (some (.ea w.heap.size go))) /\
   bM j w (aU j h jl) (j.cG t ⟨some (w.heap.size,0),1⟩ w.heap.size 0) (w.alloc go) (aU (j.cG t ⟨some (w.heap.size,0),1⟩ w.heap.size 0) (h.set t (some (.ea w.heap.size go))) jl) /\
   bp (j.cG t ⟨some (w.heap.size,0),1⟩ w.heap.size 0) (w.alloc go) jl (.a (.d (.gY t 1 0))) (.pointer (some ⟨w.heap.size,0,none⟩)):=by
 obtain⟨G,dM,M,hblk,_⟩:=hl.1.obj t _ ht;have H:j.F w.heap.size=0:=hl.1.fresh _ (Nat.le_refl _);have l:∀x,x<w.heap.size->(w.alloc go).heap[x]?=w.heap[x]?:=fun x hx=>rC hx;generalize m:j.cG t ⟨some (w.heap.size,0),1⟩ w.heap.size 0=j';have f:∀x,j'.F x=j.F x:=fun x=>by
  subst m; simp only [J.cG]; split
  ·rename_i c; rw [c,H]
  ·rfl
 have B:j'.next=j.next:=by subst m; rfl
 have bt:j'.tok t=some ⟨some (w.heap.size,0),1⟩:=by subst m; simp [J.cG]
 have I:∀x,x≠t->j'.tok x=j.tok x:=fun x hx=>by subst m; simp [J.cG,hx]
 have hle:Le j w j' (w.alloc go):=by
  refine⟨by rw [B]; exact Nat.le_refl _,fun _ _=>by subst m; rfl,fun x=>by rw [f]; exact Nat.le_refl _,fun x o p=>?_,fun x hx=>?_,Af hl.1.fresh fun x hx _=>l x hx⟩
  ·refine vn (l x ?_);rcases Nat.lt_or_ge x w.heap.size with h1|h1
   ·exact h1
   ·rw [hl.1.fresh x h1] at p; omega
  ·by_cases c:x=t
   ·subst c; exact .inr ⟨_,_,M,bt,Nat.zero_lt_one⟩
   ·exact .inl (I x c)
 have C:∀n q x,h n=some q->bJ j n q=some x->x<w.heap.size:=fun n q x hn hx=>aU.lt hl (.inr ⟨n,q,hn,hx⟩);have K:∀x,x∈jl->x<w.heap.size:=fun x hx=>aU.lt hl (.inl hx);have g:∀n q,h n=some q->n≠t->iC j' (w.alloc go) n q/\bJ j' n q=bJ j n q:=fun n q hn N =>
  (hl.1.obj n q hn).2.keep hle (hl.1.obj n q hn).1 (fun x hx=>⟨l x (C n q x hn hx),f x⟩) (fun _=>I n N)
 have E:bJ j' t (.ea w.heap.size go)=some w.heap.size:=rfl;have L:∀jl x,aU j' (h.set t (some (.ea w.heap.size go))) jl x->x=w.heap.size\/aU j h jl x:=by
  rintro jl x (hx|⟨n,q,hn,hx⟩)
  ·exact .inr (.inl hx)
  ·by_cases c:n=t
   ·subst c; rw [af.aS] at hn; simp only [Option.some.injEq] at hn; subst hn;rw [E] at hx; simp only [Option.some.injEq] at hx; exact .inl hx.symm
   ·rw [af.aO h _ c] at hn;exact .inr (.inr ⟨n,q,hn,(g n q hn c).2▸hx⟩)
 refine⟨⟨⟨fun n q hn=>?_,fun r u s v x h1 b y z=>?_,fun x hx=>?_⟩,
  ⟨pW hl.2.each fun xs x hx h=>h.keep hle ⟨l x (K x hx),f x⟩,hl.2.nodup,fun x hx p=>?_⟩⟩, ?_, ?_⟩
 ·rw [B];by_cases c:n=t
  ·subst c; rw [af.aS] at hn; simp only [Option.some.injEq] at hn; subst hn;exact⟨G,0,bt,heap_alloc_new w _,by rw [f]; exact H⟩
  ·rw [af.aO h _ c] at hn;exact⟨(hl.1.obj n q hn).1,(g n q hn c).1⟩
 ·by_cases c1:r=t<;>by_cases c2:s=t
  ·omega
  ·subst c1; rw [af.aS] at h1; simp only [Option.some.injEq] at h1; subst h1;rw [af.aO h _ c2] at b;rw [E] at y; simp only [Option.some.injEq] at y;have:=C s v x b ((g s v b c2).2▸z); omega
  ·subst c2; rw [af.aS] at b; simp only [Option.some.injEq] at b; subst b;rw [af.aO h _ c1] at h1;rw [E] at z; simp only [Option.some.injEq] at z;have:=C r u x h1 ((g r u h1 c1).2▸y); omega
  ·rw [af.aO h _ c1] at h1; rw [af.aO h _ c2] at b;exact hl.1.inj r u s v x h1 b ((g r u h1 c1).2▸y) ((g s v b c2).2▸z)
 ·rw [f];simp only [World.size_alloc] at hx;exact hl.1.fresh x (by omega)
 ·rcases L [] x p with c|c
  ·have:=K x hx; omega
  ·exact hl.2.apart x hx c
 ·refine { toLe:=hle,size:=(by simp),frame:=fun x hx hn=>⟨l x hx,f x⟩,own:=fun x hx p=>?_,os:=rfl,tape:=rfl,output:=gb.rfl };rcases L jl x p with c|c
  ·omega
  ·exact c
 ·show aF j' (w.alloc go) (.gY t 1 0) (.pointer (some ⟨w.heap.size,0,none⟩));refine .gY t 1 0 w.heap.size (by rw [B]; exact G) fun tk hk=>?_;rw [bt] at hk;obtain rfl:=Option.some.inj hk;exact⟨Nat.le_refl _,fun _=>⟨0,rfl⟩⟩
theorem Hu {j:J}{w:World}{jl:List Nat}{id b:Nat}{o:Go.Obj}{cv:Value}(g:iC j w id (.ea b o)) (h:bp j w jl (.a (.d (.map id))) cv):cv=.map (some b)/\w.heap[b]?=some o/\j.F b=0:=by
 have h':aF j w (.map id) cv:=h;obtain⟨c,h1,k,l⟩:=g;cases h' with
 | map _ b' hi hv =>
  obtain⟨_,m⟩:=hv _ h1;obtain⟨c',f⟩:=m rfl;simp only [Option.some.injEq,Prod.mk.injEq] at f;obtain⟨rfl,rfl⟩:=f;exact⟨rfl,k,l⟩
theorem Hv {j:J}{w:World}{jl:List Nat}{id b:Nat}{o:Go.Obj}{cv:Value}(g:iC j w id (.ea b o)) (h:bp j w jl (.a (.d (.gY id 1 0))) cv):cv=.pointer (some ⟨b,0,none⟩)/\w.heap[b]?=some o/\j.F b=0:=by
 have h':aF j w (.gY id 1 0) cv:=h;obtain⟨c,h1,k,l⟩:=g;cases h' with
 | gY _ _ _ b' hi hv =>
  obtain⟨_,m⟩:=hv _ h1;obtain⟨c',f⟩:=m rfl;simp only [Option.some.injEq,Prod.mk.injEq] at f;obtain⟨rfl,rfl⟩:=f;exact⟨rfl,k,l⟩
section
variable {P:Program}{ts:Ts}{ls:List (List D)}{h:af}{dst:Option Tmp}{ty:TypeId}{pos:String}{aI:Array Edge}{g:Option (Nat×Bool)}
theorem dx.Pa {t f l:TypeId}{m:TI}{x:Operand}{id b bC:Nat}{es:Array MapEntry}(p:aX P t=some m) (hk:m.k=.map f l) (hx:ev ts x=.a (.d (.map id))) (hm:h id=some (.ea b (.map es bC))) :
  dx P (mk dst (.range t x) ty pos aI g) ts ls h fun v aV h'=>∃it r,h it=none/\v=.a (.d (.gY it 1 0))/\aV=ls/\h'=h.set it (some (.ea r (.mapIter (some b) bC #[] bC))):=by
 intro j w jl a hl q K Q s;have h1:=q x (by simp [Op.operands]);rw [hx] at h1;obtain⟨e,hg,_⟩:=Hu (hl.1.obj id _ hm).2 h1;have hr:(execOp a.eval (mk dst (.range t x) ty pos aI g)).run P w=.ok (.value (.pointer (some ⟨w.heap.size,0,none⟩))) (w.alloc (.mapIter (some b) bC #[] bC)):=by
  simp [execOp,e,run_range_map w t f l b es bC (uj p hk) hg,Result.andThen]
 obtain⟨h1,u⟩:=hl.eb 0;obtain⟨y,z,B⟩:=h1.O_ (af.aS _ _ _) (.mapIter (some b) bC #[] bC);unfold Oper.wp;rw [hr,Oper.upon_value];exact s _ _ _ _ _ _ jl ⟨j.next,w.heap.size,hl.1.lV (Nat.le_refl _),rfl,rfl,(af.set_set _ _ _ _)⟩ B y (Ext.refl _) (u.trans z)
def dO (p:List (List UInt8×Nat)) (seen:Array Nat):List (List UInt8×Nat):=p.filter fun x=>!seen.contains x.2
theorem Hw (p:List (List UInt8×Nat)) (seen:Array Nat):(mE p).toArray.filter (fun e=>!seen.contains e.born)=(mE (dO p seen)).toArray:=by
 apply Array.toList_inj.1
 simp [mE,dO,List.filter_map,Function.comp_def]
theorem dx.Pb {it id b r bC:Nat}{x:Operand}{p:List (List UInt8×Nat)}{seen:Array Nat}(hx:ev ts x=.a (.d (.gY it 1 0))) (hit:h it=some (.ea r (.mapIter (some b) bC seen bC))) (hm:h id=some (.ea b (.map (mE p).toArray bC))) (bl:∀x∈p,x.2<bC) (hlen:∀x∈p,x.1.length<=fJ) :
  dx P (mk dst (.next x false) ty pos aI g) ts ls h fun v aV h'=>aV=ls/\((dO p seen=[]/\v=.cI [.d (.bool false)]/\h'=h) \/
   ∃s n,(s,n)∈dO p seen/\v=.cI [.d (.bool true),.d (.str s),.d (.bool true)]/\h'=h.set it (some (.ea r (.mapIter (some b) bC (seen.push n) bC)))):=by
 intro j w jl a hl L K Q t;have h1:=L x (by simp [Op.operands]);rw [hx] at h1;obtain⟨e,hg,u⟩:=Hv (hl.1.obj it _ hit).2 h1;have B:w.heap[b]?=some (.map (mE p).toArray bC):=by obtain⟨_,_,_,M,_⟩:=hl.1.obj id _ hm; exact M
 have hold:∀x∈(mE p).toArray.toList,x.born<bC:=fun y f=>by
  have f:y∈mE p:=by simpa using f
  obtain⟨z,hz,rfl⟩:=List.mem_map.1 f;exact bl z hz
 have l:∀y∈dO p seen,y∈p:=fun y f=>(List.mem_filter.1 f).1;have C:(mE (dO p seen)).toArray.filter (fun x=>decide (x.born<bC))=(mE (dO p seen)).toArray:=Array.filter_eq_self.2 (fun y f=>by
  have f:y∈mE (dO p seen):=by simpa using f
  obtain⟨z,hz,rfl⟩:=List.mem_map.1 f
  simpa using bl z (l z hz))
 have E:(mE (dO p seen)).toArray.filter (fun x=>decide (x.born>=bC))=#[]:=by
  rw [Array.filter_eq_empty_iff];intro y f;have f:y∈mE (dO p seen):=by simpa using f
  obtain⟨z,hz,rfl⟩:=List.mem_map.1 f;have:=bl z (l z hz);simp;omega
 by_cases h0:dO p seen=[]
 ·have hr:(execOp a.eval (mk dst (.next x false) ty pos aI g)).run P w=.ok (.value (.tuple #[.bool false])) w:=by
   simp only [execOp,e,Instr.next,getObj,Sem.run_bind,Sem.run,hg,B,Result.andThen,next_test_false seen _ bC bC hold (Nat.le_refl _),Bool.false_eq_true,if_false,Hw,C,E,Array.append_empty,h0];simp [mE,choose,Sem.run,Question.forced,Result.andThen]
  unfold Oper.wp;rw [hr,Oper.upon_value];exact t _ _ _ _ _ _ jl ⟨rfl,.inl ⟨h0,rfl,rfl⟩⟩ ⟨[.bool false],rfl,.cons (aF.bool _) .nil⟩ hl (Ext.refl _) (bM.refl _ _ _)
 ·obtain⟨i,k,hi,F,N⟩:∃(i:Nat) (k:World),i<(dO p seen).length/\(k=w\/k=w.drew)/\(choose (Question.mapNext (dO p seen).length)).run P w=.ok i k:=by
   by_cases G:(dO p seen).length<=1
   ·exact⟨0,w,by have:=List.length_pos_iff.2 h0; omega,.inl rfl,by simp [choose,Sem.run,Question.forced,G]⟩
   ·exact⟨_,w.drew,Nat.mod_lt _ (by omega),.inr rfl,by
     simp only [choose,Sem.run,Question.forced,decide_eq_true_eq,G,if_false,Question.cut];rfl⟩
  have m:HL j k jl ls h/\bM j w (aU j h jl) j k (aU j h jl):=by
   rcases F with rfl|rfl
   ·exact⟨hl,bM.refl _ _ _⟩
   ·exact⟨hl.drew,bM.drew _ _ _⟩
  have H:k.heap[r]?=some (.mapIter (some b) bC seen bC):=by rcases F with rfl|rfl<;>exact hg
  have hr:(execOp a.eval (mk dst (.next x false) ty pos aI g)).run P w=.ok (.value (.tuple #[.bool true,.string ⟨(dO p seen)[i].1.toArray⟩,.bool true])) { k with heap:=k.heap.setIfInBounds r (.mapIter (some b) bC (seen.push (dO p seen)[i].2) bC) }:=by
   have O:(mE (dO p seen)).toArray.isEmpty=false:=by
    cases hq:dO p seen with
    | nil=>exact absurd hq h0
    | cons y q=>rfl
   have R:((#[]:Array (Option MapEntry))++Array.map some (mE (dO p seen)).toArray).size=(dO p seen).length:=by simp [mE]
   simp only [execOp,e,Instr.next,getObj,Sem.run_bind,Sem.run,hg,B,Result.andThen,next_test_false seen _ bC bC hold (Nat.le_refl _),Bool.false_eq_true,if_false,Hw,C,E,Array.append_empty,O,R,N];simp [mE,hi,setObj,Sem.run,H,Result.andThen]
  have I:((dO p seen)[i].1,(dO p seen)[i].2)∈dO p seen:=List.getElem_mem hi;have J:=gK.setObj (av:=av) (o':=.mapIter (some b) bC (seen.push (dO p seen)[i].2) bC) H;obtain⟨hn,c,bt,_,_⟩:=m.1.1.obj it _ hit;obtain⟨S,U⟩:=m.1.setObj (o':=.ea r (.mapIter (some b) bC (seen.push (dO p seen)[i].2) bC)) hit rfl rfl u J ⟨c,bt,J.here,u⟩;unfold Oper.wp;rw [hr,Oper.upon_value]
  exact t _ _ _ _ _ _ jl ⟨rfl,.inr ⟨_,_,I,rfl,rfl⟩⟩ ⟨[.bool true,_,.bool true],rfl,.cons (aF.bool _) (.cons (aF.str _ (hlen _ (l _ I))) (.cons (aF.bool _) .nil))⟩ S (Ext.refl _) (m.2.trans U)
end
def ig (p:List (List UInt8×Nat)) (s:List UInt8):List (List UInt8×Nat):=p.eraseP fun x=>s==x.1
theorem yj (s:List UInt8):∀p:List (List UInt8×Nat),(ig p s).map (·.1)=(p.map (·.1)).erase s
 | []=>rfl
 | x::p=>by
  unfold ig;rw [List.eraseP_cons,List.map_cons,List.erase_cons];rw [show (x.1==s)=(s==x.1) from Bool.beq_comm];cases s==x.1
  ·exact congrArg (x.1::·) (yj s p)
  ·rfl
theorem Dx (p:List (List UInt8×Nat)) (s:List UInt8):(ig p s).Sublist p:=List.eraseP_sublist
theorem qa.del {l:List (List UInt8)}{p:List (List UInt8×Nat)}{bC:Nat}(h:qa l p bC) (s:List UInt8):qa (l.erase s) (ig p s) bC :=
 ⟨by rw [yj,h.keys],h.nodup.sublist ((Dx p s).map _),h.AK.erase s,fun x hx=>h.lt x ((Dx p s).subset hx),fun x hx=>h.len x (List.erase_subset hx)⟩
theorem Hx {d:TypeDesc}{s:List UInt8}(b:ji (eU d) (.str s)=true) (f:s.length<=fJ):∀(p:List (List UInt8×Nat)) (n:Nat),(∀x∈p,x.1.length<=fJ) ->
  (Instr.findNow d (.string ⟨s.toArray⟩) (mE p) n=some none/\ig p s=p)\/∃i,Instr.findNow d (.string ⟨s.toArray⟩) (mE p) n=some (some (n+i,.bool true))/\i<p.length/\ig p s=p.eraseIdx i
 | [],n,_=>.inl ⟨rfl,rfl⟩
 | x::p,n,h=>by
  have hn:=ya (j:=⟨fun _=>0,fun _=>0,fun _=>none,0⟩) (w:=default) b (aF.str s f) (aF.str x.1 (h x (.head _))) rfl;unfold ig;rw [List.eraseP_cons];show (Instr.findNow d _ (⟨.string ⟨x.1.toArray⟩,.bool true,x.2⟩::mE p) n=_/\_)\/∃i,Instr.findNow d _ (⟨.string ⟨x.1.toArray⟩,.bool true,x.2⟩::mE p) n=_/\_;simp only [Instr.findNow,hn];cases s==x.1
  ·rcases Hx b f p (n+1) (fun y k=>h y (.tail _ k)) with ⟨h1,g⟩|⟨i,h1,g,l⟩
   ·exact .inl ⟨h1,congrArg (x::·) g⟩
   ·exact .inr ⟨i+1,by rw [h1,show n+1+i=n+(i+1) by omega],by simp only [List.length_cons]; omega,congrArg (x::·) l⟩
  ·exact .inr ⟨0,rfl,by simp,rfl⟩
theorem Hy:∀(p:List (List UInt8×Nat)) (i:Nat),mE (p.eraseIdx i)=(mE p).eraseIdx i
 | [],_=>rfl
 | _::_,0=>rfl
 | x::p,i+1=>congrArg ((⟨.string ⟨x.1.toArray⟩,.bool true,x.2⟩:MapEntry)::·) (Hy p i)
theorem Hz {P:Program}{w:World}{b bC:Nat}{t f z ty:TypeId}{q r:TI}{cm:Array TypeId}{p:List (List UInt8×Nat)}{s:List UInt8}(u:aX P t=some q) (hk:q.k=.map f z) (B:aX P f=some r) (g:ji r.k (.str s)=true) (bQ:cm[0]?=some t)
  (hg:w.heap[b]?=some (.map (mE p).toArray bC)) (v:s.length<=fJ) (C:∀x∈p,x.1.length<=fJ) :
  (Builtin.delete_ cm ty #[.map (some b),.string ⟨s.toArray⟩]).run P w=.ok (.tuple #[]) { w with heap:=w.heap.setIfInBounds b (.map (mE (ig p s)).toArray bC) }:=by
 obtain⟨G,H,_,l,_,_,E,_⟩:=gj B;rw [<- E] at g;have y:∀e,(Instr.checkKey e 10000 f (.string ⟨s.toArray⟩)).run P w=.ok () w:=fun e=>yb (j:=⟨fun _=>0,fun _=>0,fun _=>none,0⟩) (w0:=default) l g (aF.str s v);rcases Hx g v p 0 C with ⟨h1,m⟩|⟨i,h1,m,F⟩
 ·simp [Builtin.delete_,bQ,eV (uj u hk),vE hg,y,Instr.findKey,eV l,h1,m,setObj,Sem.run,hg,Result.andThen]
 ·rw [Nat.zero_add] at h1;have hl:i<(mE p).length:=by simpa [mE] using m
  simp [Builtin.delete_,bQ,eV (uj u hk),vE hg,y,Instr.findKey,eV l,h1,F,Hy,setObj,Sem.run,hg,Result.andThen,Array.eraseIdxIfInBounds,hl]
section
variable {P:Program}{ts:Ts}{ls:List (List D)}{h:af}{dst:Option Tmp}{ty:TypeId}{pos:String}{aI:Array Edge}{g:Option (Nat×Bool)}
theorem aq.Pc {t l z:TypeId}{m q:TI}{x y:Operand}{cm:Array TypeId}{id b bC:Nat}{p:List (List UInt8×Nat)}{s:List UInt8}(B:aX P t=some m) (hk:m.k=.map l z) (C:aX P l=some q) (E:ji q.k (.str s)=true) (bQ:cm[0]?=some t)
  (hx:ev ts x=.a (.d (.map id))) (F:ev ts y=.a (.d (.str s))) (hm:h id=some (.ea b (.map (mE p).toArray bC))) (G:∀x∈p,x.1.length<=fJ) :
  aq P (mk dst (.call { callee:=.builtin .delete,args:=#[x,y],argTypes:=cm }) ty pos aI g) ts ls h { rh:=true,wh:=true } (.cI []) ls (h.set id (some (.ea b (.map (mE (ig p s)).toArray bC)))):=by
 refine aq.of_run fun L H _ hH j w jl a hl r=>?_;have I:=hH rfl;subst I;have h1:=r x (by simp [Op.operands,Call.operands]);have f:=r y (by simp [Op.operands,Call.operands]);rw [hx] at h1; rw [F] at f;obtain⟨e,hg,u⟩:=Hu (hl.1.obj id _ hm).2 h1;obtain⟨hn,c,bt,_,_⟩:=hl.1.obj id _ hm;have f:aF j w (.str s) (a.eval y):=f;generalize hv:a.eval y=N at f;cases f with
 | str _ J =>
  have hr:=Hz (ty:=ty) B hk C E bQ hg J G;have v:=gK.setObj (av:=av) (o':=.map (mE (ig p s)).toArray bC) hg;obtain⟨K,M⟩:=hl.setObj (o':=.ea b (.map (mE (ig p s)).toArray bC)) hm rfl rfl u v ⟨c,bt,v.here,u⟩;exact⟨.value (.tuple #[]),_,_,j,jl,by simp [execOp,resolve,invoke,builtin,e,hv,hr,Result.andThen],.inl rfl,⟨[],rfl,.nil⟩,K,Ext.refl _,M⟩
theorem aq.Pd {t r F:TypeId}{u v:TI}{x y:Operand}{cm:Array TypeId}{id:Nat}{l:List (List UInt8)}{s:List UInt8}(G:aX P t=some u) (hk:u.k=.map r F) (I:aX P r=some v) (J:ji v.k (.str s)=true) (bQ:cm[0]?=some t)
  (hx:ev ts x=.a (.d (.map id))) (K:ev ts y=.a (.d (.str s))) (hm:h id=some (.map (bK l))) :
  aq P (mk dst (.call { callee:=.builtin .delete,args:=#[x,y],argTypes:=cm }) ty pos aI g) ts ls h { rh:=true,wh:=true } (.cI []) ls (h.set id (some (.map (bK (l.erase s))))):=by
 refine aq.of_run fun L H _ hH j w jl a hl z=>?_;have M:=hH rfl;subst M;have h1:=z x (by simp [Op.operands,Call.operands]);have f:=z y (by simp [Op.operands,Call.operands]);rw [hx] at h1; rw [K] at f;obtain⟨b,e,c,Y,bC,bt,hg,N,B,hB⟩:=Az (hl.1.obj id _ hm).2 h1;obtain⟨p,rfl,q,C⟩:=Dv N;have O:qa l p bC:=⟨q,by have:=hB.1; simpa [mE,Function.comp_def] using this,by rw [<- q]; exact Ht hB.2.2,fun x hx=>hB.2.1 _ (List.mem_map_of_mem hx),C⟩
 have Q:∀x∈p,x.1.length<=fJ:=fun x hx=>C _ (q▸List.mem_map_of_mem hx);have f:aF j w (.str s) (a.eval y):=f;generalize hv:a.eval y=Z at f;cases f with
 | str _ R =>
  have hr:=Hz (ty:=ty) G hk I J bQ hg R Q;have E:=gK.setObj (av:=av) (o':=.map (mE (ig p s)).toArray bC) hg;have hq:=O.del s;have S:aQ (k7 j { w with heap:=w.heap.setIfInBounds b (.map (mE (ig p s)).toArray bC) }) (bK (l.erase s)) (mE (ig p s)):=by
   rw [<- hq.keys]; exact Dw _ fun x hx=>hq.len _ (hq.keys▸List.mem_map_of_mem hx)
  have U:mY (mE (ig p s)) bC:=⟨by have:=hq.nodup; simpa [mE,Function.comp_def] using this,(fun m hm=>by obtain⟨x,hx,rfl⟩:=List.mem_map.1 hm; exact hq.lt x hx),nodup_keys (by rw [hq.keys]; exact hq.AK)⟩;obtain⟨W,X⟩:=hl.setObj (o':=.map (bK (l.erase s))) hm (by simp [bJ,bt]) (by simp [bJ,bt]) B E ⟨b,c,_,bC,bt,E.here,S,B,U⟩;exact⟨.value (.tuple #[]),_,_,j,jl,by simp [execOp,resolve,invoke,builtin,e,hv,hr,Result.andThen],.inl rfl,⟨[],rfl,.nil⟩,W,Ext.refl _,X⟩
end
def vK (f:List UInt8->Option Bool):List (List UInt8)->Option (List (List UInt8))
 | []=>some []
 | s::l=>(f s).bind fun b=>(vK f l).bind fun r=>some (bif b then s::r else r)
theorem Dy {f:List UInt8->Option Bool}:∀{l r:List (List UInt8)},vK f l=some r->(∀s∈l,∃b,f s=some b)/\r=l.filter fun s=>f s==some true
 | [],r,h=>by cases h; exact⟨(fun _ h=>by cases h),rfl⟩
 | s::l,r,h=>by
  obtain⟨b,h1,h⟩:=Option.bind_eq_some_iff.1 h;obtain⟨q,g,h⟩:=Option.bind_eq_some_iff.1 h;obtain⟨j,k⟩:=Dy g;cases h;refine⟨fun x hx=>?_, ?_⟩
  ·rcases List.mem_cons.1 hx with rfl|hx
   ·exact⟨b,h1⟩
   ·exact j x hx
  ·rw [List.filter_cons,h1,<- k];cases b<;>rfl
theorem Dz {α β:Type}{f:α->β}:∀{l:List α},(l.map f).Nodup->∀{x y:α},x∈l->y∈l->f x=f y->x=y
 | [],_,_,_,h,_,_=>by cases h
 | a::l,hn,x,y,hx,g,e=>by
  rw [List.map_cons,List.nodup_cons] at hn;rcases List.mem_cons.1 hx with rfl|j
  ·rcases List.mem_cons.1 g with rfl|b
   ·rfl
   ·exact absurd (List.mem_map.2 ⟨y,b,e.symm⟩) hn.1
  ·rcases List.mem_cons.1 g with rfl|b
   ·exact absurd (List.mem_map.2 ⟨x,j,e⟩) hn.1
   ·exact Dz hn.2 j b e
structure gq (f:List UInt8->Option Bool) (r:List (List UInt8)) (bC:Nat) (z:List (List UInt8×Nat)×Array Nat):Prop where
 pop:qa (z.1.map (·.1)) z.1 bC
 told:∀x∈z.1,∃b,f x.1=some b
 seen:∀x∈z.1,z.2.contains x.2=true->f x.1=some true
 rest:(z.1.map (·.1)).filter (fun s=>f s==some true)=r
section
variable {f:List UInt8->Option Bool}{r:List (List UInt8)}{bC:Nat}{p:List (List UInt8×Nat)}{seen:Array Nat}{s:List UInt8}{n:Nat}
theorem gq.start {l:List (List UInt8)}(h:vK f l=some r) (b:qa l p bC):gq f r bC (p,#[]):=by
 obtain⟨h1,g⟩:=Dy h;refine⟨by rw [b.keys]; exact b,fun x hx=>h1 _ (by rw [<- b.keys]; exact List.mem_map_of_mem hx),fun x _ hx=>by simp at hx,by rw [b.keys]; exact g.symm⟩
theorem yl {x:List UInt8×Nat}(h:x∈dO p seen):x∈p/\seen.contains x.2=false:=by
 obtain⟨h1,b⟩:=List.mem_filter.1 h;exact⟨h1,by simpa using b⟩
theorem HA (hx:(s,n)∈dO p seen):(dO p (seen.push n)).length<(dO p seen).length:=by
 have e:dO p (seen.push n)=(dO p seen).filter fun x=>!(x.2==n):=by
  unfold dO;rw [List.filter_filter];refine List.filter_congr fun x _=>?_;rw [show (seen.push n).contains x.2=(seen.contains x.2||x.2==n) by
   rw [Bool.eq_iff_iff];simp [Array.contains_eq_mem]]
  cases seen.contains x.2<;>simp
 rw [e];refine List.length_filter_lt_length_iff_exists.2 ⟨_,hx,by simp⟩
theorem contains_push {x:Nat}(h:(seen.push n).contains x=true):seen.contains x=true\/x=n:=by
 simpa [Array.contains_eq_mem] using h
theorem gq.keep (h:gq f r bC (p,seen)) (hx:(s,n)∈dO p seen) (g:f s=some true):gq f r bC (p,seen.push n)/\(dO p (seen.push n)).length<(dO p seen).length:=by
 obtain⟨hm,-⟩:=yl hx;refine⟨⟨h.pop,h.told,fun x b hc=>?_,h.rest⟩,HA hx⟩;rcases contains_push hc with hc|hc
 ·exact h.seen x b hc
 ·rw [Dz h.pop.nodup b hm hc]; exact g
theorem gq.drop (h:gq f r bC (p,seen)) (hx:(s,n)∈dO p seen) (j:f s=some false):gq f r bC (ig p s,seen.push n)/\(dO (ig p s) (seen.push n)).length<(dO p seen).length:=by
 obtain⟨hm,-⟩:=yl hx;have hu:(p.map (·.1)).Nodup:=h.pop.AK;have g:=Dx p s;have k:=h.pop.del s;refine⟨⟨by rw [yj]; exact k,fun x b=>h.told x (g.subset b),fun x b hc=>?_, ?_⟩, ?_⟩
 ·rcases contains_push hc with hc|hc
  ·exact h.seen x (g.subset b) hc
  ·have e:=Dz h.pop.nodup (g.subset b) hm hc;have h1:s∈(ig p s).map (·.1):=List.mem_map.2 ⟨x,b,by rw [e]⟩;rw [yj,hu.mem_erase_iff] at h1;exact absurd rfl h1.1
 ·show ((ig p s).map (·.1)).filter _=r;rw [yj,hu.erase_eq_filter,List.filter_filter,<- h.rest];refine List.filter_congr fun x _=>?_;by_cases e:x=s
  ·subst e; rw [j]; simp
  ·simp [e]
 ·exact Nat.lt_of_le_of_lt ((g.filter _).length_le) (HA hx)
theorem gq.done (h:gq f r bC (p,seen)) (hx:dO p seen=[]):p.map (·.1)=r:=by
 have b:∀x∈p,f x.1=some true:=fun x hm=>h.seen x hm (by
  have:x∉dO p seen:=by rw [hx]; simp
  cases hc:seen.contains x.2
  ·exact absurd (List.mem_filter.2 ⟨hm,by rw [hc]; rfl⟩) this
  ·rfl)
 rw [<- h.rest];refine(List.filter_eq_self.2 fun s g=>?_).symm;obtain⟨x,hm,rfl⟩:=List.mem_map.1 g;rw [b x hm]; rfl
end
theorem find_born {s:List UInt8}{n:Nat}:∀{p:List (List UInt8×Nat)},(p.map (·.2)).Nodup->(s,n)∈p->(mE p).find? (fun e=>e.born==n)=some ⟨.string ⟨s.toArray⟩,.bool true,n⟩
 | [],_,h=>by cases h
 | x::p,hn,h=>by
  rw [List.map_cons,List.nodup_cons] at hn;show (⟨.string ⟨x.1.toArray⟩,.bool true,x.2⟩::mE p:List MapEntry).find? _=_;rw [List.find?_cons];rcases List.mem_cons.1 h with e|h
  ·subst e; simp
  ·have b:x.2≠n:=fun e=>hn.1 (List.mem_map.2 ⟨(s,n),h,e.symm⟩);rw [show ((⟨.string ⟨x.1.toArray⟩,.bool true,x.2⟩:MapEntry).born==n)=false by simpa using b];exact find_born hn.2 h
section
variable {P:Program}{ts:Ts}{ls:List (List D)}{h:af}{dst:Option Tmp}{ty:TypeId}{pos:String}{aI:Array Edge}{g:Option (Nat×Bool)}
theorem aq.Pe {it id b r bC n:Nat}{x:Operand}{p:List (List UInt8×Nat)}{seen:Array Nat}{s:List UInt8}(hx:ev ts x=.a (.d (.gY it 1 0))) (hit:h it=some (.ea r (.mapIter (some b) bC (seen.push n) bC))) (hm:h id=some (.ea b (.map (mE p).toArray bC))) (f:(s,n)∈p) (k:(p.map (·.2)).Nodup) (l:s.length<=fJ) :
  aq P (mk dst (.entry x) ty pos aI g) ts ls h { rh:=true } (.cI [.d (.str s),.d (.bool true)]) ls h :=
 oz.rH ⟨rfl,rfl,fun L H _ hH j w jl a hl m=>by
  have h1:=m x (by simp [Op.operands]);rw [hx] at h1;rw [hH rfl] at hl;obtain⟨e,hg,_⟩:=Hv (hl.1.obj it _ hit).2 h1;have q:w.heap[b]?=some (.map (mE p).toArray bC):=by obtain⟨_,_,_,t,_⟩:=hl.1.obj id _ hm; exact t
  have u:(mE p).toArray.find? (fun e=>e.born==n)=some ⟨.string ⟨s.toArray⟩,.bool true,n⟩:=by
   rw [List.find?_toArray]; exact find_born k f
  exact⟨.tuple #[.string ⟨s.toArray⟩,.bool true],by simp [execOp,e,Instr.entry,getObj,Sem.run_bind,Sem.run,hg,q,Result.andThen,u],[.string ⟨s.toArray⟩,.bool true],rfl,.cons (aF.str s l) (.cons (aF.bool _) .nil)⟩⟩
end
end Go.Ab
/-
 Calls that only lay new blocks. No program text.
-/
namespace Go.Ab
open Go Go.RowKit Go.Sort
variable {av:bR}
theorem HL.grown {j:J}{w:World}{jl:List Nat}{ls:List (List D)}{h:af}(hl:HL j w jl ls h) (n:Nat) (os:Array Go.Obj):HL j (Sort.grow (Sort.ahead w n) os) jl ls h/\bM j w (aU j h jl) j (Sort.grow (Sort.ahead w n) os) (aU j h jl):=by
 have f:∀b,b<w.heap.size->(Sort.grow (Sort.ahead w n) os).heap[b]?=w.heap[b]?:=fun b f=>heap_grow_old _ _ f;have hle:Le j w j (Sort.grow (Sort.ahead w n) os):=⟨Nat.le_refl _,fun _ _=>rfl,fun _=>Nat.le_refl _,fun b o g=>vn (f b (by
  rcases Nat.lt_or_ge b w.heap.size with h|h
  ·exact h
  ·rw [hl.1.fresh b h] at g; omega)),fun _ _=>.inl rfl,Af hl.1.fresh fun b h _=>f b h⟩
 have hk:=hl.keep hle (fun b g=>⟨f b (g.lt hl),rfl⟩) (fun _ _ _=>rfl) (fun b f=>hl.1.fresh b (by simp at f; omega));exact⟨hk.1,{ toLe:=hle,size:=by simp,frame:=fun b h _=>⟨f b h,rfl⟩,own:=fun b _ g=>g,os:=rfl,tape:=rfl,output:=⟨rfl,by simp [Sort.grow,Sort.ahead]⟩ }⟩
end Go.Ab
/-
 slices.SortFunc over a slice that may be stored to: the shelf's contract,read in the abstract state. No program text.
-/
namespace Go.Ab
open Go Go.RowKit Go.Proofs Go.Shelf Go.Sort
variable {av:bR}
def Pf:D->Bool
 | .str s=>Nat.ble s.length fJ
 | .int _ _=>true
 | .bool _=>true
 | _=>false
section
variable {P:Program}{ρ:Ren}{T:Type} [Inhabited T] (c:T->List D) (k:Nat)
def Pg (x:T):Bool:=(c x).all Pf
def HB (x:T):T:=bif Pg c x then x else default
def Ph (b:T->T->Int) (x y:T):Int:=b (HB c x) (HB c y)
def DA (b:T->T->Int) (l:List T):List T:=(pdq (ltOf (Ph c b)) l.toArray 0 l.length (Lib.bitLen l.length) true true).toList
def DB (b:T->T->Int) (l:List T):List T:=bif Nat.beq (DA c b l).length l.length then DA c b l else l
theorem Pj (b:T->T->Int) (l:List T):(DB c b l).length=l.length:=by
 unfold DB;cases h:Nat.beq (DA c b l).length l.length
 ·rfl
 ·exact Nat.eq_of_beq_eq_true h
end
section
variable {P:Program}{ρ:Ren}{T:Type} [Inhabited T] {c:T->List D}{k:Nat}
end
def Pk {T:Type}(f:T->T->Option Int) (x y:T):Int:=(f x y).getD 0
def Pm {T:Type} [Inhabited T] (c:T->List D) (f:T->T->Option Int) (s:Sl T):Sl T:=⟨s.nl,DB c (Pk f) s.l⟩
theorem HC {T:Type} [Inhabited T] {c:T->List D}{f:T->T->Option Int}{s:Sl T}:(Pm c f s).l.length=s.l.length:=Pj c _ _
end Go.Ab
/-
 slices.Grow of a nil slice: the shelf's contract,read in the abstract state: a slice that may grow. No program text.
-/
namespace Go.Ab
open Go Go.RowKit Go.Proofs Go.Shelf
variable {av:bR}
def J.i_ (j:J) (b cap:Nat):J:={ j with tok:=fun x=>if x=j.next then some ⟨some (b,cap),0⟩ else j.tok x,next:=j.next+1 }
theorem HL.i_ {j:J}{w:World}{jl:List Nat}{ls:List (List D)}{h:af}(hl:HL j w jl ls h) (k:Nat){b cap:Nat}{cs:Array Value}{e:TypeId}(G:w.heap[b]?=some (.cells cs e (0,0))) (H:cs.size=cap*k) (I:j.F b=0)
  (v:¬aU j h jl b){w0:World}{O:Nat->Prop}(f:bM j w0 O j w (aU j h jl)) (K:w0.heap.size<=b) :
  HL (j.i_ b cap) w jl ls (h.set j.next (some (.tok k 0)))/\bM j w0 O (j.i_ b cap) w (aU (j.i_ b cap) (h.set j.next (some (.tok k 0))) jl):=by
 have hle:Le j w (j.i_ b cap) w:=⟨by simp [J.i_],fun _ _=>rfl,fun _=>Nat.le_refl _,fun _ _ _=>rfl,fun t ht=>.inl (by simp only [J.i_]; rw [if_neg (by omega)]),fun _ _ _ _ _ h=>h⟩;have hk:=hl.keep hle (fun _ _=>⟨rfl,rfl⟩) (fun id hid _=>by simp only [J.i_]; rw [if_neg (by omega)]) hl.1.fresh;have p:bJ (j.i_ b cap) j.next (.tok k 0)=some b:=by simp [bJ,J.i_]
 have L:∀n q,h n=some q->n≠j.next:=fun n q hn c=>by rw [c,hl.1.lV (Nat.le_refl _)] at hn; cases hn
 have y:∀jl x,aU (j.i_ b cap) (h.set j.next (some (.tok k 0))) jl x->x=b\/aU (j.i_ b cap) h jl x:=by
  rintro jl x (hm|⟨n,q,hn,e⟩)
  ·exact .inr (.inl hm)
  ·by_cases c:n=j.next
   ·subst c; rw [af.aS] at hn; simp only [Option.some.injEq] at hn; subst hn;rw [p] at e; simp only [Option.some.injEq] at e; exact .inl e.symm
   ·rw [af.aO h _ c] at hn; exact .inr (.inr ⟨n,q,hn,e⟩)
 have z:∀n q,h n=some q->bJ (j.i_ b cap) n q≠some b:=fun n q hn e=>v ((hk.2 b).1 (.inr ⟨n,q,hn,e⟩));refine⟨⟨⟨fun id o hi=>?_,fun r B s C x h1 g l m=>?_,hl.1.fresh⟩,⟨hk.1.2.each,hk.1.2.nodup,fun x hx u=>?_⟩⟩,
  { toLe:=f.toLe.trans hle,size:=f.size,frame:=fun x hx hn=>f.frame x hx hn,own:=fun x hx u=>?_,os:=f.os,tape:=f.tape,output:=f.output }⟩
 ·by_cases c:id=j.next
  ·subst c; rw [af.aS] at hi; simp only [Option.some.injEq] at hi; subst hi;refine⟨by simp [J.i_],some (b,cap),by simp [J.i_],fun b' M E=>?_,fun h=>by cases h⟩;simp only [Option.some.injEq,Prod.mk.injEq] at E;obtain⟨rfl,rfl⟩:=E;exact⟨cs,e,G,H,by rw [Nat.zero_mul]; exact I,Nat.zero_le _,fun _ h=>(by cases h)⟩
  ·rw [af.aO h _ c] at hi; exact hk.1.1.obj id o hi
 ·by_cases c1:r=j.next<;>by_cases c2:s=j.next
  ·omega
  ·subst c1; rw [af.aS] at h1; simp only [Option.some.injEq] at h1; subst h1;rw [af.aO h _ c2] at g;rw [p] at l; simp only [Option.some.injEq] at l; subst l;exact absurd m (z s C g)
  ·subst c2; rw [af.aS] at g; simp only [Option.some.injEq] at g; subst g;rw [af.aO h _ c1] at h1;rw [p] at m; simp only [Option.some.injEq] at m; subst m;exact absurd l (z r B h1)
  ·rw [af.aO h _ c1] at h1; rw [af.aO h _ c2] at g;exact hk.1.1.inj r B s C x h1 g l m
 ·rcases y [] x u with c|c
  ·subst c; exact v (.inl hx)
  ·exact hk.1.2.apart x hx c
 ·rcases y jl x u with c|c
  ·omega
  ·exact f.own x hx ((hk.2 x).1 c)
theorem Pn {P:Program}{ρ:Ren}(L:Lays8.n4 P ρ){b:TI}{z:A}(C:aX P (ρ.t 25)=some b) (hz:b.zero=some z) (E:(ct z).length=b.size) (aj:b.size≠0){n:Int}(h0:0<=n) (p:n.toNat*b.bytes<=cC) (hn:n.toNat<=cC)
  {F:Nat}(G:F=ρ.f 4){T:Type}(c:T->List D){r:Nat}(H:af) :
  AC P F [.d (.slice r none true []),.d (.int .i64 n)] H fun v h'=>∃tk,H tk=none/\v=.a (.d (Sl.d b.size c (some tk) ⟨decide (n=0),[]⟩))/\h'=H.set tk (some (.tok b.size 0)):=by
 subst G;refine⟨L.f4.enters rfl,fun j w dc hr g=>?_⟩;have hl:HL j w [] [] H:=⟨hr,⟨.nil,by simp,by simp⟩⟩;cases g with
 | cons h1 g =>
 cases g with
 | cons I g =>
 cases g
 rename_i v1 v2
 obtain⟨K,ak,M,_,N,O,_,s⟩:=gj C;rw [hz] at s;obtain⟨zv,Q,R⟩:=nc s;have S:zv.cells.size=b.size:=by have:=(R j w).cells.length; rw [E] at this; simpa using this.symm
 have U:aF j w (.slice r none true []) v1:=h1;have W:aF j w (.int .i64 n) v2:=I;cases U;cases W;have u:=hr.lV (Nat.le_refl _);have y:n=(n.toNat:Int):=(Int.toNat_of_nonneg h0).symm;have al:cC=140737488355328:=rfl;generalize n.toNat=m at y p hn;subst y;by_cases hm:m=0
 ·subst hm;refine(Any8.slices_Grow_room L none 0 0 0 w (by omega) (by omega) (by omega) (by omega)).mono ?_;rintro e w' ⟨rfl,rfl⟩;obtain⟨k,l⟩:=hl.eb b.size;refine⟨_,_,j.eb,_,rfl,⟨j.next,u,rfl,rfl⟩, ?_,k.1,l⟩;exact aF.gu _ _ fun t ht=>by simp at ht; subst ht; simp [J.eb]
 ·refine(Any8.slices_Grow_grow L K zv M Q (by rw [N]; omega) none 0 0 m [] w (by omega) (by omega) (by rw [O]; simpa [cC] using p) (by omega) (by simp) (fun _=>rfl) (fun a h=>by cases h)).mono ?_;rintro e w' ⟨rfl,rfl⟩;generalize X:grownCap w (0+m) 0 (ρ.t 25)=cap;have am:m<=cap:=by rw [<- X]; have:=grownCap_ge w (0+m) 0 (ρ.t 25); omega
  generalize Y:(([]:List Value).toArray++Builtin.zeroCells zv.cells (0+m-0)++Builtin.zeroCells zv.cells (cap-(0+m)))=cs;have Z:cs.size=cap*b.size:=by
   rw [<- Y];simp only [Array.size_append,size_zeroCells,S,<- Nat.add_mul,List.size_toArray,List.length_nil,Nat.zero_add]
   congr 1; omega
  have B:=hl.drew.data (av:=av) (.cells cs (ρ.t 25)) 0;have aa:j.eG w.drew.heap.size 0=j:=J.xO (hl.1.fresh _ (Nat.le_refl _));rw [aa] at B;have an:(w.drew).heap.size=w.heap.size:=rfl;obtain⟨k,l⟩:=B;obtain⟨ab,ad⟩:=k.i_ b.size (heap_alloc_new w.drew _) Z (hl.1.fresh _ (Nat.le_refl _)) (fun ae=>by
   have ag:aU j H [] w.heap.size:=by
    rcases ae with hm|⟨i,o,hi,e⟩
    ·simp at hm
    ·exact .inr ⟨i,o,hi,e⟩
   have:=aU.lt hl ag; omega) ((bM.drew j w _).trans l) (Nat.le_refl _)
  refine⟨_,_,_,_,rfl,⟨j.next,u,rfl,rfl⟩, ?_,ab.1,ad⟩;have ai:decide ((m:Int)=0)=false:=decide_eq_false (by omega);show aF _ _ (.slice b.size (some j.next) (decide ((m:Int)=0)) []) _;rw [ai];refine aF.slice _ _ [] ⟨w.heap.size,0,none⟩ cap (fun _=>undef) (by simp) (by simp) (by simp) ⟨.inl rfl,by simp⟩ (by simp) fun t ht=>?_;simp only [Option.some.injEq] at ht;subst ht;refine⟨by simp [J.i_],fun q hq=>?_⟩
  simp only [J.i_,if_true,Option.some.injEq] at hq;subst hq;exact⟨by simp,fun _=>.inr ⟨_,rfl,rfl⟩⟩
end Go.Ab
/-
 slices.DeleteFunc over a slice that may be stored to and is not used any more: the shelf's contract,read in the abstract state. No program text.
-/
namespace Go.Proofs
open Go.Shelf Go.RowKit Go.Lib Go.Sort
variable {P:Program}{ρ:Ren}
end Go.Proofs
namespace Go.Ab
open Go Go.RowKit Go.Proofs Go.Shelf Go.Sort
variable {av:bR}
section
variable {P:Program}{ρ:Ren}
variable {T:Type} [Inhabited T] {v:T->Value}{d1:T->D}
end
end Go.Ab
/-
 Functions of the library that only compute,division,conversions; a block that stays as it is. No program text.
-/
namespace Go.Ab
open Go Go.RowKit Go.Proofs Go.Shelf
variable {av:bR}
section
variable {P:Program}{ts:Ts}{ls:List (List D)}{h:af}{dst:Option Tmp}{ty:TypeId}{pos:String}{aI:Array Edge}{g:Option (Nat×Bool)}
theorem aq.Po {t u:TypeId}{x y:Operand}{k:IntKind}{m n:Int}(hx:ev ts x=.a (.d (.int k m))) (l:ev ts y=.a (.d (.int k n))) (hn:n≠0) :
  aq P (mk dst (.binOp .quo t x y u) ty pos aI g) ts ls h {} (.a (.d (.int k (k.wrap (m.tdiv n))))) ls h :=
 aq.dS fun j w jl a b=>by
  have h1:=b x (by simp [Op.operands]);have f:=b y (by simp [Op.operands]);rw [hx] at h1; rw [l] at f;exact⟨_,by simp [execOp,jO h1,jO f,C4,binOp,Op.intDiv,hn],aF.int _ _⟩
theorem aq.Pp {t u:TypeId}{x y:Operand}{k:IntKind}{m n:Int}(hx:ev ts x=.a (.d (.int k m))) (l:ev ts y=.a (.d (.int k n))) (hn:n≠0) :
  aq P (mk dst (.binOp .rem t x y u) ty pos aI g) ts ls h {} (.a (.d (.int k (m.tmod n)))) ls h :=
 aq.dS fun j w jl a b=>by
  have h1:=b x (by simp [Op.operands]);have f:=b y (by simp [Op.operands]);rw [hx] at h1; rw [l] at f;exact⟨_,by simp [execOp,jO h1,jO f,C4,binOp,Op.intDiv,hn],aF.int _ _⟩
theorem HD {P:Program}{t:TypeId}{b:TI}(f:aX P t=some b):∃d,P.underlying t=some d/\eU d=b.k:=by
 obtain⟨i,d,_,g,_,_,j,_⟩:=gj f;exact⟨d,g,j⟩
theorem HE {P:Program}{t:TypeId}{f:TI}{k:IntKind}(g:aX P t=some f) (hk:f.k=.int k):P.underlying t=some (.int k):=by
 obtain⟨d,h1,b⟩:=HD g;rw [hk] at b;cases d<;>simp [eU] at b;subst b; exact h1
theorem aq.Pq {s t:TypeId}{f b:TI}{x:Operand}{k k':IntKind}{n:Int}(hS:aX P s=some f) (l:aX P t=some b) (hk:b.k=.int k') (hx:ev ts x=.a (.d (.int k n))) :
  aq P (mk dst (.convert s t x) ty pos aI g) ts ls h {} (.a (.d (.int k' (k'.wrap n)))) ls h :=
 aq.dS fun j w jl a m=>by
  have h1:=m x (by simp [Op.operands]);rw [hx] at h1;obtain⟨d,p,_⟩:=HD hS;exact⟨.int k' (k'.wrap n),by simp [execOp,jO h1,convert,run_underlying p,run_underlying (HE l hk),Conv.intToInt],aF.int _ _⟩
def qb (s:Sl Int):Bs:=s.l.map fun n=>UInt8.ofNat n.toNat
theorem HF:∀(l:List Int) (r:ByteArray),l.foldl (fun r n=>r.push (UInt8.ofNat n.toNat)) r=⟨(r.data.toList++l.map fun n=>UInt8.ofNat n.toNat).toArray⟩
 | [],r=>by simp
 | a::l,r=>by rw [List.foldl_cons,HF l]; simp [ByteArray.push]
theorem aq.Pr {s e t:TypeId}{q u B:TI}{x:Operand}{tok:Option Nat}{y:Sl Int}(hS:aX P s=some q) (L:q.k=.slice e) (M:aX P e=some u) (he:u.k=.int .u8) (N:aX P t=some B) (ht:B.k=.str)
  (hx:ev ts x=.a (.d (Sl.d 1 (bI .u8) tok y))):aq P (mk dst (.convert s t x) ty pos aI g) ts ls h {} (.a (.d (.str (qb y)))) ls h :=
 aq.dS fun j w jl a O=>by
  have h1:=O x (by simp [Op.operands]);rw [hx] at h1;have f:aF j w (.slice 1 tok y.nl (y.l.map (bI .u8))) (a.eval x):=h1;have C:=kj hS L;have E:=HE M he;have F:=vw N ht;generalize hv:a.eval x=v at f;have G:(y.l.map (bI .u8)).flatten=y.l.map (D.int .u8):=by
   induction y.l with
   | nil=>rfl
   | cons a r p=>simp [bI,p]
  generalize H:y.l.map (bI .u8)=rows at f;generalize Y:y.nl=nl at f;cases f with
  | gu _ _ _ =>
   have Q:y.l=[]:=by simpa using H
   exact⟨.string .empty,by simp [execOp,hv,run_convert_bytes_string w s t e _ _ _ C E F,Conv.bytesToString],by
    show aF j w (.str (qb y)) _;rw [qb,Q]; exact aF.str [] (by simp [fJ])⟩
  | slice _ _ _ m cap cv hk hn hc bQ hr bt =>
   subst H;rw [List.length_map] at hn hc;have hlen:(y.l.map (bI .u8)).length=y.l.length:=by simp
   have Z:cC<=fJ:=by unfold cC fJ; omega
   have R:(loadCells m y.l.length).run P w=.ok (y.l.map (Value.int .u8)).toArray w:=by
    by_cases h0:y.l=[]
    ·rw [h0]; rfl
    ·have I:m.spot=none:=bQ.1.resolve_left (by simpa using h0);obtain⟨b,o,sp⟩:=m;simp only at I; subst I;obtain⟨cs,g1,g2⟩:=CZ (P:=P) (j:=j) (w:=w) (b:=b) (o:=o) (y.l.map (D.int .u8)) fun i z hz=>by
      have hi:i<(y.l.map (bI .u8)).flatten.length:=by rw [G]; exact(List.getElem?_eq_some_iff.1 hz).1
      refine⟨cv i,(bQ.2 i hi).2.1, ?_⟩;have J:=hr i hi;have S:(y.l.map (bI .u8)).flatten[i]=z:=by
       have K:(y.l.map (bI .u8)).flatten[i]?=some z:=by rw [G]; exact hz
       rw [List.getElem?_eq_getElem hi] at K; simpa using K
      rw [S] at J; exact J
     rw [List.length_map] at g2;rw [g2];have U:cs=y.l.map (Value.int .u8):=by
      clear g2;generalize y.l=l at g1;induction l generalizing cs with
      | nil=>cases g1; rfl
      | cons a r p =>
       rw [List.map_cons] at g1;cases g1 with
       | cons W X=>cases W; rw [p _ X,List.map_cons]
     rw [U]
   rw [hlen] at hv;refine⟨.string ⟨(qb y).toArray⟩, ?_, ?_⟩
   ·simp only [execOp,hv,Sem.run_bind,run_convert_bytes_string w s t e _ _ _ C E F,run_bytesToString w m _ cap y.l R,Result.andThen,Sem.run_pure];rw [HF]; simp [qb]
   ·exact aF.str _ (by simp only [qb,List.length_map]; omega)
end
def iq (P:Program) (o:Ab.Obj):Prop:=∃g t fr,o=.fix g (.cells (Lib.pow10Tab.map fun z=>Value.int .u64 z).toArray t fr)/\P.globalNamed "internal/strconv.uint64pow10"=some g
theorem iq.qc {P:Program}{o:Ab.Obj}(h:iq P o){j:J}{w:World}{id:Nat}(hr:iC j w id o):Lib.TabIs P w "internal/strconv.uint64pow10" .u64 Lib.pow10Tab:=by
 obtain⟨g,t,fr,rfl,hg⟩:=h;have b:w.heap[g]?=some _:=hr;unfold Lib.TabIs World.var?;rw [hg,Option.bind_some,b]
theorem Ps {P:Program}{ρ:Ren}(L:LaysM.n171 P ρ){n:Int}(h0 : -9223372036854775808<=n) (h1:n<=9223372036854775807){F:Nat}(g:F=ρ.f 171){H:af}{gT:Nat}{oT:Ab.Obj}(l:H gT=some oT) (m:iq P oT) (p:(Lib.itoa n).length<=fJ) :
  AC P F [.d (.int .i64 n)] H fun v h'=>v=.a (.d (.str (Lib.itoa n)))/\h'=H:=by
 subst g;refine⟨enters_of L.f171 (by kernel_rfl) rfl,fun j w c hr b=>?_⟩;cases b with
 | cons a1 b =>
 cases b;have q:aF j w (.int .i64 n) _:=a1;cases q;refine(Any.strconv_Itoa L n h0 h1 w (m.qc (hr.obj gT oT l).2)).mono ?_;rintro e w' ⟨rfl,k,os,rfl⟩;have hl:HL j w [] [] H:=⟨hr,⟨.nil,by simp,by simp⟩⟩;obtain⟨r,s⟩:=hl.grown k os;exact⟨_,_,j,H,rfl,⟨rfl,rfl⟩,aF.str _ p,r.1,s⟩
end Go.Ab
/-
 index of an array by value,whose elements are one cell each. No program text.
-/
namespace Go.Ab
open Go Go.RowKit
variable {av:bR}
theorem aq.Pt {α:Type}{f:α->D}{P:Program}{ts:Ts}{ls:List (List D)}{h:af}{dst:Option Tmp}{ty:TypeId}{pos:String}{aI:Array Edge}{g:Option (Nat×Bool)}{t e:TypeId}{n:Nat}{b:TI}{x ix:Operand}{p:IntKind}{z:Int}{l:List α}{y:α}(hu:P.underlying t=some (.array n e)) (q:P.underlying e=some .string) (r:aX P e=some b) (s:b.size=1) (hx:ev ts x=.a (.agg (l.map f))) (hi:ev ts ix=.a (.d (.int p z)))
  (hn:n=l.length) (hr:dh l z=some y):aq P (mk dst (.index t x ix) ty pos aI g) ts ls h {} (.a (.d (f y))) ls h :=
 aq.dS fun j w jl act k=>by
  have h1:=k x (by simp [Op.operands]);have m:=k ix (by simp [Op.operands]);rw [hx] at h1; rw [hi] at m;obtain⟨cs,u,B⟩:=h1;obtain⟨h0,hz⟩:=Hi hr;have bl:=(List.getElem?_eq_some_iff.1 hz).1;have C:z<(n:Int):=by omega
  obtain⟨v,hv,E⟩:=B.get (i:=z.toNat) (x:=f y) (by rw [List.getElem?_map,hz]; rfl);refine⟨v, ?_,E⟩;simp [execOp,u,jO m,Instr.index,asIntOf,eV hu,kg r,h0,C,s];have F:(Go.part e cs.toArray z.toNat).run P w=.ok v w:=by simp [Go.part,isAgg,run_underlying q,hv]
  rw [F]; rfl
end Go.Ab
/-
 A state in which a local's cells are read in another way is weaker. No program text.
-/
namespace Go.Ab
open Go Go.RowKit
variable {av:bR}
theorem ck.cq {fS:eT}{n:Nat}{ts:Ts}{ls:List (List D)}{h:af}(i:Nat){xs:List D}(l:List D) (hc:ls[i]?=some xs) (p:∀j w cs,fu j w h->aQ (aF j w) xs cs->aQ (aF j w) l cs) :
  ck ⟨n,ts,ls,h⟩ ⟨n,ts,ls.set i l,h⟩:=by
 intro j w jl a g;have hl:=g.hl;have q:aQ (fun xs b=>jA j w b xs) (ls.set i l) jl:=by
  refine aQ.jf (by rw [List.length_set,hl.2.each.length]) fun k x b hx m=>?_;rw [List.getElem?_set] at hx
  split at hx
  ·rename_i e
   subst e
   split at hx
   ·simp only [Option.some.injEq] at hx; subst hx;obtain⟨b',f,cs,r,h1,s,t⟩:=hl.2.each.get hc;rw [m] at f; simp only [Option.some.injEq] at f; subst f;exact⟨cs,r,h1,p j w _ hl.1 s,t⟩
   ·cases hx
  ·obtain⟨b',f,h1⟩:=hl.2.each.get hx;rw [m] at f; simp only [Option.some.injEq] at f; subst f;exact h1
 exact⟨j,jl,⟨g.defers,g.size,g.tmps,⟨hl.1,⟨q,hl.2.nodup,hl.2.apart⟩⟩⟩,bM.refl _ _ _⟩
end Go.Ab
/-
 Bound methods: functions that hold their first arguments; functions as parameters whose contract is told for one heap. No program text.
-/
namespace Go.Ab
open Go Go.RowKit
variable {av:bR}
def gL [bR] (P:Program) (fd:D) (args:List A) (H:af) (cZ:V->af->Prop):Prop :=
 match fd with
 | .func k cl=>AC P k (args++cl.map A.d) H cZ
 | .mX k bs=>AC P k (bs.map A.d++args) H cZ
 | _=>False
section
variable {P:Program}{ts:Ts}{ls:List (List D)}{h:af}{dst:Option Tmp}{ty:TypeId}{pos:String}{aI:Array Edge}{g:Option (Nat×Bool)}
theorem aq.Pu {f:FuncId}{b:Array Operand}{xs:List D}(hx:ud ts b.toList=some xs):aq P (mk dst (.makeFunc (.func f) b #[]) ty pos aI g) ts ls h {} (.a (.d (.mX f xs))) ls h :=
 aq.dS fun j w jl act l=>by
  have h1:=Ar (j:=j) (w:=w) (jl:=jl) (act:=act) b.toList xs hx fun x hx=>l x (by simp [Op.operands]; simpa using hx);refine⟨.func (.func f) (b.toList.map act.eval).toArray #[], ?_,aF.mX f xs _ h1.length fun i hi m=>?_⟩
  ·simp [execOp,Instr.makeFunc]
   apply Array.ext'; simp
  ·obtain⟨y,k,hr⟩:=h1.get (List.getElem?_eq_getElem hi);rw [List.getElem?_eq_getElem m] at k;simp only [Option.some.injEq] at k;rw [k]; exact hr
theorem Pv {f:Operand}{args:Array Operand}{cm:Array TypeId}{eB:FuncId}{bs:List D}{xs:List A}{cZ:V->af->Prop}{L:List (List D)}{H:af}(s:ev ts f=.a (.d (.mX eB bs))) (t:iX ts args.toList=some xs)
  (hc:AC P eB (bs.map .d++xs) H cZ) :
  dx P (mk dst (.call { callee:=.value f,args:=args,argTypes:=cm }) ty pos aI g) ts L H fun v aV h'=>cZ v h'/\aV=L:=by
 intro j w jl a hl k K Q hk;have h1:=k f (by simp [Op.operands,Call.operands]);rw [s] at h1;have u:=C9 (j:=j) (w:=w) (jl:=jl) (act:=a) args.toList xs t fun x hx=>k x (by simp [Op.operands,Call.operands]; right; simpa using hx);have p:aF j w (.mX eB bs) (a.eval f):=h1;generalize B:a.eval f=U at p;cases p with
 | mX _ _ lU hlen hr =>
  have C:aQ (dw j w) (bs.map .d++xs) (lU++args.toList.map a.eval):=by
   refine(aQ.jf (by simp [hlen]) fun i x y hx E=>?_).append u;rw [List.getElem?_map] at hx;cases e:bs[i]? with
   | none=>rw [e] at hx; simp at hx
   | some z =>
    rw [e] at hx; simp at hx; subst hx;obtain⟨hi,G⟩:=List.getElem?_eq_some_iff.1 e;obtain⟨I,J⟩:=List.getElem?_eq_some_iff.1 E;have:=hr i hi I;rw [G,J] at this; exact this
  have M:=hc.runs j w _ hl.1 C;have N:(execOp a.eval (mk dst (.call { callee:=.value f,args:=args,argTypes:=cm }) ty pos aI g)).run P w=.ok (.enter eB (lU++args.toList.map a.eval).toArray) w:=by
   have he:=hc.enter (lU++args.toList.map a.eval).toArray w;have O:lU.toArray++Array.map a.eval args=(lU++args.toList.map a.eval).toArray:=by apply Array.ext'; simp
   simp only [execOp,resolve,B,Deferred.ofValue,Sem.run_bind,Sem.run_pure,Result.andThen,invoke,List.append_eq,Array.append_empty];rw [O]; exact he
  unfold Oper.wp;rw [N,Oper.upon_enter];refine M.mono ?_;rintro e w' ⟨r,cv,j',h',rfl,R,hv,hh,m⟩;have q:∀b,b∈jl->b<w.heap.size:=fun b l=>aU.lt hl (.inl l);have S:∀b,b∈jl->w'.heap[b]?=w.heap[b]?/\j'.F b=j.F b:=fun b l=>m.frame b (q b l) (hl.2.apart b l);refine hk r L h' cv j' w' jl ⟨R,rfl⟩ (hv.mono (Le.refl _ _) (fun i b l=>by simp at l)) ⟨hh,⟨pW hl.2.each fun xs b l h=>h.keep m.toLe (S b l),hl.2.nodup,fun b l k=>hl.2.apart b l (m.own b (q b l) k)⟩⟩ (Ext.refl _) ?_
  refine { m with frame:=fun b l hn=>m.frame b l (fun k=>hn ?_),own:=fun b l k=>?_ }
  ·rcases k with k|k
   ·simp at k
   ·exact .inr k
  ·rcases k with k|k
   ·exact .inl k
   ·rcases m.own b l (.inr k) with h|h
    ·simp at h
    ·exact .inr h
theorem dx.Pw {f:Operand}{args:Array Operand}{cm:Array TypeId}{fd:D}{xs:List A}{cZ:V->af->Prop}{L:List (List D)}{H:af}(b:ev ts f=.a (.d fd)) (j:iX ts args.toList=some xs) (hc:gL P fd xs H cZ) :
  dx P (mk dst (.call { callee:=.value f,args:=args,argTypes:=cm }) ty pos aI g) ts L H fun v aV h'=>cZ v h'/\aV=L:=by
 cases fd with
 | func k cl=>exact xY b j hc
 | mX k bs=>exact Pv b j hc
 | _=>exact hc.elim
theorem aq.lZ {f:Operand}{args:Array Operand}{cm:Array TypeId}{fd:D}{xs:List A}{v:V}(b:ev ts f=.a (.d fd)) (j:iX ts args.toList=some xs)
  (hc:gL P fd xs h fun r h'=>r=v/\h'=h) :
  aq P (mk dst (.call { callee:=.value f,args:=args,argTypes:=cm }) ty pos aI g) ts ls h { rh:=true } v ls h:=by
 intro L H _ hH;have e:=hH rfl;subst e;exact(dx.Pw b j hc).mono fun _ _ _ ⟨⟨k,l⟩,m⟩=>⟨k,m,l⟩
end
end Go.Ab
/-
 Slices that may be stored to are cut: the tail is cleared,the front goes on under a number of its own. No program text.
-/
namespace Go.Ab
open Go Go.RowKit
variable {av:bR}
variable {fS:eT}
def J.tokT (j:J) (t b cap m:Nat):J:={ j with tok:=fun x=>if x=t then some ⟨some (b,cap),m⟩ else j.tok x }
theorem HL.Px {j:J}{w:World}{jl:List Nat}{ls:List (List D)}{h:af}(hl:HL j w jl ls h){k id t i:Nat}{rows:List (List D)}(hi:h id=some (.arr k rows)) (ht:h t=some (.arr k [])) (ae:t≠id) (hle:i<=rows.length) (R:0<i)
  {b cap:Nat}(G:j.tok id=some ⟨some (b,cap),rows.length⟩) :
  HL (j.tokT t b cap i) w jl ls ((h.set id none).set t (some (.arr k (rows.take i)))) /\
   bM j w (aU j h jl) (j.tokT t b cap i) w (aU (j.tokT t b cap i) ((h.set id none).set t (some (.arr k (rows.take i)))) jl):=by
 obtain⟨S,ag,U,W,_⟩:=hl.1.obj t _ ht;have X:j.tok t=some ⟨none,0⟩:=by rw [U,W.2 rfl]; rfl
 obtain⟨m,Y⟩:=hl.forget (av:=av) (h':=(h.set id none).set t none) fun n o hn=>by
  by_cases c:n=t
  ·subst c; rw [af.aS] at hn; cases hn
  ·rw [af.aO _ _ c] at hn;by_cases c:n=id
   ·subst c; rw [af.aS] at hn; cases hn
   ·rwa [af.aO h _ c] at hn
 obtain⟨_,dM,bt,_,H,ai,hblk⟩:=hl.1.obj id _ hi;rw [G] at bt;obtain rfl:some (b,cap)=dM:=by simpa using bt
 obtain⟨cs,ce,hg,Z,aa,aj,ab⟩:=hblk b cap rfl;have v:bJ j id (.arr k rows)=some b:=by simp [bJ,G]
 have I:∀f,(∀x,x∈f->x∈jl)->¬aU j ((h.set id none).set t none) f b:=by
  rintro f y (hm|⟨n,o,h1,g⟩)
  ·exact hl.2.apart b (y b hm) (.inr ⟨id,_,hi,v⟩)
  ·have c0:n≠t:=fun c=>by subst c; rw [af.aS] at h1; cases h1
   rw [af.aO _ _ c0] at h1;have c:n≠id:=fun c=>by subst c; rw [af.aS] at h1; cases h1
   rw [af.aO h _ c] at h1;exact c (hl.1.inj n o id _ b h1 hi g v)
 have z:Le j w (j.tokT t b cap i) w:=⟨Nat.le_refl _,fun _ _=>rfl,fun _=>Nat.le_refl _,fun _ _ _=>rfl,fun x _=>by
  by_cases c:x=t
  ·subst c; exact .inr ⟨_,⟨some (b,cap),i⟩,X,by simp [J.tokT],R⟩
  ·exact .inl (by simp [J.tokT,c]),fun _ _ _ _ _ h=>h⟩
 have K:∀n o,(h.set id none).set t none n=some o->n≠t:=fun n o hn c=>by subst c; rw [af.aS] at hn; cases hn
 have hk:=m.keep z (fun _ _=>⟨rfl,rfl⟩) (fun n _ ⟨o,p,_⟩=>by simp [J.tokT,K n o p]) m.1.fresh;have C:bJ (j.tokT t b cap i) t (.arr k (rows.take i))=some b:=by simp [bJ,J.tokT]
 have L:∀f,(∀x,x∈f->x∈jl)->¬aU (j.tokT t b cap i) ((h.set id none).set t none) f b:=by
  rintro f y (hm|⟨n,o,h1,g⟩)
  ·exact I f y (.inl hm)
  ·refine I f y (.inr ⟨n,o,h1, ?_⟩);have:=(m.1.obj n o h1).2.keep z (m.1.obj n o h1).1 (fun _ _=>⟨rfl,rfl⟩) (fun _=>by simp [J.tokT,K n o h1]);rw [<- this.2]; exact g
 have l:∀n,n≠t->(h.set id none).set t (some (.arr k (rows.take i))) n=(h.set id none).set t none n:=fun n c=>by rw [af.aO _ _ c,af.aO _ _ c]
 have M:∀f x,aU (j.tokT t b cap i) ((h.set id none).set t (some (.arr k (rows.take i)))) f x->x=b\/aU (j.tokT t b cap i) ((h.set id none).set t none) f x:=by
  rintro f x (hm|⟨n,q,hn,e⟩)
  ·exact .inr (.inl hm)
  ·by_cases c:n=t
   ·subst c; rw [af.aS] at hn; simp only [Option.some.injEq] at hn; subst hn;rw [C] at e; exact .inl (by simpa using e.symm)
   ·rw [l n c] at hn; exact .inr (.inr ⟨n,q,hn,e⟩)
 refine⟨⟨⟨fun n o hn=>?_,fun E N B O x h1 g s u=>?_,m.1.fresh⟩,⟨hk.1.2.each,hk.1.2.nodup,fun x hx p=>?_⟩⟩, ?_⟩
 ·by_cases c:n=t
  ·subst c; rw [af.aS] at hn; simp only [Option.some.injEq] at hn; subst hn;have hlen:(rows.take i).length=i:=by rw [List.length_take]; omega
   refine⟨S,some (b,cap),by simp [J.tokT,hlen],⟨by simp,fun e=>by rw [e] at hlen; simp at hlen; omega⟩,fun r hr=>H r (List.mem_of_mem_take hr),by rw [hlen]; omega,fun b' ak P=>?_⟩;simp only [Option.some.injEq,Prod.mk.injEq] at P;obtain⟨rfl,rfl⟩:=P;refine⟨cs,ce,hg,Z,aa,by rw [hlen]; omega, ?_⟩;have ad:(rows.take i).flatten=rows.flatten.take (i*k):=by
    have h1:rows.flatten=(rows.take i).flatten++(rows.drop i).flatten:=by rw [<- List.flatten_append,List.take_append_drop]
    have g:(rows.take i).flatten.length=i*k:=by rw [(g_ fun r hr=>H r (List.mem_of_mem_take hr)).1,hlen]
    rw [h1,List.take_left' g]
   rw [hlen,ad];have Q:=(ab.take (i*k)).imp fun _ _ h=>h.mono z;rw [List.take_take,Nat.min_eq_left (Nat.mul_le_mul_right k hle)] at Q;exact Q
  ·rw [l n c] at hn; exact hk.1.1.obj n o hn
 ·by_cases c1:E=t
  ·by_cases c2:B=t
   ·rw [c1,c2]
   ·subst c1; rw [af.aS] at h1; simp only [Option.some.injEq] at h1; subst h1;rw [C] at s; simp only [Option.some.injEq] at s; subst s;rw [l _ c2] at g;exact absurd (.inr ⟨B,O,g,u⟩) (L [] (by simp))
  ·by_cases c2:B=t
   ·subst c2; rw [af.aS] at g; simp only [Option.some.injEq] at g; subst g;rw [C] at u; simp only [Option.some.injEq] at u; subst u;rw [l _ c1] at h1;exact absurd (.inr ⟨E,N,h1,s⟩) (L [] (by simp))
   ·rw [l _ c1] at h1; rw [l _ c2] at g;exact hk.1.1.inj E N B O x h1 g s u
 ·rcases M [] x p with rfl|F
  ·exact hl.2.apart x hx (.inr ⟨id,_,hi,v⟩)
  ·exact hk.1.2.apart x hx F
 ·refine { (bM.refl j w (aU j h jl)) with toLe:=z,frame:=fun _ _ _=>⟨rfl,rfl⟩,own:=fun x hx p=>?_ };rcases M jl x p with rfl|F
  ·exact .inr ⟨id,_,hi,v⟩
  ·exact Y.own x hx ((hk.2 x).1 F)
section
variable {P:Program}{ops:Array Oper}{rest:List Oper}{Q':St->Prop}{n:Nat}{ts:Ts}{ls:List (List D)}{h:af}{α:Type}{f:α->List D}{d:Nat}{ty:TypeId}{pos:String}{aI:Array Edge}
def bP (k id:Nat) (nl:Bool) (n:Nat):D:=bif Nat.beq n 0 then .slice k none nl [] else .arr k id nl n
theorem HG {k id n:Nat}{nl:Bool}(h:0<n):bP k id nl n=.arr k id nl n:=by unfold bP; cases n with|zero=>omega|succ _=>rfl
theorem ur {j:J}{w:World}{k:Nat}{nl:Bool}{b:Option Addr}{cap:Nat}(h:nl=b.isNone) (hc:nl=true->cap=0):aF j w (.slice k none nl []) (.slice b 0 cap):=by
 subst h;cases b with
 | none=>obtain rfl:=hc rfl; exact .gu _ _ (by simp)
 | some b=>exact .slice k none [] b cap (fun _=>undef) (by simp) (by simp) (by simp) ⟨.inl rfl,by simp⟩ (by simp) (fun t ht=>by cases ht)
variable {dst:Option Tmp}{g:Option (Nat×Bool)}
theorem HL.vL {j:J}{w:World}{jl:List Nat}{ls:List (List D)}{h:af}(hl:HL j w jl ls h){k id t i:Nat}{nl:Bool}{rows:List (List D)}(hi:h id=some (.arr k rows)) (ht:h t=some (.arr k [])) (p:t≠id) (hle:i<=rows.length)
  {l:Option Addr}{cap:Nat}(h1:bp j w jl (.a (.d (.arr k id nl rows.length))) (.slice l rows.length cap)) :
  rows.length<=cap/\(∀b,l=some b->rows≠[]->b.add 0=b)/\∃j',aF j' w (bP k t nl i) (.slice l i cap)/\HL j' w jl ls ((h.set id none).set t (some (.arr k (rows.take i))))/\bM j w (aU j h jl) j' w (aU j' ((h.set id none).set t (some (.arr k (rows.take i)))) jl):=by
 have g:HL j w jl ls (h.set id none)/\bM j w (aU j h jl) j w (aU j (h.set id none) jl):=hl.forget (av:=av) fun q o hn=>by
  by_cases c:q=id
  ·subst c; rw [af.aS] at hn; cases hn
  ·rwa [af.aO h _ c] at hn
 have same:(h.set id none).set t (some (.arr k []))=h.set id none:=af.kf _ t _ (by rw [af.aO _ _ p]; exact ht);rcases hl.rP hi rfl h1 with ⟨base,f,m,v,r⟩|⟨b,z,B,ce,f,m,r,hg,C,E,y,F,G⟩
 ·subst v;obtain rfl:i=0:=by simpa using hle
  simp only [Value.slice.injEq] at f;obtain⟨rfl,_,rfl⟩:=f;refine⟨by simp,fun _ _ h=>absurd rfl h,j,ur m (fun _=>rfl), ?_, ?_⟩<;>rw [List.take_nil,same]
  ·exact g.1
  ·exact g.2
 ·simp only [Value.slice.injEq] at f;obtain⟨rfl,_,rfl⟩:=f;refine⟨y,fun b' e _=>by simp only [Option.some.injEq] at e; subst e; simp [Addr.add], ?_⟩;subst m;by_cases s:i=0
  ·subst s;refine⟨j,ur rfl (fun h=>by cases h), ?_, ?_⟩<;>rw [List.take_zero,same]
   ·exact g.1
   ·exact g.2
  ·have u:0<i:=Nat.pos_of_ne_zero s;obtain⟨c1,c2⟩:=hl.Px (av:=av) hi ht p hle u r;refine⟨_, ?_,c1,c2⟩;rw [HG u];refine aF.arr _ _ _ _ _ _ (hl.1.obj t _ ht).1 fun tk bt=>?_;simp only [J.tokT,if_true,Option.some.injEq] at bt;subst bt;exact⟨by simp,fun _=>.inr ⟨_,rfl,rfl,rfl⟩⟩
theorem aq.DC {t e:TypeId}{p q:TI}{x o:Operand}{v:IntKind}{k id m i tid:Nat}{nl:Bool}{rows:List (List D)}(y:aX P t=some p) (hk:p.k=.slice e) (z:aX P e=some q)
  (hx:ev ts x=.a (.d (.arr k id nl m))) (B:ev ts o=.a (.d (.int v (i:Int)))) (hh:h id=some (.arr k rows)) (ht:h tid=some (.arr k [])) (C:tid≠id) (hm:m=rows.length) (hi:i<=rows.length) :
  aq P (mk dst (.slice t x none (some o) none) ty pos aI g) ts ls h { rh:=true,wh:=true } (.a (.d (bP k tid nl i))) ls ((h.set id none).set tid (some (.arr k (rows.take i)))):=by
 refine aq.of_run fun L H _ hH j w jl a hl s=>?_;have E:=hH rfl;subst E hm;have h1:bp j w jl (.a (.d (.arr k id nl rows.length))) (a.eval x):=by have:=s x (by simp [Op.operands]); rw [hx] at this; exact this
 obtain⟨f,cap,u,_⟩:=vH h1;rw [u] at h1;obtain⟨I,J,j',g1,g2,g3⟩:=hl.vL (av:=av) hh ht C hi h1;refine⟨_,w,.slice f i cap,j',jl, ?_,.inl rfl,g1,g2,Ext.refl _,g3⟩;have F:(Instr.sliceBound (a.eval o) cap .sliceAcap).run P w=.ok i w:=by
  have:=oA (P:=P) (cap:=cap) B (s o (by simp [Op.operands])) (by omega) (by omega) .sliceAcap;rw [this]; simp
 have:=Ax y hk z (a:=f) (len:=rows.length) (cap:=cap) (lo:=none) (hi:=some (a.eval o)) (w:=w) (l:=0) (r:=i) (by simp) F;have G:(if cap=0 then f else f.map (·.add (0*q.size)))=f:=by
  split
  ·rfl
  ·cases f with
   | none=>rfl
   | some b=>simp [Addr.add]
 rw [G] at this;simp only [execOp,Sem.run_bind,u,Option.map_none,Option.map_some,this,Result.andThen,Sem.run_pure,Nat.sub_zero]
theorem ah.vL {c:Code}{Q:Exit->St->Prop}(s id tid:Nat){k m:Nat}{nl:Bool}{rows:List (List D)}(g:get ts s=.a (.d (.arr k id nl m))) (hh:h id=some (.arr k rows)) (ht:h tid=some (.arr k [])) (l:tid≠id) (hm:m=rows.length)
  (hw:ah P c Q ⟨n,(s,.a (.d (bP k tid nl m)))::ts,ls,(h.set id none).set tid (some (.arr k rows))⟩):ah P c Q ⟨n,ts,ls,h⟩:=by
 intro j w jl a b;subst hm;have h1:bp j w jl (get ts s) (a.tmps.getD s undef):=b.tmps s;rw [g] at h1;obtain⟨p,cap,f,_⟩:=vH h1;rw [f] at h1;obtain⟨_,_,j',g1,g2,g3⟩:=b.hl.vL (av:=av) hh ht l (Nat.le_refl _) h1;rw [List.take_length] at g2 g3;refine wp_mono (hw j' w jl a ⟨b.defers,b.size,fun i=>?_,g2⟩) fun e a w hq=>AQ.trans g3 hq;by_cases e:s=i
 ·subst e;show bp _ _ _ (get ((s,_)::ts) s) _;rw [gh,f]; exact g1
 ·show bp _ _ _ (get ((s,_)::ts) i) _;rw [gZ _ _ e];exact(b.tmps i).mono g3.toLe (Ext.refl _)
theorem ah.DD {c:Code}{Q:Exit->St->Prop}(id:Nat){k:Nat}{l:List α}(hh:h id=some (.arr k (l.map f))) (hw:l.length<=140737488355328->ah P c Q ⟨n,ts,ls,h⟩):ah P c Q ⟨n,ts,ls,h⟩:=fun j w jl a b =>
 hw (by obtain⟨_,_,_,_,_,g,_⟩:=b.hl.1.obj id _ hh; simpa [cC] using g) j w jl a b
theorem aq.rS {t e:TypeId}{b:TI}{x:Operand}{cm:Array TypeId}{k id m:Nat}{nl:Bool}(f:aX P t=some b) (hk:b.k=.slice e) (bQ:cm[0]?=some t)
  (hx:ev ts x=.a (.d (bP k id nl m))):aq P (mk dst (.call { callee:=.builtin .len,args:=#[x],argTypes:=cm }) ty pos aI g) ts ls h {} (.a (.d (.int .i64 (m:Int)))) ls h:=by
 cases m with
 | zero=>exact aq.GO f hk bQ hx
 | succ m=>exact aq.Hl f hk bQ hx
theorem AC.bP {f:FuncId}{args:List A}{k id m:Nat}{nl:Bool}{l:af}{rows:List (List D)}(hc:AC P f args h fun v h'=>v=.a (.d (.arr k id nl m))/\h'=l) (hH:l id=some (.arr k rows)) (hm:m=rows.length) :
  AC P f args h fun v h'=>v=.a (.d (Ab.bP k id nl m))/\h'=l:=by
 cases m with
 | succ m=>exact hc
 | zero =>
  refine⟨hc.1,fun j w dc hr s=>(hc.2 j w dc hr s).mono ?_⟩;rintro e w' ⟨v,cv,j',h',he,⟨rfl,rfl⟩,hv,q,t⟩;refine⟨_,cv,j',h',he,⟨rfl,rfl⟩, ?_,q,t⟩;have r:bp j' w' [] (.a (.d (.arr k id nl rows.length))) cv:=by rw [<- hm]; exact hv
  obtain⟨u,cap,g,_⟩:=vH r;have hl:HL j' w' [] [] h':=⟨q,⟨.nil,by simp,by simp⟩⟩;have h0:rows=[]:=by cases rows with|nil=>rfl|cons _ _=>cases hm
  show aF j' w' (.slice k none nl []) cv;rcases hl.rP hH rfl r with ⟨base,g,p,_⟩|⟨b,y,z,ce,g,p,_⟩
  ·rw [g]; exact ur p fun _=>rfl
  ·subst h0; rw [g,p]; exact ur rfl fun h=>by cases h
theorem Py {j:J}{w:World}{z:A}{zv:Value}(hz:dw j w z zv){k m:Nat}(hk:(ct z).length=k):aQ (aF j w) (List.replicate m (ct z)).flatten (Builtin.zeroCells zv.cells m).toList:=by
 have hc:=hz.cells;have g:zv.cells.size=k:=by have:=hc.length; rw [hk] at this; simpa using this.symm
 have l:∀r∈List.replicate m (ct z),r.length=k:=fun r hr=>by rw [(List.mem_replicate.1 hr).2]; exact hk
 have s:=g_ l;have hlen:(List.replicate m (ct z)).flatten.length=m*k:=by rw [s.1,List.length_replicate]
 refine aQ.jf (by rw [hlen]; simp [Builtin.zeroCells,g]) fun p x y hx b=>?_;have f:p<m*k:=by rw [<- hlen]; exact(List.getElem?_eq_some_iff.1 hx).1
 have q:0<k:=Nat.pos_of_ne_zero fun e=>by rw [e] at f; simp at f
 have t:p % k<k:=Nat.mod_lt _ q;have u:p / k<m:=(Nat.div_lt_iff_lt_mul q).2 f;have h1:=Hj l (i:=p / k) (o:=p % k) (row:=ct z) (by simp [List.getElem?_replicate,u]) t;rw [Nat.div_add_mod'] at h1;rw [h1] at hx;obtain⟨v,hv,hr⟩:=hc.get hx;have B:y=v:=by
  simp only [Builtin.zeroCells,Array.getElem?_toList,Array.getElem?_map,g] at b;rw [Array.getElem?_range,if_pos f] at b;simp only [Option.map_some,Option.some.injEq] at b;rw [Array.getElem?_toList] at hv;rw [<- b,getElem!_def,hv]
 rw [B]; exact hr
theorem aJ.DE {t e:TypeId}{X B:TI}{x o:Operand}{ar:IntKind}{k id m i:Nat}{nl:Bool}{l:List α}{z:A}{oF:α}{E:TypeId}{H:String}{I:Array Edge}(Y:aX P t=some X) (hk:X.k=.slice e) (Z:aX P e=some B)
  (hz:B.zero=some z) (L:(ct z).length=B.size) (aa:f oF=ct z)
  (hx:ev ts x=.a (.d (.arr k id nl m))) (au:ev ts o=.a (.d (.int ar (i:Int)))) (F:k=B.size) (hh:h id=some (.arr k (l.map f))) (hm:m=l.length) (hi:i<=l.length) (ab:Nat.blt d n=true)
  (hr:aJ P ops rest Q' ⟨n,(d,.any)::ts,ls,h.set id (some (.arr k ((l.take i++List.replicate (l.length-i) oF).map f)))⟩) :
  aJ P ops (⟨some d,.slice t x (some o) none none,ty,pos,aI,none⟩::⟨none,.call { callee:=.builtin .clear,args:=#[.tmp d],argTypes:=#[t] },E,H,I,none⟩::rest) Q' ⟨n,ts,ls,h⟩:=by
 intro j w jl a u ad aw;subst hm;have h1:bp j w jl (.a (.d (.arr k id nl (l.map f).length))) (a.eval x):=by have:=oy u.tmps x; rw [hx] at this; simpa using this
 have ax:bp j w jl (ev ts o) (a.eval o):=oy u.tmps o;have bl:d<a.tmps.size:=by have:Nat.blt d n=true:=ab; rw [u.size]; simpa [Nat.blt_eq] using this
 have ay:∀cv,(a.put (some d) cv).eval (.tmp d)=cv:=fun cv=>by simp [Act.eval,Act.put,Array.getD_eq_getD_getElem?,bl]
 obtain⟨bh,bi,az,_,bj,bk,_,ae⟩:=gj Z;rw [hz] at ae;obtain⟨zv,aB,aC⟩:=nc ae;have ag:=kj Y hk
 -- what the tail is
 have cut:∀(s:Option Addr) (cap:Nat),a.eval x=.slice s l.length cap->(execOp a.eval ⟨some d,.slice t x (some o) none none,ty,pos,aI,none⟩).run P w=.ok (.value (.slice (if cap=i then s else s.map (·.add (i*B.size))) (l.length-i) (cap-i))) w:=by
  intro s cap y;have aD:(Instr.sliceBound (a.eval o) l.length .sliceB).run P w=.ok i w:=by
   have:=oA (P:=P) (cap:=l.length) au ax (by omega) (by omega) .sliceB;rw [this]; simp
  have:=Ax Y hk Z (a:=s) (len:=l.length) (cap:=cap) (lo:=some (a.eval o)) (hi:=none) (w:=w) (l:=i) (r:=l.length) aD (by simp);simp only [execOp,Sem.run_bind,y,Option.map_none,Option.map_some,this,Result.andThen,Sem.run_pure]
 have go:∀(cv:Value) (w':World) (j':J) (r:Value),(execOp a.eval ⟨some d,.slice t x (some o) none none,ty,pos,aI,none⟩).run P w=.ok (.value cv) w ->
   (Builtin.clear_ #[t] E #[cv]).run P w=.ok r w' ->
   HL j' w' jl ls (h.set id (some (.arr k ((l.take i++List.replicate (l.length-i) oF).map f))))->bM j w (aU j h jl) j' w' (aU j' (h.set id (some (.arr k ((l.take i++List.replicate (l.length-i) oF).map f)))) jl) ->
   wpList P ops ad (⟨some d,.slice t x (some o) none none,ty,pos,aI,none⟩::⟨none,.call { callee:=.builtin .clear,args:=#[.tmp d],argTypes:=#[t] },E,H,I,none⟩::rest) a w:=by
  intro cv w' j' r aE aG aH ai;refine wpList_step fun K aK=>?_;rw [if_pos (rD rfl)];unfold Oper.wp;rw [aE,Oper.upon_value];refine aK _ _ ?_;refine wpList_step fun bm aL=>?_;rw [if_pos (rD rfl)];unfold Oper.wp;have aM:(execOp (a.put (some d) cv).eval ⟨none,.call { callee:=.builtin .clear,args:=#[.tmp d],argTypes:=#[t] },E,H,I,none⟩).run P w=.ok (.value r) w':=by
   simp [execOp,resolve,invoke,builtin,ay,aG]
  rw [aM,Oper.upon_value];refine aL _ _ ?_;have s1:=u.put ai.toLe (Ext.refl _) (dst:=some d) ab (v:=.any) (cv:=cv) trivial aH;exact hr j' w' jl _ s1 ad fun aP aR aT aV a2 hq aW aY=>aw aP aR aT aV a2 hq aW (ai.trans aY)
 by_cases aj:i=l.length
 ·have same:h.set id (some (.arr k ((l.take i++List.replicate (l.length-i) oF).map f)))=h:=by
   rw [aj,List.take_length,Nat.sub_self,List.replicate_zero,List.append_nil]; exact af.kf h id _ hh
  obtain⟨s,cap,y,_⟩:=vH h1;rw [List.length_map] at y;refine go _ w j (.tuple #[]) (cut s cap y) ?_ (by rw [same]; exact u.hl) (by rw [same]; exact bM.refl _ _ _);rw [aj,Nat.sub_self];generalize (if cap=l.length then s else s.map (·.add (l.length*B.size)))=q;cases q<;>simp [Builtin.clear_,run_underlying ag]
 ·have M:i<l.length:=by omega
  rcases u.hl.rP hh (by simp) h1 with ⟨base,y,aZ,a0,N⟩|⟨b,cap,g,ce,y,aZ,N,hg,a1,O,Q,ak,al⟩
  ·have:l=[]:=by simpa using a0
   subst this; simp at M
  ·rw [List.length_map] at y Q al;have a3:w.heap[b]?=some (.cells g.toList.toArray ce (0,0)):=by simpa using hg
   have bo:l.length*k<=cap*k:=Nat.mul_le_mul_right _ Q;have a4:i*k<=l.length*k:=Nat.mul_le_mul_right _ hi;have a5:g.toList.length=cap*k:=by simpa using a1
   generalize R:(Builtin.zeroCells zv.cells (l.length-i)).toList=p;have S:∀j w,aQ (aF j w) (List.replicate (l.length-i) (ct z)).flatten p:=fun j w=>by rw [<- R]; exact Py (aC j w) (L.trans F.symm)
   have bq:p.length=(l.length-i)*k:=by
    rw [<- (S j w).length,(g_ (k:=k) fun r hr=>by rw [(List.mem_replicate.1 hr).2]; exact L.trans F.symm).1,List.length_replicate]
   have br:(l.length-i)*k=l.length*k-i*k:=Nat.sub_mul _ _ _;obtain⟨w',a6,U⟩:=xU (av:=av) (P:=P) (off:=i*k) p 0 g.toList w a3 (by omega) (An (S j w));have a7:(if cap=i then some (⟨b,0,none⟩:Addr) else(some (⟨b,0,none⟩:Addr)).map (·.add (i*B.size)))=some ⟨b,i*k,none⟩:=by
    rw [if_neg (by omega)]; simp [add_plain,F]
   have am:∀a_,bJ j id (.arr k a_)=some b:=fun _=>by simp [bJ,N]
   have a8:=U.le (j:=j) O;have C:(l.take i++List.replicate (l.length-i) oF).length=l.length:=by simp; omega
   obtain⟨a9,G⟩:=u.hl.setObj (o':=.arr k ((l.take i++List.replicate (l.length-i) oF).map f)) hh (am _) (am _) O U (by
    refine⟨some (b,cap),by rw [List.length_map,C]; simpa using N,⟨by simp,fun e=>by have:=congrArg List.length e; rw [List.length_map,C] at this; rw [this] at M; exact absurd M (Nat.not_lt_zero _)⟩,fun r a'=>?_,by
     rw [List.length_map,C]; obtain⟨_,_,_,_,_,ba,_⟩:=u.hl.1.obj id _ hh; simpa using ba,fun b' bs an=>?_⟩
    ·obtain⟨q,hq,rfl⟩:=List.mem_map.1 a';rcases List.mem_append.1 hq with hq|hq
     ·exact ak _ (List.mem_map.2 ⟨q,List.mem_of_mem_take hq,rfl⟩)
     ·rw [(List.mem_replicate.1 hq).2,aa]; exact L.trans F.symm
    ·simp only [Option.some.injEq,Prod.mk.injEq] at an;obtain⟨rfl,rfl⟩:=an;refine⟨_,ce,U.here,by rw [uc]; exact a5,O,by rw [List.length_map,C]; exact Q, ?_⟩;rw [List.length_map,C,List.map_append,List.flatten_append,List.map_replicate,aa];have bb:(cN g.toList (i*k+0) p).take (l.length*k)=(g.toList.take (i*k))++p:=by
      rw [Nat.add_zero];have bc:g.toList=g.toList.take (i*k)++(g.toList.drop (i*k)).take p.length++(g.toList.drop (i*k)).drop p.length:=by
       rw [List.append_assoc,List.take_append_drop,List.take_append_drop]
      have ao:((g.toList.drop (i*k)).take p.length).length=p.length:=by rw [List.length_take,List.length_drop]; omega
      have W:(g.toList.take (i*k)).length=i*k:=by rw [List.length_take]; omega
      have G:=C8 (g.toList.take (i*k)) ((g.toList.drop (i*k)).take p.length) p ao;rw [W] at G;conv=>lhs; rw [bc]
      rw [Dq _ _ _ _ (by simp only [List.length_append,ao,W]; omega),G];rw [List.take_left' (by simp only [List.length_append,W]; omega)]
     rw [bb];have bd:((l.take i).map f).flatten=((l.map f).flatten).take (i*k):=by
      have be:(l.map f).flatten=((l.take i).map f).flatten++((l.drop i).map f).flatten:=by rw [<- List.flatten_append,<- List.map_append,List.take_append_drop]
      have bf:((l.take i).map f).flatten.length=i*k:=by
       rw [(g_ (k:=k) fun r hr=>by obtain⟨q,hq,rfl⟩:=List.mem_map.1 hr; exact ak _ (List.mem_map.2 ⟨q,List.mem_of_mem_take hq,rfl⟩)).1,List.length_map,List.length_take]; congr 1; omega
      rw [be,List.take_left' bf]
     rw [bd];have ap:=(al.take (i*k)).imp fun _ _ h=>h.mono a8;rw [List.take_take,Nat.min_eq_left a4] at ap;exact ap.append (S j w'))
   refine go _ w' j (.tuple #[]) (by have:=cut (some ⟨b,0,none⟩) cap y; rw [a7] at this; exact this) ?_ a9 G;have bg:l.length-i≠0:=by omega
   obtain⟨q,hq⟩:=Nat.exists_eq_succ_of_ne_zero bg;rw [hq];rw [hq] at R;simp [Builtin.clear_,run_underlying ag,zeroValue,typeInfo,az,aB,R,a6]
end
theorem AC.forget {P:Program}{f:FuncId}{args:List A}{h:af}{x:V}{H1 b:af}(hc:AC P f args h fun v h'=>v=x/\h'=H1) (g:∀n o,b n=some o->H1 n=some o):AC P f args h fun v h'=>v=x/\h'=b:=by
 refine⟨hc.1,fun j w dc hr k=>(hc.2 j w dc hr k).mono ?_⟩;rintro e w' ⟨v,cv,j',h',he,⟨rfl,rfl⟩,hv,l,m⟩;have hl:HL j' w' [] [] h':=⟨l,⟨.nil,by simp,by simp⟩⟩;obtain⟨h1,p⟩:=hl.forget (av:=av) g;exact⟨_,cv,j',b,he,⟨rfl,rfl⟩,hv,h1.1,m.trans p⟩
def l6 {α:Type}(p:α->Bool) (l:List α):Int:=match l.findIdx? p with|some i=>(i:Int)|none => -1
theorem DF {α:Type}{p:α->Bool}{l:List α}(h:∀x∈l,p x=false):l6 p l = -1:=by
 unfold l6;rw [List.findIdx?_eq_none_iff.2 h]
theorem DG {α:Type}{p:α->Bool}{l:List α}{i:Nat}{x:α}(h:∀y∈l.take i,p y=false) (hx:l[i]?=some x) (b:p x=true):l6 p l=(i:Int):=by
 obtain⟨hi,e⟩:=List.getElem?_eq_some_iff.1 hx;unfold l6;rw [List.findIdx?_eq_some_iff_getElem.2 ⟨hi,by rw [e]; exact b,fun j f=>?_⟩];rw [Bool.not_eq_true];exact h _ (List.mem_iff_getElem?.2 ⟨j,by rw [List.getElem?_take,if_pos f]; exact List.getElem?_eq_getElem (by omega)⟩)
theorem Pz {α:Type}{p:α->Bool}{l:List α}:decide ((0:Int)<=l6 p l)=l.any p:=by
 unfold l6;cases h:l.findIdx? p with
 | none=>rw [Bool.eq_iff_iff]; simp [List.findIdx?_eq_none_iff.1 h]; intro x hx; simpa using List.findIdx?_eq_none_iff.1 h x hx
 | some i =>
  obtain⟨hi,b,_⟩:=List.findIdx?_eq_some_iff_getElem.1 h;have:l.any p=true:=List.any_eq_true.2 ⟨_,List.getElem_mem hi,b⟩;rw [this]; simp
theorem DH {α:Type}{p:α->Bool}{l:List α}{i:Nat}{x:α}(h:∀y∈l.take i,p y=false) (hx:l[i]?=some x) (f:p x=false):∀y∈l.take (i+1),p y=false:=by
 intro y b;obtain⟨hi,e⟩:=List.getElem?_eq_some_iff.1 hx;rw [List.take_succ_eq_append_getElem hi] at b;rcases List.mem_append.1 b with b|b
 ·exact h y b
 ·rw [List.mem_singleton.1 b,e]; exact f
structure iN {α:Type}(p:α->Bool) (l bY:List α) (i j:Nat):Prop where
 len:bY.length=l.length
 jl:j<=l.length
 ij:i<j
 fr:bY.take i=(l.take j).filter fun x=>!p x
 dr:bY.drop j=l.drop j
theorem AL {α:Type}{p:α->Bool}{l:List α}(h:∀y∈l,p y=false):(l.filter fun x=>!p x)=l:=List.filter_eq_self.2 fun x hx=>by simp [h x hx]
theorem DI {α:Type}(p:α->Bool) (l:List α):(l6 p l = -1/\∀x∈l,p x=false)\/∃i:Nat,l6 p l=(i:Int)/\iN p l l i (i+1):=by
 unfold l6;cases h:l.findIdx? p with
 | none=>exact .inl ⟨rfl,List.findIdx?_eq_none_iff.1 h⟩
 | some i =>
  obtain⟨hi,b,f⟩:=List.findIdx?_eq_some_iff_getElem.1 h;refine .inr ⟨i,rfl,rfl,hi,Nat.lt_succ_self i, ?_,rfl⟩;rw [List.take_succ_eq_append_getElem hi,List.filter_append];have h1:[l[i]].filter (fun x=>!p x)=[]:=by simp [b]
  rw [h1,List.append_nil,AL];intro y g;obtain⟨n,hn⟩:=List.mem_iff_getElem?.1 g;rw [List.getElem?_take] at hn
  split at hn
  ·rename_i bl
   have:=f n bl;obtain⟨_,e⟩:=List.getElem?_eq_some_iff.1 hn;rw [<- e]; simpa using this
  ·cases hn
section
variable {α:Type}{p:α->Bool}{l bY:List α}{i j:Nat}{x:α}
theorem iN.at (h:iN p l bY i j) (hx:bY[j]?=some x):l[j]?=some x:=by
 have h1:=congrArg (fun z=>z[0]?) h.dr;simp only [List.getElem?_drop,Nat.add_zero] at h1;rw [<- h1]; exact hx
theorem iN.next (h:iN p l bY i j) (hx:bY[j]?=some x):bY.drop (j+1)=l.drop (j+1):=by
 have h1:=congrArg (fun z=>z.drop 1) h.dr
 simpa only [List.drop_drop] using h1
theorem iN.skip (h:iN p l bY i j) (hx:bY[j]?=some x) (b:p x=true):iN p l bY i (j+1):=by
 obtain⟨hi,e⟩:=List.getElem?_eq_some_iff.1 (h.at hx);refine⟨h.len,hi,Nat.lt_succ_of_lt h.ij, ?_,h.next hx⟩;rw [List.take_succ_eq_append_getElem hi,List.filter_append,e];have h1:[x].filter (fun x=>!p x)=[]:=by simp [b]
 rw [h1,List.append_nil]; exact h.fr
theorem iN.keep (h:iN p l bY i j) (hx:bY[j]?=some x) (b:p x=false):iN p l (bY.set i x) (i+1) (j+1):=by
 obtain⟨hi,e⟩:=List.getElem?_eq_some_iff.1 (h.at hx);have f:=h.ij;have hlen:=h.len;refine⟨by rw [List.length_set]; exact h.len,hi,Nat.succ_lt_succ h.ij, ?_, ?_⟩
 ·rw [List.take_succ_eq_append_getElem hi,List.filter_append,e];have h1:[x].filter (fun x=>!p x)=[x]:=by simp [b]
  rw [h1,<- h.fr,List.take_succ_eq_append_getElem (by rw [List.length_set]; omega),List.getElem_set_self,List.take_set_of_le (Nat.le_refl i)]
 ·rw [List.drop_set_of_lt (by omega)]; exact h.next hx
theorem iN.fin (h:iN p l bY i j) (f:¬j<l.length):i<=bY.length/\bY.take i=l.filter fun x=>!p x:=by
 have h1:=h.fr;have g:=h.ij;have k:=h.jl;have b:l.take j=l:=List.take_of_length_le (by omega);rw [b] at h1;exact⟨by rw [h.len]; omega,h1⟩
end
end Go.Ab
/-
 Many slices that may be stored to become data at once,wherever values tell them. No program text.
-/
namespace Go.Ab
open Go Go.RowKit
variable {av:bR}
variable {fS:eT}
theorem HL.PA {j:J}{w:World}{jl:List Nat}{ls:List (List D)}{h:af}(hl:HL j w jl ls h){k id:Nat}{rows:List (List D)}(hi:h id=some (.arr k rows)) :
  ∃j',HL j' w jl ls (h.set id none)/\bM j w (aU j h jl) j' w (aU j' (h.set id none) jl)/\∀k' nl cv,aF j w (.arr k' id nl rows.length) cv->aF j' w (.slice k none nl rows) cv:=by
 obtain⟨u,y⟩:=hl.forget (av:=av) (h':=h.set id none) fun n o hn=>by
  by_cases c:n=id
  ·subst c; rw [af.aS] at hn; cases hn
  ·rwa [af.aO h _ c] at hn
 obtain⟨_,dM,p,E,S,G,hblk⟩:=hl.1.obj id _ hi;cases dM with
 | none =>
  have H:=E.1 rfl;refine⟨j,u,y,fun k' nl cv hx=>?_⟩;rcases hl.rP hi rfl (k':=k') (nl:=nl) hx with ⟨base,g,l,_⟩|⟨b,cap,z,ce,g,l,f,_⟩
  ·subst H; rw [g]; exact ur l fun _=>rfl
  ·rw [p] at f; cases f
 | some I =>
  obtain⟨b,cap⟩:=I;obtain⟨U,W,hg,X,K,Y,Z⟩:=hblk b cap rfl;have bl:=jB hg;have q:bJ j id (.arr k rows)=some b:=by simp [bJ,p]
  have L:¬aU j (h.set id none) jl b:=by
   rintro (hm|⟨n,o,h1,M⟩)
   ·exact hl.2.apart b hm (.inr ⟨id,_,hi,q⟩)
   ·have c:n≠id:=fun c=>by subst c; rw [af.aS] at h1; cases h1
    rw [af.aO h _ c] at h1;exact c (hl.1.inj n o id _ b h1 hi M q)
  have hle:Le j w (j.eG b (rows.length*k)) w:=⟨Nat.le_refl _,fun _ _=>rfl,fun b'=>by
   simp only [J.eG]
   split
   ·rename_i e; rw [e,K]; exact Nat.zero_le _
   ·exact Nat.le_refl _,fun _ _ _=>rfl,fun _ _=>.inl rfl,fun _ _ _ _ _ h=>h⟩
  have r:∀b',b'≠b->(j.eG b (rows.length*k)).F b'=j.F b':=fun b' N=>by simp only [J.eG]; rw [if_neg N]
  have B:=u.keep hle (fun b' m=>⟨rfl,r b' (fun e=>L (e▸m))⟩) (fun _ _ _=>rfl) (fun b' s=>by rw [r b' (by omega)]; exact hl.1.fresh b' s);refine⟨j.eG b (rows.length*k),B.1,{ toLe:=hle,size:=Nat.le_refl _,frame:=fun b' _ m=>⟨rfl,r b' fun e=>m (e▸.inr ⟨id,_,hi,q⟩)⟩,own:=fun b' s m=>y.own b' s ((B.2 b').1 m),os:=rfl,tape:=rfl,output:=gb.rfl },fun k' nl cv hx=>?_⟩
  rcases hl.rP hi rfl (k':=k') (nl:=nl) hx with ⟨base,g,l,_,f⟩|⟨b',aa,z,ce,g,l,f,C,ab,ad,O,P,Q⟩
  ·rw [p] at f; cases f
  ·rw [p] at f;simp only [Option.some.injEq,Tk.mk.injEq,Prod.mk.injEq] at f;obtain⟨⟨rfl,rfl⟩,_⟩:=f;subst g l;refine vA P G O (fun i x hx=>?_) (fun t ht=>by cases ht) (fun _ _ _ _=>.cells C);obtain⟨v,hv,hr⟩:=Q.get hx;have R:i<rows.length*k:=by
    rcases Nat.lt_or_ge i (rows.length*k) with h|h
    ·exact h
    ·rw [List.getElem?_take,if_neg (by omega)] at hv; cases hv
   refine⟨by simp only [J.eG,if_true]; omega,v, ?_,hr.mono hle⟩;rw [Nat.zero_add,cell_of_row w b i z ce (0,0) C];rw [List.getElem?_take,if_pos R] at hv
   simpa using hv
def jj (h:af) (ids:List Nat):af:=fun x=>if x∈ids then none else h x
theorem PB (h:af) (id:Nat) (ids:List Nat):jj (h.set id none) ids=jj h (id::ids):=by
 funext x
 unfold jj;by_cases c:x∈ids
 ·rw [if_pos c,if_pos (by simp [c])]
 ·rw [if_neg c];by_cases e:x=id
  ·subst e; rw [af.aS,if_pos (by simp)]
  ·rw [af.aO _ _ e,if_neg (by simp [c,e])]
def rU (O:List (Nat×Obj)) (j:J) (w:World) (j':J):Prop:=Le j w j' w/\∀id k rows,(id,Obj.arr k rows)∈O->∀k' nl cv,aF j w (.arr k' id nl rows.length) cv->aF j' w (.slice k none nl rows) cv
theorem HL.HH {w:World}{jl:List Nat}{ls:List (List D)}:∀(O:List (Nat×Obj)){j:J}{h:af},HL j w jl ls h->(∀p∈O,h p.1=some p.2/\∃k rows,p.2=.arr k rows)->(O.map (·.1)).Nodup ->
  ∃j',HL j' w jl ls (jj h (O.map (·.1)))/\bM j w (aU j h jl) j' w (aU j' (jj h (O.map (·.1))) jl)/\rU O j w j'
 | [],j,h,hl,_,_=>by
  have e:jj h (([]:List (Nat×Obj)).map (·.1))=h:=by funext x; simp [jj]
  rw [e];exact⟨j,hl,bM.refl _ _ _,Le.refl _ _,fun _ _ _ hm=>by cases hm⟩
 | (id,o)::O,j,h,hl,g,hn=>by
  obtain⟨h1,k,rows,rfl⟩:=g (id,o) (.head _);dsimp only at h1;obtain⟨v,g1,g2,g3⟩:=hl.PA (av:=av) h1;rw [List.map_cons] at hn;obtain⟨m,r⟩:=List.nodup_cons.1 hn;have s:∀p∈O,p.1≠id:=fun p b e=>by
   have hm:=List.mem_map_of_mem (f:=fun q:Nat×Obj=>q.1) b;rw [e] at hm; exact m hm
  obtain⟨t,f1,f2,f3,f4⟩:=HL.HH O g1 (fun p b=>⟨by rw [af.aO _ _ (s p b)]; exact(g p (.tail _ b)).1,(g p (.tail _ b)).2⟩) r;rw [PB] at f1 f2;refine⟨t,f1,g2.trans f2,g2.toLe.trans f3,fun u k' a_ hm l nl cv hx=>?_⟩;rcases List.mem_cons.1 hm with e|hm
  ·simp only [Prod.mk.injEq,Obj.arr.injEq] at e;obtain⟨rfl,rfl,rfl⟩:=e;exact(g3 l nl cv hx).mono f3
  ·exact f4 u k' a_ hm l nl cv (hx.mono g2.toLe)
theorem aF.PC {j j':J}{w:World}(hle:Le j w j' w){k:Nat}{nl:Bool}{rows a_:List (List D)}{v:Value}(hlen:a_.length=rows.length) (hk:∀r∈a_,r.length=k) (hr:∀(i:Nat) x y u,rows.flatten[i]?=some x->a_.flatten[i]?=some y->aF j w x u->aF j' w y u)
  (h:aF j w (.slice k none nl rows) v):aF j' w (.slice k none nl a_) v:=by
 cases h with
 | gu _ _ _ =>
  have:a_=[]:=List.eq_nil_of_length_eq_zero hlen;subst this; exact .gu _ _ (by simp)
 | slice _ _ _ a cap cv b hn hc bQ f ht =>
  have g:a_.flatten.length=rows.flatten.length:=by rw [(g_ hk).1,(g_ b).1,hlen]
  rw [<- hlen];refine .slice k none a_ a cap cv hk (by omega) (by omega) ⟨bQ.1.imp (fun e=>by subst e; exact List.eq_nil_of_length_eq_zero hlen) id,fun i hi=>(bQ.mono hle).2 i (by omega)⟩ (fun i hi=>?_) (fun t ht=>by cases ht);exact hr i _ _ _ (List.getElem?_eq_getElem (by omega)) (List.getElem?_eq_getElem hi) (f i (by omega))
section
variable {P:Program}{c:Code}{Q:Exit->St->Prop}{n:Nat}{ts:Ts}{ls:List (List D)}{h:af}
theorem ah.PD (O:List (Nat×Obj)) (c0:Nat){xs l:List D}(hO:∀p∈O,h p.1=some p.2/\∃k rows,p.2=.arr k rows) (hn:(O.map (·.1)).Nodup) (hc:h c0=some (.cells xs)) (v:∀j w j' cs,rU O j w j'->aQ (aF j w) xs cs->aQ (aF j' w) l cs)
  (hw:ah P c Q ⟨n,ts,ls,(jj h (O.map (·.1))).set c0 (some (.cells l))⟩):ah P c Q ⟨n,ts,ls,h⟩:=by
 intro j w jl a g;have hold:=(g.hl.1.obj c0 _ hc).2;obtain⟨j',f1,f2,f3⟩:=HL.HH (av:=av) O g.hl hO hn;have y:c0∉O.map (·.1):=fun hm=>by
  obtain⟨p,z,e⟩:=List.mem_map.1 hm;obtain⟨g1,k,rows,g2⟩:=hO p z;rw [e,hc,g2] at g1; cases g1
 have q:jj h (O.map (·.1)) c0=some (.cells xs):=by unfold jj; rw [if_neg y]; exact hc
 have s1:gB j' w jl ⟨n,ts,ls,jj h (O.map (·.1))⟩ a:=⟨g.defers,g.size,fun i=>(g.tmps i).mono f2.toLe (Ext.refl _),f1⟩;obtain⟨cs,B,r,s,M⟩:=hold;have bl:=(g.hl.1.obj c0 _ hc).1;have C:j'.out c0=j.out c0:=f2.toLe.out c0 bl;have E:j'.F (j'.out c0)=0:=by
  obtain⟨_,_,_,_,G⟩:=(f1.1.obj c0 _ q).2;exact G
 have hr:fu j' w ((jj h (O.map (·.1))).set c0 (some (.cells l))):=by
  refine⟨fun m o hm=>?_,fun m1 o1 m2 o2 x h1 H r s=>?_,f1.1.fresh⟩
  ·by_cases e:m=c0
   ·subst e; rw [af.aS] at hm; obtain rfl:=Option.some.inj hm;exact⟨(f1.1.obj m _ q).1,cs,B,by rw [C]; exact r,v j w j' cs f3 s,E⟩
   ·rw [af.aO _ _ e] at hm; exact f1.1.obj m o hm
  ·have f:∀m o,((jj h (O.map (·.1))).set c0 (some (.cells l))) m=some o->∃o',jj h (O.map (·.1)) m=some o'/\bJ j' m o'=bJ j' m o:=fun m o hm=>by
    by_cases e:m=c0
    ·subst e; rw [af.aS] at hm; obtain rfl:=Option.some.inj hm;exact⟨_,q,rfl⟩
    ·rw [af.aO _ _ e] at hm; exact⟨o,hm,rfl⟩
   obtain⟨I,g1,J⟩:=f m1 o1 h1;obtain⟨K,g2,k2⟩:=f m2 o2 H;exact f1.1.inj m1 I m2 K x g1 g2 (J.trans r) (k2.trans s)
 have L:HL j' w jl ls ((jj h (O.map (·.1))).set c0 (some (.cells l))):=⟨hr,⟨f1.2.each,f1.2.nodup,fun b t u=>f1.2.apart b t ((aU.oE q).1 u)⟩⟩;refine wp_mono (hw j' w jl a ⟨g.defers,g.size,fun i=>(g.tmps i).mono f2.toLe (Ext.refl _),L⟩) fun e a w hq=>AQ.trans ?_ hq;exact { f2 with own:=fun b t u=>f2.own b t ((aU.oE q).1 u) }
def kw (h:af) (k:Nat) (l:List Nat):af:=fun x=>if x∈l then some (.arr k []) else h x
theorem ah.HI (k:Nat):∀(m:Nat){h:af},(∀l:List Nat,l.length=m->l.Nodup->(∀x∈l,h x=none)->ah P c Q ⟨n,ts,ls,kw h k l⟩)->ah P c Q ⟨n,ts,ls,h⟩
 | 0,h,hw=>by
  have:=hw [] rfl .nil (by simp);have e:kw h k []=h:=by funext x; simp [kw]
  rwa [e] at this
 | m+1,h,hw=>by
  refine ah.rQ k fun t ht=>ah.HI k m fun l hl hn b=>?_;have f:t∉l:=fun hm=>by have:=b t hm; rw [af.aS] at this; cases this
  have e:kw (h.set t (some (.arr k []))) k l=kw h k (t::l):=by
   funext x
   unfold kw;by_cases c:x∈l
   ·rw [if_pos c,if_pos (by simp [c])]
   ·rw [if_neg c];by_cases e:x=t
    ·subst e; rw [af.aS,if_pos (by simp)]
    ·rw [af.aO _ _ e,if_neg (by simp [c,e])]
  rw [e];refine hw (t::l) (by rw [List.length_cons,hl]) (List.nodup_cons.2 ⟨f,hn⟩) fun x hx=>?_;rcases List.mem_cons.1 hx with rfl|hx
  ·exact ht
  ·have:=b x hx;have g:x≠t:=fun e=>f (e▸hx)
   rwa [af.aO _ _ g] at this
end
def Th (j:J) (w:World) (j':J) (a b:D):Prop:=∀u,aF j w a u->aF j' w b u
theorem Th.same {j j':J}{w:World}(hle:Le j w j' w) (a:D):Th j w j' a a:=fun _ h=>h.mono hle
theorem Th.list {j j':J}{w:World}(hle:Le j w j' w):∀l:List D,aQ (Th j w j') l l
 | []=>.nil
 | a::l=>.cons (Th.same hle a) (Th.list hle l)
theorem Th.cells {j j':J}{w:World}{xs b:List D}{cs:List Value}(h:aQ (Th j w j') xs b) (hc:aQ (aF j w) xs cs):aQ (aF j' w) b cs:=by
 induction h generalizing cs with
 | nil=>cases hc; exact .nil
 | cons x _ f=>cases hc with|cons y t=>exact .cons (x _ y) (f t)
theorem Th.flat {j j':J}{w:World}{rows a_:List (List D)}(hr:aQ (fun r b=>aQ (Th j w j') r b) rows a_):aQ (Th j w j') rows.flatten a_.flatten:=by
 induction hr with
 | nil=>exact .nil
 | cons x _ f=>exact aQ.append x f
theorem Th.rows {j j':J}{w:World}(hle:Le j w j' w){k:Nat}{nl:Bool}{rows a_:List (List D)}(hk:∀r∈a_,r.length=k) (hr:aQ (fun r f=>aQ (Th j w j') r f) rows a_) :
  Th j w j' (.slice k none nl rows) (.slice k none nl a_):=fun u h=>by
 refine aF.PC hle hr.length.symm hk (fun i x y v hx g l=>?_) h;obtain⟨m,b,ht⟩:=(Th.flat hr).get hx;rw [g] at b; obtain rfl:=Option.some.inj b;exact ht v l
theorem DJ {α β b:Type}{R:β->b->Prop}{f:α->β}{g:α->b}:∀{l:List α},(∀x∈l,R (f x) (g x))->aQ R (l.map f) (l.map g)
 | [],_=>.nil
 | a::_,h=>.cons (h a (.head _)) (DJ fun x hx=>h x (.tail _ hx))
theorem Th.arr {O:List (Nat×Obj)}{j j':J}{w:World}(b:rU O j w j'){k id n:Nat}{nl:Bool}{rows:List (List D)}(hm:(id,Obj.arr k rows)∈O) (hn:n=rows.length):Th j w j' (bP k id nl n) (.slice k none nl rows):=fun u h=>by
 subst hn;cases e:rows with
 | nil=>subst e; exact aF.mono b.1 h
 | cons a l =>
  have f:0<rows.length:=by rw [e]; exact Nat.succ_pos _
  rw [HG f] at h;rw [<- e]; exact b.2 id k rows hm k nl u h
theorem ah.PE {P:Program}{c:Code}{Q:Exit->St->Prop}{n:Nat}{ts:Ts}{ls:List (List D)}{h:af}(O:List (Nat×Obj)) (c0:Nat){xs b:List D}(hO:∀p∈O,h p.1=some p.2/\∃k rows,p.2=.arr k rows) (hn:(O.map (·.1)).Nodup) (hc:h c0=some (.cells xs))
  (f:∀j w j',rU O j w j'->aQ (Th j w j') xs b) (hw:ah P c Q ⟨n,ts,ls,(jj h (O.map (·.1))).set c0 (some (.cells b))⟩):ah P c Q ⟨n,ts,ls,h⟩ :=
 ah.PD O c0 hO hn hc (fun j w j' _ g hx=>Th.cells (f j w j' g) hx) hw
theorem HL.DK {j:J}{w:World}{jl:List Nat}{ls:List (List D)}{h:af}(hl:HL j w jl ls h){c0:Nat}{xs:List D}(hc:h c0=some (.cells xs)) :
  HL j w (jl++[j.out c0]) (ls++[xs]) (h.set c0 none)/\bM j w (aU j h jl) j w (aU j (h.set c0 none) (jl++[j.out c0])):=by
 have k:=hl.forget (av:=av) (h':=h.set c0 none) fun n o hn=>by
  by_cases e:n=c0
  ·subst e; rw [af.aS] at hn; cases hn
  ·rwa [af.aO h _ e] at hn
 obtain⟨bl,cs,m,h1,p,q⟩:=hl.1.obj c0 _ hc;have r:∀n o,(h.set c0 none) n=some o->bJ j n o≠some (j.out c0):=fun n o hn e=>by
  have l:n≠c0:=fun e=>by rw [e,af.aS] at hn; cases hn
  rw [af.aO h _ l] at hn;exact l (hl.1.inj n o c0 _ _ hn hc e rfl)
 have s:j.out c0∉jl:=fun hm=>hl.2.apart _ hm (.inr ⟨c0,_,hc,rfl⟩);refine⟨⟨k.1.1,⟨k.1.2.each.append (.cons ⟨cs,m,h1,p,q⟩ .nil),List.nodup_append.2 ⟨hl.2.nodup,by simp,fun a t b g e=>?_⟩,fun b g f=>?_⟩⟩, ?_⟩
 ·rw [List.mem_singleton] at g; exact s (by rw [<- g,<- e]; exact t)
 ·rcases List.mem_append.1 g with g|g
  ·exact k.1.2.apart b g f
  ·rw [List.mem_singleton] at g;rcases f with f|⟨n,o,hn,e⟩
   ·cases f
   ·exact r n o hn (g▸e)
 ·refine { bM.refl j w (aU j h jl) with own:=fun b g f=>?_ };rcases f with f|f
  ·rcases List.mem_append.1 f with f|f
   ·exact .inl f
   ·rw [List.mem_singleton] at f; subst f; exact .inr ⟨c0,_,hc,rfl⟩
  ·exact k.2.own b g (.inr f)
theorem HL.DL {j:J}{w:World}{jl:List Nat}{b:Nat}{ls:List (List D)}{xs:List D}{h:af}(hl:HL j w (jl++[b]) (ls++[xs]) h) :
  HL (j.obj b) w jl ls (h.set j.next (some (.cells xs)))/\bM j w (aU j h (jl++[b])) (j.obj b) w (aU (j.obj b) (h.set j.next (some (.cells xs))) jl):=by
 have hle:Le j w (j.obj b) w:=⟨by simp [J.obj],fun id hi=>by simp only [J.obj]; rw [if_neg (by omega)],fun _=>Nat.le_refl _,fun _ _ _=>rfl,fun _ _=>.inl rfl,fun _ _ _ _ _ h=>h⟩;obtain⟨hk,t⟩:=hl.keep hle (fun _ _=>⟨rfl,rfl⟩) (fun _ _ _=>rfl) hl.1.fresh;have hlen:=hl.2.each.length;have q:jl.length=ls.length:=by simp at hlen; omega
 have u:jA (j.obj b) w b xs:=by
  obtain⟨y,l,hr⟩:=hk.2.each.get (i:=ls.length) (x:=xs) (by simp);rw [<- q] at l;simp at l; subst l; exact hr
 have r:aQ (fun xs b=>jA (j.obj b) w b xs) ls jl\/True:=.inr trivial;have r:∀{ls jl:List _},aQ (fun xs b'=>jA (j.obj b) w b' xs) (ls++[xs]) (jl++[b])->ls.length=jl.length->aQ (fun xs b'=>jA (j.obj b) w b' xs) ls jl:=fun {ls jl} v z=>by
  have:=v.take ls.length;rw [List.take_left] at this;rw [z,List.take_left] at this;exact this
 have B:=hl.1.lV (Nat.le_refl j.next);have C:=hl.2.nodup;obtain⟨E,I,F⟩:=List.nodup_append.1 C;have G:b∉jl:=fun hm=>F b hm b (by simp) rfl;have hold:∀id o,h id=some o->id≠j.next:=fun id o hi e=>by rw [e,B] at hi; cases hi
 have s:∀id o,h id=some o->bJ (j.obj b) id o≠some b:=fun id o hi e=>hk.2.apart b (by simp) (.inr ⟨id,o,hi,e⟩);obtain⟨cs,H,g1,g2,g3⟩:=u;have g:(j.obj b).out j.next=b:=by simp [J.obj]
 refine⟨⟨⟨fun id o hi=>?_,fun jg o1 jh o2 x h1 k m p=>?_,hk.1.fresh⟩,⟨r hk.2.each q.symm,E,fun x hx f=>?_⟩⟩, ?_⟩
 ·by_cases e:id=j.next
  ·subst e; rw [af.aS] at hi; obtain rfl:=Option.some.inj hi;exact⟨by simp [J.obj],cs,H,by rw [g]; exact g1,g2,by rw [g]; exact g3⟩
  ·rw [af.aO h _ e] at hi; exact hk.1.obj id o hi
 ·by_cases c1:jg=j.next<;>by_cases c2:jh=j.next
  ·omega
  ·subst c1; rw [af.aS] at h1; obtain rfl:=Option.some.inj h1;rw [af.aO h _ c2] at k;have:some ((j.obj b).out j.next)=some x:=m;rw [g] at this;exact absurd (this▸p) (s jh o2 k)
  ·subst c2; rw [af.aS] at k; obtain rfl:=Option.some.inj k;rw [af.aO h _ c1] at h1;have:some ((j.obj b).out j.next)=some x:=p;rw [g] at this;exact absurd (this▸m) (s jg o1 h1)
  ·rw [af.aO h _ c1] at h1; rw [af.aO h _ c2] at k;exact hk.1.inj jg o1 jh o2 x h1 k m p
 ·rcases f with f|⟨id,o,hi,e⟩
  ·cases f
  ·by_cases c:id=j.next
   ·subst c; rw [af.aS] at hi; obtain rfl:=Option.some.inj hi;have:some ((j.obj b).out j.next)=some x:=e;rw [g] at this;exact G (Option.some.inj this▸hx)
   ·rw [af.aO h _ c] at hi;exact hk.2.apart x (by simp [hx]) (.inr ⟨id,o,hi,e⟩)
 ·refine { bM.refl j w (aU j h (jl++[b])) with toLe:=hle,frame:=fun _ _ _=>⟨rfl,rfl⟩,own:=fun x _ f=>?_ };rcases f with f|⟨id,o,hi,e⟩
  ·exact .inl (by simp [f])
  ·by_cases c:id=j.next
   ·subst c; rw [af.aS] at hi; obtain rfl:=Option.some.inj hi;have:some ((j.obj b).out j.next)=some x:=e;rw [g] at this;exact .inl (by simp [Option.some.inj this])
   ·rw [af.aO h _ c] at hi;exact(t x).1 (.inr ⟨id,o,hi,e⟩)
section
variable {P:Program}{c:Code}{Q:Exit->St->Prop}{n:Nat}{ts:Ts}{ls:List (List D)}{h:af}
theorem ah.DK (s:Nat){c0:Nat}{xs:List D}(l:get ts s=.a (.d (.ptr c0 0))) (hc:h c0=some (.cells xs)) (hw:ah P c Q ⟨n,(s,.c_ ls.length 0)::ts,ls++[xs],h.set c0 none⟩):ah P c Q ⟨n,ts,ls,h⟩:=by
 intro j w jl a f;obtain⟨h1,m⟩:=f.hl.DK (av:=av) hc;have hlen:ls.length=jl.length:=f.hl.2.each.length;refine wp_mono (hw j w (jl++[j.out c0]) a ⟨f.defers,f.size,fun i=>?_,h1⟩) fun e a w hq=>AQ.trans m hq;by_cases e:s=i
 ·subst e;show bp _ _ _ (get ((s,_)::ts) s) _;rw [gh];have hv:bp j w jl (get ts s) (a.tmps.getD s undef):=f.tmps s;rw [l] at hv;have g:aF j w (.ptr c0 0) (a.tmps.getD s undef):=hv;generalize a.tmps.getD s undef=v at g;cases g with
  | ptr _ _ _=>exact⟨j.out c0,by rw [hlen]; simp,rfl⟩
 ·show bp _ _ _ (get ((s,_)::ts) i) _;rw [gZ _ _ e];exact(f.tmps i).mono (Le.refl _ _) fun k b hk=>by rw [List.getElem?_append_left (List.getElem?_eq_some_iff.1 hk).1]; exact hk
theorem ah.DL (s:Nat){xs:List D}{l:Ts}(y:get ts s=.c_ ls.length 0) (hk:dN ts ls.length l) (hw:∀c0,h c0=none->ah P c Q ⟨n,(s,.a (.d (.ptr c0 0)))::l,ls,h.set c0 (some (.cells xs))⟩):ah P c Q ⟨n,ts,ls++[xs],h⟩:=by
 intro j w jl a g;have hlen:(ls++[xs]).length=jl.length:=g.hl.2.each.length;have hv:bp j w jl (get ts s) (a.tmps.getD s undef):=g.tmps s;rw [y] at hv;obtain⟨b,u,ev⟩:=hv;have v:jl=jl.take ls.length++[b]:=by
  have h1:=List.take_append_drop ls.length jl;have bl:=(List.getElem?_eq_some_iff.1 u).1;have m:jl.drop ls.length=[b]:=by
   rw [List.drop_eq_getElem_cons bl,(List.getElem?_eq_some_iff.1 u).2,List.drop_eq_nil_of_le (by simp at hlen; omega)]
  rw [m] at h1; exact h1.symm
 have hl:HL j w (jl.take ls.length++[b]) (ls++[xs]) h:=by rw [<- v]; exact g.hl
 obtain⟨h1,m⟩:=hl.DL (av:=av);refine wp_mono (hw j.next (g.hl.1.lV (Nat.le_refl _)) (j.obj b) w (jl.take ls.length) a ⟨g.defers,g.size,fun i=>?_,h1⟩) fun e a w hq=>AQ.trans (by rw [<- v] at m; exact m) hq;by_cases e:s=i
 ·subst e;show bp _ _ _ (get ((s,_)::l) s) _;rw [gh,ev];have:=aF.ptr (j:=j.obj b) (w:=w) j.next 0 (by simp [J.obj]);rw [show (j.obj b).out j.next=b from by simp [J.obj]] at this;exact this
 ·show bp _ _ _ (get ((s,_)::l) i) _;rw [gZ _ _ e];rcases hk.get i with p|⟨p,bl,z⟩
  ·rw [p]; trivial
  ·have hv:=g.tmps i;have hv:bp j w jl (Ab.get ts i) (a.tmps.getD i undef):=hv;rw [<- p] at hv;have f:=hv.mono m.toLe (Ext.refl _);cases hx:Ab.get l i with
   | c_ q off =>
    rw [hx] at f;obtain⟨b',r,t⟩:=f;exact⟨b',by rw [List.getElem?_take_of_lt (bl q off hx)]; exact r,t⟩
   | iB c q off =>
    rw [hx] at f;refine⟨fun hc=>?_,f.2⟩;obtain⟨b',r,t⟩:=f.1 hc;exact⟨b',by rw [List.getElem?_take_of_lt (z c q off hx)]; exact r,t⟩
   | any=>trivial
   | a x=>rw [hx] at f; exact f
   | cI xs=>rw [hx] at f; exact f
   | gd c x=>rw [hx] at f; exact f
   | full k rows=>rw [hx] at f; exact f
   | rB c k rows=>rw [hx] at f; exact f
end
end Go.Ab
/-
 slices.Reverse over a slice that may be stored to; variables whose field is such a slice. No program text.
-/
namespace Go.Ab
open Go Go.RowKit Go.Proofs Go.Shelf Go.Sort
variable {av:bR}
section
variable {P:Program}{ρ:Ren}{T:Type} [Inhabited T] {v:T->Value}{d1:T->D}
end
theorem PF {j:J}{w:World}{h:af}{t k:Nat}{xs:List D}{cs:List Value}(i f g:Nat) (hh:fu j w h) (ht:h t=some (.arr k [])) (hx:aQ (aF j w) xs cs) (hi:xs[i]?=some (.slice f none true [])) :
  aQ (aF j w) (xs.set i (.arr g t true 0)) cs:=by
 refine aQ.jf (by rw [List.length_set,hx.length]) fun n x v hn hv=>?_;rw [List.getElem?_set] at hn
 split at hn
 ·rename_i e
  subst e
  split at hn
  ·simp only [Option.some.injEq] at hn; subst hn;obtain⟨l,b,hr⟩:=hx.get hi;rw [hv] at b; simp only [Option.some.injEq] at b; subst b;exact Hp hh ht hr
  ·cases hn
 ·obtain⟨l,b,hr⟩:=hx.get hn;rw [hv] at b; simp only [Option.some.injEq] at b; subst b;exact hr
end Go.Ab
namespace Go.Ab
variable {av:bR}
def on {α β:Sort _}(v:α) (k:α->β):β:=k v
namespace Q
universe u
variable {R O O2 Z:Type}{α:Type}
theorem jN {c:Bool}{a b r:α}(h:c=true) (f:a=r):cond c a b=r:=by rw [h]; exact f
theorem t_ {c:Bool}{a b r:α}(h:c=false) (f:b=r):cond c a b=r:=by rw [h]; exact f
theorem AM {c:Bool}{a b:Option R}{x y:O}{K:O->Option R}(h1:a=K x) (f:b=K y):cond c a b=K (cond c x y):=by cases c<;>assumption
theorem oG {c:Bool}{a b:Option R}{x y:Option O}{K:O->Option R}(h1:a=Option.bind x K) (f:b=Option.bind y K):cond c a b=Option.bind (cond c x y) K:=by cases c<;>assumption
theorem vM {o:Option α}{v:α}{k:α->Option R}{K:O->Option R}{b:α->O}(h:o=some v) (f:∀x,x=v->k x=K (b x)):o.bind k=K (on v b):=by rw [h]; exact f v rfl
theorem qd {o:Option α}{v:α}{k:α->Option R}{K:O->Option R}{b:α->Option O}(h:o=some v) (f:∀x,x=v->k x=Option.bind (b x) K):o.bind k=Option.bind (on v b) K:=by rw [h]; exact f v rfl
theorem AN {o o':Option α}{k:α->Option R}{K:O->Option R}{b:α->Option O}(h:o=o') (f:∀x,k x=Option.bind (b x) K):o.bind k=Option.bind (o'.bind b) K:=by
 rw [h]; cases o' with
 | none=>rfl
 | some v=>exact f v
theorem DM {c:Bool}{o:Option α}{v d:α}{k:α->Option R}{K:O->Option R}{b:α->Option O}(h:o=some v) (f:∀x,x=cond c v d->k x=Option.bind (b x) K):aY c o d k=Option.bind (on (cond c v d) b) K:=by
 rw [h]; cases c<;>exact f _ rfl
theorem AO {c:Bool}{o:Option α}{v d:α}{k:α->Option R}{K:O->Option R}{b:α->O}(h:c=true->o=some v) (f:∀x,x=cond c v d->k x=K (b x)):aY c o d k=K (on (cond c v d) b):=by
 cases c with
 | true=>rw [h rfl]; exact f _ rfl
 | false=>exact f _ rfl
theorem uu {c:Bool}{o o':Option α}{d:α}{k:α->Option R}{K:O->Option R}{b:α->Option O}(h:o=o') (f:∀x,k x=Option.bind (b x) K):aY c o d k=Option.bind (aY c o' d b) K:=by
 rw [h]; cases c with
 | false=>exact f d
 | true =>
  cases o' with
  | none=>rfl
  | some v=>exact f v
variable {lhs:Option R}
theorem AP {q:Z}{b:Z->O}{K:O->Option R}(h:∀f:Z->Option R,(∀o,f o=K (b o))->lhs=f q):lhs=K (on q b):=h (fun o=>K (b o)) fun _=>rfl
theorem ym {q:Z}{b:Z->Option O}{K:O->Option R}(h:∀f:Z->Option R,(∀o,f o=Option.bind (b o) K)->lhs=f q):lhs=Option.bind (on q b) K:=h (fun o=>Option.bind (b o) K) fun _=>rfl
theorem yo {q:Option Z}{b:Z->Option O}{K:O->Option R}(h:∀f:Z->Option R,(∀o,f o=Option.bind (b o) K)->lhs=Option.bind q f):lhs=Option.bind (Option.bind q b) K:=by
 rw [h (fun o=>Option.bind (b o) K) fun _=>rfl]; cases q<;>rfl
theorem PG {α:Type}(o:Option α):Option.bind o some=o:=by cases o<;>rfl
theorem nr {l:List α}{i:Nat}{x:α}(h:l[i]?=some x):l.drop i=x::l.drop (i+1):=by
 obtain⟨hi,rfl⟩:=List.getElem?_eq_some_iff.1 h;exact List.drop_eq_getElem_cons hi
theorem HJ {i n:Nat}(h:i<n):decide ((i:Int)<(n:Int))=true:=by simpa using h
theorem PI {i n:Nat}(h:¬i<n):decide ((i:Int)<(n:Int))=false:=by simpa using h
theorem uv {s:Sl α}{i:Nat}(h:i<=s.l.length):lY s none (some ((i:Nat):Int))=some ⟨s.nl,s.l.take i⟩:=by
 unfold lY; rw [if_pos (by simp; omega)]; simp
end Q
end Go.Ab
namespace Go.Ab
variable {av:bR}
theorem Q.getD_some {α:Type}{l:List α}{i:Nat}{d:α}(h:i<l.length):l[i]?=some (l[i]?.getD d):=by simp [h]
theorem Q.PJ {s:Bs}{n:Nat}(h:n<=s.length):AE s none (some ((n:Nat):Int))=some (List.take n s):=by
 unfold AE; rw [if_pos (by simp; omega)]; simp
theorem Q.preB {α R:Type}{o:Option α}{v:α}{k:α->Option R}{r:Option R}(h:o=some v) (b:∀x,x=v->k x=r):o.bind k=r:=by rw [h]; exact b v rfl
end Go.Ab
/-
 Walks over the list layer: what is known of the result is taken apart in the new form (a bind,a value under a name,a guard,a choice,a join,a loop over a list).
-/
namespace Go.Ab
open Go
section
variable {R O Z α:Type}{r:R}
theorem qT {o o':Option α}{k:α->Option R}(p:o'=o) (h:o.bind k=some r):∃x,o'=some x/\k x=some r:=by rw [p]; exact bw h
theorem qO {o o':Option α}{k:α->Option O}{K:O->Option R}(p:o'=o) (h:Option.bind (o.bind k) K=some r):∃x,o'=some x/\Option.bind (k x) K=some r:=by
 rw [p]; cases o with
 | none=>cases h
 | some v=>exact⟨v,rfl,h⟩
theorem vT {o:Option α}{v:α}{k:α->Option R}(p:o=some v) (h:on v k=some r):∃x,o=some x/\k x=some r:=⟨v,p,h⟩
theorem vO {o:Option α}{v:α}{k:α->Option O}{K:O->Option R}(p:o=some v) (h:Option.bind (on v k) K=some r):∃x,o=some x/\Option.bind (k x) K=some r:=⟨v,p,h⟩
theorem vP {o:Option α}{v:α}{k:α->O}{K:O->Option R}(p:o=some v) (h:K (on v k)=some r):∃x,o=some x/\K (k x)=some r:=⟨v,p,h⟩
theorem l7 {c:Bool}{o:Option α}{v d:α}{k:α->Option R}(p:c=true->o=some v) (h:on (cond c v d) k=some r):∃x,(c=true->o=some x)/\k x=some r :=
 ⟨cond c v d,fun e=>by rw [e]; exact p e,h⟩
theorem ej {c:Bool}{o:Option α}{v d:α}{k:α->Option O}{K:O->Option R}(p:c=true->o=some v) (h:Option.bind (on (cond c v d) k) K=some r):∃x,(c=true->o=some x)/\Option.bind (k x) K=some r :=
 ⟨cond c v d,fun e=>by rw [e]; exact p e,h⟩
theorem jU {c:Bool}{o:Option α}{v d:α}{k:α->O}{K:O->Option R}(p:c=true->o=some v) (h:K (on (cond c v d) k)=some r):∃x,(c=true->o=some x)/\K (k x)=some r :=
 ⟨cond c v d,fun e=>by rw [e]; exact p e,h⟩
theorem eE {c:Bool}{o o':Option α}{d:α}{k:α->Option R}(p:o'=o) (h:aY c o d k=some r):∃x,(c=true->o'=some x)/\k x=some r:=by rw [p]; exact AG h
theorem e8 {c:Bool}{o o':Option α}{d:α}{k:α->Option O}{K:O->Option R}(p:o'=o) (h:Option.bind (aY c o d k) K=some r):∃x,(c=true->o'=some x)/\Option.bind (k x) K=some r:=by
 rw [p]; unfold aY at h; split at h
 ·obtain⟨x,e,b⟩:=qO rfl h; exact⟨x,fun _=>e,b⟩
 ·rename_i hc; exact⟨d,fun e=>absurd e hc,h⟩
theorem bW {t:Z}{b:Z->Option R}(h:on t b=some r):∃K:Z->Option R,(∀z,K z=b z)/\K t=some r:=⟨b,fun _=>rfl,h⟩
theorem gM {t:Z}{b:Z->Option O}{K:O->Option R}(h:Option.bind (on t b) K=some r):∃J:Z->Option R,(∀z,J z=Option.bind (b z) K)/\J t=some r:=⟨fun z=>Option.bind (b z) K,fun _=>rfl,h⟩
theorem dX {t:Z}{b:Z->O}{K:O->Option R}(h:K (on t b)=some r):∃J:Z->Option R,(∀z,J z=K (b z))/\J t=some r:=⟨fun z=>K (b z),fun _=>rfl,h⟩
theorem bZ {t:Option Z}{b:Z->Option R}(h:Option.bind t b=some r):∃J:Z->Option R,(∀z,J z=b z)/\Option.bind t J=some r:=⟨b,fun _=>rfl,h⟩
theorem cM {t:Option Z}{b:Z->Option O}{K:O->Option R}(h:Option.bind (Option.bind t b) K=some r):∃J:Z->Option R,(∀z,J z=Option.bind (b z) K)/\Option.bind t J=some r :=
 ⟨fun z=>Option.bind (b z) K,fun _=>rfl,by cases t<;>exact h⟩
theorem mT {b:Sort _}{F:b}{t:b->Option R}(h:on F t=some r):∃k,k=F/\t k=some r:=⟨F,rfl,h⟩
theorem mO {b:Sort _}{F:b}{t:b->Option O}{K:O->Option R}(h:Option.bind (on F t) K=some r):∃k,k=F/\Option.bind (t k) K=some r:=⟨F,rfl,h⟩
theorem mP {b:Sort _}{F:b}{t:b->O}{K:O->Option R}(h:K (on F t)=some r):∃k,k=F/\K (t k)=some r:=⟨F,rfl,h⟩
theorem ku {K F:Z->Option R}{z:Z}(h:∀z,K z=F z) (e:K z=some r):F z=some r:=by rw [<- h]; exact e
theorem dl {l:List α}{i:Nat}{x:α}(h:l[i]?=some x):l.length-(i+1)<l.length-i:=by
 obtain⟨hi,_⟩:=List.getElem?_eq_some_iff.1 h; omega
theorem dn {n i:Nat}(h:i<n):n-(i+1)<n-i:=by omega
end
section
variable {av:bR}{P:Program}{c:Operand}{u v:Code}{Q:Exit->St->Prop}{σ:St}{b:Bool}{α R:Type}{r:R}
theorem ah.oG {A B:Option α}{K:α->Option R}(f:Option.bind (bif b then A else B) K=some r) (hc:ev σ.ts c=.a (.d (.bool b))) (ht:b=true->Option.bind A K=some r->ah P u Q σ) (g:b=false->Option.bind B K=some r->ah P v Q σ):ah P (.cond c u v) Q σ :=
 ah.cond hc (fun h=>ht h (by subst h; exact f)) (fun h=>g h (by subst h; exact f))
theorem ah.AM {A B:α}{K:α->Option R}(f:K (bif b then A else B)=some r) (hc:ev σ.ts c=.a (.d (.bool b))) (ht:b=true->K A=some r->ah P u Q σ) (g:b=false->K B=some r->ah P v Q σ):ah P (.cond c u v) Q σ :=
 ah.cond hc (fun h=>ht h (by subst h; exact f)) (fun h=>g h (by subst h; exact f))
theorem ah.bL {l:List α}{i:Nat}(p:List α->Prop) (b:p (l.drop i)) (hc:ev σ.ts c=.a (.d (.bool (decide (((i:Nat):Int)<((l.length:Nat):Int))))))
  (ht:∀x,l[i]?=some x->decide (((i:Nat):Int)<((l.length:Nat):Int))=true->p (x::l.drop (i+1))->ah P u Q σ) (j:decide (((i:Nat):Int)<((l.length:Nat):Int))=false->p []->ah P v Q σ):ah P (.cond c u v) Q σ:=by
 refine ah.cond hc (fun h=>?_) (fun h=>?_)
 ·have f:i<l.length:=by have:=of_decide_eq_true h; omega
  have g:l[i]?=some l[i]:=List.getElem?_eq_getElem f;exact ht _ g h (by rw [<- Go.Ab.Q.nr g]; exact b)
 ·have f:¬((i:Nat):Int)<((l.length:Nat):Int):=of_decide_eq_false h;exact j h (by rw [List.drop_of_length_le (by omega)] at b; exact b)
theorem ah.HK {n i:Nat}(p:Nat->Prop) (b:p (n-i)) (hc:ev σ.ts c=.a (.d (.bool (decide (((i:Nat):Int)<((n:Nat):Int))))))
  (ht:i<n->decide (((i:Nat):Int)<((n:Nat):Int))=true->p (n-(i+1)+1)->ah P u Q σ) (g:decide (((i:Nat):Int)<((n:Nat):Int))=false->p 0->ah P v Q σ):ah P (.cond c u v) Q σ:=by
 refine ah.cond hc (fun h=>?_) (fun h=>?_)
 ·have f:i<n:=by have:=of_decide_eq_true h; omega
  exact ht f h (by rw [show n-(i+1)+1=n-i by omega]; exact b)
 ·have f:¬((i:Nat):Int)<((n:Nat):Int):=of_decide_eq_false h;exact g h (by rw [show n-i=0 by omega] at b; exact b)
theorem ah.AR {l:List α}{i:Nat}{d b:Bool}(p:List α->Prop) (E:Prop) (f:p (l.drop i)) (he:p []->E) (m:∀x,d=false->p (x::l.drop (i+1))->E) (k:b=(decide (((i:Nat):Int)<((l.length:Nat):Int))&&d)) (hc:ev σ.ts c=.a (.d (.bool b)))
  (ht:∀x,l[i]?=some x->b=true->d=true->p (x::l.drop (i+1))->ah P u Q σ) (q:b=false->E->ah P v Q σ):ah P (.cond c u v) Q σ:=by
 refine ah.cond hc (fun h=>?_) (fun h=>q h ?_)
 ·have h0:=h; rw [k,Bool.and_eq_true] at h0;have g:i<l.length:=by have:=of_decide_eq_true h0.1; omega
  have j:l[i]?=some l[i]:=List.getElem?_eq_getElem g;exact ht _ j h h0.2 (by rw [<- Go.Ab.Q.nr j]; exact f)
 ·by_cases g:i<l.length
  ·have j:l[i]?=some l[i]:=List.getElem?_eq_getElem g;rw [Go.Ab.Q.nr j] at f;refine m _ ?_ f;rw [k,Go.Ab.Q.HJ g,Bool.true_and] at h; exact h
  ·exact he (by rw [List.drop_of_length_le (by omega)] at f; exact f)
end
end Go.Ab
namespace Go.Ab
variable {av:bR}
def Ok {α:Type}(o:Option α):Prop:=∃r,o=some r
namespace bq
variable {α β:Type}
theorem some (a:α):Ok (Option.some a):=⟨a,rfl⟩
theorem bind {o:Option α}{k:α->Option β}(h:Ok o) (b:∀v,o=Option.some v->Ok (k v)):Ok (o.bind k):=by
 obtain⟨v,hv⟩:=h; rw [hv]; exact b v hv
theorem guard {c:Bool}{o:Option α}{d:α}{k:α->Option β}(h:c=true->Ok o) (b:∀v,(c=true->o=Option.some v)->(c=false->v=d)->Ok (k v)):Ok (aY c o d k):=by
 cases c with
 | false=>exact b d (fun h=>by cases h) (fun _=>rfl)
 | true=>obtain⟨v,hv⟩:=h rfl; unfold aY; rw [if_pos rfl,hv]; exact b v (fun _=>hv) (fun h=>by cases h)
theorem cond {c:Bool}{a b:Option α}(h:c=true->Ok a) (f:c=false->Ok b):Ok (_root_.cond c a b):=by
 cases c with
 | false=>exact f rfl
 | true=>exact h rfl
theorem on {v:α}{k:α->Option β}(h:∀x,x=v->Ok (k x)):Ok (Go.Ab.on v k):=h v rfl
end bq
theorem fQ {a b:Int}(h : -9223372036854775808<=a+b/\a+b<=9223372036854775807):cF a b=some (a+b):=by unfold cF; rw [if_pos h]
theorem HM {a b:Int}(h : -9223372036854775808<=a-b/\a-b<=9223372036854775807):rL a b=some (a-b):=by unfold rL; rw [if_pos h]
theorem PK {α:Type}{l:List α}{n:Int}(h:0<=n/\n<l.length):Ok (dh l n):=by
 have b:n.toNat<l.length:=by omega
 unfold dh; rw [if_pos h.1,List.getElem?_eq_getElem b]; exact⟨_,rfl⟩
theorem PL {α:Type}{l:List α}{n:Nat}(h:n<l.length):Ok (l[n]?):=⟨l[n],List.getElem?_eq_getElem h⟩
theorem jE {α:Type}{z:Nat}{s r:Sl α}(hz:z<=64) (h:s.l.length+r.l.length<=1099511627776):bf z s r=some ⟨s.nl&&r.l.isEmpty,s.l++r.l⟩:=by
 unfold bf; rw [if_pos];have:(s.l.length+r.l.length)*z<=(s.l.length+r.l.length)*64:=Nat.mul_le_mul_left _ hz;unfold cC; omega
theorem dI {a b:Bs}(h:a.length+b.length<=1152921504606846976):bV a b=some (a++b):=by
 unfold bV; rw [if_pos (by unfold fJ; omega)]
theorem DN {α:Type}{s:Sl α}(h:1<=s.l.length):lY s (some (1:Int)) none=some ⟨s.nl,s.l.drop 1⟩:=by
 unfold lY; rw [if_pos (by simp; omega)]; simp
theorem gz:F0=4611686018427387904:=rfl
end Go.Ab
namespace Go.Ab
variable {av:bR}
theorem yp {α:Type}{z:Nat}{s r:Sl α}(hz:z<=32) (h:s.l.length+r.l.length<=4398046511104):bf z s r=some ⟨s.nl&&r.l.isEmpty,s.l++r.l⟩:=by
 unfold bf; rw [if_pos];have:(s.l.length+r.l.length)*z<=(s.l.length+r.l.length)*32:=Nat.mul_le_mul_left _ hz;unfold cC; omega
def ep {α:Type}(s:Sl α):Prop:=(s.nl=true->s.l=[])/\s.l.length<=1048576
end Go.Ab
/-
 Inputs: what a call is handed,read as plain data; what it leaves.
-/
namespace Go.Ab
open Go Go.RowKit Go.ChangeShapes Go.WideShapes Go.ChangeAt
variable {av:bR}
def j0 (w:World):J:=⟨fun _=>0,fun b=>match w.heap[b]? with|some (.cells cs _ _)=>cs.size|_=>0,fun _=>none,0⟩
def h0:af:=fun _=>none
theorem PM {w:World}{b o:Nat}{v:Value}(h:w.cell? ⟨b,o,none⟩=some v):o<(j0 w).F b:=by
 unfold World.cell? at h;simp only [j0]
 split at h
 ·rename_i c t f hc
  simp at h;simp only at hc;rw [hc];exact(Array.getElem?_eq_some_iff.1 h).1
 ·cases h
theorem cell_spot {w:World}{a:Addr}{v:Value}(h:w.cell? a=some v):a.spot=none:=by
 unfold World.cell? at h
 split at h
 ·split at h
  ·cases h
  ·rename_i b; simpa using b
 ·cases h
structure yq {H:Type}(B:DataW H->Nat):Prop where
 one:∀d,1<=B d
 str:∀b,b.length+1<=B (.lit (.string b))
 slice:∀e s,(e.map B).sum+1<=B (.slice e s)
 agg:∀l,(l.map B).sum<=B (.agg l)
def NF (w:World) (ps:List MemPlace):Prop:=∀b off,MemPlace.cell b off∈ps->w.frozen? ⟨b,off,none⟩=false
theorem NF.sub {w:World}{ps f:List MemPlace}(h:NF w f) (g:∀x∈ps,x∈f):NF w ps:=fun b o hx=>h b o (g _ hx)
structure dJ {H:Type}(P:Program) (B:DataW H->Nat) (N:Nat) (t:TypeId){α:Type}(R:α->List D) (sz:α->Nat) (wf:α->Prop):Prop where
 rd:∀{enc:TypeId×Value->H}{w:World}{base:Nat}{sp:Nat->Bool}{held:Bool}{fuel:Nat}{cs:List Value}{x:DataW H×List MemPlace},
  fuel<=N->DataW.trod enc P w base sp held fuel t cs=some x->B x.1<=1048576->NF w x.2->∃a,aQ (aF (j0 w) w) (R a) cs/\sz a<=B x.1/\wf a
theorem dJ.zero {H:Type}{P:Program}{B:DataW H->Nat}{t:TypeId}{α:Type}{R:α->List D}{sz:α->Nat}{wf:α->Prop}:dJ P B 0 t R sz wf :=
 ⟨fun b h _ _=>by rw [Nat.le_zero.1 b] at h; simp [DataW.trod] at h⟩
theorem DO {P:Program}{t:TypeId}{b:TI}(f:aX P t=some b):P.cellsOf t=b.size:=by
 obtain⟨i,d,h1,_,g,_⟩:=gj f;unfold Program.cellsOf; rw [h1]; exact g
theorem AS {P:Program}{t:TypeId}{b:TI}(f:aX P t=some b):∃d,P.underlying t=some d/\eU d=b.k:=by
 obtain⟨i,d,_,h1,_,_,g,_⟩:=gj f;exact⟨d,h1,g⟩
theorem PN {P:Program}{t:TypeId}{b:TI}(g:aX P t=some b) (hk:b.k=.str):P.underlying t=some .string:=by
 obtain⟨d,h1,f⟩:=AS g;rw [hk] at f; cases d<;>simp [eU] at f; exact h1
theorem PO {P:Program}{t:TypeId}{b:TI}(g:aX P t=some b) (hk:b.k=.bool):P.underlying t=some .bool:=by
 obtain⟨d,h1,f⟩:=AS g;rw [hk] at f; cases d<;>simp [eU] at f; exact h1
theorem PP {P:Program}{t:TypeId}{f:TI}{k:IntKind}(g:aX P t=some f) (hk:f.k=.int k):P.underlying t=some (.int k):=by
 obtain⟨d,h1,b⟩:=AS g;rw [hk] at b; cases d<;>simp [eU] at b; subst b; exact h1
theorem HN {P:Program}{t:TypeId}{g:TI}{ps:List (Nat×TypeId)}(j:aX P t=some g) (hk:g.k=.struct ps):∃fs:Array Go.Field,P.underlying t=some (.struct fs)/\fs.toList.map (fun f=>(f.offset,f.type))=ps:=by
 obtain⟨d,h1,b⟩:=AS j;rw [hk] at b; cases d<;>simp [eU] at b; exact⟨_,h1,by simpa using b⟩
def yf.sz (s:yf):Nat:=s.1.length+1
def ko.sz {α:Type}(f:α->Nat) (s:ko α):Nat:=1+(s.l.map f).sum
def ko.wf {α:Type}(p:α->Prop) (s:ko α):Prop:=∀x∈s.l,p x
def i64 (n:Int):Prop := -9223372036854775808<=n/\n<=9223372036854775807
section
variable {H:Type}{P:Program}{B:DataW H->Nat}(hB:yq B){N:Nat}
include hB
theorem dJ.str {t:TypeId}{b:TI}(f:aX P t=some b) (hk:b.k=.str):dJ P B N t Ow yf.sz fun _=>True:=by
 refine⟨fun {enc w base sp held fuel cs x} _ h g _=>?_⟩;obtain⟨s,rfl,rfl,l⟩:=DataW.trod_string (PN f hk) h;have h1:=hB.str s.data.toList;have m:s.data.toList.length<=1048576:=by dsimp only at g; omega
 refine⟨⟨s.data.toList,by simp only [cC]; omega⟩,.cons ?_ .nil,h1,trivial⟩;have:=aF.str (j:=j0 w) (w:=w) s.data.toList (by simp only [fJ]; omega)
 simpa using this
theorem dJ.bool {t:TypeId}{f:TI}(g:aX P t=some f) (hk:f.k=.bool):dJ P B N t (fun b:Bool=>[.bool b]) (fun _=>1) fun _=>True:=by
 refine⟨fun _ h _ _=>?_⟩;obtain⟨b,rfl,rfl⟩:=DataW.trod_bool (PO g hk) h;exact⟨b,.cons (.bool _) .nil,hB.one _,trivial⟩
theorem dJ.int {t:TypeId}{b:TI}(f:aX P t=some b) (hk:b.k=.int .i64):dJ P B N t Ox (fun _=>1) i64:=by
 refine⟨fun _ h _ _=>?_⟩;obtain⟨n,rfl,rfl,hw⟩:=DataW.trod_int (PP f hk) h;refine⟨n,.cons (.int _ _) .nil,hB.one _, ?_⟩
 simpa [Lit.wf,IntKind.min,IntKind.max,IntKind.signed,IntKind.bits,i64] using hw
omit hB in
theorem HO {α:Type}(p:Nat->α->Prop):∀(n:Nat),(∀i,i<n->∃a,p i a)->∃l:List α,l.length=n/\∀i a,l[i]?=some a->p i a
 | 0,_=>⟨[],rfl,by simp⟩
 | n+1,h=>by
  obtain⟨l,hl,g⟩:=HO p n fun i hi=>h i (by omega);obtain⟨a,j⟩:=h n (by omega);refine⟨l++[a],by simp [hl],fun i b f=>?_⟩;rw [List.getElem?_append] at f
  split at f
  ·exact g i b f
  ·rename_i k
   have:i-l.length=0:=by
    have:=(List.getElem?_eq_some_iff.1 f).1; simp at this; omega
   rw [this] at f; simp at f; subst f;have:i=n:=by omega
   subst this; exact j
omit hB in
theorem HP {α β:Type}{f:α->Option β}:∀{l:List α}{r:List β},l.mapM f=some r->r.length=l.length/\∀(i:Nat) a,l[i]?=some a->f a=r[i]?
 | [],r,h=>by simp at h; subst h; simp
 | a::l,r,h=>by
  rw [List.mapM_cons] at h;cases g:f a with
  | none=>rw [g] at h; cases h
  | some b =>
   rw [g] at h;cases hm:l.mapM f with
   | none=>rw [hm] at h; cases h
   | some bs =>
    rw [hm] at h;have h':some (b::bs)=some r:=h;simp only [Option.some.injEq] at h';subst h';obtain⟨h1,j⟩:=HP hm;refine⟨by simp [h1],fun i x hx=>?_⟩;cases i with
    | zero=>simp at hx; subst hx; simpa using g
    | succ i=>simp at hx; simpa using j i x hx
omit hB in
theorem HQ {w:World}{base:Nat}{a:Addr}{n:Nat}{cs:List Value}(h:w.cells? base a n=some cs):cs.length=n/\∀i v,cs[i]?=some v->w.cell? (a.add i)=some v:=by
 unfold World.cells? at h
 split at h
 ·obtain⟨h1,b⟩:=HP h;rw [List.length_range] at h1;refine⟨h1,fun i v hv=>?_⟩;have hi:=(List.getElem?_eq_some_iff.1 hv).1;have:=b i i (List.getElem?_range (by omega));rw [this]; exact hv
 ·cases h
omit hB in
theorem HR {α β:Type}{f:α->Nat}{g:β->Nat}:∀{l:List α}{m:List β},l.length=m.length->(∀(i:Nat) a b,l[i]?=some a->m[i]?=some b->f a<=g b)->(l.map f).sum<=(m.map g).sum
 | [],[],_,_=>by simp
 | [],_::_,h,_=>by simp at h
 | _::_,[],h,_=>by simp at h
 | a::l,b::m,h,j=>by
  have h1:=j 0 a b rfl rfl;have p:=HR (l:=l) (m:=m) (by simpa using h) fun i x y hx k=>j (i+1) x y (by simpa using hx) (by simpa using k);simp only [List.map_cons,List.sum_cons]; omega
omit hB in
theorem HS {α:Type}{f:α->Nat}{l:List α}{a:α}(h:a∈l):f a<=(l.map f).sum:=by
 induction l with
 | nil=>cases h
 | cons x r b =>
  simp only [List.map_cons,List.sum_cons];rcases List.mem_cons.1 h with e|e
  ·subst e; omega
  ·have:=b e; omega
omit hB in
theorem DP {α:Type}{f:α->Nat}:∀(l:List α),(∀a∈l,1<=f a)->l.length<=(l.map f).sum
 | [],_=>by simp
 | a::l,h=>by
  have h1:=h a (by simp);have b:=DP l fun x hx=>h x (by simp [hx]);simp only [List.length_cons,List.map_cons,List.sum_cons]; omega
omit hB in
theorem PR {a:Addr}{n i:Nat}(h:i<n):MemPlace.cell a.block (a.off+i)∈MemPlace.row a n:=by
 unfold MemPlace.row;exact List.mem_map.2 ⟨i,List.mem_range.2 h,rfl⟩
theorem dJ.slice {α:Type}{t e:TypeId}{M O:TI}{k:Nat}{R:α->List D}{sz:α->Nat}{wf:α->Prop}(X:aX P t=some M) (Y:M.k=.slice e) (Z:aX P e=some O) (aa:O.size=k) (ab:0<k) (ad:∀a,(R a).length=k) (he:dJ P B N e R sz wf) :
  dJ P B (N+1) t (fun s:ko α=>[s.d k R]) (ko.sz sz) (ko.wf wf):=by
 have ht:=kj X Y;have hk:P.cellsOf e=k:=(DO Z).trans aa;refine⟨fun {enc w base sp held fuel cs x} am h Q hz=>?_⟩;rcases DataW.trod_slice ht h with ⟨rfl,rfl⟩|⟨a,len,cap,b,rest,n,an,rfl,rfl,_,ae,ao,hlen,ag,_,_⟩
 ·exact⟨⟨true,[],by simp,fun _=>rfl⟩,.cons (.gu _ _ (by simp)) .nil,by simpa [ko.sz] using hB.one _,by simp [ko.wf]⟩
 ·have ap:=hB.slice (b.map (·.1)) (rest.map (·.1));have ai:∀y∈b,B y.1<=1048576:=fun y j=>by
   have:=HS (f:=B) (l:=b.map (·.1)) (a:=y.1) (List.mem_map_of_mem j);dsimp only at Q; omega
  have ar:b.length<=1048576:=by
   have:=DP (f:=B) (b.map (·.1)) fun d _=>hB.one d;simp only [List.length_map] at this;dsimp only at Q; omega
  have hex:∀i,i<len->∃y:α×List Value,∃z,b[i]?=some z/\w.cells? base (a.add (i*k)) k=some y.2/\aQ (aF (j0 w) w) (R y.1) y.2/\sz y.1<=B z.1/\wf y.1:=by
   intro i hi;have h1:=ag i hi;rw [hk] at h1;have C:i<b.length:=by omega
   rw [List.getElem?_eq_getElem C] at h1;cases hc:w.cells? base (a.add (i*k)) k with
   | none=>rw [hc] at h1; cases h1
   | some cs =>
    rw [hc] at h1;obtain⟨x,p,E,F⟩:=he.rd (by omega) (show DataW.trod enc P w base sp held n e cs=some b[i] from h1) (ai _ (List.getElem_mem C)) (hz.sub fun y j=>List.mem_append.2 (.inr (List.mem_flatMap.2 ⟨_,List.mem_append.2 (.inl (List.getElem_mem C)),j⟩)));exact⟨(x,cs),b[i],List.getElem?_eq_getElem C,rfl,p,E,F⟩
  obtain⟨l,hl,G⟩:=HO _ len hex;have aj:(l.map fun y=>y.1).length=len:=by simp [hl]
  refine⟨⟨false,l.map (·.1),by rw [aj]; simp only [cC]; omega,by simp⟩,.cons ?_ .nil, ?_, ?_⟩
  ·have H:∀r∈(l.map (·.1)).map R,r.length=k:=by
    intro r hr;obtain⟨y,_,rfl⟩:=List.mem_map.1 hr;exact ad _
   have q:((l.map (·.1)).map R).length=len:=by simp [hl]
   show aF (j0 w) w (.slice k none false ((l.map (·.1)).map R)) (.slice (some a) len cap);by_cases h0:len=0
   ·subst h0;have:l=[]:=List.eq_nil_of_length_eq_zero hl;subst this;exact aF.slice k none [] a cap (fun _=>undef) (by simp) (by simp) (by simp) ⟨.inl rfl,by simp⟩ (by simp) (fun t h=>by cases h)
   ·have S:a.spot=none:=by
     have h1:=G 0 (l[0]'(by omega)) (List.getElem?_eq_getElem (by omega));obtain⟨z,_,p,_⟩:=h1;obtain⟨E,F⟩:=HQ p;have I:=F 0 _ (List.getElem?_eq_getElem (by omega));rw [Nat.zero_mul] at I;exact cell_spot I
    have J:a=⟨a.block,a.off,none⟩:=by cases a; simp at S; simp [S]
    have U:aF (j0 w) w (.slice k none false ((l.map (·.1)).map R)) (.slice (some ⟨a.block,a.off,none⟩) ((l.map (·.1)).map R).length cap):=by
     refine vA H (by rw [q]; simp only [cC]; omega) (by rw [q]; exact ae) (fun i x hx=>?_) (fun t h=>by cases h) (fun i v hi _=>.inl (hz _ _ (List.mem_append.2 (.inl (by
      rw [(g_ H).1,q] at hi;rw [J,hk];refine PR (i:=i) ?_;have:len*k<=(b.length+rest.length)*k:=Nat.mul_le_mul_right _ (by omega);omega)))))
     have hi:=(List.getElem?_eq_some_iff.1 hx).1;rw [(g_ H).1,q] at hi;have hq:i / k<len:=Nat.div_lt_of_lt_mul (by rw [Nat.mul_comm]; exact hi);have hm:i % k<k:=Nat.mod_lt _ ab;obtain⟨z,_,p,E,_⟩:=G (i / k) (l[i / k]'(by omega)) (List.getElem?_eq_getElem (by omega));obtain⟨F,I⟩:=HQ p;have ak:((l.map (·.1)).map R)[i / k]?=some (R (l[i / k]'(by omega)).1):=by simp [hl,hq]
     have W:=(g_ H).2 (i / k) _ ak (i % k) hm;rw [Nat.mul_comm,Nat.div_add_mod,hx] at W;obtain⟨v,hv,al⟩:=E.get W.symm;have K:=I _ _ hv;rw [J,add_plain,add_plain,Nat.add_assoc,Nat.mul_comm,Nat.div_add_mod] at K;exact⟨PM K,v,K,al⟩
    rw [q,<- J] at U;exact U
  ·simp only [ko.sz];have:=HR (f:=sz) (g:=B) (l:=l.map (·.1)) (m:=b.map (·.1)) (by simp [hl,hlen]) fun i x y hx j=>by
    rw [List.getElem?_map] at hx j;cases L:l[i]? with
    | none=>rw [L] at hx; cases hx
    | some u =>
     rw [L] at hx; simp at hx; subst hx;obtain⟨z,h1,_,_,p,_⟩:=G i u L;rw [h1] at j; simp at j; subst j; exact p
   omega
  ·intro x hx;obtain⟨y,j,rfl⟩:=List.mem_map.1 hx;obtain⟨i,hi,e⟩:=List.getElem_of_mem j;obtain⟨z,_,_,_,_,h⟩:=G i y (by rw [List.getElem?_eq_getElem hi,e]);exact h
structure dD {H:Type}(P:Program) (B:DataW H->Nat) (N n o:Nat) (ps:List (Nat×TypeId)){α:Type}(R:α->List D) (sz:α->Nat) (wf:α->Prop):Prop where
 rd:∀{enc:TypeId×Value->H}{w:World}{base:Nat}{sp:Nat->Bool}{held:Bool}{fuel:Nat}{cs:List Value}{xs:List (DataW H×List MemPlace)},fuel<=N->cs.length=n->xs.length=ps.length ->
  (∀(i:Nat) p,ps[i]?=some p->DataW.trod enc P w base sp held fuel p.2 ((cs.drop p.1).take (P.cellsOf p.2))=xs[i]?)->(xs.map (fun x=>B x.1)).sum<=1048576->(∀x∈xs,NF w x.2) ->
  ∃a,aQ (aF (j0 w) w) (R a) (cs.drop o)/\sz a<=(xs.map (fun x=>B x.1)).sum/\wf a
omit hB in
theorem dD.nil {n:Nat}:dD P B N n n [] (fun _:Unit=>[]) (fun _=>0) fun _=>True:=by
 refine⟨fun _ h1 b _ _ _=>⟨(), ?_,Nat.zero_le _,trivial⟩⟩;rw [List.drop_of_length_le (by omega)]; exact .nil
omit hB in
theorem dD.cons {α β:Type}{n o o':Nat}{ty:TypeId}{j:TI}{ps:List (Nat×TypeId)}{R:α->List D}{sz:α->Nat}{wf:α->Prop}{k:β->List D}{l:β->Nat}{m:β->Prop}(t:aX P ty=some j) (u:o+j.size=o') (h:dJ P B N ty R sz wf)
  (ht:dD P B N n o' ps k l m):dD P B N n o ((o,ty)::ps) (fun p:α×β=>R p.1++k p.2) (fun p=>sz p.1+l p.2) fun p=>wf p.1/\m p.2:=by
 refine⟨fun {enc w base sp held fuel cs xs} q h1 f r v hz=>?_⟩
 match xs,f with
 | x::xs,f =>
  simp only [List.map_cons,List.sum_cons] at v ⊢;have s:=r 0 (o,ty) rfl;simp only [List.getElem?_cons_zero] at s;obtain⟨a,z,H,C⟩:=h.rd q s (by omega) (hz _ (.head _));obtain⟨b,E,I,F⟩:=ht.rd (xs:=xs) q h1 (by simpa using f) (fun i g hg=>by simpa using r (i+1) g (by simpa using hg)) (by omega) (fun y G=>hz y (.tail _ G));refine⟨(a,b), ?_,by dsimp only; omega,C,F⟩;have e:cs.drop o=(cs.drop o).take (P.cellsOf ty)++cs.drop o':=by
   rw [<- u,<- DO t,<- List.drop_drop]; exact(List.take_append_drop _ _).symm
  rw [e];exact z.append E
theorem dJ.struct {α β:Type}{t:TypeId}{j:TI}{ps:List (Nat×TypeId)}{R:α->List D}{sz:α->Nat}{wf:α->Prop}(q:aX P t=some j) (hk:j.k=.struct ps) (h:dD P B N j.size 0 ps R sz wf) (g:α->β){r:β->List D}{s:β->Nat}{u:β->Prop}
  (E:∀a,r (g a)=R a) (F:∀a,s (g a)<=sz a) (hw:∀a,wf a->u (g a)):dJ P B (N+1) t r s u:=by
 refine⟨fun {enc w base sp held fuel cs x} M hx v hz=>?_⟩;obtain⟨fs,ht,C⟩:=HN q hk;obtain⟨xs,n,O,rfl,h1,G,H⟩:=DataW.trod_struct ht hx;have l:=hB.agg (xs.map (·.1));rw [List.map_map] at l;obtain⟨a,I,J,K⟩:=h.rd (xs:=xs) (enc:=enc) (w:=w) (base:=base) (sp:=sp) (held:=held) (fuel:=n) (cs:=cs) (by omega) (h1.trans (DO q)) (by rw [<- C]; simpa using G) (fun i p b=>by
  rw [<- C,List.getElem?_map] at b;cases m:fs.toList[i]? with
  | none=>rw [m] at b; cases b
  | some f =>
   rw [m] at b; simp at b; subst b;exact H i f (by simpa using m)) (by dsimp only at v; exact Nat.le_trans l v) (fun y L=>hz.sub fun z hm=>List.mem_flatMap.2 ⟨y,L,hm⟩)
 exact⟨g a,by rw [E]; simpa using I,Nat.le_trans (F a) (Nat.le_trans J l),hw _ K⟩
end
section
variable {H:Type}{enc:TypeId×Value->H}{P:Program}{B:DataW H->Nat}{W:World}
theorem HT {α:Type}{R:α->D}{sz:α->Nat}{wf:α->Prop}{r:Reach}{f:Nat}{t e:TypeId}{b:TI}{v:Value}{d:DataW H}{ps:List MemPlace}(g:aX P t=some b) (hk:b.k=.slice e) (hr:∀N,dJ P B N t (fun a=>[R a]) sz wf) (j:Value.okWide P W r f t v) (m:DataW.Trod enc P W 0 (fun _=>true) true t v d ps) (p:B d<=1048576) (hz:NF W ps) :
  ∃a:α,dw (j0 W) W (.d (R a)) v/\sz a<=B d/\wf a:=by
 obtain⟨a,l,c,rfl⟩:=okWide_slice (kj g hk) j;obtain⟨fuel,q⟩:=m;obtain⟨a,h1,s,u⟩:=(hr fuel).rd (Nat.le_refl _) q p hz;cases h1 with
 | cons h1 _=>exact⟨a,h1,s,u⟩
theorem PS {α:Type}{R:α->List D}{sz:α->Nat}{wf:α->Prop}{r:Reach}{f:Nat}{t:TypeId}{b:TI}{fs:List (Nat×TypeId)}{v:Value}{d:DataW H}{ps:List MemPlace}(g:aX P t=some b) (hk:b.k=.struct fs) (hr:∀N,dJ P B N t R sz wf) (j:Value.okWide P W r f t v)
  (l:DataW.Trod enc P W 0 (fun _=>true) true t v d ps) (m:B d<=1048576) (hz:NF W ps):∃a:α,dw (j0 W) W (.agg (R a)) v/\sz a<=B d/\wf a:=by
 obtain⟨_,ht,_⟩:=HN g hk;obtain⟨cs,rfl,_⟩:=okWide_struct ht j;obtain⟨fuel,p⟩:=l;obtain⟨a,h1,q,s⟩:=(hr fuel).rd (Nat.le_refl _) p m hz;exact⟨a,⟨cs.toList,by simp,h1⟩,q,s⟩
end
theorem Below.trodAll {H:Type}{enc:TypeId×Value->H}{P:Program}(hl:laidOutB P=true){W g:World}(j:Below W.heap.size W g) :
  ∀{ts:List TypeId}{k:List Value}{ds:List (DataW H)}{ps:List MemPlace},(∀t∈ts,P.readableRec t=true/\t<P.types.size)->DataW.TrodAll enc P W 0 (fun _=>true) true ts k ds ps->(∀x∈ps,x.block<W.heap.size) ->
  ∀f:Nat->Bool,(∀x∈ps,f x.block=true)->DataW.TrodAll enc P g 0 f true ts k ds ps
 | [],_,_,_,_,h,_,_,_=>by obtain⟨rfl,rfl,rfl⟩:=trodAll_nil h; exact rfl
 | _::_,_,_,_,ht,h,bl,f,l=>by
  obtain⟨v,p,d,q,a,b,rfl,rfl,rfl,h1,m⟩:=trodAll_cons h;exact⟨a,b,WideElems.Trod_stays hl (ht _ (by simp)).1 (ht _ (by simp)).2 h1 (fun x hx=>j.same (bl x (by simp [hx]))) (fun x hx=>l x (by simp [hx])),
   Below.trodAll hl j (fun t h=>ht t (by simp [h])) m (fun x hx=>bl x (by simp [hx])) f (fun x hx=>l x (by simp [hx])),rfl⟩
theorem PT {H:Type}{enc:TypeId×Value->H}{P:Program}{f:Func}{s:ChangeSpec}{fresh handsOn again:Bool}{W g:World}{args:Array Value}{ds:List (DataW H)}{before:List MemPlace}{l:TypeId}
  (hv:s.vars=[]) (m:DataW.Whole enc P f.params.toList s.vars false W args.toList ds [] before) (j:Below W.heap.size W g) (hl:laidOutB P=true) (C:∀t∈f.params.toList,P.readableRec t=true/\t<P.types.size)
  (hr:f.resultTypes=#[l]) (r:P.underlying l=some .bool) (k:s.fn H ds={ results:=[.lit (.bool true)],args:=ds }):s.post enc P f false fresh handsOn again W args (.bool true) g:=by
 have u:=m;have bl:∀x∈before,x.block<W.heap.size:=fun x hx=>by simpa using u.lt x hx
 obtain⟨p,q,E,v,rfl,hz,hn⟩:=m;rw [hv] at v;obtain⟨_,rfl⟩:=trodVars_none v;simp only [List.append_nil] at bl hz;have y:∀sp:Nat->Bool,(∀x∈p,sp x.block=true)->DataW.TrodAll enc P g 0 sp true f.params.toList args.toList ds p:=fun sp F=>Below.trodAll hl j C E bl sp F;have z:∀(b:Nat) (sp:Nat->Bool) (B:Bool),DataW.TrodAll enc P g b sp B f.resultTypes.toList ((Value.bool true).resultList f.resultTypes.size) [.lit (.bool true)] []:=by
  intro b sp B;rw [hr];exact trodAll_cons_mk (shut_bool r _) trodAll_mk0
 refine⟨ds,[],p++[],[],p,[],u, ?_, ?_, ?_,World.keptBut_mono (fun x hx=>⟨hx, ?_⟩) (j.frame (·∈p++[])),fun _=>⟨?_,[.lit (.bool true)]++ds,[],p,⟨p,[], ?_, ?_,by simp, ?_,fun h=>by cases h⟩,fun x hx _=>by simpa using hx⟩⟩
 ·rw [List.append_nil,k]; exact z _ _ _
 ·rw [List.append_nil,k]; exact y _ fun x hx=>by simpa using bl x hx
 ·rw [hv,List.append_nil,k]; exact rfl
 ·exact .inr (.inl (by simpa using hx))
 ·exact ok_one hr rfl (okWide_bool_mk r _)
 ·exact trodAll_append (y _ fun _ _=>rfl) (z _ _ _)
 ·rw [hv]; exact rfl
 ·intro b off hx;have hblk:=bl _ hx;rw [World.frozen?_of_block (w:=W) (j.block _ hblk)];exact hz b off hx
end Go.Ab
/-
 The readings of package api's types,at whatever depth.
-/
namespace Go.Ab
open Go Go.RowKit
section
variable {H:Type}{P:Program}{B:DataW H->Nat}(hB:yq B)
include hB
theorem rV.struct {α β:Type}{t:TypeId}{b:TI}{ps:List (Nat×TypeId)}{R:α->List D}{sz:α->Nat}{wf:α->Prop}(m:aX P t=some b) (hk:b.k=.struct ps) (h:∀N,dD P B N b.size 0 ps R sz wf) (g:α->β){f:β->List D}{j:β->Nat}{l:β->Prop}
  (p:∀a,f (g a)=R a) (q:∀a,j (g a)<=sz a) (hw:∀a,wf a->l (g a)):∀N,dJ P B N t f j l
 | 0=>.zero
 | N+1=>dJ.struct hB m hk (h N) g p q hw
end
end Go.Ab
/-
 The readings of the models' types.
-/
namespace Go.Ab
open Go Go.RowKit
variable {av:bR}
def Sl.sz {α:Type}(f:α->Nat) (s:Sl α):Nat:=1+(s.l.map f).sum
def Sl.wf {α:Type}(p:α->Prop) (s:Sl α):Prop:=(s.nl=true->s.l=[])/\s.l.length<=cC/\∀x∈s.l,p x
def Bs.sz (s:Bs):Nat:=s.length+1
section
variable {H:Type}{P:Program}{B:DataW H->Nat}
theorem dJ.AT {α β:Type}{N:Nat}{t:TypeId}{R:α->List D}{sz:α->Nat}{wf:α->Prop}(h:dJ P B N t R sz wf) (g:α->β){b:β->List D}{f:β->Nat}{j:β->Prop}
  (k:∀a,b (g a)=R a) (l:∀a,f (g a)<=sz a) (hw:∀a,wf a->j (g a)):dJ P B N t b f j :=
 ⟨fun m ht p hz=>by
  obtain⟨a,h1,q,r⟩:=h.rd m ht p hz;exact⟨g a,by rw [k]; exact h1,Nat.le_trans (l a) q,hw a r⟩⟩
variable (hB:yq B)
include hB
theorem dY.str {t:TypeId}{b:TI}(f:aX P t=some b) (hk:b.k=.str) (N:Nat):dJ P B N t aB Bs.sz fun _=>True :=
 (dJ.str hB f hk).AT (fun s:yf=>s.1) (fun _=>rfl) (fun _=>Nat.le_refl _) fun _ _=>trivial
theorem dY.bool {t:TypeId}{b:TI}(f:aX P t=some b) (hk:b.k=.bool) (N:Nat):dJ P B N t vF (fun _=>1) fun _=>True :=
 (dJ.bool hB f hk).AT id (fun _=>rfl) (fun _=>Nat.le_refl _) fun _ _=>trivial
theorem dY.int {t:TypeId}{b:TI}(f:aX P t=some b) (hk:b.k=.int .i64) (N:Nat):dJ P B N t (bI .i64) (fun _=>1) i64 :=
 (dJ.int hB f hk).AT id (fun _=>rfl) (fun _=>Nat.le_refl _) fun _ h=>h
theorem dY.HU {α:Type}{N:Nat}{t e:TypeId}{b f:TI}{k:Nat}{R:α->List D}{sz:α->Nat}{wf:α->Prop}(g:aX P t=some b) (j:b.k=.slice e) (m:aX P e=some f) (p:f.size=k) (q:0<k) (r:∀a,(R a).length=k)
  (he:dJ P B N e R sz wf):dJ P B (N+1) t (fun s:Sl α=>[Sl.d k R none s]) (Sl.sz sz) (Sl.wf wf) :=
 (dJ.slice hB g j m p q r he).AT (fun s:ko α=>(⟨s.nil,s.l⟩:Sl α)) (fun _=>rfl) (fun _=>Nat.le_refl _) (fun s h=>by unfold ko.wf at h; exact⟨s.nn,s.ok,h⟩)
theorem dY.slice {α:Type}{t e:TypeId}{b f:TI}{k:Nat}{R:α->List D}{sz:α->Nat}{wf:α->Prop}(g:aX P t=some b) (j:b.k=.slice e) (l:aX P e=some f) (m:f.size=k) (p:0<k) (q:∀a,(R a).length=k)
  (he:∀N,dJ P B N e R sz wf):∀N,dJ P B N t (fun s:Sl α=>[Sl.d k R none s]) (Sl.sz sz) (Sl.wf wf)
 | 0=>.zero
 | N+1=>dY.HU hB g j l m p q (he N)
end
theorem Sl.dP {α:Type}{f:α->Nat}(s:Sl α) (h:∀a,1<=f a):s.l.length<=s.sz f:=by
 have:=DP (f:=f) s.l fun a _=>h a;unfold Sl.sz; omega
theorem Sl.dA {α:Type}{f:α->Nat}{s:Sl α}{a:α}(h:a∈s.l):f a<s.sz f:=by
 have:=HS (f:=f) h;unfold Sl.sz; omega
end Go.Ab
namespace Go.Ab
variable {av:bR}
theorem Bs.lm (s:Bs):1<=Bs.sz s:=by unfold Bs.sz; omega
theorem Sl.ja {α:Type}{f:α->Nat}(s:Sl α) (h:∀a,1<=f a):s.l.length<Sl.sz f s:=by
 have:=Sl.dP s h;unfold Sl.sz at *
 suffices s.l.length<=(s.l.map f).sum by omega
 clear this;induction s.l with
 | nil=>simp
 | cons x r b=>have:=h x; simp; omega
end Go.Ab
/-
 Short forms of the rules,for the packed texts.
-/
namespace Go.Ab
open Go Go.RowKit
variable {av:bR}
class jb (P:Program) where
 T:List TI
 ok:ng P T
theorem iF {P:Program} [jb P] {i:TypeId}{b:TI}(h:(jb.T P)[i]?=some b):aX P i=some b:=jb.ok i b h
section
variable {P:Program}{Q:Exit->St->Prop}{σ:St}
theorem ah.cE {c:Operand}{u v:Code}{b:Bool}{α:Type}{A B:Option α}{r:α}(f:(bif b then A else B)=some r) (ht:b=true->A=some r->ah P u Q σ) (g:b=false->B=some r->ah P v Q σ) (hc:ev σ.ts c=.a (.d (.bool b)):=by exact rfl):ah P (.cond c u v) Q σ:=ah.gp f hc ht g
end
theorem AC.oW {P:Program} [jb P] (n:Nat) (rs:List ResultVar){f:FuncId}{fn:Func}{c:Code}{args:List A}{h:af}{cZ:V->af->Prop}(b:∀(dc:Array Value) (w:World),(callFunc f dc).run P w=.ok (.enter f dc) w) (g:P.funcs[f]?=some fn)
  (hw:ah P c (bH (jb.T P) rs cZ) ⟨n,pZ 0 args,[],h⟩) (j:fn.body=some c:=by exact rfl) (hn:fn.ntmps=n:=by exact rfl) (k:fn.results.toList=rs:=by exact rfl) (hl:Nat.ble args.length n=true:=by exact rfl):AC P f args h cZ :=
 AC.of_wp jb.ok b g j hn k hl hw
variable {fS:eT}
section
variable {P:Program}{ops:Array Oper}{rest:List Oper}{Q:St->Prop}{n:Nat}{ts:Ts}{ls aV:List (List D)}{h h':af}{fx:Fx}{v:V}{d dg gi:Nat}{op:Op}{ty:TypeId}{pos:String}{aI:Array Edge}{want b C:Bool}{done:List Fx}
-- RULES
variable {o:Oper}{c c':Bool}{x x':A}{f:Operand}{args:Array Operand}{cm:Array TypeId}{eB:FuncId}{cD:List D}{xs:List A}
theorem gI {C c:Bool}(h:C=true->c=true:=by intro hC; first|assumption|exact iY (by assumption)|exact iY (iY (by assumption))|exact iY (iY (iY (by assumption)))|exact Dg (by assumption)|simp_all):C=true->c=true:=h
theorem S (b:aq P ⟨some d,op,ty,pos,aI,none⟩ ts ls h fx v ls h) (hr:aJ P ops rest Q ⟨n,(d,v)::ts,ls,h⟩) (f:Nat.blt d n=true:=by exact rfl):aJ P ops (⟨some d,op,ty,pos,aI,none⟩::rest) Q ⟨n,ts,ls,h⟩:=aJ.s0 b f hr
theorem Sd (b:aq P ⟨some d,op,ty,pos,aI,none⟩ ts ls h fx v ls h) (hr:aN P ops n rest (fx.plain::done) Q ⟨n,(d,v)::ts,ls,h⟩) (f:Nat.blt d n=true:=by exact rfl):aN P ops n (⟨some d,op,ty,pos,aI,none⟩::rest) done Q ⟨n,ts,ls,h⟩:=aN.s0 b f hr
theorem G1 (k:Nat) (hk:Ab.get ts k=.gd c x) (b:aq P ⟨some d,op,ty,pos,aI,some (gi,want)⟩ ((k,.a x)::ts) ls h fx v ls h) (hr:aJ P ops rest Q ⟨n,(d,v.under C)::ts,ls,h⟩) (hg:(ops[gi]?).bind (·.dst)=some dg:=by exact rfl) (hc:gc (get ts dg) want=some C:=by exact rfl) (f:Nat.blt d n=true:=by exact rfl) (hi:C=true->c=true:=by exact gI):aJ P ops (⟨some d,op,ty,pos,aI,some (gi,want)⟩::rest) Q ⟨n,ts,ls,h⟩:=aJ.gC hg hc (fun hC=>aq.iL hk (hi hC) b) f hr
theorem G2 (k k':Nat) (hk:Ab.get ts k=.gd c x) (b:Ab.get ((k,.a x)::ts) k'=.gd c' x') (f:aq P ⟨some d,op,ty,pos,aI,some (gi,want)⟩ ((k',.a x')::(k,.a x)::ts) ls h fx v ls h) (hr:aJ P ops rest Q ⟨n,(d,v.under C)::ts,ls,h⟩) (hg:(ops[gi]?).bind (·.dst)=some dg:=by exact rfl) (hc:gc (get ts dg) want=some C:=by exact rfl) (g:Nat.blt d n=true:=by exact rfl) (hi:C=true->c=true:=by exact gI) (j:C=true->c'=true:=by exact gI):aJ P ops (⟨some d,op,ty,pos,aI,some (gi,want)⟩::rest) Q ⟨n,ts,ls,h⟩:=aJ.gC hg hc (fun hC=>aq.iL hk (hi hC) (aq.iL b (j hC) f)) g hr
theorem dQ (k:Nat) (hg:(ops[gi]?).bind (·.dst)=some dg) (hc:gc (get ts dg) want=some C) (hk:Ab.get ts k=.gd c x) (b:ev ((k,.a x)::ts) f=.a (.d (.func eB cD))) (g:iX ((k,.a x)::ts) args.toList=some xs) (j:C=true->∀H:af,AC P eB (xs++cD.map A.d) H fun r h'=>r=v/\h'=H) (hr:aJ P ops rest Q ⟨n,(d,v.under C)::ts,ls,h⟩) (hi:C=true->c=true:=by exact gI) (l:Nat.blt d n=true:=by exact rfl):aJ P ops (⟨some d,.call { callee:=.value f,args:=args,argTypes:=cm },ty,pos,aI,some (gi,want)⟩::rest) Q ⟨n,ts,ls,h⟩:=aJ.gC hg hc (fun hC=>aq.iL hk (hi hC) (aq.jQ b g (j hC))) l hr
theorem fE (k k':Nat) (hg:(ops[gi]?).bind (·.dst)=some dg) (hc:gc (get ts dg) want=some C) (hk:Ab.get ts k=.gd c x) (b:Ab.get ((k,.a x)::ts) k'=.gd c' x') (g:ev ((k',.a x')::(k,.a x)::ts) f=.a (.d (.func eB cD))) (j:iX ((k',.a x')::(k,.a x)::ts) args.toList=some xs) (l:C=true->∀H:af,AC P eB (xs++cD.map A.d) H fun r h'=>r=v/\h'=H) (hr:aJ P ops rest Q ⟨n,(d,v.under C)::ts,ls,h⟩) (hi:C=true->c=true:=by exact gI) (m:C=true->c'=true:=by exact gI) (p:Nat.blt d n=true:=by exact rfl):aJ P ops (⟨some d,.call { callee:=.value f,args:=args,argTypes:=cm },ty,pos,aI,some (gi,want)⟩::rest) Q ⟨n,ts,ls,h⟩:=aJ.gC hg hc (fun hC=>aq.iL hk (hi hC) (aq.iL b (m hC) (aq.jQ g j (l hC)))) p hr
theorem PU (k:Nat) (hk:Ab.get ts k=.gd c x) (b:aq P ⟨some d,op,ty,pos,aI,some (gi,want)⟩ ((k,.a x)::ts) ls h fx v ls h) (hr:aN P ops n rest (fx.plain::done) Q ⟨n,(d,v.under C)::ts,ls,h⟩) (hg:(ops[gi]?).bind (·.dst)=some dg:=by exact rfl) (hc:gc (get ts dg) want=some C:=by exact rfl) (f:Nat.blt d n=true:=by exact rfl) (hi:C=true->c=true:=by exact gI):aN P ops n (⟨some d,op,ty,pos,aI,some (gi,want)⟩::rest) done Q ⟨n,ts,ls,h⟩:=aN.gC hg hc (fun hC=>aq.iL hk (hi hC) b) f hr
theorem AU (k k':Nat) (hk:Ab.get ts k=.gd c x) (b:Ab.get ((k,.a x)::ts) k'=.gd c' x') (f:aq P ⟨some d,op,ty,pos,aI,some (gi,want)⟩ ((k',.a x')::(k,.a x)::ts) ls h fx v ls h) (hr:aN P ops n rest (fx.plain::done) Q ⟨n,(d,v.under C)::ts,ls,h⟩) (hg:(ops[gi]?).bind (·.dst)=some dg:=by exact rfl) (hc:gc (get ts dg) want=some C:=by exact rfl) (g:Nat.blt d n=true:=by exact rfl) (hi:C=true->c=true:=by exact gI) (j:C=true->c'=true:=by exact gI):aN P ops n (⟨some d,op,ty,pos,aI,some (gi,want)⟩::rest) done Q ⟨n,ts,ls,h⟩:=aN.gC hg hc (fun hC=>aq.iL hk (hi hC) (aq.iL b (j hC) f)) g hr
theorem oH (k:Nat) (hg:(ops[gi]?).bind (·.dst)=some dg) (hc:gc (get ts dg) want=some C) (hk:Ab.get ts k=.gd c x) (b:ev ((k,.a x)::ts) f=.a (.d (.func eB cD))) (g:iX ((k,.a x)::ts) args.toList=some xs) (j:C=true->∀H:af,AC P eB (xs++cD.map A.d) H fun r h'=>r=v/\h'=H) (hr:aN P ops n rest (Fx.plain {}::done) Q ⟨n,(d,v.under C)::ts,ls,h⟩) (hi:C=true->c=true:=by exact gI) (l:Nat.blt d n=true:=by exact rfl):aN P ops n (⟨some d,.call { callee:=.value f,args:=args,argTypes:=cm },ty,pos,aI,some (gi,want)⟩::rest) done Q ⟨n,ts,ls,h⟩:=aN.gC hg hc (fun hC=>aq.iL hk (hi hC) (aq.jQ b g (j hC))) l hr
theorem vN (k k':Nat) (hg:(ops[gi]?).bind (·.dst)=some dg) (hc:gc (get ts dg) want=some C) (hk:Ab.get ts k=.gd c x) (b:Ab.get ((k,.a x)::ts) k'=.gd c' x') (g:ev ((k',.a x')::(k,.a x)::ts) f=.a (.d (.func eB cD))) (j:iX ((k',.a x')::(k,.a x)::ts) args.toList=some xs) (l:C=true->∀H:af,AC P eB (xs++cD.map A.d) H fun r h'=>r=v/\h'=H) (hr:aN P ops n rest (Fx.plain {}::done) Q ⟨n,(d,v.under C)::ts,ls,h⟩) (hi:C=true->c=true:=by exact gI) (m:C=true->c'=true:=by exact gI) (p:Nat.blt d n=true:=by exact rfl):aN P ops n (⟨some d,.call { callee:=.value f,args:=args,argTypes:=cm },ty,pos,aI,some (gi,want)⟩::rest) done Q ⟨n,ts,ls,h⟩:=aN.gC hg hc (fun hC=>aq.iL hk (hi hC) (aq.iL b (m hC) (aq.jQ g j (l hC)))) p hr
theorem BI [jb P] (e:aq P o ts ls h fx v aV h':=by exact aq.xW rfl rfl rfl):aq P o ts ls h fx v aV h':=e
theorem BS [jb P] (e:aq P o ts ls h fx v aV h':=by exact aq.C6 rfl rfl rfl):aq P o ts ls h fx v aV h':=e
theorem aJ.SI {t u:TypeId}{x y:Operand}{p q:Int}(hr:aJ P ops rest Q ⟨n,(d,.a (.d (.int .i64 (p+q))))::ts,ls,h⟩) (hx:ev ts x=.a (.d (.int .i64 p)):=by exact rfl) (b:ev ts y=.a (.d (.int .i64 q)):=by exact rfl)
  (h1 : -9223372036854775808<=p+q:=by first|omega|(dsimp only; omega)|(simp at *; omega)) (f:p+q<=9223372036854775807:=by first|omega|(dsimp only; omega)|(simp at *; omega)) (g:Nat.blt d n=true:=by exact rfl) :
  aJ P ops (⟨some d,.binOp .add t x y u,ty,pos,aI,none⟩::rest) Q ⟨n,ts,ls,h⟩:=aJ.s0 (aq.p6 hx b h1 f) g hr
theorem aJ.Sc {f:Operand}{args:Array Operand}{cm:Array TypeId}{eB:FuncId}{cD:List D}{xs:List A}(b:ev ts f=.a (.d (.func eB cD))) (g:iX ts args.toList=some xs)
  (hc:∀H:af,AC P eB (xs++cD.map A.d) H fun r h'=>r=v/\h'=H) (hr:aJ P ops rest Q ⟨n,(d,v)::ts,ls,h⟩) (j:Nat.blt d n=true:=by exact rfl):aJ P ops (⟨some d,.call { callee:=.value f,args:=args,argTypes:=cm },ty,pos,aI,none⟩::rest) Q ⟨n,ts,ls,h⟩:=aJ.s0 (aq.jQ b g hc) j hr
theorem aJ.Sl [jb P] (hr:aJ P ops rest Q ⟨n,(d,v)::ts,aV,h⟩) (b:aq P ⟨some d,op,ty,pos,aI,none⟩ ts ls h { wl:=true } v aV h:=by exact aq.OQ (iF rfl) rfl) (f:Nat.blt d n=true:=by exact rfl) :
  aJ P ops (⟨some d,op,ty,pos,aI,none⟩::rest) Q ⟨n,ts,ls,h⟩:=aJ.sL b f hr
theorem aJ.Sf [jb P] (hr:aJ P ops rest Q ⟨n,ts,aV,h⟩) (b:aq P ⟨none,op,ty,pos,aI,none⟩ ts ls h { wl:=true } v aV h:=by first|exact aq.yh (iF rfl) rfl rfl rfl rfl rfl|exact aq.jC (iF rfl) rfl rfl rfl rfl (by repeat (first|exact bn.zero|apply bn.succ)) (by repeat (first|exact bn.zero|apply bn.succ))) :
  aJ P ops (⟨none,op,ty,pos,aI,none⟩::rest) Q ⟨n,ts,ls,h⟩:=aJ.gD b hr
theorem aJ.hq {h:af}(h':af) (hw:aJ P ops rest Q ⟨n,ts,ls,h'⟩) (e:h=h':=by first|rfl|(rw [af.set_set]; rfl)|(funext n_; simp only [af.set]; (repeat' split)<;>first|rfl|(exfalso; simp_all; done)|(simp_all; done))):aJ P ops rest Q ⟨n,ts,ls,h⟩:=aJ.fP e hw
theorem aN.Dh {h:af}(h':af) (hw:aN P ops n rest done Q ⟨n,ts,ls,h'⟩) (e:h=h':=by first|rfl|(rw [af.set_set]; rfl)|(funext n_; simp only [af.set]; (repeat' split)<;>first|rfl|(exfalso; simp_all; done)|(simp_all; done))):aN P ops n rest done Q ⟨n,ts,ls,h⟩:=aN.fP e hw
end
section
variable {P:Program}{Q:Exit->St->Prop}{σ:St}
theorem ah.PV {id:Nat}{l:List Oper}{y:Code}(h:aJ P l.toArray l (fun b=>ah P y Q b) σ):ah P (.seq (.region id l.toArray false) y) Q σ:=ah.seq (ah.region h)
theorem ah.PW {id:Nat}{l:List Oper}{y:Code}(h:aN P l.toArray σ.n l [] (fun b=>ah P y Q b) σ) (hm:P.follows .mixedOrders=true:=by exact rfl):ah P (.seq (.region id l.toArray true) y) Q σ:=ah.seq (ah.draw hm h)
theorem ah.sk {A K:St->Prop}(b:∀σ,A σ->K σ) (h:A σ) (e:K σ->Q .normal σ:=by exact fun h=>h):ah P .skip Q σ:=ah.skip (e (b _ h))
theorem ah.rt {α:Type}{a r:α}(b:some a=some r) (h:a=r->Q .ret σ:=by intro e; subst e; (repeat (first|refine yc ?_|refine yd ?_)); exact bH.b9 _ rfl ⟨rfl,rfl⟩ (fun _ _ h=>h)):ah P .ret Q σ:=ah.ret (h (Option.some.inj b))
end
theorem bO {α β:Type}{o:Option α}{k:α->Option β}{r:β}(h:o.bind k=some r):∃x,o=some x/\k x=some r:=bw h
theorem gO {α β:Type}{c:Bool}{o:Option α}{d:α}{k:α->Option β}{r:β}(h:aY c o d k=some r):∃x,(c=true->o=some x)/\k x=some r:=AG h
section
variable {P:Program}{α:Type}{ts:Ts}{ls aV:List (List D)}{h h':af}{dst:Option Tmp}{ty:TypeId}{pos:String}{aI:Array Edge}{g:Option (Nat×Bool)}{ops:Array Oper}{rest:List Oper}{Q:St->Prop}{n d:Nat}{v:V}{op:Op}{done:List Fx}
theorem ix [jb P] (f:α->List D) (n:Nat){t e:TypeId}{b j:TI}{x i:Operand}{tok:Option Nat}{s:Sl α}{m:IntKind}{y:α}{k:Nat}(hr:s.l[n]?=some y) (p:aX P t=some b:=by exact iF rfl) (hk:b.k=.slice e:=by exact rfl) (q:aX P e=some j:=by exact iF rfl)
  (hx:ev ts x=.a (.d (s.d k f tok)):=by exact rfl) (hi:ev ts i=.a (.d (.int m (n:Int))):=by exact rfl) (r:k=j.size:=by exact rfl):aq P ⟨dst,.indexAddr t x i,ty,pos,aI,g⟩ ts ls h {} (.a (.d (.view (f y)))) ls h:=aq.AH p hk q hx hi r hr
theorem am {t u e:TypeId}{j p b:TI}(f:α->List D){x y:Operand}{tk k k' m:Nat}{tok':Option Nat}{s r w:Sl α}{z:A}(q:aX P t=some j) (hk:j.k=.slice e) (v:aX P e=some b) (B:aX P u=some p) (hr:bf b.bytes s r=some w) (C:∃e,p.k=.slice e:=by exact⟨_,rfl⟩)
  (hz:b.zero=some z:=by exact rfl) (E:(ct z).length=b.size:=by exact rfl) (F:b.size≠0:=by decide) (hx:ev ts x=.a (.d (s.d k f (some tk))):=by exact rfl) (G:ev ts y=.a (.d (r.d k' f tok')):=by exact rfl) (H:k=b.size:=by exact rfl) (I:k'=b.size:=by exact rfl)
  (bt:h tk=some (.tok b.size m):=by exact aA) (hm:m=s.l.length:=by exact rfl):aq P ⟨dst,.call { callee:=.builtin .append,args:=#[x,y],argTypes:=#[t,u] },ty,pos,aI,g⟩ ts ls h { rh:=true,wh:=true } (.a (.d (w.d k f (some tk)))) ls (h.set tk (some (.tok b.size w.l.length))) :=
 aq.iM q hk v B C hz E F hx G H I bt hm hr
theorem SH (b:aq P ⟨some d,op,ty,pos,aI,none⟩ ts ls h { rh:=true,wh:=true } v ls h') (hr:aJ P ops rest Q ⟨n,(d,v)::ts,ls,h'⟩) (f:Nat.blt d n=true:=by exact rfl):aJ P ops (⟨some d,op,ty,pos,aI,none⟩::rest) Q ⟨n,ts,ls,h⟩:=aJ.sH b f hr
theorem cH {f:Operand}{args:Array Operand}{cm:Array TypeId}{eB:FuncId}{cD:List D}{xs:List A}(b:ev ts f=.a (.d (.func eB cD))) (g:iX ts args.toList=some xs)
  (hc:∀H:af,AC P eB (xs++cD.map A.d) H fun r h'=>r=v/\h'=H) (hr:aN P ops n rest (Fx.plain {}::done) Q ⟨n,(d,v)::ts,ls,h⟩) (j:Nat.blt d n=true:=by exact rfl):aN P ops n (⟨some d,.call { callee:=.value f,args:=args,argTypes:=cm },ty,pos,aI,none⟩::rest) done Q ⟨n,ts,ls,h⟩:=aN.s0 (aq.jQ b g hc) j hr
end
theorem Qe {α:Type}{a b c:α}(h:c=b) (e:a=b):a=c:=e.trans h.symm
theorem Qs {α:Type}{o p:Option α}(h:o=p.bind some):o=p:=h.trans (Q.PG p)
theorem QT {α:Type}{i n:Nat}{a b r:α}(h:i<n) (e:a=r):cond (decide ((i:Int)<(n:Int))) a b=r:=Q.jN (Q.HJ h) e
theorem QF {α:Type}{i n:Nat}{a b r:α}(h:¬i<n) (e:b=r):cond (decide ((i:Int)<(n:Int))) a b=r:=Q.t_ (Q.PI h) e
theorem Qa {α:Type}{l:List α}{i:Nat}(h:i<l.length):∃x,l[i]?=some x:=⟨_,List.getElem?_eq_getElem h⟩
theorem dL {α:Type}{i:Nat}{l:List α}(h:l.length<=i):l.drop i=[]:=List.drop_of_length_le h
end Go.Ab
/-
 Short rules for walks over the list layer.
-/
namespace Go.Ab
open Go
section
variable {av:bR}{P:Program}{Q:Exit->St->Prop}{σ:St}
theorem ah.cO {c:Operand}{u v:Code}{b:Bool}{α R:Type}{A B:Option α}{K:α->Option R}{r:R}(f:Option.bind (bif b then A else B) K=some r) (ht:b=true->Option.bind A K=some r->ah P u Q σ) (g:b=false->Option.bind B K=some r->ah P v Q σ) (hc:ev σ.ts c=.a (.d (.bool b)):=by exact rfl):ah P (.cond c u v) Q σ:=ah.oG f hc ht g
theorem ah.cP {c:Operand}{u v:Code}{b:Bool}{α R:Type}{A B:α}{K:α->Option R}{r:R}(f:K (bif b then A else B)=some r) (ht:b=true->K A=some r->ah P u Q σ) (g:b=false->K B=some r->ah P v Q σ) (hc:ev σ.ts c=.a (.d (.bool b)):=by exact rfl):ah P (.cond c u v) Q σ:=ah.AM f hc ht g
end
end Go.Ab
/-
 A law's call beside the library's table of powers of ten. No program text.
-/
namespace Go.Ab
open Go Go.RowKit Go.Proofs Go.ChangeShapes Go.WideShapes Go.ChangeAt
variable {av:bR}
theorem PX {P:Program}{W:World}{l:List (String×DataW Unit)}{name:String}{k:IntKind}{b:List Int}{g:Nat}{t e:TypeId}{n:Nat}(hg:P.globalNamed name=some g) (f:(P.globals[g]?).map (·.type)=some t) (ht:P.underlying t=some (.array n e))
  (he:P.underlying e=some (.int k)) (j:P.cellsOf e=1) (m:P.cellsOf t=n) (h:laidMet P l W) (hm:(name,Lib.tabData k b)∈l):∃u fr,W.heap[g]?=some (.cells (b.map fun z=>Value.int k z).toArray u fr):=by
 obtain⟨w,t',cs,fuel,p,q,r,hv,s⟩:=Lib.laidMet.reads h hm;obtain rfl:=Option.some.inj (hg.symm.trans q);obtain rfl:=Option.some.inj (f.symm.trans r);have hc:=Lib.cells_of_tab ht he j m s;unfold World.var? at hv;rw [hg,Option.bind_some] at hv
 split at hv
 ·rename_i c u fr v
  simp only [Option.some.injEq] at hv;subst hv;refine⟨u,fr, ?_⟩;rw [<- hc];exact v
 ·cases hv
def fw (g:Nat) (o:Go.Obj):af:=fun i=>if i=0 then some (.fix g o) else none
def jT (w:World):J:={ j0 w with next:=1 }
theorem PY (w:World):Le (j0 w) w (jT w) w:=⟨Nat.zero_le _,fun _ h=>absurd h (Nat.not_lt_zero _),fun _=>Nat.le_refl _,fun _ _ _=>rfl,fun _ h=>absurd h (Nat.not_lt_zero _),fun _ _ _ _ _ h=>h⟩
theorem PZ {w:World}{g:Nat}{o:Go.Obj}(h:w.heap[g]?=some o):fu (jT w) w (fw g o):=by
 refine⟨fun id m hi=>?_,fun jg o1 jh o2 b h1 f _ _=>?_,fun b j=>(by simp [jT,j0,Array.getElem?_eq_none j])⟩
 ·unfold fw at hi
  split at hi
  ·rename_i h0; subst h0; cases hi; exact⟨Nat.zero_lt_one,h⟩
  ·cases hi
 ·unfold fw at h1 f
  split at h1
  ·split at f
   ·rename_i k l; rw [k,l]
   ·cases f
  ·cases h1
theorem P0 {P:Program}{f:FuncId}{xs:List A}{g:Nat}{o:Go.Obj}(hc:@AC bR.on P f xs (fw g o) fun r h'=>r=.a (.d (.bool true))/\h'=fw g o){W:World}{args:List Value}(hg:W.heap[g]?=some o) (p:aQ (dw (j0 W) W) xs args) :
  Calls P f args.toArray W fun e j=>e=.returned (.bool true)/\Below W.heap.size W j:=by
 letI:bR:=bR.on
 refine(hc.runs (jT W) W args (PZ hg) (p.imp fun _ _ h=>h.mono (PY W))).mono ?_;rintro e j ⟨r,cv,j',h',rfl,⟨rfl,rfl⟩,hv,hr,b⟩;have q:aF j' j (.bool true) cv:=hv;cases q;refine⟨rfl,b.os,b.tape,b.output.1,b.size,fun k hk=>?_⟩;by_cases l:k=g
 ·subst l;have h1:j.heap[k]?=some o:=(hr.obj 0 (.fix k o) rfl).2;rw [h1,hg]
 ·refine(b.frame k hk ?_).1;rintro (h|⟨id,s,h,m⟩)
  ·cases h
  ·unfold fw at h
   split at h
   ·cases h;simp only [bJ,Option.some.injEq] at m;exact l m.symm
   ·cases h
theorem iq.of {P:Program}{g:Nat}{u:TypeId}{fr:Nat×Nat}(hg:P.globalNamed "internal/strconv.uint64pow10"=some g):iq P (.fix g (.cells (Lib.pow10Tab.map fun z=>Value.int .u64 z).toArray u fr)):=⟨g,u,fr,rfl,hg⟩
end Go.Ab
namespace Go.Ab
variable {av:bR}
theorem AV {j:J}{w:World}{xs:List D}{cs:List Value}(i k':Nat) {k:Nat}(hx:aQ (aF j w) xs cs) (hi:xs[i]?=some (.slice k none true [])):aQ (aF j w) (xs.set i (.slice k' none true [])) cs:=by
 refine aQ.jf (by rw [List.length_set,hx.length]) fun n x v hn hv=>?_
 rw [List.getElem?_set] at hn
 split at hn
 ·rename_i e
  subst e
  split at hn
  ·simp only [Option.some.injEq] at hn; subst hn
   obtain⟨f,b,hr⟩:=hx.get hi
   rw [hv] at b; simp only [Option.some.injEq] at b; subst b
   cases hr
   exact .gu k' none fun _ h=>by cases h
  ·cases hn
 ·obtain⟨f,b,hr⟩:=hx.get hn
  rw [hv] at b; simp only [Option.some.injEq] at b; subst b
  exact hr
end Go.Ab
namespace Go.Ab
theorem oB {α β : Type} (a : α) (f : α → Option β) : (some a).bind f = f a := rfl
theorem oJ {α : Type} {a b : α} (h : some a = some b) : a = b := Option.some.inj h
theorem nS (n : Nat) : n < n.succ := Nat.lt_succ_self n
theorem oD {p : Prop} [Decidable p] (h : decide p = true) : p := of_decide_eq_true h
theorem dF {p : Prop} [Decidable p] (h : ¬ p) : decide p = false := decide_eq_false h
theorem dT {p : Prop} [Decidable p] (h : p) : decide p = true := decide_eq_true h
theorem kN {ts : Ts} : fT ts [] := .nil
end Go.Ab
namespace Go.Ab
open aJ aq ah dN fT
variable {av : bR} {fS : eT}
abbrev RT (x : V) (H : af) : V → af → Prop := fun v h' => v = x ∧ h' = H
abbrev vi (n : Nat) : V := .a (.d (.int .i64 (n : Int)))
abbrev tS {α : Type} (h : af) (t k : Nat) (s : Sl α) : af := h.set t (some (.tok k s.l.length))
abbrev cS (h : af) (i : Nat) (x : List D) : af := h.set i (some (.cells x))
theorem Kx {P : Program} [jb P] {o : Oper} {ts : Ts} {ls aV : List (List D)} {h h' : af} {fx : Fx} {v : V} (e : aq P o ts ls h fx v aV h' := by first | exact aq.OO | exact aq.dU (iF rfl) rfl rfl rfl | exact aq.OP | exact aq.p8 (iF rfl) rfl rfl (iF rfl) rfl rfl | exact aq.xW rfl rfl rfl | exact aq.N0 rfl | exact aq.extract rfl rfl | exact aq.C6 rfl rfl rfl | exact aq.kr rfl rfl rfl | exact aq.um rfl rfl rfl | exact aq.Oz rfl | exact aq.jP (iF rfl) rfl rfl rfl rfl | exact aq.nj (iF rfl) rfl rfl (iF rfl) rfl rfl | exact aq.build jb.ok rfl rfl rfl rfl rfl rfl | exact aq.buildSlice (iF rfl) rfl (iF rfl) rfl rfl rfl rfl rfl rfl | exact aq.iK rfl | exact aq.iD (iF rfl) rfl rfl (iF rfl) rfl rfl | exact aq.eM (iF rfl) rfl rfl aA rfl) : aq P o ts ls h fx v aV h' := e
section
variable {P : Program} {α : Type} {ts : Ts} {ls aV : List (List D)} {h h' : af} {ty : TypeId} {pos : String} {aI : Array Edge} {ops : Array Oper} {rest : List Oper} {Q : St → Prop} {n d dg gi : Nat} {v : V} {op : Op} {done : List Fx} {want C c c' : Bool} {x x' : A} {fx : Fx}
theorem Gk [jb P] (k : Nat) (hr : aJ P ops rest Q ⟨n, (d, v.under C) :: ts, ls, h⟩) (hk : Ab.get ts k = .gd c x := by exact rfl) (b : aq P ⟨some d, op, ty, pos, aI, some (gi, want)⟩ ((k, .a x) :: ts) ls h fx v ls h := by exact Kx) (hg : (ops[gi]?).bind (·.dst) = some dg := by exact rfl) (hc : gc (get ts dg) want = some C := by exact rfl) (f : Nat.blt d n = true := by exact rfl) (hi : C = true → c = true := by exact gI) : aJ P ops (⟨some d, op, ty, pos, aI, some (gi, want)⟩ :: rest) Q ⟨n, ts, ls, h⟩ := G1 k hk b hr hg hc f hi
theorem dZ [jb P] (k : Nat) (hr : aN P ops n rest (fx.plain :: done) Q ⟨n, (d, v.under C) :: ts, ls, h⟩) (hk : Ab.get ts k = .gd c x := by exact rfl) (b : aq P ⟨some d, op, ty, pos, aI, some (gi, want)⟩ ((k, .a x) :: ts) ls h fx v ls h := by exact Kx) (hg : (ops[gi]?).bind (·.dst) = some dg := by exact rfl) (hc : gc (get ts dg) want = some C := by exact rfl) (f : Nat.blt d n = true := by exact rfl) (hi : C = true → c = true := by exact gI) : aN P ops n (⟨some d, op, ty, pos, aI, some (gi, want)⟩ :: rest) done Q ⟨n, ts, ls, h⟩ := PU k hk b hr hg hc f hi
theorem bG (k : Nat) (hk : Ab.get ts k = .gd c x) (b : C = true → aq P ⟨some d, op, ty, pos, aI, some (gi, want)⟩ ((k, .a x) :: ts) ls h fx v ls h) (hr : aJ P ops rest Q ⟨n, (d, v.under C) :: ts, ls, h⟩) (hg : (ops[gi]?).bind (·.dst) = some dg := by exact rfl) (hc : gc (get ts dg) want = some C := by exact rfl) (f : Nat.blt d n = true := by exact rfl) (hi : C = true → c = true := by exact gI) : aJ P ops (⟨some d, op, ty, pos, aI, some (gi, want)⟩ :: rest) Q ⟨n, ts, ls, h⟩ := aJ.gC hg hc (fun hC => aq.iL hk (hi hC) (b hC)) f hr
theorem qe (k : Nat) (hk : Ab.get ts k = .gd c x) (b : C = true → aq P ⟨some d, op, ty, pos, aI, some (gi, want)⟩ ((k, .a x) :: ts) ls h fx v ls h) (hr : aN P ops n rest (fx.plain :: done) Q ⟨n, (d, v.under C) :: ts, ls, h⟩) (hg : (ops[gi]?).bind (·.dst) = some dg := by exact rfl) (hc : gc (get ts dg) want = some C := by exact rfl) (f : Nat.blt d n = true := by exact rfl) (hi : C = true → c = true := by exact gI) : aN P ops n (⟨some d, op, ty, pos, aI, some (gi, want)⟩ :: rest) done Q ⟨n, ts, ls, h⟩ := aN.gC hg hc (fun hC => aq.iL hk (hi hC) (b hC)) f hr
theorem e9 (k k' : Nat) (hk : Ab.get ts k = .gd c x) (b : Ab.get ((k, .a x) :: ts) k' = .gd c' x') (f : C = true → aq P ⟨some d, op, ty, pos, aI, some (gi, want)⟩ ((k', .a x') :: (k, .a x) :: ts) ls h fx v ls h) (hr : aJ P ops rest Q ⟨n, (d, v.under C) :: ts, ls, h⟩) (hg : (ops[gi]?).bind (·.dst) = some dg := by exact rfl) (hc : gc (get ts dg) want = some C := by exact rfl) (g : Nat.blt d n = true := by exact rfl) (hi : C = true → c = true := by exact gI) (j : C = true → c' = true := by exact gI) : aJ P ops (⟨some d, op, ty, pos, aI, some (gi, want)⟩ :: rest) Q ⟨n, ts, ls, h⟩ := aJ.gC hg hc (fun hC => aq.iL hk (hi hC) (aq.iL b (j hC) (f hC))) g hr
theorem jF (k k' : Nat) (hk : Ab.get ts k = .gd c x) (b : Ab.get ((k, .a x) :: ts) k' = .gd c' x') (f : C = true → aq P ⟨some d, op, ty, pos, aI, some (gi, want)⟩ ((k', .a x') :: (k, .a x) :: ts) ls h fx v ls h) (hr : aN P ops n rest (fx.plain :: done) Q ⟨n, (d, v.under C) :: ts, ls, h⟩) (hg : (ops[gi]?).bind (·.dst) = some dg := by exact rfl) (hc : gc (get ts dg) want = some C := by exact rfl) (g : Nat.blt d n = true := by exact rfl) (hi : C = true → c = true := by exact gI) (j : C = true → c' = true := by exact gI) : aN P ops n (⟨some d, op, ty, pos, aI, some (gi, want)⟩ :: rest) done Q ⟨n, ts, ls, h⟩ := aN.gC hg hc (fun hC => aq.iL hk (hi hC) (aq.iL b (j hC) (f hC))) g hr
theorem dK [jb P] {dst : Option Tmp} {g : Option (Nat × Bool)} (f : α → List D) (s : Sl α) {t e : TypeId} {b : TI} {y : Operand} {cm : Array TypeId} {k : Nat} {tok : Option Nat} (bQ : cm[0]? = some t := by exact rfl) (j : aX P t = some b := by exact iF rfl) (hk : b.k = .slice e := by exact rfl) (hx : ev ts y = .a (.d (s.d k f tok)) := by exact rfl) : aq P ⟨dst, .call { callee := .builtin .len, args := #[y], argTypes := cm }, ty, pos, aI, g⟩ ts ls h {} (.a (.d (.int .i64 (s.l.length : Int)))) ls h := aq.rO j hk bQ hx
theorem dy {dst : Option Tmp} {g : Option (Nat × Bool)} {t u : TypeId} {y z : Operand} {a b r : Bs} (hr : bV a b = some r) (hx : ev ts y = .a (.d (.str a)) := by exact rfl) (f : ev ts z = .a (.d (.str b)) := by exact rfl) : aq P ⟨dst, .binOp .add t y z u, ty, pos, aI, g⟩ ts ls h {} (.a (.d (.str r))) ls h := aq.Dj hx f hr
theorem eC {dst : Option Tmp} {g : Option (Nat × Bool)} {t u : TypeId} {y z : Operand} {a b r : Int} (hr : cF a b = some r) (hx : ev ts y = .a (.d (.int .i64 a)) := by exact rfl) (f : ev ts z = .a (.d (.int .i64 b)) := by exact rfl) : aq P ⟨dst, .binOp .add t y z u, ty, pos, aI, g⟩ ts ls h {} (.a (.d (.int .i64 r))) ls h := aq.AI hx f hr
theorem HV {dst : Option Tmp} {g : Option (Nat × Bool)} {t u : TypeId} {y z : Operand} {a b r : Int} (hr : rL a b = some r) (hx : ev ts y = .a (.d (.int .i64 a)) := by exact rfl) (f : ev ts z = .a (.d (.int .i64 b)) := by exact rfl) : aq P ⟨dst, .binOp .sub t y z u, ty, pos, aI, g⟩ ts ls h {} (.a (.d (.int .i64 r))) ls h := aq.OD hx f hr
theorem aT [jb P] (f : α → List D) (s : Sl α) {t e : TypeId} {b : TI} {y : Operand} {cm : Array TypeId} {k : Nat} {tok : Option Nat} (hr : s.l.length ≤ 140737488355328 → aJ P ops rest Q ⟨n, (d, .a (.d (.int .i64 (s.l.length : Int)))) :: ts, ls, h⟩) (bQ : cm[0]? = some t := by exact rfl) (g : aX P t = some b := by exact iF rfl) (hk : b.k = .slice e := by exact rfl) (hx : ev ts y = .a (.d (s.d k f tok)) := by exact rfl) (j : Nat.blt d n = true := by exact rfl) : aJ P ops (⟨some d, .call { callee := .builtin .len, args := #[y], argTypes := cm }, ty, pos, aI, none⟩ :: rest) Q ⟨n, ts, ls, h⟩ := aJ.sLen g hk bQ hx j hr
end
theorem sy {H h : af} (e : ∀ j b, H j = some b → h j = some b := by first | exact fun _ _ h => h | exact af.AD (by assumption) | (simp only [af.set_set]; exact af.AD (by assumption)) | (intro i o he; rw [← he]; simp only [af.set] at he ⊢; (repeat' split) <;> simp_all)) : ∀ j b, H j = some b → h j = some b := e
section
variable {P : Program} {Q Q' : Exit → St → Prop} {σ : St}
theorem ry (h : Q' .ret σ) (e : Q' .ret σ → Q .ret σ := by intro h; (repeat (first | refine yc ?_ | refine yd ?_)); exact h) : ah P .ret Q σ := ah.ret (e h)
theorem rs {α : Type} {a r : α} (b : some a = some r) (h : a = r → Q .ret σ := by intro e; subst e; (repeat (first | refine yc ?_ | refine yd ?_)); exact bH.b9 _ rfl ⟨rfl, rfl⟩ sy) : ah P .ret Q σ := ah.ret (h (Option.some.inj b))
theorem hz {c : Code} {n : Nat} {ts : Ts} {ls : List (List D)} {h : af} (h' : af) (hw : ah P c Q ⟨n, ts, ls, h'⟩) (e : h = h' := by funext n_; simp only [af.set]; (repeat' split) <;> simp_all) : ah P c Q ⟨n, ts, ls, h⟩ := ah.jR e hw
end
inductive qf (ts : Ts) : List Nat → Ts → Prop
  | nil : qf ts [] []
  | cons {ks : List Nat} {r : Ts} {k : Nat} {v : V} (t : qf ts ks r) (h : Ab.get ts k = v) : qf ts (k :: ks) ((k, v) :: r)
theorem HW {ts : Ts} {ks : List Nat} {r : Ts} {k : Nat} {v : V} (t : qf ts ks r := by first | exact qf.nil | exact HW) (h : Ab.get ts k = v := by conv => lhs; whnf) : qf ts (k :: ks) ((k, v) :: r) := qf.cons t h
theorem tl {ts r : Ts} (ks : List Nat) (h : qf ts ks r := by first | exact qf.nil | exact HW) : fT ts r := by
  induction h with
  | nil => exact kN
  | cons t h b => exact fT.cons h b
inductive qg (ts : Ts) (m : Nat) : List Nat → Ts → Prop
  | nil : qg ts m [] []
  | cons {ks : List Nat} {r : Ts} {k : Nat} {v : V} (t : qg ts m ks r) (h : Ab.get ts k = v) (hv : v.ye m = true) : qg ts m (k :: ks) ((k, v) :: r)
theorem HX {ts : Ts} {m : Nat} {ks : List Nat} {r : Ts} {k : Nat} {v : V} (t : qg ts m ks r := by first | exact qg.nil | exact HX) (h : Ab.get ts k = v := by conv => lhs; whnf) (hv : v.ye m = true := by rfl) : qg ts m (k :: ks) ((k, v) :: r) := qg.cons t h hv
theorem kl {ts r : Ts} {m : Nat} (ks : List Nat) (h : qg ts m ks r := by first | exact qg.nil | exact HX) : dN ts m r := by
  induction h with
  | nil => exact dN.nil
  | cons t h hv b => exact dN.c h hv b
attribute [local irreducible] aJ aN ah aq
structure Wr (A : Prop) : Prop where
  x : A
theorem Ys {A B : Prop} (h : Wr A → B := by
  intro a
  first
    | apply ah.PV
    | refine aJ.SI ?_
    | (apply aJ.s0; exact Kx; exact rfl)
    | apply aJ.nil
    | (apply aN.s0; exact Kx; exact rfl)
    | apply ah.block
    | apply ah.region
    | (apply aJ.gC; exact rfl; exact rfl; exact fun _ => Kx; exact rfl)
    | refine ah.PW ?_
    | refine aN.nil (by decide +kernel) ?_
    | refine aJ.Sl ?_
    | refine aJ.Sf ?_
    | (apply aN.gC; exact rfl; exact rfl; exact fun _ => Kx; exact rfl)
    | refine aN.gD (aq.yh (iF rfl) rfl rfl rfl rfl rfl) ?_
    | refine aN.sB (iF rfl) rfl rfl ?_
  exact a.x) (a : A) : B := h ⟨a⟩
theorem Y1 {A B : Prop} (a : A) (h : Wr A → B := by intro a; refine Ys (a := ?_); exact a.x) : B := h ⟨a⟩
theorem Y2 {A B : Prop} (a : A) (h : Wr A → B := by intro a; refine Ys (a := ?_); refine Ys (a := ?_); exact a.x) : B := h ⟨a⟩
theorem Y3 {A B : Prop} (a : A) (h : Wr A → B := by intro a; refine Ys (a := ?_); refine Ys (a := ?_); refine Ys (a := ?_); exact a.x) : B := h ⟨a⟩
theorem Y4 {A B : Prop} (a : A) (h : Wr A → B := by intro a; refine Ys (a := ?_); refine Ys (a := ?_); refine Ys (a := ?_); refine Ys (a := ?_); exact a.x) : B := h ⟨a⟩
theorem Y5 {A B : Prop} (a : A) (h : Wr A → B := by intro a; refine Ys (a := ?_); refine Ys (a := ?_); refine Ys (a := ?_); refine Ys (a := ?_); refine Ys (a := ?_); exact a.x) : B := h ⟨a⟩
theorem Y6 {A B : Prop} (a : A) (h : Wr A → B := by intro a; refine Ys (a := ?_); refine Ys (a := ?_); refine Ys (a := ?_); refine Ys (a := ?_); refine Ys (a := ?_); refine Ys (a := ?_); exact a.x) : B := h ⟨a⟩
theorem Y7 {A B : Prop} (a : A) (h : Wr A → B := by intro a; refine Ys (a := ?_); refine Ys (a := ?_); refine Ys (a := ?_); refine Ys (a := ?_); refine Ys (a := ?_); refine Ys (a := ?_); refine Ys (a := ?_); exact a.x) : B := h ⟨a⟩
theorem Y8 {A B : Prop} (a : A) (h : Wr A → B := by intro a; refine Ys (a := ?_); refine Ys (a := ?_); refine Ys (a := ?_); refine Ys (a := ?_); refine Ys (a := ?_); refine Ys (a := ?_); refine Ys (a := ?_); refine Ys (a := ?_); exact a.x) : B := h ⟨a⟩
theorem Y9 {A B : Prop} (a : A) (h : Wr A → B := by intro a; refine Ys (a := ?_); refine Ys (a := ?_); refine Ys (a := ?_); refine Ys (a := ?_); refine Ys (a := ?_); refine Ys (a := ?_); refine Ys (a := ?_); refine Ys (a := ?_); refine Ys (a := ?_); exact a.x) : B := h ⟨a⟩
theorem oI {A B : Prop} (a : A) (h : Wr A → B := by intro a; refine Ys (a := ?_); refine Ys (a := ?_); refine Ys (a := ?_); refine Ys (a := ?_); refine Ys (a := ?_); refine Ys (a := ?_); refine Ys (a := ?_); refine Ys (a := ?_); refine Ys (a := ?_); refine Ys (a := ?_); exact a.x) : B := h ⟨a⟩
theorem DQ {A B : Prop} (a : A) (h : Wr A → B := by intro a; refine Ys (a := ?_); refine Ys (a := ?_); refine Ys (a := ?_); refine Ys (a := ?_); refine Ys (a := ?_); refine Ys (a := ?_); refine Ys (a := ?_); refine Ys (a := ?_); refine Ys (a := ?_); refine Ys (a := ?_); refine Ys (a := ?_); exact a.x) : B := h ⟨a⟩
theorem yt {A B : Prop} (a : A) (h : Wr A → B := by intro a; refine Ys (a := ?_); refine Ys (a := ?_); refine Ys (a := ?_); refine Ys (a := ?_); refine Ys (a := ?_); refine Ys (a := ?_); refine Ys (a := ?_); refine Ys (a := ?_); refine Ys (a := ?_); refine Ys (a := ?_); refine Ys (a := ?_); refine Ys (a := ?_); exact a.x) : B := h ⟨a⟩
theorem HY {A B : Prop} (a : A) (h : Wr A → B := by intro a; refine Ys (a := ?_); refine Ys (a := ?_); refine Ys (a := ?_); refine Ys (a := ?_); refine Ys (a := ?_); refine Ys (a := ?_); refine Ys (a := ?_); refine Ys (a := ?_); refine Ys (a := ?_); refine Ys (a := ?_); refine Ys (a := ?_); refine Ys (a := ?_); refine Ys (a := ?_); exact a.x) : B := h ⟨a⟩
theorem P3 {A B : Prop} (a : A) (h : Wr A → B := by intro a; refine Ys (a := ?_); refine Ys (a := ?_); refine Ys (a := ?_); refine Ys (a := ?_); refine Ys (a := ?_); refine Ys (a := ?_); refine Ys (a := ?_); refine Ys (a := ?_); refine Ys (a := ?_); refine Ys (a := ?_); refine Ys (a := ?_); refine Ys (a := ?_); refine Ys (a := ?_); refine Ys (a := ?_); exact a.x) : B := h ⟨a⟩
theorem P4 {A B : Prop} (a : A) (h : Wr A → B := by intro a; refine Ys (a := ?_); refine Ys (a := ?_); refine Ys (a := ?_); refine Ys (a := ?_); refine Ys (a := ?_); refine Ys (a := ?_); refine Ys (a := ?_); refine Ys (a := ?_); refine Ys (a := ?_); refine Ys (a := ?_); refine Ys (a := ?_); refine Ys (a := ?_); refine Ys (a := ?_); refine Ys (a := ?_); refine Ys (a := ?_); refine Ys (a := ?_); refine Ys (a := ?_); refine Ys (a := ?_); exact a.x) : B := h ⟨a⟩
theorem P5 {A B : Prop} (a : A) (h : Wr A → B := by intro a; refine Ys (a := ?_); refine Ys (a := ?_); refine Ys (a := ?_); refine Ys (a := ?_); refine Ys (a := ?_); refine Ys (a := ?_); refine Ys (a := ?_); refine Ys (a := ?_); refine Ys (a := ?_); refine Ys (a := ?_); refine Ys (a := ?_); refine Ys (a := ?_); refine Ys (a := ?_); refine Ys (a := ?_); refine Ys (a := ?_); refine Ys (a := ?_); refine Ys (a := ?_); refine Ys (a := ?_); refine Ys (a := ?_); exact a.x) : B := h ⟨a⟩
end Go.Ab
