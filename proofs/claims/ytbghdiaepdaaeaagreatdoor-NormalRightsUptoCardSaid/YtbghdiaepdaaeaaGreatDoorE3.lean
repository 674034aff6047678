import Derived.Test.YtbghdiaepdaaeaaGreatDoorE2
import Derived.Defers
import Derived.Scope
import Derived.Laws.IdiomRangeMap
import Derived.Sort.Grow
import Derived.Shelf.SlSortCmp.NoneTotal
import Derived.Shelf.SlicesE.DeleteFunc
import Derived.Laws.BytesString
import Derived.Shelf.Strconv.Itoa3
import Derived.Shelf.Strings.OnBuilder
import Derived.Shelf.Strings.Builder1
import Derived.Shelf.Strings.IndexAnyAll
import Derived.Shelf.Small.Utf8
import Derived.Laws.Runes
import Derived.Lib.TrimU
import Derived.Lib.OthersKept
import Derived.WalkMore
import Derived.Shelf.RegionOpenPlain
import Derived.Shelf.Small.Strs
import Derived.RangeFuncFrom
import Derived.RangeFuncLeaves
import Derived.LoopNIn
import Derived.RangeFuncCalls
import Derived.WalkKit
import Derived.ProofKit
import Derived.OpenShut
import Derived.JoinedCond
import Derived.Carry
import Derived.Lib.LaidU8
set_option maxRecDepth 100000
set_option maxHeartbeats 2000000
set_option linter.unusedVariables false
set_option linter.unusedSimpArgs false
/-
 The rules as a walk applies them.
-/
namespace Go.Ab
open Go Go.RowKit
variable {ak:bf}
variable {eP:d_}
section
variable {P:Program}{ops:Array Oper}{rest:List Oper}{Q:St->Prop}{n:Nat}{ts:Ts}{ls aH:List (List D)}{h h':ah}{fx:Fx}{v:V}{d dg gi:Nat}{op:Op}{ty:TypeId}{pos:String}{aC:Array Edge}{want b:Bool}
theorem M2 (h:Nat.blt d n=true):iq (some d) n=true:=h
theorem aQ.s0 (b:ar P ⟨some d,op,ty,pos,aC,none⟩ ts ls h fx v ls h) (f:Nat.blt d n=true) (hr:aQ P ops rest Q ⟨n,(d,v)::ts,ls,h⟩):aQ P ops (⟨some d,op,ty,pos,aC,none⟩::rest) Q ⟨n,ts,ls,h⟩ :=
 aQ.step b rfl f (by cases fx.wl<;>cases fx.wh<;>exact hr)
theorem aQ.sL (b:ar P ⟨some d,op,ty,pos,aC,none⟩ ts ls h { wl:=true } v aH h) (f:Nat.blt d n=true) (hr:aQ P ops rest Q ⟨n,(d,v)::ts,aH,h⟩):aQ P ops (⟨some d,op,ty,pos,aC,none⟩::rest) Q ⟨n,ts,ls,h⟩ :=
 aQ.step b rfl f hr
theorem aQ.dh (b:ar P ⟨none,op,ty,pos,aC,none⟩ ts ls h { wl:=true } v aH h) (hr:aQ P ops rest Q ⟨n,ts,aH,h⟩):aQ P ops (⟨none,op,ty,pos,aC,none⟩::rest) Q ⟨n,ts,ls,h⟩ :=
 aQ.step b rfl rfl hr
theorem aQ.sH (b:ar P ⟨some d,op,ty,pos,aC,none⟩ ts ls h { rh:=true,wh:=true } v ls h') (f:Nat.blt d n=true) (hr:aQ P ops rest Q ⟨n,(d,v)::ts,ls,h'⟩):aQ P ops (⟨some d,op,ty,pos,aC,none⟩::rest) Q ⟨n,ts,ls,h⟩ :=
 aQ.step b rfl f hr
theorem aQ.fT (b:ar P ⟨none,op,ty,pos,aC,none⟩ ts ls h fx v ls h') (f:fx.wl=false) (g:fx.wh=true) (hr:aQ P ops rest Q ⟨n,ts,ls,h'⟩):aQ P ops (⟨none,op,ty,pos,aC,none⟩::rest) Q ⟨n,ts,ls,h⟩ :=
 aQ.step b rfl rfl (by rw [f,g]; exact hr)
theorem aQ.sE {R:V->List (List D)->ah->Prop}(b:dW P ⟨some d,op,ty,pos,aC,none⟩ ts ls h R) (f:Nat.blt d n=true) (hr:∀v aH h',R v aH h'->aQ P ops rest Q ⟨n,(d,v)::ts,aH,h'⟩) :
  aQ P ops (⟨some d,op,ty,pos,aC,none⟩::rest) Q ⟨n,ts,ls,h⟩:=aQ.EY b rfl f hr
theorem zG (b:(ops[gi]?).bind (·.dst)=some dg){dst:Option Tmp}:guardOf ops ⟨dst,op,ty,pos,aC,some (gi,want)⟩=some (dg,want):=by
 simp only [guardOf,b]
variable {done:List Fx}
theorem au.s0 (f:ar P ⟨some d,op,ty,pos,aC,none⟩ ts ls h fx v ls h) (g:Nat.blt d n=true) (hr:au P ops n rest (fx.plain::done) Q ⟨n,(d,v)::ts,ls,h⟩):au P ops n (⟨some d,op,ty,pos,aC,none⟩::rest) done Q ⟨n,ts,ls,h⟩ :=
 au.cons (mI.plain f rfl g) (by cases fx with|mk a b c d e=>cases b<;>cases d<;>exact hr)
theorem rB.alloc {e:TypeId}{b:TI}{z:A}{i:Nat}{aH:List (List D)}(g:aM P e=some b) (k:b.zero=some z) (l:bA (cn z) ls i aH):rB P ⟨some d,.alloc e,ty,pos,aC,none⟩ (.cV i 0) ls aH:=by
 obtain⟨inf,s,h1,_,_,_,_,f⟩:=fS g;rw [k] at f;obtain⟨v,m,o⟩:=oq f;obtain⟨p,q⟩:=l.spec;refine⟨cn z,d,rfl,rfl,by rw [p],q,v.cells.toList,e,fun j w=>(o j w).cells,fun a w K Q hk=>?_⟩;have r:(execOp a.eval (⟨some d,.alloc e,ty,pos,aC,none⟩:Oper)).run P w=.ok (.value (.pointer (some ⟨w.heap.size,0,none⟩))) (w.alloc (.cells v.cells e)):=by
  simp [execOp,Instr.alloc,zeroValue,typeInfo,h1,m,newVar,newRow]
 unfold Oper.wp;rw [r,Oper.upon_value];rw [Array.toArray_toList] at hk;exact hk
theorem au.sB {e:TypeId}{b:TI}{z:A}{i:Nat}{aH:List (List D)}(f:aM P e=some b) (g:b.zero=some z) (j:Nat.blt d n=true) (hr:au P ops n rest ({ wl:=true,nu:=true }::done) Q ⟨n,(d,.cV i 0)::ts,aH,h⟩)
  (k:bA (cn z) ls i aH:=by repeat (first|exact bA.nil|apply bA.cons)):au P ops n (⟨some d,.alloc e,ty,pos,aC,none⟩::rest) done Q ⟨n,ts,ls,h⟩:=au.born (rB.alloc f g k) j hr
theorem au.dh (b:ar P ⟨none,op,ty,pos,aC,none⟩ ts ls h { wl:=true } v aH h) (hr:au P ops n rest ({ wl:=true }::done) Q ⟨n,ts,aH,h⟩):au P ops n (⟨none,op,ty,pos,aC,none⟩::rest) done Q ⟨n,ts,ls,h⟩ :=
 au.cons (mI.plain b rfl rfl) hr
theorem au.sH (b:ar P ⟨some d,op,ty,pos,aC,none⟩ ts ls h { rh:=true,wh:=true } v ls h') (f:Nat.blt d n=true) (hr:au P ops n rest ({ rh:=true,wh:=true }::done) Q ⟨n,(d,v)::ts,ls,h'⟩) :
  au P ops n (⟨some d,op,ty,pos,aC,none⟩::rest) done Q ⟨n,ts,ls,h⟩:=au.cons (mI.plain b rfl f) hr
theorem au.fT (b:ar P ⟨none,op,ty,pos,aC,none⟩ ts ls h fx v ls h') (f:fx.wl=false) (g:fx.wh=true) (hr:au P ops n rest (fx.plain::done) Q ⟨n,ts,ls,h'⟩):au P ops n (⟨none,op,ty,pos,aC,none⟩::rest) done Q ⟨n,ts,ls,h⟩ :=
 au.cons (mI.plain b rfl rfl) (by rw [f,g]; exact hr)
end
section
variable {P:Program}{ops:Array Oper}{rest:List Oper}{Q:St->Prop}{n:Nat}{ts:Ts}{ls aH:List (List D)}{h h':ah}{fx:Fx}{x:A}{d dg gi:Nat}{op:Op}{ty:TypeId}{pos:String}{aC:Array Edge}{want C:Bool}
def gc:V->Bool->Option Bool
 | .a (.d (.bool b)),true=>some b
 | .a (.d (.bool b)),false=>some (!b)
 | .gd c (.d (.bool b)),true=>some (c&&b)
 | .gd c (.d (.bool b)),false=>some (c&&!b)
 | _,_=>none
theorem FM {j:J}{w:World}{jl:List Nat}{a:Act}{o:Oper}(f:guardOf ops o=some (dg,want)) (hc:gc (get ts dg) want=some C) (h:aX j w jl (get ts dg) (a.tmps.getD dg undef)) :
  Region.wanted o (yielded ops a.tmps)=C:=by
 cases hv:get ts dg with
 | a y =>
  cases y with
  | d z =>
   cases z with
   | bool b =>
    rw [hv] at hc;cases want<;>simp only [gc,Option.some.injEq] at hc<;>subst hc<;>rw [zf f hv h]<;>cases b<;>rfl
   | _=>rw [hv] at hc; cases want<;>simp [gc] at hc
  | agg z=>rw [hv] at hc; cases want<;>simp [gc] at hc
 | gd c y =>
  cases y with
  | agg z=>rw [hv] at hc; cases want<;>simp [gc] at hc
  | d z =>
   cases z with
   | bool b =>
    rw [hv] at hc;rw [hv] at h;cases c with
    | true =>
     have h1:aX j w jl (get [(dg,.a (.d (.bool b)))] dg) (a.tmps.getD dg undef):=by rw [fD]; exact h.1 rfl
     cases want<;>simp only [gc,Option.some.injEq,Bool.true_and] at hc<;>subst hc<;>rw [zf (ts:=[(dg,.a (.d (.bool b)))]) f (fD _ _ _) h1]<;>cases b<;>rfl
    | false =>
     have i:=h.2 rfl;have hC:C=false:=by cases want<;>simp [gc] at hc<;>exact hc
     subst hC;unfold guardOf at f
     split at f
     ·simp at f
     ·rename_i g q l
      split at f
      ·rename_i k m
       simp only [Option.some.injEq,Prod.mk.injEq] at f;obtain⟨rfl,rfl⟩:=f;have p:a.tmps[k]?=none\/a.tmps[k]?=some (.tuple #[]):=by
        rw [Array.getD_eq_getD_getElem?] at i;cases e:a.tmps[k]? with
        | none=>exact .inl rfl
        | some y=>rw [e] at i; simp at i; rw [i]; exact .inr rfl
       simp only [Region.wanted,l,yielded,m,Option.bind_some];rcases p with e|e<;>rw [e]<;>rfl
      ·simp at f
   | _=>rw [hv] at hc; cases want<;>simp [gc] at hc
 | any=>rw [hv] at hc; cases want<;>simp [gc] at hc
 | cV _ _=>rw [hv] at hc; cases want<;>simp [gc] at hc
 | cS _=>rw [hv] at hc; cases want<;>simp [gc] at hc
 | gr _ _ _=>rw [hv] at hc; cases want<;>simp [gc] at hc
 | full _ _=>rw [hv] at hc; cases want<;>simp [gc] at hc
 | oe _ _ _=>rw [hv] at hc; cases want<;>simp [gc] at hc
theorem ar.ji {o:Oper}{v:V}{k:Nat}{c:Bool}(hk:get ts k=.gd c x) (hc:c=true) (b:ar P o ((k,.a x)::ts) ls h fx v aH h'):ar P o ts ls h fx v aH h':=by
 intro L H f hH j w jl a hl g;refine b L H f hH j w jl a hl fun y i=>?_;have h1:=g y i;cases y with
 | tmp t =>
  by_cases e:k=t
  ·subst e;simp only [ev] at h1 ⊢;rw [fD];rw [hk] at h1;exact h1.1 hc
  ·simp only [ev] at h1 ⊢;rw [eN _ _ e]; exact h1
 | _=>exact h1
theorem ar.M3 {o:Oper}{v:V}{k:Nat}{c:Bool}{i off:Nat}(hk:get ts k=.gr c i off) (hc:c=true) (b:ar P o ((k,.cV i off)::ts) ls h fx v aH h'):ar P o ts ls h fx v aH h':=by
 intro L H f hH j w jl a hl g;refine b L H f hH j w jl a hl fun y l=>?_;have h1:=g y l;cases y with
 | tmp t =>
  by_cases e:k=t
  ·subst e;simp only [ev] at h1 ⊢;rw [fD];rw [hk] at h1;exact h1.1 hc
  ·simp only [ev] at h1 ⊢;rw [eN _ _ e]; exact h1
 | _=>exact h1
theorem aQ.gC {v:V}(p:(ops[gi]?).bind (·.dst)=some dg) (hc:gc (get ts dg) want=some C) (q:C=true->ar P ⟨some d,op,ty,pos,aC,some (gi,want)⟩ ts ls h fx v ls h) (g:Nat.blt d n=true)
  (hr:aQ P ops rest Q ⟨n,(d,v.under C)::ts,ls,h⟩):aQ P ops (⟨some d,op,ty,pos,aC,some (gi,want)⟩::rest) Q ⟨n,ts,ls,h⟩:=by
 intro j w jl a b f hk;have r:=FM (o:=⟨some d,op,ty,pos,aC,some (gi,want)⟩) (zG p) hc (b.tmps dg);refine wpList_step fun K i=>?_;rw [r];cases C with
 | true =>
  rw [if_pos rfl];refine(q rfl).step j w jl a b.hl (fun x _=>mH b.tmps x) K f fun v0 l k cv j' w' s ⟨t,u,y⟩ hv hl z m=>i _ _ ?_;have B:l=ls:=by rw [u]; cases fx.wl<;>rfl
  have E:k=h:=by rw [y]; cases fx.wh<;>rfl
  subst t B E;exact hr j' w' s _ (b.put m.toLe z (dst:=some d) g (v:=_) (V.EU hv) hl) f fun F G H I a2 hq J L=>hk F G H I a2 hq J (m.trans L)
 | false =>
  simp only [Bool.false_eq_true,if_false];exact i _ _ (hr j w jl _ (b.put (Le.refl _ _) (Ext.refl _) (dst:=some d) g (v:=v.under false) (V.EV v) b.hl) f hk)
theorem au.gC {v:V}{done:List Fx}(i:(ops[gi]?).bind (·.dst)=some dg) (hc:gc (get ts dg) want=some C) (m:C=true->ar P ⟨some d,op,ty,pos,aC,some (gi,want)⟩ ts ls h fx v ls h) (p:Nat.blt d n=true)
  (hr:au P ops n rest (fx.plain::done) Q ⟨n,(d,v.under C)::ts,ls,h⟩):au P ops n (⟨some d,op,ty,pos,aC,some (gi,want)⟩::rest) done Q ⟨n,ts,ls,h⟩:=by
 refine au.cons (fx:=fx) (v:=v.under C) (aH:=ls) (h':=h) ⟨p,fun L H k hH j w jl a hl l K Q hk=>?_⟩ (by cases fx with|mk a b c d e=>cases b<;>cases d<;>exact hr);have q:=FM (o:=⟨some d,op,ty,pos,aC,some (gi,want)⟩) (zG i) hc (l dg (Mc (zG i)));rw [q];cases C with
 | true =>
  rw [if_pos rfl];exact m rfl L H k hH j w jl a hl (EZ l) K Q fun _ _ _ cv j' w' r ⟨g,f,s⟩=>by subst g f s; exact fun hv=>hk cv j' w' r (V.EU hv)
 | false =>
  simp only [Bool.false_eq_true,if_false];refine hk undef j w jl (V.EV v) ?_ (Ext.refl _) ?_
  ·have g:(bif fx.wl then ls else L)=L:=by cases hw:fx.wl with
    | true=>exact(k (by rw [hw]; simp)).symm
    | false=>rfl
   have f:(bif fx.wh then h else H)=H:=by cases hw:fx.wh with
    | true=>exact(hH (by rw [hw]; simp)).symm
    | false=>rfl
   rw [g,f]; exact hl
  ·have f:(bif fx.wh then h else H)=H:=by cases hw:fx.wh with
    | true=>exact(hH (by rw [hw]; simp)).symm
    | false=>rfl
   rw [f]; exact bw.refl _ _ _
variable {dst:Option Tmp}{g:Option (Nat×Bool)}
theorem ar.M4 {c y z:Operand}{b r i:Bool}(hc:ev ts c=.a (.d (.bool b))) (m:ev ts y=.gd i (.d (.bool r))) (o:b=true->i=true) (p:ev ts z=.a (.d (.bool false))) :
  ar P (mk dst (.pick c y z) ty pos aC g) ts ls h {} (.a (.d (.bool (b&&r)))) ls h :=
 ar.dU fun j w jl a f=>by
  have h1:=f c (by simp [Op.operands]);have k:=f y (by simp [Op.operands]);have l:=f z (by simp [Op.operands]);rw [hc] at h1; rw [m] at k; rw [p] at l;cases b with
  | true =>
   have q:aX j w jl (.a (.d (.bool r))) (a.eval y):=k.1 (o rfl);exact⟨.bool r,by simp [execOp,jg h1,jg q,asBool],by simp only [Bool.true_and]; exact aB.bool _⟩
  | false=>exact⟨.bool false,by simp [execOp,jg h1,jg l,asBool],by simp only [Bool.false_and]; exact aB.bool _⟩
theorem ar.M5 {c y z:Operand}{b r i:Bool}(hc:ev ts c=.a (.d (.bool b))) (m:ev ts y=.a (.d (.bool true))) (o:ev ts z=.gd i (.d (.bool r))) (p:b=false->i=true) :
  ar P (mk dst (.pick c y z) ty pos aC g) ts ls h {} (.a (.d (.bool (b||r)))) ls h :=
 ar.dU fun j w jl a f=>by
  have h1:=f c (by simp [Op.operands]);have k:=f y (by simp [Op.operands]);have l:=f z (by simp [Op.operands]);rw [hc] at h1; rw [m] at k; rw [o] at l;cases b with
  | false =>
   have q:aX j w jl (.a (.d (.bool r))) (a.eval z):=l.1 (p rfl);exact⟨.bool r,by simp [execOp,jg h1,jg q,asBool],by simp only [Bool.false_or]; exact aB.bool _⟩
  | true=>exact⟨.bool true,by simp [execOp,jg h1,jg k,asBool],by simp only [Bool.true_or]; exact aB.bool _⟩
theorem gP {a b:Bool}(h:(a&&b)=true):a=true:=by cases a<;>simp_all
theorem zH {a b:Bool}(h:(a&&b)=true):b=true:=by cases a<;>simp_all
theorem wx {b:Bool}(h:b=false):(!b)=true:=by simp [h]
theorem wy {a b:Bool}(h:a=true) (h':b=true):(a&&b)=true:=by simp [h,h']
end
section
variable {P:Program}{Q:Exit->St->Prop}{σ:St}
theorem bK {id:Nat}(h:Q .ret σ):we id Q .ret σ:=h
theorem bL {K:St->Prop}(h:Q .ret σ):kU K Q .ret σ:=h
theorem ag.ay {x y:Code}(h:∀K:St->Prop,(∀σ,ag P y Q σ->K σ)->ag P x (kU K Q) σ):ag P (.seq x y) Q σ:=ag.seq (h _ fun _ h=>h)
theorem ag.M6 {α:Type}{c:Code}(inv:α->St) (m:α->Nat) (pre:α->Prop) (g:α) (k:cw σ (inv g)) (h0:pre g)
  (hr:∀x,pre x->∀K:St->Prop,(∀b y,cw b (inv y)->pre y->m y<m x->K b)->ag P c (kU K Q) (inv x)):ag P (.loop c) Q σ:=by
 refine ag.rF k (ag.loop inv m pre g h0 fun x l=>ag.post (ag.mono (hr x l (fun b=>∃y,cw b (inv y)/\pre y/\m y<m x) fun b y h1 i j=>⟨y,h1,i,j⟩) ?_));intro e f hq;cases e with
 | normal=>obtain⟨y,h1,i,j⟩:=hq; exact⟨inv y,h1,y,rfl,i,j⟩
 | exit _=>exact⟨f,cw.refl _,hq⟩
 | goto _=>exact⟨f,cw.refl _,hq⟩
 | ret=>exact⟨f,cw.refl _,hq⟩
 | panic _=>exact⟨f,cw.refl _,hq⟩
 | outgrown=>exact⟨f,cw.refl _,hq⟩
theorem cw.M7 {n:Nat}{ts ts':Ts}{ls aH:List (List D)}{h h':ah}(m:Nat) (hk:aS ts m ts') (hl:ls.take m=aH) (hh:h=h'):cw ⟨n,ts,ls,h⟩ ⟨n,ts',aH,h'⟩:=by
 subst hl hh; exact cw.keep m hk
def V.wz (m:Nat):V->Bool
 | .cV i _=>Nat.blt i m
 | .gr _ i _=>Nat.blt i m
 | _=>true
theorem aS.c {ts:Ts}{m:Nat}{k:Nat}{v:V}{r:Ts}(h:Ab.get ts k=v) (hv:v.wz m=true) (t:aS ts m r):aS ts m ((k,v)::r) :=
 .cons h ⟨fun i off e=>by subst e; simpa [V.wz,Nat.blt_eq] using hv,fun c i off e=>by subst e; simpa [V.wz,Nat.blt_eq] using hv⟩ t
end
inductive dY (ts:Ts):Ts->Prop where
 | nil:dY ts []
 | cons {k:Nat}{v:V}{r:Ts}(h:Ab.get ts k=v) (t:dY ts r):dY ts ((k,v)::r)
theorem dY.get {ts ts':Ts}(h:dY ts ts') (k:Nat):Ab.get ts' k=.any\/Ab.get ts' k=Ab.get ts k:=by
 induction h with
 | nil=>exact .inl rfl
 | @cons k' v r h t b =>
  by_cases e:k'=k
  ·subst e; rw [fD]; exact .inr h.symm
  ·rw [eN _ _ e]; exact b
inductive jj {α:Type}:List α->List α->Prop where
 | nil {l:List α}:jj [] l
 | cons {a:α}{l l':List α}(h:jj l l'):jj (a::l) (a::l')
theorem jj.take {α:Type}{l l':List α}(h:jj l l'):l'.take l.length=l:=by
 induction h with
 | nil=>simp
 | cons _ b=>simp [b]
theorem cw.to {n:Nat}{ts ts':Ts}{ls aH:List (List D)}{h h':ah}(hk:aS ts aH.length ts') (hl:jj aH ls) (hh:h=h'):cw ⟨n,ts,ls,h⟩ ⟨n,ts',aH,h'⟩ :=
 cw.M7 aH.length hk hl.take hh
theorem cw.toF {n:Nat}{ts ts':Ts}{ls aH:List (List D)}{h h':ah}(hk:aS ts aH.length ts') (hl:jj aH ls) (hh:∀id o,h' id=some o->h id=some o):cw ⟨n,ts,ls,h⟩ ⟨n,ts',aH,h'⟩ :=
 (cw.to hk hl rfl).trans (cw.forget hh)
section
variable {P:Program}{Q:Exit->St->Prop}{n:Nat}{iu ts:Ts}{ls:List (List D)}{h:ah}
theorem ag.gW {α:Type}{c:Code}(_:dY iu ts) (over:α->Ts) (lo:α->List (List D)) (hh:α->ah) (m:α->Nat) (pre:α->Prop) (b:α) (h0:pre b) (hi:cw ⟨n,iu,ls,h⟩ ⟨n,over b++ts,lo b,hh b⟩)
  (hr:∀x,pre x->∀K:St->Prop,(∀f y,cw f ⟨n,over y++ts,lo y,hh y⟩->pre y->m y<m x->K f)->ag P c (kU K Q) ⟨n,over x++ts,lo x,hh x⟩):ag P (.loop c) Q ⟨n,iu,ls,h⟩ :=
 ag.M6 (fun x=>⟨n,over x++ts,lo x,hh x⟩) m pre b hi h0 hr
theorem ag.eD {α:Type}{x y:Code}(_:dY iu ts) (over:α->Ts) (lo:α->List (List D)) (hh:α->ah) (pre:α->Prop)
  (i:∀K:St->Prop,(∀b y,cw b ⟨n,over y++ts,lo y,hh y⟩->pre y->K b)->ag P x (kU K Q) ⟨n,iu,ls,h⟩) (j:∀z,pre z->ag P y Q ⟨n,over z++ts,lo z,hh z⟩):ag P (.seq x y) Q ⟨n,iu,ls,h⟩:=by
 refine ag.seq (ag.post (ag.mono (i (fun b=>∃z,cw b ⟨n,over z++ts,lo z,hh z⟩/\pre z) fun b z h1 g=>⟨z,h1,g⟩) ?_));intro e f hq;cases e with
 | normal=>obtain⟨z,h1,g⟩:=hq; exact⟨_,h1,j z g⟩
 | exit _=>exact⟨f,cw.refl _,hq⟩
 | goto _=>exact⟨f,cw.refl _,hq⟩
 | ret=>exact⟨f,cw.refl _,hq⟩
 | panic _=>exact⟨f,cw.refl _,hq⟩
 | outgrown=>exact⟨f,cw.refl _,hq⟩
theorem ag.bx {α:Type}{c:Code}(_:dY iu ts) (over:α->Ts) (hh:α->ah) (m:α->Nat) (pre:α->Prop) (b:α) (h0:pre b) (hi:cw ⟨n,iu,ls,h⟩ ⟨n,over b++ts,ls,hh b⟩)
  (hr:∀x,pre x->∀K:St->Prop,(∀f y,cw f ⟨n,over y++ts,ls,hh y⟩->pre y->m y<m x->K f)->ag P c (kU K Q) ⟨n,over x++ts,ls,hh x⟩):ag P (.loop c) Q ⟨n,iu,ls,h⟩ :=
 ag.gW ‹_› over (fun _=>ls) hh m pre b h0 hi hr
theorem ag.aT {α:Type}{x y:Code}(_:dY iu ts) (over:α->Ts) (hh:α->ah) (pre:α->Prop)
  (f:∀K:St->Prop,(∀b y,cw b ⟨n,over y++ts,ls,hh y⟩->pre y->K b)->ag P x (kU K Q) ⟨n,iu,ls,h⟩) (g:∀z,pre z->ag P y Q ⟨n,over z++ts,ls,hh z⟩):ag P (.seq x y) Q ⟨n,iu,ls,h⟩ :=
 ag.eD ‹_› over (fun _=>ls) hh pre f g
end
end Go.Ab
/-
 The program's data types (package api) as plain Lean types,and how each is laid out in cells.
-/
namespace Go.Ab
open Go Go.RowKit
variable {ak:bf}
abbrev uw:={ s:List UInt8 // s.length<=cL }
structure iP (α:Type) where
 nil:Bool
 l:List α
 ok:l.length<=cL
 nn:nil=true->l=[]
def iP.d {α:Type}(k:Nat) (f:α->List D) (s:iP α):D:=.slice k none s.nil (s.l.map f)
def M8 (s:uw):List D:=[.str s.1]
def M9 (n:Int):List D:=[.int .i64 n]
end Go.Ab
/-
 What the functions of package schema compute,in plain terms.
-/
namespace Go.Ab.ow
open Go Go.Ab
end Go.Ab.ow
/-
 Heaps in normal form; nil slices given a token where they are passed.
-/
namespace Go.Ab
open Go Go.RowKit
variable {ak:bf}
variable {eP:d_}
theorem ah.cG {h:ah}{i:Nat}{o:Option Obj}(hi:h i=none):∀id b,h id=some b->(h.set i o) id=some b:=by
 intro id b e; rw [ah.bP]; exact e;intro he; rw [he,hi] at e; cases e
inductive lH (h:ah):A->A->Prop where
 | refl (x:A):lH h x x
 | nil {k k' t:Nat}{o:Obj}(ht:h t=some o):lH h (.d (.slice k none true [])) (.d (.slice k' (some t) true []))
 | M_ {k k':Nat}:lH h (.d (.slice k none true [])) (.d (.slice k' none true []))
theorem lH.rel {h:ah}{x y:A}(g:lH h x y){j:J}{w:World}{v:Value}(hh:dJ j w h) (b:cM j w x v):cM j w y v:=by
 cases g with
 | refl=>exact b
 | @nil k k' t o ht =>
  have f:aB j w (.slice k none true []) v:=b;cases f;exact aB.fB _ _ fun i e=>by simp at e; subst e; exact(hh.obj _ _ ht).1
 | @M_ k k' =>
  have f:aB j w (.slice k none true []) v:=b;cases f;exact aB.fB _ _ fun i e=>by cases e
theorem AC.Na {P:Program}{f:FuncId}{xs g:List A}{h:ah}{Post:V->ah->Prop}(k:aW (lH h) xs g) (hc:AC P f g h Post):AC P f xs h Post :=
 ⟨hc.enter,fun j w cF hh l=>hc.runs j w cF hh (by
  refine aW.kO (by rw [<- k.length,l.length]) fun i y v m hv=>?_;obtain⟨x,o,p⟩:=k.get' m;obtain⟨q,b,hr⟩:=l.get o;rw [hv] at b; simp at b; subst b;exact p.rel hh hr)⟩
theorem ag.tok {P:Program}{c:Code}{Q:Exit->St->Prop}{n:Nat}{ts:Ts}{ls:List (List D)}{h:ah}(k:Nat)
  (hw:∀t,h t=none->ag P c Q ⟨n,ts,ls,h.set t (some (.tok k 0))⟩):ag P c Q ⟨n,ts,ls,h⟩:=by
 intro j w jl a b;obtain⟨h1,f⟩:=b.hl.dQ k;have g:=b.hl.1.kQ (Nat.le_refl _);refine wp_mono (hw j.next g j.dQ w jl a ⟨b.defers,b.size,fun i=>(b.tmps i).mono f.toLe (Ext.refl _),h1⟩) fun e a w hq=>AQ.trans f hq
theorem ag.fU {P:Program}{c:Code}{Q:Exit->St->Prop}{n:Nat}{ts:Ts}{ls:List (List D)}{h:ah}(s k t:Nat){o:Obj}{f:Nat}(g:get ts s=.a (.d (.slice f none true []))) (ht:h t=some o)
  (hw:ag P c Q ⟨n,(s,.a (.d (.slice k (some t) true [])))::ts,ls,h⟩):ag P c Q ⟨n,ts,ls,h⟩:=by
 intro j w jl a b;refine hw j w jl a ⟨b.defers,b.size,fun i=>?_,b.hl⟩;by_cases e:s=i
 ·subst e;show aX _ _ _ (get ((s,_)::ts) s) _;rw [fD];have hv:aX j w jl (get ts s) (a.tmps.getD s undef):=b.tmps s;rw [g] at hv;exact(lH.nil (k':=k) ht).rel b.hl.1 hv
 ·show aX _ _ _ (get ((s,_)::ts) i) _;rw [eN _ _ e];exact b.tmps i
theorem ag.gb {P:Program}{c:Code}{Q:Exit->St->Prop}{n:Nat}{ts:Ts}{ls:List (List D)}{h:ah}(s:Nat){k:Nat}{tk:Option Nat}{nl:Bool}{rows:List (List D)}(g:get ts s=.a (.d (.slice k tk nl rows)))
  (hw:ag P c Q ⟨n,(s,.a (.d (.slice k none nl rows)))::ts,ls,h⟩):ag P c Q ⟨n,ts,ls,h⟩:=by
 intro j w jl a b;refine hw j w jl a ⟨b.defers,b.size,fun i=>?_,b.hl⟩;by_cases e:s=i
 ·subst e;show aX _ _ _ (get ((s,_)::ts) s) _;rw [fD];have hv:aX j w jl (get ts s) (a.tmps.getD s undef):=b.tmps s;rw [g] at hv;have f:aB j w (.slice k tk nl rows) (a.tmps.getD s undef):=hv;generalize a.tmps.getD s undef=x at f ⊢;cases f with
  | fB=>exact aB.fB _ _ fun t e=>by cases e
  | slice _ _ _ a cap cv hk hn hc bH hr ht=>exact aB.slice _ _ _ a cap cv hk hn hc bH hr fun t e=>by cases e
 ·show aX _ _ _ (get ((s,_)::ts) i) _;rw [eN _ _ e];exact b.tmps i
theorem bz.bJ {T:List TI}{rs:List ResultVar}{Post:V->ah->Prop}{σ:St}{xs:List A}(h':ah) (h:jf T σ rs=some xs) (b:Post (iG xs) h') (f:∀id o,h' id=some o->σ.h id=some o):bz T rs Post .ret σ:=⟨.inr rfl,xs,h',h,f,b⟩
theorem bz.ux {T:List TI}{rs:List ResultVar}{Post:V->ah->Prop}{σ:St}{xs:List A}(h':ah) (h:jf T σ rs=some xs) (b:Post (iG xs) h') (f:∀id o,h' id=some o->σ.h id=some o):bz T rs Post .normal σ:=⟨.inl rfl,xs,h',h,f,b⟩
section
variable {P:Program}{dst:Option Tmp}{ty:TypeId}{pos:String}{aC:Array Edge}{g:Option (Nat×Bool)}{ts:Ts}{ls:List (List D)}{h:ah}
end
def dZ (l:List (List UInt8)):List (D×A):=l.map fun s=>(.str s,.d (.bool true))
def fF (l:List (List UInt8)) (s:List UInt8):List (List UInt8):=if l.contains s then l else l++[s]
theorem Nb (l:List (List UInt8)) (s:List UInt8):mQ (.str s) (dZ l)=some (if l.contains s then some (.d (.bool true)) else none):=by
 induction l with
 | nil=>rfl
 | cons x r b =>
  simp only [dZ,List.map_cons,mQ,rP,List.contains_cons];by_cases e:s=x
  ·subst e; simp
  ·have f:(s==x)=false:=by simpa using e
   have g:(x==s)=false:=by simpa using fun h=>e h.symm
   simp only [f,g,Bool.false_or]; exact b
theorem wB (l:List (List UInt8)) (s:List UInt8):qe (.str s) (.d (.bool true)) (dZ l)=some (dZ (fF l s)):=by
 induction l with
 | nil=>rfl
 | cons x r f =>
  simp only [dZ,List.map_cons,qe,rP,fF,List.contains_cons];by_cases e:s=x
  ·subst e; simp
  ·have g:(s==x)=false:=by simpa using e
   have i:(x==s)=false:=by simpa using fun h=>e h.symm
   have b:=f;simp only [dZ,fF] at b;simp only [g,i,Bool.false_or,b]
   split<;>simp_all
theorem FN (l:List (List UInt8)) (s t:List UInt8):(fF l s).contains t=(l.contains t||s==t):=by
 unfold fF; split
 ·rename_i h
  by_cases e:s=t
  ·subst e; simp_all
  ·have:(s==t)=false:=by simpa using e
   simp [this]
 ·simp [Bool.beq_eq_decide_eq,eq_comm]
section
variable {P:Program}{dst:Option Tmp}{ty:TypeId}{pos:String}{aC:Array Edge}{g:Option (Nat×Bool)}{ts:Ts}{ls:List (List D)}{h:ah}
theorem ar.FO {t b f:TypeId}{i j m:TI}{x y:Operand}{id:Nat}{l:List (List UInt8)}{s:List UInt8}(o:aM P t=some i) (hk:i.k=.map b f) (p:aM P b=some j) (v:aM P f=some m) (w:m.zero=some (.d (.bool false)))
  (q:ev ts x=.a (.d (.map id))) (r:ev ts y=.a (.d (.str s))) (u:gV j.k (.str s)=true) (hm:h id=some (.map (dZ l))):ar P (mk dst (.lookup t x y false) ty pos aC g) ts ls h { rh:=true } (.a (.d (.bool (l.contains s)))) ls h:=by
 have h1:=Nb l s;cases hc:l.contains s with
 | true=>rw [hc] at h1; exact ar.MZ o hk p q r u hm h1
 | false=>rw [hc] at h1; exact ar.M0 o hk p v w q r u hm h1
end
end Go.Ab
/-
 Variables that turn no more: a box that is only read,and a local that becomes data.
-/
namespace Go.Ab
open Go Go.RowKit
variable {ak:bf}
variable {eP:d_}
theorem zI {j:J}{w:World}{b:Nat}{xs:List D}{cs:List Value}{e:TypeId}{n:Nat}(hh:w.heap[b]?=some (.cells cs.toArray e (0,0))) (f:aW (aB j w) xs cs) (k:xs.length<=j.F b) :
  aB j w (.view xs) (.pointer (some ⟨b,0,none⟩)):=by
 refine aB.view xs _ (fun i=>cs.getD i default) ⟨rfl,fun i hi=>?_⟩ fun i hi=>?_
 ·have g:i<cs.length:=f.length▸hi;refine⟨by show 0+i<j.F b; omega, ?_⟩;show w.cell? ⟨b,0+i,none⟩=_;rw [Nat.zero_add,cell_of_row w b i cs.toArray e (0,0) hh];simp [g]
 ·obtain⟨v,hv,hr⟩:=f.get (List.getElem?_eq_getElem hi);have:cs.getD i default=v:=by rw [List.getD_eq_getElem?_getD,hv]; rfl
  rw [this]; exact hr
section
variable {P:Program}{dst:Option Tmp}{ty:TypeId}{pos:String}{aC:Array Edge}{g:Option (Nat×Bool)}{ts:Ts}{ls:List (List D)}{h:ah}
theorem ar.Nc {e:TypeId}{x:Operand}{y:A}(f:ev ts x=.a y):ar P (mk dst (.box e x) ty pos aC g) ts ls h {} (.a (.d (.view (cn y)))) ls h:=by
 refine ar.of_run fun L H _ _ j w jl a hl i=>?_;have h1:=i x (by simp [Op.operands]);rw [f] at h1;have k:cM j w y (a.eval x):=h1;obtain⟨l,b⟩:=hl.data (.cells (a.eval x).cells e) (cn y).length;refine⟨.value (.pointer (some ⟨w.heap.size,0,none⟩)),_,.pointer (some ⟨w.heap.size,0,none⟩),j.er w.heap.size (cn y).length,jl,by simp [execOp,Instr.box,newVar,newRow],.inl rfl, ?_,l,Ext.refl _,b⟩
 refine zI (n:=0) (cs:=(a.eval x).cells.toList) (e:=e) ?_ (k.cells.imp fun _ _ h=>h.mono b.toLe) (by simp [J.er]);rw [Array.toArray_toList]; exact heap_alloc_new w _
variable {c:Code}{Q:Exit->St->Prop}{n:Nat}
theorem cw.freeze {ts':Ts}{aH:List (List D)}{xs:List D}(s i:Nat) (I:get ts s=.cV i 0) (hl:bA xs aH i ls) (hk:aS ts i ts'):cw ⟨n,ts,ls,h⟩ ⟨n,(s,.a (.d (.view xs)))::ts',aH,h⟩:=by
 obtain⟨hi,e⟩:=hl.spec;subst hi e;intro j w jl a l;have m:=l.hl;obtain⟨b,q,t⟩:∃b,jl[aH.length]?=some b/\a.tmps.getD s undef=.pointer (some ⟨b,0,none⟩):=by
  have:=l.tmps s;have this:aX j w jl (get ts s) (a.tmps.getD s undef):=this;rw [I] at this; exact this
 obtain⟨xs',C,cs,U,E,K,L⟩:∃xs',(aH++[xs])[aH.length]?=some xs'/\jL j w b xs':=m.2.each.get' q;simp at C; subst C;have aY:=fO E;have G:=m.trim (ak:=ak) aH.length;rw [List.take_left' rfl] at G;have M:b∉jl.take aH.length:=by
  intro hm;obtain⟨k,N,r⟩:=List.getElem_of_mem hm;rw [List.length_take] at N;have h1:jl[k]?=some b:=by rw [<- r,List.getElem_take]; exact List.getElem?_eq_getElem _
  have H:=(List.getElem?_inj (by omega) m.2.nodup).1 (h1.trans q.symm);omega
 have O:¬Own j h (jl.take aH.length) b:=by
  rintro (hm|⟨id,o,h1,H⟩)
  ·exact M hm
  ·exact m.2.apart b (List.mem_of_getElem? q) (.inr ⟨id,o,h1,H⟩)
 have hle:Le j w (j.er b xs.length) w:=⟨Nat.le_refl _,fun _ _=>rfl,fun f=>by
  simp only [J.er]
  split
  ·rename_i e; rw [e,L]; exact Nat.zero_le _
  ·exact Nat.le_refl _,fun _ _ _=>rfl,fun _ _=>.inl rfl⟩
 have u:∀f,f≠b->(j.er b xs.length).F f=j.F f:=fun f P=>by simp only [J.er]; rw [if_neg P]
 have r:=G.1.keep hle (fun f p=>⟨rfl,u f (fun e=>O (e▸p))⟩) (fun _ _ _=>rfl) (fun f Q=>by rw [u f (by omega)]; exact m.1.fresh f Q);refine⟨j.er b xs.length,jl.take aH.length,⟨l.defers,l.size,fun k=>?_,r.1⟩, ?_⟩
 ·by_cases e:s=k
  ·subst e;show aX _ _ _ (get ((s,_)::ts') s) _;rw [fD];have t:a.tmps.getD s undef=.pointer (some ⟨b,0,none⟩):=t;rw [t];exact zI (n:=0) E (K.imp fun _ _ h=>h.mono hle) (by simp [J.er])
  ·show aX _ _ _ (get ((s,_)::ts') k) _;rw [eN _ _ e];obtain⟨W,X,Y,_⟩:=cw.keep (ak:=ak) (n:=n) (ls:=aH++[xs]) (h:=h) aH.length hk j w jl a l;have hv:aX j w jl (get ts k) (a.tmps.getD k undef):=l.tmps k;rcases hk.get k with v|⟨v,R,S⟩
   ·rw [v]; trivial
   ·rw [<- v] at hv;cases g:get ts' k with
    | any=>trivial
    | a x=>rw [g] at hv; exact cM.mono hle hv
    | cV i off =>
     rw [g] at hv;obtain⟨y,z,B⟩:=hv;exact⟨y,by rw [List.getElem?_take_of_lt (R i off g)]; exact z,B⟩
    | cS xs=>rw [g] at hv; obtain⟨cs,e,hh⟩:=hv; exact⟨cs,e,hh.imp fun _ _ h=>h.mono hle⟩
    | gd c x=>rw [g] at hv; exact⟨fun hc=>cM.mono hle (hv.1 hc),hv.2⟩
    | full k rows=>rw [g] at hv; exact⟨aB.mono hle hv.1,hv.2⟩
    | oe c k rows=>rw [g] at hv; exact⟨fun hc=>⟨aB.mono hle (hv.1 hc).1,(hv.1 hc).2⟩,hv.2⟩
    | gr c i off =>
     rw [g] at hv;refine⟨fun hc=>?_,hv.2⟩;obtain⟨y,z,B⟩:=hv.1 hc;exact⟨y,by rw [List.getElem?_take_of_lt (S c i off g)]; exact z,B⟩
 ·refine { toLe:=hle,size:=Nat.le_refl _,frame:=fun f _ p=>⟨rfl,u f fun e=>p (.inl (e▸List.mem_of_getElem? q))⟩,own:=fun f _ p=>?_,os:=rfl,tape:=rfl,output:=fC.rfl };rcases (r.2 f).1 p with hm|hm
  ·exact .inl (List.mem_of_mem_take hm)
  ·exact .inr hm
theorem ag.freeze {ts':Ts}{aH:List (List D)}{xs:List D}(s i:Nat) (b:get ts s=.cV i 0) (hl:bA xs aH i ls) (hk:aS ts i ts') (hw:ag P c Q ⟨n,(s,.a (.d (.view xs)))::ts',aH,h⟩):ag P c Q ⟨n,ts,ls,h⟩ :=
 ag.rF (cw.freeze s i b hl hk) hw
end
theorem FP {k:Nat}{tk:Option Nat}{nl:Bool}{rows:List (List D)}(j:J) (w:World) (cv:Value) (h:aX j w [] (.a (.d (.slice k tk nl rows))) cv):aX j w [] (.a (.d (.slice k none nl rows))) cv:=by
 have h':aB j w (.slice k tk nl rows) cv:=h;cases h' with
 | fB=>exact aB.fB _ _ fun t e=>by cases e
 | slice _ _ _ a cap cv hk hn hc bH hr ht=>exact aB.slice _ _ _ a cap cv hk hn hc bH hr fun t e=>by cases e
end Go.Ab
/-
 Names and violations in plain terms; the reference's functions of layer 10.
-/
namespace Go.Ab.ow
open Go Go.Ab
end Go.Ab.ow
/-
 Layer 10: input types that contain themselves,plainly: the reference's list and what can be reached.
-/
namespace Go.Ab.ow
open Go Go.Ab
end Go.Ab.ow
/-
 The checker of package schema as an object.
-/
namespace Go.Ab
open Go Go.RowKit
variable {ak:bf}
variable {eP:d_}
theorem Own.lI {j:J}{h:ah}{c:Nat}{xs g:List D}(hc:h c=some (.cells xs)){jl:List Nat}{b:Nat}:Own j (h.set c (some (.cells g))) jl b↔Own j h jl b:=by
 constructor
 ·rintro (h1|⟨id,o,h1,f⟩)
  ·exact .inl h1
  ·by_cases e:id=c
   ·subst e; rw [ah.bX] at h1; simp only [Option.some.injEq] at h1; subst h1;exact .inr ⟨id,_,hc,f⟩
   ·rw [ah.bP _ _ e] at h1; exact .inr ⟨id,o,h1,f⟩
 ·rintro (h1|⟨id,o,h1,f⟩)
  ·exact .inl h1
  ·by_cases e:id=c
   ·subst e; rw [hc] at h1; simp only [Option.some.injEq] at h1; subst h1;exact .inr ⟨id,_,ah.bX _ _ _,f⟩
   ·exact .inr ⟨id,o,by rw [ah.bP _ _ e]; exact h1,f⟩
theorem dJ.lI {j:J}{w:World}{h:ah}{c:Nat}{xs g:List D}(hr:dJ j w h) (hc:h c=some (.cells xs)) (k:∀cs,aW (aB j w) xs cs->aW (aB j w) g cs):dJ j w (h.set c (some (.cells g))):=by
 have key:∀id o,(h.set c (some (.cells g))) id=some o->∃o',h id=some o'/\bD j id o=bD j id o':=by
  intro id o f;by_cases e:id=c
  ·subst e; rw [ah.bX] at f; simp only [Option.some.injEq] at f; subst f;exact⟨_,hc,rfl⟩
  ·rw [ah.bP _ _ e] at f; exact⟨o,f,rfl⟩
 refine⟨fun id o f=>?_,fun gL o1 gM o2 b h1 i l m=>?_,hr.fresh⟩
 ·by_cases e:id=c
  ·subst e; rw [ah.bX] at f; simp only [Option.some.injEq] at f; subst f;obtain⟨hn,cs,p,h1,i,q⟩:=hr.obj _ _ hc;exact⟨hn,cs,p,h1,k _ i,q⟩
  ·rw [ah.bP _ _ e] at f; exact hr.obj _ _ f
 ·obtain⟨v,r,s⟩:=key _ _ h1;obtain⟨x,t,u⟩:=key _ _ i;exact hr.inj _ _ _ _ b r t (s▸l) (u▸m)
theorem ag.lI {P:Program}{c:Code}{Q:Exit->St->Prop}{n:Nat}{ts:Ts}{ls:List (List D)}{h:ah}(id:Nat){xs:List D}(i:List D) (hc:h id=some (.cells xs)) (k:∀j w cs,dJ j w h->aW (aB j w) xs cs->aW (aB j w) i cs)
  (hw:ag P c Q ⟨n,ts,ls,h.set id (some (.cells i))⟩):ag P c Q ⟨n,ts,ls,h⟩:=by
 intro j w jl a f;have hl:=f.hl;refine wp_mono (hw j w jl a ⟨f.defers,f.size,f.tmps,⟨hl.1.lI hc (k j w · hl.1),⟨hl.2.each,hl.2.nodup,fun b l g=>hl.2.apart b l ((Own.lI hc).1 g)⟩⟩⟩) fun e a w hq=>AQ.trans ?_ hq;exact { bw.refl j _ (Own j h jl) with own:=fun b _ g=>(Own.lI hc).1 g }
theorem ag.dc {P:Program}{c:Code}{Q:Exit->St->Prop}{n:Nat}{ts:Ts}{ls:List (List D)}{h:ah}(i:Nat){xs:List D}(m:List D) (hc:ls[i]?=some xs) (p:∀j w cs,dJ j w h->aW (aB j w) xs cs->aW (aB j w) m cs)
  (hw:ag P c Q ⟨n,ts,ls.set i m,h⟩):ag P c Q ⟨n,ts,ls,h⟩:=by
 intro j w jl a l;have hl:=l.hl;have q:aW (fun xs b=>jL j w b xs) (ls.set i m) jl:=by
  refine aW.kO (by rw [List.length_set,hl.2.each.length]) fun k x b f o=>?_;rw [List.getElem?_set] at f
  split at f
  ·rename_i e
   subst e
   split at f
   ·simp only [Option.some.injEq] at f; subst f;obtain⟨r,g,cs,s,h1,t,u⟩:=hl.2.each.get hc;rw [o] at g; simp only [Option.some.injEq] at g; subst g;exact⟨cs,s,h1,p j w _ hl.1 t,u⟩
   ·cases f
  ·obtain⟨r,g,h1⟩:=hl.2.each.get f;rw [o] at g; simp only [Option.some.injEq] at g; subst g;exact h1
 exact hw j w jl a ⟨l.defers,l.size,l.tmps,⟨hl.1,⟨q,hl.2.nodup,hl.2.apart⟩⟩⟩
end Go.Ab
namespace Go.Ab.ow
open Go Go.Ab
end Go.Ab.ow
/-
 Models: functions that may have no answer; the rules by which a walk follows its function's model.
-/
namespace Go.Ab
open Go Go.RowKit
variable {ak:bf}
variable {eP:d_}
structure Sl (α:Type) where
 nl:Bool
 l:List α
abbrev Bs:=List UInt8
def Sl.d {α:Type}(k:Nat) (f:α->List D) (t:Option Nat) (s:Sl α):D:=.slice k t s.nl (s.l.map f)
def Sl.nil {α:Type}:Sl α:=⟨true,[]⟩
def aP (s:Bs):List D:=[.str s]
def qg (b:Bool):List D:=[.bool b]
def bp (k:IntKind) (n:Int):List D:=[.int k n]
def bG (a b:Int):Option Int:=if -9223372036854775808<=a+b/\a+b<=9223372036854775807 then some (a+b) else none
def qh (a b:Int):Option Int:=if -9223372036854775808<=a-b/\a-b<=9223372036854775807 then some (a-b) else none
def bV {α:Type}(l:List α) (n:Int):Option α:=if 0<=n then l[n.toNat]? else none
def cR (a b:Bs):Option Bs:=if a.length+b.length<=eF then some (a++b) else none
def aZ {α:Type}(z:Nat) (s r:Sl α):Option (Sl α):=if (s.l.length+r.l.length)*z<=cL/\s.l.length+r.l.length<=cL then some ⟨s.nl&&r.l.isEmpty,s.l++r.l⟩ else none
def mR {α:Type}(s:Sl α) (lo hi:Option Int):Option (Sl α) :=
 if 0<=lo.getD 0/\lo.getD 0<=hi.getD s.l.length/\hi.getD s.l.length<=s.l.length then some ⟨s.nl,(s.l.take (hi.getD s.l.length).toNat).drop (lo.getD 0).toNat⟩ else none
def wC (s:Bs) (lo hi:Option Int):Option Bs :=
 if 0<=lo.getD 0/\lo.getD 0<=hi.getD s.length/\hi.getD s.length<=s.length then some ((s.take (hi.getD s.length).toNat).drop (lo.getD 0).toNat) else none
def aN {α β:Type}(c:Bool) (o:Option α) (d:α) (k:α->Option β):Option β:=if c=true then o.bind k else k d
theorem Nd {a b x:Int}(h:bG a b=some x):x=a+b /\ -9223372036854775808<=a+b/\a+b<=9223372036854775807:=by
 unfold bG at h; split at h
 ·rename_i f; simp at h; exact⟨h.symm,f⟩
 ·cases h
theorem Nf {a b x:Int}(h:qh a b=some x):x=a-b /\ -9223372036854775808<=a-b/\a-b<=9223372036854775807:=by
 unfold qh at h; split at h
 ·rename_i f; simp at h; exact⟨h.symm,f⟩
 ·cases h
theorem FQ {α:Type}{l:List α}{n:Int}{x:α}(h:bV l n=some x):0<=n/\l[n.toNat]?=some x:=by
 unfold bV at h; split at h
 ·rename_i b; exact⟨b,h⟩
 ·cases h
theorem Ng {a b x:Bs}(h:cR a b=some x):x=a++b/\a.length+b.length<=eF:=by
 unfold cR at h; split at h
 ·rename_i f; simp at h; exact⟨h.symm,f⟩
 ·cases h
theorem uy {α:Type}{z:Nat}{s r x:Sl α}(h:aZ z s r=some x):x=⟨s.nl&&r.l.isEmpty,s.l++r.l⟩/\(s.l.length+r.l.length)*z<=cL/\s.l.length+r.l.length<=cL:=by
 unfold aZ at h; split at h
 ·rename_i b; simp only [Option.some.injEq] at h; exact⟨h.symm,b⟩
 ·cases h
theorem FR {α β:Type}{c:Bool}{o:Option α}{d:α}{k:α->Option β}{r:β}(h:aN c o d k=some r):∃x,(c=true->o=some x)/\k x=some r:=by
 unfold aN at h; split at h
 ·obtain⟨x,h1,b⟩:=Option.bind_eq_some_iff.1 h; exact⟨x,fun _=>h1,b⟩
 ·rename_i b; exact⟨d,fun e=>absurd e b,h⟩
theorem gA {α β:Type}{o:Option α}{k:α->Option β}{r:β}(h:o.bind k=some r):∃x,o=some x/\k x=some r:=Option.bind_eq_some_iff.1 h
theorem qb {α:Type}{c:Bool}{A B:Option α}{r:α}(hc:c=true) (h:(bif c then A else B)=some r):A=some r:=by subst hc; exact h
theorem mK {α:Type}{c:Bool}{A B:Option α}{r:α}(hc:c=false) (h:(bif c then A else B)=some r):B=some r:=by subst hc; exact h
section
variable {P:Program}{dst:Option Tmp}{ty:TypeId}{pos:String}{aC:Array Edge}{g:Option (Nat×Bool)}{ts:Ts}{ls:List (List D)}{h:ah}{α:Type}{f:α->List D}
theorem ar.cZ {t e:TypeId}{b:TI}{x:Operand}{cN:Array TypeId}{k:Nat}{tok:Option Nat}{s:Sl α}(i:aM P t=some b) (hk:b.k=.slice e) (bH:cN[0]?=some t)
  (j:ev ts x=.a (.d (s.d k f tok))):ar P (mk dst (.call { callee:=.builtin .len,args:=#[x],argTypes:=cN }) ty pos aC g) ts ls h {} (.a (.d (.int .i64 (s.l.length:Int)))) ls h:=by
 have:=ar.MG (ak:=ak) (P:=P) (dst:=dst) (ty:=ty) (pos:=pos) (aC:=aC) (g:=g) (ls:=ls) (h:=h) i hk bH j
 rwa [List.length_map] at this
theorem ar.fu {t e:TypeId}{b i:TI}{x ix:Operand}{tok:Option Nat}{s:Sl α}{j:IntKind}{n:Int}{y:α}{k:Nat}(m:aM P t=some b) (hk:b.k=.slice e) (o:aM P e=some i)
  (p:ev ts x=.a (.d (s.d k f tok))) (hi:ev ts ix=.a (.d (.int j n))) (q:k=i.size) (hr:bV s.l n=some y) :
  ar P (mk dst (.indexAddr t x ix) ty pos aC g) ts ls h {} (.a (.d (.view (f y)))) ls h:=by
 obtain⟨h1,r⟩:=FQ hr;exact ar.Fj m hk o p hi q h1 (by rw [List.getElem?_map,r]; rfl)
theorem ar.eR {t e:TypeId}{b i:TI}{x ix:Operand}{tok:Option Nat}{s:Sl α}{j:IntKind}{n:Nat}{y:α}{k:Nat}(m:aM P t=some b) (hk:b.k=.slice e) (o:aM P e=some i)
  (p:ev ts x=.a (.d (s.d k f tok))) (hi:ev ts ix=.a (.d (.int j (n:Int)))) (q:k=i.size) (hr:s.l[n]?=some y) :
  ar P (mk dst (.indexAddr t x ix) ty pos aC g) ts ls h {} (.a (.d (.view (f y)))) ls h :=
 ar.Fj m hk o p hi q (by omega) (by rw [Int.toNat_natCast,List.getElem?_map,hr]; rfl)
theorem ar.qi {t:TypeId}{b:TI}{x ix:Operand}{s:Bs}{f:IntKind}{n:Nat}{c:UInt8}(i:aM P t=some b) (hk:b.k=.str) (j:ev ts x=.a (.d (.str s))) (hi:ev ts ix=.a (.d (.int f (n:Int)))) (hr:s[n]?=some c) :
  ar P (mk dst (.index t x ix) ty pos aC g) ts ls h {} (.a (.d (.int .u8 (c.toNat:Int)))) ls h :=
 ar.MH i hk j hi (by omega) (by rw [Int.toNat_natCast]; exact hr)
theorem ar.cI {t u:TypeId}{x y:Operand}{m n r:Int}(b:ev ts x=.a (.d (.int .i64 m))) (f:ev ts y=.a (.d (.int .i64 n))) (hr:bG m n=some r):ar P (mk dst (.binOp .add t x y u) ty pos aC g) ts ls h {} (.a (.d (.int .i64 r))) ls h:=by
 obtain⟨e,h1,i⟩:=Nd hr;subst e; exact ar.Fm b f h1 i
theorem ar.FT {t u:TypeId}{x y:Operand}{m n r:Int}(b:ev ts x=.a (.d (.int .i64 m))) (f:ev ts y=.a (.d (.int .i64 n))) (hr:qh m n=some r):ar P (mk dst (.binOp .sub t x y u) ty pos aC g) ts ls h {} (.a (.d (.int .i64 r))) ls h:=by
 obtain⟨e,h1,i⟩:=Nf hr;subst e; exact ar.MB b f h1 i
theorem ar.ez {t u:TypeId}{x y:Operand}{a b r:Bs}(f:ev ts x=.a (.d (.str a))) (i:ev ts y=.a (.d (.str b))) (hr:cR a b=some r):ar P (mk dst (.binOp .add t x y u) ty pos aC g) ts ls h {} (.a (.d (.str r))) ls h:=by
 obtain⟨e,h1⟩:=Ng hr;subst e; exact ar.concat f i h1
theorem ar.Nh {t e:TypeId}{u y:TI}{x:Operand}{lo hi:Option Operand}{k:Nat}{tok:Option Nat}{nl:Bool}{rows:List (List D)}{l r:Nat}(z:aM P t=some u) (hk:u.k=.slice e) (B:aM P e=some y)
  (C:ev ts x=.a (.d (.slice k tok nl rows))) (H:k=y.size)
  (E:match lo with|none=>l=0|some o=>∃f n,ev ts o=.a (.d (.int f n))/\0<=n/\l=n.toNat) (F:match hi with|none=>r=rows.length|some o=>∃f n,ev ts o=.a (.d (.int f n))/\0<=n/\r=n.toNat)
  (I:l<=r) (i:r<=rows.length):ar P (mk dst (.slice t x lo hi none) ty pos aC g) ts ls h {} (.a (.d (.slice k none nl ((rows.take r).drop l)))) ls h:=by
 cases nl with
 | false=>exact ar.part z hk B C H E F I i
 | true =>
  refine ar.dU fun j w jl act m=>?_;have h1:=m x (by simp [Op.operands]);rw [C] at h1;obtain⟨b,cap,G,hn,hc,J,K,O,Q⟩:=lG h1;cases b with
  | some b=>simp at J
  | none =>
   obtain⟨rfl,rfl⟩:=K rfl;simp only [List.length_nil,Nat.le_zero] at i;subst i;have L:l=0:=by omega
   subst L;have M:(match lo.map act.eval with|some v=>Instr.sliceBound v 0 .sliceB|none=>pure 0).run P w=.ok 0 w:=by
    cases lo with
    | none=>simp
    | some o =>
     obtain⟨f,n,p,q,s⟩:=E;have:=ou (P:=P) (cap:=0) p (m o (by simp [Op.operands])) q (by omega) .sliceB;simp only [Option.map_some]; rw [this,<- s]
   have N:(match hi.map act.eval with|some v=>Instr.sliceBound v 0 .sliceAcap|none=>pure ([]:List (List D)).length).run P w=.ok 0 w:=by
    cases hi with
    | none=>simp
    | some o =>
     obtain⟨f,n,p,q,s⟩:=F;have:=ou (P:=P) (cap:=0) p (m o (by simp [Op.operands])) q (by omega) .sliceAcap;simp only [Option.map_some]; rw [this,<- s]
   refine⟨.slice none 0 0, ?_,aB.fB _ _ (by simp)⟩;have:=FH z hk B (a:=none) (len:=0) (cap:=0) M N;simp only [List.length_nil] at G;simp only [execOp,Sem.run_bind,G,Option.map_none,this,Result.andThen,Sem.run_pure];simp
theorem ar.lJ {t e:TypeId}{j m:TI}{x:Operand}{lo hi:Option Operand}{l r:Option Int}{k:Nat}{tok:Option Nat}{s y:Sl α}(p:aM P t=some j) (hk:j.k=.slice e) (q:aM P e=some m)
  (u:ev ts x=.a (.d (s.d k f tok))) (v:k=m.size)
  (b:match lo,l with|none,none=>True|some o,some n=>ev ts o=.a (.d (.int .i64 n))|_,_=>False) (i:match hi,r with|none,none=>True|some o,some n=>ev ts o=.a (.d (.int .i64 n))|_,_=>False)
  (hr:mR s l r=some y):ar P (mk dst (.slice t x lo hi none) ty pos aC g) ts ls h {} (.a (.d (y.d k f none))) ls h:=by
 unfold mR at hr
 split at hr
 ·rename_i hc
  simp only [Option.some.injEq] at hr;have:=ar.Nh (ak:=ak) (P:=P) (dst:=dst) (ty:=ty) (pos:=pos) (aC:=aC) (g:=g) (ls:=ls) (h:=h) (l:=(l.getD 0).toNat) (r:=(r.getD s.l.length).toNat) p hk q (lo:=lo) (hi:=hi) u v
   (by cases lo with
     | none=>cases l with
      | none=>rfl
      | some n=>exact b.elim
     | some o=>cases l with
      | none=>exact b.elim
      | some n=>exact⟨_,n,b,hc.1,rfl⟩)
   (by cases hi with
     | none=>cases r with
      | none=>simp
      | some n=>exact i.elim
     | some o=>cases r with
      | none=>exact i.elim
      | some n=>exact⟨_,n,i,Int.le_trans hc.1 hc.2.1,rfl⟩) (by omega) (by simp; omega)
  rw [<- List.map_take,<- List.map_drop] at this;rw [<- hr]; exact this
 ·cases hr
theorem ar.qj {t u e:TypeId}{j o b:TI}{x y:Operand}{tk k k' m:Nat}{tok':Option Nat}{s r v:Sl α}{z:A}(p:aM P t=some j) (hk:j.k=.slice e) (q:aM P e=some b) (w:aM P u=some o) (B:∃e,o.k=.slice e)
  (C:b.zero=some z) (E:(cn z).length=b.size) (F:b.size≠0) (G:ev ts x=.a (.d (s.d k f (some tk)))) (H:ev ts y=.a (.d (r.d k' f tok'))) (i:k=b.size) (I:k'=b.size)
  (J:h tk=some (.tok b.size m)) (hm:m=s.l.length) (hr:aZ b.bytes s r=some v) :
  ar P (mk dst (.call { callee:=.builtin .append,args:=#[x,y],argTypes:=#[t,u] }) ty pos aC g) ts ls h { rh:=true,wh:=true } (.a (.d (v.d k f (some tk)))) ls (h.set tk (some (.tok b.size v.l.length))):=by
 obtain⟨e,h1,K⟩:=uy hr;subst e;have:=ar.append (ak:=ak) (P:=P) (dst:=dst) (ty:=ty) (pos:=pos) (aC:=aC) (g:=g) (ls:=ls) p hk q w (.inl B) C E F G H (.inl i) (.inl I) J (by rw [hm]; simp) (by simpa using h1) (by simpa using K);simp only [List.length_map,List.length_append] at this ⊢;rw [<- List.map_append,List.isEmpty_map,<- i] at this;rw [<- i];exact this
end
section
variable {P:Program}{dst:Option Tmp}{ty:TypeId}{pos:String}{aC:Array Edge}{g:Option (Nat×Bool)}{ts:Ts}{ls:List (List D)}{h:ah}{α:Type}{f:α->List D}
theorem Ni {k k':Nat}(j:J) (w:World) (cv:Value) (h:aX j w [] (.a (.d (.slice k none true []))) cv):aX j w [] (.a (.d (.slice k' none true []))) cv:=by
 have h':aB j w (.slice k none true []) cv:=h;cases h';exact aB.fB _ _ fun t e=>by cases e
theorem ar.fK {x:Operand}{k k':Nat}(b:ev ts x=.a (.d (.slice k none true []))):ar P (mk dst (.assign x) ty pos aC g) ts ls h {} (.a (.d (.slice k' none true []))) ls h :=
 (ar.assign b).FE fun j w _ cv h=>Ni j w cv h
theorem ar.Nj {t u e:TypeId}{F B b:TI}{s:Nat}{y:Operand}{k k':Nat}{tok':Option Nat}{G:Bool}{rows aU:List (List D)}{z:A}(R:aM P t=some F) (S:F.k=.slice e) (U:aM P e=some b) (W:aM P u=some B) (X:(∃e,B.k=.slice e)\/B.k=.str)
  (Y:b.zero=some z) (Z:(cn z).length=b.size) (aa:b.size≠0) (ab:get ts s=.full k rows) (C:ev ts y=.a (.d (.slice k' tok' G aU))) (ad:∀q,y=.tmp q->s≠q) (i:k=b.size) (ae:k'=b.size\/aU=[])
  (af:(rows.length+aU.length)*b.bytes<=cL) (hlen:rows.length+aU.length<=cL) :
  ar P (mk dst (.call { callee:=.builtin .append,args:=#[.tmp s,y],argTypes:=#[t,u] }) ty pos aC g) ts ls h {} (.a (.d (.slice b.size none false (rows++aU)))) ls h:=by
 intro L H _ _ j w jl a hl r K Q ag;have h1:aX j w jl (get ts s) (a.eval (.tmp s)):=r (.tmp s) (by simp [Op.operands,Call.operands]);rw [ab] at h1;obtain⟨ai,az,hv⟩:=h1;obtain⟨aj,p⟩:=hl.gz k rows.length;have al:=hl.1.kQ (Nat.le_refl _);have am:aB (j.gz rows.length) w (.slice k (some j.next) false rows) (a.eval (.tmp s)):=by
  have I:=aB.mono p.toLe ai;rw [hv] at I ⊢;cases I with
  | slice _ _ _ an cap f hk hn hc bH hr ht =>
   refine aB.slice _ _ _ _ _ f hk hn hc bH hr fun aA M=>?_;simp only [Option.some.injEq] at M;subst M;exact⟨by simp [J.gz],fun aD i=>by simp [J.gz] at i; subst i; exact⟨Nat.le_refl _,fun _=>.inl ⟨rfl,rfl⟩⟩⟩
 have ao:ev ((s,V.a (.d (.slice k (some j.next) false rows)))::ts) y=.a (.d (.slice k' tok' G aU)):=by
  cases y with
  | tmp q=>simp only [ev] at C ⊢; rw [eN _ _ (ad q rfl)]; exact C
  | _=>exact C
 have hc:=ar.append (ak:=ak) (P:=P) (dst:=dst) (ty:=ty) (pos:=pos) (aC:=aC) (g:=g) (ls:=L) (h:=H.set j.next (some (.tok k rows.length))) (ts:=(s,V.a (.d (.slice k (some j.next) false rows)))::ts) (x:=.tmp s) (y:=y) (tk:=j.next) (m:=rows.length)
  R S U W X Y Z aa (by simp only [ev]; rw [fD]) ao (.inl i) ae (by rw [ah.bX,i]) rfl af hlen
 refine hc.step (j.gz rows.length) w jl a aj (fun x E=>?_) K Q ?_
 ·cases x with
  | tmp q =>
   by_cases e:s=q
   ·subst e;simp only [ev]; rw [fD];exact am
   ·simp only [ev]; rw [eN _ _ e];exact(r (.tmp q) E).mono p.toLe (Ext.refl _)
  | const c=>exact(r (.const c) E).mono p.toLe (Ext.refl _)
  | global c=>trivial
  | func c=>exact(r (.func c) E).mono p.toLe (Ext.refl _)
 ·rintro v l hh cv j' w' ap ⟨rfl,rfl,rfl⟩ aq au av aw;obtain⟨ax,ay⟩:=au.forget (h':=H) (fun id o hi=>by
   have N:id≠j.next:=fun e=>by rw [e,al] at hi; cases hi
   show ((H.set _ _).set _ _) id=_;rw [ah.bP _ _ N,ah.bP _ _ N]; exact hi)
  refine ag _ _ _ cv j' w' ap ⟨rfl,rfl,rfl⟩ ?_ ax av ((p.trans aw).trans ay);have O:aB j' w' (.slice b.size (some j.next) (false&&aU.isEmpty) (rows++aU)) cv:=aq;simp only [Bool.false_and] at O;cases O with
  | slice _ _ _ an cap f hk hn hc bH hr ht=>exact aB.slice _ _ _ _ _ f hk hn hc bH hr fun t e=>by cases e
theorem ar.rR {t u e:TypeId}{i j b:TI}{s k k':Nat}{y:Operand}{tok':Option Nat}{x r v:Sl α}{z:A}(o:aM P t=some i) (p:i.k=.slice e) (w:aM P e=some b) (B:aM P u=some j) (C:∃e,j.k=.slice e)
  (E:b.zero=some z) (F:(cn z).length=b.size) (G:b.size≠0) (H:get ts s=.full k (x.l.map f)) (I:x.nl=false) (J:ev ts y=.a (.d (r.d k' f tok'))) (K:∀q,y=.tmp q->s≠q) (m:k=b.size) (L:k'=b.size)
  (hr:aZ b.bytes x r=some v) :
  ar P (mk dst (.call { callee:=.builtin .append,args:=#[.tmp s,y],argTypes:=#[t,u] }) ty pos aC g) ts ls h {} (.a (.d (v.d k f none))) ls h:=by
 obtain⟨e,h1,M⟩:=uy hr;subst e;have:=ar.Nj (ak:=ak) (P:=P) (dst:=dst) (ty:=ty) (pos:=pos) (aC:=aC) (g:=g) (ls:=ls) (h:=h) o p w B (.inl C) E F G H J K m (.inl L) (by simpa using h1) (by simpa using M);rw [<- List.map_append,<- m] at this;simp only [I,Bool.false_and];exact this
theorem Nk {t e:TypeId}(hu:P.underlying t=some (.slice e)) (d:Nat) (b:Option Addr) (n cap:Nat) (w:World):(Op.equalIn (d+1) t (.slice b n cap) (.slice none 0 0)).run P w=.ok b.isNone w:=by
 unfold Op.equalIn;simp only [Sem.run_bind,eZ hu,Result.andThen];cases b<;>simp
theorem Nl {t e:TypeId}(hu:P.underlying t=some (.slice e)) (b:Option Addr) (n cap:Nat) (w:World):(Op.equal t (.slice b n cap) (.slice none 0 0)).run P w=.ok b.isNone w:=by
 exact Nk hu 9999 b n cap w
theorem Nn {t e:TypeId}{op:BinOp}(x y:Operand) (b:Option Addr) (n cap:Nat) (w:World):(eqGuard op t x y (.slice b n cap) (.slice none 0 0)).run P w=.ok () w:=by
 unfold eqGuard;simp
theorem ar.FU {t e u:TypeId}{f:TI}{x:Operand}{k:Nat}{tok:Option Nat}{nl:Bool}{rows:List (List D)}(i:aM P t=some f) (hk:f.k=.slice e) (l:ev ts x=.a (.d (.slice k tok nl rows))) :
  ar P (mk dst (.binOp .eql t x (.const (.slice none 0 0)) u) ty pos aC g) ts ls h {} (.a (.d (.bool nl))) ls h :=
 ar.dU fun j w jl act m=>by
  have h1:=m x (by simp [Op.operands]);rw [l] at h1;obtain⟨b,cap,o,_,_,p,_⟩:=lG h1;have hu:=kW i hk;subst p;have q:act.eval (.const (.slice none 0 0))=.slice none 0 0:=rfl;refine⟨.bool b.isNone, ?_,aB.bool _⟩;simp only [execOp,o,q,Sem.run_bind,Nn (e:=e),Result.andThen,binOp,Sem.run_map,Nl hu,Sem.run_pure]
theorem ar.FV {x y:Operand}{cN:Array TypeId}{k:IntKind}{m n:Int}(i:ev ts x=.a (.d (.int k m))) (l:ev ts y=.a (.d (.int k n))) :
  ar P (mk dst (.call { callee:=.builtin .max,args:=#[x,y],argTypes:=cN }) ty pos aC g) ts ls h {} (.a (.d (.int k (if n>m then n else m)))) ls h :=
 ar.dU fun j w jl act b=>by
  have h1:=b x (by simp [Op.operands,Call.operands]);have f:=b y (by simp [Op.operands,Call.operands]);rw [i] at h1; rw [l] at f;exact⟨_,by simp only [execOp,resolve,invoke,builtin,List.map_toArray,List.map_cons,List.map_nil,ir h1,ir f]; simp [run_max_int2],aB.int _ _⟩
theorem ar.No {x y:Operand}{cN:Array TypeId}{k:IntKind}{m n:Int}(i:ev ts x=.a (.d (.int k m))) (l:ev ts y=.a (.d (.int k n))) :
  ar P (mk dst (.call { callee:=.builtin .min,args:=#[x,y],argTypes:=cN }) ty pos aC g) ts ls h {} (.a (.d (.int k (if n<m then n else m)))) ls h :=
 ar.dU fun j w jl act b=>by
  have h1:=b x (by simp [Op.operands,Call.operands]);have f:=b y (by simp [Op.operands,Call.operands]);rw [i] at h1; rw [l] at f;exact⟨_,by simp only [execOp,resolve,invoke,builtin,List.map_toArray,List.map_cons,List.map_nil,ir h1,ir f]; simp [run_min_int2],aB.int _ _⟩
theorem ar.Np {t:TypeId}{p:TI}{x:Operand}{lo hi:Option Operand}{l r:Option Int}{s y:Bs}(i:aM P t=some p) (hk:p.k=.str) (j:ev ts x=.a (.d (.str s)))
  (f:match lo,l with|none,none=>True|some o,some n=>ev ts o=.a (.d (.int .i64 n))|_,_=>False) (b:match hi,r with|none,none=>True|some o,some n=>ev ts o=.a (.d (.int .i64 n))|_,_=>False)
  (q:lo.isSome=true\/hi.isSome=true) (hr:wC s l r=some y):ar P (mk dst (.slice t x lo hi none) ty pos aC g) ts ls h {} (.a (.d (.str y))) ls h:=by
 unfold wC at hr
 split at hr
 ·rename_i hc
  simp only [Option.some.injEq] at hr;cases lo with
  | none =>
   cases l with
   | some n=>exact f.elim
   | none =>
    cases hi with
    | none=>simp at q
    | some o =>
     cases r with
     | none=>exact b.elim
     | some n =>
      have:=ar.zi (ak:=ak) (P:=P) (dst:=dst) (ty:=ty) (pos:=pos) (aC:=aC) (g:=g) (ls:=ls) (h:=h) i hk j b (by simpa using hc.2.1) (by simpa using hc.2.2);rw [<- hr]; simpa using this
  | some o =>
   cases l with
   | none=>exact f.elim
   | some n =>
    cases hi with
    | none =>
     cases r with
     | some m=>exact b.elim
     | none =>
      have:=ar.vW (ak:=ak) (P:=P) (dst:=dst) (ty:=ty) (pos:=pos) (aC:=aC) (g:=g) (ls:=ls) (h:=h) i hk j f (by simpa using hc.1) (by simpa using hc.2.1);rw [<- hr]; simpa using this
    | some o' =>
     cases r with
     | none=>exact b.elim
     | some m =>
      have:=ar.MI (ak:=ak) (P:=P) (dst:=dst) (ty:=ty) (pos:=pos) (aC:=aC) (g:=g) (ls:=ls) (h:=h) i hk j f b (by simpa using hc.1) (by simpa using hc.2.1) (by simpa using hc.2.2);rw [<- hr];simp only [Option.getD_some];rw [List.drop_take];exact this
 ·cases hr
end
theorem aQ.sLen {P:Program}{ops:Array Oper}{rest:List Oper}{Q:St->Prop}{n:Nat}{ts:Ts}{ls:List (List D)}{h:ah}{d:Nat}{ty:TypeId}{pos:String}{aC:Array Edge}{t e:TypeId}{b:TI}{x:Operand}{cN:Array TypeId}{k:Nat}{tok:Option Nat}{α:Type}{f:α->List D}{s:Sl α}
  (m:aM P t=some b) (hk:b.k=.slice e) (bH:cN[0]?=some t) (g:ev ts x=.a (.d (s.d k f tok))) (o:Nat.blt d n=true)
  (hr:s.l.length<=140737488355328->aQ P ops rest Q ⟨n,(d,.a (.d (.int .i64 (s.l.length:Int))))::ts,ls,h⟩) :
  aQ P ops (⟨some d,.call { callee:=.builtin .len,args:=#[x],argTypes:=cN },ty,pos,aC,none⟩::rest) Q ⟨n,ts,ls,h⟩:=by
 intro j w jl a i p q;have hlen:s.l.length<=140737488355328:=by
  have h1:=mH i.tmps x;rw [g] at h1;obtain⟨_,_,_,hn,_⟩:=lG h1
  simpa [cL] using hn
 exact aQ.s0 (ar.cZ m hk bH g) o (hr hlen) j w jl a i p q
theorem aQ.mS {P:Program}{ops:Array Oper}{rest:List Oper}{Q:St->Prop}{n:Nat}{ts:Ts}{ls:List (List D)}{h:ah}{d:Nat}{ty:TypeId}{pos:String}{aC:Array Edge}{t:TypeId}{b:TI}{x:Operand}{cN:Array TypeId}{s:Bs}
  (i:aM P t=some b) (hk:b.k=.str) (bH:cN[0]?=some t) (f:ev ts x=.a (.d (.str s))) (l:Nat.blt d n=true)
  (hr:s.length<=4611686018427387904->aQ P ops rest Q ⟨n,(d,.a (.d (.int .i64 (s.length:Int))))::ts,ls,h⟩) :
  aQ P ops (⟨some d,.call { callee:=.builtin .len,args:=#[x],argTypes:=cN },ty,pos,aC,none⟩::rest) Q ⟨n,ts,ls,h⟩:=by
 intro j w jl a g m o;have hlen:s.length<=4611686018427387904:=by
  have h1:=mH g.tmps x;rw [f] at h1;exact(jh h1).2
 exact aQ.s0 (ar.wo i hk bH f) l (hr hlen) j w jl a g m o
theorem aQ.zJ {P:Program}{ops:Array Oper}{rest:List Oper}{Q:St->Prop}{n:Nat}{ts:Ts}{ls:List (List D)}{h h':ah}(e:h=h') (hw:aQ P ops rest Q ⟨n,ts,ls,h'⟩):aQ P ops rest Q ⟨n,ts,ls,h⟩:=e▸hw
theorem au.zJ {P:Program}{ops:Array Oper}{m:Nat}{rest:List Oper}{done:List Fx}{Q:St->Prop}{n:Nat}{ts:Ts}{ls:List (List D)}{h h':ah}(e:h=h') (hw:au P ops m rest done Q ⟨n,ts,ls,h'⟩):au P ops m rest done Q ⟨n,ts,ls,h⟩:=e▸hw
theorem ag.eS {P:Program}{c:Code}{Q:Exit->St->Prop}{n:Nat}{ts:Ts}{ls:List (List D)}{h h':ah}(e:h=h') (hw:ag P c Q ⟨n,ts,ls,h'⟩):ag P c Q ⟨n,ts,ls,h⟩:=e▸hw
theorem ah.gB {h:ah}{i r:Nat}{o:Obj}(e:(h.set i (some o)) r=none):r≠i/\h r=none:=by
 have h1:r≠i:=fun b=>by rw [b,ah.bX] at e; cases e
 exact⟨h1,by rw [ah.bP _ _ h1] at e; exact e⟩
section
variable {P:Program}{ops:Array Oper}{rest:List Oper}{Q:St->Prop}{n:Nat}{ts:Ts}{ls:List (List D)}{h:ah}
theorem aQ.lI (id:Nat){xs:List D}(i:List D) (hc:h id=some (.cells xs)) (k:∀j w cs,dJ j w h->aW (aB j w) xs cs->aW (aB j w) i cs)
  (hw:aQ P ops rest Q ⟨n,ts,ls,h.set id (some (.cells i))⟩):aQ P ops rest Q ⟨n,ts,ls,h⟩:=by
 intro j w jl a f l hk;have hl:=f.hl;refine hw j w jl a ⟨f.defers,f.size,f.tmps,⟨hl.1.lI hc (k j w · hl.1),⟨hl.2.each,hl.2.nodup,fun b m g=>hl.2.apart b m ((Own.lI hc).1 g)⟩⟩⟩ l fun o j' w' p q hq r s=>hk o j' w' p q hq r (bw.trans ?_ s);exact { bw.refl j _ (Own j h jl) with own:=fun b _ g=>(Own.lI hc).1 g }
theorem aQ.dc (i:Nat){xs:List D}(m:List D) (hc:ls[i]?=some xs) (p:∀j w cs,dJ j w h->aW (aB j w) xs cs->aW (aB j w) m cs)
  (hw:aQ P ops rest Q ⟨n,ts,ls.set i m,h⟩):aQ P ops rest Q ⟨n,ts,ls,h⟩:=by
 intro j w jl a l;have hl:=l.hl;have q:aW (fun xs b=>jL j w b xs) (ls.set i m) jl:=by
  refine aW.kO (by rw [List.length_set,hl.2.each.length]) fun k x b f o=>?_;rw [List.getElem?_set] at f
  split at f
  ·rename_i e
   subst e
   split at f
   ·simp only [Option.some.injEq] at f; subst f;obtain⟨r,g,cs,s,h1,t,u⟩:=hl.2.each.get hc;rw [o] at g; simp only [Option.some.injEq] at g; subst g;exact⟨cs,s,h1,p j w _ hl.1 t,u⟩
   ·cases f
  ·obtain⟨r,g,h1⟩:=hl.2.each.get f;rw [o] at g; simp only [Option.some.injEq] at g; subst g;exact h1
 exact hw j w jl a ⟨l.defers,l.size,l.tmps,⟨hl.1,⟨q,hl.2.nodup,hl.2.apart⟩⟩⟩
theorem aQ.tok (k:Nat) (hw:∀t,h t=none->aQ P ops rest Q ⟨n,ts,ls,h.set t (some (.tok k 0))⟩):aQ P ops rest Q ⟨n,ts,ls,h⟩:=by
 intro j w jl a b g hk;obtain⟨h1,f⟩:=b.hl.dQ k;have l:=b.hl.1.kQ (Nat.le_refl _);exact hw j.next l j.dQ w jl a ⟨b.defers,b.size,fun i=>(b.tmps i).mono f.toLe (Ext.refl _),h1⟩ g fun m j' w' o p hq q r=>hk m j' w' o p hq q (f.trans r)
theorem aQ.fU (s k t:Nat){o:Obj}{f:Nat}(g:get ts s=.a (.d (.slice f none true []))) (ht:h t=some o)
  (hw:aQ P ops rest Q ⟨n,(s,.a (.d (.slice k (some t) true [])))::ts,ls,h⟩):aQ P ops rest Q ⟨n,ts,ls,h⟩:=by
 intro j w jl a b;refine hw j w jl a ⟨b.defers,b.size,fun i=>?_,b.hl⟩;by_cases e:s=i
 ·subst e;show aX _ _ _ (get ((s,_)::ts) s) _;rw [fD];have hv:aX j w jl (get ts s) (a.tmps.getD s undef):=b.tmps s;rw [g] at hv;exact(lH.nil (k':=k) ht).rel b.hl.1 hv
 ·show aX _ _ _ (get ((s,_)::ts) i) _;rw [eN _ _ e];exact b.tmps i
theorem aQ.gb (s:Nat){k:Nat}{tk:Option Nat}{nl:Bool}{rows:List (List D)}(f:get ts s=.a (.d (.slice k tk nl rows)))
  (hw:aQ P ops rest Q ⟨n,(s,.a (.d (.slice k none nl rows)))::ts,ls,h⟩):aQ P ops rest Q ⟨n,ts,ls,h⟩:=by
 intro j w jl a b;refine hw j w jl a ⟨b.defers,b.size,fun i=>?_,b.hl⟩;by_cases e:s=i
 ·subst e;show aX _ _ _ (get ((s,_)::ts) s) _;rw [fD];have hv:aX j w jl (get ts s) (a.tmps.getD s undef):=b.tmps s;rw [f] at hv;exact FP j w _ hv
 ·show aX _ _ _ (get ((s,_)::ts) i) _;rw [eN _ _ e];exact b.tmps i
end
theorem tok_cell {j:J}{w:World}{h:ah}{t:Nat}{o:Obj}{xs:List D}{cs:List Value}(i k k':Nat) (hh:dJ j w h) (ht:h t=some o) (f:aW (aB j w) xs cs) (hi:xs[i]?=some (.slice k none true [])) :
  aW (aB j w) (xs.set i (.slice k' (some t) true [])) cs:=by
 refine aW.kO (by rw [List.length_set,f.length]) fun n x v hn hv=>?_;rw [List.getElem?_set] at hn
 split at hn
 ·rename_i e
  subst e
  split at hn
  ·simp only [Option.some.injEq] at hn; subst hn;obtain⟨g,b,hr⟩:=f.get hi;rw [hv] at b; simp only [Option.some.injEq] at b; subst b;exact(lH.nil (k:=k) (k':=k') ht).rel hh (x:=.d (.slice k none true [])) hr
  ·cases hn
 ·obtain⟨g,b,hr⟩:=f.get hn;rw [hv] at b; simp only [Option.some.injEq] at b; subst b;exact hr
theorem mU {j:J}{w:World}{xs:List D}{cs:List Value}(i:Nat){k:Nat}{tk:Option Nat}{nl:Bool}{rows:List (List D)}(f:aW (aB j w) xs cs) (hi:xs[i]?=some (.slice k tk nl rows)) :
  aW (aB j w) (xs.set i (.slice k none nl rows)) cs:=by
 refine aW.kO (by rw [List.length_set,f.length]) fun n x v hn hv=>?_;rw [List.getElem?_set] at hn
 split at hn
 ·rename_i e
  subst e
  split at hn
  ·simp only [Option.some.injEq] at hn; subst hn;obtain⟨g,b,hr⟩:=f.get hi;rw [hv] at b; simp only [Option.some.injEq] at b; subst b;exact FP j w v hr
  ·cases hn
 ·obtain⟨g,b,hr⟩:=f.get hn;rw [hv] at b; simp only [Option.some.injEq] at b; subst b;exact hr
def F0:Nat:=4611686018427387904
theorem wA {n:Nat}{ts ts':Ts}{ls aH:List (List D)}{h h':ah}(hk:aS ts aH.length ts':=by repeat (first|exact aS.nil|refine aS.c rfl rfl ?_|refine aS.c (by(first|(first|rfl|((conv=>lhs; whnf); first|(simp [cn,zK,zL,zM,Nq.Nr,Nat.add_assoc,empty_append,Bool.and_assoc]; done)|(simp [cn,zK,zL,zM,Nat.add_assoc,empty_append,Bool.and_assoc]; repeat (first|rfl|constructor))))|rfl|(simp only [fD,ev]; done)|(simp [*,cn]; done)|(show V.a (A.d (D.slice _ _ _ _))=V.a (A.d (D.slice _ _ _ _)); simp [*,cn]; done))) rfl ?_)) (hl:jj aH ls:=by repeat (first|exact jj.nil|apply jj.cons)) (hh:h=h':=by first|rfl|(first|rfl|(simp only [ah.set_set,List.length_append,List.length_nil,List.length_cons,List.length_map,List.length_singleton,Nat.zero_add]; done)|(simp [ah.set_set,Nat.add_assoc]; done))|(((funext n; simp only [ah.set]; (repeat' split)<;>simp_all))<;>first|rfl|exact⟨rfl,rfl⟩)):cw ⟨n,ts,ls,h⟩ ⟨n,ts',aH,h'⟩:=cw.to hk hl hh
theorem cw.toFA {n:Nat}{ts ts':Ts}{ls aH:List (List D)}{h h':ah}(hh:∀id o,h' id=some o->h id=some o) (hk:aS ts aH.length ts':=by repeat (first|exact aS.nil|refine aS.c rfl rfl ?_|refine aS.c (by(first|(first|rfl|((conv=>lhs; whnf); first|(simp [cn,zK,zL,zM,Nq.Nr,Nat.add_assoc,empty_append,Bool.and_assoc]; done)|(simp [cn,zK,zL,zM,Nat.add_assoc,empty_append,Bool.and_assoc]; repeat (first|rfl|constructor))))|rfl|(simp only [fD,ev]; done)|(simp [*,cn]; done)|(show V.a (A.d (D.slice _ _ _ _))=V.a (A.d (D.slice _ _ _ _)); simp [*,cn]; done))) rfl ?_)) (hl:jj aH ls:=by repeat (first|exact jj.nil|apply jj.cons)):cw ⟨n,ts,ls,h⟩ ⟨n,ts',aH,h'⟩:=cw.toF hk hl hh
theorem aI {h:ah}{i:Nat}{o:Option Obj}(b:h i=o:=by(first|assumption|exact ah.bX _ _ _|((repeat (refine(ah.bP _ _ (by first|assumption|(apply Ne.symm; assumption))).trans ?_)); first|assumption|exact ah.bX _ _ _)|(simp only [ah.set_set,ah.bX]; done)|(simp [ah.set, *]; done))):h i=o:=b
theorem and_left {a b:Bool}(h:(a&&b)=true):a=true:=by cases a<;>simp_all
end Go.Ab
namespace Go.Ab
open Go Go.RowKit
variable {ak:bf}
section
variable {P:Program}{ts:Ts}{ls aH:List (List D)}{h h':ah}{fx:Fx}{x:A}{dst:Option Tmp}{ty:TypeId}{pos:String}{aC:Array Edge}{g:Option (Nat×Bool)}
theorem ar.aG {o:Oper}{v:V}{k:Nat}{c:Bool}(hk:get ts k=.gd c x) (b:ar P o ((k,.a x)::ts) ls h fx v aH h') (hc:c=true:=by first|assumption|exact gP (by assumption)|exact gP (gP (by assumption))|exact gP (gP (gP (by assumption)))|exact zH (by assumption)|simp_all):ar P o ts ls h fx v aH h':=ar.ji hk hc b
theorem ar.uz {o:Oper}{v:V}{k:Nat}{c:Bool}{i off:Nat}(hk:get ts k=.gr c i off) (b:ar P o ((k,.cV i off)::ts) ls h fx v aH h') (hc:c=true:=by first|assumption|exact gP (by assumption)|exact gP (gP (by assumption))|exact gP (gP (gP (by assumption)))|exact zH (by assumption)|simp_all):ar P o ts ls h fx v aH h':=ar.M3 hk hc b
theorem ar.fV {c y z:Operand}{b r f:Bool}(hc:ev ts c=.a (.d (.bool b))) (i:ev ts y=.gd f (.d (.bool r))) (j:ev ts z=.a (.d (.bool false))) (k:b=true->f=true:=by intro hh; first|exact hh|exact wx hh|exact wy (by assumption) hh|exact wy (by assumption) (wx hh)|simp_all) :
  ar P (mk dst (.pick c y z) ty pos aC g) ts ls h {} (.a (.d (.bool (b&&r)))) ls h:=ar.M4 hc i k j
theorem ar.qk {c y z:Operand}{b r f:Bool}(hc:ev ts c=.a (.d (.bool b))) (i:ev ts y=.a (.d (.bool true))) (j:ev ts z=.gd f (.d (.bool r))) (k:b=false->f=true:=by intro hh; first|exact hh|exact wx hh|exact wy (by assumption) hh|exact wy (by assumption) (wx hh)|simp_all) :
  ar P (mk dst (.pick c y z) ty pos aC g) ts ls h {} (.a (.d (.bool (b||r)))) ls h:=ar.M5 hc i j k
theorem ar.ox {x:Operand}{v:V}(b:ev ts x=v:=by conv=>lhs; whnf):ar P (mk dst (.move x) ty pos aC g) ts ls h {} v ls h:=ar.move b
theorem ar.Ns {x:Operand}{v:V}(b:ev ts x=v:=by conv=>lhs; whnf):ar P (mk dst (.assign x) ty pos aC g) ts ls h {} v ls h:=ar.assign b
theorem ar.FW {t:TypeId}{b i:TI}{fs:List (Nat×TypeId)}{x:Operand}{f o:Nat}{xs j:List D}{l:TypeId}(m:aM P t=some b) (hk:b.k=.struct fs) (p:fs[f]?=some (o,l)) (q:aM P l=some i)
  (r:Nat.beq i.size 0=false) (s:ev ts x=.a (.d (.view xs))) (u:xs.drop o=j:=by conv=>lhs; whnf):ar P (mk dst (.fieldAddr t x f) ty pos aC g) ts ls h {} (.a (.d (.view j))) ls h:=ar.My m hk p q r s u
theorem dY.A {ts:Ts}{k:Nat}{v:V}{r:Ts}(t:dY ts r) (h:Ab.get ts k=v:=by conv=>lhs; whnf):dY ts ((k,v)::r):=dY.cons h t
theorem ar.Nt {e:TypeId}{b:TI}{z:A}{i:Nat}{aH:List (List D)}(f:aM P e=some b) (j:b.zero=some z) (k:bA (cn z) ls i aH:=by repeat (first|exact bA.nil|apply bA.cons)) :
  ar P (mk dst (.alloc e) ty pos aC g) ts ls h { wl:=true } (.cV i 0) aH h:=ar.MK f j k
theorem ar.dH {t:TypeId}{b:TI}{x y:Operand}{i:Nat}{xs f:List D}{aH:List (List D)}(j:aM P t=some b) (k:ev ts x=.cV i 0) (l:ev ts y=.a (.agg f)) (hl:ls[i]?=some xs)
  (m:f.length=b.size) (hle:xs.length=b.size) (o:cD f ls i aH:=by repeat (first|exact cD.zero|apply cD.succ)):ar P (mk none (.store t x y) ty pos aC g) ts ls h { wl:=true } .any aH h:=ar.ML j k l hl m hle o
theorem ag.bu {c:Code}{Q:Exit->St->Prop}{n:Nat}{ts':Ts}{aH:List (List D)}{xs:List D}(s i:Nat) (b:get ts s=.cV i 0) (hk:aS ts i ts') (hw:ag P c Q ⟨n,(s,.a (.d (.view xs)))::ts',aH,h⟩) (hl:bA xs aH i ls:=by repeat (first|exact bA.nil|apply bA.cons)):ag P c Q ⟨n,ts,ls,h⟩:=ag.freeze s i b hl hk hw
theorem ag.eT {c:Operand}{u v:Code}{Q:Exit->St->Prop}{σ:St}{b:Bool}{α:Type}{A B:Option α}{r:α}(f:(bif b then A else B)=some r) (hc:ev σ.ts c=.a (.d (.bool b))) (ht:b=true->A=some r->ag P u Q σ) (g:b=false->B=some r->ag P v Q σ):ag P (.cond c u v) Q σ :=
 ag.cond hc (fun h=>ht h (Go.Ab.qb h f)) (fun h=>g h (Go.Ab.mK h f))
end
end Go.Ab
/-
 Slices that may be stored to: their object holds the rows; the slot tells the object and the length.
-/
namespace Go.Ab
open Go Go.RowKit
variable {ak:bf}
variable {eP:d_}
theorem HL.Nu {j:J}{w:World}{jl:List Nat}{ls:List (List D)}{h:ah}(hl:HL j w jl ls h) (k:Nat) :
  HL j.dQ w jl ls (h.set j.next (some (.arr k [])))/\bw j w (Own j h jl) j.dQ w (Own j.dQ (h.set j.next (some (.arr k []))) jl):=by
 have hle:Le j w j.dQ w:=⟨by simp [J.dQ],fun _ _=>rfl,fun _=>Nat.le_refl _,fun _ _ _=>rfl,fun t ht=>.inl (by simp only [J.dQ]; rw [if_neg (by omega)])⟩;have hk:=hl.keep hle (fun _ _=>⟨rfl,rfl⟩) (fun id hid _=>by simp only [J.dQ]; rw [if_neg (by omega)]) hl.1.fresh;have g:∀b,bD j.dQ j.next (.arr k [])≠some b:=by intro b; simp [bD,J.dQ]
 have l:∀jl x,Own j.dQ (h.set j.next (some (.arr k []))) jl x->Own j.dQ h jl x:=by
  rintro jl x (hm|⟨n,q,hn,e⟩)
  ·exact .inl hm
  ·by_cases c:n=j.next
   ·subst c; rw [ah.bX] at hn; simp only [Option.some.injEq] at hn; subst hn;exact absurd e (g x)
   ·rw [ah.bP h _ c] at hn; exact .inr ⟨n,q,hn,e⟩
 refine⟨⟨⟨fun id o hi=>?_,fun m u p v x h1 f r s=>?_,hl.1.fresh⟩,⟨hk.1.2.each,hk.1.2.nodup,fun x y i=>hk.1.2.apart x y (l [] x i)⟩⟩,
  { (bw.refl j w (Own j h jl)) with toLe:=hle,frame:=fun _ _ _=>⟨rfl,rfl⟩,own:=fun b _ i=>(hk.2 b).1 (l jl b i) }⟩
 ·by_cases c:id=j.next
  ·subst c; rw [ah.bX] at hi; simp only [Option.some.injEq] at hi; subst hi;exact⟨by simp [J.dQ],none,by simp [J.dQ],⟨fun _=>rfl,fun _=>rfl⟩,by simp,by simp,by simp⟩
  ·rw [ah.bP h _ c] at hi; exact hk.1.1.obj id o hi
 ·by_cases c1:m=j.next
  ·subst c1; rw [ah.bX] at h1; simp only [Option.some.injEq] at h1; subst h1;exact absurd r (g x)
  ·by_cases c2:p=j.next
   ·subst c2; rw [ah.bX] at f; simp only [Option.some.injEq] at f; subst f;exact absurd s (g x)
   ·rw [ah.bP h _ c1] at h1; rw [ah.bP h _ c2] at f;exact hk.1.1.inj m u p v x h1 f r s
theorem HL.zN {j:J}{w w':World}{jl:List Nat}{ls:List (List D)}{h:ah}(hl:HL j w jl ls h){t k:Nat}{rows aU:List (List D)}(ht:h t=some (.arr k rows)) (hm:rows.length<aU.length)
  {b cap:Nat}{cs:List Value}{e:TypeId}(K:w'.heap[b]?=some (.cells cs.toArray e (0,0))) (P:cs.length=cap*k) (Q:aU.length<=cap) (R:∀r∈aU,r.length=k) (S:aU.length<=cL)
  (z:∀x,x≠b->x<w.heap.size->w'.heap[x]?=w.heap[x]?) (U:w.heap.size<=w'.heap.size) (ag:w'.heap.size<=max w.heap.size (b+1))
  (p:w.heap.size<=b\/bD j t (.arr k rows)=some b)
  (W:∀j',Le j w j' w'->aW (aB j' w') aU.flatten (cs.take (aU.length*k)))
  (X:w'.os=w.os) (Y:w'.tape=w.tape) (Z:fC w w') :
  HL (j.cr t ⟨some (b,cap),aU.length⟩ b 0) w' jl ls (h.set t (some (.arr k aU))) /\
   bw j w (Own j h jl) (j.cr t ⟨some (b,cap),aU.length⟩ b 0) w' (Own (j.cr t ⟨some (b,cap),aU.length⟩ b 0) (h.set t (some (.arr k aU))) jl):=by
 obtain⟨aa,dP,L,_,_,_,hblk⟩:=hl.1.obj t _ ht;have M:j.F b=0:=by
  rcases p with hc|hc
  ·exact hl.1.fresh b hc
  ·simp only [bD,L,Option.bind_some] at hc;cases dP with
   | none=>simp at hc
   | some ab =>
    obtain⟨ad,ae⟩:=ab;simp only [Option.map_some,Option.some.injEq] at hc;subst hc;obtain⟨_,_,_,_,af,_⟩:=hblk _ _ rfl;exact af
 have hle:Le j w (j.cr t ⟨some (b,cap),aU.length⟩ b (0)) w':=by
  refine⟨Nat.le_refl _,fun _ _=>rfl,fun x=>?_,fun x o l=>?_,fun x f=>?_⟩
  ·simp only [J.cr]; split
   ·rename_i c; rw [c,M]; exact Nat.le_refl _
   ·exact Nat.le_refl _
  ·by_cases c:x=b
   ·subst c;rw [M] at l; omega
   ·refine p7 (z x c ?_);rcases Nat.lt_or_ge x w.heap.size with h1|h1
    ·exact h1
    ·rw [hl.1.fresh x h1] at l; omega
  ·by_cases c:x=t
   ·subst c; exact .inr ⟨_,⟨some (b,cap),aU.length⟩,L,by simp [J.cr],hm⟩
   ·exact .inl (by simp [J.cr,c])
 -- the others' blocks are not b
 have B:∀n q x,h n=some q->n≠t->bD j n q=some x->x≠b:=fun n q x hn i f c=>by
  subst c;rcases p with hc|hc
  ·have:=Own.lt hl (.inr ⟨n,q,hn,f⟩); omega
  ·exact i (hl.1.inj n q t _ x hn ht f hc)
 have H:∀x,x∈jl->x≠b:=fun x f c=>by
  subst c;rcases p with hc|hc
  ·have:=Own.lt hl (.inl f); omega
  ·exact hl.2.apart x f (.inr ⟨t,_,ht,hc⟩)
 have C:∀x,x≠b->(j.cr t ⟨some (b,cap),aU.length⟩ b (0)).F x=j.F x:=fun x f=>by simp [J.cr,f]
 have m:∀n q,h n=some q->n≠t->fq (j.cr t ⟨some (b,cap),aU.length⟩ b (0)) w' n q/\bD (j.cr t ⟨some (b,cap),aU.length⟩ b (0)) n q=bD j n q:=fun n q hn i =>
  (hl.1.obj n q hn).2.keep hle (hl.1.obj n q hn).1 (fun x f=>⟨z x (B n q x hn i f) (Own.lt hl (.inr ⟨n,q,hn,f⟩)),C x (B n q x hn i f)⟩)
   (fun _=>by simp [J.cr,i])
 have I:bD (j.cr t ⟨some (b,cap),aU.length⟩ b (0)) t (.arr k aU)=some b:=by simp [bD,J.cr]
 have N:∀jl x,Own (j.cr t ⟨some (b,cap),aU.length⟩ b (0)) (h.set t (some (.arr k aU))) jl x->x=b\/Own j h jl x:=by
  rintro jl x (f|⟨n,q,hn,f⟩)
  ·exact .inr (.inl f)
  ·by_cases c:n=t
   ·subst c; rw [ah.bX] at hn; simp only [Option.some.injEq] at hn; subst hn;rw [I] at f; simp only [Option.some.injEq] at f; exact .inl f.symm
   ·rw [ah.bP h _ c] at hn;exact .inr (.inr ⟨n,q,hn,(m n q hn c).2▸f⟩)
 refine⟨⟨⟨fun n q hn=>?_,fun s E u G x h1 g v y=>?_,fun x f=>?_⟩,
  ⟨og hl.2.each fun xs x f h=>h.keep hle ⟨z x (H x f) (Own.lt hl (.inl f)),C x (H x f)⟩,hl.2.nodup,fun x f l=>?_⟩⟩, ?_⟩
 ·by_cases c:n=t
  ·subst c; rw [ah.bX] at hn; simp only [Option.some.injEq] at hn; subst hn;refine⟨aa,some (b,cap),by simp [J.cr],⟨by simp,fun e=>by rw [e] at hm; simp at hm⟩,R,S,fun ad ae O=>?_⟩;simp only [Option.some.injEq,Prod.mk.injEq] at O;obtain⟨rfl,rfl⟩:=O;exact⟨cs,e,K,P,by simp [J.cr],Q,W _ hle⟩
  ·rw [ah.bP h _ c] at hn;exact⟨(hl.1.obj n q hn).1,(m n q hn c).1⟩
 ·by_cases c1:s=t<;>by_cases c2:u=t
  ·omega
  ·subst c1; rw [ah.bX] at h1; simp only [Option.some.injEq] at h1; subst h1;rw [ah.bP h _ c2] at g;rw [I] at v; simp only [Option.some.injEq] at v;exact absurd v.symm (B u G x g c2 ((m u G g c2).2▸y))
  ·subst c2; rw [ah.bX] at g; simp only [Option.some.injEq] at g; subst g;rw [ah.bP h _ c1] at h1;rw [I] at y; simp only [Option.some.injEq] at y;exact absurd y.symm (B s E x h1 c1 ((m s E h1 c1).2▸v))
  ·rw [ah.bP h _ c1] at h1; rw [ah.bP h _ c2] at g;exact hl.1.inj s E u G x h1 g ((m s E h1 c1).2▸v) ((m u G g c2).2▸y)
 ·have ai:=fO K;rw [C x (by omega)];exact hl.1.fresh x (by omega)
 ·rcases N [] x l with c|c
  ·exact H x f c
  ·exact hl.2.apart x f c
 ·refine { toLe:=hle,size:=U,frame:=fun x f hn=>?_,own:=fun x f l=>?_,os:=X,tape:=Y,output:=Z }
  ·have i:x≠b:=fun c=>by
    subst c;rcases p with hc|hc
    ·omega
    ·exact hn (.inr ⟨t,_,ht,hc⟩)
   exact⟨z x i f,C x i⟩
  ·rcases N jl x l with c|c
   ·subst c;rcases p with hc|hc
    ·omega
    ·exact .inr ⟨t,_,ht,hc⟩
   ·exact c
theorem Nv {j:J}{w:World}{jl:List Nat}{k id:Nat}{nl:Bool}{len:Nat}{cv:Value}(h:aX j w jl (.a (.d (.arr k id nl len))) cv):∃a cap,cv=.slice a len cap/\id<j.next/\uc j id nl len a cap:=by
 have h':aB j w (.arr k id nl len) cv:=h;cases h' with
 | arr _ _ _ _ a cap hid hv=>exact⟨a,cap,rfl,hid,hv⟩
theorem FX {j:J}{w:World}{jl:List Nat}{id m off:Nat}{cv:Value}(h:aX j w jl (.a (.d (.eX id m off))) cv) :
  ∃b,cv=.pointer (some ⟨b,off,none⟩)/\id<j.next/\∀tk,j.tok id=some tk->m<=tk.m/\(m=tk.m->∃c,tk.dP=some (b,c)):=by
 have h':aB j w (.eX id m off) cv:=h;cases h' with
 | eX _ _ _ b hid hv=>exact⟨b,rfl,hid,hv⟩
theorem HL.zO {j:J}{w:World}{jl:List Nat}{ls:List (List D)}{h:ah}(hl:HL j w jl ls h){k k' id n:Nat}{nl:Bool}{rows:List (List D)}(hi:h id=some (.arr k rows)) (hn:n=rows.length){cv:Value}
  (m:aX j w jl (.a (.d (.arr k' id nl n))) cv) :
  (∃a,cv=.slice a 0 0/\nl=a.isNone/\rows=[]/\j.tok id=some ⟨none,0⟩)\/∃b cap cs e,cv=.slice (some ⟨b,0,none⟩) rows.length cap/\nl=false/\j.tok id=some ⟨some (b,cap),rows.length⟩/\w.heap[b]?=some (.cells cs e (0,0)) /\
   cs.size=cap*k/\j.F b=0/\rows.length<=cap/\(∀r∈rows,r.length=k)/\aW (aB j w) rows.flatten (cs.toList.take (rows.length*k)):=by
 subst hn;obtain⟨a,cap,l,hid,hv⟩:=Nv m;obtain⟨_,dP,f,o,p,q,hblk⟩:=hl.1.obj id _ hi;obtain⟨_,hv⟩:=hv _ f;rcases hv rfl with ⟨h1,g,i⟩|⟨b,h1,g,i⟩
 ·dsimp only at h1;subst h1 i;have:=o.1 rfl;subst this;exact .inl ⟨a,l,g,rfl,f⟩
 ·dsimp only at h1;subst h1 g;obtain⟨cs,e,g1,g2,g3,g4,g5⟩:=hblk _ _ rfl;exact .inr ⟨b,cap,cs.toArray,e,l,i,f,g1,by simpa using g2,g3,g4,p,by simpa using g5⟩
theorem Nw {rows:List (List D)}{k i o:Nat}{row:List D}(hk:∀r∈rows,r.length=k) (hr:rows[i]?=some row) (b:o<k):rows.flatten[i*k+o]?=row[o]?:=(iO hk).2 i row hr o b
theorem Nx {rows:List (List D)}{k:Nat}(hk:∀r∈rows,r.length=k):∀{i o:Nat}{row:List D}{v:D},rows[i]?=some row->o<k->rows.flatten.set (i*k+o) v=(rows.set i (row.set o v)).flatten:=by
 induction rows with
 | nil=>intro i o row v hr; simp at hr
 | cons r rs b =>
  intro i o row v hr f;have j:r.length=k:=hk r (by simp);cases i with
  | zero =>
   simp at hr; subst hr;rw [Nat.zero_mul,Nat.zero_add,List.flatten_cons,List.set_append_left _ _ (by omega)]; rfl
  | succ i =>
   have:=b (fun x g=>hk x (by simp [g])) (i:=i) (o:=o) (v:=v) (by simpa using hr) f;rw [List.flatten_cons,Nat.succ_mul,List.set_append_right _ _ (by omega),show i*k+k+o-r.length=i*k+o by omega,this]; rfl
theorem Ny {rows:List (List D)}{k i:Nat}(hk:∀r∈rows,r.length=k):∀{o:Nat}{b row:List D},rows[i]?=some row->o+b.length<=k->cT rows.flatten (i*k+o) b=(rows.set i (cT row o b)).flatten:=by
 intro o b;induction b generalizing o rows with
 | nil =>
  intro row hr _;show rows.flatten=(rows.set i row).flatten
  congr 1
  refine List.ext_getElem? fun n=>?_;rw [List.getElem?_set]; split
  ·rename_i e; subst e; rw [hr]; simp [(List.getElem?_eq_some_iff.1 hr).1]
  ·rfl
 | cons v b f =>
  intro row hr g;simp only [List.length_cons] at g;have hi:=(List.getElem?_eq_some_iff.1 hr).1;rw [cT,Nx hk hr (by omega),Nat.add_assoc,f (rows:=rows.set i (row.set o v)) (row:=row.set o v) (fun r j=>?_) (by simp [hi]) (by omega)]
  ·rw [List.set_set]; rfl
  ·rcases List.mem_or_eq_of_mem_set j with h|h
   ·exact hk r h
   ·rw [h,List.length_set]; exact hk row (List.mem_of_getElem? hr)
theorem FY {α:Type}:∀(l z:List α) (n:Nat) (r:List α),n+r.length<=l.length->cT (l++z) n r=cT l n r++z
 | _,_,_,[],_=>rfl
 | l,z,n,v::r,h=>by
  simp only [List.length_cons] at h;rw [cT,cT,List.set_append_left _ _ (by omega),FY _ _ _ _ (by simp; omega)]
section
variable {P:Program}{ts:Ts}{ls:List (List D)}{h:ah}{dst:Option Tmp}{ty:TypeId}{pos:String}{aC:Array Edge}{g:Option (Nat×Bool)}{α:Type}{f:α->List D}
theorem ar.Nz {t e:TypeId}{o p:TI}{x ix:Operand}{u:IntKind}{n:Nat}{k id m:Nat}{nl:Bool}{l:List α}{y:α}(v:aM P t=some o) (hk:o.k=.slice e) (z:aM P e=some p)
  (B:ev ts x=.a (.d (.arr k id nl m))) (hi:ev ts ix=.a (.d (.int u (n:Int)))) (C:k=p.size) (hh:h id=some (.arr k (l.map f))) (hm:m=l.length) (hr:l[n]?=some y) :
  ar P (mk dst (.indexAddr t x ix) ty pos aC g) ts ls h { rh:=true } (.a (.d (.eX id m (n*k)))) ls h :=
 kV.mM ⟨rfl,rfl,fun L H _ hH j w jl a hl q=>by
  have h1:=q x (by simp [Op.operands]);have r:=q ix (by simp [Op.operands]);rw [B] at h1; rw [hi] at r;rw [hH rfl] at hl;subst hm;have aY:=(List.getElem?_eq_some_iff.1 hr).1;rcases hl.zO hh (by simp) h1 with ⟨_,_,_,s,_⟩|⟨b,cap,cs,ce,E,_,F,_⟩
  ·simp at s; subst s; simp at hr
  ·refine⟨.pointer (some ⟨b,n*k,none⟩), ?_,aB.eX id l.length (n*k) b (hl.1.obj id _ hh).1 fun tk i=>?_⟩
   ·simp [execOp,E,ir r,Instr.indexAt,asIntOf,eZ (kW v hk),kT z,aY,<- C,add_plain]
   ·rw [F] at i; simp only [Option.some.injEq] at i; subst i;exact⟨by simp,fun _=>⟨cap,rfl⟩⟩⟩
theorem ar.FZ {t:TypeId}{f i:TI}{fs:List (Nat×TypeId)}{x:Operand}{fn o id m off:Nat}{l:TypeId}(q:aM P t=some f) (hk:f.k=.struct fs) (r:fs[fn]?=some (o,l)) (s:aM P l=some i)
  (p:Nat.beq i.size 0=false) (u:ev ts x=.a (.d (.eX id m off))):ar P (mk dst (.fieldAddr t x fn) ty pos aC g) ts ls h {} (.a (.d (.eX id m (off+o)))) ls h :=
 ar.dU fun j w jl a v=>by
  have h1:=v x (by simp [Op.operands]);rw [u] at h1;obtain⟨b,e,hi,hv⟩:=FX h1;exact⟨.pointer (some ⟨b,off+o,none⟩),by simp [execOp,e,wk q hk r s (fun e=>by rw [e] at p; simp at p),add_plain],aB.eX _ _ _ _ hi hv⟩
theorem HL.F1 {j:J}{w:World}{jl:List Nat}{ls:List (List D)}{h:ah}(hl:HL j w jl ls h){k id off:Nat}{rows:List (List D)}(hi:h id=some (.arr k rows)){cv:Value}
  (i:aX j w jl (.a (.d (.eX id rows.length off))) cv) :
  ∃b cap cs e,cv=.pointer (some ⟨b,off,none⟩)/\j.tok id=some ⟨some (b,cap),rows.length⟩/\w.heap[b]?=some (.cells (cs:List Value).toArray e (0,0))/\cs.length=cap*k/\j.F b=0/\rows.length<=cap /\
   (∀r∈rows,r.length=k)/\aW (aB j w) rows.flatten (cs.take (rows.length*k))/\rows.length<=cL:=by
 obtain⟨b,l,hid,hv⟩:=FX i;obtain⟨_,dP,f,p,m,o,hblk⟩:=hl.1.obj id _ hi;obtain⟨_,hv⟩:=hv _ f;obtain⟨cap,g⟩:=hv rfl;dsimp only at g;subst g;obtain⟨cs,e,g1,g2,g3,g4,g5⟩:=hblk _ _ rfl;exact⟨b,cap,cs,e,l,f,g1,g2,g3,g4,m,g5,o⟩
theorem ar.NA {t:TypeId}{r:TI}{x:Operand}{k id m off i o:Nat}{l:List α}{y:α}{v:A}(z:aM P t=some r) (hk:r.k.lF=false) (B:ev ts x=.a (.d (.eX id m off)))
  (hh:h id=some (.arr k (l.map f))) (hm:m=l.length) (hr:l[i]?=some y) (C:off=i*k+o) (hv:kS r (f y) o=some v) :
  ar P (mk dst (.load t x) ty pos aC g) ts ls h { rh:=true } (.a v) ls h :=
 kV.mM ⟨rfl,rfl,fun L H _ hH j w jl a hl E=>by
  have h1:=E x (by simp [Op.operands]);rw [B] at h1;rw [hH rfl] at hl;rw [hm,<- List.length_map f] at h1;obtain⟨b,cap,cs,ce,F,_,G,M,_,N,s,I,_⟩:=hl.F1 hh h1;have u:(l.map f)[i]?=some (f y):=by rw [List.getElem?_map,hr]; rfl
  have O:(f y).length=k:=s _ (List.mem_of_getElem? u);have hc:Cells j w b (i*k) (f y):=by
   intro n d hn;have Q:=(List.getElem?_eq_some_iff.1 hn).1;have q:=Nw s u (o:=n) (by omega);rw [hn] at q;obtain⟨v,p,J⟩:=I.get q;refine⟨v, ?_,J⟩;rw [cell_of_row w b _ cs.toArray ce (0,0) G];rw [List.getElem?_take] at p; split at p
   ·simpa using p
   ·cases p
  obtain⟨cv,q,p⟩:=qc (P:=P) hc z (K.qa hk) hv;exact⟨cv,by simp [execOp,Instr.loadAt,Instr.sureAddr,F,C,q],p⟩⟩
theorem ar.NC {t:TypeId}{p:TI}{x y:Operand}{k id m off i o:Nat}{l:List α}{u u':α}{v:A}(Q:aM P t=some p) (R:ev ts x=.a (.d (.eX id m off))) (S:ev ts y=.a v)
  (hh:h id=some (.arr k (l.map f))) (hm:m=l.length) (hr:l[i]?=some u) (U:off=i*k+o) (E:(cn v).length=p.size) (hle:o+p.size<=k) (hu:cT (f u) o (cn v)=f u') (al:dst=none) :
  ar P (mk dst (.store t x y) ty pos aC g) ts ls h { wh:=true } .any ls (h.set id (some (.arr k ((l.set i u').map f)))):=by
 refine ar.of_run fun L H _ hH j w jl a hl F=>?_;have W:=hH rfl;subst W;have h1:=F x (by simp [Op.operands]);have s:=F y (by simp [Op.operands]);rw [R] at h1; rw [S] at s;rw [hm,<- List.length_map f] at h1;obtain⟨b,cap,cs,ce,X,G,Y,Z,z,I,B,J,aa⟩:=hl.F1 hh h1;have K:(l.map f)[i]?=some (f u):=by rw [List.getElem?_map,hr]; rfl
 have hi:=(List.getElem?_eq_some_iff.1 hr).1;have am:i*k+k<=l.length*k:=by rw [<- Nat.succ_mul]; exact Nat.mul_le_mul_right _ hi
 have an:l.length*k<=cap*k:=Nat.mul_le_mul_right _ (by simpa using I);obtain⟨w',ab,C⟩:=uj (ak:=ak) (P:=P) (off:=off) Y Q s E (by omega);have M:=C.le (j:=j) z;have ad:(a.eval y).cells.toList.length=p.size:=by have:=s.cells.length; rw [E] at this; exact this.symm
 have hblk:∀aU,bD j id (.arr k aU)=some b:=fun _=>by simp [bD,G]
 obtain⟨ae,af⟩:=hl.setObj (o':=.arr k ((l.set i u').map f)) hh (hblk _) (hblk _) z C (by
  refine⟨some (b,cap),by simpa using G,⟨by simp,fun e=>by simp at e; subst e; simp at hr⟩,fun r ag=>?_,by simpa using aa,fun ao ap N=>?_⟩
  ·obtain⟨q,hq,rfl⟩:=List.mem_map.1 ag;rcases List.mem_or_eq_of_mem_set hq with hq|hq
   ·exact B _ (List.mem_map.2 ⟨q,hq,rfl⟩)
   ·subst hq; rw [<- hu,rG]; exact B _ (List.mem_of_getElem? K)
  ·simp only [Option.some.injEq,Prod.mk.injEq] at N;obtain⟨rfl,rfl⟩:=N;refine⟨_,ce,C.here,by rw [rG]; exact Z,z,by simpa using I, ?_⟩;have ai:((l.set i u').map f).flatten=cT (l.map f).flatten (i*k+o) (cn v):=by
    rw [Ny B K (by omega),List.map_set,hu]
   rw [ai,List.length_map,List.length_set];have aj:cs=cs.take (l.length*k)++cs.drop (l.length*k):=(List.take_append_drop _ _).symm;have O:(cs.take (l.length*k)).length=l.length*k:=by rw [List.length_take]; omega
   have:(cT cs off (a.eval y).cells.toList).take (l.length*k)=cT (cs.take (l.length*k)) off (a.eval y).cells.toList:=by
    conv=>lhs; rw [aj]
    rw [FY _ _ _ _ (by rw [O,ad]; omega)];rw [List.take_left' (by rw [rG,O])]
   rw [show _=(cT cs off (a.eval y).cells.toList) from rfl,this,U];rw [List.length_map] at J;exact(J.imp fun _ _ h=>h.mono M).cT _ (s.cells.imp fun _ _ h=>h.mono M))
 refine⟨.skip,w',undef,j,jl, ?_,.inr ⟨rfl,rfl⟩,trivial,ae,Ext.refl _,af⟩;simp [execOp,Instr.storeAt,Instr.sureAddr,X,ab]
end
section
variable {P:Program}{ts:Ts}{ls:List (List D)}{h:ah}{dst:Option Tmp}{ty:TypeId}{pos:String}{aC:Array Edge}{g:Option (Nat×Bool)}{α:Type}{f:α->List D}
theorem ar.ND {t u e:TypeId}{av af l:TI}{x y:Operand}{id k k' m:Nat}{tok':Option Nat}{nl aw:Bool}{rows aU:List (List D)}{z:A}(aP:aM P t=some av) (hk:av.k=.slice e) (aQ:aM P e=some l) (aR:aM P u=some af) (aT:(∃e,af.k=.slice e)\/af.k=.str)
  (aV:l.zero=some z) (aW:(cn z).length=l.size)
  (U:ev ts x=.a (.d (.arr k id nl m))) (aZ:ev ts y=.a (.d (.slice k' tok' aw aU))) (q:k=l.size) (a0:k'=l.size\/aU=[])
  (f:h id=some (.arr k rows)) (hm:m=rows.length) (ax:(rows.length+aU.length)*l.bytes<=cL) (hlen:rows.length+aU.length<=cL) :
  ar P (mk dst (.call { callee:=.builtin .append,args:=#[x,y],argTypes:=#[t,u] }) ty pos aC g) ts ls h { rh:=true,wh:=true }
   (.a (.d (.arr k id (nl&&aU.isEmpty) (rows.length+aU.length)))) ls (h.set id (some (.arr k (rows++aU)))):=by
 refine ar.of_run fun L H _ hH j w jl a hl ay=>?_;have a1:=hH rfl;subst a1 hm;have h1:aX j w jl (.a (.d (.arr k id nl rows.length))) (a.eval x):=by have:=ay x (by simp [Op.operands,Call.operands]); rw [U] at this; exact this
 have ag:aB j w (.slice k' tok' aw aU) (a.eval y):=by have:=ay y (by simp [Op.operands,Call.operands]); rw [aZ] at this; exact this
 obtain⟨bc,bd,M,_,G,az,_,aA⟩:=fS aQ;rw [aV] at aA;obtain⟨zv,aD,a2⟩:=oq aA;have aE:zv.cells.size=l.size:=by have:=(a2 j w).cells.length; rw [aW] at this; simpa using this.symm
 obtain⟨du,hu,N⟩:=Fz aR aT;have ht:=kW aP hk;have Z:∀r∈aU,r.length=l.size:=by
  obtain⟨_,_,_,_,_,_,_,hh,_⟩:=lG (jl:=jl) ag;rcases a0 with e|e
  ·rw [<- e]; exact hh
  ·rw [e]; simp
 obtain⟨news,W,O⟩:=zB (P:=P) ag Z;have Q:=Fw ag P w;have a3:=(iO Z).1;have s:news.length=aU.length*l.size:=by rw [<- W.length,a3]
 have X:∀(v:Value) (w':World),(Builtin.append_ #[t,u] ty #[a.eval x,a.eval y]).run P w=.ok v w' ->
   (execOp a.eval (mk dst (.call { callee:=.builtin .append,args:=#[x,y],argTypes:=#[t,u] }) ty pos aC g)).run P w=.ok (.value v) w':=fun v w' hr=>by
  simp [execOp,resolve,invoke,builtin,hr]
 have o:(rows++aU).length=rows.length+aU.length:=by simp
 have be:cL=140737488355328:=rfl;have ai:=(hl.1.obj id _ f).1;rcases hl.zO f rfl h1 with ⟨base,R,aF,a4,aG⟩|⟨b,cap,B,ce,R,aF,aG,aH,aa,bf,a5,aJ,aj⟩
 ·-- nil so far
  subst a4;by_cases S:aU=[]
  ·subst S;have al:news=[]:=List.eq_nil_of_length_eq_zero (by simpa using s);subst al;have p:(Builtin.append_ #[t,u] ty #[a.eval x,a.eval y]).run P w=.ok (a.eval x) w:=by
    rw [R];cases base with
    | none=>exact Fu ht hu N M (by simpa using Q) (by rw [G]; simpa using O w (fun _ _ _=>rfl))
    | some a6 =>
     have:=uq (P:=P) (ty:=ty) (sCap:=0) (sLen:=0) (m:=0) (a:=a6) (news:=[]) (w':=w) ht hu N M (by simpa using Q) (by rw [G]; simpa using O w (fun _ _ _=>rfl)) (by omega) (by simp [storeCells])
     simpa using this
   refine⟨_,w,a.eval x,j,jl,X _ _ p,.inl rfl, ?_, ?_,Ext.refl _, ?_⟩
   ·simpa using h1
   ·simp only [List.isEmpty_nil,Bool.and_true,List.append_nil,cond_true];rw [ah.oh H id _ f]; exact hl
   ·simp only [List.isEmpty_nil,Bool.and_true,List.append_nil,cond_true];rw [ah.oh H id _ f]; exact bw.refl _ _ _
  ·have aK:0<aU.length:=List.length_pos_iff.2 S;have a7:(nl&&aU.isEmpty)=false:=by cases aU with|nil=>exact absurd rfl S|cons _ _=>simp
   rw [a7];have p:=zA (P:=P) (ty:=ty) (w:=w) (base:=base) (sLen:=0) (sCap:=0) (m:=aU.length) (x:=a.eval y) (olds:=[]) (news:=news) ht hu N M aD Q
    (by cases base<;>simp [Builtin.firstCells,loadCells,loadCellsFrom]) (by rw [G]; exact O w.drew fun _ _ _=>rfl) (by omega) (by simp at hlen; omega) (growslice_fits (by omega) (by rw [az]; simpa [cL] using ax))
   rw [<- R] at p;generalize am:grownCap w (0+aU.length) 0 e=E at p;have an:aU.length<=E:=by rw [<- am]; have:=grownCap_ge w (0+aU.length) 0 e; omega
   generalize Y:[]++news++(Builtin.zeroCells zv.cells (E-(0+aU.length))).toList=F at p;have ao:F.length=E*l.size:=by
    rw [<- Y];simp only [List.nil_append,List.length_append,s,Array.length_toList,size_zeroCells,aE,<- Nat.add_mul]
    congr 1; omega
   have ap:=heap_alloc_new w.drew (.cells F.toArray e);obtain⟨K,C⟩:=hl.drew.zN (w':=w.drew.alloc (.cells F.toArray e)) (aU:=[]++aU) f (by simpa using aK) (b:=w.heap.size) (cap:=E) ap (by rw [q]; exact ao) (by simpa using an) (by simpa [q] using Z) (by simpa using hlen)
    (fun x U aY=>pZ aY) (by simp) (by simp) (.inl (Nat.le_refl _)) (fun j' hle=>by
     have aq:F.take (aU.length*k)=news:=by rw [<- Y,List.nil_append,q,List.take_left' (by rw [s])]
     rw [List.nil_append,aq];exact W.imp fun _ _ h=>(h.mono ((bw.drew j w (fun _=>False)).toLe)).mono hle) rfl rfl fC.rfl
   refine⟨_,_,_,_,jl,X _ _ p,.inl rfl, ?_,K,Ext.refl _,(bw.drew j w _).trans C⟩;refine aB.arr _ _ _ _ _ _ (Nat.lt_of_lt_of_le ai C.toLe.next) fun tk f=>?_;simp only [J.cr,if_true,Option.some.injEq] at f;subst f;exact⟨by simp,fun _=>.inr ⟨_,rfl,rfl,rfl⟩⟩
 ·have bg:=(iO aJ).1;subst aF;rw [Bool.false_and];by_cases S:aU=[]
  ·subst S;have al:news=[]:=List.eq_nil_of_length_eq_zero (by simpa using s);subst al;have p:(Builtin.append_ #[t,u] ty #[a.eval x,a.eval y]).run P w=.ok (a.eval x) w:=by
    rw [R];have:=uq (P:=P) (ty:=ty) (sCap:=cap) (sLen:=rows.length) (m:=0) (a:=⟨b,0,none⟩) (news:=[]) (w':=w) ht hu N M (by simpa using Q) (by rw [G]; simpa using O w (fun _ _ _=>rfl)) (by omega) (by simp [storeCells])
    simpa using this
   refine⟨_,w,a.eval x,j,jl,X _ _ p,.inl rfl, ?_, ?_,Ext.refl _, ?_⟩
   ·simpa using h1
   ·simp only [List.append_nil,cond_true];rw [ah.oh H id _ f]; exact hl
   ·simp only [List.append_nil,cond_true];rw [ah.oh H id _ f]; exact bw.refl _ _ _
  ·have aK:0<aU.length:=List.length_pos_iff.2 S;have aL:∀r∈rows++aU,r.length=k:=fun r hr=>(List.mem_append.1 hr).elim (aJ r) (fun h=>by rw [q]; exact Z r h);by_cases ab:rows.length+aU.length<=cap
   ·-- in place
    have a8:w.heap[b]?=some (.cells B.toList.toArray ce (0,0)):=by simpa using aH
    obtain⟨w',a9,I⟩:=wi (ak:=ak) (P:=P) (off:=rows.length*l.size) news 0 B.toList w a8 (by
     rw [s]; simp only [Array.length_toList,aa]; rw [Nat.add_zero,<- Nat.add_mul,q]; exact Nat.mul_le_mul_right _ ab) (zo W)
    rw [Nat.add_zero] at I;have p:(Builtin.append_ #[t,u] ty #[a.eval x,a.eval y]).run P w=.ok (.slice (some ⟨b,0,none⟩) (rows.length+aU.length) cap) w':=by
     rw [R];exact uq ht hu N M Q (by rw [G]; exact O w fun _ _ _=>rfl) ab (by rw [add_plain,G,Nat.zero_add]; exact a9)
    have a_:bD j id (.arr k rows)=some b:=by simp [bD,aG]
    have ad:(rows++aU).length*k<=B.toList.length:=by
     rw [o]; simp only [Array.length_toList,aa]; exact Nat.mul_le_mul_right _ ab
    obtain⟨K,C⟩:=hl.zN (w':=w') (aU:=rows++aU) f (by rw [o]; omega) (b:=b) (cap:=cap) I.here (by simp [rG,aa]) (by rw [o]; exact ab) aL (by rw [o]; exact hlen) (fun x U _=>I.other x U)
     (by rw [I.size]; exact Nat.le_refl _) (by rw [I.size]; omega) (.inr a_) (fun j' hle=>by
      rw [List.flatten_append];have a':(cT B.toList (rows.length*l.size) news).take ((rows++aU).length*k)=B.toList.take (rows.length*k)++news:=by
       refine List.ext_getElem? fun i=>?_;rw [List.getElem?_take];by_cases hi:i<rows.length*k
       ·rw [if_pos (by rw [o,Nat.add_mul]; omega),uo _ _ _ _ (by rw [<- q]; exact hi),List.getElem?_append_left (by rw [List.length_take]; simp only [o,Nat.add_mul] at ad; omega),List.getElem?_take,if_pos hi]
       ·rw [List.getElem?_append_right (by rw [List.length_take]; omega)];have aY:(B.toList.take (rows.length*k)).length=rows.length*k:=by rw [List.length_take]; simp only [o,Nat.add_mul] at ad; omega
        rw [aY];by_cases ae:i<(rows++aU).length*k
        ·rw [if_pos ae];have aN:i-rows.length*k<news.length:=by rw [s,<- q]; rw [o,Nat.add_mul] at ae; omega
         have:=wv B.toList (rows.length*l.size) news (i-rows.length*k) _ (List.getElem?_eq_getElem aN) (by rw [s,<- q]; simp only [o,Nat.add_mul] at ad; exact ad);rw [<- q,show rows.length*k+(i-rows.length*k)=i by omega] at this;rw [<- q,this,List.getElem?_eq_getElem aN]
        ·rw [if_neg ae]
         symm; apply List.getElem?_eq_none; rw [s,<- q]; rw [o,Nat.add_mul] at ae; omega
      rw [a'];exact(aj.imp fun _ _ h=>h.mono hle).append (W.imp fun _ _ h=>h.mono hle)) I.os I.tape I.output
    rw [o] at C K;refine⟨_,w',_,_,jl,X _ _ p,.inl rfl, ?_,K,Ext.refl _,C⟩;refine aB.arr _ _ _ _ _ _ (Nat.lt_of_lt_of_le ai C.toLe.next) fun tk f=>?_;simp only [J.cr,if_true,Option.some.injEq] at f;subst f;exact⟨Nat.le_refl _,fun _=>.inr ⟨_,rfl,rfl,rfl⟩⟩
   ·-- a new array
    obtain⟨olds,holds,au⟩:∃olds,olds=B.toList.take (rows.length*k)/\olds.length=rows.length*l.size:=⟨_,rfl,by
     have ba:B.toList.length=cap*k:=by simpa using aa
     have:=Nat.mul_le_mul_right k a5;rw [List.length_take,ba,<- q];omega⟩
    rw [<- holds] at aj;have bb:(Builtin.firstCells l.size rows.length (.slice (some ⟨b,0,none⟩) rows.length cap)).run P w.drew=.ok olds.toArray w.drew:=by
     rw [Builtin.firstCells,<- au];exact run_loadCells_list w.drew _ olds fun n v hv=>by
      rw [add_plain,Nat.zero_add];have:w.drew.cell? ⟨b,n,none⟩=w.cell? ⟨b,n,none⟩:=rfl;rw [this,cell_of_row w b n B ce (0,0) aH];rw [holds,List.getElem?_take] at hv
      split at hv
      ·simpa using hv
      ·cases hv
    have p:=zA (P:=P) (ty:=ty) (w:=w) (base:=some ⟨b,0,none⟩) (sLen:=rows.length) (sCap:=cap) (m:=aU.length) (x:=a.eval y) (olds:=olds) (news:=news) ht hu N M aD Q
     (by rw [G]; exact bb) (by rw [G]; exact O w.drew fun _ _ _=>rfl) (by omega) (by omega) (growslice_fits (by omega) (by rw [az]; exact ax))
    rw [<- R] at p;generalize am:grownCap w (rows.length+aU.length) cap e=E at p;have an:rows.length+aU.length<=E:=by rw [<- am]; exact grownCap_ge _ _ _ _
    generalize Y:olds++news++(Builtin.zeroCells zv.cells (E-(rows.length+aU.length))).toList=F at p;have ao:F.length=E*l.size:=by
     rw [<- Y];simp only [List.length_append,au,s,Array.length_toList,size_zeroCells,aE,<- Nat.add_mul]
     congr 1; omega
    have ap:=heap_alloc_new w.drew (.cells F.toArray e);obtain⟨K,C⟩:=hl.drew.zN (w':=w.drew.alloc (.cells F.toArray e)) (aU:=rows++aU) f (by rw [o]; omega) (b:=w.heap.size) (cap:=E) ap (by rw [q]; exact ao) (by rw [o]; exact an) aL (by rw [o]; exact hlen)
     (fun x U aY=>pZ aY) (by simp) (by simp) (.inl (Nat.le_refl _)) (fun j' hle=>by
      have aq:F.take ((rows++aU).length*k)=olds++news:=by rw [<- Y,List.take_left' (by rw [List.length_append,au,s,o,q,Nat.add_mul])]
      rw [aq,List.flatten_append];have aO:=(bw.drew j w (fun _=>False)).toLe;exact(aj.imp fun _ _ h=>(h.mono aO).mono hle).append (W.imp fun _ _ h=>(h.mono aO).mono hle)) rfl rfl fC.rfl
    rw [o] at C K;refine⟨_,_,_,_,jl,X _ _ p,.inl rfl, ?_,K,Ext.refl _,(bw.drew j w _).trans C⟩;refine aB.arr _ _ _ _ _ _ (Nat.lt_of_lt_of_le ai C.toLe.next) fun tk f=>?_;simp only [J.cr,if_true,Option.some.injEq] at f;subst f;exact⟨Nat.le_refl _,fun _=>.inr ⟨_,rfl,rfl,rfl⟩⟩
end
section
variable {P:Program}{ts:Ts}{ls:List (List D)}{h:ah}{dst:Option Tmp}{ty:TypeId}{pos:String}{aC:Array Edge}{g:Option (Nat×Bool)}{α:Type}{f:α->List D}
theorem ar.NE {t u e:TypeId}{i j b:TI}{x y:Operand}{id k k' m:Nat}{nl:Bool}{tok':Option Nat}{s r v:Sl α}{z:A}(o:aM P t=some i) (hk:i.k=.slice e) (p:aM P e=some b) (q:aM P u=some j) (w:∃e,j.k=.slice e)
  (B:b.zero=some z) (C:(cn z).length=b.size) (E:ev ts x=.a (.d (.arr k id nl m))) (F:ev ts y=.a (.d (r.d k' f tok'))) (G:k=b.size) (H:k'=b.size)
  (I:h id=some (.arr k (s.l.map f))) (hm:m=s.l.length) (J:nl=s.nl) (hr:aZ b.bytes s r=some v) :
  ar P (mk dst (.call { callee:=.builtin .append,args:=#[x,y],argTypes:=#[t,u] }) ty pos aC g) ts ls h { rh:=true,wh:=true } (.a (.d (.arr k id v.nl v.l.length))) ls (h.set id (some (.arr k (v.l.map f)))):=by
 obtain⟨e,h1,K⟩:=uy hr;subst e J;have:=ar.ND (ak:=ak) (P:=P) (dst:=dst) (ty:=ty) (pos:=pos) (aC:=aC) (g:=g) (ls:=ls) o hk p q (.inl w) B C E F G (.inl H) I (by simpa using hm) (by simpa using h1) (by simpa using K);simp only [List.length_map,List.isEmpty_map] at this;rw [<- List.map_append] at this
 simpa using this
theorem HL.bu {j:J}{w:World}{jl:List Nat}{ls:List (List D)}{h:ah}(hl:HL j w jl ls h){k k' id:Nat}{nl:Bool}{rows:List (List D)}(hi:h id=some (.arr k rows)){cv:Value}
  (l:aX j w jl (.a (.d (.arr k' id nl rows.length))) cv) :
  ∃j',HL j' w jl ls (h.set id none)/\bw j w (Own j h jl) j' w (Own j' (h.set id none) jl)/\aB j' w (.slice k none nl rows) cv:=by
 obtain⟨m,p⟩:=hl.forget (h':=h.set id none) fun n o hn=>by
  by_cases c:n=id
  ·subst c; rw [ah.bX] at hn; cases hn
  ·rwa [ah.bP h _ c] at hn
 have q:rows.length<=cL:=by obtain⟨_,_,_,_,_,q,_⟩:=hl.1.obj id _ hi; exact q
 rcases hl.zO hi rfl l with ⟨base,r,s,E,z⟩|⟨b,cap,G,ce,r,s,z,B,R,H,I,K,L⟩
 ·subst r s E;cases base with
  | none=>exact⟨j,m,p,.fB _ _ (by simp)⟩
  | some M=>exact⟨j,m,p,.slice k none [] M 0 (fun _=>undef) (by simp) (by simp) (by simp) ⟨.inl rfl,by simp⟩ (by simp) (fun t ht=>by cases ht)⟩
 ·subst r s;have aY:=fO B;have hblk:bD j id (.arr k rows)=some b:=by simp [bD,z]
  have N:¬Own j (h.set id none) jl b:=by
   rintro (hm|⟨n,o,h1,O⟩)
   ·exact hl.2.apart b hm (.inr ⟨id,_,hi,hblk⟩)
   ·have c:n≠id:=fun c=>by subst c; rw [ah.bX] at h1; cases h1
    rw [ah.bP h _ c] at h1;exact c (hl.1.inj n o id _ b h1 hi O hblk)
  have hle:Le j w (j.er b (rows.length*k)) w:=⟨Nat.le_refl _,fun _ _=>rfl,fun f=>by
   simp only [J.er]
   split
   ·rename_i e; rw [e,H]; exact Nat.zero_le _
   ·exact Nat.le_refl _,fun _ _ _=>rfl,fun _ _=>.inl rfl⟩
  have u:∀f,f≠b->(j.er b (rows.length*k)).F f=j.F f:=fun f P=>by simp only [J.er]; rw [if_neg P]
  have C:=m.keep hle (fun f g=>⟨rfl,u f (fun e=>N (e▸g))⟩) (fun _ _ _=>rfl) (fun f y=>by rw [u f (by omega)]; exact hl.1.fresh f y);refine⟨j.er b (rows.length*k),C.1,{ toLe:=hle,size:=Nat.le_refl _,frame:=fun f _ g=>⟨rfl,u f fun e=>g (e▸.inr ⟨id,_,hi,hblk⟩)⟩,own:=fun f y g=>p.own f y ((C.2 f).1 g),os:=rfl,tape:=rfl,output:=fC.rfl }, ?_⟩;refine rN K q I (fun i x l=>?_) fun t ht=>by cases ht
  obtain⟨v,hv,hr⟩:=L.get l;have Q:i<rows.length*k:=by
   rcases Nat.lt_or_ge i (rows.length*k) with h|h
   ·exact h
   ·rw [List.getElem?_take,if_neg (by omega)] at hv; cases hv
  refine⟨by simp only [J.er,if_true]; omega,v, ?_,hr.mono hle⟩;rw [Nat.zero_add,cell_of_row w b i G ce (0,0) B];rw [List.getElem?_take,if_pos Q] at hv
  simpa using hv
variable {c:Code}{Q:Exit->St->Prop}{n:Nat}{ops:Array Oper}{rest:List Oper}{Q':St->Prop}
theorem dB.zP {j:J}{w:World}{jl:List Nat}{a:Act}(s id:Nat){k k' m:Nat}{nl:Bool}{rows:List (List D)}(g:get ts s=.a (.d (.arr k' id nl m))) (hi:h id=some (.arr k rows)) (hm:m=rows.length)
  (b:dB j w jl ⟨n,ts,ls,h⟩ a):∃j',dB j' w jl ⟨n,(s,.a (.d (.slice k none nl rows)))::ts,ls,h.set id none⟩ a/\bw j w (Own j h jl) j' w (Own j' (h.set id none) jl):=by
 have hv:aX j w jl (get ts s) (a.tmps.getD s undef):=b.tmps s;rw [g,hm] at hv;obtain⟨j',h1,f,l⟩:=HL.bu b.hl hi hv;refine⟨j',⟨b.defers,b.size,fun i=>?_,h1⟩,f⟩;by_cases e:s=i
 ·subst e;show aX _ _ _ (get ((s,_)::ts) s) _;rw [fD]; exact l
 ·show aX _ _ _ (get ((s,_)::ts) i) _;rw [eN _ _ e];exact(b.tmps i).mono f.toLe (Ext.refl _)
theorem ag.zP (s id:Nat){k k' m:Nat}{nl:Bool}{rows:List (List D)}(b:get ts s=.a (.d (.arr k' id nl m))) (hi:h id=some (.arr k rows)) (hm:m=rows.length)
  (hw:ag P c Q ⟨n,(s,.a (.d (.slice k none nl rows)))::ts,ls,h.set id none⟩):ag P c Q ⟨n,ts,ls,h⟩:=by
 intro j w jl a f;obtain⟨j',h1,g⟩:=dB.zP s id b hi hm f;exact wp_mono (hw j' w jl a h1) fun e a w hq=>AQ.trans g hq
theorem ag.NF (k:Nat) (hw:∀t,h t=none->ag P c Q ⟨n,ts,ls,h.set t (some (.arr k []))⟩):ag P c Q ⟨n,ts,ls,h⟩:=by
 intro j w jl a b;obtain⟨h1,f⟩:=b.hl.Nu k;have g:=b.hl.1.kQ (Nat.le_refl _);refine wp_mono (hw j.next g j.dQ w jl a ⟨b.defers,b.size,fun i=>(b.tmps i).mono f.toLe (Ext.refl _),h1⟩) fun e a w hq=>AQ.trans f hq
theorem NG {j:J}{w:World}{h:ah}{t k f k1:Nat}(hh:dJ j w h) (ht:h t=some (.arr k [])){cv:Value}(g:aB j w (.slice f none true []) cv):aB j w (.arr k1 t true 0) cv:=by
 cases g;obtain⟨h0,dP,h1,i,_⟩:=hh.obj _ _ ht;have l:=i.2 rfl;refine .arr _ _ _ _ _ _ h0 fun tk b=>?_;rw [h1] at b; simp only [Option.some.injEq] at b; subst b;exact⟨by simp,fun _=>.inl ⟨l,rfl,rfl⟩⟩
theorem ar.F2 {t e:TypeId}{b i:TI}{x ix:Operand}{j:IntKind}{z:Int}{k id m:Nat}{nl:Bool}{l:List α}{y:α}(o:aM P t=some b) (hk:b.k=.slice e) (p:aM P e=some i)
  (q:ev ts x=.a (.d (.arr k id nl m))) (hi:ev ts ix=.a (.d (.int j z))) (r:k=i.size) (hh:h id=some (.arr k (l.map f))) (hm:m=l.length) (hr:bV l z=some y) :
  ar P (mk dst (.indexAddr t x ix) ty pos aC g) ts ls h { rh:=true } (.a (.d (.eX id m (z.toNat*k)))) ls h:=by
 obtain⟨h1,s⟩:=FQ hr;exact ar.Nz o hk p q (by rw [hi,Int.toNat_of_nonneg h1]) r hh hm s
end
end Go.Ab
/-
 A function that lays one deferred call and returns: the deferred closure is called behind the body,then the results are read. No program text.
-/
namespace Go.Ab
open Go Go.RowKit
variable {ak:bf}
structure mV [bf] (P:Program) (f:FuncId) (args:List A) (h:ah) (Post:V->ah->Prop):Prop where
 enter:∀(cF:Array Value) (w:World),(callFunc f cF).run P w=.ok (.enter f cF) w
 runs:∀(j:J) (w:World) (cF:List Value),dJ j w h->aW (cM j w) args cF->∀u,CallsD P f cF.toArray u w fun e u' w'=>u'=u /\
  ∃r cv j' h',e=.returned cv/\Post r h'/\aX j' w' [] r cv/\dJ j' w' h'/\bw j w (Own j h []) j' w' (Own j' h' [])
theorem rS {j:J}{w:World}{h:ah}{fn:Func}{n:Nat}(hn:fn.ntmps=n){args:List A}{cF:List Value}(hl:Nat.ble args.length n=true) (hr:dJ j w h) (b:aW (cM j w) args cF) :
  dB j w [] ⟨n,mL 0 args,[],h⟩ { tmps:=cF.toArray++Array.replicate (fn.ntmps-cF.toArray.size) undef,defers:=[] }:=by
 subst hn;have hl:=Nat.le_of_ble_eq_true hl;have hlen:=b.length;refine⟨rfl,by simp; omega,fun t=>?_,⟨hr,⟨.nil,by simp,by simp⟩⟩⟩;refine zm (fun t=>(cF.toArray++Array.replicate (fn.ntmps-cF.toArray.size) undef).getD t undef) 0 args cF b (fun i v hv=>?_) t;rw [Nat.zero_add,Array.getD_eq_getD_getElem?,Array.getElem?_append];have:i<cF.length:=(List.getElem?_eq_some_iff.1 hv).1;simp [this]
 exact(List.getElem?_eq_some_iff.1 hv).2
theorem mV.of_wp {P:Program}{T:List TI}(ew:je P T){f:FuncId}{fn:Func}{c:Code}{args:List A}{h:ah}{Post:V->ah->Prop}(l:∀(cF:Array Value) (w:World),(callFunc f cF).run P w=.ok (.enter f cF) w) (m:P.funcs[f]?=some fn) (o:fn.body=some c){n:Nat}(hn:fn.ntmps=n){rs:List ResultVar}(p:fn.results.toList=rs) (hl:Nat.ble args.length n=true)
  (hw:ag P c (bz T rs Post) ⟨n,mL 0 args,[],h⟩):mV P f args h Post:=by
 refine⟨l,fun j w cF hr q u=>?_⟩;refine callsD_of_wp m o (wp_mono (hw j w [] _ (rS hn hl hr q)) ?_);rintro e G w' ⟨H,j',I,⟨he,xs,h',s,t,x⟩,b,y⟩;obtain⟨v,hv,z⟩:=wj (P:=P) ew b p s;obtain⟨B,C⟩:=b.hl.trim 0;obtain⟨E,F⟩:=B.forget t;have k:∃r cv g i,Ending.returned v=.returned cv/\Post r i/\aX g w' [] r cv/\dJ g w' i/\bw j w (Own j h []) g w' (Own g i []) :=
  ⟨iG xs,v,j',h',rfl,x,z,E.1,(y.trans C).trans F⟩
 rcases he with he|he<;>subst he
 ·exact⟨b.defers,v,hv,k⟩
 ·exact⟨b.defers,v,hv,k⟩
def fL [bf] (P:Program) (c Y:Code) (M:St->Prop) (σ:St):Prop :=
 ∀(f:Exit->Act->World->Prop) (j:J) (w:World) (jl:List Nat) (a:Act),dB j w jl σ a ->
  (∀b j' w' g i,M b->dB j' w' g b i->bw j w (Own j σ.h jl) j' w' (Own j' b.h g)->Y.wp P f i w')->c.wp P f a w
section
variable {P:Program}{M:St->Prop}{σ:St}{Y:Code}
theorem fL.done (h:M σ):fL P Y Y M σ:=fun _ _ _ _ _ b hk=>hk _ _ _ _ _ h b (bw.refl _ _ _)
theorem fL.ay {x y:Code}(h:∀K:St->Prop,(∀σ,fL P y Y M σ->K σ)->ag P x (kU K fun _ _=>False) σ):fL P (.seq x y) Y M σ:=by
 intro b j w jl a f hk;refine wp_seq (wp_mono (h (fL P y Y M) (fun _ h=>h) j w jl a f) ?_);rintro e g w' ⟨u,j',i,hq,k,l⟩;cases e with
 | normal=>exact hq b j' w' i g k fun m o p q a2 r s t=>hk m o p q a2 r s (l.trans t)
 | exit _=>exact hq.elim
 | goto _=>exact hq.elim
 | ret=>exact hq.elim
 | panic _=>exact hq.elim
 | outgrown=>exact hq.elim
theorem fL.rF {c:Code}{b:St}(hw:cw σ b) (h:fL P c Y M b):fL P c Y M σ:=by
 intro f j w jl a g hk;obtain⟨j',i,k,l⟩:=hw j w jl a g;exact h f j' w i a k fun m o p q a2 r s t=>hk m o p q a2 r s (l.trans t)
theorem fL.freeze {c:Code}{n:Nat}{ts:Ts}{ls:List (List D)}{h:ah}{ts':Ts}{aH:List (List D)}{xs:List D}(s i:Nat) (b:get ts s=.cV i 0) (hl:bA xs aH i ls) (hk:aS ts i ts') (hw:fL P c Y M ⟨n,(s,.a (.d (.view xs)))::ts',aH,h⟩):fL P c Y M ⟨n,ts,ls,h⟩ :=
 fL.rF (cw.freeze s i b hl hk) hw
end
def NH [bf] (P:Program) (T:List TI) (rs:List ResultVar) (g:FuncId) (bZ:List D) (Post:V->ah->Prop):Exit->St->Prop:=fun e σ =>
 (e=.normal\/e=.ret)/\mV P g (bZ.map .d) σ.h fun _ h'=>∃xs b,jf T { σ with h:=h' } rs=some xs/\(∀id o,b id=some o->h' id=some o)/\Post (iG xs) b
def NI [bf] (P:Program) (T:List TI) (rs:List ResultVar) (g:FuncId) (bZ:List Operand) (b:Nat) (Z:Code) (Post:V->ah->Prop):St->Prop:=fun σ =>
 ∃xs,rK σ.ts bZ=some xs/\Nat.blt b σ.n=true/\∀eP:d_,@ag _ eP P Z (NH P T rs g xs Post) ⟨σ.n,(b,.any)::σ.ts,σ.ls,σ.h⟩
theorem HL.called {j j':J}{w w':World}{jl:List Nat}{ls:List (List D)}{h h':ah}(hl:HL j w jl ls h) (hh:dJ j' w' h') (i:bw j w (Own j h []) j' w' (Own j' h' [])) :
  HL j' w' jl ls h'/\bw j w (Own j h jl) j' w' (Own j' h' jl):=by
 have k:∀b,b∈jl->b<w.heap.size:=fun b f=>Own.lt hl (.inl f);have l:∀b,b∈jl->w'.heap[b]?=w.heap[b]?/\j'.F b=j.F b:=fun b f=>i.frame b (k b f) (hl.2.apart b f);refine⟨⟨hh,⟨og hl.2.each fun xs b f h=>h.keep i.toLe (l b f),hl.2.nodup,fun b f g=>hl.2.apart b f (i.own b (k b f) g)⟩⟩, ?_⟩;refine { i with frame:=fun b f hn=>i.frame b f (fun g=>hn ?_),own:=fun b f g=>?_ }
 ·rcases g with g|g
  ·simp at g
  ·exact .inr g
 ·rcases g with g|g
  ·exact .inl g
  ·rcases i.own b f (.inr g) with h|h
   ·simp at h
   ·exact .inr h
theorem AC.NJ {P:Program}{T:List TI}(ew:je P T){f:FuncId}{fn:Func}{c:Code}{args:List A}{h:ah}{Post:V->ah->Prop}(U:∀(cF:Array Value) (w:World),(callFunc f cF).run P w=.ok (.enter f cF) w) (W:P.funcs[f]?=some fn) (X:fn.body=some c){n:Nat}(hn:fn.ntmps=n){rs:List ResultVar}(Y:fn.results.toList=rs) (hl:Nat.ble args.length n=true)
  {aa b:Nat}{g:FuncId}{bZ:Array Operand}{Z:Code}{C E:TypeId}{F G:String}{H I:Array Edge}{cN:Array TypeId}
  (hw:fL P c (.seq (.region aa #[⟨some b,.makeFunc (.func g) #[] bZ,C,F,H,none⟩,⟨none,.defer { callee:=.value (.tmp b),args:=#[],argTypes:=cN },E,G,I,none⟩] false) Z) (NI P T rs g bZ.toList b Z Post) ⟨n,mL 0 args,[],h⟩):AC P f args h Post:=by
 refine⟨U,fun j w cF hr ab=>?_⟩;refine calls_of_wp_defers W X (hw _ j w [] _ (rS hn hl hr ab) fun σ q l s a1 ad p ae=>?_);obtain⟨xs,m,J,af⟩:=ad;have L:=zy (j:=q) (w:=l) (jl:=s) (act:=a1) bZ.toList xs m fun x _=>mH p.tmps x;have ag:b<a1.tmps.size:=by rw [p.size]; simpa [Nat.blt_eq] using J
 have ai:a1.defers=[]:=p.defers;refine wp_seq (wp_region_lit ?_);refine wpList_step fun K aj=>?_;rw [if_pos (rA rfl)];unfold Oper.wp;have ak:(execOp a1.eval ⟨some b,.makeFunc (.func g) #[] bZ,C,F,H,none⟩).run P l=.ok (.value (.func (.func g) #[] (bZ.toList.map a1.eval).toArray)) l:=by
  simp [execOp,Instr.makeFunc]
  apply Array.ext'; simp
 rw [ak,Oper.upon_value];refine aj _ _ ?_;refine wpList_step fun aR al=>?_;rw [if_pos (rA rfl)];unfold Oper.wp;have am:(a1.put (some b) (.func (.func g) #[] (bZ.toList.map a1.eval).toArray)).eval (.tmp b)=.func (.func g) #[] (bZ.toList.map a1.eval).toArray:=by
  show (a1.put (some b) _).tmps.getD b undef=_;simp [Act.put,Array.getD_eq_getD_getElem?,ag]
 have an:(execOp (a1.put (some b) (.func (.func g) #[] (bZ.toList.map a1.eval).toArray)).eval ⟨none,.defer { callee:=.value (.tmp b),args:=#[],argTypes:=cN },E,G,I,none⟩).run P l=.ok (.defer { target:=.fn (.func g) (bZ.toList.map a1.eval).toArray,args:=#[] }) l:=by
  simp only [execOp,resolve,am,Deferred.ofValue,Sem.run_bind,Sem.run_pure,Result.andThen];simp
 rw [an,Oper.upon_defer];refine al _ _ ?_;show Code.wp P _ _ _ l;have t:=p.put (Le.refl q l) (Ext.refl s) (dst:=some b) (M2 J) (v:=.any) (cv:=.func (.func g) #[] (bZ.toList.map a1.eval).toArray) trivial p.hl;have ao:(a1.put (some b) (Value.func (.func g) #[] (bZ.toList.map a1.eval).toArray)).defers=[]:=by rw [put_defers]; exact ai
 have ap:=t.size;have aq:=t.tmps;have au:=t.hl
 let eP:d_:=⟨[{ target:=.fn (.func g) (bZ.toList.map a1.eval).toArray,args:=#[] }]⟩
 have av:=af eP;refine wp_mono (av q l s _ ⟨?_,ap,aq,au⟩) ?_
 ·show _::_=_;rw [ao]; rfl
 ·rintro e a4 M ⟨u,aw,ax,⟨he,N⟩,o,O⟩;have ay:a4.defers=[{ target:=.fn (.func g) (bZ.toList.map a1.eval).toArray,args:=#[] }]:=o.defers;have az:Leaves P fn a4.tmps (fun e w'=>∃r cv j' h',e=.returned cv/\Post r h'/\aX j' w' [] r cv/\dJ j' w' h'/\bw j w (Own j h []) j' w' (Own j' h' [])) a4.defers .returning M:=by
   rw [ay];refine leaves_cons (f:=g) (args:=(bZ.toList.map a1.eval).toArray) (by simp) (by rw [invoke,Array.empty_append]; exact N.enter _ _) ?_;refine(N.runs aw M _ o.hl.1 (aW.kO (by rw [List.length_map]; exact L.length) fun i x y m aA=>?_) .returning).mono ?_
   ·rw [List.getElem?_map] at m;cases e:xs[i]? with
    | none=>rw [e] at m; simp at m
    | some z =>
     rw [e] at m; simp at m; subst m;obtain⟨aT,B,hr⟩:=L.get e;rw [aA] at B;simp only [Option.some.injEq] at B;subst B;exact hr.mono O.toLe
   ·rintro aU aV aB ⟨rfl,r,cv,Q,aC,rfl,⟨aD,aE,aF,aG,aH⟩,hv,hh,R⟩;obtain⟨S,aJ⟩:=o.hl.called hh R;have aK:@dB eP Q aB ax ⟨u.n,u.ts,u.ls,aC⟩ a4:=⟨o.defers,o.size,fun k=>(o.tmps k).mono R.toLe (Ext.refl _),S⟩;obtain⟨v,aL,aM⟩:=wj (P:=P) ew aK Y aF;obtain⟨aN,aO⟩:=S.trim 0;obtain⟨aP,aQ⟩:=aN.forget aG;exact⟨v,aL,iG aD,v,Q,aE,rfl,aH,aM,aP.1,((((ae.trans O).trans aJ).trans aO).trans aQ)⟩
  rcases he with he|he<;>subst he<;>exact az
end Go.Ab
namespace Go.Ab
open Go Go.RowKit
variable {ak:bf}
def V.shift (i:Nat):V->V
 | .cV q off=>bif Nat.beq q i then .any else bif Nat.blt i q then .cV (q-1) off else .cV q off
 | .gr c q off=>bif Nat.beq q i then .any else bif Nat.blt i q then .gr c (q-1) off else .gr c q off
 | v=>v
def ql (i:Nat):Ts->Ts
 | []=>[]
 | (k,v)::r=>(k,v.shift i)::ql i r
theorem F3 (i:Nat):∀(ts:Ts) (k:Nat),get (ql i ts) k=(get ts k).shift i
 | [],_=>rfl
 | (k',v)::r,k=>by
  simp only [ql];by_cases e:k'=k
  ·subst e; rw [fD,fD]
  ·rw [eN _ _ e,eN _ _ e,F3 i r k]
theorem get_erase {α:Type}{l:List α}{i a:Nat}(h:a≠i):(l.eraseIdx i)[if i<a then a-1 else a]?=l[a]?:=by
 rw [List.getElem?_eraseIdx];by_cases c:i<a
 ·rw [if_pos c,if_neg (by omega)]; congr 1; omega
 ·rw [if_neg c,if_pos (by omega)]
theorem NK {α β:Type}{R:α->β->Prop}{l:List α}{m:List β}(h:aW R l m):∀(i:Nat),aW R (l.eraseIdx i) (m.eraseIdx i):=by
 induction h with
 | nil=>intro i; exact .nil
 | cons x t b =>
  intro i;cases i with
  | zero=>exact t
  | succ i=>exact .cons x (b i)
theorem V.NL (i q off:Nat):V.shift i (.cV q off)=bif Nat.beq q i then .any else .cV (if i<q then q-1 else q) off:=by
 show (bif Nat.beq q i then V.any else bif Nat.blt i q then .cV (q-1) off else .cV q off)=_;cases c:Nat.blt i q
 ·rw [if_neg (fun h=>by rw [show Nat.blt i q=true by simpa [Nat.blt_eq] using h] at c; cases c)]; rfl
 ·rw [if_pos (by simpa [Nat.blt_eq] using c)]; rfl
theorem V.NM (i:Nat) (g:Bool) (q off:Nat):V.shift i (.gr g q off)=bif Nat.beq q i then .any else .gr g (if i<q then q-1 else q) off:=by
 show (bif Nat.beq q i then V.any else bif Nat.blt i q then .gr g (q-1) off else .gr g q off)=_;cases c:Nat.blt i q
 ·rw [if_neg (fun h=>by rw [show Nat.blt i q=true by simpa [Nat.blt_eq] using h] at c; cases c)]; rfl
 ·rw [if_pos (by simpa [Nat.blt_eq] using c)]; rfl
theorem aX.shift {j:J}{w:World}{jl:List Nat}{i:Nat}{v:V}{cv:Value}(h:aX j w jl v cv):aX j w (jl.eraseIdx i) (v.shift i) cv:=by
 cases v with
 | cV q off =>
  rw [V.NL];cases c1:Nat.beq q i
  ·obtain⟨b,f,e⟩:=h;exact⟨b,by rw [get_erase (Nat.ne_of_beq_eq_false c1)]; exact f,e⟩
  ·exact True.intro
 | gr c q off =>
  rw [V.NM];cases c1:Nat.beq q i
  ·refine⟨fun hc=>?_,h.2⟩;obtain⟨b,f,e⟩:=h.1 hc;exact⟨b,by rw [get_erase (Nat.ne_of_beq_eq_false c1)]; exact f,e⟩
  ·exact True.intro
 | any=>exact True.intro
 | a x=>exact h
 | cS xs=>exact h
 | gd c x=>exact h
 | full k rows=>exact h
 | oe c k rows=>exact h
theorem cw.zQ {eP:d_}{n:Nat}{ts:Ts}{ls:List (List D)}{h:ah}{xs:List D}(s i:Nat) (z:get ts s=.cV i 0) (B:ls[i]?=some xs) :
  cw ⟨n,ts,ls,h⟩ ⟨n,(s,.a (.d (.view xs)))::ql i ts,ls.eraseIdx i,h⟩:=by
 intro j w jl a p;have g:=p.hl;obtain⟨b,m,C⟩:∃b,jl[i]?=some b/\a.tmps.getD s undef=.pointer (some ⟨b,0,none⟩):=by
  have:=p.tmps s;have this:aX j w jl (get ts s) (a.tmps.getD s undef):=this;rw [z] at this; exact this
 obtain⟨xs',r,cs,P,v,E,G⟩:∃xs',ls[i]?=some xs'/\jL j w b xs':=g.2.each.get' m;rw [B] at r; simp only [Option.some.injEq] at r; subst r;have aY:=fO v;have H:b∉jl.eraseIdx i:=by
  intro hm;obtain⟨k,I,q⟩:=List.getElem_of_mem hm;have h0:(jl.eraseIdx i)[k]?=some b:=by rw [List.getElem?_eq_getElem I,q]
  rw [List.getElem?_eraseIdx] at h0;have hi:i<jl.length:=(List.getElem?_eq_some_iff.1 m).1;by_cases c:k<i
  ·rw [if_pos c] at h0;have t:=(List.getElem?_inj (by omega) g.2.nodup).1 (h0.trans m.symm);omega
  ·rw [if_neg c] at h0;have hk:k+1<jl.length:=(List.getElem?_eq_some_iff.1 h0).1;have t:=(List.getElem?_inj hk g.2.nodup).1 (h0.trans m.symm);omega
 have y:∀x,x∈jl.eraseIdx i->x∈jl:=fun x hm=>List.mem_of_mem_eraseIdx hm;have K:∀x,Own j h (jl.eraseIdx i) x->Own j h jl x:=fun x l=>l.elim (fun hm=>.inl (y x hm)) .inr;have L:¬Own j h (jl.eraseIdx i) b:=by
  rintro (hm|⟨id,o,h1,t⟩)
  ·exact H hm
  ·exact g.2.apart b (List.mem_of_getElem? m) (.inr ⟨id,o,h1,t⟩)
 have M:HL j w (jl.eraseIdx i) (ls.eraseIdx i) h:=⟨g.1,⟨NK g.2.each i,g.2.nodup.eraseIdx i,fun x hm l=>g.2.apart x (y x hm) l⟩⟩;have hle:Le j w (j.er b xs.length) w:=⟨Nat.le_refl _,fun _ _=>rfl,fun f=>by
  simp only [J.er]
  split
  ·rename_i e; rw [e,G]; exact Nat.zero_le _
  ·exact Nat.le_refl _,fun _ _ _=>rfl,fun _ _=>.inl rfl⟩
 have u:∀f,f≠b->(j.er b xs.length).F f=j.F f:=fun f N=>by simp only [J.er]; rw [if_neg N]
 have q:=M.keep hle (fun f l=>⟨rfl,u f (fun e=>L (e▸l))⟩) (fun _ _ _=>rfl) (fun f O=>by rw [u f (by omega)]; exact g.1.fresh f O);refine⟨j.er b xs.length,jl.eraseIdx i,⟨p.defers,p.size,fun k=>?_,q.1⟩, ?_⟩
 ·by_cases e:s=k
  ·subst e;show aX _ _ _ (get ((s,_)::ql i ts) s) _;rw [fD,C];exact zI (n:=0) v (E.imp fun _ _ h=>h.mono hle) (by simp [J.er])
  ·show aX _ _ _ (get ((s,_)::ql i ts) k) _;rw [eN _ _ e,F3];have hv:aX j w jl (get ts k) (a.tmps.getD k undef):=p.tmps k;exact(hv.shift (i:=i)).mono hle (Ext.refl _)
 ·refine { toLe:=hle,size:=Nat.le_refl _,frame:=fun f _ l=>⟨rfl,u f fun e=>l (.inl (e▸List.mem_of_getElem? m))⟩,own:=fun f _ l=>K f ((q.2 f).1 l),os:=rfl,tape:=rfl,output:=fC.rfl }
theorem ag.zQ {eP:d_}{P:Program}{c:Code}{Q:Exit->St->Prop}{n:Nat}{ts:Ts}{ls:List (List D)}{h:ah}{xs:List D}(s i:Nat) (b:get ts s=.cV i 0) (f:ls[i]?=some xs)
  (hw:ag P c Q ⟨n,(s,.a (.d (.view xs)))::ql i ts,ls.eraseIdx i,h⟩):ag P c Q ⟨n,ts,ls,h⟩:=ag.rF (cw.zQ s i b f) hw
theorem ag.NN {eP:d_}{P:Program}{Q:Exit->St->Prop}{n:Nat}{iu ts:Ts}{ls:List (List D)}{h:ah}{α:Type}{x y:Code}(_:dY iu ts) (over:α->Ts) (lo:α->List (List D)) (hh:α->ah) (pre:α->Prop)
  (f:∀K:St->Prop,(∀b y,cw b ⟨n,over y++ts,lo y,hh y⟩->pre y->K b)->(∀b,ag P y Q b->K b)->ag P x (kU K Q) ⟨n,iu,ls,h⟩) (g:∀z,pre z->ag P y Q ⟨n,over z++ts,lo z,hh z⟩):ag P (.seq x y) Q ⟨n,iu,ls,h⟩:=by
 exact ag.seq (f (ag P y Q) (fun b z h1 i=>ag.rF h1 (g z i)) fun b h=>h)
end Go.Ab
namespace Go.Ab
variable {ak:bf}
theorem mV.mono {P:Go.Program}{f:Go.FuncId}{args:List A}{h:ah}{Post b:V->ah->Prop}(hc:mV P f args h Post) (g:∀r h',Post r h'->b r h'):mV P f args h b :=
 ⟨hc.enter,fun j w cF hr i u=>(hc.runs j w cF hr i u).mono fun _ _ _ ⟨k,r,cv,j',h',e,p,rest⟩=>⟨k,r,cv,j',h',e,g r h' p,rest⟩⟩
theorem fL.eS {P:Go.Program}{M:St->Prop}{c Y:Go.Code}{n:Nat}{ts:Ts}{ls:List (List D)}{h h':ah}(e:h=h') (hw:fL P c Y M ⟨n,ts,ls,h'⟩):fL P c Y M ⟨n,ts,ls,h⟩:=by subst e; exact hw
end Go.Ab
/-
 Arrays that are built at once and then only read.
-/
namespace Go.Ab
open Go Go.RowKit
variable {ak:bf}
section
variable {P:Program}{T:List TI}{ts:Ts}{ls:List (List D)}{h:ah}{dst:Option Tmp}{ty:TypeId}{pos:String}{aC:Array Edge}{g:Option (Nat×Bool)}
end
end Go.Ab
/-
 Scopes: code that no jump leaves.
-/
namespace Go.Ab
open Go Go.RowKit
variable {ak:bf}
def F4 (Q:Exit->St->Prop):Exit->St->Prop
 | .goto _,_=>False
 | e,σ=>Q e σ
theorem ag.scope [d_] {P:Program}{Q:Exit->St->Prop}{σ:St}{c:Code}(h:ag P c (F4 Q) σ):ag P (.scope c) Q σ:=fun j w jl a b =>
 wp_scope_straight (wp_mono (h j w jl a b) fun e g w' hq=>by
  cases e with
  | goto l=>obtain⟨_,_,_,f,_⟩:=hq; exact f.elim
  | normal=>exact hq
  | exit id=>exact hq
  | ret=>exact hq
  | panic i=>exact hq
  | outgrown=>exact hq)
theorem NO {Q:Exit->St->Prop}{σ:St}(h:Q .ret σ):F4 Q .ret σ:=h
end Go.Ab
/-
 Ranging over a set of strings: the map as it is,the iterator,its steps,delete.
-/
namespace Go.Ab
open Go Go.RowKit
variable {ak:bf}{eP:d_}
def mE (p:List (List UInt8×Nat)):List MapEntry:=p.map fun x=>⟨.string ⟨x.1.toArray⟩,.bool true,x.2⟩
structure mW (l:List (List UInt8)) (p:List (List UInt8×Nat)) (bq:Nat):Prop where
 keys:p.map (·.1)=l
 nodup:(p.map (·.2)).Nodup
 wD:l.Nodup
 lt:∀x∈p,x.2<bq
 len:∀s∈l,s.length<=eF
theorem F5 {p:List (List UInt8×Nat)}(h:((mE p).map (·.key)).Nodup):(p.map (·.1)).Nodup:=by
 have:(mE p).map (·.key)=(p.map (·.1)).map fun s=>Value.string ⟨s.toArray⟩:=by simp [mE,Function.comp_def]
 rw [this] at h;rw [List.nodup_iff_pairwise_ne,List.pairwise_map] at h;rw [List.nodup_iff_pairwise_ne];exact h.imp fun b e=>b (by rw [e])
theorem nodup_keys {p:List (List UInt8×Nat)}(h:(p.map (·.1)).Nodup):((mE p).map (·.key)).Nodup:=by
 have:(mE p).map (·.key)=(p.map (·.1)).map fun s=>Value.string ⟨s.toArray⟩:=by simp [mE,Function.comp_def]
 rw [this];rw [List.nodup_iff_pairwise_ne] at h ⊢;rw [List.pairwise_map];exact h.imp fun b e=>b (by
  have e:=Value.string.inj e
  simpa using e)
theorem zR {j:J}{w:World}:∀{l:List (List UInt8)}{f:List MapEntry},aW (jb j w) (dZ l) f->∃p,f=mE p/\p.map (·.1)=l/\∀s∈l,s.length<=eF
 | [],f,h=>by cases h; exact⟨[],rfl,rfl,fun _ h=>by cases h⟩
 | s::l,f,h=>by
  cases h with
  | @cons _ m _ f h t =>
   obtain⟨p,g,i,o⟩:=zR (l:=l) t;obtain⟨k,v,b⟩:=m;obtain⟨hk,hv⟩:=h;have hk:aB j w (.str s) k:=hk;have hv:aB j w (.bool true) v:=hv;cases hk with
   | str _ q =>
    cases hv;exact⟨(s,b)::p,by rw [g]; rfl,by simp [i],fun x r=>(List.mem_cons.1 r).elim (fun e=>e▸q) (o x)⟩
theorem zS {j:J}{w:World}:∀(p:List (List UInt8×Nat)),(∀x∈p,x.1.length<=eF)->aW (jb j w) (dZ (p.map (·.1))) (mE p)
 | [],_=>.nil
 | x::p,h=>.cons ⟨aB.str _ (h x (.head _)),aB.bool _⟩ (zS p fun y b=>h y (.tail _ b))
theorem Own.qm {j:J}{h:ah}{c:Nat}{o o':Obj}(hc:h c=some o) (g:bD j c o'=bD j c o){jl:List Nat}{b:Nat}:Own j (h.set c (some o')) jl b↔Own j h jl b:=by
 constructor
 ·rintro (h1|⟨id,q,h1,f⟩)
  ·exact .inl h1
  ·by_cases e:id=c
   ·subst e; rw [ah.bX] at h1; simp only [Option.some.injEq] at h1; subst h1;exact .inr ⟨id,_,hc,g▸f⟩
   ·rw [ah.bP _ _ e] at h1; exact .inr ⟨id,q,h1,f⟩
 ·rintro (h1|⟨id,q,h1,f⟩)
  ·exact .inl h1
  ·by_cases e:id=c
   ·subst e; rw [hc] at h1; simp only [Option.some.injEq] at h1; subst h1;exact .inr ⟨id,_,ah.bX _ _ _,g.symm▸f⟩
   ·exact .inr ⟨id,q,by rw [ah.bP _ _ e]; exact h1,f⟩
theorem dJ.qm {j:J}{w:World}{h:ah}{c:Nat}{o o':Obj}(hr:dJ j w h) (hc:h c=some o) (g:bD j c o'=bD j c o) (i:fq j w c o'):dJ j w (h.set c (some o')):=by
 have key:∀id q,(h.set c (some o')) id=some q->∃f,h id=some f/\bD j id q=bD j id f:=by
  intro id q hq;by_cases e:id=c
  ·subst e; rw [ah.bX] at hq; simp only [Option.some.injEq] at hq; subst hq;exact⟨_,hc,g⟩
  ·rw [ah.bP _ _ e] at hq; exact⟨q,hq,rfl⟩
 refine⟨fun id q hq=>?_,fun gL o1 gM o2 b h1 k l m=>?_,hr.fresh⟩
 ·by_cases e:id=c
  ·subst e; rw [ah.bX] at hq; simp only [Option.some.injEq] at hq; subst hq;exact⟨(hr.obj _ _ hc).1,i⟩
  ·rw [ah.bP _ _ e] at hq; exact hr.obj _ _ hq
 ·obtain⟨u,p,r⟩:=key _ _ h1;obtain⟨v,s,t⟩:=key _ _ k;exact hr.inj _ _ _ _ b p s (r▸l) (t▸m)
section
variable {P:Program}{c:Code}{Q:Exit->St->Prop}{n:Nat}{ts:Ts}{ls:List (List D)}{h:ah}
theorem ag.NQ (id:Nat){l:List (List UInt8)}(hi:h id=some (.map (dZ l))) (hw:∀b p bq,mW l p bq->ag P c Q ⟨n,ts,ls,h.set id (some (.dS b (.map (mE p).toArray bq)))⟩):ag P c Q ⟨n,ts,ls,h⟩:=by
 intro j w jl a f;have hl:=f.hl;obtain⟨hn,b,m,y,bq,i,o,q,r,hB⟩:=hl.1.obj id _ hi;obtain⟨p,rfl,k,s⟩:=zR q;have t:mW l p bq:=⟨k,by have:=hB.1; simpa [mE,Function.comp_def] using this,by rw [<- k]; exact F5 hB.2.2,fun x u=>hB.2.1 _ (List.mem_map_of_mem u),s⟩;have hblk:bD j id (.dS b (.map (mE p).toArray bq))=bD j id (.map (dZ l)):=by simp [bD,i]
 refine wp_mono (hw b p bq t j w jl a ⟨f.defers,f.size,f.tmps,⟨hl.1.qm hi hblk ⟨m,i,o,r⟩,⟨hl.2.each,hl.2.nodup,fun b v g=>hl.2.apart b v ((Own.qm hi hblk).1 g)⟩⟩⟩) fun e a w hq=>AQ.trans ?_ hq;exact { bw.refl j _ (Own j h jl) with own:=fun b _ g=>(Own.qm hi hblk).1 g }
theorem ag.NR (id:Nat){b bq:Nat}{p:List (List UInt8×Nat)}(hi:h id=some (.dS b (.map (mE p).toArray bq))) (f:mW (p.map (·.1)) p bq) (hw:ag P c Q ⟨n,ts,ls,h.set id (some (.map (dZ (p.map (·.1)))))⟩):ag P c Q ⟨n,ts,ls,h⟩:=by
 intro j w jl a g;have hl:=g.hl;obtain⟨hn,o,l,q,r⟩:=hl.1.obj id _ hi;have hblk:bD j id (.map (dZ (p.map (·.1))))=bD j id (.dS b (.map (mE p).toArray bq)):=by simp [bD,l]
 have hB:kP (mE p) bq:=⟨by have:=f.nodup; simpa [mE,Function.comp_def] using this,(fun m hm=>by obtain⟨x,i,rfl⟩:=List.mem_map.1 hm; exact f.lt x i),nodup_keys f.wD⟩;refine wp_mono (hw j w jl a ⟨g.defers,g.size,g.tmps,⟨hl.1.qm hi hblk ⟨b,o,_,bq,l,q,zS p (fun x i=>f.len _ (List.mem_map_of_mem i)),r,hB⟩,⟨hl.2.each,hl.2.nodup,fun b s k=>hl.2.apart b s ((Own.qm hi hblk).1 k)⟩⟩⟩) fun e a w hq=>AQ.trans ?_ hq
 exact { bw.refl j _ (Own j h jl) with own:=fun b _ k=>(Own.qm hi hblk).1 k }
end
theorem HL.NS {j:J}{w:World}{jl:List Nat}{ls:List (List D)}{h:ah}(hl:HL j w jl ls h){t k:Nat}(ht:h t=some (.tok k 0)) (go:Go.Obj) :
  HL (j.cr t ⟨some (w.heap.size,0),1⟩ w.heap.size 0) (w.alloc go) jl ls (h.set t (some (.dS w.heap.size go))) /\
   bw j w (Own j h jl) (j.cr t ⟨some (w.heap.size,0),1⟩ w.heap.size 0) (w.alloc go) (Own (j.cr t ⟨some (w.heap.size,0),1⟩ w.heap.size 0) (h.set t (some (.dS w.heap.size go))) jl) /\
   aX (j.cr t ⟨some (w.heap.size,0),1⟩ w.heap.size 0) (w.alloc go) jl (.a (.d (.eX t 1 0))) (.pointer (some ⟨w.heap.size,0,none⟩)):=by
 obtain⟨H,dP,N,hblk,_⟩:=hl.1.obj t _ ht;have I:j.F w.heap.size=0:=hl.1.fresh _ (Nat.le_refl _);have s:∀x,x<w.heap.size->(w.alloc go).heap[x]?=w.heap[x]?:=fun x b=>pZ b;generalize l:j.cr t ⟨some (w.heap.size,0),1⟩ w.heap.size 0=j';have g:∀x,j'.F x=j.F x:=fun x=>by
  subst l; simp only [J.cr]; split
  ·rename_i c; rw [c,I]
  ·rfl
 have B:j'.next=j.next:=by subst l; rfl
 have C:j'.tok t=some ⟨some (w.heap.size,0),1⟩:=by subst l; simp [J.cr]
 have K:∀x,x≠t->j'.tok x=j.tok x:=fun x b=>by subst l; simp [J.cr,b]
 have hle:Le j w j' (w.alloc go):=by
  refine⟨by rw [B]; exact Nat.le_refl _,fun _ _=>by subst l; rfl,fun x=>by rw [g]; exact Nat.le_refl _,fun x o m=>?_,fun x b=>?_⟩
  ·refine p7 (s x ?_);rcases Nat.lt_or_ge x w.heap.size with h1|h1
   ·exact h1
   ·rw [hl.1.fresh x h1] at m; omega
  ·by_cases c:x=t
   ·subst c; exact .inr ⟨_,_,N,C,Nat.zero_lt_one⟩
   ·exact .inl (K x c)
 have E:∀n q x,h n=some q->bD j n q=some x->x<w.heap.size:=fun n q x hn b=>Own.lt hl (.inr ⟨n,q,hn,b⟩);have L:∀x,x∈jl->x<w.heap.size:=fun x b=>Own.lt hl (.inl b);have i:∀n q,h n=some q->n≠t->fq j' (w.alloc go) n q/\bD j' n q=bD j n q:=fun n q hn O =>
  (hl.1.obj n q hn).2.keep hle (hl.1.obj n q hn).1 (fun x b=>⟨s x (E n q x hn b),g x⟩) (fun _=>K n O)
 have G:bD j' t (.dS w.heap.size go)=some w.heap.size:=rfl;have M:∀jl x,Own j' (h.set t (some (.dS w.heap.size go))) jl x->x=w.heap.size\/Own j h jl x:=by
  rintro jl x (b|⟨n,q,hn,b⟩)
  ·exact .inr (.inl b)
  ·by_cases c:n=t
   ·subst c; rw [ah.bX] at hn; simp only [Option.some.injEq] at hn; subst hn;rw [G] at b; simp only [Option.some.injEq] at b; exact .inl b.symm
   ·rw [ah.bP h _ c] at hn;exact .inr (.inr ⟨n,q,hn,(i n q hn c).2▸b⟩)
 refine⟨⟨⟨fun n q hn=>?_,fun p u r v x h1 f y z=>?_,fun x b=>?_⟩,
  ⟨og hl.2.each fun xs x b h=>h.keep hle ⟨s x (L x b),g x⟩,hl.2.nodup,fun x b m=>?_⟩⟩, ?_, ?_⟩
 ·rw [B];by_cases c:n=t
  ·subst c; rw [ah.bX] at hn; simp only [Option.some.injEq] at hn; subst hn;exact⟨H,0,C,heap_alloc_new w _,by rw [g]; exact I⟩
  ·rw [ah.bP h _ c] at hn;exact⟨(hl.1.obj n q hn).1,(i n q hn c).1⟩
 ·by_cases c1:p=t<;>by_cases c2:r=t
  ·omega
  ·subst c1; rw [ah.bX] at h1; simp only [Option.some.injEq] at h1; subst h1;rw [ah.bP h _ c2] at f;rw [G] at y; simp only [Option.some.injEq] at y;have:=E r v x f ((i r v f c2).2▸z); omega
  ·subst c2; rw [ah.bX] at f; simp only [Option.some.injEq] at f; subst f;rw [ah.bP h _ c1] at h1;rw [G] at z; simp only [Option.some.injEq] at z;have:=E p u x h1 ((i p u h1 c1).2▸y); omega
  ·rw [ah.bP h _ c1] at h1; rw [ah.bP h _ c2] at f;exact hl.1.inj p u r v x h1 f ((i p u h1 c1).2▸y) ((i r v f c2).2▸z)
 ·rw [g];simp only [World.size_alloc] at b;exact hl.1.fresh x (by omega)
 ·rcases M [] x m with c|c
  ·have:=L x b; omega
  ·exact hl.2.apart x b c
 ·refine { toLe:=hle,size:=(by simp),frame:=fun x b hn=>⟨s x b,g x⟩,own:=fun x b m=>?_,os:=rfl,tape:=rfl,output:=fC.rfl };rcases M jl x m with c|c
  ·omega
  ·exact c
 ·show aB j' (w.alloc go) (.eX t 1 0) (.pointer (some ⟨w.heap.size,0,none⟩));refine .eX t 1 0 w.heap.size (by rw [B]; exact H) fun tk hk=>?_;rw [C] at hk;obtain rfl:=Option.some.inj hk;exact⟨Nat.le_refl _,fun _=>⟨0,rfl⟩⟩
theorem F6 {j:J}{w:World}{jl:List Nat}{id b:Nat}{o:Go.Obj}{cv:Value}(g:fq j w id (.dS b o)) (h:aX j w jl (.a (.d (.map id))) cv):cv=.map (some b)/\w.heap[b]?=some o/\j.F b=0:=by
 have h':aB j w (.map id) cv:=h;obtain⟨c,h1,i,k⟩:=g;cases h' with
 | map _ m hi hv =>
  obtain⟨_,l⟩:=hv _ h1;obtain⟨c',f⟩:=l rfl;simp only [Option.some.injEq,Prod.mk.injEq] at f;obtain⟨rfl,rfl⟩:=f;exact⟨rfl,i,k⟩
theorem F7 {j:J}{w:World}{jl:List Nat}{id b:Nat}{o:Go.Obj}{cv:Value}(g:fq j w id (.dS b o)) (h:aX j w jl (.a (.d (.eX id 1 0))) cv):cv=.pointer (some ⟨b,0,none⟩)/\w.heap[b]?=some o/\j.F b=0:=by
 have h':aB j w (.eX id 1 0) cv:=h;obtain⟨c,h1,i,k⟩:=g;cases h' with
 | eX _ _ _ m hi hv =>
  obtain⟨_,l⟩:=hv _ h1;obtain⟨c',f⟩:=l rfl;simp only [Option.some.injEq,Prod.mk.injEq] at f;obtain⟨rfl,rfl⟩:=f;exact⟨rfl,i,k⟩
section
variable {P:Program}{ts:Ts}{ls:List (List D)}{h:ah}{dst:Option Tmp}{ty:TypeId}{pos:String}{aC:Array Edge}{g:Option (Nat×Bool)}
theorem dW.NT {t f i:TypeId}{l:TI}{x:Operand}{id b bq:Nat}{es:Array MapEntry}(m:aM P t=some l) (hk:l.k=.map f i) (o:ev ts x=.a (.d (.map id))) (hm:h id=some (.dS b (.map es bq))) :
  dW P (mk dst (.range t x) ty pos aC g) ts ls h fun v aH h'=>∃it r,h it=none/\v=.a (.d (.eX it 1 0))/\aH=ls/\h'=h.set it (some (.dS r (.mapIter (some b) bq #[] bq))):=by
 intro j w jl a hl p K Q q;have h1:=p x (by simp [Op.operands]);rw [o] at h1;obtain⟨e,s,_⟩:=F6 (hl.1.obj id _ hm).2 h1;have hr:(execOp a.eval (mk dst (.range t x) ty pos aC g)).run P w=.ok (.value (.pointer (some ⟨w.heap.size,0,none⟩))) (w.alloc (.mapIter (some b) bq #[] bq)):=by
  simp [execOp,e,run_range_map w t f i b es bq (qf m hk) s,Result.andThen]
 obtain⟨h1,u⟩:=hl.dQ 0;obtain⟨y,z,B⟩:=h1.NS (ah.bX _ _ _) (.mapIter (some b) bq #[] bq);unfold Oper.wp;rw [hr,Oper.upon_value];exact q _ _ _ _ _ _ jl ⟨j.next,w.heap.size,hl.1.kQ (Nat.le_refl _),rfl,rfl,(ah.set_set _ _ _ _)⟩ B y (Ext.refl _) (u.trans z)
def dI (p:List (List UInt8×Nat)) (seen:Array Nat):List (List UInt8×Nat):=p.filter fun x=>!seen.contains x.2
theorem F8 (p:List (List UInt8×Nat)) (seen:Array Nat):(mE p).toArray.filter (fun e=>!seen.contains e.born)=(mE (dI p seen)).toArray:=by
 apply Array.toList_inj.1
 simp [mE,dI,List.filter_map,Function.comp_def]
theorem dW.NU {it id b r bq:Nat}{x:Operand}{p:List (List UInt8×Nat)}{seen:Array Nat}(M:ev ts x=.a (.d (.eX it 1 0))) (hit:h it=some (.dS r (.mapIter (some b) bq seen bq))) (hm:h id=some (.dS b (.map (mE p).toArray bq))) (aY:∀x∈p,x.2<bq) (hlen:∀x∈p,x.1.length<=eF) :
  dW P (mk dst (.next x false) ty pos aC g) ts ls h fun v aH h'=>aH=ls/\((dI p seen=[]/\v=.cS [.d (.bool false)]/\h'=h) \/
   ∃s n,(s,n)∈dI p seen/\v=.cS [.d (.bool true),.d (.str s),.d (.bool true)]/\h'=h.set it (some (.dS r (.mapIter (some b) bq (seen.push n) bq)))):=by
 intro j w jl a hl N K Q u;have h1:=N x (by simp [Op.operands]);rw [M] at h1;obtain⟨e,m,B⟩:=F7 (hl.1.obj it _ hit).2 h1;have C:w.heap[b]?=some (.map (mE p).toArray bq):=by obtain⟨_,_,_,O,_⟩:=hl.1.obj id _ hm; exact O
 have hold:∀x∈(mE p).toArray.toList,x.born<bq:=fun y f=>by
  have f:y∈mE p:=by simpa using f
  obtain⟨z,l,rfl⟩:=List.mem_map.1 f;exact aY z l
 have o:∀y∈dI p seen,y∈p:=fun y f=>(List.mem_filter.1 f).1;have E:(mE (dI p seen)).toArray.filter (fun x=>decide (x.born<bq))=(mE (dI p seen)).toArray:=Array.filter_eq_self.2 (fun y f=>by
  have f:y∈mE (dI p seen):=by simpa using f
  obtain⟨z,l,rfl⟩:=List.mem_map.1 f
  simpa using aY z (o z l))
 have F:(mE (dI p seen)).toArray.filter (fun x=>decide (x.born>=bq))=#[]:=by
  rw [Array.filter_eq_empty_iff];intro y f;have f:y∈mE (dI p seen):=by simpa using f
  obtain⟨z,l,rfl⟩:=List.mem_map.1 f;have:=aY z (o z l);simp;omega
 by_cases h0:dI p seen=[]
 ·have hr:(execOp a.eval (mk dst (.next x false) ty pos aC g)).run P w=.ok (.value (.tuple #[.bool false])) w:=by
   simp only [execOp,e,Instr.next,getObj,Sem.run_bind,Sem.run,m,C,Result.andThen,next_test_false seen _ bq bq hold (Nat.le_refl _),Bool.false_eq_true,if_false,F8,E,F,Array.append_empty,h0];simp [mE,choose,Sem.run,Question.forced,Result.andThen]
  unfold Oper.wp;rw [hr,Oper.upon_value];exact u _ _ _ _ _ _ jl ⟨rfl,.inl ⟨h0,rfl,rfl⟩⟩ ⟨[.bool false],rfl,.cons (aB.bool _) .nil⟩ hl (Ext.refl _) (bw.refl _ _ _)
 ·obtain⟨i,k,hi,G,R⟩:∃(i:Nat) (k:World),i<(dI p seen).length/\(k=w\/k=w.drew)/\(choose (Question.mapNext (dI p seen).length)).run P w=.ok i k:=by
   by_cases H:(dI p seen).length<=1
   ·exact⟨0,w,by have:=List.length_pos_iff.2 h0; omega,.inl rfl,by simp [choose,Sem.run,Question.forced,H]⟩
   ·exact⟨_,w.drew,Nat.mod_lt _ (by omega),.inr rfl,by
     simp only [choose,Sem.run,Question.forced,decide_eq_true_eq,H,if_false,Question.cut];rfl⟩
  have t:HL j k jl ls h/\bw j w (Own j h jl) j k (Own j h jl):=by
   rcases G with rfl|rfl
   ·exact⟨hl,bw.refl _ _ _⟩
   ·exact⟨hl.drew,bw.drew _ _ _⟩
  have I:k.heap[r]?=some (.mapIter (some b) bq seen bq):=by rcases G with rfl|rfl<;>exact m
  have hr:(execOp a.eval (mk dst (.next x false) ty pos aC g)).run P w=.ok (.value (.tuple #[.bool true,.string ⟨(dI p seen)[i].1.toArray⟩,.bool true])) { k with heap:=k.heap.setIfInBounds r (.mapIter (some b) bq (seen.push (dI p seen)[i].2) bq) }:=by
   have S:(mE (dI p seen)).toArray.isEmpty=false:=by
    cases hq:dI p seen with
    | nil=>exact absurd hq h0
    | cons y q=>rfl
   have U:((#[]:Array (Option MapEntry))++Array.map some (mE (dI p seen)).toArray).size=(dI p seen).length:=by simp [mE]
   simp only [execOp,e,Instr.next,getObj,Sem.run_bind,Sem.run,m,C,Result.andThen,next_test_false seen _ bq bq hold (Nat.le_refl _),Bool.false_eq_true,if_false,F8,E,F,Array.append_empty,S,U,R];simp [mE,hi,setObj,Sem.run,I,Result.andThen]
  have J:((dI p seen)[i].1,(dI p seen)[i].2)∈dI p seen:=List.getElem_mem hi;have L:=eY.setObj (ak:=ak) (o':=.mapIter (some b) bq (seen.push (dI p seen)[i].2) bq) I;obtain⟨hn,c,W,_,_⟩:=t.1.1.obj it _ hit;obtain⟨X,Y⟩:=t.1.setObj (o':=.dS r (.mapIter (some b) bq (seen.push (dI p seen)[i].2) bq)) hit rfl rfl B L ⟨c,W,L.here,B⟩;unfold Oper.wp;rw [hr,Oper.upon_value]
  exact u _ _ _ _ _ _ jl ⟨rfl,.inr ⟨_,_,J,rfl,rfl⟩⟩ ⟨[.bool true,_,.bool true],rfl,.cons (aB.bool _) (.cons (aB.str _ (hlen _ (o _ J))) (.cons (aB.bool _) .nil))⟩ X (Ext.refl _) (t.2.trans Y)
end
def gh (p:List (List UInt8×Nat)) (s:List UInt8):List (List UInt8×Nat):=p.eraseP fun x=>s==x.1
theorem uA (s:List UInt8):∀p:List (List UInt8×Nat),(gh p s).map (·.1)=(p.map (·.1)).erase s
 | []=>rfl
 | x::p=>by
  unfold gh;rw [List.eraseP_cons,List.map_cons,List.erase_cons];rw [show (x.1==s)=(s==x.1) from Bool.beq_comm];cases s==x.1
  ·exact congrArg (x.1::·) (uA s p)
  ·rfl
theorem zT (p:List (List UInt8×Nat)) (s:List UInt8):(gh p s).Sublist p:=List.eraseP_sublist
theorem mW.del {l:List (List UInt8)}{p:List (List UInt8×Nat)}{bq:Nat}(h:mW l p bq) (s:List UInt8):mW (l.erase s) (gh p s) bq :=
 ⟨by rw [uA,h.keys],h.nodup.sublist ((zT p s).map _),h.wD.erase s,fun x b=>h.lt x ((zT p s).subset b),fun x b=>h.len x (List.erase_subset b)⟩
theorem F9 {d:TypeDesc}{s:List UInt8}(b:gV (fE d) (.str s)=true) (f:s.length<=eF):∀(p:List (List UInt8×Nat)) (n:Nat),(∀x∈p,x.1.length<=eF) ->
  (Instr.findNow d (.string ⟨s.toArray⟩) (mE p) n=some none/\gh p s=p)\/∃i,Instr.findNow d (.string ⟨s.toArray⟩) (mE p) n=some (some (n+i,.bool true))/\i<p.length/\gh p s=p.eraseIdx i
 | [],n,_=>.inl ⟨rfl,rfl⟩
 | x::p,n,h=>by
  have hn:=uu (j:=⟨fun _=>0,fun _=>0,fun _=>none,0⟩) (w:=default) b (aB.str s f) (aB.str x.1 (h x (.head _))) rfl;unfold gh;rw [List.eraseP_cons];show (Instr.findNow d _ (⟨.string ⟨x.1.toArray⟩,.bool true,x.2⟩::mE p) n=_/\_)\/∃i,Instr.findNow d _ (⟨.string ⟨x.1.toArray⟩,.bool true,x.2⟩::mE p) n=_/\_;simp only [Instr.findNow,hn];cases s==x.1
  ·rcases F9 b f p (n+1) (fun y k=>h y (.tail _ k)) with ⟨h1,g⟩|⟨i,h1,g,l⟩
   ·exact .inl ⟨h1,congrArg (x::·) g⟩
   ·exact .inr ⟨i+1,by rw [h1,show n+1+i=n+(i+1) by omega],by simp only [List.length_cons]; omega,congrArg (x::·) l⟩
  ·exact .inr ⟨0,rfl,by simp,rfl⟩
theorem F_:∀(p:List (List UInt8×Nat)) (i:Nat),mE (p.eraseIdx i)=(mE p).eraseIdx i
 | [],_=>rfl
 | _::_,0=>rfl
 | x::p,i+1=>congrArg ((⟨.string ⟨x.1.toArray⟩,.bool true,x.2⟩:MapEntry)::·) (F_ p i)
theorem Ga {P:Program}{w:World}{b bq:Nat}{t g z ty:TypeId}{q r:TI}{cN:Array TypeId}{p:List (List UInt8×Nat)}{s:List UInt8}(u:aM P t=some q) (hk:q.k=.map g z) (B:aM P g=some r) (l:gV r.k (.str s)=true) (bH:cN[0]?=some t)
  (f:w.heap[b]?=some (.map (mE p).toArray bq)) (v:s.length<=eF) (C:∀x∈p,x.1.length<=eF) :
  (Builtin.delete_ cN ty #[.map (some b),.string ⟨s.toArray⟩]).run P w=.ok (.tuple #[]) { w with heap:=w.heap.setIfInBounds b (.map (mE (gh p s)).toArray bq) }:=by
 obtain⟨G,H,_,m,_,_,E,_⟩:=fS B;rw [<- E] at l;have y:∀e,(Instr.checkKey e 10000 g (.string ⟨s.toArray⟩)).run P w=.ok () w:=fun e=>uv (j:=⟨fun _=>0,fun _=>0,fun _=>none,0⟩) (w0:=default) m l (aB.str s v);rcases F9 l v p 0 C with ⟨h1,o⟩|⟨i,h1,o,F⟩
 ·simp [Builtin.delete_,bH,eZ (qf u hk),rQ f,y,Instr.findKey,eZ m,h1,o,setObj,Sem.run,f,Result.andThen]
 ·rw [Nat.zero_add] at h1;have hl:i<(mE p).length:=by simpa [mE] using o
  simp [Builtin.delete_,bH,eZ (qf u hk),rQ f,y,Instr.findKey,eZ m,h1,F,F_,setObj,Sem.run,f,Result.andThen,Array.eraseIdxIfInBounds,hl]
section
variable {P:Program}{ts:Ts}{ls:List (List D)}{h:ah}{dst:Option Tmp}{ty:TypeId}{pos:String}{aC:Array Edge}{g:Option (Nat×Bool)}
theorem ar.NV {t i v:TypeId}{l m:TI}{x y:Operand}{cN:Array TypeId}{id b bq:Nat}{p:List (List UInt8×Nat)}{s:List UInt8}(z:aM P t=some l) (hk:l.k=.map i v) (B:aM P i=some m) (C:gV m.k (.str s)=true) (bH:cN[0]?=some t)
  (E:ev ts x=.a (.d (.map id))) (F:ev ts y=.a (.d (.str s))) (hm:h id=some (.dS b (.map (mE p).toArray bq))) (G:∀x∈p,x.1.length<=eF) :
  ar P (mk dst (.call { callee:=.builtin .delete,args:=#[x,y],argTypes:=cN }) ty pos aC g) ts ls h { rh:=true,wh:=true } (.cS []) ls (h.set id (some (.dS b (.map (mE (gh p s)).toArray bq)))):=by
 refine ar.of_run fun L H _ hH j w jl a hl o=>?_;have I:=hH rfl;subst I;have h1:=o x (by simp [Op.operands,Call.operands]);have f:=o y (by simp [Op.operands,Call.operands]);rw [E] at h1; rw [F] at f;obtain⟨e,q,r⟩:=F6 (hl.1.obj id _ hm).2 h1;obtain⟨hn,c,J,_,_⟩:=hl.1.obj id _ hm;have f:aB j w (.str s) (a.eval y):=f;generalize hv:a.eval y=O at f;cases f with
 | str _ K =>
  have hr:=Ga (ty:=ty) z hk B C bH q K G;have u:=eY.setObj (ak:=ak) (o':=.map (mE (gh p s)).toArray bq) q;obtain⟨M,N⟩:=hl.setObj (o':=.dS b (.map (mE (gh p s)).toArray bq)) hm rfl rfl r u ⟨c,J,u.here,r⟩;exact⟨.value (.tuple #[]),_,_,j,jl,by simp [execOp,resolve,invoke,builtin,e,hv,hr,Result.andThen],.inl rfl,⟨[],rfl,.nil⟩,M,Ext.refl _,N⟩
theorem ar.NW {t r G:TypeId}{u v:TI}{x y:Operand}{cN:Array TypeId}{id:Nat}{l:List (List UInt8)}{s:List UInt8}(I:aM P t=some u) (hk:u.k=.map r G) (J:aM P r=some v) (K:gV v.k (.str s)=true) (bH:cN[0]?=some t)
  (f:ev ts x=.a (.d (.map id))) (M:ev ts y=.a (.d (.str s))) (hm:h id=some (.map (dZ l))) :
  ar P (mk dst (.call { callee:=.builtin .delete,args:=#[x,y],argTypes:=cN }) ty pos aC g) ts ls h { rh:=true,wh:=true } (.cS []) ls (h.set id (some (.map (dZ (l.erase s))))):=by
 refine ar.of_run fun L H _ hH j w jl a hl z=>?_;have N:=hH rfl;subst N;have h1:=z x (by simp [Op.operands,Call.operands]);have i:=z y (by simp [Op.operands,Call.operands]);rw [f] at h1; rw [M] at i;obtain⟨b,e,c,Z,bq,o,B,O,C,hB⟩:=ww (hl.1.obj id _ hm).2 h1;obtain⟨p,rfl,q,E⟩:=zR O;have Q:mW l p bq:=⟨q,by have:=hB.1; simpa [mE,Function.comp_def] using this,by rw [<- q]; exact F5 hB.2.2,fun x f=>hB.2.1 _ (List.mem_map_of_mem f),E⟩
 have R:∀x∈p,x.1.length<=eF:=fun x f=>E _ (q▸List.mem_map_of_mem f);have i:aB j w (.str s) (a.eval y):=i;generalize hv:a.eval y=aa at i;cases i with
 | str _ S =>
  have hr:=Ga (ty:=ty) I hk J K bH B S R;have F:=eY.setObj (ak:=ak) (o':=.map (mE (gh p s)).toArray bq) B;have hq:=Q.del s;have U:aW (jb j { w with heap:=w.heap.setIfInBounds b (.map (mE (gh p s)).toArray bq) }) (dZ (l.erase s)) (mE (gh p s)):=by
   rw [<- hq.keys]; exact zS _ fun x f=>hq.len _ (hq.keys▸List.mem_map_of_mem f)
  have W:kP (mE (gh p s)) bq:=⟨by have:=hq.nodup; simpa [mE,Function.comp_def] using this,(fun m hm=>by obtain⟨x,f,rfl⟩:=List.mem_map.1 hm; exact hq.lt x f),nodup_keys (by rw [hq.keys]; exact hq.wD)⟩;obtain⟨X,Y⟩:=hl.setObj (o':=.map (dZ (l.erase s))) hm (by simp [bD,o]) (by simp [bD,o]) C F ⟨b,c,_,bq,o,F.here,U,C,W⟩;exact⟨.value (.tuple #[]),_,_,j,jl,by simp [execOp,resolve,invoke,builtin,e,hv,hr,Result.andThen],.inl rfl,⟨[],rfl,.nil⟩,X,Ext.refl _,Y⟩
end
def qn (f:List UInt8->Option Bool):List (List UInt8)->Option (List (List UInt8))
 | []=>some []
 | s::l=>(f s).bind fun b=>(qn f l).bind fun r=>some (bif b then s::r else r)
theorem zU {f:List UInt8->Option Bool}:∀{l r:List (List UInt8)},qn f l=some r->(∀s∈l,∃b,f s=some b)/\r=l.filter fun s=>f s==some true
 | [],r,h=>by cases h; exact⟨(fun _ h=>by cases h),rfl⟩
 | s::l,r,h=>by
  obtain⟨b,h1,h⟩:=Option.bind_eq_some_iff.1 h;obtain⟨q,i,h⟩:=Option.bind_eq_some_iff.1 h;obtain⟨j,k⟩:=zU i;cases h;refine⟨fun x g=>?_, ?_⟩
  ·rcases List.mem_cons.1 g with rfl|g
   ·exact⟨b,h1⟩
   ·exact j x g
  ·rw [List.filter_cons,h1,<- k];cases b<;>rfl
theorem zV {α β:Type}{f:α->β}:∀{l:List α},(l.map f).Nodup->∀{x y:α},x∈l->y∈l->f x=f y->x=y
 | [],_,_,_,h,_,_=>by cases h
 | a::l,hn,x,y,j,g,e=>by
  rw [List.map_cons,List.nodup_cons] at hn;rcases List.mem_cons.1 j with rfl|i
  ·rcases List.mem_cons.1 g with rfl|b
   ·rfl
   ·exact absurd (List.mem_map.2 ⟨y,b,e.symm⟩) hn.1
  ·rcases List.mem_cons.1 g with rfl|b
   ·exact absurd (List.mem_map.2 ⟨x,i,e⟩) hn.1
   ·exact zV hn.2 i b e
structure jN (f:List UInt8->Option Bool) (r:List (List UInt8)) (bq:Nat) (z:List (List UInt8×Nat)×Array Nat):Prop where
 pop:mW (z.1.map (·.1)) z.1 bq
 told:∀x∈z.1,∃b,f x.1=some b
 seen:∀x∈z.1,z.2.contains x.2=true->f x.1=some true
 rest:(z.1.map (·.1)).filter (fun s=>f s==some true)=r
section
variable {f:List UInt8->Option Bool}{r:List (List UInt8)}{bq:Nat}{p:List (List UInt8×Nat)}{seen:Array Nat}{s:List UInt8}{n:Nat}
theorem jN.start {l:List (List UInt8)}(h:qn f l=some r) (b:mW l p bq):jN f r bq (p,#[]):=by
 obtain⟨h1,i⟩:=zU h;refine⟨by rw [b.keys]; exact b,fun x g=>h1 _ (by rw [<- b.keys]; exact List.mem_map_of_mem g),fun x _ g=>by simp at g,by rw [b.keys]; exact i.symm⟩
theorem uB {x:List UInt8×Nat}(h:x∈dI p seen):x∈p/\seen.contains x.2=false:=by
 obtain⟨h1,b⟩:=List.mem_filter.1 h;exact⟨h1,by simpa using b⟩
theorem Gb (b:(s,n)∈dI p seen):(dI p (seen.push n)).length<(dI p seen).length:=by
 have e:dI p (seen.push n)=(dI p seen).filter fun x=>!(x.2==n):=by
  unfold dI;rw [List.filter_filter];refine List.filter_congr fun x _=>?_;rw [show (seen.push n).contains x.2=(seen.contains x.2||x.2==n) by
   rw [Bool.eq_iff_iff];simp [Array.contains_eq_mem]]
  cases seen.contains x.2<;>simp
 rw [e];refine List.length_filter_lt_length_iff_exists.2 ⟨_,b,by simp⟩
theorem contains_push {x:Nat}(h:(seen.push n).contains x=true):seen.contains x=true\/x=n:=by
 simpa [Array.contains_eq_mem] using h
theorem jN.keep (h:jN f r bq (p,seen)) (b:(s,n)∈dI p seen) (i:f s=some true):jN f r bq (p,seen.push n)/\(dI p (seen.push n)).length<(dI p seen).length:=by
 obtain⟨hm,-⟩:=uB b;refine⟨⟨h.pop,h.told,fun x g hc=>?_,h.rest⟩,Gb b⟩;rcases contains_push hc with hc|hc
 ·exact h.seen x g hc
 ·rw [zV h.pop.nodup g hm hc]; exact i
theorem jN.drop (h:jN f r bq (p,seen)) (i:(s,n)∈dI p seen) (j:f s=some false):jN f r bq (gh p s,seen.push n)/\(dI (gh p s) (seen.push n)).length<(dI p seen).length:=by
 obtain⟨hm,-⟩:=uB i;have hu:(p.map (·.1)).Nodup:=h.pop.wD;have g:=zT p s;have k:=h.pop.del s;refine⟨⟨by rw [uA]; exact k,fun x b=>h.told x (g.subset b),fun x b hc=>?_, ?_⟩, ?_⟩
 ·rcases contains_push hc with hc|hc
  ·exact h.seen x (g.subset b) hc
  ·have e:=zV h.pop.nodup (g.subset b) hm hc;have h1:s∈(gh p s).map (·.1):=List.mem_map.2 ⟨x,b,by rw [e]⟩;rw [uA,hu.mem_erase_iff] at h1;exact absurd rfl h1.1
 ·show ((gh p s).map (·.1)).filter _=r;rw [uA,hu.erase_eq_filter,List.filter_filter,<- h.rest];refine List.filter_congr fun x _=>?_;by_cases e:x=s
  ·subst e; rw [j]; simp
  ·simp [e]
 ·exact Nat.lt_of_le_of_lt ((g.filter _).length_le) (Gb i)
theorem jN.done (h:jN f r bq (p,seen)) (b:dI p seen=[]):p.map (·.1)=r:=by
 have g:∀x∈p,f x.1=some true:=fun x hm=>h.seen x hm (by
  have:x∉dI p seen:=by rw [b]; simp
  cases hc:seen.contains x.2
  ·exact absurd (List.mem_filter.2 ⟨hm,by rw [hc]; rfl⟩) this
  ·rfl)
 rw [<- h.rest];refine(List.filter_eq_self.2 fun s i=>?_).symm;obtain⟨x,hm,rfl⟩:=List.mem_map.1 i;rw [g x hm]; rfl
end
theorem find_born {s:List UInt8}{n:Nat}:∀{p:List (List UInt8×Nat)},(p.map (·.2)).Nodup->(s,n)∈p->(mE p).find? (fun e=>e.born==n)=some ⟨.string ⟨s.toArray⟩,.bool true,n⟩
 | [],_,h=>by cases h
 | x::p,hn,h=>by
  rw [List.map_cons,List.nodup_cons] at hn;show (⟨.string ⟨x.1.toArray⟩,.bool true,x.2⟩::mE p:List MapEntry).find? _=_;rw [List.find?_cons];rcases List.mem_cons.1 h with e|h
  ·subst e; simp
  ·have b:x.2≠n:=fun e=>hn.1 (List.mem_map.2 ⟨(s,n),h,e.symm⟩);rw [show ((⟨.string ⟨x.1.toArray⟩,.bool true,x.2⟩:MapEntry).born==n)=false by simpa using b];exact find_born hn.2 h
section
variable {P:Program}{ts:Ts}{ls:List (List D)}{h:ah}{dst:Option Tmp}{ty:TypeId}{pos:String}{aC:Array Edge}{g:Option (Nat×Bool)}
theorem ar.NX {it id b r bq n:Nat}{x:Operand}{p:List (List UInt8×Nat)}{seen:Array Nat}{s:List UInt8}(f:ev ts x=.a (.d (.eX it 1 0))) (hit:h it=some (.dS r (.mapIter (some b) bq (seen.push n) bq))) (hm:h id=some (.dS b (.map (mE p).toArray bq))) (i:(s,n)∈p) (k:(p.map (·.2)).Nodup) (l:s.length<=eF) :
  ar P (mk dst (.entry x) ty pos aC g) ts ls h { rh:=true } (.cS [.d (.str s),.d (.bool true)]) ls h :=
 kV.mM ⟨rfl,rfl,fun L H _ hH j w jl a hl m=>by
  have h1:=m x (by simp [Op.operands]);rw [f] at h1;rw [hH rfl] at hl;obtain⟨e,o,_⟩:=F7 (hl.1.obj it _ hit).2 h1;have q:w.heap[b]?=some (.map (mE p).toArray bq):=by obtain⟨_,_,_,t,_⟩:=hl.1.obj id _ hm; exact t
  have u:(mE p).toArray.find? (fun e=>e.born==n)=some ⟨.string ⟨s.toArray⟩,.bool true,n⟩:=by
   rw [List.find?_toArray]; exact find_born k i
  exact⟨.tuple #[.string ⟨s.toArray⟩,.bool true],by simp [execOp,e,Instr.entry,getObj,Sem.run_bind,Sem.run,o,q,Result.andThen,u],[.string ⟨s.toArray⟩,.bool true],rfl,.cons (aB.str s l) (.cons (aB.bool _) .nil)⟩⟩
end
end Go.Ab
/-
 Calls that only lay new blocks. No program text.
-/
namespace Go.Ab
open Go Go.RowKit Go.Sort
variable {ak:bf}
theorem HL.grown {j:J}{w:World}{jl:List Nat}{ls:List (List D)}{h:ah}(hl:HL j w jl ls h) (n:Nat) (os:Array Go.Obj):HL j (Sort.grow (Sort.ahead w n) os) jl ls h/\bw j w (Own j h jl) j (Sort.grow (Sort.ahead w n) os) (Own j h jl):=by
 have f:∀b,b<w.heap.size->(Sort.grow (Sort.ahead w n) os).heap[b]?=w.heap[b]?:=fun b f=>heap_grow_old _ _ f;have hle:Le j w j (Sort.grow (Sort.ahead w n) os):=⟨Nat.le_refl _,fun _ _=>rfl,fun _=>Nat.le_refl _,fun b o g=>p7 (f b (by
  rcases Nat.lt_or_ge b w.heap.size with h|h
  ·exact h
  ·rw [hl.1.fresh b h] at g; omega)),fun _ _=>.inl rfl⟩
 have hk:=hl.keep hle (fun b g=>⟨f b (g.lt hl),rfl⟩) (fun _ _ _=>rfl) (fun b f=>hl.1.fresh b (by simp at f; omega));exact⟨hk.1,{ toLe:=hle,size:=by simp,frame:=fun b h _=>⟨f b h,rfl⟩,own:=fun b _ g=>g,os:=rfl,tape:=rfl,output:=⟨rfl,by simp [Sort.grow,Sort.ahead]⟩ }⟩
end Go.Ab
/-
 slices.SortFunc over a slice that may be stored to: the shelf's contract,read in the abstract state. No program text.
-/
namespace Go.Ab
open Go Go.RowKit Go.Proofs Go.Shelf Go.Sort
variable {ak:bf}
section
variable {P:Program}{ρ:Ren}{T:Type} [Inhabited T] (c:T->List D) (k:Nat)
end
section
variable {P:Program}{ρ:Ren}{T:Type} [Inhabited T] {c:T->List D}{k:Nat}
end
end Go.Ab
/-
 slices.DeleteFunc over a slice that may be stored to and is not used any more: the shelf's contract,read in the abstract state. No program text.
-/
namespace Go.Proofs
open Go.Shelf Go.RowKit Go.Lib Go.Sort
variable {P:Program}{ρ:Ren}
end Go.Proofs
namespace Go.Ab
open Go Go.RowKit Go.Proofs Go.Shelf Go.Sort
variable {ak:bf}
section
variable {P:Program}{ρ:Ren}
variable {T:Type} [Inhabited T] {v:T->Value}{d1:T->D}
end
end Go.Ab
/-
 Functions of the library that only compute,division,conversions; a block that stays as it is. No program text.
-/
namespace Go.Ab
open Go Go.RowKit Go.Proofs Go.Shelf
variable {ak:bf}
section
variable {P:Program}{ts:Ts}{ls:List (List D)}{h:ah}{dst:Option Tmp}{ty:TypeId}{pos:String}{aC:Array Edge}{g:Option (Nat×Bool)}
theorem ar.NY {t u:TypeId}{x y:Operand}{k:IntKind}{m n:Int}(i:ev ts x=.a (.d (.int k m))) (l:ev ts y=.a (.d (.int k n))) (hn:n≠0) :
  ar P (mk dst (.binOp .quo t x y u) ty pos aC g) ts ls h {} (.a (.d (.int k (k.wrap (m.tdiv n))))) ls h :=
 ar.dU fun j w jl a b=>by
  have h1:=b x (by simp [Op.operands]);have f:=b y (by simp [Op.operands]);rw [i] at h1; rw [l] at f;exact⟨_,by simp [execOp,ir h1,ir f,wm,binOp,Op.intDiv,hn],aB.int _ _⟩
theorem ar.NZ {t u:TypeId}{x y:Operand}{k:IntKind}{m n:Int}(i:ev ts x=.a (.d (.int k m))) (l:ev ts y=.a (.d (.int k n))) (hn:n≠0) :
  ar P (mk dst (.binOp .rem t x y u) ty pos aC g) ts ls h {} (.a (.d (.int k (m.tmod n)))) ls h :=
 ar.dU fun j w jl a b=>by
  have h1:=b x (by simp [Op.operands]);have f:=b y (by simp [Op.operands]);rw [i] at h1; rw [l] at f;exact⟨_,by simp [execOp,ir h1,ir f,wm,binOp,Op.intDiv,hn],aB.int _ _⟩
theorem Gc {P:Program}{t:TypeId}{b:TI}(f:aM P t=some b):∃d,P.underlying t=some d/\fE d=b.k:=by
 obtain⟨i,d,_,g,_,_,j,_⟩:=fS f;exact⟨d,g,j⟩
theorem Gd {P:Program}{t:TypeId}{f:TI}{k:IntKind}(g:aM P t=some f) (hk:f.k=.int k):P.underlying t=some (.int k):=by
 obtain⟨d,h1,b⟩:=Gc g;rw [hk] at b;cases d<;>simp [fE] at b;subst b; exact h1
theorem ar.N0 {s t:TypeId}{f b:TI}{x:Operand}{k k':IntKind}{n:Int}(hS:aM P s=some f) (i:aM P t=some b) (hk:b.k=.int k') (l:ev ts x=.a (.d (.int k n))) :
  ar P (mk dst (.convert s t x) ty pos aC g) ts ls h {} (.a (.d (.int k' (k'.wrap n)))) ls h :=
 ar.dU fun j w jl a m=>by
  have h1:=m x (by simp [Op.operands]);rw [l] at h1;obtain⟨d,o,_⟩:=Gc hS;exact⟨.int k' (k'.wrap n),by simp [execOp,ir h1,convert,run_underlying o,run_underlying (Gd i hk),Conv.intToInt],aB.int _ _⟩
def gu (s:Sl Int):Bs:=s.l.map fun n=>UInt8.ofNat n.toNat
theorem Ge:∀(l:List Int) (r:ByteArray),l.foldl (fun r n=>r.push (UInt8.ofNat n.toNat)) r=⟨(r.data.toList++l.map fun n=>UInt8.ofNat n.toNat).toArray⟩
 | [],r=>by simp
 | a::l,r=>by rw [List.foldl_cons,Ge l]; simp [ByteArray.push]
theorem ar.N2 {s e t:TypeId}{q u B:TI}{x:Operand}{tok:Option Nat}{y:Sl Int}(hS:aM P s=some q) (M:q.k=.slice e) (N:aM P e=some u) (he:u.k=.int .u8) (O:aM P t=some B) (ht:B.k=.str)
  (Q:ev ts x=.a (.d (Sl.d 1 (bp .u8) tok y))):ar P (mk dst (.convert s t x) ty pos aC g) ts ls h {} (.a (.d (.str (gu y)))) ls h :=
 ar.dU fun j w jl a R=>by
  have h1:=R x (by simp [Op.operands]);rw [Q] at h1;have f:aB j w (.slice 1 tok y.nl (y.l.map (bp .u8))) (a.eval x):=h1;have C:=kW hS M;have E:=Gd N he;have F:=rJ O ht;generalize hv:a.eval x=v at f;have G:(y.l.map (bp .u8)).flatten=y.l.map (D.int .u8):=by
   induction y.l with
   | nil=>rfl
   | cons a r p=>simp [bp,p]
  generalize H:y.l.map (bp .u8)=rows at f;generalize aa:y.nl=nl at f;cases f with
  | fB _ _ _ =>
   have S:y.l=[]:=by simpa using H
   exact⟨.string .empty,by simp [execOp,hv,run_convert_bytes_string w s t e _ _ _ C E F,Conv.bytesToString],by
    show aB j w (.str (gu y)) _;rw [gu,S]; exact aB.str [] (by simp [eF])⟩
  | slice _ _ _ m cap cv hk hn hc bH hr ab =>
   subst H;rw [List.length_map] at hn hc;have hlen:(y.l.map (bp .u8)).length=y.l.length:=by simp
   have ad:cL<=eF:=by unfold cL eF; omega
   have U:(loadCells m y.l.length).run P w=.ok (y.l.map (Value.int .u8)).toArray w:=by
    by_cases h0:y.l=[]
    ·rw [h0]; rfl
    ·have I:m.spot=none:=bH.1.resolve_left (by simpa using h0);obtain⟨b,o,sp⟩:=m;simp only at I; subst I;obtain⟨cs,g1,g2⟩:=zn (P:=P) (j:=j) (w:=w) (b:=b) (o:=o) (y.l.map (D.int .u8)) fun i z J=>by
      have hi:i<(y.l.map (bp .u8)).flatten.length:=by rw [G]; exact(List.getElem?_eq_some_iff.1 J).1
      refine⟨cv i,(bH.2 i hi).2, ?_⟩;have K:=hr i hi;have W:(y.l.map (bp .u8)).flatten[i]=z:=by
       have L:(y.l.map (bp .u8)).flatten[i]?=some z:=by rw [G]; exact J
       rw [List.getElem?_eq_getElem hi] at L; simpa using L
      rw [W] at K; exact K
     rw [List.length_map] at g2;rw [g2];have X:cs=y.l.map (Value.int .u8):=by
      clear g2;generalize y.l=l at g1;induction l generalizing cs with
      | nil=>cases g1; rfl
      | cons a r p =>
       rw [List.map_cons] at g1;cases g1 with
       | cons Y Z=>cases Y; rw [p _ Z,List.map_cons]
     rw [X]
   rw [hlen] at hv;refine⟨.string ⟨(gu y).toArray⟩, ?_, ?_⟩
   ·simp only [execOp,hv,Sem.run_bind,run_convert_bytes_string w s t e _ _ _ C E F,run_bytesToString w m _ cap y.l U,Result.andThen,Sem.run_pure];rw [Ge]; simp [gu]
   ·exact aB.str _ (by simp only [gu,List.length_map]; omega)
end
theorem AC.N3 {P:Program}{f:FuncId}{args:List A}{H:ah}{r:A}{cF:List Value}{cv:Value}(enter:∀(cF:Array Value) (w:World),(callFunc f cF).run P w=.ok (.enter f cF) w)
  (hc:∀j w c,dJ j w H->aW (cM j w) args c->cM j w r cv/\Calls P f c.toArray w fun e w'=>e=.returned cv/\w'=w):AC P f args H fun v h'=>v=.a r/\h'=H:=by
 refine⟨enter,fun j w c hr b=>?_⟩;obtain⟨g,i⟩:=hc j w c hr b;refine i.mono ?_;rintro e w' ⟨rfl,rfl⟩;exact⟨_,cv,j,H,rfl,⟨rfl,rfl⟩,g,hr,bw.refl _ _ _⟩
def fP (P:Program) (o:Ab.Obj):Prop:=∃g t b,o=.fix g (.cells (Lib.pow10Tab.map fun z=>Value.int .u64 z).toArray t b)/\P.globalNamed "internal/strconv.uint64pow10"=some g
theorem fP.mX {P:Program}{o:Ab.Obj}(h:fP P o){j:J}{w:World}{id:Nat}(hr:fq j w id o):Lib.TabIs P w "internal/strconv.uint64pow10" .u64 Lib.pow10Tab:=by
 obtain⟨g,t,i,rfl,b⟩:=h;have f:w.heap[g]?=some _:=hr;unfold Lib.TabIs World.var?;rw [b,Option.bind_some,f]
theorem N4 {P:Program}{ρ:Ren}(L:LaysM.n171 P ρ){n:Int}(h0 : -9223372036854775808<=n) (h1:n<=9223372036854775807){F:Nat}(g:F=ρ.f 171){H:ah}{gT:Nat}{oT:Ab.Obj}(i:H gT=some oT) (l:fP P oT) (m:(Lib.itoa n).length<=eF) :
  AC P F [.d (.int .i64 n)] H fun v h'=>v=.a (.d (.str (Lib.itoa n)))/\h'=H:=by
 subst g;refine⟨enters_of L.f171 (by kernel_rfl) rfl,fun j w c hr b=>?_⟩;cases b with
 | cons a1 b =>
 cases b;have o:aB j w (.int .i64 n) _:=a1;cases o;refine(Any.strconv_Itoa L n h0 h1 w (l.mX (hr.obj gT oT i).2)).mono ?_;rintro e w' ⟨rfl,k,os,rfl⟩;have hl:HL j w [] [] H:=⟨hr,⟨.nil,by simp,by simp⟩⟩;obtain⟨p,q⟩:=hl.grown k os;exact⟨_,_,j,H,rfl,⟨rfl,rfl⟩,aB.str _ m,p.1,q⟩
end Go.Ab
/-
 strings.Builder: an object whose buffer grows. No program text.
-/
namespace Go.Proofs
open Go.Shelf Go.RowKit
variable {P:Program}{ρ:Ren}
set_option linter.unusedVariables false
set_option maxHeartbeats 2000000 in
set_option maxRecDepth 100000 in
theorem N5 (L:Lays.n169 P ρ) (X:Builder.Extra P ρ) (b g cap:Nat) (p:Value) (i:Array Value) (l:List UInt8) (w:World) (k:l.length≠0) (m:w.heap[b]?=some (.cells #[p,.slice (some ⟨g,0,none⟩) l.length cap] (ρ.t 72) (0,0)))
  (o:w.heap[g]?=some (.cells i (ρ.t 5) (0,0))) (v:l.length<=cap) (q:l.length<=9223372036854775807) (y:i.size=cap*1) (r:∀j x,l[j]?=some x->w.cell? ((⟨g,0,none⟩:Addr).add j)=some (.int .u8 x.toNat)) :
  Calls P (ρ.f 169) #[.pointer (some ⟨b,0,none⟩)] w fun e w'=>e=.returned (.string ⟨l.toArray⟩)/\w'=w.drew.freeze ⟨g,0,none⟩ l.length:=by
 have c1:w.drew.cell? ⟨b,1,none⟩=some (.slice (some ⟨g,0,none⟩) l.length cap):=by
  have:w.drew.heap[b]?=some (.cells #[p,.slice (some ⟨g,0,none⟩) l.length cap] (ρ.t 72) (0,0)):=m;rw [Lib.cell_of_heap this]; rfl
 have z:(Builtin.unsafeSliceData_ #[(ρ.t 37)] (ρ.t 127) #[.slice (some ⟨g,0,none⟩) l.length cap]).run P w.drew=.ok (.pointer (some ⟨g,0,none⟩)) w.drew :=
  Lib.run_unsafeSliceData_row _ _ _ _ _ _ (by omega)
 have B:(Builtin.unsafeString_ #[(ρ.t 127),(ρ.t 3)] (ρ.t 9) #[.pointer (some ⟨g,0,none⟩),.int .i64 l.length]).run P w.drew=.ok (.string ⟨l.toArray⟩) (w.drew.freeze ⟨g,0,none⟩ l.length):=by
  refine Lib.run_unsafeString_row w.drew (ρ.t 127) (ρ.t 3) (ρ.t 9) (ρ.t 5) L.t127 X.cellsByte g i.size (by have s:w.drew.heap[g]?=some (.cells i (ρ.t 5) (0,0)):=o; simp [World.shape?,s]) l (by simpa using k) (by omega) q ?_;intro j x u;exact r j x u
 have mixed:=L.mixed;have t72:=L.t72; have a72:=L.a72; have z72:=L.z72; have v72:=L.v72; have C:=run_underlying L.t72;have t70:=L.t70; have a70:=L.a70; have z70:=L.z70; have v70:=L.v70; have E:=run_underlying L.t70;have t37:=L.t37; have a37:=L.a37; have z37:=L.z37; have v37:=L.v37; have F:=run_underlying L.t37;have t127:=L.t127; have a127:=L.a127; have z127:=L.z127; have v127:=L.v127; have G:=run_underlying L.t127
 have t3:=L.t3; have a3:=L.a3; have z3:=L.z3; have v3:=L.v3; have H:=run_underlying L.t3;have t9:=L.t9; have a9:=L.a9; have z9:=L.z9; have v9:=L.v9; have I:=run_underlying L.t9;have t5:=X.t5; have a5:=X.a5; have z5:=X.z5; have v5:=X.v5; have J:=run_underlying X.t5
 go_enter L.f169,Body.n169_ntmps ρ
 go_wp2
 go_region_o
 all_goals (go_wp2; go_ret; exact⟨rfl,rfl⟩)
set_option maxHeartbeats 2000000 in
set_option maxRecDepth 100000 in
theorem N6 (L:Lays.n169 P ρ) (X:Builder.Extra P ρ) (b:Nat) (p:Value) (w:World) (g:w.heap[b]?=some (.cells #[p,.slice none 0 0] (ρ.t 72) (0,0))) :
  Calls P (ρ.f 169) #[.pointer (some ⟨b,0,none⟩)] w fun e w'=>e=.returned (.string ⟨#[]⟩)/\w'=w.drew:=by
 have i:=Any.unsafeString_none L X;have c1:w.drew.cell? ⟨b,1,none⟩=some (.slice none 0 0):=by
  have:w.drew.heap[b]?=some (.cells #[p,.slice none 0 0] (ρ.t 72) (0,0)):=g;rw [Lib.cell_of_heap this]; rfl
 have j:(Builtin.unsafeSliceData_ #[(ρ.t 37)] (ρ.t 127) #[.slice none 0 0]).run P w.drew=.ok (.pointer none) w.drew:=rfl;have mixed:=L.mixed;have t72:=L.t72; have a72:=L.a72; have z72:=L.z72; have v72:=L.v72; have k:=run_underlying L.t72;have t70:=L.t70; have a70:=L.a70; have z70:=L.z70; have v70:=L.v70; have l:=run_underlying L.t70;have t37:=L.t37; have a37:=L.a37; have z37:=L.z37; have v37:=L.v37; have m:=run_underlying L.t37
 have t127:=L.t127; have a127:=L.a127; have z127:=L.z127; have v127:=L.v127; have o:=run_underlying L.t127;have t3:=L.t3; have a3:=L.a3; have z3:=L.z3; have v3:=L.v3; have q:=run_underlying L.t3;have t9:=L.t9; have a9:=L.a9; have z9:=L.z9; have v9:=L.v9; have r:=run_underlying L.t9;have t5:=X.t5; have a5:=X.a5; have z5:=X.z5; have v5:=X.v5; have s:=run_underlying X.t5
 go_enter L.f169,Body.n169_ntmps ρ
 go_wp2
 go_region_o
 all_goals (go_wp2; go_ret; exact⟨rfl,rfl⟩)
end Go.Proofs
namespace Go.Ab
open Go Go.RowKit Go.Proofs Go.Shelf
variable {ak:bf}
structure bT where
 wE:Bool
 cW:Sl Int
def bT.zero:bT:=⟨false,Sl.nil⟩
noncomputable def bT.cg (i:Nat) (t:Option Nat) (x:bT):List D:=[bif x.wE then .ptr i 0 else .ep,Sl.d 1 (bp .u8) t x.cW]
theorem fq.dz {j:J}{w:World}{id:Nat}{T:TypeId}{xs:List D}(h:fq j w id (.dz T xs)):jL j w (j.out id) xs:=by
 obtain⟨cs,h1,b,f⟩:=h;exact⟨cs,T,h1,b,f⟩
section
variable {P:Program}{ts:Ts}{ls:List (List D)}{h:ah}{dst:Option Tmp}{ty:TypeId}{pos:String}{aC:Array Edge}{g:Option (Nat×Bool)}
theorem ar.N7 {t:TypeId}{b:TI}{x:Operand}{id off:Nat}{T:TypeId}{xs:List D}{v:A}(i:aM P t=some b) (hk:b.k.lF=false) (l:ev ts x=.a (.d (.ptr id off))) (hh:h id=some (.dz T xs)) (hv:kS b xs off=some v) :
  ar P (mk dst (.load t x) ty pos aC g) ts ls h { rh:=true } (.a v) ls h :=
 kV.mM ⟨rfl,rfl,fun L H _ hH j w jl a hl m=>by
  have h1:=m x (by simp [Op.operands]);rw [l] at h1;obtain⟨e,_⟩:=rH h1;rw [hH rfl] at hl;obtain⟨cv,f,o⟩:=qc (P:=P) (hl.1.obj id _ hh).2.dz.cells i (K.qa hk) hv;rw [Nat.zero_add] at f;exact⟨cv,by simp [execOp,Instr.loadAt,Instr.sureAddr,e,f],o⟩⟩
theorem ar.N8 {t:TypeId}{k:TI}{x y:Operand}{id off:Nat}{T:TypeId}{xs xs':List D}{v:D}(p:aM P t=some k) (q:ev ts x=.a (.d (.ptr id off))) (r:ev ts y=.a (.d v)) (hl:h id=some (.dz T xs))
  (l:k.size=1) (hv:cD v xs off xs'):ar P (mk none (.store t x y) ty pos aC g) ts ls h { wh:=true } .any ls (h.set id (some (.dz T xs'))):=by
 obtain⟨G,s⟩:=hv.spec;refine ar.of_run fun L H _ hH j w jl a hh m=>?_;have u:=hH rfl;subst u;have h1:=m x (by simp [Op.operands]);have b:=m y (by simp [Op.operands]);rw [q] at h1; rw [r] at b;have b:cM j w (.d v) (a.eval y):=b;obtain⟨e,hid⟩:=rH h1;obtain⟨cs,z,o,f⟩:=(hh.1.obj id _ hl).2;obtain⟨w',B,i⟩:=uj (ak:=ak) (P:=P) (off:=off) z p b (by rw [l]; rfl) (by rw [<- o.length,l]; omega)
 have C:=i.le (j:=j) f;obtain⟨E,F⟩:=hh.setObj (o':=.dz T xs') hl rfl rfl f i ⟨_,i.here,by
  have:=(o.cT off b.cells).imp fun _ _ h=>h.mono C;rw [s]; exact this,f⟩
 refine⟨.skip,w',undef,j,jl, ?_,.inr ⟨rfl,rfl⟩,trivial,E,Ext.refl _,F⟩;simp [execOp,Instr.storeAt,Instr.sureAddr,e,B]
theorem dW.N9 {e:TypeId}{b:TI}{z:A}(i:aM P e=some b) (k:b.zero=some z) :
  dW P (mk dst (.alloc e) ty pos aC g) ts ls h fun v aH h'=>∃id,h id=none/\v=.a (.d (.ptr id 0))/\aH=ls/\h'=h.set id (some (.dz e (cn z))):=by
 obtain⟨inf,d,h1,_,_,_,_,f⟩:=fS i;rw [k] at f;obtain⟨v,l,m⟩:=oq f;intro j w jl a hl q K Q hk;have hr:(execOp a.eval (mk dst (.alloc e) ty pos aC g)).run P w=.ok (.value (.pointer (some ⟨w.heap.size,0,none⟩))) (w.alloc (.cells v.cells e)):=by simp [execOp,Instr.alloc,zeroValue,typeInfo,h1,l,newVar,newRow]
 have hle:Le j w (j.obj w.heap.size) (w.alloc (.cells v.cells e)) :=
  ((hl.data (ak:=ak) (.cells v.cells e) 0).2.toLe.trans (by
   rw [J.ud (hl.1.fresh _ (Nat.le_refl _))];exact⟨by simp [J.obj],fun id hi=>by simp only [J.obj]; rw [if_neg (by omega)],fun _=>Nat.le_refl _,fun _ _ _=>rfl,fun _ _=>.inl rfl⟩))
 obtain⟨o,p⟩:=hl.obj (ak:=ak) (.cells v.cells e) (.dz e (cn z)) rfl ⟨v.cells.toList,by
  simp only [J.obj,if_true]; rw [Array.toArray_toList]; exact heap_alloc_new w _,(m j w).cells.imp fun _ _ h=>h.mono hle,by
   simp only [J.obj,if_true]; exact hl.1.fresh _ (Nat.le_refl _)⟩
 unfold Oper.wp;rw [hr,Oper.upon_value];refine hk _ _ _ _ (j.obj w.heap.size) _ jl ⟨j.next,hl.1.kQ (Nat.le_refl _),rfl,rfl,rfl⟩ ?_ o (Ext.refl _) p;have:=aB.ptr (j:=j.obj w.heap.size) (w:=w.alloc (.cells v.cells e)) j.next 0 (by simp [J.obj])
 simpa [J.obj,aX,cM] using this
end
theorem Own.wF {j:J}{h:ah}{c:Nat}{o o':Obj}(hc:h c=some o) (g:bD j c o'=bD j c o){jl:List Nat}{b:Nat}:Own j (h.set c (some o')) jl b↔Own j h jl b:=by
 constructor
 ·rintro (h1|⟨id,o1,h1,f⟩)
  ·exact .inl h1
  ·by_cases e:id=c
   ·subst e; rw [ah.bX] at h1; simp only [Option.some.injEq] at h1; subst h1;exact .inr ⟨id,_,hc,g▸f⟩
   ·rw [ah.bP _ _ e] at h1; exact .inr ⟨id,o1,h1,f⟩
 ·rintro (h1|⟨id,o1,h1,f⟩)
  ·exact .inl h1
  ·by_cases e:id=c
   ·subst e; rw [hc] at h1; simp only [Option.some.injEq] at h1; subst h1;exact .inr ⟨id,_,ah.bX _ _ _,g.trans f⟩
   ·exact .inr ⟨id,o1,by rw [ah.bP _ _ e]; exact h1,f⟩
theorem dJ.wF {j:J}{w:World}{h:ah}{c:Nat}{o o':Obj}(hr:dJ j w h) (hc:h c=some o) (f:bD j c o'=bD j c o) (g:fq j w c o->fq j w c o'):dJ j w (h.set c (some o')):=by
 have key:∀id o1,(h.set c (some o')) id=some o1->∃o2,h id=some o2/\bD j id o1=bD j id o2:=by
  intro id o1 h1;by_cases e:id=c
  ·subst e; rw [ah.bX] at h1; simp only [Option.some.injEq] at h1; subst h1;exact⟨_,hc,f⟩
  ·rw [ah.bP _ _ e] at h1; exact⟨o1,h1,rfl⟩
 refine⟨fun id o1 h1=>?_,fun gL o1 gM o2 b h1 i k l=>?_,hr.fresh⟩
 ·by_cases e:id=c
  ·subst e; rw [ah.bX] at h1; simp only [Option.some.injEq] at h1; subst h1;exact⟨(hr.obj _ _ hc).1,g (hr.obj _ _ hc).2⟩
  ·rw [ah.bP _ _ e] at h1; exact hr.obj _ _ h1
 ·obtain⟨m,k1,k2⟩:=key gL o1 h1;obtain⟨p,q,r⟩:=key gM o2 i;exact hr.inj gL m gM p b k1 q (k2▸k) (r▸l)
theorem aQ.Oa {P:Program}{ops:Array Oper}{rest:List Oper}{Q:St->Prop}{n:Nat}{ts:Ts}{ls:List (List D)}{h:ah}{eP:d_}(id:Nat){T:TypeId}{xs:List D}(f:List D) (hc:h id=some (.dz T xs)) (k:∀j w cs,dJ j w h->aW (aB j w) xs cs->aW (aB j w) f cs)
  (hw:aQ P ops rest Q ⟨n,ts,ls,h.set id (some (.dz T f))⟩):aQ P ops rest Q ⟨n,ts,ls,h⟩:=by
 intro j w jl a g l hk;have hl:=g.hl;have m:fq j w id (.dz T xs)->fq j w id (.dz T f):=fun⟨cs,h1,o,p⟩=>⟨cs,h1,k j w cs hl.1 o,p⟩;refine hw j w jl a ⟨g.defers,g.size,g.tmps,⟨hl.1.wF (o':=.dz T f) hc rfl m,⟨hl.2.each,hl.2.nodup,fun b q i=>hl.2.apart b q ((Own.wF (o':=.dz T f) hc rfl).1 i)⟩⟩⟩ l fun r j' w' s t hq u v=>hk r j' w' s t hq u (bw.trans ?_ v)
 exact { bw.refl j _ (Own j h jl) with own:=fun b _ i=>(Own.wF (o':=.dz T f) hc rfl).1 i }
theorem aQ.tokE {P:Program}{ops:Array Oper}{rest:List Oper}{Q:St->Prop}{n:Nat}{ts:Ts}{ls:List (List D)}{h:ah}{eP:d_}(k:Nat) (E:TypeId) (hw:∀t,h t=none->aQ P ops rest Q ⟨n,ts,ls,h.set t (some (.tok k 0 (some E)))⟩):aQ P ops rest Q ⟨n,ts,ls,h⟩:=by
 intro j w jl a b g hk;obtain⟨i,f⟩:=b.hl.dQ (ak:=ak) k (some E);have hle:=f.toLe;refine hw j.next (b.hl.1.kQ (Nat.le_refl _)) j.dQ w jl a ⟨b.defers,b.size,fun k=>(b.tmps k).mono hle (Ext.refl _),i⟩ g fun l j' w' m o hq p q=>hk l j' w' m o hq p (f.trans q)
theorem Ob {P:Program}{ρ:Ren}(L:Lays.n240 P ρ) (X:Builder.X72 P ρ){F:Nat}(r:F=ρ.f 240){T:TypeId}(s:T=ρ.t 72){H:ah}{i:Nat}{t:Option Nat}{x:bT}(hc:H i=some (.dz T (x.cg i t))) :
  AC P F [.d (.ptr i 0)] H fun v h'=>v=.cS []/\h'=H.set i (some (.dz T (bT.cg i t ⟨true,x.cW⟩))):=by
 subst r s;refine⟨enters_of L.f240 (by kernel_rfl) rfl,fun j w c hr l=>?_⟩;have hl:HL j w [] [] H:=⟨hr,⟨.nil,by simp,by simp⟩⟩;cases l with
 | cons a1 l =>
 cases l
 rename_i v1
 have u:aB j w (.ptr i 0) v1:=a1;cases u with
 | ptr _ _ hid =>
 obtain⟨hn,cs,g,b,m⟩:=hr.obj i _ hc;unfold bT.cg at b;cases b with
 | @cons _ p _ _ k b =>
 cases b with
 | @cons _ v _ _ hv b =>
 cases b;cases o:x.wE with
 | true =>
  rw [o] at k;have q:aB j w (.ptr i 0) p:=k;cases q with
  | ptr _ _ _ =>
  have h0:w.cell? ⟨j.out i,0,none⟩=some (.pointer (some ⟨j.out i,0,none⟩)):=by rw [cell_of_row w (j.out i) 0 _ (ρ.t 72) (0,0) g]; rfl
  refine(Any.Builder_copyCheck_used L X (j.out i) w h0).mono ?_;rintro e w' ⟨rfl,rfl⟩;have y:H.set i (some (.dz (ρ.t 72) (bT.cg i t ⟨true,x.cW⟩)))=H:=by
   refine ah.oh H i _ ?_;rw [hc]; unfold bT.cg; rw [o]
  exact⟨.cS [],.tuple #[],j,H,rfl,⟨rfl,y.symm⟩,⟨[],rfl,.nil⟩,hr,bw.refl _ _ _⟩
 | false =>
  rw [o] at k;have q:aB j w .ep p:=k;cases q;have h0:w.cell? ⟨j.out i,0,none⟩=some (.pointer none):=by rw [cell_of_row w (j.out i) 0 _ (ρ.t 72) (0,0) g]; rfl
  have z:w.shape? (j.out i)=some (ρ.t 72,2):=by simp [World.shape?,g]
  have B:w.frozen? ⟨j.out i,0,none⟩=false:=frozen_of_row w (j.out i) _ _ (ρ.t 72) g;refine(Any.Builder_copyCheck_fresh L X (j.out i) w h0 z B).mono ?_;rintro e w' ⟨rfl,rfl⟩;have hu:=eY.setCell (ak:=ak) (i:=0) g (.pointer (some ⟨j.out i,0,none⟩));have hle:=hu.le (j:=j) m;obtain⟨C,E⟩:=hl.setObj (o':=.dz (ρ.t 72) (bT.cg i t ⟨true,x.cW⟩)) hc rfl rfl m hu ⟨_,hu.here,by
   unfold bT.cg;exact .cons (aB.ptr i 0 hn) (.cons (hv.mono hle) .nil),m⟩
  exact⟨.cS [],.tuple #[],j,_,rfl,⟨rfl,rfl⟩,⟨[],rfl,.nil⟩,C.1,E⟩
def zW (x:bT):Option Bs:=if x.cW.l.all (fun n=>decide (0<=n/\n<256))=true/\(x.cW.nl=true/\x.cW.l=[]\/x.cW.nl=false/\x.cW.l≠[]) then some (gu x.cW) else none
theorem dJ.sub {j:J}{w:World}{h h':ah}(hr:dJ j w h) (f:∀id o,h' id=some o->h id=some o):dJ j w h' :=
 ⟨fun id o hi=>hr.obj id o (f id o hi),fun gL o1 gM o2 b h1 g i k=>hr.inj gL o1 gM o2 b (f _ _ h1) (f _ _ g) i k,hr.fresh⟩
theorem Own.sub {j:J}{h h':ah}(f:∀id o,h' id=some o->h id=some o){jl:List Nat}{b:Nat}(g:Own j h' jl b):Own j h jl b:=by
 rcases g with h1|⟨id,o,h1,i⟩
 ·exact .inl h1
 ·exact .inr ⟨id,o,f id o h1,i⟩
theorem Oc (w:World) (a b:Addr) (n:Nat):(w.freeze a n).cell? b=w.cell? b:=by
 unfold World.freeze
 split
 ·rfl
 ·unfold World.cell?;simp only [Array.getElem?_modify];by_cases e:a.block=b.block
  ·rw [if_pos e];cases w.heap[b.block]? with
   | none=>rfl
   | some o=>cases o<;>rfl
  ·rw [if_neg e]
theorem Gf (w:World) (a:Addr) (n:Nat){b:Nat}(f:b≠a.block):(w.freeze a n).heap[b]?=w.heap[b]?:=by
 unfold World.freeze
 split
 ·rfl
 ·simp only [Array.getElem?_modify];rw [if_neg (Ne.symm f)]
theorem Gg (w:World) (a:Addr) (n:Nat):(w.freeze a n).heap.size=w.heap.size:=by
 unfold World.freeze
 split
 ·rfl
 ·simp
theorem Od (w:World) (a:Addr) (n:Nat):(w.freeze a n).os=w.os/\(w.freeze a n).tape=w.tape/\(w.freeze a n).output=w.output/\(w.freeze a n).drawn=w.drawn:=by
 unfold World.freeze
 split<;>exact⟨rfl,rfl,rfl,rfl⟩
theorem HL.Oe {j:J}{w:World}{h h':ah}(hl:HL j w [] [] h) (i:∀id o,h' id=some o->h id=some o){b n:Nat}(l:Own j h [] b) (m:¬Own j h' [] b) :
  HL j (w.freeze ⟨b,0,none⟩ n) [] [] h'/\bw j w (Own j h []) j (w.freeze ⟨b,0,none⟩ n) (Own j h' []):=by
 have hle:Le j w j (w.freeze ⟨b,0,none⟩ n):=⟨Nat.le_refl _,fun _ _=>rfl,fun _=>Nat.le_refl _,fun _ _ _=>Oc _ _ _ _,fun _ _=>.inl rfl⟩;have p:HL j w [] [] h':=⟨hl.1.sub i,⟨.nil,by simp,by simp⟩⟩;have hk:=p.keep hle (fun x f=>⟨Gf _ _ _ (fun e=>m (by have g:x=b:=e; rw [<- g]; exact f)),rfl⟩) (fun _ _ _=>rfl) (fun x k=>hl.1.fresh x (by rw [Gg] at k; exact k));obtain⟨q,r,s,t⟩:=Od w ⟨b,0,none⟩ n
 exact⟨hk.1,{ toLe:=hle,size:=by rw [Gg]; exact Nat.le_refl _,frame:=fun x _ hn=>⟨Gf _ _ _ (fun e=>hn (by have g:x=b:=e; rw [g]; exact l)),rfl⟩,own:=fun x _ f=>Own.sub i f,os:=q,tape:=r,output:=⟨s,by rw [t]; exact .inl (Nat.le_refl _)⟩ }⟩
theorem Of {P:Program}{ρ:Ren}(L:Lays.n169 P ρ) (X:Builder.Extra P ρ){F:Nat}(ab:F=ρ.f 169){T E:TypeId}(ad:T=ρ.t 72) (ae:E=ρ.t 5){H:ah}{i tk:Nat}{x:bT}{r:Bs}(G:zW x=some r)
  (hc:H i=some (.dz T (x.cg i (some tk)))) (ht:H tk=some (.tok 1 x.cW.l.length (some E))) :
  AC P F [.d (.ptr i 0)] H fun v h'=>v=.a (.d (.str r))/\h'=(H.set tk none).set i none:=by
 subst ab ad ae;unfold zW at G
 split at G
 case isFalse=>cases G
 rename_i af
 obtain⟨ag,ai⟩:=af;obtain rfl:=Option.some.inj G;refine⟨enters_of L.f169 (by kernel_rfl) rfl,fun j w c hr J=>?_⟩;cases J with
 | cons a1 J =>
 cases J
 rename_i v1
 have aj:aB j w (.ptr i 0) v1:=a1;cases aj with
 | ptr _ _ hid =>
 obtain⟨hn,cs,O,m,aP⟩:=hr.obj i _ hc;obtain⟨aQ,dP,Q,hblk,al⟩:=hr.obj tk _ ht;unfold bT.cg at m;cases m with
 | @cons _ p _ _ aR m =>
 cases m with
 | @cons _ v _ _ hv m =>
 cases m;have I:∀id o,((H.set tk none).set i none) id=some o->H id=some o:=by
  intro id o h;simp only [ah.set] at h
  split at h
  ·cases h
  ·split at h
   ·cases h
   ·exact h
 have s:aB j w (.slice 1 (some tk) x.cW.nl (x.cW.l.map (bp .u8))) v:=hv;rcases ai with ⟨K,q⟩|⟨K,q⟩
 ·rw [K,q] at s;cases s;refine(N6 L X (j.out i) p w O).mono ?_;rintro e w' ⟨rfl,rfl⟩;have am:gu x.cW=[]:=by simp [gu,q]
  rw [am];refine⟨_,_,j,_,rfl,⟨rfl,rfl⟩,aB.str [] (by simp [eF]),((HL.drew (⟨hr,⟨.nil,by simp,by simp⟩⟩:HL j w [] [] H)).1).sub I,(bw.drew j w _).trans ?_⟩;exact { bw.refl j _ (Own j H []) with own:=fun b _ an=>Own.sub I an }
 ·rw [K] at s;generalize ao:x.cW.l.map (bp .u8)=rows at s;cases s with
  | slice _ _ _ aT cap cv hk M R bH ap aq =>
  subst ao;rw [List.length_map] at M R;obtain⟨_,au⟩:=aq tk rfl;obtain⟨_,S⟩:=au _ Q;rw [List.length_map] at S;have U:x.cW.l.length≠0:=by simpa using q
  rcases S rfl with ⟨av,_⟩|⟨b,aw,ax⟩
  ·exact absurd (al rfl av) U
  ·subst ax;have W:dP=some (b,cap):=aw;obtain⟨ay,ce,az,aA,aU,aV,aC⟩:=hblk b cap W;have aD:ce=ρ.t 5:=aC _ rfl;subst aD;have aE:∀k y,(gu x.cW)[k]?=some y->w.cell? ((⟨b,0,none⟩:Addr).add k)=some (.int .u8 y.toNat):=by
    intro k y g;unfold gu at g;rw [List.getElem?_map] at g;cases u:x.cW.l[k]? with
    | none=>rw [u] at g; cases g
    | some z =>
     rw [u] at g;simp only [Option.map_some,Option.some.injEq] at g;have Y:(x.cW.l.map (bp .u8)).flatten=x.cW.l.map (D.int .u8):=by
      generalize x.cW.l=l;induction l with
      | nil=>rfl
      | cons a r aF=>simp [bp,aF]
     have N:k<(x.cW.l.map (bp .u8)).flatten.length:=by rw [Y,List.length_map]; exact(List.getElem?_eq_some_iff.1 u).1
     have h1:=(bH.2 k N).2;have B:=ap k N;have aG:(x.cW.l.map (bp .u8)).flatten[k]=D.int .u8 z:=by
      have Z:(x.cW.l.map (bp .u8)).flatten[k]?=some (D.int .u8 z):=by rw [Y,List.getElem?_map,u]; rfl
      rw [List.getElem?_eq_getElem N] at Z; simpa using Z
     rw [aG] at B;generalize cv k=aW at h1 B;cases B;rw [add_plain,Nat.zero_add];have aH:=List.all_eq_true.1 ag z (List.mem_of_getElem? u);have aJ:0<=z/\z<256:=of_decide_eq_true aH;rw [Nat.zero_add] at h1;rw [h1,<- g];have:(UInt8.ofNat z.toNat).toNat=z.toNat:=by
      rw [UInt8.toNat_ofNat']; omega
     rw [this,Int.toNat_of_nonneg aJ.1]
   have C:(gu x.cW).length=x.cW.l.length:=by simp [gu]
   have aK:w.heap[j.out i]?=some (.cells #[p,.slice (some ⟨b,0,none⟩) (gu x.cW).length cap] (ρ.t 72) (0,0)):=by rw [C]; simpa using O
   refine(N5 L X (j.out i) b cap p ay (gu x.cW) w (by rw [C]; exact U) aK az (by rw [C]; exact R) (by rw [C]; unfold cL at M; omega) aA aE).mono ?_;rintro e w' ⟨rfl,rfl⟩;have aa:bD j tk (.tok 1 x.cW.l.length (some (ρ.t 5)))=some b:=by simp [bD,Q,W]
   have aL:¬Own j ((H.set tk none).set i none) [] b:=by
    rintro (h1|⟨id,o,h1,B⟩)
    ·cases h1
    ·have:=hr.inj id o tk _ b (I _ _ h1) ht B aa;subst this;by_cases e:id=i
     ·subst e; rw [ah.bX] at h1; cases h1
     ·rw [ah.bP _ _ e,ah.bX] at h1; cases h1
   have aM:HL j w [] [] H:=⟨hr,⟨.nil,by simp,by simp⟩⟩;have q:HL j w.drew [] [] H:=aM.drew;obtain⟨aN,aO⟩:=q.Oe (ak:=ak) I (n:=(gu x.cW).length) (.inr ⟨tk,_,ht,aa⟩) aL;exact⟨_,_,j,_,rfl,⟨rfl,rfl⟩,aB.str (gu x.cW) (by rw [C]; unfold cL at M; unfold eF; omega),aN.1,(bw.drew j w _).trans aO⟩
section
variable {P:Program}{ts:Ts}{ls:List (List D)}{h:ah}{dst:Option Tmp}{ty:TypeId}{pos:String}{aC:Array Edge}{g:Option (Nat×Bool)}
def wG (s:Bs):Sl Int:=⟨false,s.map fun b=>(b.toNat:Int)⟩
theorem ar.Og {t u e:TypeId}{j o b:TI}{x y:Operand}{tk k m:Nat}{E:TypeId}{s v:Sl Int}{r:Bs}{z:A}(p:aM P t=some j) (hk:j.k=.slice e) (q:aM P e=some b) (w:aM P u=some o) (B:o.k=.str)
  (C:b.zero=some z) (F:(cn z).length=b.size) (G:b.size=1) (H:ev ts x=.a (.d (s.d k (bp .u8) (some tk)))) (I:ev ts y=.a (.d (.str r))) (f:k=b.size)
  (J:h tk=some (.tok b.size m (some E))) (hm:m=s.l.length) (K:E=e) (hr:aZ b.bytes s (wG r)=some v) :
  ar P (mk dst (.call { callee:=.builtin .append,args:=#[x,y],argTypes:=#[t,u] }) ty pos aC g) ts ls h { rh:=true,wh:=true } (.a (.d (v.d k (bp .u8) (some tk)))) ls (h.set tk (some (.tok b.size v.l.length (some E)))):=by
 obtain⟨e,h1,L⟩:=uy hr;subst e;have i:jM r=(wG r).l.map (bp .u8):=by simp [jM,wG,bp]
 have:=ar.MQ (ak:=ak) (P:=P) (dst:=dst) (ty:=ty) (pos:=pos) (aC:=aC) (g:=g) (ls:=ls) p hk q w B C F G H I (.inl f) J (by rw [hm]; simp) (by rw [i]; simpa using h1) (by rw [i]; simpa using L) (fun T h=>by cases h; exact K);rw [i] at this;simp only [List.length_map,List.length_append] at this ⊢;rw [<- List.map_append,List.isEmpty_map,<- f] at this;rw [<- f];exact this
end
class jO (ak:bf):Prop where
 is:ak.ET
instance:jO bf.on:=⟨trivial⟩
theorem HL.below [hq:jO ak] {j:J}{w w':World}{jl:List Nat}{ls:List (List D)}{h:ah}(hl:HL j w jl ls h) (f:Below w.heap.size w w'):HL j w' jl ls h/\bw j w (Own j h jl) j w' (Own j h jl):=by
 have hle:Le j w j w':=⟨Nat.le_refl _,fun _ _=>rfl,fun _=>Nat.le_refl _,fun b o g=>p7 (f.block b (by
  rcases Nat.lt_or_ge b w.heap.size with h|h
  ·exact h
  ·rw [hl.1.fresh b h] at g; omega)),fun _ _=>.inl rfl⟩
 have hk:=hl.keep hle (fun b g=>⟨f.block b (g.lt hl),rfl⟩) (fun _ _ _=>rfl) (fun b h=>hl.1.fresh b (by have:=f.size; omega));exact⟨hk.1,{ toLe:=hle,size:=f.size,frame:=fun b h _=>⟨f.block b h,rfl⟩,own:=fun b _ g=>g,os:=f.os,tape:=f.tape,output:=⟨f.output,.inr hq.is⟩ }⟩
end Go.Ab
/-
 strings.IndexRune and strings.IndexAny at runes beyond ASCII,over signs that are ASCII. No program text.
-/
namespace Go.Proofs
open Go Go.Shelf Go.RowKit Go.Lib
variable {P:Program}{ρ:Ren}
end Go.Proofs
/-
 strings.IndexAny of whatever string,over two or more ASCII signs. No program text.
-/
namespace Go.Proofs
open Go Go.Shelf Go.RowKit Go.Lib
variable {P:Program}{ρ:Ren}
theorem Yd (s:ByteArray) (i:Nat) (h:i<s.size):s.get! i=s[i]'h:=by
 simp [ByteArray.get!,getElem!_pos,h]; rfl
end Go.Proofs
/-
 The library's searches in strings,strconv.Atoi,as contracts. No program text.
-/
namespace Go.Ab
open Go Go.RowKit Go.Proofs Go.Shelf
variable {ak:bf}
def isAscii (s:Bs):Bool:=s.all fun b=>decide (b.toNat<128)
theorem Oh {s:Bs}(h:isAscii s=true):∀(j:Nat) b,(⟨s.toArray⟩:ByteArray).data.toList[j]?=some b->b.toNat<128:=fun j b f=>by
 have h1:s[j]?=some b:=by simpa using f
 have g:=List.mem_of_getElem? h1;have i:=List.all_eq_true.1 h b g
 simpa using i
theorem Oi {P:Program}{ρ:Ren}(L:Lays.n106 P ρ){s t:Bs}{F:Nat}(g:F=ρ.f 106){H:ah} :
  AC P F [.d (.str s),.d (.str t)] H fun v h'=>v=.a (.d (.int .i64 (Lib.compareBytes s t)))/\h'=H:=by
 subst g;refine AC.N3 (cF:=[]) (cv:=.int .i64 (Lib.compareBytes s t)) (enters_of L.f106 (by kernel_rfl) rfl) fun j w c' hr b=>?_;cases b with
 | cons a1 b =>
 cases b with
 | cons a2 b =>
 cases b
 rename_i v1 v2
 have i:aB j w (.str s) v1:=a1;have k:aB j w (.str t) v2:=a2;cases i; cases k;refine⟨aB.int _ _, ?_⟩;have l:=Any.strings_Compare L ⟨s.toArray⟩ ⟨t.toArray⟩ w
 simpa using l
end Go.Ab
/-
 strings.ToLower on ASCII text,as a contract. No program text.
-/
namespace Go.Ab
open Go Go.RowKit Go.Proofs Go.Shelf
variable {ak:bf}
def zX (s:Bs):Option Bs:=if s.length<=cL/\isAscii s=true then some (Lib.toLowerA s) else none
theorem Oj {P:Program}{ρ:Ren} [jO ak] (L:Lays.n159 P ρ) (X:Builder.Extra P ρ){s r:Bs}(b:zX s=some r){F:Nat}(i:F=ρ.f 159){H:ah} :
  AC P F [.d (.str s)] H fun v h'=>v=.a (.d (.str r))/\h'=H:=by
 subst i;unfold zX at b
 split at b
 case isFalse=>cases b
 rename_i hc
 obtain rfl:=Option.some.inj b;refine⟨enters_of L.f159 (by kernel_rfl) rfl,fun j w c hr g=>?_⟩;cases g with
 | cons a1 g =>
 cases g
 rename_i v1
 have k:aB j w (.str s) v1:=a1;cases k;have l:=Any.strings_ToLower_ascii L X ⟨s.toArray⟩ w (by have:=hc.1; unfold cL at this; simp [ByteArray.size]; omega) (Oh hc.2);refine l.mono ?_;rintro e w' ⟨rfl,m⟩;have hl:HL j w [] [] H:=⟨hr,⟨.nil,by simp,by simp⟩⟩;obtain⟨o,p⟩:=hl.below (ak:=ak) m;have he:(⟨(Lib.toLowerA (⟨s.toArray⟩:ByteArray).data.toList).toArray⟩:ByteArray)=⟨(Lib.toLowerA s).toArray⟩:=by simp
 rw [he];exact⟨_,_,j,H,rfl,⟨rfl,rfl⟩,aB.str _ (by have:=hc.1; unfold cL at this; unfold eF; simp [Lib.toLowerA]; omega),o.1,p⟩
end Go.Ab
/-
 Functions that call a yield; loops over a function. No program text.
-/
namespace Go.Ab
open Go Go.RowKit
variable {ak:bf}
def gX:ah:=fun _=>none
structure gD (C:List Nat) (W W':World):Prop where
 size:W.heap.size<=W'.heap.size
 cells:∀b o,W.heap[b]?=some o->o.isCells=true->b∉C->W'.heap[b]?=some o
theorem gD.refl (C:List Nat) (W:World):gD C W W:=⟨Nat.le_refl _,fun _ _ h _ _=>h⟩
theorem gD.trans {C:List Nat}{A B W:World}(h:gD C A B) (k:gD C B W):gD C A W:=⟨Nat.le_trans h.size k.size,fun b o g f hc=>k.cells b o (h.cells b o g f hc) f hc⟩
theorem gD.grown {C:List Nat}{A B:World}(h:A.grownBy B none):gD C A B:=⟨h.size,fun b o f _ _=>(h.block b (fO f) (by simp)).trans f⟩
theorem gD.put {C:List Nat}(W:World) (l:Nat) (o o':Go.Obj) (h:W.heap[l]?=some o) (hc:o.isCells=false):gD C W (W.putObj l o'):=by
 refine⟨by simp,fun b j f g _=>?_⟩;have i:b≠l:=fun e=>by subst e; rw [h] at f; cases f; rw [hc] at g; cases g
 rw [World.putObj_heap_other i]; exact f
theorem cells_of_cell {W:World}{b o:Nat}{c:Value}(h:W.cell? ⟨b,o,none⟩=some c):∃f:Go.Obj,W.heap[b]?=some f/\f.isCells=true:=by
 unfold World.cell? at h;cases g:W.heap[b]? with
 | none=>simp [g] at h
 | some f=>exact⟨f,rfl,by cases f<;>simp_all [Go.Obj.isCells]⟩
theorem gD.data {C:List Nat}{j:J}{W W':World}(hk:gD C W W') (hC:∀b∈C,j.F b=0){b o:Nat}{c:Value}(f:o<j.F b) (h:W.cell? ⟨b,o,none⟩=some c):W'.cell? ⟨b,o,none⟩=some c:=by
 obtain⟨g,h1,i⟩:=cells_of_cell h;have k:=hk.cells b g h1 i (fun l=>by rw [hC b l] at f; omega);rw [<- h];unfold World.cell?;simp only [h1,k]
theorem aB.kept {j:J}{W W':World}(p:∀b o c,o<j.F b->W.cell? ⟨b,o,none⟩=some c->W'.cell? ⟨b,o,none⟩=some c){x:D}{v:Value}(h:aB j W x v):aB j W' x v:=by
 induction h with
 | bool b=>exact .bool b
 | int k n=>exact .int k n
 | str s h=>exact .str s h
 | fB k tok ht=>exact .fB k tok ht
 | slice k tok rows a cap cv hk hn hc bH hr ht g=>exact .slice k tok rows a cap cv hk hn hc ⟨bH.1,fun i hi=>⟨(bH.2 i hi).1,p _ _ _ (bH.2 i hi).1 (bH.2 i hi).2⟩⟩ g ht
 | arr k id nl len a cap hid hv=>exact .arr k id nl len a cap hid hv
 | eX id m off b hid hv=>exact .eX id m off b hid hv
 | ep=>exact .ep
 | ptr id off h=>exact .ptr id off h
 | view cells a cv bH hr g=>exact .view cells a cv ⟨bH.1,fun i hi=>⟨(bH.2 i hi).1,p _ _ _ (bH.2 i hi).1 (bH.2 i hi).2⟩⟩ g
 | jK=>exact .jK
 | map id b hid hv=>exact .map id b hid hv
 | nilFunc=>exact .nilFunc
 | func f bZ gK hl hr g=>exact .func f bZ gK hl g
 | yield l=>exact .yield l
 | ru t b c=>exact .ru t b c
 | nilIface=>exact .nilIface
 | iface t x v h g=>exact .iface t x v g
theorem cM.kept {j:J}{W W':World}(f:∀b o c,o<j.F b->W.cell? ⟨b,o,none⟩=some c->W'.cell? ⟨b,o,none⟩=some c){x:A}{v:Value}(h:cM j W x v):cM j W' x v:=by
 cases x with
 | d x=>exact aB.kept f h
 | agg xs=>obtain⟨cs,e,h⟩:=h; exact⟨cs,e,h.imp fun _ _ h=>h.kept f⟩
theorem aX.kept {j:J}{W W':World}(f:∀b o c,o<j.F b->W.cell? ⟨b,o,none⟩=some c->W'.cell? ⟨b,o,none⟩=some c){jl:List Nat}{x:V}{v:Value}(h:aX j W jl x v):aX j W' jl x v:=by
 cases x with
 | any=>trivial
 | a x=>exact cM.kept f h
 | cV i off=>exact h
 | cS xs=>obtain⟨cs,e,h⟩:=h; exact⟨cs,e,h.imp fun _ _ h=>h.kept f⟩
 | gd c x=>exact⟨fun hc=>cM.kept f (h.1 hc),h.2⟩
 | gr c i off=>exact h
 | full k rows=>exact⟨h.1.kept f,h.2⟩
 | oe c k rows=>exact⟨fun hc=>⟨(h.1 hc).1.kept f,(h.1 hc).2⟩,h.2⟩
theorem wH {j:J}{w:World}(h:∀b,w.heap.size<=b->j.F b=0):HL j w [] [] gX:=⟨⟨fun _ _ h=>(by cases h),fun _ _ _ _ _ h=>(by cases h),h⟩,⟨.nil,by simp,by simp⟩⟩
def Live (C:List Nat) (Jw:World->Prop) (W0:World) (n:Nat) (ts:Ts) (a:Act) (w:World):Prop :=
 ∃j:J,dB j w [] ⟨n,ts,[],gX⟩ a/\(∀b∈C,b<w.heap.size/\j.F b=0)/\gD C W0 w/\Jw w
def lK (Jw:World->Prop):Prop:=∀A B:World,Jw A->A.grownBy B none->Jw B
theorem wI {j:J}{b:Nat}:¬Own j gX [] b:=by
 rintro (h|⟨id,o,h,_⟩)
 ·cases h
 ·cases h
section
variable {C:List Nat}{Jw:World->Prop}{W0:World}{P:Program}{n m:Nat}{ts:Ts}{a:Act}{w:World}
theorem Live.next (m:lK Jw){j j':J}{w':World}{i:Act}{ts':Ts}(hC:∀b∈C,b<w.heap.size/\j.F b=0) (hk:gD C W0 w) (o:Jw w) (p:dB j' w' [] ⟨n,ts',[],gX⟩ i) (f:bw j w (Own j gX []) j' w' (Own j' gX [])) :
  Live C Jw W0 n ts' i w':=by
 have l:w.grownBy w' none:=⟨f.os,f.tape,f.output.1,f.size,fun k hk _=>(f.frame k hk wI).1⟩;exact⟨j',p,fun b g=>⟨Nat.lt_of_lt_of_le (hC b g).1 f.size,(f.frame b (hC b g).1 wI).2.trans (hC b g).2⟩,hk.trans (.grown l),m _ _ o l⟩
theorem Live.ay {x y:Code}(o:lK Jw) (h:Live C Jw W0 n ts a w){Q:Exit->Act->World->Prop}
  (p:∀K:Ts->Prop,(∀ts',(∀b w',Live C Jw W0 n ts' b w'->y.wpIn Fence.wide m P Q b w')->K ts')->ag P x (fun e f=>e=.normal/\f.n=n/\f.ls=[]/\f.h=gX/\K f.ts) ⟨n,ts,[],gX⟩):(Code.seq x y).wpIn Fence.wide m P Q a w:=by
 refine wpIn_seq ?_;obtain⟨j,q,hC,hk,r⟩:=h;refine wpIn_wide.2 (wp_mono (p (fun ts'=>∀b w',Live C Jw W0 n ts' b w'->y.wpIn Fence.wide m P Q b w') (fun _ h=>h) j w [] a q) ?_);rintro e b w' ⟨f,j',s,⟨he,h1,g,i,k⟩,l,t⟩;obtain⟨v,ts',aH,h'⟩:=f;simp only at h1 g i k;subst he h1 g i;have u:s=[]:=by have:=l.hl.2.each.length; simpa using this.symm
 subst u;exact k _ _ (Live.next o hC hk r l t)
theorem Live.Ol {x:Code}{R:Act->World->Prop}(o:lK Jw) (h:Live C Jw W0 n ts a w){Q:Exit->Act->World->Prop}
  (p:∀K:Ts->Prop,(∀ts',(∀b w',Live C Jw W0 n ts' b w'->R b w')->K ts')->ag P x (fun e f=>e=.normal/\f.n=n/\f.ls=[]/\f.h=gX/\K f.ts) ⟨n,ts,[],gX⟩):x.wpIn Fence.wide m P (Exit.then R Q) a w:=by
 obtain⟨j,q,hC,hk,r⟩:=h;refine wpIn_wide.2 (wp_mono (p (fun ts'=>∀b w',Live C Jw W0 n ts' b w'->R b w') (fun _ h=>h) j w [] a q) ?_);rintro e b w' ⟨f,j',s,⟨he,h1,g,i,k⟩,l,t⟩;obtain⟨v,ts',aH,h'⟩:=f;simp only at h1 g i k;subst he h1 g i;have u:s=[]:=by have:=l.hl.2.each.length; simpa using this.symm
 subst u;exact k _ _ (Live.next o hC hk r l t)
theorem Live.bool {t:Nat}{b:Bool}(h:Live C Jw W0 n ts a w) (g:get ts t=.a (.d (.bool b))):a.eval (.tmp t)=.bool b:=by
 obtain⟨j,i,_⟩:=h;have h1:=i.tmps t;rw [g] at h1;have f:aB j w (.bool b) (a.tmps.getD t undef):=h1;show a.tmps.getD t undef=_;generalize a.tmps.getD t undef=v at f;cases f; rfl
theorem Live.weaken {ts':Ts}(h:Live C Jw W0 n ts a w) (hw:∀k,get ts' k=.any\/get ts' k=get ts k):Live C Jw W0 n ts' a w:=by
 obtain⟨j,b,r⟩:=h;refine⟨j,⟨b.defers,b.size,fun k=>?_,b.hl⟩,r⟩;rcases hw k with e|e
 ·show aX _ _ _ (get ts' k) _; rw [e]; trivial
 ·show aX _ _ _ (get ts' k) _; rw [e]; exact b.tmps k
theorem Live.to {ts':Ts}(h:Live C Jw W0 n ts a w) (hk:dY ts ts':=by(repeat (first|exact dY.nil|refine dY.cons rfl ?_))):Live C Jw W0 n ts' a w:=h.weaken hk.get
theorem Live.core {o:Oper}{Q:Exit->Act->World->Prop}{fx:Fx}{v:V}{aH:List (List D)}{h':ah}(p:lK Jw) (q:ar P o ts [] gX fx v aH h') (L:(fx.wl||fx.wh)=false) (t:iq o.dst n=true)
  (h:Live C Jw W0 n ts a w) (K:Act->World->Prop) (y:∀k w',Live C Jw W0 n (ij o.dst v ts) k w'->K k w'):o.wpIn Fence.wide m P a w K Q:=by
 obtain⟨j,b,hC,hk,z⟩:=h;have h1:=q.step j w [] a b.hl (fun x _=>mH b.tmps x) K Q fun u M N cv j' w' B r hv hl E l=>by
  obtain⟨F,g,i⟩:=r;have G:fx.wl=false:=by cases hh:fx.wl<;>simp_all
  have H:fx.wh=false:=by cases hh:fx.wh<;>simp_all
  rw [G] at g; rw [H] at i;simp only [cond_false] at g i;subst F g i;have I:B=[]:=by have:=hl.2.each.length; simpa using this.symm
  subst I;exact y _ _ (Live.next p hC hk z (b.put l.toLe E t hv hl) l)
 refine⟨fun _ _=>trivial, ?_⟩;unfold Oper.wp at h1;rw [show o.semAt Fence.wide.round a.eval=execOp a.eval o from rfl];generalize (execOp a.eval o).run P w=r at h1;cases r with
 | ok J w' =>
  cases J with
  | enter f args=>exact⟨fun h=>(by cases h),callsIn_wide.2 h1⟩
  | row row args=>exact⟨fun h=>(by cases h),fun c cs _=>by obtain⟨v,w',r,s⟩:=h1 c cs; exact⟨v,w',r,stepsIn_wide.2 s⟩⟩
  | round=>exact h1.elim
  | _=>exact h1
 | halt s w'=>cases s<;>exact h1
theorem Live.op {ops:Array Oper}{rest:List Oper}{o:Oper}{Q:Exit->Act->World->Prop}{fx:Fx}{v:V}{aH:List (List D)}{h':ah}(f:lK Jw) (h:Live C Jw W0 n ts a w) (g:ar P o ts [] gX fx v aH h') (i:(fx.wl||fx.wh)=false) (j:o.guard=none) (k:iq o.dst n=true)
  (hr:∀b w',Live C Jw W0 n (ij o.dst v ts) b w'->wpListIn Fence.wide m P ops Q rest b w'):wpListIn Fence.wide m P ops Q (o::rest) a w :=
 wpListIn_plain j fun K l=>Live.core f g i k h K fun b w' hl=>l _ _ (hr b w' hl)
theorem Live.want {ops:Array Oper}{o:Oper}{g:Nat}{want b:Bool}(f:guardOf ops o=some (g,want)) (i:get ts g=.a (.d (.bool b))) (h:Live C Jw W0 n ts a w):Region.wanted o (yielded ops a.tmps)=(b==want):=by
 obtain⟨j,k,_⟩:=h; exact zf f i (k.tmps g)
theorem Live.qo {ops:Array Oper}{rest:List Oper}{o:Oper}{Q:Exit->Act->World->Prop}{fx:Fx}{v:V}{aH:List (List D)}{h':ah}{g:Nat}{b:Bool}(i:lK Jw) (h:Live C Jw W0 n ts a w) (j:ar P o ts [] gX fx v aH h') (k:(fx.wl||fx.wh)=false) (l:guardOf ops o=some (g,b)) (p:get ts g=.a (.d (.bool b))) (q:iq o.dst n=true)
  (hr:∀f w',Live C Jw W0 n (ij o.dst v ts) f w'->wpListIn Fence.wide m P ops Q rest f w'):wpListIn Fence.wide m P ops Q (o::rest) a w:=by
 refine wpListIn_step fun K r=>?_;rw [Live.want l p h,if_pos (by simp)];exact Live.core i j k q h K fun f w' hl=>r _ _ (hr f w' hl)
theorem Live.qp {ops:Array Oper}{rest:List Oper}{o:Oper}{Q:Exit->Act->World->Prop}{g:Nat}{b:Bool}(h:Live C Jw W0 n ts a w) (k:guardOf ops o=some (g,!b)) (l:get ts g=.a (.d (.bool b))) (p:iq o.dst n=true)
  (hr:∀f w',Live C Jw W0 n (ij o.dst .any ts) f w'->wpListIn Fence.wide m P ops Q rest f w'):wpListIn Fence.wide m P ops Q (o::rest) a w:=by
 refine wpListIn_step fun K q=>?_;rw [Live.want k l h,if_neg (by cases b<;>simp)];obtain⟨j,i,r⟩:=h;exact⟨fun _ _=>trivial,q _ _ (hr _ _ ⟨j,i.put (Le.refl _ _) (Ext.refl _) p (v:=.any) trivial i.hl,r⟩)⟩
theorem Live.wJ {d:Nat}{cv:Value}(f:iq (some d) n=true) (v:V) (hv:∀j w,aX j w [] v cv) (h:Live C Jw W0 n ts a w):Live C Jw W0 n ((d,v)::ts) (a.put (some d) cv) w:=by
 obtain⟨j,b,r⟩:=h;exact⟨j,b.put (Le.refl _ _) (Ext.refl _) (dst:=some d) f (v:=v) (hv _ _) b.hl,r⟩
theorem Live.round {wK:World->Prop}{w':World}(h:Live C Jw W0 n ts a w) (hk:gD C w w') (i:wK w'):Live C wK W0 n ts a w':=by
 obtain⟨j,g,hC,l,_⟩:=h;have m:∀b∈C,j.F b=0:=fun b f=>(hC b f).2;have p:∀b o c,o<j.F b->w.cell? ⟨b,o,none⟩=some c->w'.cell? ⟨b,o,none⟩=some c:=fun b o c q hc=>hk.data m q hc;exact⟨j,⟨g.defers,g.size,fun k=>(g.tmps k).kept p,wH fun b f=>g.hl.1.fresh b (Nat.le_trans hk.size f)⟩,fun b f=>⟨Nat.lt_of_lt_of_le (hC b f).1 hk.size,(hC b f).2⟩,l.trans hk,i⟩
def Pure (ts:Ts):Prop:=∀j j' w w' (k:Nat) v,aX j w [] (get ts k) v->aX j' w' [] (get ts k) v
theorem Live.dead {g:World->Prop}{w':World}{ts':Ts}(h:Live C Jw W0 n ts a w) (hw:∀k,get ts' k=.any\/get ts' k=get ts k) (i:Pure ts') (l:g w'):Live [] g w' n ts' a w':=by
 obtain⟨j,f,_⟩:=Live.weaken h hw;exact⟨⟨fun _=>0,fun _=>0,fun _=>none,0⟩,⟨f.defers,f.size,fun k=>i _ _ _ _ _ _ (f.tmps k),wH fun _ _=>rfl⟩,fun b m=>(by cases m),.refl _ _,l⟩
theorem Om {l:Nat}{f:Operand}{args:Array Operand}{cN:Array TypeId}{dst:Option Tmp}{ty:TypeId}{pos:String}{aC:Array Edge}{g:Option (Nat×Bool)}(b:a.eval f=.func (.yield l) #[] #[]) :
  (execOp a.eval ⟨dst,.call { callee:=.value f,args,argTypes:=cN },ty,pos,aC,g⟩).run P w=(Instr.yield l (args.map a.eval)).run P w:=by
 simp [execOp,resolve,b,Deferred.ofValue,invoke]
theorem Gh {f:FuncId}{args:Array Operand}{cN:Array TypeId}{dst:Option Tmp}{ty:TypeId}{pos:String}{aC:Array Edge}{g:Option (Nat×Bool)}(hc:∀(args:Array Value) (w:World),(callFunc f args).run P w=.ok (.enter f args) w) :
  (execOp a.eval ⟨dst,.call { callee:=.value (.func f),args,argTypes:=cN },ty,pos,aC,g⟩).run P w=.ok (.enter f (args.map a.eval)) w:=by
 simp [execOp,resolve,Act.eval,Deferred.ofValue,invoke,hc]
theorem Live.val {t:Nat}{x:A}(h:Live C Jw W0 n ts a w) (g:get ts t=.a x):∃j,dJ j w gX/\(∀b∈C,b<w.heap.size/\j.F b=0)/\cM j w x (a.eval (.tmp t)):=by
 obtain⟨j,f,hC,_⟩:=h;have h1:=f.tmps t;rw [g] at h1;exact⟨j,f.hl.1,hC,h1⟩
theorem Live.inv (h:Live C Jw W0 n ts a w):Jw w:=let ⟨_,_,_,_,b⟩:=h; b
theorem On (t:Nat) (b:Bool):Pure [(t,.a (.d (.bool b)))]:=fun j j' w w' k v h=>by
 by_cases e:t=k
 ·subst e;rw [fD] at h ⊢;have h':aB j w (.bool b) v:=h;cases h'; exact aB.bool _
 ·rw [eN _ _ e]; trivial
theorem pure_nil:Pure []:=fun _ _ _ _ _ _ _=>trivial
theorem Live.zY {T:List TI}(ew:je P T){fn:Func}{t:Nat}{b:Bool}(h:Live C Jw W0 n ts a w) (g:get ts t=.a (.d (.bool b))) (hr:fn.results.toList=[.tmp t]):a.defers=[]/\∃v,(results fn a.tmps).run P w=.ok v w/\v=.bool b:=by
 obtain⟨j,f,_⟩:=h;obtain⟨v,h1,i⟩:=wj (P:=P) ew f hr (xs:=[.d (.bool b)]) (by simp [jf,uh,g]);refine⟨f.defers,v,h1, ?_⟩;have k:aB j w (.bool b) v:=i;cases k; rfl
end
theorem Oo (i n:Nat) (h:i<n) (hn:n<=cL):bG ((i:Nat):Int) 1=some (((i+1:Nat)):Int):=by
 unfold bG; unfold cL at hn; rw [if_pos (by omega)]; simp
end Go.Ab
/-
 The rounds of a loop over a function: operations in a round,what a round may have turned; a function that returns behind such a loop. No program text.
-/
namespace Go.Ab
open Go Go.RowKit
variable {ak:bf}
section
variable {P:Program}{ops:Array Oper}{rest:List Oper}{o:Oper}{Q:Exit->Act->World->Prop}{a:Act}{W W':World}{F:Fence}{m:Nat}{v:Value}
theorem jP (b:∀f,F.fn f) (g:o.guard=none) (i:∀c,o.op≠.defer c) (hr:(execOp a.eval o).run P W=.ok (.value v) W') (h:wpListIn F m P ops Q rest (a.put o.dst v) W'):wpListIn F m P ops Q (o::rest) a W :=
 wpListIn_plain g fun K j=>⟨fun f _=>b f,by rw [Oper.semAt_eq _ _ _ i,hr]; exact j _ _ h⟩
theorem zZ (b:∀f,F.fn f) (g:o.guard=none) (i:∀c,o.op≠.defer c) (hr:(execOp a.eval o).run P W=.ok .skip W') (h:wpListIn F m P ops Q rest (a.put o.dst undef) W'):wpListIn F m P ops Q (o::rest) a W :=
 wpListIn_plain g fun K j=>⟨fun f _=>b f,by rw [Oper.semAt_eq _ _ _ i,hr]; exact j _ _ h⟩
theorem Gi (b:∀f,F.fn f) (hw:Region.wanted o (yielded ops a.tmps)=true) (g:∀c,o.op≠.defer c) (hr:(execOp a.eval o).run P W=.ok (.value v) W') (h:wpListIn F m P ops Q rest (a.put o.dst v) W'):wpListIn F m P ops Q (o::rest) a W :=
 wpListIn_step fun K i=>by rw [if_pos hw]; exact⟨fun f _=>b f,by rw [Oper.semAt_eq _ _ _ g,hr]; exact i _ _ h⟩
theorem Gj (b:∀f,F.fn f) (hw:Region.wanted o (yielded ops a.tmps)=false) (h:wpListIn F m P ops Q rest (a.put o.dst undef) W):wpListIn F m P ops Q (o::rest) a W :=
 wpListIn_step fun K g=>by rw [hw]; exact⟨fun f _=>b f,g _ _ h⟩
theorem wL {g d:Nat}{want b:Bool}(f:o.guard=some (g,want)) (i:(ops[g]?).bind (·.dst)=some d) (j:a.tmps[d]?=some (.bool b)):Region.wanted o (yielded ops a.tmps)=(b==want):=by
 simp only [Region.wanted,f,yielded,i,Option.bind_some,j];cases b<;>cases want<;>rfl
theorem iv {d k:Nat}(v:Value) (h:d<a.tmps.size):(a.put (some d) v).tmps[k]?=if d=k then some v else a.tmps[k]?:=by
 simp only [Act.put,Array.getElem?_setIfInBounds];by_cases e:d=k
 ·rw [if_pos e,if_pos e,if_pos (e▸h)]
 ·rw [if_neg e,if_neg e]
theorem mY {d k:Nat}{v x:Value}(h:a.tmps[k]?=some x) (b:Nat.beq d k=false):(a.put (some d) v).tmps[k]?=some x:=by
 simp only [Act.put,Array.getElem?_setIfInBounds];rw [if_neg (Nat.ne_of_beq_eq_false b)]; exact h
theorem put_eq {d:Nat}{v:Value}(h:d<a.tmps.size):(a.put (some d) v).tmps[d]?=some v:=by rw [iv _ h,if_pos rfl]
theorem fQ {k:Nat}{v:Value}(h:a.tmps[k]?=some v):a.eval (.tmp k)=v:=by
 show a.tmps.getD k undef=v;rw [Array.getD_eq_getD_getElem?,h]; rfl
section
variable {dst:Option Tmp}{ty:TypeId}{pos:String}{aC:Array Edge}{g:Option (Nat×Bool)}
theorem wM {t:TypeId}{f:TI}{x:Operand}{b:Nat}{j:TypeId}{d:D}(m:aM P t=some f) (hk:f.k.lF=false) (hl:kS f [d] 0=some (.d d)) (o:a.eval x=.pointer (some ⟨b,0,none⟩)) (p:W.heap[b]?=some (.cells #[v] j (0,0))) (hv:∀l,aB ⟨fun _=>0,fun _=>0,fun _=>none,0⟩ W d l↔l=v) :
  (execOp a.eval ⟨dst,.load t x,ty,pos,aC,g⟩).run P W=.ok (.value v) W:=by
 have hc:Cells ⟨fun _=>0,fun _=>0,fun _=>none,0⟩ W b 0 [d]:=by
  intro i y hi;cases i with
  | zero =>
   simp only [List.getElem?_cons_zero,Option.some.injEq] at hi;subst hi;exact⟨v,by rw [cell_of_row W b _ #[v] j (0,0) p]; simp,(hv v).2 rfl⟩
  | succ i=>simp at hi
 obtain⟨cv,q,r⟩:=qc (P:=P) hc m (K.qa hk) hl;have s:cv=v:=(hv cv).1 r;subst s;simp [execOp,Instr.loadAt,Instr.sureAddr,o,q]
theorem wN {op:BinOp}{t u:TypeId}{x y:Operand}{k:IntKind}{m n:Int}{r:D}(f:a.eval x=.int k m) (i:a.eval y=.int k n) (hr:ot op k m n=some r) (hv:∀b,aB ⟨fun _=>0,fun _=>0,fun _=>none,0⟩ W r b->b=v) :
  (execOp a.eval ⟨dst,.binOp op t x y u,ty,pos,aC,g⟩).run P W=.ok (.value v) W:=by
 obtain⟨cv,j,l⟩:=Fl (P:=P) (t:=t) hr W;rw [<- hv cv (l _ _)];simp [execOp,f,i,wm,j]
theorem Oq {t:TypeId}{f:TI}{x y:Operand}{b:Nat}{i:TypeId}{v0:Value}{d:D}(l:aM P t=some f) (j:f.size=1) (m:a.eval x=.pointer (some ⟨b,0,none⟩)) (o:a.eval y=v) (p:W.heap[b]?=some (.cells #[v0] i (0,0))) (hv:aB ⟨fun _=>0,fun _=>0,fun _=>none,0⟩ W d v) :
  ∃W',(execOp a.eval ⟨none,.store t x y,ty,pos,aC,g⟩).run P W=.ok .skip W'/\eY W W' b (.cells #[v] i (0,0)):=by
 have q:cM ⟨fun _=>0,fun _=>0,fun _=>none,0⟩ W (.d d) v:=hv;obtain⟨W',r,k⟩:=uj (ak:=ak) (P:=P) (cs:=[v0]) (off:=0) p l q (by rw [j]; rfl) (by rw [j]; exact Nat.le_refl _);have hc:v.cells=#[v]:=by cases hv<;>rfl
 refine⟨W',by simp [execOp,Instr.storeAt,Instr.sureAddr,m,o,r], ?_⟩;rw [hc] at k;exact k
structure oy (A B:World) (b:Nat) (o:Go.Obj):Prop where
 size:B.heap.size=A.heap.size
 here:B.heap[b]?=some o
 other:∀k,k≠b->B.heap[k]?=A.heap[k]?
 os:B.os=A.os
 tape:B.tape=A.tape
 output:B.output=A.output
theorem eY.toB {A B:World}{b:Nat}{o:Go.Obj}(h:eY A B b o):oy A B b o:=⟨h.size,h.here,h.other,h.os,h.tape,h.output.1⟩
theorem z8 {t:TypeId}{f:TI}{x y:Operand}{b:Nat}{i:TypeId}{v0:Value}{d:D}(j:aM P t=some f) (k:f.size=1) (l:a.eval x=.pointer (some ⟨b,0,none⟩)) (m:a.eval y=v) (o:W.heap[b]?=some (.cells #[v0] i (0,0))) (hv:aB ⟨fun _=>0,fun _=>0,fun _=>none,0⟩ W d v) :
  ∃W',(execOp a.eval ⟨none,.store t x y,ty,pos,aC,g⟩).run P W=.ok .skip W'/\oy W W' b (.cells #[v] i (0,0)):=by
 obtain⟨W',h1,p⟩:=Oq (ak:=bf.on) (ty:=ty) (pos:=pos) (aC:=aC) (g:=g) j k l m o hv;exact⟨W',h1,eY.toB (ak:=bf.on) p⟩
theorem run_move {x:Operand}(b:a.eval x=v):(execOp a.eval ⟨dst,.move x,ty,pos,aC,g⟩).run P W=.ok (.value v) W:=by simp [execOp,b]
theorem run_assign {x:Operand}(b:a.eval x=v):(execOp a.eval ⟨dst,.assign x,ty,pos,aC,g⟩).run P W=.ok (.value v) W:=by simp [execOp,b]
theorem Ot {c x y:Operand}(hc:a.eval c=.bool false) (b:a.eval y=v):(execOp a.eval ⟨dst,.pick c x y,ty,pos,aC,g⟩).run P W=.ok (.value v) W:=by simp_all [execOp,asBool]
theorem Ou {c x y:Operand}{b:Bool}(hc:a.eval c=.bool b) (f:(if b then a.eval x else a.eval y)=v):(execOp a.eval ⟨dst,.pick c x y,ty,pos,aC,g⟩).run P W=.ok (.value v) W:=by
 cases b<;>simp_all [execOp,asBool]
end
end
theorem Ov {P:Program}{ops:Array Oper}{rest:List Oper}{Q:Exit->Act->World->Prop}{F:Fence}{m:Nat}(p:∀f,F.fn f){j l i b t:Nat}{o:TI}{w:TypeId}{x:Int}{a:Act}{W:World}{H I z:TypeId}{J K B:String}{f1 f2 f3:Array Edge}
  (C:aM P t=some o) (hO:o.k.lF=false) (L:o.size=1) (hl:∀d,kS o [d] 0=some (.d d)) (h1:a.tmps[j]?=some (.pointer (some ⟨b,0,none⟩))) (E:Nat.beq l j=false/\Nat.beq i j=false) (q:l<a.tmps.size) (s:i<a.tmps.size)
  (G:W.heap[b]?=some (.cells #[.int .i64 x] w (0,0))) (Y : -9223372036854775808<=x+1/\x+1<=9223372036854775807)
  (hr:∀(u:Act) (W':World),(∀k,k≠l->k≠i->u.tmps[k]?=a.tmps[k]?)->u.tmps.size=a.tmps.size->oy W W' b (.cells #[.int .i64 (x+1)] w (0,0))->wpListIn F m P ops Q rest u W') :
  wpListIn F m P ops Q (⟨some l,.load t (.tmp j),H,J,f1,none⟩::⟨some i,.binOp .add t (.tmp l) (.const (.int .i64 1)) t,I,K,f2,none⟩::⟨none,.store t (.tmp j) (.tmp i),z,B,f3,none⟩::rest) a W:=by
 have M:l≠j:=Nat.ne_of_beq_eq_false E.1;have N:i≠j:=Nat.ne_of_beq_eq_false E.2;refine jP p rfl (by simp) (wM C hO (hl _) (fQ h1) G (d:=.int .i64 x) (fun O=>⟨fun h=>(by cases h; rfl),fun h=>(by subst h; exact .int _ _)⟩)) ?_;refine jP p rfl (by simp) (wN (m:=x) (n:=1) (r:=.int .i64 (x+1)) (v:=.int .i64 (x+1)) (k:=.i64) (fQ (by rw [iv _ q,if_pos rfl])) rfl (by simp only [ot,Option.some.injEq,D.int.injEq,true_and]; simp only [IntKind.wrap,IntKind.bits,IntKind.signed]; simp; omega) (fun O h=>by cases h; rfl)) ?_
 obtain⟨W',R,S⟩:=z8 (P:=P) (t:=t) (a:=(a.put (some l) (.int .i64 x)).put (some i) (.int .i64 (x+1))) (x:=.tmp j) (y:=.tmp i) (v:=.int .i64 (x+1)) (ty:=z) (pos:=B) (aC:=f3) (g:=none) C L
  (fQ (by rw [iv _ (by rw [fR]; exact s),if_neg N,iv _ q,if_neg M]; exact h1)) (fQ (by rw [iv _ (by rw [fR]; exact s),if_pos rfl])) G (.int _ _)
 refine zZ p rfl (by simp) R (hr _ _ (fun k U X=>?_) (by rw [fR,fR,fR]) S);show ((a.put (some l) _).put (some i) _).tmps[k]?=_;rw [iv _ (by rw [fR]; exact s),if_neg (Ne.symm X),iv _ q,if_neg (Ne.symm U)]
theorem Ow {P:Program}{ops:Array Oper}{rest:List Oper}{Q:Exit->Act->World->Prop}{F:Fence}{m:Nat}(i:∀f,F.fn f){E d1 d2 d3 d4 d5 d6 j b t gi:Nat}{s:TI}{J:TypeId}{x y p q:Int}{a:Act}{W:World}{K L M N O R:TypeId}{S U X Y Z aa:String}{f1 f2 f3 f4 f5 f6:Array Edge}
  (ab:aM P t=some s) (hO:s.k.lF=false) (hl:∀d,kS s [d] 0=some (.d d)) (h1:a.tmps[E]?=some (.pointer (some ⟨b,0,none⟩))) (ad:a.tmps[j]?=some (.int .i64 y)) (ae:W.heap[b]?=some (.cells #[.int .i64 x] J (0,0)))
  (l:(ops[gi]?).bind (·.dst)=some d3) (af:d1<a.tmps.size/\d2<a.tmps.size/\d3<a.tmps.size/\d4<a.tmps.size/\d5<a.tmps.size/\d6<a.tmps.size)
  (ag:Nat.beq d1 j=false/\Nat.beq d2 j=false/\Nat.beq d3 j=false/\Nat.beq d4 d3=false/\Nat.beq d5 d3=false)
  (hr:∀(u:Act),(∀k,k≠d1->k≠d2->k≠d3->k≠d4->k≠d5->k≠d6->u.tmps[k]?=a.tmps[k]?)->u.tmps[d6]?=some (.bool (decide (p<x)||decide (q<y)))->wpListIn F m P ops Q rest u W) :
  wpListIn F m P ops Q (⟨some d1,.load t (.tmp E),K,S,f1,none⟩::⟨some d2,.binOp .gtr t (.tmp d1) (.const (.int .i64 p)) t,L,U,f2,none⟩::⟨some d3,.move (.tmp d2),M,X,f3,none⟩ ::
   ⟨some d4,.move (.tmp j),N,Y,f4,some (gi,false)⟩::⟨some d5,.binOp .gtr t (.tmp d4) (.const (.int .i64 q)) t,O,Z,f5,some (gi,false)⟩::⟨some d6,.pick (.tmp d3) (.const (.bool true)) (.tmp d5),R,aa,f6,none⟩::rest) a W:=by
 obtain⟨ai,z2,z3,z4,z5,G⟩:=af;obtain⟨aj,ak,al,o,H⟩:=ag;have g:∀(A:Act) (d k:Nat) (v:Value),k≠d->(A.put (some d) v).tmps[k]?=A.tmps[k]?:=fun A d k v h=>by simp only [Act.put,Array.getElem?_setIfInBounds]; rw [if_neg (Ne.symm h)]
 refine jP i rfl (by simp) (wM ab hO (hl _) (fQ h1) ae (d:=.int .i64 x) (fun I=>⟨fun h=>(by cases h; rfl),fun h=>(by subst h; exact .int _ _)⟩)) ?_;refine jP i rfl (by simp) (wN (m:=x) (n:=p) (k:=.i64) (r:=.bool (decide (p<x))) (v:=.bool (decide (p<x))) (fQ (put_eq ai)) rfl rfl (fun I h=>by cases h; rfl)) ?_;refine jP i rfl (by simp) (run_move (v:=.bool (decide (p<x))) (fQ (put_eq (by rw [fR]; exact z2)))) ?_
 have g3:=put_eq (a:=(a.put (some d1) (.int .i64 x)).put (some d2) (.bool (decide (p<x)))) (d:=d3) (v:=.bool (decide (p<x))) (by rw [fR,fR]; exact z3);cases hc:decide (p<x) with
 | true =>
  rw [hc] at g3;refine Gj i ((wL rfl l g3).trans rfl) ?_;refine Gj i ((wL rfl l (mY g3 o)).trans rfl) ?_;refine jP i rfl (by simp) (Ou (b:=true) (v:=.bool true) (fQ (mY (mY g3 o) H)) rfl) ?_;refine hr _ (fun k k1 k2 w z B C=>?_) (by rw [put_eq (by simp only [fR]; exact G),hc]; simp);rw [g _ _ _ _ C,g _ _ _ _ B,g _ _ _ _ z,g _ _ _ _ w,g _ _ _ _ k2,g _ _ _ _ k1]
 | false =>
  rw [hc] at g3;refine Gi i ((wL rfl l g3).trans rfl) (by simp) (run_move (v:=.int .i64 y) (fQ (mY (mY (mY ad aj) ak) al))) ?_;refine Gi i ((wL rfl l (mY g3 o)).trans rfl) (by simp) (wN (m:=y) (n:=q) (k:=.i64) (r:=.bool (decide (q<y))) (v:=.bool (decide (q<y))) (fQ (put_eq (by simp only [fR]; exact z4))) rfl rfl (fun I h=>by cases h; rfl)) ?_
  refine jP i rfl (by simp) (Ot (v:=.bool (decide (q<y))) (fQ (mY (mY g3 o) H)) (fQ (put_eq (by simp only [fR]; exact z5)))) ?_;refine hr _ (fun k k1 k2 w z B C=>?_) (by rw [put_eq (by simp only [fR]; exact G),hc]; simp);rw [g _ _ _ _ C,g _ _ _ _ B,g _ _ _ _ z,g _ _ _ _ w,g _ _ _ _ k2,g _ _ _ _ k1]
structure fW (bs:List Nat) (w W:World):Prop where
 size:w.heap.size<=W.heap.size
 os:W.os=w.os
 tape:W.tape=w.tape
 output:W.output=w.output
 other:∀k,k<w.heap.size->k∉bs->W.heap[k]?=w.heap[k]?
theorem fW.refl (bs:List Nat) (w:World):fW bs w w:=⟨Nat.le_refl _,rfl,rfl,rfl,fun _ _ _=>rfl⟩
theorem fW.grown {bs:List Nat}{w A B:World}{row:Option Nat}(h:fW bs w A) (b:A.grownBy B row) (hr:∀r,row=some r->w.heap.size<=r):fW bs w B :=
 ⟨Nat.le_trans h.size b.size,b.os.trans h.os,b.tape.trans h.tape,b.output.trans h.output,fun k hk f=>(b.block k (Nat.lt_of_lt_of_le hk h.size) (fun e=>by have:=hr k e.symm; omega)).trans (h.other k hk f)⟩
theorem fW.Gk {bs:List Nat}{w A B:World}{b:Nat}{o:Go.Obj}(h:fW bs w A) (hu:oy A B b o) (f:b∈bs):fW bs w B :=
 ⟨by rw [hu.size]; exact h.size,hu.os.trans h.os,hu.tape.trans h.tape,hu.output.trans h.output,fun k hk hn=>(hu.other k (fun e=>hn (e▸f))).trans (h.other k hk hn)⟩
theorem oy.z_ {A B:World}{b:Nat}{o f:Go.Obj}(hu:oy A B b o) (h0:A.heap[b]?=some f) (hc:f.isCells=true):KeepsOthers A B:=by
 exact KeepsOthers.of_grownBy (row:=some b) ⟨hu.os,hu.tape,hu.output,by rw [hu.size]; exact Nat.le_refl _,fun k _ hk=>hu.other k (fun e=>hk (by rw [e]))⟩ fun j o' e g=>by cases e; rw [h0] at g; cases g; exact hc
theorem oy.keep {C:List Nat}{A B:World}{b:Nat}{o:Go.Obj}(hu:oy A B b o) (f:b∈C):gD C A B :=
 ⟨by rw [hu.size]; exact Nat.le_refl _,fun k g hk _ hn=>(hu.other k (fun e=>hn (e▸f))).trans hk⟩
theorem fW.below {bs:List Nat}{w0 w W:World}(h:fW bs w W) (f:Below w0.heap.size w0 w) (hn:∀b∈bs,w0.heap.size<=b):Below w0.heap.size w0 W :=
 ⟨h.os.trans f.os,h.tape.trans f.tape,h.output.trans f.output,Nat.le_trans f.size h.size,fun k hk=>(h.other k (Nat.lt_of_lt_of_le hk f.size) (fun e=>by have:=hn k e; omega)).trans (f.block k hk)⟩
theorem bw.below {j j':J}{w w':World}{O:Nat->Prop}{O':Nat->Prop}(h:bw j w O j' w' O') (hO:∀b,¬O b):Below w.heap.size w w' :=
 ⟨h.os,h.tape,h.output.1,h.size,fun k hk=>(h.frame k hk (hO k)).1⟩
theorem bw.fresh {j j':J}{w w':World}{O:Nat->Prop}{O':Nat->Prop}(h:bw j w O j' w' O') (hO:∀b,¬O b){b:Nat}(f:O' b):w.heap.size<=b:=by
 rcases Nat.lt_or_ge b w.heap.size with h1|h1
 ·exact absurd (h.own b h1 f) (hO b)
 ·exact h1
theorem ag.lM {P:Program}{x y:Code}{σ:St}{j:J}{w:World}{jl:List Nat}{a:Act}{m:Nat}{Q:Exit->Act->World->Prop}(i:dB j w jl σ a)
  (k:∀K:St->Prop,(∀b,(∀j' w' f g,dB j' w' f b g->bw j w (Own j σ.h jl) j' w' (Own j' b.h f)->y.wpIn Fence.wide m P Q g w')->K b)->ag P x (fun e b=>e=.normal/\K b) σ):(Code.seq x y).wpIn Fence.wide m P Q a w:=by
 refine wpIn_seq (wpIn_wide.2 (wp_mono (k (fun b=>∀j' w' f g,dB j' w' f b g->bw j w (Own j σ.h jl) j' w' (Own j' b.h f)->y.wpIn Fence.wide m P Q g w') (fun _ h=>h) j w jl a i) ?_));rintro e g w' ⟨b,j',f,⟨he,h1⟩,l,o⟩;subst he;exact h1 _ _ _ _ l o
theorem aB.Gl {j:J}{w:World}{k:Nat}{tok:Option Nat}{nl:Bool}{rows:List (List D)}{v:Value}(h:aB j w (.slice k tok nl rows) v):aB j w (.slice k none nl rows) v:=by
 cases h with
 | fB=>exact .fB _ _ (fun t h=>by cases h)
 | slice _ _ _ a cap cv hk hn hc bH hr ht=>exact .slice _ _ _ a cap cv hk hn hc bH hr (fun t h=>by cases h)
theorem dB.loc {j:J}{w:World}{jl:List Nat}{n:Nat}{ts:Ts}{ls:List (List D)}{h:ah}{a:Act}(k:dB j w jl ⟨n,ts,ls,h⟩ a){t i:Nat}{xs:List D}(ht:get ts t=.cV i 0) (hl:ls[i]?=some xs) :
  ∃b cs f,jl[i]?=some b/\a.tmps[t]?=some (.pointer (some ⟨b,0,none⟩))/\w.heap[b]?=some (.cells (List.toArray cs) f (0,0))/\aW (aB j w) xs cs/\j.F b=0:=by
 have h1:aX j w jl (get ts t) (a.tmps.getD t undef):=k.tmps t;rw [ht] at h1;obtain⟨b,l,e⟩:=h1;obtain⟨r,g,cs,f,o,p,q⟩:=k.hl.2.each.get hl;rw [l] at g; simp only [Option.some.injEq] at g; subst g;refine⟨b,cs,f,l, ?_,o,p,q⟩;rw [Array.getD_eq_getD_getElem?] at e;cases m:a.tmps[t]? with
 | none=>rw [m] at e; simp [undef] at e
 | some x=>rw [m] at e; simp at e; rw [e]
theorem Ox {m m':Nat}{P:Program}{l:Nat}{args:Array Value}{W:World}{R:Ending->World->Prop}(h:YieldAt Fence.wide m P l args W R):YieldAt Fence.wide m' P l args W R:=by
 obtain⟨fn,tmps,assign,body,f,b⟩:=h;exact⟨fn,tmps,assign,body,f,b.1,fun c cs _=>b.2 c cs (room_wide _)⟩
section
variable {eP:d_}
theorem ag.Oy {P:Program}{x y:Code}{σ:St}{j:J}{w:World}{jl:List Nat}{a:Act}{m:Nat}{Q:Exit->Act->World->Prop}(i:dB j w jl σ a)
  (k:∀K:St->Prop,(∀b,(∀j' w' f g,dB j' w' f b g->bw j w (Own j σ.h jl) j' w' (Own j' b.h f)->y.wpIn Fence.wide m P Q g w')->K b)->ag P x (fun e b=>e=.normal/\K b) σ):(Code.seq x y).wpIn Fence.wide m P Q a w:=by
 refine wpIn_seq (wpIn_wide.2 (wp_mono (k (fun b=>∀j' w' f g,dB j' w' f b g->bw j w (Own j σ.h jl) j' w' (Own j' b.h f)->y.wpIn Fence.wide m P Q g w') (fun _ h=>h) j w jl a i) ?_));rintro e g w' ⟨b,j',f,⟨he,h1⟩,l,o⟩;subst he;exact h1 _ _ _ _ l o
def Fin [bf] (j:J) (w:World) (h:ah) (Post:V->ah->Prop):Ending->World->Prop:=fun e w'=>∃r cv j' h',e=.returned cv/\Post r h'/\aX j' w' [] r cv/\dJ j' w' h'/\bw j w (Own j h []) j' w' (Own j' h' [])
theorem Gm {P:Program}{T:List TI}(ew:je P T){fn:Func}{n:Nat}{j j':J}{w w':World}{jl:List Nat}{h:ah}{σ:St}{a:Act}{rs:List ResultVar}{xs:List A}{Post:V->ah->Prop}(b:dB j' w' jl σ a) (f:fn.results.toList=rs) (g:jf T σ rs=some xs)
  (i:bw j w (Own j h []) j' w' (Own j' σ.h jl)) (k:Post (iG xs) σ.h):LeavesInM Fence.wide n P fn a.tmps (Fin j w h Post) [] .returning w':=by
 obtain⟨v,hv,l⟩:=wj (P:=P) ew b f g;obtain⟨m,o⟩:=b.hl.trim 0;exact⟨v,hv,iG xs,v,j',σ.h,rfl,k,l,m.1,i.trans o⟩
theorem Oz {j:J}{w:World}{D:Nat}(f:w.heap[D]?=some (.deferred (some []))):Le j w j (w.putObj D (.deferred none)):=by
 refine⟨Nat.le_refl _,fun _ _=>rfl,fun _=>Nat.le_refl _,fun b o _=>?_,fun _ _=>.inl rfl⟩;by_cases e:b=D
 ·subst e;have h1:(w.putObj b (.deferred none)).heap[b]?=some (.deferred none):=World.putObj_heap_same (fO f);unfold World.cell?;simp only [f,h1]
 ·exact World.cell?_of_block (World.putObj_heap_other e)
theorem Gp {P:Program}{T:List TI}(ew:je P T){fn:Func}{n:Nat}{j j':J}{w w':World}{jl:List Nat}{h:ah}{σ:St}{a:Act}{rs:List ResultVar}{xs:List A}{Post:V->ah->Prop}{D:Nat}(g:dB j' w' jl σ a) (m:fn.results.toList=rs) (o:jf T σ rs=some xs)
  (f:bw j w (Own j h []) j' w' (Own j' σ.h jl)) (p:Post (iG xs) σ.h) (l:w'.heap[D]?=some (.deferred (some []))) (hw:w.heap.size<=D) (hn:¬Own j' σ.h jl D) :
  LeavesInM Fence.wide n P fn a.tmps (Fin j w h Post) [{ target:=.collected D,args:=#[] }] .returning w':=by
 refine⟨by simp,.inl ⟨_,_,rfl,run_takeDeferred l, ?_⟩⟩;have hle:Le j' w' j' (w'.putObj D (.deferred none)):=Oz l;have hk:=g.hl.keep hle (fun b i=>⟨World.putObj_heap_other (fun e=>hn (e▸i)),rfl⟩) (fun _ _ _=>rfl) (fun b i=>g.hl.1.fresh b (by simpa using i));have q:dB j' (w'.putObj D (.deferred none)) jl σ a:=⟨g.defers,g.size,fun k=>(g.tmps k).mono hle (Ext.refl _),hk.1⟩;refine Gm ew q m o ⟨f.toLe.trans hle,by simpa using f.size,fun b i r=>?_,f.own,f.os,f.tape,f.output⟩ p
 rw [World.putObj_heap_other (by omega:b≠D)];exact f.frame b i r
end
theorem fW.le {bs:List Nat}{j:J}{w W:World}(h:fW bs w W) (g:∀b∈bs,j.F b=0) (i:∀b,w.heap.size<=b->j.F b=0):Le j w j W:=by
 refine⟨Nat.le_refl _,fun _ _=>rfl,fun _=>Nat.le_refl _,fun b o f=>?_,fun _ _=>.inl rfl⟩;refine World.cell?_of_block (h.other b ?_ ?_)
 ·rcases Nat.lt_or_ge b w.heap.size with h1|h1
  ·exact h1
  ·rw [i b h1] at f; omega
 ·intro k; rw [g b k] at f; omega
theorem fW.Gq [hq:jO ak] {bs:List Nat}{j:J}{w W:World}{O O':Nat->Prop}(h:fW bs w W) (g:∀b∈bs,j.F b=0) (i:∀b,w.heap.size<=b->j.F b=0) (hO:∀b∈bs,O b) (k:∀b,O' b->O b):bw j w O j W O' :=
 { toLe:=h.le g i,size:=h.size,frame:=fun b l f=>⟨h.other b l (fun e=>f (hO b e)),rfl⟩,own:=fun b _ f=>k b f,os:=h.os,tape:=h.tape,output:=⟨h.output,.inr hq.is⟩ }
theorem fW.hl {bs:List Nat}{j:J}{w W:World}{jl:List Nat}{ls:List (List D)}{h:ah}(hu:fW bs w W) (g:∀b∈bs,j.F b=0) (hl:HL j w jl ls h) (hn:∀b∈bs,¬Own j h jl b):HL j W jl ls h :=
 (hl.keep (hu.le g hl.1.fresh) (fun b f=>⟨hu.other b (f.lt hl) (fun e=>hn b e f),rfl⟩) (fun _ _ _=>rfl) (fun b f=>hl.1.fresh b (Nat.le_trans hu.size f))).1
end Go.Ab
/-
 append to nil: an immutable slice. No program text.
-/
namespace Go.Ab
open Go Go.RowKit
variable {ak:bf}
theorem ar.OA {P:Program}{ts:Ts}{ls:List (List D)}{h:ah}{dst:Option Tmp}{ty:TypeId}{pos:String}{aC:Array Edge}{g:Option (Nat×Bool)}{t u e:TypeId}{I B b:TI}{s i:Nat}{k k':Nat}{aU:List (List D)}{z:A}(R:aM P t=some I) (hk:I.k=.slice e) (S:aM P e=some b) (U:aM P u=some B) (W:(∃e,B.k=.slice e)\/B.k=.str)
  (X:b.zero=some z) (Y:(cn z).length=b.size) (Z:b.size≠0)
  (aa:get ts s=.a (.d (.slice k none true []))) (ab:get ts i=.full k' aU) (J:Nat.beq s i=false) (ad:k'=b.size)
  (ae:aU.length*b.bytes<=cL) (hlen:aU.length<=cL) :
  ar P (mk dst (.call { callee:=.builtin .append,args:=#[.tmp s,.tmp i],argTypes:=#[t,u] }) ty pos aC g) ts ls h {} (.a (.d (.slice b.size none aU.isEmpty aU))) ls h:=by
 intro L H _ _ j w jl a hl af K Q ag;obtain⟨h1,l⟩:=hl.dQ b.size;have ai:=hl.1.kQ (Nat.le_refl _);have hc:=ar.zC (ak:=ak) (P:=P) (ts:=(s,.a (.d (.slice k (some j.next) true [])))::ts) (ls:=L) (h:=H.set j.next (some (.tok b.size 0))) (dst:=dst) (ty:=ty) (pos:=pos) (aC:=aC) (g:=g) (x:=.tmp s) (y:=.tmp i) (tk:=j.next) (k:=k) (m:=0) (E:=none) (nl:=true) (rows:=[]) (aU:=aU) (z:=z) R hk S U W X Y Z (fD _ _ _)
  (fun j w jl cv hv=>by
   have C:aX j w jl (get ts i) cv:=by
    have:get ((s,.a (.d (.slice k (some j.next) true [])))::ts) i=get ts i:=eN _ _ (Nat.ne_of_beq_eq_false J);have M:aX j w jl (get _ i) cv:=hv;rw [eN _ _ (Nat.ne_of_beq_eq_false J)] at M; exact M
   rw [ab] at C;refine Src.slice C.1 fun r hr=>?_;obtain⟨_,_,_,_,_,_,_,hh,_⟩:=lG (jl:=jl) C.1;rw [<- ad]; exact hh r hr) (.inr rfl) (ah.bX ..) rfl (by simpa using ae) (by simpa using hlen)
 refine(ar.step (ak:=ak) hc) j.dQ w jl a h1 (fun x F=>?_) K Q ?_
 ·have p:=af x F;cases x with
  | tmp q =>
   by_cases e:s=q
   ·subst e;have N:aX j w jl (get ts s) (a.eval (.tmp s)):=p;rw [aa] at N;have O:aB j w (.slice k none true []) (a.eval (.tmp s)):=N;show aX _ _ _ (get _ s) _;rw [fD];generalize a.eval (.tmp s)=cv at O;cases O;exact aB.fB _ _ (fun t ht=>by cases ht; exact Nat.lt_succ_self _)
   ·show aX _ _ _ (get _ q) _;rw [eN _ _ e]; exact aX.mono l.toLe (Ext.refl _) p
  | const v=>exact aX.mono l.toLe (Ext.refl _) p
  | global q=>exact aX.mono l.toLe (Ext.refl _) p
  | func f=>exact aX.mono l.toLe (Ext.refl _) p
 ·rintro v aH h' cv j' w' aj ⟨rfl,rfl,rfl⟩ hv al F am;have an:∀id o,H id=some o->((H.set j.next (some (.tok b.size 0))).set j.next (some (.tok b.size (0+aU.length)))) id=some o:=fun id o G=>by
   by_cases e:id=j.next
   ·rw [e,ai] at G; cases G
   ·simp only [ah.set,if_neg e]; exact G
  obtain⟨ao,ap⟩:=al.forget an;have aq:aB j' w' (.slice b.size (some j.next) (true&&aU.isEmpty) ([]++aU)) cv:=hv;exact ag _ _ _ _ j' w' aj ⟨rfl,rfl,rfl⟩ (show aB j' w' (.slice b.size none aU.isEmpty aU) cv by simpa using aq.Gl) ao F ((l.trans am).trans ap)
theorem aW.OB {α β:Type}{R:α->β->Prop}{l:List α}{m:List β}(h:aW R l m) (i:Nat){x y:α}(p:l[i]?=some x) (hr:∀b,R x b->R y b):aW R (l.set i y) m:=by
 refine aW.kO (by rw [List.length_set,h.length]) fun k a b f o=>?_;rw [List.getElem?_set] at f
 split at f
 ·rename_i e
  subst e
  split at f
  ·obtain rfl:=Option.some.inj f;obtain⟨q,g,j⟩:=h.get p;rw [o] at g;obtain rfl:=Option.some.inj g;exact hr _ j
  ·cases f
 ·obtain⟨q,g,j⟩:=h.get f;rw [o] at g;obtain rfl:=Option.some.inj g;exact j
end Go.Ab
/-
 A state in which a local's cells are read in another way is weaker. No program text.
-/
namespace Go.Ab
open Go Go.RowKit
variable {ak:bf}
end Go.Ab
namespace Go.Ab
variable {ak:bf}
def on {α β:Sort _}(v:α) (k:α->β):β:=k v
namespace Q
universe u
variable {R O O2 Z:Type}{α:Type}
theorem qb {c:Bool}{a b r:α}(h:c=true) (f:a=r):cond c a b=r:=by rw [h]; exact f
theorem mK {c:Bool}{a b r:α}(h:c=false) (f:b=r):cond c a b=r:=by rw [h]; exact f
theorem wO {c:Bool}{a b:Option R}{x y:O}{K:O->Option R}(h1:a=K x) (f:b=K y):cond c a b=K (cond c x y):=by cases c<;>assumption
theorem mZ {c:Bool}{a b:Option R}{x y:Option O}{K:O->Option R}(h1:a=Option.bind x K) (f:b=Option.bind y K):cond c a b=Option.bind (cond c x y) K:=by cases c<;>assumption
theorem rT {o:Option α}{v:α}{k:α->Option R}{K:O->Option R}{b:α->O}(h:o=some v) (f:∀x,x=v->k x=K (b x)):o.bind k=K (on v b):=by rw [h]; exact f v rfl
theorem m_ {o:Option α}{v:α}{k:α->Option R}{K:O->Option R}{b:α->Option O}(h:o=some v) (f:∀x,x=v->k x=Option.bind (b x) K):o.bind k=Option.bind (on v b) K:=by rw [h]; exact f v rfl
theorem oz {o o':Option α}{k:α->Option R}{K:O->Option R}{b:α->Option O}(h:o=o') (f:∀x,k x=Option.bind (b x) K):o.bind k=Option.bind (o'.bind b) K:=by
 rw [h]; cases o' with
 | none=>rfl
 | some v=>exact f v
theorem OC {c:Bool}{o:Option α}{v d:α}{k:α->Option R}{K:O->Option R}{b:α->Option O}(h:o=some v) (f:∀x,x=cond c v d->k x=Option.bind (b x) K):aN c o d k=Option.bind (on (cond c v d) b) K:=by
 rw [h]; cases c<;>exact f _ rfl
theorem Gs {c:Bool}{o o':Option α}{d:α}{k:α->Option R}{K:O->Option R}{b:α->Option O}(h:o=o') (f:∀x,k x=Option.bind (b x) K):aN c o d k=Option.bind (aN c o' d b) K:=by
 rw [h]; cases c with
 | false=>exact f d
 | true =>
  cases o' with
  | none=>rfl
  | some v=>exact f v
variable {lhs:Option R}
theorem wP {q:Z}{b:Z->O}{K:O->Option R}(h:∀f:Z->Option R,(∀o,f o=K (b o))->lhs=f q):lhs=K (on q b):=h (fun o=>K (b o)) fun _=>rfl
theorem rU {q:Z}{b:Z->Option O}{K:O->Option R}(h:∀f:Z->Option R,(∀o,f o=Option.bind (b o) K)->lhs=f q):lhs=Option.bind (on q b) K:=h (fun o=>Option.bind (b o) K) fun _=>rfl
theorem rV {q:Option Z}{b:Z->Option O}{K:O->Option R}(h:∀f:Z->Option R,(∀o,f o=Option.bind (b o) K)->lhs=Option.bind q f):lhs=Option.bind (Option.bind q b) K:=by
 rw [h (fun o=>Option.bind (b o) K) fun _=>rfl]; cases q<;>rfl
theorem OD {α:Type}(o:Option α):Option.bind o some=o:=by cases o<;>rfl
theorem jQ {l:List α}{i:Nat}{x:α}(h:l[i]?=some x):l.drop i=x::l.drop (i+1):=by
 obtain⟨hi,rfl⟩:=List.getElem?_eq_some_iff.1 h;exact List.drop_eq_getElem_cons hi
theorem wQ {i n:Nat}(h:i<n):decide ((i:Int)<(n:Int))=true:=by simpa using h
theorem Aa {i n:Nat}(h:¬i<n):decide ((i:Int)<(n:Int))=false:=by simpa using h
theorem qq {s:Sl α}{i:Nat}(h:i<=s.l.length):mR s none (some ((i:Nat):Int))=some ⟨s.nl,s.l.take i⟩:=by
 unfold mR; rw [if_pos (by simp; omega)]; simp
end Q
end Go.Ab
namespace Go.Ab
variable {ak:bf}
theorem Q.getD_some {α:Type}{l:List α}{i:Nat}{d:α}(h:i<l.length):l[i]?=some (l[i]?.getD d):=by simp [h]
theorem Q.OE {s:Bs}{n:Nat}(h:n<=s.length):wC s none (some ((n:Nat):Int))=some (List.take n s):=by
 unfold wC; rw [if_pos (by simp; omega)]; simp
theorem Q.preB {α R:Type}{o:Option α}{v:α}{k:α->Option R}{r:Option R}(h:o=some v) (b:∀x,x=v->k x=r):o.bind k=r:=by rw [h]; exact b v rfl
theorem Q.Gt {α:Type}{c d:Bool}{a b r:α}(h:c=true) (f:cond d a b=r):cond (c&&d) a b=r:=by rw [h]; simpa using f
theorem Q.Gu {α:Type}{c d:Bool}{a b r:α}(h:c=false) (f:b=r):cond (c&&d) a b=r:=by rw [h]; simpa using f
end Go.Ab
/-
 Walks over the list layer: what is known of the result is taken apart in the new form (a bind,a value under a name,a guard,a choice,a join,a loop over a list).
-/
namespace Go.Ab
open Go
section
variable {R O Z α:Type}{r:R}
theorem qT {o o':Option α}{k:α->Option R}(p:o'=o) (h:o.bind k=some r):∃x,o'=some x/\k x=some r:=by rw [p]; exact gA h
theorem qO {o o':Option α}{k:α->Option O}{K:O->Option R}(p:o'=o) (h:Option.bind (o.bind k) K=some r):∃x,o'=some x/\Option.bind (k x) K=some r:=by
 rw [p]; cases o with
 | none=>cases h
 | some v=>exact⟨v,rfl,h⟩
theorem vT {o:Option α}{v:α}{k:α->Option R}(p:o=some v) (h:on v k=some r):∃x,o=some x/\k x=some r:=⟨v,p,h⟩
theorem vO {o:Option α}{v:α}{k:α->Option O}{K:O->Option R}(p:o=some v) (h:Option.bind (on v k) K=some r):∃x,o=some x/\Option.bind (k x) K=some r:=⟨v,p,h⟩
theorem vP {o:Option α}{v:α}{k:α->O}{K:O->Option R}(p:o=some v) (h:K (on v k)=some r):∃x,o=some x/\K (k x)=some r:=⟨v,p,h⟩
theorem lN {c:Bool}{o:Option α}{v d:α}{k:α->Option R}(p:c=true->o=some v) (h:on (cond c v d) k=some r):∃x,(c=true->o=some x)/\k x=some r :=
 ⟨cond c v d,fun e=>by rw [e]; exact p e,h⟩
theorem fc {c:Bool}{o:Option α}{v d:α}{k:α->Option O}{K:O->Option R}(p:c=true->o=some v) (h:Option.bind (on (cond c v d) k) K=some r):∃x,(c=true->o=some x)/\Option.bind (k x) K=some r :=
 ⟨cond c v d,fun e=>by rw [e]; exact p e,h⟩
theorem lP {c:Bool}{o:Option α}{v d:α}{k:α->O}{K:O->Option R}(p:c=true->o=some v) (h:K (on (cond c v d) k)=some r):∃x,(c=true->o=some x)/\K (k x)=some r :=
 ⟨cond c v d,fun e=>by rw [e]; exact p e,h⟩
theorem dx {c:Bool}{o o':Option α}{d:α}{k:α->Option R}(p:o'=o) (h:aN c o d k=some r):∃x,(c=true->o'=some x)/\k x=some r:=by rw [p]; exact FR h
theorem eA {c:Bool}{o o':Option α}{d:α}{k:α->Option O}{K:O->Option R}(p:o'=o) (h:Option.bind (aN c o d k) K=some r):∃x,(c=true->o'=some x)/\Option.bind (k x) K=some r:=by
 rw [p]; unfold aN at h; split at h
 ·obtain⟨x,e,b⟩:=qO rfl h; exact⟨x,fun _=>e,b⟩
 ·rename_i hc; exact⟨d,fun e=>absurd e hc,h⟩
theorem bW {t:Z}{b:Z->Option R}(h:on t b=some r):∃K:Z->Option R,(∀z,K z=b z)/\K t=some r:=⟨b,fun _=>rfl,h⟩
theorem jR {t:Z}{b:Z->Option O}{K:O->Option R}(h:Option.bind (on t b) K=some r):∃J:Z->Option R,(∀z,J z=Option.bind (b z) K)/\J t=some r:=⟨fun z=>Option.bind (b z) K,fun _=>rfl,h⟩
theorem eB {t:Z}{b:Z->O}{K:O->Option R}(h:K (on t b)=some r):∃J:Z->Option R,(∀z,J z=K (b z))/\J t=some r:=⟨fun z=>K (b z),fun _=>rfl,h⟩
theorem cB {t:Option Z}{b:Z->Option R}(h:Option.bind t b=some r):∃J:Z->Option R,(∀z,J z=b z)/\Option.bind t J=some r:=⟨b,fun _=>rfl,h⟩
theorem gE {t:Option Z}{b:Z->Option O}{K:O->Option R}(h:Option.bind (Option.bind t b) K=some r):∃J:Z->Option R,(∀z,J z=Option.bind (b z) K)/\Option.bind t J=some r :=
 ⟨fun z=>Option.bind (b z) K,fun _=>rfl,by cases t<;>exact h⟩
theorem mT {b:Sort _}{F:b}{t:b->Option R}(h:on F t=some r):∃k,k=F/\t k=some r:=⟨F,rfl,h⟩
theorem mO {b:Sort _}{F:b}{t:b->Option O}{K:O->Option R}(h:Option.bind (on F t) K=some r):∃k,k=F/\Option.bind (t k) K=some r:=⟨F,rfl,h⟩
theorem mP {b:Sort _}{F:b}{t:b->O}{K:O->Option R}(h:K (on F t)=some r):∃k,k=F/\K (t k)=some r:=⟨F,rfl,h⟩
theorem ku {K F:Z->Option R}{z:Z}(h:∀z,K z=F z) (e:K z=some r):F z=some r:=by rw [<- h]; exact e
theorem dl {l:List α}{i:Nat}{x:α}(h:l[i]?=some x):l.length-(i+1)<l.length-i:=by
 obtain⟨hi,_⟩:=List.getElem?_eq_some_iff.1 h; omega
theorem dn {n i:Nat}(h:i<n):n-(i+1)<n-i:=by omega
end
section
variable {ak:bf}{P:Program}{c:Operand}{u v:Code}{Q:Exit->St->Prop}{σ:St}{b:Bool}{α R:Type}{r:R}
theorem ag.mZ {A B:Option α}{K:α->Option R}(f:Option.bind (bif b then A else B) K=some r) (hc:ev σ.ts c=.a (.d (.bool b))) (ht:b=true->Option.bind A K=some r->ag P u Q σ) (g:b=false->Option.bind B K=some r->ag P v Q σ):ag P (.cond c u v) Q σ :=
 ag.cond hc (fun h=>ht h (by subst h; exact f)) (fun h=>g h (by subst h; exact f))
theorem ag.wO {A B:α}{K:α->Option R}(f:K (bif b then A else B)=some r) (hc:ev σ.ts c=.a (.d (.bool b))) (ht:b=true->K A=some r->ag P u Q σ) (g:b=false->K B=some r->ag P v Q σ):ag P (.cond c u v) Q σ :=
 ag.cond hc (fun h=>ht h (by subst h; exact f)) (fun h=>g h (by subst h; exact f))
theorem ag.cA {l:List α}{i:Nat}(p:List α->Prop) (b:p (l.drop i)) (hc:ev σ.ts c=.a (.d (.bool (decide (((i:Nat):Int)<((l.length:Nat):Int))))))
  (ht:∀x,l[i]?=some x->decide (((i:Nat):Int)<((l.length:Nat):Int))=true->p (x::l.drop (i+1))->ag P u Q σ) (j:decide (((i:Nat):Int)<((l.length:Nat):Int))=false->p []->ag P v Q σ):ag P (.cond c u v) Q σ:=by
 refine ag.cond hc (fun h=>?_) (fun h=>?_)
 ·have f:i<l.length:=by have:=of_decide_eq_true h; omega
  have g:l[i]?=some l[i]:=List.getElem?_eq_getElem f;exact ht _ g h (by rw [<- Go.Ab.Q.jQ g]; exact b)
 ·have f:¬((i:Nat):Int)<((l.length:Nat):Int):=of_decide_eq_false h;exact j h (by rw [List.drop_of_length_le (by omega)] at b; exact b)
theorem ag.Ac {n i:Nat}(p:Nat->Prop) (b:p (n-i)) (hc:ev σ.ts c=.a (.d (.bool (decide (((i:Nat):Int)<((n:Nat):Int))))))
  (ht:i<n->decide (((i:Nat):Int)<((n:Nat):Int))=true->p (n-(i+1)+1)->ag P u Q σ) (g:decide (((i:Nat):Int)<((n:Nat):Int))=false->p 0->ag P v Q σ):ag P (.cond c u v) Q σ:=by
 refine ag.cond hc (fun h=>?_) (fun h=>?_)
 ·have f:i<n:=by have:=of_decide_eq_true h; omega
  exact ht f h (by rw [show n-(i+1)+1=n-i by omega]; exact b)
 ·have f:¬((i:Nat):Int)<((n:Nat):Int):=of_decide_eq_false h;exact g h (by rw [show n-i=0 by omega] at b; exact b)
theorem ag.jk {l:List α}{i:Nat}{d b:Bool}(p:List α->Prop) (E:Prop) (f:p (l.drop i)) (he:p []->E) (m:∀x,d=false->p (x::l.drop (i+1))->E) (k:b=(decide (((i:Nat):Int)<((l.length:Nat):Int))&&d)) (hc:ev σ.ts c=.a (.d (.bool b)))
  (ht:∀x,l[i]?=some x->b=true->d=true->p (x::l.drop (i+1))->ag P u Q σ) (o:b=false->E->ag P v Q σ):ag P (.cond c u v) Q σ:=by
 refine ag.cond hc (fun h=>?_) (fun h=>o h ?_)
 ·have h0:=h; rw [k,Bool.and_eq_true] at h0;have g:i<l.length:=by have:=of_decide_eq_true h0.1; omega
  have j:l[i]?=some l[i]:=List.getElem?_eq_getElem g;exact ht _ j h h0.2 (by rw [<- Go.Ab.Q.jQ j]; exact f)
 ·by_cases g:i<l.length
  ·have j:l[i]?=some l[i]:=List.getElem?_eq_getElem g;rw [Go.Ab.Q.jQ j] at f;refine m _ ?_ f;rw [k,Go.Ab.Q.wQ g,Bool.true_and] at h; exact h
  ·exact he (by rw [List.drop_of_length_le (by omega)] at f; exact f)
end
end Go.Ab
namespace Go.Ab
variable {ak:bf}
def Ok {α:Type}(o:Option α):Prop:=∃r,o=some r
namespace bg
variable {α β:Type}
theorem some (a:α):Ok (Option.some a):=⟨a,rfl⟩
theorem bind {o:Option α}{k:α->Option β}(h:Ok o) (b:∀v,o=Option.some v->Ok (k v)):Ok (o.bind k):=by
 obtain⟨v,hv⟩:=h; rw [hv]; exact b v hv
theorem guard {c:Bool}{o:Option α}{d:α}{k:α->Option β}(h:c=true->Ok o) (b:∀v,(c=true->o=Option.some v)->(c=false->v=d)->Ok (k v)):Ok (aN c o d k):=by
 cases c with
 | false=>exact b d (fun h=>by cases h) (fun _=>rfl)
 | true=>obtain⟨v,hv⟩:=h rfl; unfold aN; rw [if_pos rfl,hv]; exact b v (fun _=>hv) (fun h=>by cases h)
theorem cond {c:Bool}{a b:Option α}(h:c=true->Ok a) (f:c=false->Ok b):Ok (_root_.cond c a b):=by
 cases c with
 | false=>exact f rfl
 | true=>exact h rfl
theorem on {v:α}{k:α->Option β}(h:∀x,x=v->Ok (k x)):Ok (Go.Ab.on v k):=h v rfl
end bg
theorem eH {a b:Int}(h : -9223372036854775808<=a+b/\a+b<=9223372036854775807):bG a b=some (a+b):=by unfold bG; rw [if_pos h]
theorem Gv {a b:Int}(h : -9223372036854775808<=a-b/\a-b<=9223372036854775807):qh a b=some (a-b):=by unfold qh; rw [if_pos h]
theorem OF {α:Type}{l:List α}{n:Int}(h:0<=n/\n<l.length):Ok (bV l n):=by
 have b:n.toNat<l.length:=by omega
 unfold bV; rw [if_pos h.1,List.getElem?_eq_getElem b]; exact⟨_,rfl⟩
theorem OG {α:Type}{l:List α}{n:Nat}(h:n<l.length):Ok (l[n]?):=⟨l[n],List.getElem?_eq_getElem h⟩
theorem iw {α:Type}{z:Nat}{s r:Sl α}(b:z<=64) (h:s.l.length+r.l.length<=1099511627776):aZ z s r=some ⟨s.nl&&r.l.isEmpty,s.l++r.l⟩:=by
 unfold aZ; rw [if_pos];have:(s.l.length+r.l.length)*z<=(s.l.length+r.l.length)*64:=Nat.mul_le_mul_left _ b;unfold cL; omega
theorem fG {a b:Bs}(h:a.length+b.length<=1152921504606846976):cR a b=some (a++b):=by
 unfold cR; rw [if_pos (by unfold eF; omega)]
theorem wR {α:Type}{s:Sl α}(h:1<=s.l.length):mR s (some (1:Int)) none=some ⟨s.nl,s.l.drop 1⟩:=by
 unfold mR; rw [if_pos (by simp; omega)]; simp
theorem dM:F0=4611686018427387904:=rfl
end Go.Ab
namespace Go.Ab
variable {ak:bf}
theorem uC {α:Type}{z:Nat}{s r:Sl α}(b:z<=32) (h:s.l.length+r.l.length<=4398046511104):aZ z s r=some ⟨s.nl&&r.l.isEmpty,s.l++r.l⟩:=by
 unfold aZ; rw [if_pos];have:(s.l.length+r.l.length)*z<=(s.l.length+r.l.length)*32:=Nat.mul_le_mul_left _ b;unfold cL; omega
def fH {α:Type}(s:Sl α):Prop:=(s.nl=true->s.l=[])/\s.l.length<=1048576
end Go.Ab
/-
 Inputs: what a call is handed,read as plain data; what it leaves.
-/
namespace Go.Ab
open Go Go.RowKit Go.ChangeShapes Go.WideShapes Go.ChangeAt
variable {ak:bf}
def j0 (w:World):J:=⟨fun _=>0,fun b=>match w.heap[b]? with|some (.cells cs _ _)=>cs.size|_=>0,fun _=>none,0⟩
def h0:ah:=fun _=>none
theorem OH {w:World}{b o:Nat}{v:Value}(h:w.cell? ⟨b,o,none⟩=some v):o<(j0 w).F b:=by
 unfold World.cell? at h;simp only [j0]
 split at h
 ·rename_i c t f hc
  simp at h;simp only at hc;rw [hc];exact(Array.getElem?_eq_some_iff.1 h).1
 ·cases h
theorem cell_spot {w:World}{a:Addr}{v:Value}(h:w.cell? a=some v):a.spot=none:=by
 unfold World.cell? at h
 split at h
 ·split at h
  ·cases h
  ·rename_i b; simpa using b
 ·cases h
structure uD {H:Type}(B:DataW H->Nat):Prop where
 one:∀d,1<=B d
 str:∀b,b.length+1<=B (.lit (.string b))
 slice:∀e s,(e.map B).sum+1<=B (.slice e s)
 agg:∀l,(l.map B).sum<=B (.agg l)
structure di {H:Type}(P:Program) (B:DataW H->Nat) (N:Nat) (t:TypeId){α:Type}(R:α->List D) (sz:α->Nat) (wf:α->Prop):Prop where
 rd:∀{enc:TypeId×Value->H}{w:World}{base:Nat}{sp:Nat->Bool}{held:Bool}{fuel:Nat}{cs:List Value}{x:DataW H×List MemPlace},
  fuel<=N->DataW.trod enc P w base sp held fuel t cs=some x->B x.1<=1048576->∃a,aW (aB (j0 w) w) (R a) cs/\sz a<=B x.1/\wf a
theorem di.zero {H:Type}{P:Program}{B:DataW H->Nat}{t:TypeId}{α:Type}{R:α->List D}{sz:α->Nat}{wf:α->Prop}:di P B 0 t R sz wf :=
 ⟨fun b h _=>by rw [Nat.le_zero.1 b] at h; simp [DataW.trod] at h⟩
theorem Ad {P:Program}{t:TypeId}{b:TI}(f:aM P t=some b):P.cellsOf t=b.size:=by
 obtain⟨i,d,h1,_,g,_⟩:=fS f;unfold Program.cellsOf; rw [h1]; exact g
theorem wS {P:Program}{t:TypeId}{b:TI}(f:aM P t=some b):∃d,P.underlying t=some d/\fE d=b.k:=by
 obtain⟨i,d,_,h1,_,_,g,_⟩:=fS f;exact⟨d,h1,g⟩
theorem OI {P:Program}{t:TypeId}{b:TI}(g:aM P t=some b) (hk:b.k=.str):P.underlying t=some .string:=by
 obtain⟨d,h1,f⟩:=wS g;rw [hk] at f; cases d<;>simp [fE] at f; exact h1
theorem OJ {P:Program}{t:TypeId}{b:TI}(g:aM P t=some b) (hk:b.k=.bool):P.underlying t=some .bool:=by
 obtain⟨d,h1,f⟩:=wS g;rw [hk] at f; cases d<;>simp [fE] at f; exact h1
theorem OK {P:Program}{t:TypeId}{f:TI}{k:IntKind}(g:aM P t=some f) (hk:f.k=.int k):P.underlying t=some (.int k):=by
 obtain⟨d,h1,b⟩:=wS g;rw [hk] at b; cases d<;>simp [fE] at b; subst b; exact h1
theorem Gw {P:Program}{t:TypeId}{g:TI}{ps:List (Nat×TypeId)}(i:aM P t=some g) (hk:g.k=.struct ps):∃fs:Array Go.Field,P.underlying t=some (.struct fs)/\fs.toList.map (fun f=>(f.offset,f.type))=ps:=by
 obtain⟨d,h1,b⟩:=wS i;rw [hk] at b; cases d<;>simp [fE] at b; exact⟨_,h1,by simpa using b⟩
def uw.sz (s:uw):Nat:=s.1.length+1
def iP.sz {α:Type}(f:α->Nat) (s:iP α):Nat:=1+(s.l.map f).sum
def iP.wf {α:Type}(p:α->Prop) (s:iP α):Prop:=∀x∈s.l,p x
def i64 (n:Int):Prop := -9223372036854775808<=n/\n<=9223372036854775807
section
variable {H:Type}{P:Program}{B:DataW H->Nat}(hB:uD B){N:Nat}
include hB
theorem di.str {t:TypeId}{b:TI}(f:aM P t=some b) (hk:b.k=.str):di P B N t M8 uw.sz fun _=>True:=by
 refine⟨fun {enc w base sp held fuel cs x} _ h g=>?_⟩;obtain⟨s,rfl,rfl,i⟩:=DataW.trod_string (OI f hk) h;have h1:=hB.str s.data.toList;have l:s.data.toList.length<=1048576:=by dsimp only at g; omega
 refine⟨⟨s.data.toList,by simp only [cL]; omega⟩,.cons ?_ .nil,h1,trivial⟩;have:=aB.str (j:=j0 w) (w:=w) s.data.toList (by simp only [eF]; omega)
 simpa using this
theorem di.bool {t:TypeId}{f:TI}(g:aM P t=some f) (hk:f.k=.bool):di P B N t (fun b:Bool=>[.bool b]) (fun _=>1) fun _=>True:=by
 refine⟨fun _ h _=>?_⟩;obtain⟨b,rfl,rfl⟩:=DataW.trod_bool (OJ g hk) h;exact⟨b,.cons (.bool _) .nil,hB.one _,trivial⟩
theorem di.int {t:TypeId}{b:TI}(f:aM P t=some b) (hk:b.k=.int .i64):di P B N t M9 (fun _=>1) i64:=by
 refine⟨fun _ h _=>?_⟩;obtain⟨n,rfl,rfl,hw⟩:=DataW.trod_int (OK f hk) h;refine⟨n,.cons (.int _ _) .nil,hB.one _, ?_⟩
 simpa [Lit.wf,IntKind.min,IntKind.max,IntKind.signed,IntKind.bits,i64] using hw
omit hB in
theorem Gx {α:Type}(p:Nat->α->Prop):∀(n:Nat),(∀i,i<n->∃a,p i a)->∃l:List α,l.length=n/\∀i a,l[i]?=some a->p i a
 | 0,_=>⟨[],rfl,by simp⟩
 | n+1,h=>by
  obtain⟨l,hl,g⟩:=Gx p n fun i hi=>h i (by omega);obtain⟨a,j⟩:=h n (by omega);refine⟨l++[a],by simp [hl],fun i b f=>?_⟩;rw [List.getElem?_append] at f
  split at f
  ·exact g i b f
  ·rename_i k
   have:i-l.length=0:=by
    have:=(List.getElem?_eq_some_iff.1 f).1; simp at this; omega
   rw [this] at f; simp at f; subst f;have:i=n:=by omega
   subst this; exact j
omit hB in
theorem Gy {α β:Type}{f:α->Option β}:∀{l:List α}{r:List β},l.mapM f=some r->r.length=l.length/\∀(i:Nat) a,l[i]?=some a->f a=r[i]?
 | [],r,h=>by simp at h; subst h; simp
 | a::l,r,h=>by
  rw [List.mapM_cons] at h;cases j:f a with
  | none=>rw [j] at h; cases h
  | some b =>
   rw [j] at h;cases hm:l.mapM f with
   | none=>rw [hm] at h; cases h
   | some bs =>
    rw [hm] at h;have h':some (b::bs)=some r:=h;simp only [Option.some.injEq] at h';subst h';obtain⟨h1,k⟩:=Gy hm;refine⟨by simp [h1],fun i x g=>?_⟩;cases i with
    | zero=>simp at g; subst g; simpa using j
    | succ i=>simp at g; simpa using k i x g
omit hB in
theorem Gz {w:World}{base:Nat}{a:Addr}{n:Nat}{cs:List Value}(h:w.cells? base a n=some cs):cs.length=n/\∀i v,cs[i]?=some v->w.cell? (a.add i)=some v:=by
 unfold World.cells? at h
 split at h
 ·obtain⟨h1,b⟩:=Gy h;rw [List.length_range] at h1;refine⟨h1,fun i v hv=>?_⟩;have hi:=(List.getElem?_eq_some_iff.1 hv).1;have:=b i i (List.getElem?_range (by omega));rw [this]; exact hv
 ·cases h
omit hB in
theorem GA {α β:Type}{f:α->Nat}{g:β->Nat}:∀{l:List α}{m:List β},l.length=m.length->(∀(i:Nat) a b,l[i]?=some a->m[i]?=some b->f a<=g b)->(l.map f).sum<=(m.map g).sum
 | [],[],_,_=>by simp
 | [],_::_,h,_=>by simp at h
 | _::_,[],h,_=>by simp at h
 | a::l,b::m,h,j=>by
  have h1:=j 0 a b rfl rfl;have p:=GA (l:=l) (m:=m) (by simpa using h) fun i x y k o=>j (i+1) x y (by simpa using k) (by simpa using o);simp only [List.map_cons,List.sum_cons]; omega
omit hB in
theorem GB {α:Type}{f:α->Nat}{l:List α}{a:α}(h:a∈l):f a<=(l.map f).sum:=by
 induction l with
 | nil=>cases h
 | cons x r b =>
  simp only [List.map_cons,List.sum_cons];rcases List.mem_cons.1 h with e|e
  ·subst e; omega
  ·have:=b e; omega
omit hB in
theorem Ae {α:Type}{f:α->Nat}:∀(l:List α),(∀a∈l,1<=f a)->l.length<=(l.map f).sum
 | [],_=>by simp
 | a::l,h=>by
  have h1:=h a (by simp);have g:=Ae l fun x b=>h x (by simp [b]);simp only [List.length_cons,List.map_cons,List.sum_cons]; omega
theorem di.slice {α:Type}{t e:TypeId}{L M:TI}{k:Nat}{R:α->List D}{sz:α->Nat}{wf:α->Prop}(X:aM P t=some L) (Y:L.k=.slice e) (Z:aM P e=some M) (aa:M.size=k) (ab:0<k) (ad:∀a,(R a).length=k) (he:di P B N e R sz wf) :
  di P B (N+1) t (fun s:iP α=>[s.d k R]) (iP.sz sz) (iP.wf wf):=by
 have ht:=kW X Y;have hk:P.cellsOf e=k:=(Ad Z).trans aa;refine⟨fun {enc w base sp held fuel cs x} al h O=>?_⟩;rcases DataW.trod_slice ht h with ⟨rfl,rfl⟩|⟨a,len,cap,j,rest,n,am,rfl,rfl,_,ae,an,hlen,af,_,_⟩
 ·exact⟨⟨true,[],by simp,fun _=>rfl⟩,.cons (.fB _ _ (by simp)) .nil,by simpa [iP.sz] using hB.one _,by simp [iP.wf]⟩
 ·have ao:=hB.slice (j.map (·.1)) (rest.map (·.1));have ag:∀y∈j,B y.1<=1048576:=fun y o=>by
   have:=GB (f:=B) (l:=j.map (·.1)) (a:=y.1) (List.mem_map_of_mem o);dsimp only at O; omega
  have ap:j.length<=1048576:=by
   have:=Ae (f:=B) (j.map (·.1)) fun d _=>hB.one d;simp only [List.length_map] at this;dsimp only at O; omega
  have hex:∀i,i<len->∃y:α×List Value,∃z,j[i]?=some z/\w.cells? base (a.add (i*k)) k=some y.2/\aW (aB (j0 w) w) (R y.1) y.2/\sz y.1<=B z.1/\wf y.1:=by
   intro i hi;have h1:=af i hi;rw [hk] at h1;have H:i<j.length:=by omega
   rw [List.getElem?_eq_getElem H] at h1;cases hc:w.cells? base (a.add (i*k)) k with
   | none=>rw [hc] at h1; cases h1
   | some cs =>
    rw [hc] at h1;obtain⟨x,p,q,C⟩:=he.rd (by omega) (show DataW.trod enc P w base sp held n e cs=some j[i] from h1) (ag _ (List.getElem_mem H));exact⟨(x,cs),j[i],List.getElem?_eq_getElem H,rfl,p,q,C⟩
  obtain⟨l,hl,E⟩:=Gx _ len hex;have ai:(l.map fun y=>y.1).length=len:=by simp [hl]
  refine⟨⟨false,l.map (·.1),by rw [ai]; simp only [cL]; omega,by simp⟩,.cons ?_ .nil, ?_, ?_⟩
  ·have I:∀r∈(l.map (·.1)).map R,r.length=k:=by
    intro r hr;obtain⟨y,_,rfl⟩:=List.mem_map.1 hr;exact ad _
   have F:((l.map (·.1)).map R).length=len:=by simp [hl]
   show aB (j0 w) w (.slice k none false ((l.map (·.1)).map R)) (.slice (some a) len cap);by_cases h0:len=0
   ·subst h0;have:l=[]:=List.eq_nil_of_length_eq_zero hl;subst this;exact aB.slice k none [] a cap (fun _=>undef) (by simp) (by simp) (by simp) ⟨.inl rfl,by simp⟩ (by simp) (fun t h=>by cases h)
   ·have Q:a.spot=none:=by
     have h1:=E 0 (l[0]'(by omega)) (List.getElem?_eq_getElem (by omega));obtain⟨z,_,p,_⟩:=h1;obtain⟨q,C⟩:=Gz p;have G:=C 0 _ (List.getElem?_eq_getElem (by omega));rw [Nat.zero_mul] at G;exact cell_spot G
    have S:a=⟨a.block,a.off,none⟩:=by cases a; simp at Q; simp [Q]
    have U:aB (j0 w) w (.slice k none false ((l.map (·.1)).map R)) (.slice (some ⟨a.block,a.off,none⟩) ((l.map (·.1)).map R).length cap):=by
     refine rN I (by rw [F]; simp only [cL]; omega) (by rw [F]; exact ae) (fun i x b=>?_) (fun t h=>by cases h);have hi:=(List.getElem?_eq_some_iff.1 b).1;rw [(iO I).1,F] at hi;have hq:i / k<len:=Nat.div_lt_of_lt_mul (by rw [Nat.mul_comm]; exact hi);have hm:i % k<k:=Nat.mod_lt _ ab;obtain⟨z,_,p,q,_⟩:=E (i / k) (l[i / k]'(by omega)) (List.getElem?_eq_getElem (by omega))
     obtain⟨C,G⟩:=Gz p;have aj:((l.map (·.1)).map R)[i / k]?=some (R (l[i / k]'(by omega)).1):=by simp [hl,hq]
     have W:=(iO I).2 (i / k) _ aj (i % k) hm;rw [Nat.mul_comm,Nat.div_add_mod,b] at W;obtain⟨v,hv,ak⟩:=q.get W.symm;have J:=G _ _ hv;rw [S,add_plain,add_plain,Nat.add_assoc,Nat.mul_comm,Nat.div_add_mod] at J;exact⟨OH J,v,J,ak⟩
    rw [F,<- S] at U;exact U
  ·simp only [iP.sz];have:=GA (f:=sz) (g:=B) (l:=l.map (·.1)) (m:=j.map (·.1)) (by simp [hl,hlen]) fun i x y b o=>by
    rw [List.getElem?_map] at b o;cases K:l[i]? with
    | none=>rw [K] at b; cases b
    | some u =>
     rw [K] at b; simp at b; subst b;obtain⟨z,h1,_,_,p,_⟩:=E i u K;rw [h1] at o; simp at o; subst o; exact p
   omega
  ·intro x b;obtain⟨y,o,rfl⟩:=List.mem_map.1 b;obtain⟨i,hi,e⟩:=List.getElem_of_mem o;obtain⟨z,_,_,_,_,h⟩:=E i y (by rw [List.getElem?_eq_getElem hi,e]);exact h
structure cC {H:Type}(P:Program) (B:DataW H->Nat) (N n o:Nat) (ps:List (Nat×TypeId)){α:Type}(R:α->List D) (sz:α->Nat) (wf:α->Prop):Prop where
 rd:∀{enc:TypeId×Value->H}{w:World}{base:Nat}{sp:Nat->Bool}{held:Bool}{fuel:Nat}{cs:List Value}{xs:List (DataW H×List MemPlace)},fuel<=N->cs.length=n->xs.length=ps.length ->
  (∀(i:Nat) p,ps[i]?=some p->DataW.trod enc P w base sp held fuel p.2 ((cs.drop p.1).take (P.cellsOf p.2))=xs[i]?)->(xs.map (fun x=>B x.1)).sum<=1048576 ->
  ∃a,aW (aB (j0 w) w) (R a) (cs.drop o)/\sz a<=(xs.map (fun x=>B x.1)).sum/\wf a
omit hB in
theorem cC.nil {n:Nat}:cC P B N n n [] (fun _:Unit=>[]) (fun _=>0) fun _=>True:=by
 refine⟨fun _ h1 b _ _=>⟨(), ?_,Nat.zero_le _,trivial⟩⟩;rw [List.drop_of_length_le (by omega)]; exact .nil
omit hB in
theorem cC.cons {α β:Type}{n o o':Nat}{ty:TypeId}{j:TI}{ps:List (Nat×TypeId)}{R:α->List D}{sz:α->Nat}{wf:α->Prop}{k:β->List D}{l:β->Nat}{m:β->Prop}(t:aM P ty=some j) (u:o+j.size=o') (h:di P B N ty R sz wf)
  (ht:cC P B N n o' ps k l m):cC P B N n o ((o,ty)::ps) (fun p:α×β=>R p.1++k p.2) (fun p=>sz p.1+l p.2) fun p=>wf p.1/\m p.2:=by
 refine⟨fun {enc w base sp held fuel cs xs} q h1 f r v=>?_⟩
 match xs,f with
 | x::xs,f =>
  simp only [List.map_cons,List.sum_cons] at v ⊢;have s:=r 0 (o,ty) rfl;simp only [List.getElem?_cons_zero] at s;obtain⟨a,y,G,z⟩:=h.rd q s (by omega);obtain⟨b,C,H,E⟩:=ht.rd (xs:=xs) q h1 (by simpa using f) (fun i g F=>by simpa using r (i+1) g (by simpa using F)) (by omega);refine⟨(a,b), ?_,by dsimp only; omega,z,E⟩;have e:cs.drop o=(cs.drop o).take (P.cellsOf ty)++cs.drop o':=by
   rw [<- u,<- Ad t,<- List.drop_drop]; exact(List.take_append_drop _ _).symm
  rw [e];exact y.append C
theorem di.struct {α β:Type}{t:TypeId}{j:TI}{ps:List (Nat×TypeId)}{R:α->List D}{sz:α->Nat}{wf:α->Prop}(o:aM P t=some j) (hk:j.k=.struct ps) (h:cC P B N j.size 0 ps R sz wf) (g:α->β){q:β->List D}{r:β->Nat}{s:β->Prop}
  (y:∀a,q (g a)=R a) (z:∀a,r (g a)<=sz a) (hw:∀a,wf a->s (g a)):di P B (N+1) t q r s:=by
 refine⟨fun {enc w base sp held fuel cs x} J C u=>?_⟩;obtain⟨fs,ht,v⟩:=Gw o hk;obtain⟨xs,n,K,rfl,h1,E,F⟩:=DataW.trod_struct ht C;have l:=hB.agg (xs.map (·.1));rw [List.map_map] at l;obtain⟨a,G,H,I⟩:=h.rd (xs:=xs) (enc:=enc) (w:=w) (base:=base) (sp:=sp) (held:=held) (fuel:=n) (cs:=cs) (by omega) (h1.trans (Ad o)) (by rw [<- v]; simpa using E) (fun i p b=>by
  rw [<- v,List.getElem?_map] at b;cases m:fs.toList[i]? with
  | none=>rw [m] at b; cases b
  | some f =>
   rw [m] at b; simp at b; subst b;exact F i f (by simpa using m)) (by dsimp only at u; exact Nat.le_trans l u)
 exact⟨g a,by rw [y]; simpa using G,Nat.le_trans (z a) (Nat.le_trans H l),hw _ I⟩
end
section
variable {H:Type}{enc:TypeId×Value->H}{P:Program}{B:DataW H->Nat}{W:World}
theorem GC {α:Type}{R:α->List D}{sz:α->Nat}{wf:α->Prop}{r:Reach}{f:Nat}{t:TypeId}{b:TI}{fs:List (Nat×TypeId)}{v:Value}{d:DataW H}{ps:List MemPlace}(g:aM P t=some b) (hk:b.k=.struct fs) (hr:∀N,di P B N t R sz wf) (i:Value.okWide P W r f t v)
  (j:DataW.Trod enc P W 0 (fun _=>true) true t v d ps) (l:B d<=1048576):∃a:α,cM (j0 W) W (.agg (R a)) v/\sz a<=B d/\wf a:=by
 obtain⟨_,ht,_⟩:=Gw g hk;obtain⟨cs,rfl,_⟩:=okWide_struct ht i;obtain⟨fuel,m⟩:=j;obtain⟨a,h1,o,p⟩:=(hr fuel).rd (Nat.le_refl _) m l;exact⟨a,⟨cs.toList,by simp,h1⟩,o,p⟩
end
theorem Below.trodAll {H:Type}{enc:TypeId×Value->H}{P:Program}(hl:laidOutB P=true){W W':World}(i:Below W.heap.size W W') :
  ∀{ts:List TypeId}{j:List Value}{ds:List (DataW H)}{ps:List MemPlace},(∀t∈ts,P.readableRec t=true/\t<P.types.size)->DataW.TrodAll enc P W 0 (fun _=>true) true ts j ds ps->(∀x∈ps,x.block<W.heap.size) ->
  ∀g:Nat->Bool,(∀x∈ps,g x.block=true)->DataW.TrodAll enc P W' 0 g true ts j ds ps
 | [],_,_,_,_,h,_,_,_=>by obtain⟨rfl,rfl,rfl⟩:=trodAll_nil h; exact rfl
 | _::_,_,_,_,ht,h,aY,g,k=>by
  obtain⟨v,m,d,o,a,b,rfl,rfl,rfl,h1,l⟩:=trodAll_cons h;exact⟨a,b,WideElems.Trod_stays hl (ht _ (by simp)).1 (ht _ (by simp)).2 h1 (fun x f=>i.same (aY x (by simp [f]))) (fun x f=>k x (by simp [f])),
   Below.trodAll hl i (fun t h=>ht t (by simp [h])) l (fun x f=>aY x (by simp [f])) g (fun x f=>k x (by simp [f])),rfl⟩
theorem OL {H:Type}{enc:TypeId×Value->H}{P:Program}{f:Func}{s:ChangeSpec}{fresh handsOn again:Bool}{W W':World}{args:Array Value}{ds:List (DataW H)}{before:List MemPlace}{k:TypeId}
  (hv:s.vars=[]) (l:DataW.Whole enc P f.params.toList s.vars false W args.toList ds [] before) (i:Below W.heap.size W W') (hl:laidOutB P=true) (B:∀t∈f.params.toList,P.readableRec t=true/\t<P.types.size)
  (hr:f.resultTypes=#[k]) (m:P.underlying k=some .bool) (j:s.fn H ds={ results:=[.lit (.bool true)],args:=ds }):s.post enc P f false fresh handsOn again W args (.bool true) W':=by
 have o:=l;have aY:∀x∈before,x.block<W.heap.size:=fun x g=>by simpa using o.lt x g
 obtain⟨p,q,C,r,rfl,u,hn⟩:=l;rw [hv] at r;obtain⟨_,rfl⟩:=trodVars_none r;simp only [List.append_nil] at aY u;have v:∀sp:Nat->Bool,(∀x∈p,sp x.block=true)->DataW.TrodAll enc P W' 0 sp true f.params.toList args.toList ds p:=fun sp E=>Below.trodAll hl i B C aY sp E;have y:∀(b:Nat) (sp:Nat->Bool) (z:Bool),DataW.TrodAll enc P W' b sp z f.resultTypes.toList ((Value.bool true).resultList f.resultTypes.size) [.lit (.bool true)] []:=by
  intro b sp z;rw [hr];exact trodAll_cons_mk (shut_bool m _) trodAll_mk0
 refine⟨ds,[],p++[],[],p,[],o, ?_, ?_, ?_,World.keptBut_mono (fun x g=>⟨g, ?_⟩) (i.frame (·∈p++[])),fun _=>⟨?_,[.lit (.bool true)]++ds,[],p,⟨p,[], ?_, ?_,by simp, ?_,fun h=>by cases h⟩,fun x g _=>by simpa using g⟩⟩
 ·rw [List.append_nil,j]; exact y _ _ _
 ·rw [List.append_nil,j]; exact v _ fun x g=>by simpa using aY x g
 ·rw [hv,List.append_nil,j]; exact rfl
 ·exact .inr (.inl (by simpa using g))
 ·exact ok_one hr rfl (okWide_bool_mk m _)
 ·exact trodAll_append (v _ fun _ _=>rfl) (y _ _ _)
 ·rw [hv]; exact rfl
 ·intro b off g;have hblk:=aY _ g;rw [World.frozen?_of_block (w:=W) (i.block _ hblk)];exact u b off g
end Go.Ab
/-
 The readings of package api's types,at whatever depth.
-/
namespace Go.Ab
open Go Go.RowKit
section
variable {H:Type}{P:Program}{B:DataW H->Nat}(hB:uD B)
include hB
theorem nc.struct {α β:Type}{t:TypeId}{b:TI}{ps:List (Nat×TypeId)}{R:α->List D}{sz:α->Nat}{wf:α->Prop}(l:aM P t=some b) (hk:b.k=.struct ps) (h:∀N,cC P B N b.size 0 ps R sz wf) (g:α->β){f:β->List D}{i:β->Nat}{j:β->Prop}
  (m:∀a,f (g a)=R a) (o:∀a,i (g a)<=sz a) (hw:∀a,wf a->j (g a)):∀N,di P B N t f i j
 | 0=>.zero
 | N+1=>di.struct hB l hk (h N) g m o hw
end
end Go.Ab
/-
 The readings of the models' types.
-/
namespace Go.Ab
open Go Go.RowKit
variable {ak:bf}
def Sl.sz {α:Type}(f:α->Nat) (s:Sl α):Nat:=1+(s.l.map f).sum
def Sl.wf {α:Type}(p:α->Prop) (s:Sl α):Prop:=(s.nl=true->s.l=[])/\s.l.length<=cL/\∀x∈s.l,p x
def Bs.sz (s:Bs):Nat:=s.length+1
section
variable {H:Type}{P:Program}{B:DataW H->Nat}
theorem di.wT {α β:Type}{N:Nat}{t:TypeId}{R:α->List D}{sz:α->Nat}{wf:α->Prop}(h:di P B N t R sz wf) (g:α->β){b:β->List D}{f:β->Nat}{i:β->Prop}
  (j:∀a,b (g a)=R a) (k:∀a,f (g a)<=sz a) (hw:∀a,wf a->i (g a)):di P B N t b f i :=
 ⟨fun l ht m=>by
  obtain⟨a,h1,o,p⟩:=h.rd l ht m;exact⟨g a,by rw [j]; exact h1,Nat.le_trans (k a) o,hw a p⟩⟩
variable (hB:uD B)
include hB
theorem dG.str {t:TypeId}{b:TI}(f:aM P t=some b) (hk:b.k=.str) (N:Nat):di P B N t aP Bs.sz fun _=>True :=
 (di.str hB f hk).wT (fun s:uw=>s.1) (fun _=>rfl) (fun _=>Nat.le_refl _) fun _ _=>trivial
theorem dG.bool {t:TypeId}{b:TI}(f:aM P t=some b) (hk:b.k=.bool) (N:Nat):di P B N t qg (fun _=>1) fun _=>True :=
 (di.bool hB f hk).wT id (fun _=>rfl) (fun _=>Nat.le_refl _) fun _ _=>trivial
theorem dG.int {t:TypeId}{b:TI}(f:aM P t=some b) (hk:b.k=.int .i64) (N:Nat):di P B N t (bp .i64) (fun _=>1) i64 :=
 (di.int hB f hk).wT id (fun _=>rfl) (fun _=>Nat.le_refl _) fun _ h=>h
theorem dG.Af {α:Type}{N:Nat}{t e:TypeId}{b f:TI}{k:Nat}{R:α->List D}{sz:α->Nat}{wf:α->Prop}(g:aM P t=some b) (i:b.k=.slice e) (j:aM P e=some f) (m:f.size=k) (o:0<k) (p:∀a,(R a).length=k)
  (he:di P B N e R sz wf):di P B (N+1) t (fun s:Sl α=>[Sl.d k R none s]) (Sl.sz sz) (Sl.wf wf) :=
 (di.slice hB g i j m o p he).wT (fun s:iP α=>(⟨s.nil,s.l⟩:Sl α)) (fun _=>rfl) (fun _=>Nat.le_refl _) (fun s h=>by unfold iP.wf at h; exact⟨s.nn,s.ok,h⟩)
theorem dG.slice {α:Type}{t e:TypeId}{b f:TI}{k:Nat}{R:α->List D}{sz:α->Nat}{wf:α->Prop}(g:aM P t=some b) (i:b.k=.slice e) (j:aM P e=some f) (l:f.size=k) (m:0<k) (o:∀a,(R a).length=k)
  (he:∀N,di P B N e R sz wf):∀N,di P B N t (fun s:Sl α=>[Sl.d k R none s]) (Sl.sz sz) (Sl.wf wf)
 | 0=>.zero
 | N+1=>dG.Af hB g i j l m o (he N)
end
theorem Sl.dN {α:Type}{f:α->Nat}(s:Sl α) (h:∀a,1<=f a):s.l.length<=s.sz f:=by
 have:=Ae (f:=f) s.l fun a _=>h a;unfold Sl.sz; omega
theorem Sl.dV {α:Type}{f:α->Nat}{s:Sl α}{a:α}(h:a∈s.l):f a<s.sz f:=by
 have:=GB (f:=f) h;unfold Sl.sz; omega
end Go.Ab
namespace Go.Ab
variable {ak:bf}
theorem Bs.gF (s:Bs):1<=Bs.sz s:=by unfold Bs.sz; omega
end Go.Ab
/-
 Short forms of the rules,for the packed texts.
-/
namespace Go.Ab
open Go Go.RowKit
variable {ak:bf}
class fe (P:Program) where
 T:List TI
 ok:je P T
theorem jm {P:Program} [fe P] {i:TypeId}{b:TI}(h:(fe.T P)[i]?=some b):aM P i=some b:=fe.ok i b h
section
variable {P:Program}{Q:Exit->St->Prop}{σ:St}
theorem ag.cE {c:Operand}{u v:Code}{b:Bool}{α:Type}{A B:Option α}{r:α}(f:(bif b then A else B)=some r) (ht:b=true->A=some r->ag P u Q σ) (g:b=false->B=some r->ag P v Q σ) (hc:ev σ.ts c=.a (.d (.bool b)):=by exact rfl):ag P (.cond c u v) Q σ:=ag.eT f hc ht g
end
theorem AC.oW {P:Program} [fe P] (n:Nat) (rs:List ResultVar){f:FuncId}{fn:Func}{c:Code}{args:List A}{h:ah}{Post:V->ah->Prop}(b:∀(cF:Array Value) (w:World),(callFunc f cF).run P w=.ok (.enter f cF) w) (g:P.funcs[f]?=some fn)
  (hw:ag P c (bz (fe.T P) rs Post) ⟨n,mL 0 args,[],h⟩) (i:fn.body=some c:=by exact rfl) (hn:fn.ntmps=n:=by exact rfl) (j:fn.results.toList=rs:=by exact rfl) (hl:Nat.ble args.length n=true:=by exact rfl):AC P f args h Post :=
 AC.of_wp fe.ok b g i hn j hl hw
variable {eP:d_}
section
variable {P:Program}{ops:Array Oper}{rest:List Oper}{Q:St->Prop}{n:Nat}{ts:Ts}{ls aH:List (List D)}{h h':ah}{fx:Fx}{v:V}{d dg gi:Nat}{op:Op}{ty:TypeId}{pos:String}{aC:Array Edge}{want b C:Bool}{done:List Fx}
-- RULES
variable {o:Oper}{c c':Bool}{x x':A}{f:Operand}{args:Array Operand}{cN:Array TypeId}{eG:FuncId}{bZ:List D}{xs:List A}
theorem gI {C c:Bool}(h:C=true->c=true:=by intro hC; first|assumption|exact gP (by assumption)|exact gP (gP (by assumption))|exact gP (gP (gP (by assumption)))|exact zH (by assumption)|simp_all):C=true->c=true:=h
theorem S (b:ar P ⟨some d,op,ty,pos,aC,none⟩ ts ls h fx v ls h) (hr:aQ P ops rest Q ⟨n,(d,v)::ts,ls,h⟩) (f:Nat.blt d n=true:=by exact rfl):aQ P ops (⟨some d,op,ty,pos,aC,none⟩::rest) Q ⟨n,ts,ls,h⟩:=aQ.s0 b f hr
theorem Sd (b:ar P ⟨some d,op,ty,pos,aC,none⟩ ts ls h fx v ls h) (hr:au P ops n rest (fx.plain::done) Q ⟨n,(d,v)::ts,ls,h⟩) (f:Nat.blt d n=true:=by exact rfl):au P ops n (⟨some d,op,ty,pos,aC,none⟩::rest) done Q ⟨n,ts,ls,h⟩:=au.s0 b f hr
theorem G0 (b:ar P ⟨some d,op,ty,pos,aC,some (gi,want)⟩ ts ls h fx v ls h) (hr:aQ P ops rest Q ⟨n,(d,v.under C)::ts,ls,h⟩) (f:(ops[gi]?).bind (·.dst)=some dg:=by exact rfl) (hc:gc (get ts dg) want=some C:=by exact rfl) (g:Nat.blt d n=true:=by exact rfl):aQ P ops (⟨some d,op,ty,pos,aC,some (gi,want)⟩::rest) Q ⟨n,ts,ls,h⟩:=aQ.gC f hc (fun _=>b) g hr
theorem G1 (k:Nat) (hk:Ab.get ts k=.gd c x) (b:ar P ⟨some d,op,ty,pos,aC,some (gi,want)⟩ ((k,.a x)::ts) ls h fx v ls h) (hr:aQ P ops rest Q ⟨n,(d,v.under C)::ts,ls,h⟩) (f:(ops[gi]?).bind (·.dst)=some dg:=by exact rfl) (hc:gc (get ts dg) want=some C:=by exact rfl) (g:Nat.blt d n=true:=by exact rfl) (hi:C=true->c=true:=by exact gI):aQ P ops (⟨some d,op,ty,pos,aC,some (gi,want)⟩::rest) Q ⟨n,ts,ls,h⟩:=aQ.gC f hc (fun hC=>ar.ji hk (hi hC) b) g hr
theorem G2 (k k':Nat) (hk:Ab.get ts k=.gd c x) (b:Ab.get ((k,.a x)::ts) k'=.gd c' x') (f:ar P ⟨some d,op,ty,pos,aC,some (gi,want)⟩ ((k',.a x')::(k,.a x)::ts) ls h fx v ls h) (hr:aQ P ops rest Q ⟨n,(d,v.under C)::ts,ls,h⟩) (g:(ops[gi]?).bind (·.dst)=some dg:=by exact rfl) (hc:gc (get ts dg) want=some C:=by exact rfl) (i:Nat.blt d n=true:=by exact rfl) (hi:C=true->c=true:=by exact gI) (j:C=true->c'=true:=by exact gI):aQ P ops (⟨some d,op,ty,pos,aC,some (gi,want)⟩::rest) Q ⟨n,ts,ls,h⟩:=aQ.gC g hc (fun hC=>ar.ji hk (hi hC) (ar.ji b (j hC) f)) i hr
theorem dA (k:Nat) (b:(ops[gi]?).bind (·.dst)=some dg) (hc:gc (get ts dg) want=some C) (hk:Ab.get ts k=.gd c x) (g:ev ((k,.a x)::ts) f=.a (.d (.func eG bZ))) (i:iH ((k,.a x)::ts) args.toList=some xs) (j:C=true->∀H:ah,AC P eG (xs++bZ.map A.d) H fun r h'=>r=v/\h'=H) (hr:aQ P ops rest Q ⟨n,(d,v.under C)::ts,ls,h⟩) (hi:C=true->c=true:=by exact gI) (l:Nat.blt d n=true:=by exact rfl):aQ P ops (⟨some d,.call { callee:=.value f,args:=args,argTypes:=cN },ty,pos,aC,some (gi,want)⟩::rest) Q ⟨n,ts,ls,h⟩:=aQ.gC b hc (fun hC=>ar.ji hk (hi hC) (ar.en g i (j hC))) l hr
theorem fI (k k':Nat) (b:(ops[gi]?).bind (·.dst)=some dg) (hc:gc (get ts dg) want=some C) (hk:Ab.get ts k=.gd c x) (g:Ab.get ((k,.a x)::ts) k'=.gd c' x') (i:ev ((k',.a x')::(k,.a x)::ts) f=.a (.d (.func eG bZ))) (j:iH ((k',.a x')::(k,.a x)::ts) args.toList=some xs) (l:C=true->∀H:ah,AC P eG (xs++bZ.map A.d) H fun r h'=>r=v/\h'=H) (hr:aQ P ops rest Q ⟨n,(d,v.under C)::ts,ls,h⟩) (hi:C=true->c=true:=by exact gI) (m:C=true->c'=true:=by exact gI) (o:Nat.blt d n=true:=by exact rfl):aQ P ops (⟨some d,.call { callee:=.value f,args:=args,argTypes:=cN },ty,pos,aC,some (gi,want)⟩::rest) Q ⟨n,ts,ls,h⟩:=aQ.gC b hc (fun hC=>ar.ji hk (hi hC) (ar.ji g (m hC) (ar.en i j (l hC)))) o hr
theorem b_ (b:ar P ⟨some d,op,ty,pos,aC,some (gi,want)⟩ ts ls h fx v ls h) (hr:au P ops n rest (fx.plain::done) Q ⟨n,(d,v.under C)::ts,ls,h⟩) (f:(ops[gi]?).bind (·.dst)=some dg:=by exact rfl) (hc:gc (get ts dg) want=some C:=by exact rfl) (g:Nat.blt d n=true:=by exact rfl):au P ops n (⟨some d,op,ty,pos,aC,some (gi,want)⟩::rest) done Q ⟨n,ts,ls,h⟩:=au.gC f hc (fun _=>b) g hr
theorem cm (k:Nat) (hk:Ab.get ts k=.gd c x) (b:ar P ⟨some d,op,ty,pos,aC,some (gi,want)⟩ ((k,.a x)::ts) ls h fx v ls h) (hr:au P ops n rest (fx.plain::done) Q ⟨n,(d,v.under C)::ts,ls,h⟩) (f:(ops[gi]?).bind (·.dst)=some dg:=by exact rfl) (hc:gc (get ts dg) want=some C:=by exact rfl) (g:Nat.blt d n=true:=by exact rfl) (hi:C=true->c=true:=by exact gI):au P ops n (⟨some d,op,ty,pos,aC,some (gi,want)⟩::rest) done Q ⟨n,ts,ls,h⟩:=au.gC f hc (fun hC=>ar.ji hk (hi hC) b) g hr
theorem uE (k k':Nat) (hk:Ab.get ts k=.gd c x) (b:Ab.get ((k,.a x)::ts) k'=.gd c' x') (f:ar P ⟨some d,op,ty,pos,aC,some (gi,want)⟩ ((k',.a x')::(k,.a x)::ts) ls h fx v ls h) (hr:au P ops n rest (fx.plain::done) Q ⟨n,(d,v.under C)::ts,ls,h⟩) (g:(ops[gi]?).bind (·.dst)=some dg:=by exact rfl) (hc:gc (get ts dg) want=some C:=by exact rfl) (i:Nat.blt d n=true:=by exact rfl) (hi:C=true->c=true:=by exact gI) (j:C=true->c'=true:=by exact gI):au P ops n (⟨some d,op,ty,pos,aC,some (gi,want)⟩::rest) done Q ⟨n,ts,ls,h⟩:=au.gC g hc (fun hC=>ar.ji hk (hi hC) (ar.ji b (j hC) f)) i hr
theorem qs (k:Nat) (b:(ops[gi]?).bind (·.dst)=some dg) (hc:gc (get ts dg) want=some C) (hk:Ab.get ts k=.gd c x) (g:ev ((k,.a x)::ts) f=.a (.d (.func eG bZ))) (i:iH ((k,.a x)::ts) args.toList=some xs) (j:C=true->∀H:ah,AC P eG (xs++bZ.map A.d) H fun r h'=>r=v/\h'=H) (hr:au P ops n rest (Fx.plain {}::done) Q ⟨n,(d,v.under C)::ts,ls,h⟩) (hi:C=true->c=true:=by exact gI) (l:Nat.blt d n=true:=by exact rfl):au P ops n (⟨some d,.call { callee:=.value f,args:=args,argTypes:=cN },ty,pos,aC,some (gi,want)⟩::rest) done Q ⟨n,ts,ls,h⟩:=au.gC b hc (fun hC=>ar.ji hk (hi hC) (ar.en g i (j hC))) l hr
theorem oA (k k':Nat) (b:(ops[gi]?).bind (·.dst)=some dg) (hc:gc (get ts dg) want=some C) (hk:Ab.get ts k=.gd c x) (g:Ab.get ((k,.a x)::ts) k'=.gd c' x') (i:ev ((k',.a x')::(k,.a x)::ts) f=.a (.d (.func eG bZ))) (j:iH ((k',.a x')::(k,.a x)::ts) args.toList=some xs) (l:C=true->∀H:ah,AC P eG (xs++bZ.map A.d) H fun r h'=>r=v/\h'=H) (hr:au P ops n rest (Fx.plain {}::done) Q ⟨n,(d,v.under C)::ts,ls,h⟩) (hi:C=true->c=true:=by exact gI) (m:C=true->c'=true:=by exact gI) (o:Nat.blt d n=true:=by exact rfl):au P ops n (⟨some d,.call { callee:=.value f,args:=args,argTypes:=cN },ty,pos,aC,some (gi,want)⟩::rest) done Q ⟨n,ts,ls,h⟩:=au.gC b hc (fun hC=>ar.ji hk (hi hC) (ar.ji g (m hC) (ar.en i j (l hC)))) o hr
theorem Mv [fe P] (e:ar P o ts ls h fx v aH h':=by exact ar.ox):ar P o ts ls h fx v aH h':=e
theorem As [fe P] (e:ar P o ts ls h fx v aH h':=by exact ar.Ns):ar P o ts ls h fx v aH h':=e
theorem Ld [fe P] (e:ar P o ts ls h fx v aH h':=by exact ar.bS (jm rfl) rfl rfl rfl):ar P o ts ls h fx v aH h':=e
theorem Fv [fe P] (e:ar P o ts ls h fx v aH h':=by exact ar.FW (jm rfl) rfl rfl (jm rfl) rfl rfl):ar P o ts ls h fx v aH h':=e
theorem BI [fe P] (e:ar P o ts ls h fx v aH h':=by exact ar.zw rfl rfl rfl):ar P o ts ls h fx v aH h':=e
theorem BS [fe P] (e:ar P o ts ls h fx v aH h':=by exact ar.MD rfl rfl rfl):ar P o ts ls h fx v aH h':=e
theorem PA [fe P] (e:ar P o ts ls h fx v aH h':=by exact ar.fV rfl rfl rfl):ar P o ts ls h fx v aH h':=e
theorem PO [fe P] (e:ar P o ts ls h fx v aH h':=by exact ar.qk rfl rfl rfl):ar P o ts ls h fx v aH h':=e
theorem NB [fe P] (e:ar P o ts ls h fx v aH h':=by exact ar.uk rfl):ar P o ts ls h fx v aH h':=e
theorem EX [fe P] (e:ar P o ts ls h fx v aH h':=by exact ar.extract rfl rfl):ar P o ts ls h fx v aH h':=e
theorem BX [fe P] (e:ar P o ts ls h fx v aH h':=by exact ar.Nc rfl):ar P o ts ls h fx v aH h':=e
theorem LL [fe P] (e:ar P o ts ls h fx v aH h':=by exact ar.rI (jm rfl) rfl rfl rfl rfl):ar P o ts ls h fx v aH h':=e
theorem FL [fe P] (e:ar P o ts ls h fx v aH h':=by exact ar.Mw (jm rfl) rfl rfl (jm rfl) rfl rfl):ar P o ts ls h fx v aH h':=e
theorem BU [fe P] (e:ar P o ts ls h fx v aH h':=by exact ar.build fe.ok rfl rfl rfl rfl rfl rfl):ar P o ts ls h fx v aH h':=e
theorem BV [fe P] (e:ar P o ts ls h fx v aH h':=by exact ar.buildSlice (jm rfl) rfl (jm rfl) rfl rfl rfl rfl rfl rfl):ar P o ts ls h fx v aH h':=e
theorem NP [fe P] (e:ar P o ts ls h fx v aH h':=by exact ar.MJ rfl):ar P o ts ls h fx v aH h':=e
theorem aQ.SI {t u:TypeId}{x y:Operand}{p q:Int}(hr:aQ P ops rest Q ⟨n,(d,.a (.d (.int .i64 (p+q))))::ts,ls,h⟩) (b:ev ts x=.a (.d (.int .i64 p)):=by exact rfl) (f:ev ts y=.a (.d (.int .i64 q)):=by exact rfl)
  (h1 : -9223372036854775808<=p+q:=by first|omega|(dsimp only; omega)|(simp at *; omega)) (g:p+q<=9223372036854775807:=by first|omega|(dsimp only; omega)|(simp at *; omega)) (i:Nat.blt d n=true:=by exact rfl) :
  aQ P ops (⟨some d,.binOp .add t x y u,ty,pos,aC,none⟩::rest) Q ⟨n,ts,ls,h⟩:=aQ.s0 (ar.Fm b f h1 g) i hr
theorem aQ.Sc {f:Operand}{args:Array Operand}{cN:Array TypeId}{eG:FuncId}{bZ:List D}{xs:List A}(b:ev ts f=.a (.d (.func eG bZ))) (g:iH ts args.toList=some xs)
  (hc:∀H:ah,AC P eG (xs++bZ.map A.d) H fun r h'=>r=v/\h'=H) (hr:aQ P ops rest Q ⟨n,(d,v)::ts,ls,h⟩) (i:Nat.blt d n=true:=by exact rfl):aQ P ops (⟨some d,.call { callee:=.value f,args:=args,argTypes:=cN },ty,pos,aC,none⟩::rest) Q ⟨n,ts,ls,h⟩:=aQ.s0 (ar.en b g hc) i hr
theorem aQ.Sl [fe P] (hr:aQ P ops rest Q ⟨n,(d,v)::ts,aH,h⟩) (b:ar P ⟨some d,op,ty,pos,aC,none⟩ ts ls h { wl:=true } v aH h:=by exact ar.Nt (jm rfl) rfl) (f:Nat.blt d n=true:=by exact rfl) :
  aQ P ops (⟨some d,op,ty,pos,aC,none⟩::rest) Q ⟨n,ts,ls,h⟩:=aQ.sL b f hr
theorem aQ.Sf [fe P] (hr:aQ P ops rest Q ⟨n,ts,aH,h⟩) (b:ar P ⟨none,op,ty,pos,aC,none⟩ ts ls h { wl:=true } v aH h:=by first|exact ar.dH (jm rfl) rfl rfl rfl rfl rfl|exact ar.ul (jm rfl) rfl rfl rfl rfl (by repeat (first|exact cD.zero|apply cD.succ)) (by repeat (first|exact cD.zero|apply cD.succ))) :
  aQ P ops (⟨none,op,ty,pos,aC,none⟩::rest) Q ⟨n,ts,ls,h⟩:=aQ.dh b hr
theorem aQ.hq {h:ah}(h':ah) (hw:aQ P ops rest Q ⟨n,ts,ls,h'⟩) (e:h=h':=by first|rfl|(rw [ah.set_set]; rfl)|(funext n_; simp only [ah.set]; (repeat' split)<;>first|rfl|(exfalso; simp_all; done)|(simp_all; done))):aQ P ops rest Q ⟨n,ts,ls,h⟩:=aQ.zJ e hw
theorem au.Dh {h:ah}(h':ah) (hw:au P ops n rest done Q ⟨n,ts,ls,h'⟩) (e:h=h':=by first|rfl|(rw [ah.set_set]; rfl)|(funext n_; simp only [ah.set]; (repeat' split)<;>first|rfl|(exfalso; simp_all; done)|(simp_all; done))):au P ops n rest done Q ⟨n,ts,ls,h⟩:=au.zJ e hw
end
section
variable {P:Program}{Q:Exit->St->Prop}{σ:St}
theorem ag.af {id:Nat}{l:List Oper}{y:Code}(h:aQ P l.toArray l (fun b=>ag P y Q b) σ):ag P (.seq (.region id l.toArray false) y) Q σ:=ag.seq (ag.region h)
theorem ag.bY {id:Nat}{l:List Oper}{y:Code}(h:au P l.toArray σ.n l [] (fun b=>ag P y Q b) σ) (hm:P.follows .mixedOrders=true:=by exact rfl):ag P (.seq (.region id l.toArray true) y) Q σ:=ag.seq (ag.draw hm h)
theorem ag.sk {A K:St->Prop}(b:∀σ,A σ->K σ) (h:A σ) (e:K σ->Q .normal σ:=by exact id):ag P .skip Q σ:=ag.skip (e (b _ h))
theorem ag.rt {α:Type}{a r:α}(b:some a=some r) (h:a=r->Q .ret σ:=by intro e; subst e; (repeat (first|refine bK ?_|refine bL ?_)); exact bz.bJ _ rfl ⟨rfl,rfl⟩ (fun _ _ h=>h)):ag P .ret Q σ:=ag.ret (h (Option.some.inj b))
end
theorem bO {α β:Type}{o:Option α}{k:α->Option β}{r:β}(h:o.bind k=some r):∃x,o=some x/\k x=some r:=gA h
theorem gO {α β:Type}{c:Bool}{o:Option α}{d:α}{k:α->Option β}{r:β}(h:aN c o d k=some r):∃x,(c=true->o=some x)/\k x=some r:=FR h
theorem aS.KA {ts:Ts}{m:Nat}{v:V}{r:Ts}(k:Nat) (t:aS ts m r) (h:Ab.get ts k=v:=by conv=>lhs; whnf) (hv:v.wz m=true:=by rfl):aS ts m ((k,v)::r):=aS.c h hv t
theorem dY.TA {ts:Ts}{v:V}{r:Ts}(k:Nat) (t:dY ts r) (h:Ab.get ts k=v:=by conv=>lhs; whnf):dY ts ((k,v)::r):=dY.cons h t
section
variable {P:Program}{α:Type}{ts:Ts}{ls aH:List (List D)}{h h':ah}{dst:Option Tmp}{ty:TypeId}{pos:String}{aC:Array Edge}{g:Option (Nat×Bool)}{ops:Array Oper}{rest:List Oper}{Q:St->Prop}{n d:Nat}{v:V}{op:Op}{done:List Fx}
theorem ix [fe P] (f:α->List D) (n:Nat){t e:TypeId}{b j:TI}{x i:Operand}{tok:Option Nat}{s:Sl α}{m:IntKind}{y:α}{k:Nat}(hr:s.l[n]?=some y) (o:aM P t=some b:=by exact jm rfl) (hk:b.k=.slice e:=by exact rfl) (p:aM P e=some j:=by exact jm rfl)
  (q:ev ts x=.a (.d (s.d k f tok)):=by exact rfl) (hi:ev ts i=.a (.d (.int m (n:Int))):=by exact rfl) (r:k=j.size:=by exact rfl):ar P ⟨dst,.indexAddr t x i,ty,pos,aC,g⟩ ts ls h {} (.a (.d (.view (f y)))) ls h:=ar.eR o hk p q hi r hr
theorem am {t u e:TypeId}{i j b:TI}(f:α->List D){x y:Operand}{tk k k' m:Nat}{tok':Option Nat}{s r w:Sl α}{z:A}(o:aM P t=some i) (hk:i.k=.slice e) (p:aM P e=some b) (q:aM P u=some j) (hr:aZ b.bytes s r=some w) (v:∃e,j.k=.slice e:=by exact⟨_,rfl⟩)
  (B:b.zero=some z:=by exact rfl) (C:(cn z).length=b.size:=by exact rfl) (E:b.size≠0:=by decide) (F:ev ts x=.a (.d (s.d k f (some tk))):=by exact rfl) (G:ev ts y=.a (.d (r.d k' f tok')):=by exact rfl) (H:k=b.size:=by exact rfl) (I:k'=b.size:=by exact rfl)
  (J:h tk=some (.tok b.size m):=by exact aI) (hm:m=s.l.length:=by exact rfl):ar P ⟨dst,.call { callee:=.builtin .append,args:=#[x,y],argTypes:=#[t,u] },ty,pos,aC,g⟩ ts ls h { rh:=true,wh:=true } (.a (.d (w.d k f (some tk)))) ls (h.set tk (some (.tok b.size w.l.length))) :=
 ar.qj o hk p q v B C E F G H I J hm hr
theorem SH (b:ar P ⟨some d,op,ty,pos,aC,none⟩ ts ls h { rh:=true,wh:=true } v ls h') (hr:aQ P ops rest Q ⟨n,(d,v)::ts,ls,h'⟩) (f:Nat.blt d n=true:=by exact rfl):aQ P ops (⟨some d,op,ty,pos,aC,none⟩::rest) Q ⟨n,ts,ls,h⟩:=aQ.sH b f hr
theorem cq {f:Operand}{args:Array Operand}{cN:Array TypeId}{eG:FuncId}{bZ:List D}{xs:List A}(b:ev ts f=.a (.d (.func eG bZ))) (g:iH ts args.toList=some xs)
  (hc:∀H:ah,AC P eG (xs++bZ.map A.d) H fun r h'=>r=v/\h'=H) (hr:au P ops n rest (Fx.plain {}::done) Q ⟨n,(d,v)::ts,ls,h⟩) (i:Nat.blt d n=true:=by exact rfl):au P ops n (⟨some d,.call { callee:=.value f,args:=args,argTypes:=cN },ty,pos,aC,none⟩::rest) done Q ⟨n,ts,ls,h⟩:=au.s0 (ar.en b g hc) i hr
end
theorem Qe {α:Type}{a b c:α}(h:c=b) (e:a=b):a=c:=e.trans h.symm
theorem Qs {α:Type}{o p:Option α}(h:o=p.bind some):o=p:=h.trans (Q.OD p)
theorem QT {α:Type}{i n:Nat}{a b r:α}(h:i<n) (e:a=r):cond (decide ((i:Int)<(n:Int))) a b=r:=Q.qb (Q.wQ h) e
theorem QF {α:Type}{i n:Nat}{a b r:α}(h:¬i<n) (e:b=r):cond (decide ((i:Int)<(n:Int))) a b=r:=Q.mK (Q.Aa h) e
theorem Qa {α:Type}{l:List α}{i:Nat}(h:i<l.length):∃x,l[i]?=some x:=⟨_,List.getElem?_eq_getElem h⟩
theorem dL {α:Type}{i:Nat}{l:List α}(h:l.length<=i):l.drop i=[]:=List.drop_of_length_le h
end Go.Ab
/-
 Short rules for walks over the list layer.
-/
namespace Go.Ab
open Go
section
variable {ak:bf}{P:Program}{Q:Exit->St->Prop}{σ:St}
theorem ag.cO {c:Operand}{u v:Code}{b:Bool}{α R:Type}{A B:Option α}{K:α->Option R}{r:R}(f:Option.bind (bif b then A else B) K=some r) (ht:b=true->Option.bind A K=some r->ag P u Q σ) (g:b=false->Option.bind B K=some r->ag P v Q σ) (hc:ev σ.ts c=.a (.d (.bool b)):=by exact rfl):ag P (.cond c u v) Q σ:=ag.mZ f hc ht g
theorem ag.cP {c:Operand}{u v:Code}{b:Bool}{α R:Type}{A B:α}{K:α->Option R}{r:R}(f:K (bif b then A else B)=some r) (ht:b=true->K A=some r->ag P u Q σ) (g:b=false->K B=some r->ag P v Q σ) (hc:ev σ.ts c=.a (.d (.bool b)):=by exact rfl):ag P (.cond c u v) Q σ:=ag.wO f hc ht g
end
end Go.Ab
/-
 A law's call beside the library's table of powers of ten. No program text.
-/
namespace Go.Ab
open Go Go.RowKit Go.Proofs Go.ChangeShapes Go.WideShapes Go.ChangeAt
variable {ak:bf}
theorem OM {P:Program}{W:World}{l:List (String×DataW Unit)}{name:String}{k:IntKind}{f:List Int}{g:Nat}{t e:TypeId}{n:Nat}(i:P.globalNamed name=some g) (j:(P.globals[g]?).map (·.type)=some t) (ht:P.underlying t=some (.array n e))
  (he:P.underlying e=some (.int k)) (m:P.cellsOf e=1) (o:P.cellsOf t=n) (h:laidMet P l W) (hm:(name,Lib.tabData k f)∈l):∃u b,W.heap[g]?=some (.cells (f.map fun z=>Value.int k z).toArray u b):=by
 obtain⟨w,x,cs,fuel,p,q,r,hv,s⟩:=Lib.laidMet.reads h hm;obtain rfl:=Option.some.inj (i.symm.trans q);obtain rfl:=Option.some.inj (j.symm.trans r);have hc:=Lib.cells_of_tab ht he m o s;unfold World.var? at hv;rw [i,Option.bind_some] at hv
 split at hv
 ·rename_i c u b v
  simp only [Option.some.injEq] at hv;subst hv;refine⟨u,b, ?_⟩;rw [<- hc];exact v
 ·cases hv
def ew (g:Nat) (o:Go.Obj):ah:=fun i=>if i=0 then some (.fix g o) else none
def jT (w:World):J:={ j0 w with next:=1 }
theorem ON (w:World):Le (j0 w) w (jT w) w:=⟨Nat.zero_le _,fun _ h=>absurd h (Nat.not_lt_zero _),fun _=>Nat.le_refl _,fun _ _ _=>rfl,fun _ h=>absurd h (Nat.not_lt_zero _)⟩
theorem OO {w:World}{g:Nat}{o:Go.Obj}(h:w.heap[g]?=some o):dJ (jT w) w (ew g o):=by
 refine⟨fun id l hi=>?_,fun gL o1 gM o2 b h1 f _ _=>?_,fun b i=>(by simp [jT,j0,Array.getElem?_eq_none i])⟩
 ·unfold ew at hi
  split at hi
  ·rename_i h0; subst h0; cases hi; exact⟨Nat.zero_lt_one,h⟩
  ·cases hi
 ·unfold ew at h1 f
  split at h1
  ·split at f
   ·rename_i j k; rw [j,k]
   ·cases f
  ·cases h1
theorem OP {P:Program}{f:FuncId}{xs:List A}{g:Nat}{o:Go.Obj}(hc:@AC bf.on P f xs (ew g o) fun r h'=>r=.a (.d (.bool true))/\h'=ew g o){W:World}{args:List Value}(i:W.heap[g]?=some o) (m:aW (cM (j0 W) W) xs args) :
  Calls P f args.toArray W fun e W'=>e=.returned (.bool true)/\Below W.heap.size W W':=by
 letI:bf:=bf.on
 refine(hc.runs (jT W) W args (OO i) (m.imp fun _ _ h=>h.mono (ON W))).mono ?_;rintro e W' ⟨r,cv,j',h',rfl,⟨rfl,rfl⟩,hv,hr,b⟩;have p:aB j' W' (.bool true) cv:=hv;cases p;refine⟨rfl,b.os,b.tape,b.output.1,b.size,fun k hk=>?_⟩;by_cases j:k=g
 ·subst j;have h1:W'.heap[k]?=some o:=(hr.obj 0 (.fix k o) rfl).2;rw [h1,i]
 ·refine(b.frame k hk ?_).1;rintro (h|⟨id,q,h,l⟩)
  ·cases h
  ·unfold ew at h
   split at h
   ·cases h;simp only [bD,Option.some.injEq] at l;exact j l.symm
   ·cases h
theorem fP.of {P:Program}{g:Nat}{u:TypeId}{b:Nat×Nat}(f:P.globalNamed "internal/strconv.uint64pow10"=some g):fP P (.fix g (.cells (Lib.pow10Tab.map fun z=>Value.int .u64 z).toArray u b)):=⟨g,u,b,rfl,f⟩
end Go.Ab
namespace Go.Ab
theorem oB {α β : Type} (a : α) (f : α → Option β) : (some a).bind f = f a := rfl
theorem oJ {α : Type} {a b : α} (h : some a = some b) : a = b := Option.some.inj h
theorem nS (n : Nat) : n < n.succ := Nat.lt_succ_self n
theorem oD {p : Prop} [Decidable p] (h : decide p = true) : p := of_decide_eq_true h
theorem dF {p : Prop} [Decidable p] (h : ¬ p) : decide p = false := decide_eq_false h
theorem dT {p : Prop} [Decidable p] (h : p) : decide p = true := decide_eq_true h
theorem kN {ts : Ts} : dY ts [] := .nil
end Go.Ab
