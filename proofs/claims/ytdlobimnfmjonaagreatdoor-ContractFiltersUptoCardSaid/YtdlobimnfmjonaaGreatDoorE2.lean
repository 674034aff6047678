import Derived.Test.YtdlobimnfmjonaaGreatDoorE1
import Derived.Laws.Tables
import Derived.Lib.Strings
import Derived.Laws.Slices
import Derived.Laws.Concat
import Derived.Laws.StructEq
set_option maxRecDepth 100000
set_option maxHeartbeats 2000000
set_option linter.unusedVariables false
set_option linter.unusedSimpArgs false
/-
 Code,calls and results over abstract states.
-/
namespace Go.Ab
open Go Go.RowKit
variable {av:bR}
variable {fS:eT}
inductive K where
 | bool|int (k:IntKind)|str|ptr (e:TypeId)|slice (e:TypeId)|map (k e:TypeId)|struct (fs:List (Nat×TypeId))|func|iface|other
 deriving DecidableEq
def eU:TypeDesc->K
 | .bool=>.bool
 | .int k=>.int k
 | .string=>.str
 | .pointer e=>.ptr e
 | .slice e=>.slice e
 | .map k e=>.map k e
 | .struct fs=>.struct (fs.toList.map fun f=>(f.offset,f.type))
 | .func _ _ _=>.func
 | .interface _=>.iface
 | _=>.other
structure TI where
 k:K
 size:Nat
 bytes:Nat
 zero:Option A
def vu:List Value->Option (List D)
 | []=>some []
 | v::r=>match vp v,vu r with
  | some x,some xs=>some (x::xs)
  | _,_=>none
def xR:Option Value->Option A
 | some (.agg cs)=>(vu cs.toList).map .agg
 | some v=>(vp v).map .d
 | none=>none
def GG (P:Program):Nat->TypeId->List TypeId
 | 0,t=>[t]
 | n+1,t=>match P.underlying t with
  | some (.struct fs)=>fs.toList.flatMap fun f=>GG P n f.type
  | _=>[t]
def Ak (P:Program) (t:TypeId):D->D
 | .slice k tok true []=>match P.underlying t with
  | some (.slice e)=>.slice (P.cellsOf e) tok true []
  | _=>.slice k tok true []
 | x=>x
def CW (P:Program):List TypeId->List D->List D
 | t::ts,x::xs=>Ak P t x::CW P ts xs
 | _,xs=>xs
def Al (P:Program) (t:TypeId):A->A
 | .d x=>.d (Ak P t x)
 | .agg xs=>.agg (CW P (GG P 8 t) xs)
def aX (P:Program) (t:TypeId):Option TI :=
 match P.info? t,P.underlying t with
 | some i,some d=>some ⟨eU d,i.size,i.bytes,(xR i.zero).map (Al P t)⟩
 | _,_=>none
theorem aF.NN {j:J}{w:World}{k k':Nat}{tok:Option Nat}{v:Value}(h:aF j w (.slice k tok true []) v):aF j w (.slice k' tok true []) v:=by
 cases h with
 | gu _ _ ht=>exact .gu _ _ ht
theorem GH {j:J}{w:World}{P:Program}{t:TypeId}{x:D}{v:Value}(h:aF j w x v):aF j w (Ak P t x) v:=by
 unfold Ak
 split
 ·split
  ·exact h.NN
  ·exact h
 ·exact h
theorem GI {j:J}{w:World}{P:Program}:∀{ts:List TypeId}{xs:List D}{b:List Value},aQ (aF j w) xs b->aQ (aF j w) (CW P ts xs) b
 | [],xs,_,h=>by cases xs<;>exact h
 | _::_,_,_,.nil=>.nil
 | _::ts,_,_,.cons h t=>.cons (GH h) (GI (ts:=ts) t)
theorem NO {j:J}{w:World}{P:Program}{t:TypeId}{x:A}{v:Value}(h:dw j w x v):dw j w (Al P t x) v:=by
 cases x with
 | d x=>exact GH (x:=x) h
 | agg xs=>obtain⟨cs,e,h⟩:=h; exact⟨cs,e,GI h⟩
theorem GJ (j:J) (w:World):∀(cs:List Value) (xs:List D),vu cs=some xs->aQ (aF j w) xs cs
 | [],xs,h=>by simp [vu] at h; subst h; exact .nil
 | v::r,xs,h=>by
  simp only [vu] at h
  split at h
  ·rename_i x b h1 f
   simp at h; subst h;exact .cons (CQ j w v x h1) (GJ j w r b f)
  ·simp at h
theorem gj {P:Program}{t:TypeId}{b:TI}(h:aX P t=some b) :
  ∃i d,P.info? t=some i/\P.underlying t=some d/\i.size=b.size/\i.bytes=b.bytes/\eU d=b.k/\(xR i.zero).map (Al P t)=b.zero:=by
 unfold aX at h
 split at h
 ·rename_i i d h1 f
  simp at h; subst h;exact⟨i,d,h1,f,rfl,rfl,rfl,rfl⟩
 ·simp at h
theorem NP {z:Option Value}{x:A}(h:xR z=some x):∃v,z=some v/\∀j w,dw j w x v:=by
 unfold xR at h
 split at h
 ·rename_i cs
  cases e:vu cs.toList with
  | none=>rw [e] at h; simp at h
  | some xs =>
   rw [e] at h; simp at h; subst h;exact⟨_,rfl,fun j w=>⟨cs.toList,by simp,GJ j w _ _ e⟩⟩
 ·rename_i v hn
  cases e:vp v with
  | none=>rw [e] at h; simp at h
  | some xs =>
   rw [e] at h; simp at h; subst h;exact⟨_,rfl,fun j w=>CQ j w _ _ e⟩
 ·simp at h
theorem nc {P:Program}{t:TypeId}{z:Option Value}{x:A}(h:(xR z).map (Al P t)=some x):∃v,z=some v/\∀j w,dw j w x v:=by
 simp only [Option.map_eq_some_iff] at h;obtain⟨y,b,rfl⟩:=h;obtain⟨v,h1,f⟩:=NP b;exact⟨v,h1,fun j w=>NO (f j w)⟩
def K.tX:K->Bool
 | .other=>true
 | _=>false
theorem K.tY {k:K}(h:k.tX=false):k≠.other:=fun e=>by rw [e] at h; cases h
def xS:K->Bool
 | .struct _=>true
 | _=>false
def tZ (b:TI) (xs:List D) (off:Nat):Option A :=
 match xS b.k with
 | true=>match Nat.beq off 0&&Nat.beq xs.length b.size with
  | true=>some (.agg xs)
  | false=>match Nat.ble (off+b.size) xs.length with
   | true=>some (.agg ((xs.drop off).take b.size))
   | false=>none
 | false=>match xs[off]? with
  | some x=>some (.d x)
  | none=>none
theorem eV {P:Program}{t:TypeId}{d:TypeDesc}(h:P.underlying t=some d) (w:World):(underlying t).run P w=.ok d w:=run_underlying h w
theorem CX {P:Program}{t:TypeId}{b:TI}(g:aX P t=some b) (hk:b.k≠.other) (w:World):(isAgg t).run P w=.ok (xS b.k) w:=by
 obtain⟨i,d,h1,j,_,_,f,_⟩:=gj g;simp only [isAgg,Sem.run_bind,eV j,Result.andThen];cases d<;>simp [eU] at f<;>first|(rw [<- f]; rfl)|(exact absurd f.symm hk)|skip
theorem kg {P:Program}{t:TypeId}{b:TI}(f:aX P t=some b) (w:World):(sizeOf t).run P w=.ok b.size w:=by
 obtain⟨i,d,h1,j,g,_⟩:=gj f;simp [sizeOf,typeInfo,h1,g]
def ng (P:Program) (T:List TI):Prop:=∀t b,T[t]?=some b->aX P t=some b
structure AC [bR] (P:Program) (f:FuncId) (args:List A) (h:af) (cZ:V->af->Prop):Prop where
 enter:∀(dc:Array Value) (w:World),(callFunc f dc).run P w=.ok (.enter f dc) w
 runs:∀(j:J) (w:World) (dc:List Value),fu j w h->aQ (dw j w) args dc->Calls P f dc.toArray w fun e w' =>
  ∃r cv j' h',e=.returned cv/\cZ r h'/\bp j' w' [] r cv/\fu j' w' h'/\bM j w (aU j h []) j' w' (aU j' h' [])
def AQ [bR] [eT] (Q:Exit->St->Prop) (j:J) (w:World) (jl:List Nat) (σ:St):Exit->Act->World->Prop :=
 fun e g w'=>∃b j' f,Q e b/\gB j' w' f b g/\bM j w (aU j σ.h jl) j' w' (aU j' b.h f)
def ah [bR] [eT] (P:Program) (c:Code) (Q:Exit->St->Prop) (σ:St):Prop :=
 ∀(j:J) (w:World) (jl:List Nat) (a:Act),gB j w jl σ a->c.wp P (AQ Q j w jl σ) a w
def lX (next:St->Prop) (Q:Exit->St->Prop):Exit->St->Prop
 | .normal,σ=>next σ
 | e,σ=>Q e σ
def vv (id:Nat) (Q:Exit->St->Prop):Exit->St->Prop
 | .exit i,σ=>if i=id then Q .normal σ else Q (.exit i) σ
 | e,σ=>Q e σ
theorem AQ.trans {Q:Exit->St->Prop}{j b:J}{w f:World}{jl g:List Nat}{σ k:St}(l:bM j w (aU j σ.h jl) b f (aU b k.h g)){e:Exit}{a:Act}{w':World}
  (h:AQ Q b f g k e a w'):AQ Q j w jl σ e a w' :=
 let ⟨m,j',p,hq,q,he⟩:=h
 ⟨m,j',p,hq,q,l.trans he⟩
section
variable {P:Program}{Q:Exit->St->Prop}{σ:St}
theorem ah.mono {c:Code}{Q':Exit->St->Prop}(h:ah P c Q σ) (hq:∀e σ,Q e σ->Q' e σ):ah P c Q' σ :=
 fun j w jl a b=>wp_mono (h j w jl a b) fun _ _ _ ⟨f,j',g,q,r⟩=>⟨f,j',g,hq _ _ q,r⟩
theorem ah.skip (h:Q .normal σ):ah P .skip Q σ:=fun j w jl _ b=>wp_skip ⟨σ,j,jl,h,b,bM.refl _ _ _⟩
theorem ah.ret (h:Q .ret σ):ah P .ret Q σ:=fun j w jl _ b=>wp_ret ⟨σ,j,jl,h,b,bM.refl _ _ _⟩
theorem ah.exit {id:Nat}(h:Q (.exit id) σ):ah P (.exit id) Q σ:=fun j w jl _ b=>wp_exit ⟨σ,j,jl,h,b,bM.refl _ _ _⟩
theorem ah.seq {x y:Code}(h:ah P x (lX (ah P y Q) Q) σ):ah P (.seq x y) Q σ:=by
 intro j w jl a l;refine wp_seq (wp_mono (h j w jl a l) ?_);rintro e m w' ⟨k,j',b,hq,f,g⟩;cases e with
 | normal=>exact wp_mono (hq j' w' b m f) fun e p q h=>AQ.trans g h
 | exit id=>exact⟨k,j',b,hq,f,g⟩
 | goto id=>exact⟨k,j',b,hq,f,g⟩
 | ret=>exact⟨k,j',b,hq,f,g⟩
 | panic ch=>exact⟨k,j',b,hq,f,g⟩
 | outgrown=>exact⟨k,j',b,hq,f,g⟩
theorem NQ {j:J}{w:World}{jl:List Nat}{a:Act}{ts:Ts}{x:Operand}{b:Bool}(f:∀k,bp j w jl (get ts k) (a.tmps.getD k undef)) (hx:ev ts x=.a (.d (.bool b))):a.eval x=.bool b:=by
 have h:=oy f x;rw [hx] at h;have h':aF j w (.bool b) (a.eval x):=h;generalize a.eval x=y at h';cases h'; rfl
theorem ah.cond {c:Operand}{x y:Code}{b:Bool}(hc:ev σ.ts c=.a (.d (.bool b))) (ht:b=true->ah P x Q σ) (g:b=false->ah P y Q σ):ah P (.cond c x y) Q σ:=by
 intro j w jl a f;exact wp_cond_split (NQ f.tmps hc) (fun e=>ht e j w jl a f) (fun e=>g e j w jl a f)
theorem ah.jN {c:Operand}{x y:Code}{b:Bool}(hc:ev σ.ts c=.a (.d (.bool b))) (f:b=true) (ht:ah P x Q σ):ah P (.cond c x y) Q σ :=
 ah.cond hc (fun _=>ht) fun e=>by rw [f] at e; cases e
theorem ah.t_ {c:Operand}{x y:Code}{b:Bool}(hc:ev σ.ts c=.a (.d (.bool b))) (f:b=false) (g:ah P y Q σ):ah P (.cond c x y) Q σ :=
 ah.cond hc (fun e=>by rw [f] at e; cases e) fun _=>g
theorem ah.block {id:Nat}{c:Code}(h:ah P c (vv id Q) σ):ah P (.block id c) Q σ:=by
 intro j w jl a l;refine wp_block (wp_mono (h j w jl a l) ?_);rintro e m w' ⟨b,j',f,hq,g,k⟩;cases e with
 | exit i =>
  simp only [vv] at hq;simp only [Exit.inBlock]
  split
  ·rename_i e; rw [if_pos e] at hq; exact⟨b,j',f,hq,g,k⟩
  ·rename_i e; rw [if_neg e] at hq; exact⟨b,j',f,hq,g,k⟩
 | normal=>exact⟨b,j',f,hq,g,k⟩
 | goto id=>exact⟨b,j',f,hq,g,k⟩
 | ret=>exact⟨b,j',f,hq,g,k⟩
 | panic ch=>exact⟨b,j',f,hq,g,k⟩
 | outgrown=>exact⟨b,j',f,hq,g,k⟩
theorem ah.loop {α:Type}{c:Code}(inv:α->St) (m:α->Nat) (pre:α->Prop) (u:α) (h0:pre u)
  (hr:∀x,pre x->ah P c (lX (fun g=>∃y,g=inv y/\pre y/\m y<m x) Q) (inv x)):ah P (.loop c) Q (inv u):=by
 intro j w jl a v b k cs;have key:∀n x,m x=n->pre x->∀(j:J) (w:World) (jl:List Nat) (a:Act),gB j w jl (inv x) a ->
   ∃e t w',AQ Q j w jl (inv x) e t w'/\Arrives P (lone (b.at a (.code c::.inLoop c::k)) cs w) b k cs e t w':=by
  intro n;induction n using Nat.strongRecOn with
  | _ n z =>
   intro x hn B j w jl a v;obtain⟨e,a1,p,⟨g,j',q,hq,r,s⟩,f⟩:=hr x B j w jl a v b (.inLoop c::k) cs;cases e with
   | normal =>
    obtain⟨y,rfl,C,bl⟩:=hq;obtain⟨E,a2,F,G,H⟩:=z (m y) (hn▸bl) y rfl C j' p q a1 r;exact⟨E,a2,F,AQ.trans s G,.of_steps (Steps.trans f (.one step_inLoop)) H⟩
   | exit id=>exact⟨_,a1,p,⟨g,j',q,hq,r,s⟩,.pass (x:=.inLoop c) rfl (fun _ _=>.inl (by simp)) f⟩
   | goto l=>exact⟨_,a1,p,⟨g,j',q,hq,r,s⟩,.pass (x:=.inLoop c) rfl (fun _ _=>.inl (by simp)) f⟩
   | ret=>exact⟨_,a1,p,⟨g,j',q,hq,r,s⟩,.pass (x:=.inLoop c) rfl (fun _ _=>.inl (by simp)) f⟩
   | panic ch=>exact⟨_,a1,p,⟨g,j',q,hq,r,s⟩,.pass (x:=.inLoop c) rfl (fun _ _=>.inl (by simp)) f⟩
   | outgrown=>exact⟨_,a1,p,⟨g,j',q,hq,r,s⟩,.pass (x:=.inLoop c) rfl (fun _ _=>.inl (by simp)) f⟩
 obtain⟨e,t,w',hq,f⟩:=key _ u rfl h0 j w jl a v;exact⟨e,t,w',hq,.of_steps (.one step_loop) f⟩
theorem ah.region {id:Nat}{l:List Oper}(h:aJ P l.toArray l (Q .normal) σ):ah P (.region id l.toArray false) Q σ:=by
 intro j w jl a b;exact wp_region_lit (h j w jl a b _ fun f j' w' g p hq k m=>⟨f,j',g,hq,k,m⟩)
theorem ah.draw (hm:P.follows .mixedOrders=true){id:Nat}{l:List Oper}(h:aN P l.toArray σ.n l [] (Q .normal) σ):ah P (.region id l.toArray true) Q σ:=by
 intro j w jl a b;exact aN.wp hm h rfl b fun f j' w' g p hq k m=>⟨f,j',g,hq,k,m⟩
def ck [bR] [eT] (σ b:St):Prop:=∀(j:J) (w:World) (jl:List Nat) (a:Act),gB j w jl σ a->∃j' f,gB j' w f b a/\bM j w (aU j σ.h jl) j' w (aU j' b.h f)
theorem ck.refl (σ:St):ck σ σ:=fun j _ jl _ b=>⟨j,jl,b,bM.refl _ _ _⟩
theorem ck.trans {σ b f:St}(h:ck σ b) (h':ck b f):ck σ f:=by
 intro j w jl a g;obtain⟨k,l,m,p⟩:=h j w jl a g;obtain⟨q,r,s,t⟩:=h' k w l a m;exact⟨q,r,s,p.trans t⟩
theorem ah.ua {c:Code}{b:St}(hw:ck σ b) (h:ah P c Q b):ah P c Q σ:=by
 intro j w jl a f;obtain⟨j',g,k,l⟩:=hw j w jl a f;exact wp_mono (h j' w g a k) fun e a w h=>AQ.trans l h
theorem ah.post {c:Code}(h:ah P c (fun e f=>∃b,ck f b/\Q e b) σ):ah P c Q σ:=by
 intro j w jl a g;refine wp_mono (h j w jl a g) ?_;rintro e k w' ⟨u,j',l,⟨b,hw,hq⟩,m,p⟩;obtain⟨q,r,s,t⟩:=hw j' w' l k m;exact⟨b,q,r,hq,s,p.trans t⟩
inductive dN (ts:Ts) (n:Nat):Ts->Prop where
 | nil:dN ts n []
 | cons {k:Nat}{v:V}{r:Ts}(h:get ts k=v) (hv:(∀i off,v=.c_ i off->i<n)/\∀c i off,v=.iB c i off->i<n) (t:dN ts n r):dN ts n ((k,v)::r)
theorem dN.get {ts:Ts}{n:Nat}{b:Ts}(h:dN ts n b) (k:Nat):Ab.get b k=.any\/(Ab.get b k=Ab.get ts k/\(∀i off,Ab.get b k=.c_ i off->i<n)/\∀c i off,Ab.get b k=.iB c i off->i<n):=by
 induction h with
 | nil=>exact .inl rfl
 | @cons k' v r h hv t f =>
  by_cases e:k'=k
  ·subst e; rw [gh]; exact .inr ⟨h.symm,hv⟩
  ·rw [gZ _ _ e]; exact f
theorem ck.keep {n:Nat}{ts f:Ts}{ls:List (List D)}{h:af}(m:Nat) (hk:dN ts m f):ck ⟨n,ts,ls,h⟩ ⟨n,f,ls.take m,h⟩:=by
 intro j w jl a g;obtain⟨hl,q⟩:=g.hl.trim m;refine⟨j,jl.take m,⟨g.defers,g.size,fun k=>?_,hl⟩,q⟩;rcases hk.get k with e|⟨e,bl,r⟩
 ·show bp _ _ _ (Ab.get f k) _;rw [e]; trivial
 ·show bp _ _ _ (Ab.get f k) _;have hv:=g.tmps k;have hv:bp j w jl (Ab.get ts k) (a.tmps.getD k undef):=hv;rw [<- e] at hv;cases hx:Ab.get f k with
  | any=>trivial
  | a x=>rw [hx] at hv; exact hv
  | c_ i off =>
   rw [hx] at hv;obtain⟨b,l,p⟩:=hv;exact⟨b,by rw [List.getElem?_take_of_lt (bl i off hx)]; exact l,p⟩
  | cI xs=>rw [hx] at hv; exact hv
  | gd c x=>rw [hx] at hv; exact hv
  | full k rows=>rw [hx] at hv; exact hv
  | rB c k rows=>rw [hx] at hv; exact hv
  | iB c i off =>
   rw [hx] at hv;refine⟨fun hc=>?_,hv.2⟩;obtain⟨b,l,p⟩:=hv.1 hc;exact⟨b,by rw [List.getElem?_take_of_lt (r c i off hx)]; exact l,p⟩
theorem ck.forget {n:Nat}{ts:Ts}{ls:List (List D)}{h h':af}(hh:∀id o,h' id=some o->h id=some o):ck ⟨n,ts,ls,h⟩ ⟨n,ts,ls,h'⟩:=by
 intro j w jl a b;obtain⟨hl,f⟩:=b.hl.forget hh;exact⟨j,jl,⟨b.defers,b.size,b.tmps,hl⟩,f⟩
end
def pZ:Nat->List A->Ts
 | _,[]=>[]
 | k,x::r=>(k,.a x)::pZ (k+1) r
theorem CY {j:J}{w:World}(f:Nat->Value):∀(k:Nat) (args:List A) (dc:List Value),aQ (dw j w) args dc->(∀i v,dc[i]?=some v->f (k+i)=v) ->
  ∀t,bp j w [] (get (pZ k args) t) (f t)
 | k,_,_,.nil,_,_=>trivial
 | k,_,_,.cons (a:=x) (b:=v) (l:=l) (m:=m) h ht,g,t=>by
  by_cases e:k=t
  ·subst e;simp only [pZ];rw [gh];have:=g 0 v rfl;rw [Nat.add_zero] at this;rw [this]; exact h
  ·simp only [pZ];rw [gZ _ _ e];exact CY f (k+1) l m ht (fun i v hv=>by have:=g (i+1) v (by simpa using hv); rw [<- this]; congr 1; omega) t
def Am (T:List TI) (σ:St):ResultVar->Option A
 | .tmp t=>match get σ.ts t with
  | .a x=>some x
  | _=>none
 | .cell t ty=>match get σ.ts t,T[ty]? with
  | .c_ i off,some b=>match b.k.tX,σ.ls[i]? with
   | false,some xs=>tZ b xs off
   | _,_=>none
  | _,_=>none
def p4 (T:List TI) (σ:St):List ResultVar->Option (List A)
 | []=>some []
 | r::rs=>match Am T σ r,p4 T σ rs with
  | some x,some xs=>some (x::xs)
  | _,_=>none
def nh:List A->V
 | [x]=>.a x
 | xs=>.cI xs
end Go.Ab
/-
 Loads,stores and results; from the walk of a body to the contract of a function.
-/
namespace Go.Ab
open Go Go.RowKit
variable {av:bR}
section
variable {fS:eT}
theorem aF.one {j:J}{w:World}{x:D}{v:Value}(h:aF j w x v):v.oneCell'=true:=by cases h<;>rfl
def Cells (j:J) (w:World) (b o:Nat) (xs:List D):Prop:=∀i x,xs[i]?=some x->∃v,w.cell? ⟨b,o+i,none⟩=some v/\aF j w x v
theorem add_plain (b o n:Nat):(⟨b,o,none⟩:Addr).add n=⟨b,o+n,none⟩:=by unfold Addr.add; split<;>simp_all
theorem CZ {P:Program}{j:J}{w:World}{b o:Nat}:∀(xs:List D),(∀i x,xs[i]?=some x->∃v,w.cell? ⟨b,o+i,none⟩=some v/\aF j w x v) ->
  ∃cs:List Value,aQ (aF j w) xs cs/\(loadCells ⟨b,o,none⟩ xs.length).run P w=.ok cs.toArray w:=by
 intro xs h;have f:∃cs:List Value,aQ (aF j w) xs cs/\∀i v,cs[i]?=some v->w.cell? ⟨b,o+i,none⟩=some v:=by
  induction xs generalizing o with
  | nil=>exact⟨[],.nil,by simp⟩
  | cons x r g =>
   obtain⟨v,hv,hr⟩:=h 0 x rfl;obtain⟨cs,f,k⟩:=g (o:=o+1) fun i y l=>by
    have:=h (i+1) y (by simpa using l)
    rwa [show o+(i+1)=o+1+i by omega] at this
   refine⟨v::cs,.cons hr f,fun i u hu=>?_⟩;cases i with
   | zero=>simp at hu; subst hu; exact hv
   | succ i=>rw [show o+(i+1)=o+1+i by omega]; exact k i u (by simpa using hu)
 obtain⟨cs,h1,m⟩:=f;refine⟨cs,h1, ?_⟩;rw [h1.length];exact run_loadCells_list w _ cs fun i v hv=>by rw [add_plain]; exact m i v hv
theorem xT {P:Program}{j:J}{w:World}{b o off:Nat}{xs:List D}(hc:Cells j w b o xs){t:TypeId}{l:TI}(p:aX P t=some l) (hk:l.k≠.other){x:A}(hl:tZ l xs off=some x) :
  ∃v,(loadVar t ⟨b,o+off,none⟩).run P w=.ok v w/\dw j w x v:=by
 unfold tZ at hl;simp only [loadVar,Sem.run_bind,CX p hk,Result.andThen];cases s:xS l.k with
 | false =>
  rw [s] at hl;dsimp only at hl
  split at hl
  ·rename_i y f
   simp at hl; subst hl;obtain⟨v,hv,hr⟩:=hc off y f;refine⟨v, ?_,hr⟩;simp [hv]
  ·simp at hl
 | true =>
  rw [s] at hl;dsimp only at hl;have z:∀g:List D,g.length=l.size->(∀i y,g[i]?=some y->xs[off+i]?=some y)->∃v,(loadCells ⟨b,o+off,none⟩ l.size).run P w=.ok v w/\dw j w (.agg g) (.agg v):=by
   intro g hlen q;obtain⟨cs,h1,m⟩:=CZ (P:=P) (j:=j) (w:=w) (b:=b) (o:=o+off) g fun i y f=>by
    have:=hc (off+i) y (q i y f)
    rwa [<- Nat.add_assoc] at this
   rw [hlen] at m;exact⟨_,m,cs,rfl,h1⟩
  have u:∀g:List D,g.length=l.size->(∀i y,g[i]?=some y->xs[off+i]?=some y) ->
    ∃v,((Sem.run P (if true=true then Value.agg <$> (do loadCells ⟨b,o+off,none⟩ (<- sizeOf t)) else load ⟨b,o+off,none⟩)) w)=.ok v w/\dw j w (.agg g) v:=by
   intro g hlen q;obtain⟨v,h1,m⟩:=z g hlen q;exact⟨.agg v,by simp [kg p,h1],m⟩
  split at hl
  ·rename_i r
   simp at hl; subst hl;simp only [Bool.and_eq_true] at r;have B:off=0:=Nat.eq_of_beq_eq_true r.1;have C:xs.length=l.size:=Nat.eq_of_beq_eq_true r.2;obtain⟨v,h1,m⟩:=u xs C fun i y f=>by rw [B,Nat.zero_add]; exact f
   exact⟨v,by simpa [kg p] using h1,m⟩
  ·split at hl
   ·rename_i E
    simp at hl; subst hl;have hle:=Nat.le_of_ble_eq_true E;obtain⟨v,h1,m⟩:=u ((xs.drop off).take l.size) (by simp; omega) fun i y f=>by
     rw [List.getElem?_take] at f
     split at f
     ·rw [List.getElem?_drop] at f; exact f
     ·simp at f
    exact⟨v,by simpa [kg p] using h1,m⟩
   ·simp at hl
theorem jA.cells {j:J}{w:World}{b:Nat}{xs:List D}(h:jA j w b xs):Cells j w b 0 xs:=by
 obtain⟨cs,e,hh,hx,_⟩:=h;intro i x hi;obtain⟨v,hv,hr⟩:=hx.get hi;exact⟨v,by rw [Nat.zero_add,cell_of_row w b i cs.toArray e (0,0) hh]; simpa using hv,hr⟩
def cN {α:Type}:List α->Nat->List α->List α
 | l,_,[]=>l
 | l,n,v::r=>cN (l.set n v) (n+1) r
theorem uc {α:Type}:∀(l:List α) (n:Nat) (r:List α),(cN l n r).length=l.length
 | l,_,[]=>rfl
 | l,n,v::r=>by rw [cN,uc]; simp
theorem aQ.cN {α β:Type}{R:α->β->Prop}{l:List α}{m:List β}(h:aQ R l m):∀(n:Nat){r:List α}{s:List β},aQ R r s->aQ R (Ab.cN l n r) (Ab.cN m n s):=by
 intro n r s hr;induction hr generalizing l m n with
 | nil=>exact h
 | cons x _ b=>exact b (h.set x n) (n+1)
theorem gK.trans {w f g:World}{b:Nat}{o o':Go.Obj}(h:gK w f b o) (h':gK f g b o'):gK w g b o' :=
 ⟨h'.size.trans h.size,h'.here,fun x hx=>(h'.other x hx).trans (h.other x hx),h'.os.trans h.os,h'.tape.trans h.tape,h'.output.trans h.output⟩
theorem gK.same {w:World}{b:Nat}{o:Go.Obj}(h:w.heap[b]?=some o):gK w w b o:=⟨rfl,h,fun _ _=>rfl,rfl,rfl,gb.rfl⟩
theorem gK.setCell {w:World}{b i:Nat}{cs:List Value}{e:TypeId}(h:w.heap[b]?=some (.cells cs.toArray e (0,0))) (v:Value):gK w (w.setCell ⟨b,i,none⟩ v) b (.cells (cs.set i v).toArray e (0,0)):=by
 refine⟨by simp, ?_,fun x hx=>heap_setCell_other w _ x v hx,rfl,rfl,gb.rfl⟩;have bl:=jB h;simp only [World.setCell,Array.getElem?_modify,if_true,h,Option.map_some];simp
theorem xU {P:Program}{b off:Nat}{e:TypeId}:∀(f:List Value) (i:Nat) (cs:List Value) (w:World),w.heap[b]?=some (.cells cs.toArray e (0,0))->off+i+f.length<=cs.length ->
  (∀v∈f,v.oneCell'=true)->∃w',(storeCells ⟨b,off,none⟩ f i).run P w=.ok () w'/\gK w w' b (.cells (cN cs (off+i) f).toArray e (0,0))
 | [],i,cs,w,hg,_,_=>⟨w,by simp [storeCells],gK.same hg⟩
 | v::rest,i,cs,w,hg,hl,h1=>by
  simp only [List.length_cons] at hl;have hu:=gK.setCell (av:=av) (i:=off+i) hg v;obtain⟨w',g,j⟩:=xU (P:=P) (off:=off) (e:=e) rest (i+1) (cs.set (off+i) v) _ hu.here (by simp; omega) (fun x hx=>h1 x (by simp [hx]));refine⟨w', ?_,hu.trans j⟩;have k:w.cell? ⟨b,off+i,none⟩=some (cs[off+i]'(by omega)):=by
   rw [cell_of_row w b (off+i) cs.toArray e (0,0) hg];rw [Array.getElem?_eq_getElem (by simp; omega)]; simp
  have l:w.frozen? ⟨b,off+i,none⟩=false:=frozen_of_row w b _ cs.toArray e hg;have m:(store ((⟨b,off,none⟩:Addr).add i) v).run P w=.ok () (w.setCell ⟨b,off+i,none⟩ v):=by
   rw [add_plain,run_store P w _ v _ (h1 v (by simp)),k];simp [l]
  simp only [storeCells,Sem.run_bind,m,Result.andThen,g]
def ct:A->List D
 | .d x=>[x]
 | .agg xs=>xs
theorem dw.cells {j:J}{w:World}{x:A}{v:Value}(h:dw j w x v):aQ (aF j w) (ct x) v.cells.toList:=by
 cases x with
 | d x =>
  have b:aF j w x v:=h;have:v.cells=#[v]:=by cases b<;>rfl
  rw [this];exact .cons b .nil
 | agg xs=>obtain⟨cs,e,h⟩:=h; subst e; simpa [Value.cells,ct] using h
theorem An {j:J}{w:World}{xs:List D}{cs:List Value}(h:aQ (aF j w) xs cs):∀v∈cs,v.oneCell'=true:=by
 induction h with
 | nil=>simp
 | cons x _ b =>
  intro v hv;rcases List.mem_cons.1 hv with e|e
  ·rw [e]; exact x.one
  ·exact b v e
theorem C0 {P:Program}{j:J}{w:World}{b off:Nat}{e:TypeId}{cs:List Value}(hg:w.heap[b]?=some (.cells cs.toArray e (0,0))){t:TypeId}{f:TI}(g:aX P t=some f){x:A}{v:Value}(hv:dw j w x v)
  (k:(ct x).length=f.size) (hl:off+f.size<=cs.length):∃w',(storeVar t ⟨b,off,none⟩ v).run P w=.ok () w'/\gK w w' b (.cells (cN cs off v.cells.toList).toArray e (0,0)):=by
 have hc:=hv.cells;have hlen:v.cells.size=f.size:=by rw [<- k,hc.length]; simp
 obtain⟨w',h1,l⟩:=xU (P:=P) (off:=off) (e:=e) v.cells.toList 0 cs w hg (by simp; omega) (An hc);refine⟨w', ?_,by simpa using l⟩;simp [storeVar,kg g,hlen,h1]
theorem NR {P:Program}{T:List TI}(fw:ng P T){σ:St}{j:J}{w:World}{jl:List Nat}{a:Act}(f:gB j w jl σ a){r:ResultVar}{x:A}(h:Am T σ r=some x) :
  ∃v,(match r with|.tmp t=>pure (a.tmps.getD t undef)|.cell t ty=>do loadVar ty (<- asAddr (a.tmps.getD t undef)):Sem Value).run P w=.ok v w/\dw j w x v:=by
 cases r with
 | tmp t =>
  have hv:=f.tmps t;simp only [Am] at h
  split at h
  ·rename_i y l
   simp at h; subst h;rw [l] at hv;exact⟨_,rfl,hv⟩
  ·simp at h
 | cell t ty =>
  have hv:=f.tmps t;simp only [Am] at h
  split at h
  ·rename_i i off u h1 m
   rw [h1] at hv;obtain⟨b,p,e⟩:=hv
   split at h
   ·rename_i xs hk hx
    obtain⟨b',g,q⟩:=f.hl.2.each.get hx;rw [p] at g; simp only [Option.some.injEq] at g; subst g;obtain⟨v,k,s⟩:=xT (P:=P) q.cells (fw _ _ m) (K.tY hk) h;refine⟨v, ?_,s⟩;rw [Nat.zero_add] at k;simp [e,asAddr,k]
   ·simp at h
  ·simp at h
theorem C1 {P:Program}{T:List TI}(fw:ng P T){σ:St}{j:J}{w:World}{jl:List Nat}{a:Act}(f:gB j w jl σ a):∀(rs:List ResultVar) (xs:List A),p4 T σ rs=some xs ->
  ∃b:List Value,(rs.mapM fun r=>(match r with|.tmp t=>pure (a.tmps.getD t undef)|.cell t ty=>do loadVar ty (<- asAddr (a.tmps.getD t undef)):Sem Value)).run P w=.ok b w/\aQ (dw j w) xs b
 | [],xs,h=>by simp [p4] at h; subst h; exact⟨[],by simp,.nil⟩
 | r::rs,xs,h=>by
  simp only [p4] at h
  split at h
  ·rename_i x g h1 k
   simp at h; subst h;obtain⟨v,l,m⟩:=NR fw f h1;obtain⟨b,p,q⟩:=C1 fw f rs g k;refine⟨v::b, ?_,.cons m q⟩;rw [List.mapM_cons,Sem.run_bind,l];simp only [Result.andThen,Sem.run_bind,p,Sem.run_pure]
  ·simp at h
def bH (T:List TI) (rs:List ResultVar) (cZ:V->af->Prop):Exit->St->Prop:=fun e σ =>
 (e=.normal\/e=.ret)/\∃xs h',p4 T σ rs=some xs/\(∀id o,h' id=some o->σ.h id=some o)/\cZ (nh xs) h'
end
theorem GK {P:Program}{T:List TI}(fw:ng P T){fS:eT}{fn:Func}{σ:St}{j:J}{w:World}{jl:List Nat}{a:Act}(f:gB j w jl σ a){rs:List ResultVar}(g:fn.results.toList=rs){xs:List A}(h:p4 T σ rs=some xs) :
  ∃v,(results fn a.tmps).run P w=.ok v w/\bp j w [] (nh xs) v:=by
 subst g;obtain⟨b,k,l⟩:=C1 (P:=P) fw f fn.results.toList xs h;refine⟨if h:b.toArray.size=1 then b.toArray[0] else .tuple b.toArray, ?_, ?_⟩
 ·unfold results;rw [Sem.run_bind,Array.mapM_eq_mapM_toList];rw [Sem.run_map];rw [show (List.mapM _ fn.results.toList:Sem (List Value))=List.mapM (fun r=>(match r with|.tmp t=>pure (a.tmps.getD t undef)|.cell t ty=>do loadVar ty (<- asAddr (a.tmps.getD t undef)):Sem Value)) fn.results.toList from by
   congr 1]
  rw [k];simp [Result.andThen]
 ·cases l with
  | nil=>exact⟨[],rfl,.nil⟩
  | cons h1 m =>
   cases m with
   | nil=>simpa [nh,bp] using h1
   | cons p q=>exact⟨_,by simp,.cons h1 (.cons p q)⟩
theorem AC.of_wp {P:Program}{T:List TI}(fw:ng P T){f:FuncId}{fn:Func}{c:Code}{args:List A}{h:af}{cZ:V->af->Prop}(s:∀(dc:Array Value) (w:World),(callFunc f dc).run P w=.ok (.enter f dc) w) (u:P.funcs[f]?=some fn) (y:fn.body=some c){n:Nat}(hn:fn.ntmps=n){rs:List ResultVar}(z:fn.results.toList=rs) (hl:Nat.ble args.length n=true)
  (hw:ah P c (bH T rs cZ) ⟨n,pZ 0 args,[],h⟩):AC P f args h cZ:=by
 subst hn z;have hl:=Nat.le_of_ble_eq_true hl;refine⟨s,fun j w dc hr p=>?_⟩;refine calls_of_wp u y (wp_mono (hw j w [] _ ?_) ?_)
 ·have hlen:=p.length;refine⟨rfl,by simp; omega,fun t=>?_,⟨hr,⟨.nil,by simp,by simp⟩⟩⟩;refine CY (fun t=>(dc.toArray++Array.replicate (fn.ntmps-dc.toArray.size) undef).getD t undef) 0 args dc p (fun i v hv=>?_) t;rw [Nat.zero_add,Array.getD_eq_getD_getElem?,Array.getElem?_append];have:i<dc.length:=(List.getElem?_eq_some_iff.1 hv).1;simp [this];exact(List.getElem?_eq_some_iff.1 hv).2
 ·rintro e k w' ⟨S,j',U,⟨he,xs,h',B,C,E⟩,b,F⟩;obtain⟨l,G,H⟩:=C1 fw b fn.results.toList xs B;have I:∃v,(results fn k.tmps).run P w'=.ok v w'/\bp j' w' [] (nh xs) v:=by
   refine⟨if h:l.toArray.size=1 then l.toArray[0] else .tuple l.toArray, ?_, ?_⟩
   ·unfold results;rw [Sem.run_bind,Array.mapM_eq_mapM_toList];rw [Sem.run_map];rw [show (List.mapM _ fn.results.toList:Sem (List Value))=List.mapM (fun r=>(match r with|.tmp t=>pure (k.tmps.getD t undef)|.cell t ty=>do loadVar ty (<- asAddr (k.tmps.getD t undef)):Sem Value)) fn.results.toList from by
     congr 1]
    rw [G];simp [Result.andThen]
   ·cases H with
    | nil=>exact⟨[],rfl,.nil⟩
    | cons h1 J =>
     cases J with
     | nil=>simpa [nh,bp] using h1
     | cons K L=>exact⟨_,by simp,.cons h1 (.cons K L)⟩
  obtain⟨v,hv,M⟩:=I;obtain⟨N,O⟩:=b.hl.trim 0;obtain⟨Q,R⟩:=N.forget C;have q:∃r cv g m,Ending.returned v=.returned cv/\cZ r m/\bp g w' [] r cv/\fu g w' m/\bM j w (aU j h []) g w' (aU g m []) :=
   ⟨nh xs,v,j',h',rfl,E,M,Q.1,(F.trans O).trans R⟩
  rcases he with he|he<;>subst he
  ·exact⟨b.defers,v,hv,q⟩
  ·exact⟨b.defers,v,hv,q⟩
end Go.Ab
/-
 The operations that leave the world alone.
-/
namespace Go.Ab
open Go Go.RowKit
variable {av:bR}
def oz (P:Program) (o:Oper) (ts:Ts) (ls:List (List D)) (h:af) (fx:Fx) (v:V):Prop :=
 fx.wl=false/\fx.wh=false/\∀L H,(fx.rl=true->L=ls)->(fx.rh=true->H=h)->∀(j:J) (w:World) (jl:List Nat) (a:Act),HL j w jl L H ->
  (∀x,x∈o.op.operands->bp j w jl (ev ts x) (a.eval x))->∃cv,(execOp a.eval o).run P w=.ok (.value cv) w/\bp j w jl v cv
theorem oz.rH {P:Program}{o:Oper}{ts:Ts}{ls:List (List D)}{h:af}{fx:Fx}{v:V}(b:oz P o ts ls h fx v):aq P o ts ls h fx v ls h:=by
 obtain⟨h1,f,b⟩:=b;intro L H g hH j w jl a hl k K Q hk;rw [h1,Bool.or_false] at g;rw [f,Bool.or_false] at hH;obtain⟨cv,hr,hv⟩:=b L H g hH j w jl a hl k;unfold Oper.wp;rw [hr,Oper.upon_value];exact hk v L H cv j w jl ⟨rfl,by rw [h1]; rfl,by rw [f]; rfl⟩ hv hl (Ext.refl _) (bM.refl _ _ _)
section
variable {P:Program}{ts:Ts}{ls:List (List D)}{h:af}{dst:Option Tmp}{ty:TypeId}{pos:String}{aI:Array Edge}{g:Option (Nat×Bool)}
abbrev mk (dst:Option Tmp) (op:Op) (ty:TypeId) (pos:String) (aI:Array Edge) (g:Option (Nat×Bool)):Oper:=⟨dst,op,ty,pos,aI,g⟩
theorem aq.dS {o:Oper}{v:V}(b:∀(j:J) (w:World) (jl:List Nat) (a:Act),(∀x,x∈o.op.operands->bp j w jl (ev ts x) (a.eval x))->∃cv,(execOp a.eval o).run P w=.ok (.value cv) w/\bp j w jl v cv) :
  aq P o ts ls h {} v ls h :=
 oz.rH ⟨rfl,rfl,fun _ _ _ _ j w jl a _ f=>b j w jl a f⟩
theorem ni {j:J}{w:World}{jl:List Nat}{b:Bool}{cv:Value}(h:bp j w jl (.a (.d (.bool b))) cv):cv=.bool b:=by
 have h':aF j w (.bool b) cv:=h;cases h'; rfl
theorem jO {j:J}{w:World}{jl:List Nat}{k:IntKind}{n:Int}{cv:Value}(h:bp j w jl (.a (.d (.int k n))) cv):cv=.int k n:=by
 have h':aF j w (.int k n) cv:=h;cases h'; rfl
theorem k_ {j:J}{w:World}{jl:List Nat}{s:List UInt8}{cv:Value}(h:bp j w jl (.a (.d (.str s))) cv):cv=.string ⟨s.toArray⟩/\s.length<=fJ:=by
 have h':aF j w (.str s) cv:=h;cases h' with
 | str _ b=>exact⟨rfl,b⟩
theorem Ao {j:J}{w:World}{jl:List Nat}{i off:Nat}{cv:Value}(h:bp j w jl (.c_ i off) cv):∃b,jl[i]?=some b/\cv=.pointer (some ⟨b,off,none⟩):=h
theorem GL {j:J}{w:World}{jl:List Nat}{xs:List D}{cv:Value}(h:bp j w jl (.a (.d (.view xs))) cv):∃a f,cv=.pointer (some a)/\At j w a xs.length f/\∀i (h:i<xs.length),aF j w xs[i] (f i):=by
 have h':aF j w (.view xs) cv:=h;cases h' with
 | view _ a f bQ hr=>exact⟨a,f,rfl,bQ,hr⟩
theorem Ap {j:J}{w:World}{jl:List Nat}{id off:Nat}{cv:Value}(h:bp j w jl (.a (.d (.ptr id off))) cv):cv=.pointer (some ⟨j.out id,off,none⟩)/\id<j.next:=by
 have h':aF j w (.ptr id off) cv:=h;cases h' with
 | ptr _ _ hi=>exact⟨rfl,hi⟩
theorem aq.move {x:Operand}{v:V}(hx:ev ts x=v):aq P (mk dst (.move x) ty pos aI g) ts ls h {} v ls h :=
 aq.dS fun j w jl a b=>⟨a.eval x,rfl,hx▸b x (by simp [Op.operands])⟩
theorem aq.assign {x:Operand}{v:V}(hx:ev ts x=v):aq P (mk dst (.assign x) ty pos aI g) ts ls h {} v ls h :=
 aq.dS fun j w jl a b=>⟨a.eval x,rfl,hx▸b x (by simp [Op.operands])⟩
theorem At.cells {j:J}{w:World}{a:Addr}{xs:List D}{f:Nat->Value}(bQ:At j w a xs.length f) (hr:∀i (h:i<xs.length),aF j w xs[i] (f i)):Cells j w a.block a.off xs:=by
 intro i x hx;have hi:=(List.getElem?_eq_some_iff.1 hx).1;refine⟨f i,(bQ.2 i hi).2.1, ?_⟩;have:=hr i hi;rw [(List.getElem?_eq_some_iff.1 hx).2] at this; exact this
theorem aq.jP {t:TypeId}{f:TI}{x:Operand}{i off:Nat}{xs:List D}{v:A}(p:aX P t=some f) (hk:f.k.tX=false) (hx:ev ts x=.c_ i off) (hl:ls[i]?=some xs) (hv:tZ f xs off=some v) :
  aq P (mk dst (.load t x) ty pos aI g) ts ls h { rl:=true } (.a v) ls h :=
 oz.rH ⟨rfl,rfl,fun L H q _ j w jl a hh r=>by
  have h1:=r x (by simp [Op.operands]);rw [hx] at h1;obtain⟨b,s,e⟩:=Ao h1;rw [q rfl] at hh;obtain⟨b',l,u⟩:=hh.2.each.get hl;rw [s] at l; simp only [Option.some.injEq] at l; subst l;obtain⟨cv,m,y⟩:=xT (P:=P) u.cells p (K.tY hk) hv;rw [Nat.zero_add] at m;exact⟨cv,by simp [execOp,Instr.loadAt,Instr.sureAddr,e,m],y⟩⟩
theorem aq.dU {t:TypeId}{l:TI}{x:Operand}{xs:List D}{v:A}(p:aX P t=some l) (hk:l.k.tX=false) (hx:ev ts x=.a (.d (.view xs))) (hv:tZ l xs 0=some v) :
  aq P (mk dst (.load t x) ty pos aI g) ts ls h {} (.a v) ls h :=
 aq.dS fun j w jl a q=>by
  have h1:=q x (by simp [Op.operands]);rw [hx] at h1;obtain⟨b,f,e,bQ,hr⟩:=GL h1;obtain⟨cv,m,r⟩:=xT (P:=P) (bQ.cells hr) p (K.tY hk) hv;have he:b=⟨b.block,b.off+0,none⟩:=by
   have:=bQ.1;cases b; simp at this; simp [this]
  rw [<- he] at m;exact⟨cv,by simp [execOp,Instr.loadAt,Instr.sureAddr,e,m],r⟩
theorem iC.cells {j:J}{w:World}{id:Nat}{xs:List D}(h:iC j w id (.cells xs)):jA j w (j.out id) xs:=h
theorem aq.eM {t:TypeId}{b:TI}{x:Operand}{id off:Nat}{xs:List D}{v:A}(l:aX P t=some b) (hk:b.k.tX=false) (hx:ev ts x=.a (.d (.ptr id off))) (hh:h id=some (.cells xs)) (hv:tZ b xs off=some v) :
  aq P (mk dst (.load t x) ty pos aI g) ts ls h { rh:=true } (.a v) ls h :=
 oz.rH ⟨rfl,rfl,fun L H _ hH j w jl a hl m=>by
  have h1:=m x (by simp [Op.operands]);rw [hx] at h1;obtain⟨e,_⟩:=Ap h1;rw [hH rfl] at hl;obtain⟨cv,f,p⟩:=xT (P:=P) (hl.1.obj id _ hh).2.cells.cells l (K.tY hk) hv;rw [Nat.zero_add] at f;exact⟨cv,by simp [execOp,Instr.loadAt,Instr.sureAddr,e,f],p⟩⟩
theorem C2 {P:Program}{t:TypeId}{g:TI}{fs:List (Nat×TypeId)}(j:aX P t=some g) (hk:g.k=.struct fs) :
  ∃gs:Array Field,P.underlying t=some (.struct gs)/\gs.toList.map (fun f=>(f.offset,f.type))=fs:=by
 obtain⟨i,d,h1,l,_,_,b,_⟩:=gj j;rw [hk] at b;cases d<;>simp [eU] at b;exact⟨_,l,b⟩
theorem C3 {P:Program}{t:TypeId}{j l:TI}{fs:List (Nat×TypeId)}{f o:Nat}{g:TypeId}(m:aX P t=some j) (hk:j.k=.struct fs) (b:fs[f]?=some (o,g)) (p:aX P g=some l) (hz:l.size≠0)
  (a:Addr) (w:World):(Instr.fieldAt t (.pointer (some a)) f).run P w=.ok (.pointer (some (a.add o))) w:=by
 obtain⟨gs,hu,he⟩:=C2 m hk;have hg:∃fd:Field,gs[f]?=some fd/\fd.offset=o/\fd.type=g:=by
  rw [<- he,List.getElem?_map] at b;cases e:gs.toList[f]? with
  | none=>rw [e] at b; simp at b
  | some fd=>rw [e] at b; simp at b; exact⟨fd,by simpa using e,b.1,b.2⟩
 obtain⟨fd,h1,q,r⟩:=hg;simp [Instr.fieldAt,eV hu,h1,Instr.sureAddr,fieldPlace,r,kg p,hz,q]
theorem aq.nj {t:TypeId}{l m:TI}{fs:List (Nat×TypeId)}{x:Operand}{f o i off:Nat}{p:TypeId}(q:aX P t=some l) (hk:l.k=.struct fs) (r:fs[f]?=some (o,p)) (s:aX P p=some m)
  (hz:Nat.beq m.size 0=false) (hx:ev ts x=.c_ i off):aq P (mk dst (.fieldAddr t x f) ty pos aI g) ts ls h {} (.c_ i (off+o)) ls h :=
 aq.dS fun j w jl a u=>by
  have h1:=u x (by simp [Op.operands]);rw [hx] at h1;obtain⟨b,v,e⟩:=Ao h1;exact⟨.pointer (some ⟨b,off+o,none⟩),by simp [execOp,e,C3 q hk r s (fun e=>by rw [e] at hz; simp at hz),add_plain],b,v,rfl⟩
theorem aq.iD {t:TypeId}{b l:TI}{fs:List (Nat×TypeId)}{x:Operand}{f o id off:Nat}{m:TypeId}(p:aX P t=some b) (hk:b.k=.struct fs) (q:fs[f]?=some (o,m)) (r:aX P m=some l)
  (hz:Nat.beq l.size 0=false) (hx:ev ts x=.a (.d (.ptr id off))):aq P (mk dst (.fieldAddr t x f) ty pos aI g) ts ls h {} (.a (.d (.ptr id (off+o)))) ls h :=
 aq.dS fun j w jl a s=>by
  have h1:=s x (by simp [Op.operands]);rw [hx] at h1;obtain⟨e,hi⟩:=Ap h1;exact⟨.pointer (some ⟨j.out id,off+o,none⟩),by simp [execOp,e,C3 p hk q r (fun e=>by rw [e] at hz; simp at hz),add_plain],aF.ptr _ _ hi⟩
theorem aF.NS {j:J}{w:World}{xs:List D}{a:Addr}{f:Nat->Value}(bQ:At j w a xs.length f) (hr:∀i (h:i<xs.length),aF j w xs[i] (f i)) (n:Nat):aF j w (.view (xs.drop n)) (.pointer (some (a.add n))):=by
 have b:a=⟨a.block,a.off,none⟩:=by have:=bQ.1; cases a; simp at this; simp [this]
 rw [b,add_plain];refine aF.view (xs.drop n) _ (fun i=>f (n+i)) ⟨rfl,fun i hi=>?_⟩ fun i hi=>?_
 ·simp only [List.length_drop] at hi;have:=bQ.2 (n+i) (by omega);rw [<- Nat.add_assoc] at this; exact this
 ·simp only [List.length_drop] at hi;have:=hr (n+i) (by omega)
  simpa using this
theorem aq.NT {t:TypeId}{b l:TI}{fs:List (Nat×TypeId)}{x:Operand}{f o:Nat}{xs m:List D}{p:TypeId}(q:aX P t=some b) (hk:b.k=.struct fs) (r:fs[f]?=some (o,p)) (s:aX P p=some l)
  (hz:Nat.beq l.size 0=false) (hx:ev ts x=.a (.d (.view xs))) (u:xs.drop o=m):aq P (mk dst (.fieldAddr t x f) ty pos aI g) ts ls h {} (.a (.d (.view m))) ls h :=
 aq.dS fun j w jl a v=>by
  have h1:=v x (by simp [Op.operands]);rw [hx] at h1;obtain⟨y,f',e,bQ,hr⟩:=GL h1;subst u;exact⟨_,by simp [execOp,e,C3 q hk r s (fun e=>by rw [e] at hz; simp at hz)],aF.NS bQ hr o⟩
theorem p5 {j:J}{w:World}{jl:List Nat}{k:Nat}{tok:Option Nat}{nl:Bool}{rows:List (List D)}{cv:Value}(h:bp j w jl (.a (.d (.slice k tok nl rows))) cv) :
  ∃a cap,cv=.slice a rows.length cap/\rows.length<=cC/\rows.length<=cap/\(nl=a.isNone)/\(a=none->cap=0/\rows=[])/\(∀r,r∈rows->r.length=k) /\
   ∀b,a=some b->vm j tok rows.length b cap/\∃f,tT j w b rows f/\∀i (h:i<rows.flatten.length),aF j w rows.flatten[i] (f i):=by
 have h':aF j w (.slice k tok nl rows) cv:=h;cases h' with
 | gu _ _ ht=>exact⟨none,0,rfl,by simp [cC],by simp,rfl,fun _=>⟨rfl,rfl⟩,by simp,by simp⟩
 | slice _ _ _ a cap f hk hn hc bQ hr ht=>exact⟨some a,cap,rfl,hn,hc,rfl,by simp,hk,fun b e=>by simp at e; subst e; exact⟨ht,f,bQ,hr⟩⟩
theorem g_ {rows:List (List D)}{k:Nat}(hk:∀r∈rows,r.length=k):rows.flatten.length=rows.length*k/\∀i row,rows[i]?=some row->∀n,n<k->rows.flatten[i*k+n]?=row[n]?:=by
 induction rows with
 | nil=>simp
 | cons r rs b =>
  have hr:r.length=k:=hk r (by simp);obtain⟨h1,f⟩:=b fun x hx=>hk x (by simp [hx]);refine⟨by simp [h1,hr,Nat.succ_mul,Nat.add_comm],fun i row hi n hn=>?_⟩;cases i with
  | zero =>
   simp at hi; subst hi;rw [List.flatten_cons,Nat.zero_mul,Nat.zero_add,List.getElem?_append_left (by omega)]
  | succ i =>
   simp only [List.getElem?_cons_succ] at hi;rw [List.flatten_cons,List.getElem?_append_right (by rw [hr,Nat.succ_mul]; omega)];rw [show (i+1)*k+n-r.length=i*k+n by rw [hr,Nat.succ_mul]; omega];exact f i row hi n hn
theorem NU {j:J}{w:World}{k:Nat}{rows:List (List D)}{b:Addr}{f:Nat->Value}(hk:∀r∈rows,r.length=k) (bQ:tT j w b rows f) (hr:∀i (h:i<rows.flatten.length),aF j w rows.flatten[i] (f i))
  {i:Nat}{row:List D}(hi:rows[i]?=some row):aF j w (.view row) (.pointer (some (b.add (i*k)))):=by
 obtain⟨h1,m⟩:=g_ hk;have hlen:row.length=k:=hk row (List.mem_of_getElem? hi);have p:b=⟨b.block,b.off,none⟩:=by have:=bQ.1.resolve_left (fun e=>by rw [e] at hi; simp at hi); cases b; simp at this; simp [this]
 have bl:i<rows.length:=(List.getElem?_eq_some_iff.1 hi).1;have hle:i*k+k<=rows.flatten.length:=by
  rw [h1,<- Nat.succ_mul]; exact Nat.mul_le_mul_right k bl
 rw [p,add_plain];refine aF.view row _ (fun n=>f (i*k+n)) ⟨rfl,fun n hn=>?_⟩ fun n hn=>?_
 ·have:=bQ.2 (i*k+n) (by omega);rw [<- Nat.add_assoc] at this; exact this
 ·have l:=hr (i*k+n) (by omega);have g:=m i row hi n (by omega);rw [List.getElem?_eq_getElem (by omega),List.getElem?_eq_getElem hn] at g;simp only [Option.some.injEq] at g;rw [g] at l; exact l
theorem kj {P:Program}{t:TypeId}{f:TI}{e:TypeId}(g:aX P t=some f) (hk:f.k=.slice e):P.underlying t=some (.slice e):=by
 obtain⟨i,d,h1,j,_,_,b,_⟩:=gj g;rw [hk] at b;cases d<;>simp [eU] at b;subst b; exact j
theorem aq.GM {t e:TypeId}{l m:TI}{x ix:Operand}{tok:Option Nat}{nl:Bool}{rows:List (List D)}{r:IntKind}{n:Int}{row:List D}{k:Nat}(s:aX P t=some l) (hk:l.k=.slice e) (u:aX P e=some m)
  (hx:ev ts x=.a (.d (.slice k tok nl rows))) (hi:ev ts ix=.a (.d (.int r n))) (v:k=m.size) (h0:0<=n) (hr:rows[n.toNat]?=some row) :
  aq P (mk dst (.indexAddr t x ix) ty pos aI g) ts ls h {} (.a (.d (.view row))) ls h :=
 aq.dS fun j w jl a p=>by
  have h1:=p x (by simp [Op.operands]);have q:=p ix (by simp [Op.operands]);rw [hx] at h1; rw [hi] at q;obtain⟨b,cap,y,hn,hc,H,z,B,C⟩:=p5 h1;have bl:n.toNat<rows.length:=(List.getElem?_eq_some_iff.1 hr).1;cases b with
  | none=>obtain⟨_,E⟩:=z rfl; rw [E] at bl; simp at bl
  | some b =>
   obtain⟨_,f,bQ,F⟩:=C b rfl;refine⟨_, ?_,NU B bQ F hr⟩;have G:n<(rows.length:Int):=by omega
   simp [execOp,y,jO q,Instr.indexAt,asIntOf,eV (kj s hk),kg u,h0,G,v]
end
end Go.Ab
/-
 Arithmetic,comparisons,lengths,structs.
-/
namespace Go.Ab
open Go Go.RowKit
variable {av:bR}
section
variable {P:Program}{ts:Ts}{ls:List (List D)}{h:af}{dst:Option Tmp}{ty:TypeId}{pos:String}{aI:Array Edge}{g:Option (Nat×Bool)}
theorem C4 {op:BinOp}{t:TypeId}{x y:Operand}{k:IntKind}{m n:Int}(w:World):(eqGuard op t x y (.int k m) (.int k n)).run P w=.ok () w:=by
 unfold eqGuard;cases op<;>simp
theorem GN {op:BinOp}{t:TypeId}{x y:Operand}{m n:ByteArray}(w:World):(eqGuard op t x y (.string m) (.string n)).run P w=.ok () w:=by
 unfold eqGuard;cases op<;>simp
theorem NV {op:BinOp}{t:TypeId}{x y:Operand}{m n:Bool}(w:World):(eqGuard op t x y (.bool m) (.bool n)).run P w=.ok () w:=by
 unfold eqGuard;cases op<;>simp
def xV (op:BinOp) (k:IntKind) (m n:Int):Option D :=
 match op with
 | .add=>some (.int k (k.wrap (m+n)))
 | .sub=>some (.int k (k.wrap (m-n)))
 | .mul=>some (.int k (k.wrap (m*n)))
 | .eql=>some (.bool (decide (m=n)))
 | .neq=>some (.bool (!decide (m=n)))
 | .lss=>some (.bool (decide (m<n)))
 | .leq=>some (.bool (decide (m<=n)))
 | .gtr=>some (.bool (decide (n<m)))
 | .geq=>some (.bool (decide (n<=m)))
 | _=>none
theorem NW {op:BinOp}{t:TypeId}{k:IntKind}{m n:Int}{r:D}(hr:xV op k m n=some r) (w:World):∃cv,(binOp op t (.int k m) (.int k n)).run P w=.ok cv w/\∀j w,aF j w r cv:=by
 cases op<;>simp only [xV,Option.some.injEq] at hr<;>first|(subst hr)|(cases hr; done)
 ·exact⟨_,by simp [binOp,Op.intArith],fun _ _=>.int _ _⟩
 ·exact⟨_,by simp [binOp,Op.intArith],fun _ _=>.int _ _⟩
 ·exact⟨_,by simp [binOp,Op.intArith],fun _ _=>.int _ _⟩
 ·exact⟨.bool (decide (m=n)),by simp [binOp,Op.intCmp]; first|rfl|(by_cases e:m=n<;>simp [e]),fun _ _=>.bool _⟩
 ·exact⟨.bool (!decide (m=n)),by simp [binOp,Op.intCmp]; first|rfl|(by_cases e:m=n<;>simp [e]),fun _ _=>.bool _⟩
 ·exact⟨.bool (decide (m<n)),by simp [binOp,Op.intCmp],fun _ _=>.bool _⟩
 ·exact⟨.bool (decide (m<=n)),by simp [binOp,Op.intCmp],fun _ _=>.bool _⟩
 ·exact⟨.bool (decide (n<m)),by simp [binOp,Op.intCmp],fun _ _=>.bool _⟩
 ·exact⟨.bool (decide (n<=m)),by simp [binOp,Op.intCmp],fun _ _=>.bool _⟩
theorem aq.xW {op:BinOp}{t u:TypeId}{x y:Operand}{k:IntKind}{m n:Int}{r:D}(hx:ev ts x=.a (.d (.int k m))) (l:ev ts y=.a (.d (.int k n))) (hr:xV op k m n=some r) :
  aq P (mk dst (.binOp op t x y u) ty pos aI g) ts ls h {} (.a (.d r)) ls h :=
 aq.dS fun j w jl a b=>by
  have h1:=b x (by simp [Op.operands]);have f:=b y (by simp [Op.operands]);rw [hx] at h1; rw [l] at f;obtain⟨cv,p,q⟩:=NW (P:=P) (t:=t) hr w;exact⟨cv,by simp [execOp,jO h1,jO f,C4,p],q j w⟩
theorem aq.p6 {t u:TypeId}{x y:Operand}{m n:Int}(hx:ev ts x=.a (.d (.int .i64 m))) (b:ev ts y=.a (.d (.int .i64 n))) (h1 : -9223372036854775808<=m+n) (f:m+n<=9223372036854775807) :
  aq P (mk dst (.binOp .add t x y u) ty pos aI g) ts ls h {} (.a (.d (.int .i64 (m+n)))) ls h :=
 aq.xW hx b (by simp only [xV,Option.some.injEq,D.int.injEq,true_and]; simp only [IntKind.wrap,IntKind.bits,IntKind.signed]; simp; omega)
theorem aq.NX {t u:TypeId}{x y:Operand}{m n:Int}(hx:ev ts x=.a (.d (.int .i64 m))) (b:ev ts y=.a (.d (.int .i64 n))) (h1 : -9223372036854775808<=m-n) (f:m-n<=9223372036854775807) :
  aq P (mk dst (.binOp .sub t x y u) ty pos aI g) ts ls h {} (.a (.d (.int .i64 (m-n)))) ls h :=
 aq.xW hx b (by simp only [xV,Option.some.injEq,D.int.injEq,true_and]; simp only [IntKind.wrap,IntKind.bits,IntKind.signed]; simp; omega)
def C5 (op:BinOp) (s t:List UInt8):Option D :=
 match op with
 | .eql=>some (.bool (s==t))
 | .neq=>some (.bool (!(s==t)))
 | .lss=>some (.bool (Op.bytesLess s t))
 | .leq=>some (.bool (Op.bytesLess s t||s==t))
 | .gtr=>some (.bool (!(Op.bytesLess s t||s==t)))
 | .geq=>some (.bool (!Op.bytesLess s t))
 | _=>none
theorem NY {op:BinOp}{t:TypeId}{a b:List UInt8}{r:D}(hr:C5 op a b=some r) (w:World):∃cv,(binOp op t (.string ⟨a.toArray⟩) (.string ⟨b.toArray⟩)).run P w=.ok cv w/\∀j w,aF j w r cv:=by
 cases op<;>simp only [C5,Option.some.injEq] at hr<;>first|(subst hr)|(cases hr; done)
 all_goals exact⟨_,by simp [binOp,Op.stringOp,ByteArray.toList_mk],fun _ _=>.bool _⟩
theorem aq.C6 {op:BinOp}{t u:TypeId}{x y:Operand}{a b:List UInt8}{r:D}(hx:ev ts x=.a (.d (.str a))) (l:ev ts y=.a (.d (.str b))) (hr:C5 op a b=some r) :
  aq P (mk dst (.binOp op t x y u) ty pos aI g) ts ls h {} (.a (.d r)) ls h :=
 aq.dS fun j w jl act f=>by
  have h1:=f x (by simp [Op.operands]);have k:=f y (by simp [Op.operands]);rw [hx] at h1; rw [l] at k;obtain⟨cv,m,p⟩:=NY (P:=P) (t:=t) hr w;exact⟨cv,by simp [execOp,(k_ h1).1,(k_ k).1,GN,m],p j w⟩
theorem aq.concat {t u:TypeId}{x y:Operand}{a b:List UInt8}(hx:ev ts x=.a (.d (.str a))) (m:ev ts y=.a (.d (.str b))) (hl:a.length+b.length<=fJ) :
  aq P (mk dst (.binOp .add t x y u) ty pos aI g) ts ls h {} (.a (.d (.str (a++b)))) ls h :=
 aq.dS fun j w jl act f=>by
  have h1:=f x (by simp [Op.operands]);have k:=f y (by simp [Op.operands]);rw [hx] at h1; rw [m] at k;refine⟨.string ⟨(a++b).toArray⟩, ?_,aF.str _ (by simpa using hl)⟩;have bl:(⟨a.toArray⟩:ByteArray).size+(⟨b.toArray⟩:ByteArray).size<=9223372036854775807:=by
   show a.toArray.size+b.toArray.size<=_; simp only [List.size_toArray]; unfold fJ at hl; omega
  have l:=run_string_add_sum (P:=P) w ⟨a.toArray⟩ ⟨b.toArray⟩ bl;have e:(⟨a.toArray⟩:ByteArray)++⟨b.toArray⟩=⟨(a++b).toArray⟩:=by
   apply ByteArray.ext; simp
  rw [e] at l;simp [execOp,(k_ h1).1,(k_ k).1,GN,binOp,l]
theorem aq.NZ {t u:TypeId}{l:TI}{x y:Operand}{a b:Bool}(q:aX P t=some l) (hk:l.k=.bool) (hx:ev ts x=.a (.d (.bool a))) (r:ev ts y=.a (.d (.bool b))) :
  aq P (mk dst (.binOp .neq t x y u) ty pos aI g) ts ls h {} (.a (.d (.bool (!(a==b))))) ls h :=
 aq.dS fun j w jl act m=>by
  have h1:=m x (by simp [Op.operands]);have f:=m y (by simp [Op.operands]);rw [hx] at h1; rw [r] at f;have hu:P.underlying t=some .bool:=by
   obtain⟨i,d,_,f,_,_,p,_⟩:=gj q;rw [hk] at p;cases d<;>simp [eU] at p;exact f
  exact⟨_,by simp [execOp,ni h1,ni f,NV,run_neq_bool w t a b hu],aF.bool _⟩
theorem aq.N0 {t:TypeId}{x:Operand}{b:Bool}(hx:ev ts x=.a (.d (.bool b))):aq P (mk dst (.unOp .not t x) ty pos aI g) ts ls h {} (.a (.d (.bool (!b)))) ls h :=
 aq.dS fun j w jl act f=>by
  have h1:=f x (by simp [Op.operands]);rw [hx] at h1;exact⟨_,by simp [execOp,ni h1,Op.unary],aF.bool _⟩
theorem aq.N1 {t:TypeId}{x:Operand}{k:IntKind}{n:Int}(hx:ev ts x=.a (.d (.int k n))):aq P (mk dst (.unOp .neg t x) ty pos aI g) ts ls h {} (.a (.d (.int k (k.wrap (0-n))))) ls h :=
 aq.dS fun j w jl act b=>by
  have h1:=b x (by simp [Op.operands]);rw [hx] at h1;exact⟨_,by simp [execOp,jO h1,Op.unary,Op.intArith],aF.int _ _⟩
theorem aq.GO {t e:TypeId}{f:TI}{x:Operand}{cm:Array TypeId}{k:Nat}{tok:Option Nat}{nl:Bool}{rows:List (List D)}(l:aX P t=some f) (hk:f.k=.slice e) (bQ:cm[0]?=some t)
  (hx:ev ts x=.a (.d (.slice k tok nl rows))):aq P (mk dst (.call { callee:=.builtin .len,args:=#[x],argTypes:=cm }) ty pos aI g) ts ls h {} (.a (.d (.int .i64 (rows.length:Int)))) ls h :=
 aq.dS fun j w jl act m=>by
  have h1:=m x (by simp [Op.operands,Call.operands]);rw [hx] at h1;obtain⟨b,cap,p,_⟩:=p5 h1;exact⟨_,by simp [execOp,resolve,invoke,builtin,p,Builtin.len_,bQ,eV (kj l hk),goInt],aF.int _ _⟩
theorem vw {P:Program}{t:TypeId}{b:TI}(g:aX P t=some b) (hk:b.k=.str):P.underlying t=some .string:=by
 obtain⟨i,d,h1,j,_,_,f,_⟩:=gj g;rw [hk] at f;cases d<;>simp [eU] at f;exact j
theorem size_mk (s:List UInt8):(⟨s.toArray⟩:ByteArray).size=s.length:=by
 show s.toArray.size=s.length;simp
theorem aq.Aq {t:TypeId}{b:TI}{x:Operand}{cm:Array TypeId}{s:List UInt8}(f:aX P t=some b) (hk:b.k=.str) (bQ:cm[0]?=some t)
  (hx:ev ts x=.a (.d (.str s))):aq P (mk dst (.call { callee:=.builtin .len,args:=#[x],argTypes:=cm }) ty pos aI g) ts ls h {} (.a (.d (.int .i64 (s.length:Int)))) ls h :=
 aq.dS fun j w jl act l=>by
  have h1:=l x (by simp [Op.operands,Call.operands]);rw [hx] at h1;refine⟨_, ?_,aF.int _ _⟩;simp [execOp,resolve,invoke,builtin,(k_ h1).1,Builtin.len_,bQ,eV (vw f hk),goInt,size_mk]
theorem aq.N2 {t:TypeId}{f:TI}{x ix:Operand}{s:List UInt8}{l:IntKind}{n:Int}{c:UInt8}(q:aX P t=some f) (hk:f.k=.str) (hx:ev ts x=.a (.d (.str s))) (hi:ev ts ix=.a (.d (.int l n)))
  (h0:0<=n) (hc:s[n.toNat]?=some c):aq P (mk dst (.index t x ix) ty pos aI g) ts ls h {} (.a (.d (.int .u8 (c.toNat:Int)))) ls h :=
 aq.dS fun j w jl act m=>by
  have h1:=m x (by simp [Op.operands]);have p:=m ix (by simp [Op.operands]);rw [hx] at h1; rw [hi] at p;have bl:n.toNat<s.length:=(List.getElem?_eq_some_iff.1 hc).1;have b:=run_index_string (P:=P) w t ⟨s.toArray⟩ l n (vw q hk);rw [dif_pos ⟨h0,by rw [size_mk]; omega⟩] at b;refine⟨_, ?_,aF.int _ _⟩;have r:(⟨s.toArray⟩:ByteArray)[n.toNat]'(by rw [size_mk]; omega)=c:=by
   have:=(List.getElem?_eq_some_iff.1 hc).2;rw [<- this]; rfl
  rw [r] at b;simp [execOp,(k_ h1).1,jO p,b]
def cut (s:List UInt8) (l r:Nat):List UInt8:=(s.drop l).take (r-l)
theorem extract_mk (s:List UInt8) (l r:Nat):(⟨s.toArray⟩:ByteArray).extract l r=⟨(cut s l r).toArray⟩:=by
 apply ByteArray.ext
 apply Array.ext'
 simp [cut]
def Yk (ts:Ts):Option Operand->Option Nat
 | none=>some 0
 | some x=>match ev ts x with
  | .a (.d (.int _ n))=>if 0<=n then some n.toNat else none
  | _=>none
theorem oA {ts:Ts}{j:J}{w:World}{jl:List Nat}{act:Act}{x:Operand}{k:IntKind}{n:Int}{cap:Nat}(hx:ev ts x=.a (.d (.int k n))) (b:bp j w jl (ev ts x) (act.eval x)) (h0:0<=n) (h1:n<=(cap:Int)) (code:BoundsCode) :
  (Instr.sliceBound (act.eval x) cap code).run P w=.ok n.toNat w:=by
 rw [hx] at b;rw [jO b];exact run_sliceBound w k n cap code h0 h1
theorem aq.N3 {t:TypeId}{m:TI}{x lo hi:Operand}{s:List UInt8}{k k':IntKind}{l r:Int}(p:aX P t=some m) (hk:m.k=.str) (hx:ev ts x=.a (.d (.str s))) (hl:ev ts lo=.a (.d (.int k l))) (hh:ev ts hi=.a (.d (.int k' r)))
  (h0:0<=l) (h1:l<=r) (q:r<=(s.length:Int)):aq P (mk dst (.slice t x (some lo) (some hi) none) ty pos aI g) ts ls h {} (.a (.d (.str (cut s l.toNat r.toNat)))) ls h :=
 aq.dS fun j w jl act b=>by
  have f:=b x (by simp [Op.operands]);have u:=oA (P:=P) (cap:=r.toNat) hl (b lo (by simp [Op.operands])) h0 (by omega) .sliceB;have v:=oA (P:=P) (cap:=s.length) hh (b hi (by simp [Op.operands])) (by omega) q .sliceAlen;rw [hx] at f;refine⟨.string ⟨(cut s l.toNat r.toNat).toArray⟩, ?_,aF.str _ (by have:=(k_ f).2; simp [cut]; omega)⟩;simp [execOp,(k_ f).1,Instr.sliceAt,Instr.slice,Instr.sliceBounds,eV (vw p hk),size_mk,u,v]
  exact extract_mk _ _ _
theorem aq.Ah {t:TypeId}{f:TI}{x lo:Operand}{s:List UInt8}{k:IntKind}{l:Int}(p:aX P t=some f) (hk:f.k=.str) (hx:ev ts x=.a (.d (.str s))) (hl:ev ts lo=.a (.d (.int k l)))
  (h0:0<=l) (h1:l<=(s.length:Int)):aq P (mk dst (.slice t x (some lo) none none) ty pos aI g) ts ls h {} (.a (.d (.str (s.drop l.toNat)))) ls h :=
 aq.dS fun j w jl act m=>by
  have b:=m x (by simp [Op.operands]);have q:=oA (P:=P) (cap:=s.length) hl (m lo (by simp [Op.operands])) h0 h1 .sliceB;rw [hx] at b;refine⟨.string ⟨(s.drop l.toNat).toArray⟩, ?_,aF.str _ (by have:=(k_ b).2; simp; omega)⟩;simp [execOp,(k_ b).1,Instr.sliceAt,Instr.slice,Instr.sliceBounds,eV (vw p hk),size_mk,q];rw [extract_mk]; unfold cut; rw [List.take_of_length_le (by simp)]
theorem aq.CU {t:TypeId}{f:TI}{x hi:Operand}{s:List UInt8}{k:IntKind}{r:Int}(m:aX P t=some f) (hk:f.k=.str) (hx:ev ts x=.a (.d (.str s))) (hh:ev ts hi=.a (.d (.int k r)))
  (h0:0<=r) (h1:r<=(s.length:Int)):aq P (mk dst (.slice t x none (some hi) none) ty pos aI g) ts ls h {} (.a (.d (.str (s.take r.toNat)))) ls h :=
 aq.dS fun j w jl act l=>by
  have b:=l x (by simp [Op.operands]);have p:=oA (P:=P) (cap:=s.length) hh (l hi (by simp [Op.operands])) h0 h1 .sliceAlen;rw [hx] at b;refine⟨.string ⟨(s.take r.toNat).toArray⟩, ?_,aF.str _ (by have:=(k_ b).2; simp; omega)⟩;simp [execOp,(k_ b).1,Instr.sliceAt,Instr.slice,Instr.sliceBounds,eV (vw m hk),size_mk,p];rw [extract_mk]; simp [cut]
theorem aq.extract {x:Operand}{i:Nat}{xs:List A}{v:A}(hx:ev ts x=.cI xs) (hv:xs[i]?=some v):aq P (mk dst (.extract x i) ty pos aI g) ts ls h {} (.a v) ls h :=
 aq.dS fun j w jl act b=>by
  have h1:=b x (by simp [Op.operands]);rw [hx] at h1;obtain⟨cs,e,hr⟩:=h1;obtain⟨cv,f,k⟩:=hr.get hv;exact⟨cv,by simp [execOp,Instr.extract,e,f],k⟩
theorem aq.GP {x:Operand}{i off:Nat}(hx:ev ts x=.c_ i off):aq P (mk dst (.nilCheck x) ty pos aI g) ts ls h {} (.c_ i off) ls h :=
 aq.dS fun j w jl act f=>by
  have h1:=f x (by simp [Op.operands]);rw [hx] at h1;obtain⟨b,k,e⟩:=Ao h1;exact⟨_,by simp [execOp,e],b,k,rfl⟩
theorem aq.iK {x:Operand}{id off:Nat}(hx:ev ts x=.a (.d (.ptr id off))):aq P (mk dst (.nilCheck x) ty pos aI g) ts ls h {} (.a (.d (.ptr id off))) ls h :=
 aq.dS fun j w jl act b=>by
  have h1:=b x (by simp [Op.operands]);rw [hx] at h1;obtain⟨e,hi⟩:=Ap h1;exact⟨_,by simp [execOp,e],aF.ptr _ _ hi⟩
def GQ (ts:Ts) (x:Operand):Option D:=match ev ts x with
 | .a (.d y)=>some y
 | _=>none
def ud (ts:Ts):List Operand->Option (List D)
 | []=>some []
 | x::r=>match GQ ts x,ud ts r with
  | some y,some b=>some (y::b)
  | _,_=>none
theorem Ar {j:J}{w:World}{jl:List Nat}{act:Act}:∀(l:List Operand) (xs:List D),ud ts l=some xs->(∀x,x∈l->bp j w jl (ev ts x) (act.eval x))->aQ (aF j w) xs (l.map act.eval)
 | [],xs,h,_=>by simp [ud] at h; subst h; exact .nil
 | x::r,xs,h,b=>by
  simp only [ud] at h
  split at h
  ·rename_i y f h1 g
   simp at h; subst h;refine .cons ?_ (Ar r f g fun z hz=>b z (by simp [hz]));have:=b x (by simp);unfold GQ at h1
   split at h1
   ·rename_i z hz; simp at h1; subst h1; rw [hz] at this; exact this
   ·simp at h1
  ·simp at h
theorem aq.makeFunc {f:FuncId}{cD:Array Operand}{xs:List D}(hx:ud ts cD.toList=some xs):aq P (mk dst (.makeFunc (.func f) #[] cD) ty pos aI g) ts ls h {} (.a (.d (.func f xs))) ls h :=
 aq.dS fun j w jl act k=>by
  have h1:=Ar (j:=j) (w:=w) (jl:=jl) (act:=act) cD.toList xs hx fun x hx=>k x (by simp [Op.operands] at hx ⊢; exact hx);refine⟨.func (.func f) #[] (cD.toList.map act.eval).toArray, ?_,aF.func f xs _ h1.length fun i hi l=>?_⟩
  ·simp [execOp,Instr.makeFunc]
   apply Array.ext'; simp
  ·obtain⟨y,b,hr⟩:=h1.get (List.getElem?_eq_getElem hi);rw [List.getElem?_eq_getElem l] at b;simp only [Option.some.injEq] at b;rw [b]; exact hr
end
end Go.Ab
/-
 Structs and slices that are built,variables,objects,calls.
-/
namespace Go.Ab
open Go Go.RowKit
variable {av:bR}
inductive ee {α:Type}(x:α):List α->Nat->List α->Prop where
 | nil:ee x [] 0 [x]
 | cons {a:α}{l l':List α}{n:Nat}(h:ee x l n l'):ee x (a::l) (n+1) (a::l')
theorem ee.spec {α:Type}{x:α}{l l':List α}{n:Nat}(h:ee x l n l'):n=l.length/\l'=l++[x]:=by
 induction h with
 | nil=>exact⟨rfl,rfl⟩
 | cons _ b=>exact⟨by simp [b.1],by simp [b.2]⟩
inductive bn {α:Type}(x:α):List α->Nat->List α->Prop where
 | zero {a:α}{l:List α}:bn x (a::l) 0 (x::l)
 | succ {a:α}{l l':List α}{n:Nat}(h:bn x l n l'):bn x (a::l) (n+1) (a::l')
theorem bn.spec {α:Type}{x:α}{l l':List α}{n:Nat}(h:bn x l n l'):n<l.length/\l'=l.set n x:=by
 induction h with
 | zero=>exact⟨by simp,rfl⟩
 | succ _ b=>exact⟨by simp [b.1],by simp [b.2]⟩
theorem aq.of_run {P:Program}{o:Oper}{ts:Ts}{ls aV:List (List D)}{h h':af}{fx:Fx}{v:V}
  (k:∀L H,((fx.rl||fx.wl)=true->L=ls)->((fx.rh||fx.wh)=true->H=h)->∀(j:J) (w:World) (jl:List Nat) (a:Act),HL j w jl L H->(∀x,x∈o.op.operands->bp j w jl (ev ts x) (a.eval x)) ->
   ∃r w' cv j' b,(execOp a.eval o).run P w=.ok r w'/\(r=.value cv\/(r=.skip/\cv=undef))/\bp j' w' b v cv/\HL j' w' b (bif fx.wl then aV else L) (bif fx.wh then h' else H)/\Ext jl b /\
    bM j w (aU j H jl) j' w' (aU j' (bif fx.wh then h' else H) b)):aq P o ts ls h fx v aV h':=by
 intro L H l hH j w jl a hl m K Q hk;obtain⟨r,w',cv,j',b,p,hr,hv,f,hx,g⟩:=k L H l hH j w jl a hl m;unfold Oper.wp;rw [p];rcases hr with hr|⟨hr,hu⟩
 ·subst hr; rw [Oper.upon_value]; exact hk v _ _ cv j' w' b ⟨rfl,rfl,rfl⟩ hv f hx g
 ·subst hr; subst hu; rw [Oper.upon_skip]; exact hk v _ _ undef j' w' b ⟨rfl,rfl,rfl⟩ hv f hx g
theorem Ext.snoc (jl:List Nat) (b:Nat):Ext jl (jl++[b]):=fun i x hx=>by
 rw [List.getElem?_append_left (List.getElem?_eq_some_iff.1 hx).1]; exact hx
section
variable {P:Program}{ts:Ts}{ls:List (List D)}{h:af}{dst:Option Tmp}{ty:TypeId}{pos:String}{aI:Array Edge}{g:Option (Nat×Bool)}
theorem aq.GR {o:Oper}{e:TypeId}{x:A}{i:Nat}{aV:List (List D)}(f:ee (ct x) ls i aV)
  (g:∀(j:J) (w:World) (jl:List Nat) (a:Act),(∀x,x∈o.op.operands->bp j w jl (ev ts x) (a.eval x))->∃v,dw j w x v/\(execOp a.eval o).run P w=.ok (.value (.pointer (some ⟨w.heap.size,0,none⟩))) (w.alloc (.cells v.cells e))) :
  aq P o ts ls h { wl:=true } (.c_ i 0) aV h:=by
 refine aq.of_run fun L H k _ j w jl a hl l=>?_;obtain⟨m,p⟩:=f.spec;have q:=k rfl;subst q;obtain⟨v,hv,hr⟩:=g j w jl a l;obtain⟨h1,b⟩:=hl.loc v.cells.toList e (ct x) hv.cells;rw [Array.toArray_toList] at h1 b;refine⟨_,_,.pointer (some ⟨w.heap.size,0,none⟩),j,jl++[w.heap.size],hr,.inl rfl,⟨w.heap.size, ?_,rfl⟩, ?_,Ext.snoc _ _,b⟩
 ·rw [m,hl.2.each.length]; simp
 ·rw [p]; exact h1
theorem aq.N4 {e:TypeId}{b:TI}{z:A}{i:Nat}{aV:List (List D)}(k:aX P e=some b) (hz:b.zero=some z) (l:ee (ct z) ls i aV) :
  aq P (mk dst (.alloc e) ty pos aI g) ts ls h { wl:=true } (.c_ i 0) aV h:=by
 obtain⟨inf,d,h1,_,_,_,_,f⟩:=gj k;rw [hz] at f;obtain⟨v,m,p⟩:=nc f;refine aq.GR (e:=e) l fun j w jl a _=>⟨v,p j w, ?_⟩;simp [execOp,Instr.alloc,zeroValue,typeInfo,h1,m,newVar,newRow]
theorem aq.vz {e:TypeId}{x:Operand}{y:A}{i:Nat}{aV:List (List D)}(hx:ev ts x=.a y) (b:ee (ct y) ls i aV) :
  aq P (mk dst (.box e x) ty pos aI g) ts ls h { wl:=true } (.c_ i 0) aV h :=
 aq.GR (e:=e) b fun j w jl a f=>by
  have h1:=f x (by simp [Op.operands]);rw [hx] at h1;exact⟨a.eval x,h1,by simp [execOp,Instr.box,newVar,newRow]⟩
theorem aq.C7 {t:TypeId}{f:TI}{x y:Operand}{i off:Nat}{xs:List D}{v:A}{aV:List (List D)}(r:aX P t=some f) (hx:ev ts x=.c_ i off) (s:ev ts y=.a v) (hl:ls[i]?=some xs)
  (u:(ct v).length=f.size) (hle:off+f.size<=xs.length) (z:bn (cN xs off (ct v)) ls i aV) (M:dst=none):aq P (mk dst (.store t x y) ty pos aI g) ts ls h { wl:=true } .any aV h:=by
 refine aq.of_run fun L H B _ j w jl a hh m=>?_;have C:=B rfl;subst C;have h1:=m x (by simp [Op.operands]);have k:=m y (by simp [Op.operands]);rw [hx] at h1; rw [s] at k;obtain⟨b,p,e⟩:=Ao h1;obtain⟨b',l,cs,N,hg,q,E⟩:=hh.2.each.get hl;rw [p] at l; simp only [Option.some.injEq] at l; subst l;obtain⟨w',F,G⟩:=C0 (av:=av) (P:=P) hg r k u (by rw [<- q.length]; exact hle)
 obtain⟨I,J⟩:=hh.Nw p E G (q.cN off k.cells);obtain⟨_,K⟩:=z.spec;refine⟨.skip,w',undef,j,jl, ?_,.inr ⟨rfl,rfl⟩,trivial, ?_,Ext.refl _,J⟩
 ·simp [execOp,Instr.storeAt,Instr.sureAddr,e,F]
 ·rw [K]; exact I
theorem C8 {α:Type}:∀(pre l r:List α),l.length=r.length->cN (pre++l) pre.length r=pre++r
 | pre,[],[],_=>by simp [cN]
 | pre,a::l,b::r,h=>by
  have:=C8 (pre++[b]) l r (by simpa using h);simp only [cN];rw [show (pre++a::l).set pre.length b=(pre++[b])++l by simp [List.set_append]];rw [show pre.length+1=(pre++[b]).length by simp];rw [this]; simp
 | _,[],_::_,h=>by simp at h
 | _,_::_,[],h=>by simp at h
theorem aq.N5 {t:TypeId}{f:TI}{x y:Operand}{i:Nat}{xs b:List D}{aV:List (List D)}(j:aX P t=some f) (hx:ev ts x=.c_ i 0) (k:ev ts y=.a (.agg b)) (hl:ls[i]?=some xs)
  (l:b.length=f.size) (hle:xs.length=f.size) (m:bn b ls i aV):aq P (mk none (.store t x y) ty pos aI g) ts ls h { wl:=true } .any aV h :=
 aq.C7 j hx k hl l (by omega) (by
  have:=C8 [] xs b (by omega);simp only [List.nil_append,List.length_nil] at this;rw [show ct (.agg b)=b from rfl,this]; exact m) rfl
theorem aq.jC {t:TypeId}{b:TI}{x y:Operand}{i off:Nat}{xs xs':List D}{v:D}{aV:List (List D)}(f:aX P t=some b) (hx:ev ts x=.c_ i off) (j:ev ts y=.a (.d v)) (hl:ls[i]?=some xs)
  (k:b.size=1) (hv:bn v xs off xs') (l:bn xs' ls i aV):aq P (mk none (.store t x y) ty pos aI g) ts ls h { wl:=true } .any aV h:=by
 obtain⟨h1,m⟩:=hv.spec;refine aq.C7 f hx j hl (by rw [k]; rfl) (by omega) ?_ rfl;rw [show cN xs off (ct (.d v))=xs' by rw [m]; rfl]; exact l
theorem aq.GS {t:TypeId}{b:TI}{x y:Operand}{i off:Nat}{xs xs':List D}{v:A}{aV:List (List D)}(f:aX P t=some b) (hx:ev ts x=.c_ i off) (j:ev ts y=.a v) (hl:ls[i]?=some xs)
  (k:(ct v).length=b.size) (hle:off+b.size<=xs.length) (hv:cN xs off (ct v)=xs') (l:bn xs' ls i aV):aq P (mk none (.store t x y) ty pos aI g) ts ls h { wl:=true } .any aV h :=
 aq.C7 f hx j hl k hle (by rw [hv]; exact l) rfl
theorem aq.ue {t:TypeId}{b:TI}{x y:Operand}{id off:Nat}{xs f:List D}{v:A}(r:aX P t=some b) (hx:ev ts x=.a (.d (.ptr id off))) (s:ev ts y=.a v) (hl:h id=some (.cells xs))
  (u:(ct v).length=b.size) (hle:off+b.size<=xs.length) (z:cN xs off (ct v)=f) (J:dst=none) :
  aq P (mk dst (.store t x y) ty pos aI g) ts ls h { wh:=true } .any ls (h.set id (some (.cells f))):=by
 refine aq.of_run fun L H _ hH j w jl a hh p=>?_;have B:=hH rfl;subst B;have h1:=p x (by simp [Op.operands]);have k:=p y (by simp [Op.operands]);rw [hx] at h1; rw [s] at k;obtain⟨e,hid⟩:=Ap h1;obtain⟨cs,C,hg,q,l⟩:=(hh.1.obj id _ hl).2;obtain⟨w',E,m⟩:=C0 (av:=av) (P:=P) hg r k u (by rw [<- q.length]; exact hle);have F:=m.le (j:=j) l;obtain⟨G,I⟩:=hh.setObj (o':=.cells f) hl rfl rfl l m ⟨_,C,m.here,by rw [<- z]; exact(q.cN off k.cells).imp fun _ _ h=>h.mono F,l⟩
 refine⟨.skip,w',undef,j,jl, ?_,.inr ⟨rfl,rfl⟩,trivial,G,Ext.refl _,I⟩;simp [execOp,Instr.storeAt,Instr.sureAddr,e,E]
theorem aq.gv {t:TypeId}{b:TI}{x y:Operand}{id off:Nat}{xs xs':List D}{v:D}(f:aX P t=some b) (hx:ev ts x=.a (.d (.ptr id off))) (j:ev ts y=.a (.d v)) (hl:h id=some (.cells xs))
  (k:b.size=1) (hv:bn v xs off xs'):aq P (mk none (.store t x y) ty pos aI g) ts ls h { wh:=true } .any ls (h.set id (some (.cells xs'))):=by
 obtain⟨h1,l⟩:=hv.spec;exact aq.ue f hx j hl (by rw [k]; rfl) (by omega) (by rw [l]; rfl) rfl
theorem GU {o:Oper}{e:TypeId}{x:A}(b:∀(j:J) (w:World) (jl:List Nat) (a:Act),(∀x,x∈o.op.operands->bp j w jl (ev ts x) (a.eval x))->∃v,dw j w x v/\(execOp a.eval o).run P w=.ok (.value (.pointer (some ⟨w.heap.size,0,none⟩))) (w.alloc (.cells v.cells e))) :
  dx P o ts ls h fun v aV h'=>∃id,h id=none/\v=.a (.d (.ptr id 0))/\aV=ls/\h'=h.set id (some (.cells (ct x))):=by
 intro j w jl a hl f K Q hk;obtain⟨v,hv,hr⟩:=b j w jl a f;have hle:Le j w (j.obj w.heap.size) (w.alloc (.cells v.cells e)) :=
  ((hl.data (.cells v.cells e) 0).2.toLe.trans (by
   rw [J.xO (hl.1.fresh _ (Nat.le_refl _))];exact⟨by simp [J.obj],fun id hi=>by simp only [J.obj]; rw [if_neg (by omega)],fun _=>Nat.le_refl _,fun _ _ _=>rfl,fun _ _=>.inl rfl,fun _ _ _ _ _ h=>h⟩))
 obtain⟨h1,g⟩:=hl.obj (.cells v.cells e) (.cells (ct x)) rfl ⟨v.cells.toList,e,by
  simp only [J.obj,if_true]; rw [Array.toArray_toList]; exact heap_alloc_new w _,hv.cells.imp fun _ _ h=>h.mono hle,by
   simp only [J.obj,if_true]; exact hl.1.fresh _ (Nat.le_refl _)⟩
 unfold Oper.wp;rw [hr,Oper.upon_value];refine hk _ _ _ _ (j.obj w.heap.size) _ jl ⟨j.next,hl.1.lV (Nat.le_refl _),rfl,rfl,rfl⟩ ?_ h1 (Ext.refl _) g;have:=aF.ptr (j:=j.obj w.heap.size) (w:=w.alloc (.cells v.cells e)) j.next 0 (by simp [J.obj])
 simpa [J.obj,bp,dw] using this
theorem dx.As {e:TypeId}{b:TI}{z:A}(k:aX P e=some b) (hz:b.zero=some z) :
  dx P (mk dst (.alloc e) ty pos aI g) ts ls h fun v aV h'=>∃id,h id=none/\v=.a (.d (.ptr id 0))/\aV=ls/\h'=h.set id (some (.cells (ct z))):=by
 obtain⟨inf,d,h1,_,_,_,_,f⟩:=gj k;rw [hz] at f;obtain⟨v,l,m⟩:=nc f;refine GU (e:=e) fun j w jl a _=>⟨v,m j w, ?_⟩;simp [execOp,Instr.alloc,zeroValue,typeInfo,h1,l,newVar,newRow]
theorem dx.xX {e:TypeId}{x:Operand}{y:A}(hx:ev ts x=.a y) :
  dx P (mk dst (.box e x) ty pos aI g) ts ls h fun v aV h'=>∃id,h id=none/\v=.a (.d (.ptr id 0))/\aV=ls/\h'=h.set id (some (.cells (ct y))) :=
 GU (e:=e) fun j w jl a b=>by
  have h1:=b x (by simp [Op.operands]);rw [hx] at h1;exact⟨a.eval x,h1,by simp [execOp,Instr.box,newVar,newRow]⟩
def Au (ts:Ts) (x:Operand):Option A:=match ev ts x with
 | .a y=>some y
 | _=>none
def iX (ts:Ts):List Operand->Option (List A)
 | []=>some []
 | x::r=>match Au ts x,iX ts r with
  | some y,some b=>some (y::b)
  | _,_=>none
theorem C9 {j:J}{w:World}{jl:List Nat}{act:Act}:∀(l:List Operand) (xs:List A),iX ts l=some xs->(∀x,x∈l->bp j w jl (ev ts x) (act.eval x))->aQ (dw j w) xs (l.map act.eval)
 | [],xs,h,_=>by simp [iX] at h; subst h; exact .nil
 | x::r,xs,h,b=>by
  simp only [iX] at h
  split at h
  ·rename_i y f h1 g
   simp at h; subst h;refine .cons ?_ (C9 r f g fun z hz=>b z (by simp [hz]));have:=b x (by simp);unfold Au at h1
   split at h1
   ·rename_i z hz; simp at h1; subst h1; rw [hz] at this; exact this
   ·simp at h1
  ·simp at h
theorem xY {f:Operand}{args:Array Operand}{cm:Array TypeId}{eB:FuncId}{cD:List D}{xs:List A}{cZ:V->af->Prop}{L:List (List D)}{H:af}(s:ev ts f=.a (.d (.func eB cD))) (t:iX ts args.toList=some xs)
  (hc:AC P eB (xs++cD.map .d) H cZ) :
  dx P (mk dst (.call { callee:=.value f,args:=args,argTypes:=cm }) ty pos aI g) ts L H fun v aV h'=>cZ v h'/\aV=L:=by
 intro j w jl a hl k K Q hk;have h1:=k f (by simp [Op.operands,Call.operands]);rw [s] at h1;have u:=C9 (j:=j) (w:=w) (jl:=jl) (act:=a) args.toList xs t fun x hx=>k x (by simp [Op.operands,Call.operands]; right; simpa using hx);have p:aF j w (.func eB cD) (a.eval f):=h1;generalize B:a.eval f=U at p;cases p with
 | func _ _ lT hlen hr =>
  have C:aQ (dw j w) (xs++cD.map .d) (args.toList.map a.eval++lT):=by
   refine u.append (aQ.jf (by simp [hlen]) fun i x y hx E=>?_);rw [List.getElem?_map] at hx;cases e:cD[i]? with
   | none=>rw [e] at hx; simp at hx
   | some z =>
    rw [e] at hx; simp at hx; subst hx;obtain⟨hi,G⟩:=List.getElem?_eq_some_iff.1 e;obtain⟨I,J⟩:=List.getElem?_eq_some_iff.1 E;have:=hr i hi I;rw [G,J] at this; exact this
  have M:=hc.runs j w _ hl.1 C;have N:(execOp a.eval (mk dst (.call { callee:=.value f,args:=args,argTypes:=cm }) ty pos aI g)).run P w=.ok (.enter eB (args.toList.map a.eval++lT).toArray) w:=by
   have he:=hc.enter (args.toList.map a.eval++lT).toArray w;have O:Array.map a.eval args++lT.toArray=(args.toList.map a.eval++lT).toArray:=by apply Array.ext'; simp
   simp only [execOp,resolve,B,Deferred.ofValue,Sem.run_bind,Sem.run_pure,Result.andThen,invoke,List.append_eq,Array.empty_append];rw [O]; exact he
  unfold Oper.wp;rw [N,Oper.upon_enter];refine M.mono ?_;rintro e w' ⟨r,cv,j',h',rfl,R,hv,hh,m⟩;have q:∀b,b∈jl->b<w.heap.size:=fun b l=>aU.lt hl (.inl l);have S:∀b,b∈jl->w'.heap[b]?=w.heap[b]?/\j'.F b=j.F b:=fun b l=>m.frame b (q b l) (hl.2.apart b l);refine hk r L h' cv j' w' jl ⟨R,rfl⟩ (hv.mono (Le.refl _ _) (fun i b l=>by simp at l)) ⟨hh,⟨pW hl.2.each fun xs b l h=>h.keep m.toLe (S b l),hl.2.nodup,fun b l k=>hl.2.apart b l (m.own b (q b l) k)⟩⟩ (Ext.refl _) ?_
  refine { m with frame:=fun b l hn=>m.frame b l (fun k=>hn ?_),own:=fun b l k=>?_ }
  ·rcases k with k|k
   ·simp at k
   ·exact .inr k
  ·rcases k with k|k
   ·exact .inl k
   ·rcases m.own b l (.inr k) with h|h
    ·simp at h
    ·exact .inr h
theorem dx.call {f:Operand}{args:Array Operand}{cm:Array TypeId}{eB:FuncId}{cD:List D}{xs:List A}{cZ:V->af->Prop}(b:ev ts f=.a (.d (.func eB cD))) (j:iX ts args.toList=some xs)
  (hc:AC P eB (xs++cD.map .d) h cZ) :
  dx P (mk dst (.call { callee:=.value f,args:=args,argTypes:=cm }) ty pos aI g) ts ls h fun v aV h'=>cZ v h'/\aV=ls:=xY b j hc
theorem aq.jQ {f:Operand}{args:Array Operand}{cm:Array TypeId}{eB:FuncId}{cD:List D}{xs:List A}{v:V}(b:ev ts f=.a (.d (.func eB cD))) (j:iX ts args.toList=some xs)
  (hc:∀H,AC P eB (xs++cD.map .d) H fun r h'=>r=v/\h'=H) :
  aq P (mk dst (.call { callee:=.value f,args:=args,argTypes:=cm }) ty pos aI g) ts ls h {} v ls h:=by
 intro L H _ _;exact(xY b j (hc H)).mono fun _ _ _ ⟨⟨k,l⟩,m⟩=>⟨k,m,l⟩
theorem aq.bS {f:Operand}{args:Array Operand}{cm:Array TypeId}{eB:FuncId}{cD:List D}{xs:List A}{v:V}{h1:af}(b:ev ts f=.a (.d (.func eB cD))) (j:iX ts args.toList=some xs)
  (hc:AC P eB (xs++cD.map .d) h fun r h'=>r=v/\h'=h1) :
  aq P (mk dst (.call { callee:=.value f,args:=args,argTypes:=cm }) ty pos aI g) ts ls h { rh:=true,wh:=true } v ls h1:=by
 intro L H _ hH;have e:=hH rfl;subst e;exact(xY b j hc).mono fun _ _ _ ⟨⟨k,l⟩,m⟩=>⟨k,m,l⟩
theorem aq.eY {f:Operand}{args:Array Operand}{cm:Array TypeId}{eB:FuncId}{cD:List D}{xs:List A}{v:V}(b:ev ts f=.a (.d (.func eB cD))) (j:iX ts args.toList=some xs)
  (hc:AC P eB (xs++cD.map .d) h fun r h'=>r=v/\h'=h) :
  aq P (mk dst (.call { callee:=.value f,args:=args,argTypes:=cm }) ty pos aI g) ts ls h { rh:=true } v ls h:=by
 intro L H _ hH;have e:=hH rfl;subst e;exact(xY b j hc).mono fun _ _ _ ⟨⟨k,l⟩,m⟩=>⟨k,m,l⟩
end
end Go.Ab
/-
 append.
-/
namespace Go.Ab
open Go Go.RowKit
variable {av:bR}
theorem vA {j:J}{w:World}{k:Nat}{tok:Option Nat}{rows:List (List D)}{b o cap:Nat}(hk:∀r∈rows,r.length=k) (hn:rows.length<=cC) (hc:rows.length<=cap)
  (g:∀i x,rows.flatten[i]?=some x->o+i<j.F b/\∃v,w.cell? ⟨b,o+i,none⟩=some v/\aF j w x v) (ht:vm j tok rows.length ⟨b,o,none⟩ cap) (l:∀i v,i<rows.flatten.length->w.cell? ⟨b,o+i,none⟩=some v->Uz w b (o+i) v) :
  aF j w (.slice k tok false rows) (.slice (some ⟨b,o,none⟩) rows.length cap):=by
 refine aF.slice k tok rows ⟨b,o,none⟩ cap (fun i=>(w.cell? ⟨b,o+i,none⟩).getD undef) hk hn hc ⟨.inr rfl,fun i hi=>?_⟩ (fun i hi=>?_) ht
 ·obtain⟨h1,v,f,_⟩:=g i _ (List.getElem?_eq_getElem hi);exact⟨h1,by show w.cell? _=some ((w.cell? ⟨b,o+i,none⟩).getD undef); rw [f]; rfl,l i _ hi (by show _=some ((w.cell? ⟨b,o+i,none⟩).getD undef); rw [f]; rfl)⟩
 ·obtain⟨h1,v,f,m⟩:=g i _ (List.getElem?_eq_getElem hi);rw [f]; exact m
theorem xZ {α:Type}:∀(l:List α) (n:Nat) (r:List α) (i:Nat),i<n->(cN l n r)[i]?=l[i]?
 | _,_,[],_,_=>rfl
 | l,n,v::r,i,h=>by
  rw [cN,xZ (l.set n v) (n+1) r i (by omega),List.getElem?_set_ne (by omega)]
theorem Av {α:Type}:∀(l:List α) (n:Nat) (r:List α) (i:Nat) (x:α),r[i]?=some x->n+r.length<=l.length->(cN l n r)[n+i]?=some x
 | _,_,[],_,_,h,_=>by simp at h
 | l,n,v::r,i,x,h,hl=>by
  simp only [List.length_cons] at hl;cases i with
  | zero =>
   simp at h; subst h;rw [cN,Nat.add_zero,xZ _ _ _ _ (by omega),List.getElem?_set];simp; omega
  | succ i =>
   rw [cN,show n+(i+1)=n+1+i by omega];exact Av (l.set n v) (n+1) r i x (by simpa using h) (by simp; omega)
section
variable {P:Program}{t u ty e:TypeId}{i:TypeInfo}{z:Value}{du:TypeDesc}
theorem C_ (ht:P.underlying t=some (.slice e)) (hu:P.underlying u=some du) (b:∀k,du≠.int k) (hi:P.info? e=some i) (hz:i.zero=some z){w:World}{base:Option Addr}{sLen sCap m:Nat}{x:Value}{olds news:List Value}
  (hlen:(Builtin.lenOf x).run P w=.ok m w) (f:(Builtin.firstCells i.size sLen (.slice base sLen sCap)).run P w.drew=.ok olds.toArray w.drew) (g:(Builtin.firstCells i.size m x).run P w.drew=.ok news.toArray w.drew)
  (hg:sCap<sLen+m) (q:sLen+m<=9223372036854775807) (r:Builtin.nextslicecap (sLen+m) sCap*i.bytes<=281474976710656) :
  (Builtin.append_ #[t,u] ty #[.slice base sLen sCap,x]).run P w=.ok (.slice (some ⟨w.heap.size,0,none⟩) (sLen+m) (grownCap w (sLen+m) sCap e))
   (w.drew.alloc (.cells (olds++news++(Builtin.zeroCells z.cells (grownCap w (sLen+m) sCap e-(sLen+m))).toList).toArray e)):=by
 have hn:¬(sLen+m<=sCap):=by omega
 have j:¬(9223372036854775807<((sLen:Int)+(m:Int))):=by omega
 have l:¬(281474976710656<Builtin.nextslicecap (sLen+m) sCap*i.bytes):=by omega
 have p:(match du with|.int _=>true|_=>false)=false:=by cases du<;>first|rfl|exact absurd rfl (b _)
 simp [Builtin.append_,run_underlying ht,run_underlying hu,sizeOf,typeInfo,zeroValue,hi,hz,p,hlen,hn,j,l,Question.forced,f,g,newRow,grownCap]
 congr 2
 apply Array.ext'
 simp [List.append_assoc]
theorem x_ (ht:P.underlying t=some (.slice e)) (hu:P.underlying u=some du) (b:∀k,du≠.int k) (hi:P.info? e=some i){w w':World}{a:Addr}{sLen sCap m:Nat}{x:Value}{news:List Value}
  (hlen:(Builtin.lenOf x).run P w=.ok m w) (f:(Builtin.firstCells i.size m x).run P w=.ok news.toArray w) (hg:sLen+m<=sCap) (g:(storeCells (a.add (sLen*i.size)) news).run P w=.ok () w') :
  (Builtin.append_ #[t,u] ty #[.slice (some a) sLen sCap,x]).run P w=.ok (.slice (some a) (sLen+m) sCap) w':=by
 have j:(match du with|.int _=>true|_=>false)=false:=by cases du<;>first|rfl|exact absurd rfl (b _)
 simp [Builtin.append_,run_underlying ht,run_underlying hu,sizeOf,typeInfo,hi,j,hlen,hg,f,g]
theorem GV (ht:P.underlying t=some (.slice e)) (hu:P.underlying u=some du) (b:∀k,du≠.int k) (hi:P.info? e=some i){w:World}{x:Value}
  (hlen:(Builtin.lenOf x).run P w=.ok 0 w) (f:(Builtin.firstCells i.size 0 x).run P w=.ok #[] w) :
  (Builtin.append_ #[t,u] ty #[.slice none 0 0,x]).run P w=.ok (.slice none 0 0) w:=by
 have g:(match du with|.int _=>true|_=>false)=false:=by cases du<;>first|rfl|exact absurd rfl (b _)
 simp [Builtin.append_,run_underlying ht,run_underlying hu,sizeOf,typeInfo,hi,g,hlen,f]
end
theorem Da {P:Program}{j:J}{w:World}{k:Nat}{tok:Option Nat}{nl:Bool}{rows:List (List D)}{cv:Value}{size:Nat}(h:aF j w (.slice k tok nl rows) cv) (hk:∀r∈rows,r.length=size) :
  ∃cs:List Value,aQ (aF j w) rows.flatten cs/\∀w',(∀b o,o<j.F b->w'.cell? ⟨b,o,none⟩=w.cell? ⟨b,o,none⟩)->(Builtin.firstCells size rows.length cv).run P w'=.ok cs.toArray w':=by
 cases h with
 | gu _ _ ht=>exact⟨[],.nil,fun w' _=>by simp [Builtin.firstCells]⟩
 | slice _ _ _ a cap f y hn hc bQ hr ht =>
  by_cases l:rows=[]
  ·subst l;exact⟨[],.nil,fun w' _=>by simp [Builtin.firstCells,loadCells,loadCellsFrom]⟩
  have m:a=⟨a.block,a.off,none⟩:=by have:=bQ.1.resolve_left l; cases a; simp at this; simp [this]
  have p:=(g_ hk).1;obtain⟨cs,h1,q⟩:=CZ (P:=P) (j:=j) (w:=w) (b:=a.block) (o:=a.off) rows.flatten fun i x hx=>by
   have hi:=(List.getElem?_eq_some_iff.1 hx).1;refine⟨f i,(bQ.2 i hi).2.1, ?_⟩;have:=hr i hi;rw [(List.getElem?_eq_some_iff.1 hx).2] at this; exact this
  refine⟨cs,h1,fun w' hw=>?_⟩;have s:∀n v,cs[n]?=some v->w.cell? ⟨a.block,a.off+n,none⟩=some v:=by
   intro n v hv;obtain⟨x,hx,_⟩:=h1.get' hv;have hi:=(List.getElem?_eq_some_iff.1 hx).1;have t:=(bQ.2 n hi).2.1;have g:(loadCells ⟨a.block,a.off,none⟩ rows.flatten.length).run P w=.ok ((List.range rows.flatten.length).map f).toArray w :=
    run_loadCells w _ _ f fun i hi=>by rw [add_plain]; exact(bQ.2 i hi).2.1
   rw [q] at g;simp only [Result.ok.injEq,and_true] at g;have u:cs=(List.range rows.flatten.length).map f:=by
    have:=congrArg Array.toList g; simpa using this
   rw [u,List.getElem?_map,List.getElem?_range hi] at hv;simp at hv;rw [t,hv]
  rw [Builtin.firstCells,<- p,h1.length];rw [m];exact run_loadCells_list w' _ cs fun n v hv=>by
   rw [add_plain];obtain⟨x,hx,_⟩:=h1.get' hv;have hi:=(List.getElem?_eq_some_iff.1 hx).1;rw [hw _ _ (bQ.2 n hi).1];exact s n v hv
theorem GW {j:J}{w:World}{k:Nat}{tok:Option Nat}{nl:Bool}{rows:List (List D)}{cv:Value}(h:aF j w (.slice k tok nl rows) cv) (P:Program) (w':World):(Builtin.lenOf cv).run P w'=.ok rows.length w':=by
 cases h<;>simp [Builtin.lenOf]
theorem GX {R:Nat->D->Prop}{rows a_:List (List D)}{n:Nat}(hn:rows.flatten.length=n) (h1:∀i x,rows.flatten[i]?=some x->R i x) (b:∀i x,a_.flatten[i]?=some x->R (n+i) x) :
  ∀i x,(rows++a_).flatten[i]?=some x->R i x:=by
 intro i x hx;rw [List.flatten_append,List.getElem?_append] at hx
 split at hx
 ·exact h1 i x hx
 ·rename_i h
  have:=b _ x hx
  rwa [show n+(i-rows.flatten.length)=i by omega] at this
section
variable {P:Program}{ts:Ts}{ls:List (List D)}{h:af}{dst:Option Tmp}{ty:TypeId}{pos:String}{aI:Array Edge}{g:Option (Nat×Bool)}
theorem GY {P:Program}{t:TypeId}{b:TI}(g:aX P t=some b) (hk:(∃e,b.k=.slice e)\/b.k=.str):∃d,P.underlying t=some d/\∀k,d≠.int k:=by
 obtain⟨i,d,h1,j,_,_,f,_⟩:=gj g;refine⟨d,j,fun k e=>?_⟩;subst e;simp only [eU] at f;rcases hk with ⟨e,hk⟩|hk<;>rw [hk] at f<;>cases f
def Src (P:Program) (j:J) (w:World) (size:Nat) (cv:Value) (a_:List (List D)):Prop :=
 (∀r∈a_,r.length=size)/\(∃news:List Value,aQ (aF j w) a_.flatten news/\∀w',(∀b o,o<j.F b->w'.cell? ⟨b,o,none⟩=w.cell? ⟨b,o,none⟩)->(Builtin.firstCells size a_.length cv).run P w'=.ok news.toArray w')/\∀w',(Builtin.lenOf cv).run P w'=.ok a_.length w'
theorem Src.slice {P:Program}{j:J}{w:World}{k:Nat}{tok:Option Nat}{nl:Bool}{rows:List (List D)}{cv:Value}{size:Nat}(h:aF j w (.slice k tok nl rows) cv) (hk:∀r∈rows,r.length=size):Src P j w size cv rows :=
 ⟨hk,Da h hk,fun w'=>GW h P w'⟩
theorem aq.N6 {t u e:TypeId}{ay ae l:TI}{x y:Operand}{tk k m:Nat}{E:Option TypeId}{nl:Bool}{rows a_:List (List D)}{z:A}(aR:aX P t=some ay) (hk:ay.k=.slice e) (aT:aX P e=some l) (aV:aX P u=some ae) (aW:(∃e,ae.k=.slice e)\/ae.k=.str)
  (hz:l.zero=some z) (aY:(ct z).length=l.size) (bw:l.size≠0)
  (hx:ev ts x=.a (.d (.slice k (some tk) nl rows))) (aZ:∀(j:J) (w:World) (jl:List Nat) (cv:Value),bp j w jl (ev ts y) cv->Src P j w l.size cv a_) (B:k=l.size\/rows=[])
  (bt:h tk=some (.tok l.size m E)) (hm:m=rows.length) (a0:(rows.length+a_.length)*l.bytes<=cC) (hlen:rows.length+a_.length<=cC) (a1:∀T,E=some T->T=e:=by intro T h; cases h) :
  aq P (mk dst (.call { callee:=.builtin .append,args:=#[x,y],argTypes:=#[t,u] }) ty pos aI g) ts ls h { rh:=true,wh:=true }
   (.a (.d (.slice l.size (some tk) (nl&&a_.isEmpty) (rows++a_)))) ls (h.set tk (some (.tok l.size (rows.length+a_.length) E))):=by
 refine aq.of_run fun L H _ hH j w jl a hl K=>?_;have a2:=hH rfl;subst a2 hm;have h1:aF j w (.slice k (some tk) nl rows) (a.eval x):=by have:=K x (by simp [Op.operands,Call.operands]); rw [hx] at this; exact this
 obtain⟨az,⟨news,Q,S⟩,a3⟩:=aZ j w jl (a.eval y) (K y (by simp [Op.operands,Call.operands]));obtain⟨bx,bz,U,_,I,a4,_,aB⟩:=gj aT;rw [hz] at aB;obtain⟨zv,a5,a6⟩:=nc aB;have a7:zv.cells.size=l.size:=by have:=(a6 j w).cells.length; rw [aY] at this; simpa using this.symm
 obtain⟨du,hu,W⟩:=GY aV aW;have ht:=kj aR hk;obtain⟨ag,cap,X,bA,bB,bC,aC,a8,a9⟩:=p5 (jl:=jl) h1;have ai:∀r∈rows,r.length=l.size:=by
  rcases B with e|e
  ·rw [<- e]; exact a8
  ·rw [e]; simp
 have Y:∀r∈rows++a_,r.length=l.size:=fun r hr=>(List.mem_append.1 hr).elim (ai r) (az r);have Z:=a3 w;have a':=(g_ az).1;have aj:=(g_ ai).1;have aa:news.length=a_.length*l.size:=by rw [<- Q.length,a']
 obtain⟨aD,dM,aE,hblk,_⟩:=hl.1.obj tk _ bt;have ak:∀(v:Value) (w':World),(Builtin.append_ #[t,u] ty #[a.eval x,a.eval y]).run P w=.ok v w' ->
   (execOp a.eval (mk dst (.call { callee:=.builtin .append,args:=#[x,y],argTypes:=#[t,u] }) ty pos aI g)).run P w=.ok (.value v) w':=fun v w' hr=>by
  simp [execOp,resolve,invoke,builtin,hr]
 have p:(rows++a_).length=rows.length+a_.length:=by simp
 by_cases al:a_=[]
 ·-- nothing is appended
  subst al;have ba:news=[]:=List.eq_nil_of_length_eq_zero (by simpa using aa);subst ba;have C:(Builtin.append_ #[t,u] ty #[a.eval x,a.eval y]).run P w=.ok (a.eval x) w:=by
   rw [X];cases ag with
   | none =>
    obtain⟨bX,bb⟩:=aC rfl;subst bX bb;exact GV ht hu W U (by simpa using Z) (by rw [I]; simpa using S w (fun _ _ _=>rfl))
   | some am =>
    have:=x_ (P:=P) (ty:=ty) (sCap:=cap) (sLen:=rows.length) (m:=0) (a:=am) (news:=[]) (w':=w) ht hu W U (by simpa using Z) (by rw [I]; simpa using S w (fun _ _ _=>rfl)) (by omega) (by simp [storeCells])
    simpa using this
  refine⟨_,w,a.eval x,j,jl,ak _ _ C,.inl rfl, ?_, ?_,Ext.refl _, ?_⟩
  ·have bc:rows≠[]->k=l.size:=fun ab=>B.resolve_right ab;simp only [List.append_nil,List.isEmpty_nil,Bool.and_true];show aF j w _ _;by_cases ab:rows=[]
   ·subst ab;have key:∀an,aF j w (.slice k (some tk) nl []) an->aF j w (.slice l.size (some tk) nl []) an:=by
     intro an hh;cases hh with
     | gu _ _ ht=>exact .gu _ _ ht
     | slice _ _ _ a cap f hk hn hc bQ hr ht=>exact .slice _ _ [] a cap f (by simp) hn hc bQ hr ht
    exact key _ h1
   ·rw [<- bc ab]; exact h1
  ·simp only [List.length_nil,Nat.add_zero,cond_true];rw [af.kf H tk _ bt]; exact hl
  ·simp only [List.length_nil,Nat.add_zero,cond_true];rw [af.kf H tk _ bt]; exact bM.refl _ _ _
 ·have bD:0<a_.length:=List.length_pos_iff.2 al;have bd:(nl&&a_.isEmpty)=false:=by cases a_ with|nil=>exact absurd rfl al|cons _ _=>simp
  rw [bd];by_cases M:rows.length+a_.length<=cap
  ·-- in place
   cases ag with
   | none=>obtain⟨bX,_⟩:=aC rfl; omega
   | some am =>
    obtain⟨be,f,bQ,bf⟩:=a9 am rfl;obtain⟨_,bg⟩:=be tk rfl;obtain⟨_,bh⟩:=bg _ aE;rcases bh rfl with ⟨_,hc⟩|⟨b,ao,bi⟩
    ·omega
    ·subst bi;dsimp only at ao;obtain⟨cs,ce,hg,ap,bj,bE,bk⟩:=hblk b cap ao;have aG:w.heap[b]?=some (.cells cs.toList.toArray ce (0,0)):=by simpa using hg
     obtain⟨w',bm,q⟩:=xU (av:=av) (P:=P) (off:=rows.length*l.size) news 0 cs.toList w aG (by
      rw [aa]; simp only [Array.length_toList,ap]; rw [Nat.add_zero,<- Nat.add_mul]; exact Nat.mul_le_mul_right _ M) (An Q)
     rw [Nat.add_zero] at q;have C:(Builtin.append_ #[t,u] ty #[a.eval x,a.eval y]).run P w=.ok (.slice (some ⟨b,0,none⟩) (rows.length+a_.length) cap) w':=by
      rw [X];exact x_ ht hu W U Z (by rw [I]; exact S w fun _ _ _=>rfl) M (by rw [add_plain,I,Nat.zero_add]; exact bm)
     have bo:bJ j tk (.tok l.size rows.length E)=some b:=by simp [bJ,aE,ao]
     have ad:∀o,w'.cell? ⟨b,o,none⟩=(cN cs.toList (rows.length*l.size) news)[o]?:=fun o=>by rw [cell_of_row w' b o _ ce (0,0) q.here]; simp
     have aH:∀o,w.cell? ⟨b,o,none⟩=cs.toList[o]?:=fun o=>by rw [cell_of_row w b o _ ce (0,0) aG]; simp
     obtain⟨ar,N⟩:=hl.grow (w':=w') (m':=rows.length+a_.length) bt (by omega) (b:=b) (cap:=cap) q.here (by simp [uc,ap]) M (fun x hx _=>q.other x hx)
      (by rw [q.size]; exact Nat.le_refl _) (by rw [q.size]; omega) (.inr ⟨bo,fun o K=>by rw [ad,aH,xZ _ _ _ _ (by rw [bj] at K; exact K)]⟩) q.os q.tape q.output bk
     refine⟨_,w',_,_,jl,ak _ _ C,.inl rfl, ?_,ar,Ext.refl _,N⟩;have hle:=N.toLe;have:=vA (j:=j.cG tk ⟨some (b,cap),rows.length+a_.length⟩ b ((rows.length+a_.length)*l.size)) (w:=w') (k:=l.size) (tok:=some tk) (rows:=rows++a_) (b:=b) (o:=0) (cap:=cap) Y
      (by rw [p]; exact hlen) (by rw [p]; exact M) (fun i x hx=>?_) (fun t' O=>?_) (fun _ _ _ _=>.cells q.here)
     ·rw [p] at this; exact this
     ·have au:i<(rows++a_).flatten.length:=(List.getElem?_eq_some_iff.1 hx).1;rw [(g_ Y).1,p] at au;refine⟨by simp only [J.cG,if_true]; omega, ?_⟩;rw [Nat.zero_add,ad]
      revert i x hx
      have:=GX (R:=fun i x=>∃v,(cN cs.toList (rows.length*l.size) news)[i]?=some v/\aF (j.cG tk ⟨some (b,cap),rows.length+a_.length⟩ b ((rows.length+a_.length)*l.size)) w' x v) aj (a_:=a_)
       (fun i x hx=>by
        have hi:=(List.getElem?_eq_some_iff.1 hx).1;rw [xZ _ _ _ _ (by omega)];have aK:=(bQ.2 i hi).2.1;rw [Nat.zero_add,aH] at aK;refine⟨f i,aK, ?_⟩;have aL:=bf i hi;rw [(List.getElem?_eq_some_iff.1 hx).2] at aL;exact aL.mono hle)
       (fun i x hx=>by
        obtain⟨v,hv,hr⟩:=Q.get hx;exact⟨v,Av _ _ _ _ _ hv (by rw [aa]; simp only [Array.length_toList,ap]; rw [<- Nat.add_mul]; exact Nat.mul_le_mul_right _ M),hr.mono hle⟩)
      exact fun i x hx _=>this i x hx
     ·simp only [Option.some.injEq] at O;subst O;refine⟨Nat.lt_of_lt_of_le aD hle.next,fun bq B=>?_⟩;simp only [J.cG,if_true,Option.some.injEq] at B;subst B;exact⟨by rw [p]; exact Nat.le_refl _,fun _=>.inr ⟨b,rfl,rfl⟩⟩
  ·-- a new array
   obtain⟨olds,aM,br⟩:=Da (P:=P) h1 ai;have bs:olds.length=rows.length*l.size:=by rw [<- aM.length,aj]
   have aP:∀b o,o<j.F b->w.drew.cell? ⟨b,o,none⟩=w.cell? ⟨b,o,none⟩:=fun _ _ _=>rfl;have bF:cC=140737488355328:=rfl;have C:=C_ (P:=P) (ty:=ty) (w:=w) (base:=ag) (sLen:=rows.length) (sCap:=cap) (m:=a_.length) (x:=a.eval y) (olds:=olds) (news:=news) ht hu W U a5 Z
    (by rw [I,<- X]; exact br w.drew aP) (by rw [I]; exact S w.drew aP) (by omega) (by omega) (growslice_fits (by omega) (by rw [a4]; exact a0))
   rw [<- X] at C;generalize bu:grownCap w (rows.length+a_.length) cap e=G at C;have aQ:rows.length+a_.length<=G:=by rw [<- bu]; exact grownCap_ge _ _ _ _
   generalize aw:olds++news++(Builtin.zeroCells zv.cells (G-(rows.length+a_.length))).toList=s at C;have bv:s.length=G*l.size:=by
    rw [<- aw];simp only [List.length_append,bs,aa,Array.length_toList,size_zeroCells,a7,<- Nat.add_mul]
    congr 1; omega
   have ax:=heap_alloc_new w.drew (.cells s.toArray e);have ad:∀o,(w.drew.alloc (.cells s.toArray e)).cell? ⟨w.heap.size,o,none⟩=s[o]?:=fun o=>by
    rw [cell_of_row _ w.heap.size o s.toArray e (0,0) ax]; simp
   obtain⟨ar,N⟩:=hl.drew.grow (w':=w.drew.alloc (.cells s.toArray e)) (m':=rows.length+a_.length) bt (by omega) (b:=w.heap.size) (cap:=G) ax (by simpa using bv) aQ
    (fun x hx bl=>rC bl) (by simp) (by simp) (.inl (Nat.le_refl _)) rfl rfl gb.rfl (fun T h=>(a1 T h).symm)
   refine⟨_,_,_,_,jl,ak _ _ C,.inl rfl, ?_,ar,Ext.refl _,(bM.drew j w _).trans N⟩;have hle:=((bM.drew j w (aU j H jl)).trans N).toLe;have:=vA (j:=j.cG tk ⟨some (w.heap.size,G),rows.length+a_.length⟩ w.heap.size ((rows.length+a_.length)*l.size)) (w:=w.drew.alloc (.cells s.toArray e)) (k:=l.size) (tok:=some tk) (rows:=rows++a_) (b:=w.heap.size)
    (o:=0) (cap:=G) Y (by rw [p]; exact hlen) (by rw [p]; exact aQ) (fun i x hx=>?_) (fun t' O=>?_) (fun _ _ _ _=>.cells ax)
   ·rw [p] at this; exact this
   ·have au:i<(rows++a_).flatten.length:=(List.getElem?_eq_some_iff.1 hx).1;rw [(g_ Y).1,p] at au;refine⟨by simp only [J.cG,if_true]; omega, ?_⟩;rw [Nat.zero_add,ad]
    revert i x hx
    have:=GX (R:=fun i x=>∃v,s[i]?=some v/\aF (j.cG tk ⟨some (w.heap.size,G),rows.length+a_.length⟩ w.heap.size ((rows.length+a_.length)*l.size)) (w.drew.alloc (.cells s.toArray e)) x v) aj (a_:=a_)
     (fun i x hx=>by
      obtain⟨v,hv,hr⟩:=aM.get hx;refine⟨v, ?_,hr.mono hle⟩;have hi:=(List.getElem?_eq_some_iff.1 hv).1;rw [<- aw,List.append_assoc,List.getElem?_append_left hi]; exact hv)
     (fun i x hx=>by
      obtain⟨v,hv,hr⟩:=Q.get hx;refine⟨v, ?_,hr.mono hle⟩;have hi:=(List.getElem?_eq_some_iff.1 hv).1;rw [<- aw,List.append_assoc,List.getElem?_append_right (by omega),show rows.length*l.size+i-olds.length=i by omega,List.getElem?_append_left hi]; exact hv)
    exact fun i x hx _=>this i x hx
   ·simp only [Option.some.injEq] at O;subst O;refine⟨Nat.lt_of_lt_of_le aD hle.next,fun bq B=>?_⟩;simp only [J.cG,if_true,Option.some.injEq] at B;subst B;exact⟨by rw [p]; exact Nat.le_refl _,fun _=>.inr ⟨w.heap.size,rfl,rfl⟩⟩
theorem aq.append {t u e:TypeId}{l f b:TI}{x y:Operand}{tk k k' m:Nat}{tok':Option Nat}{nl p:Bool}{rows a_:List (List D)}{z:A}(s:aX P t=some l) (hk:l.k=.slice e) (v:aX P e=some b) (B:aX P u=some f) (C:(∃e,f.k=.slice e)\/f.k=.str)
  (hz:b.zero=some z) (E:(ct z).length=b.size) (F:b.size≠0)
  (hx:ev ts x=.a (.d (.slice k (some tk) nl rows))) (G:ev ts y=.a (.d (.slice k' tok' p a_))) (H:k=b.size\/rows=[]) (I:k'=b.size\/a_=[])
  (bt:h tk=some (.tok b.size m)) (hm:m=rows.length) (J:(rows.length+a_.length)*b.bytes<=cC) (hlen:rows.length+a_.length<=cC) :
  aq P (mk dst (.call { callee:=.builtin .append,args:=#[x,y],argTypes:=#[t,u] }) ty pos aI g) ts ls h { rh:=true,wh:=true }
   (.a (.d (.slice b.size (some tk) (nl&&a_.isEmpty) (rows++a_)))) ls (h.set tk (some (.tok b.size (rows.length+a_.length)))) :=
 aq.N6 s hk v B C hz E F hx (fun j w jl cv hv=>by
  have q:aF j w (.slice k' tok' p a_) cv:=by rw [G] at hv; exact hv
  refine Src.slice q fun r hr=>?_;obtain⟨_,_,_,_,_,_,_,hh,_⟩:=p5 (jl:=jl) q;rcases I with e|e
  ·rw [<- e]; exact hh r hr
  ·rw [e] at hr; cases hr) H bt hm J hlen
end
end Go.Ab
/-
 Struct and slice literals,maps,parts of slices,comparisons of structs,tokens.
-/
namespace Go.Ab
open Go Go.RowKit
variable {av:bR}
theorem Db (off:Nat):∀(l:List Value) (k:Nat) (cs:Array Value),((l.zipIdx k).foldl (fun cs (p:Value×Nat)=>cs.setIfInBounds (off+p.2) p.1) cs).toList=cN cs.toList (off+k) l
 | [],_,_=>rfl
 | v::r,k,cs=>by
  simp only [List.zipIdx_cons,List.foldl_cons];rw [Db off r (k+1)];simp [cN,Nat.add_assoc]
def rI (ts:Ts):List (Nat×Operand)->Option (List (Nat×A))
 | []=>some []
 | (i,x)::r=>match Au ts x,rI ts r with
  | some y,some b=>some ((i,y)::b)
  | _,_=>none
theorem Aw {j:J}{w:World}{jl:List Nat}{ts:Ts}{act:Act}:∀(l:List (Nat×Operand)) (xs:List (Nat×A)),rI ts l=some xs->(∀x,x∈l.map (·.2)->bp j w jl (ev ts x) (act.eval x)) ->
  aQ (fun p q=>p.1=q.1/\dw j w p.2 q.2) xs (l.map fun p=>(p.1,act.eval p.2))
 | [],xs,h,_=>by simp [rI] at h; subst h; exact .nil
 | (i,x)::r,xs,h,b=>by
  simp only [rI] at h
  split at h
  ·rename_i y f h1 g
   simp at h; subst h;refine .cons ⟨rfl, ?_⟩ (Aw r f g fun z hz=>b z (by simp at hz ⊢; exact .inr hz));have:=b x (by simp);unfold Au at h1
   split at h1
   ·rename_i z hz; simp at h1; subst h1; rw [hz] at this; exact this
   ·simp at h1
  ·simp at h
def vB (T:List TI) (fs:List (Nat×TypeId)):List D->List (Nat×A)->Option (List D)
 | b,[]=>some b
 | b,(i,x)::r=>match fs[i]? with
  | some (o,g)=>match T[g]? with
   | some f=>match Nat.beq (ct x).length f.size&&Nat.ble (o+f.size) b.length with
    | true=>vB T fs (cN b o (ct x)) r
    | false=>none
   | none=>none
  | none=>none
section
variable {P:Program}{T:List TI}{ts:Ts}{ls:List (List D)}{h:af}{dst:Option Tmp}{ty:TypeId}{pos:String}{aI:Array Edge}{g:Option (Nat×Bool)}
theorem GZ {P:Program}{T:List TI}(fw:ng P T):∀(fs:List Field) (w:World),(∀f∈fs,∃b,T[f.type]?=some b) ->
  ∃ps:List (Nat×Nat),(fs.mapM fun(f:Field)=>Prod.mk f.offset <$> sizeOf f.type).run P w=.ok ps w/\∀(i:Nat) (f:Field),fs[i]?=some f->∀b:TI,T[f.type]?=some b->ps[i]?=some (f.offset,b.size)
 | [],w,_=>⟨[],by simp,by simp⟩
 | f::fs,w,j=>by
  obtain⟨b,k⟩:=j f (by simp);obtain⟨ps,h1,l⟩:=GZ fw fs w fun f m=>j f (by simp [m]);refine⟨(f.offset,b.size)::ps, ?_,fun i f' hi p g=>?_⟩
  ·rw [List.mapM_cons,Sem.run_bind,Sem.run_map,kg (fw _ _ k)];simp only [Result.andThen,Sem.run_bind,h1,Sem.run_pure]
  ·cases i with
   | zero=>simp at hi; subst hi; rw [k] at g; simp at g; subst g; rfl
   | succ i=>simp at hi ⊢; exact l i f' hi p g
theorem Dc {j:J}{w:World}{T:List TI}{fs:List (Nat×TypeId)}{place:Nat->Option (Nat×Nat)}(r:∀i o l g,fs[i]?=some (o,l)->T[l]?=some g->place i=some (o,g.size)) :
  ∀(parts:List (Nat×A)) (s:List (Nat×Value)) (f k:List D) (cs:Array Value),vB T fs f parts=some k->aQ (fun p q=>p.1=q.1/\dw j w p.2 q.2) parts s->aQ (aF j w) f cs.toList ->
  ∃m,Instr.fill place cs s=some m/\aQ (aF j w) k m.toList
 | _,_,f,k,cs,b,.nil,hz=>by simp [vB] at b; subst b; exact⟨cs,rfl,hz⟩
 | (i,x)::ps,(H,v)::u,f,k,cs,b,.cons ⟨e,hr⟩ ht,hz=>by
  dsimp only at e hr;subst e;simp only [vB] at b
  split at b
  ·rename_i o l y
   split at b
   ·rename_i g z
    split at b
    ·rename_i hc
     simp only [Bool.and_eq_true] at hc;have hl:=Nat.eq_of_beq_eq_true hc.1;have hle:=Nat.le_of_ble_eq_true hc.2;have B:=r i o l g y z;have t:=hr.cells;have C:v.cells.size=g.size:=by rw [<- hl,t.length]; simp
     have E:cs.size=f.length:=by rw [hz.length]; simp
     have F:aQ (aF j w) (cN f o (ct x)) (v.cells.zipIdx.foldl (fun cs (p:Value×Nat)=>cs.setIfInBounds (o+p.2) p.1) cs).toList:=by
      rw [<- Array.foldl_toList];have:=Db o v.cells.toList 0 cs;simp only [Array.toList_zipIdx];rw [this,Nat.add_zero];exact hz.cN o t
     obtain⟨m,h1,G⟩:=Dc r ps u _ k _ b ht F;refine⟨m, ?_,G⟩;rw [Instr.fill,B];dsimp only;rw [if_neg (by simp [C,E]; omega)];exact h1
    ·simp at b
   ·simp at b
  ·simp at b
theorem aq.build (fw:ng P T){t:TypeId}{b:TI}{fs:List (Nat×TypeId)}{l m:List D}{parts:Array (Nat×Operand)}{ps:List (Nat×A)}(u:T[t]?=some b) (hk:b.k=.struct fs) (hz:b.zero=some (.agg l))
  (v:fs.all (fun f=>(T[f.2]?).isSome)=true) (y:rI ts parts.toList=some ps) (z:vB T fs l ps=some m):aq P (mk dst (.build t parts) ty pos aI g) ts ls h {} (.a (.agg m)) ls h :=
 aq.dS fun j w jl a B=>by
  have hr:=Aw (j:=j) (w:=w) (jl:=jl) (act:=a) parts.toList ps y fun x hx=>B x (by simp [Op.operands] at hx ⊢; exact hx);have r:=fw t b u;obtain⟨inf,d,h1,_,_,_,_,s⟩:=gj r;rw [hz] at s;obtain⟨zv,C,E⟩:=nc s;obtain⟨gs,hu,he⟩:=C2 r hk;obtain⟨pl,F,G⟩:=GZ (P:=P) fw gs.toList w fun f H=>by
   have:=List.all_eq_true.1 v (f.offset,f.type) (by rw [<- he]; exact List.mem_map.2 ⟨f,H,rfl⟩);exact Option.isSome_iff_exists.1 this
  obtain⟨q,I,J⟩:=Dc (j:=j) (w:=w) (T:=T) (fs:=fs) (place:=(pl.toArray[·]?)) (fun i o N K hi L=>by
   rw [<- he,List.getElem?_map] at hi;cases e:gs.toList[i]? with
   | none=>rw [e] at hi; simp at hi
   | some f=>rw [e] at hi; simp at hi; obtain⟨rfl,rfl⟩:=hi; simpa using G i f e K L) ps _ l m zv.cells z hr (E j w).cells
  refine⟨.agg q, ?_,⟨q.toList,by simp,J⟩⟩;have M:(Instr.build t (parts.map fun(i,x)=>(i,a.eval x))).run P w=.ok (.agg q) w:=by
   simp only [Instr.build,Sem.run_bind,zeroValue,typeInfo,run_program,h1,C,Result.andThen,Sem.run_pure,eV hu];rw [Array.mapM_eq_mapM_toList,Sem.run_map];rw [show (List.mapM _ gs.toList:Sem (List (Nat×Nat)))=List.mapM (fun f=>Prod.mk f.offset <$> sizeOf f.type) gs.toList from by congr 1];rw [F];simp only [Result.andThen];have e:(Array.map (fun(x:Nat×Operand)=>(x.1,a.eval x.2)) parts).toList=parts.toList.map fun p=>(p.1,a.eval p.2):=by simp
   rw [e,I];simp
  simp only [execOp,Sem.run_bind,M,Result.andThen,Sem.run_pure]
def vC (n:Nat):List (List D)->List (Nat×A)->Option (List (List D))
 | rows,[]=>some rows
 | rows,(i,x)::r=>match Nat.beq (ct x).length n&&Nat.blt i rows.length with
  | true=>vC n (rows.set i (ct x)) r
  | false=>none
theorem G0 {n:Nat}:∀{rows:List (List D)}(_:∀r∈rows,r.length=n){i:Nat}(_:i<rows.length){r:List D}(_:r.length=n),(rows.set i r).flatten=cN rows.flatten (i*n) r
 | [],_,i,hi,_,_=>by simp at hi
 | b::rs,hk,i,hi,r,hr=>by
  have h0:b.length=n:=hk b (by simp);cases i with
  | zero =>
   simp only [List.set_cons_zero,List.flatten_cons,Nat.zero_mul]
   apply List.ext_getElem?
   intro k;by_cases g:k<n
   ·rw [List.getElem?_append_left (by omega)];have:=Av (b++rs.flatten) 0 r k (r[k]'(by omega)) (List.getElem?_eq_getElem (by omega)) (by simp; omega);rw [Nat.zero_add] at this;rw [this,List.getElem?_eq_getElem (by omega)]
   ·rw [List.getElem?_append_right (by omega)];have:∀(l:List D) (m:Nat) (s:List D) (k:Nat),m+s.length<=k->(cN l m s)[k]?=l[k]?:=by
     intro l m s;induction s generalizing l m with
     | nil=>intros; rfl
     | cons v s f=>intro k hk; simp at hk; rw [cN,f _ _ k (by omega),List.getElem?_set_ne (by omega)]
    rw [this _ _ _ _ (by omega),List.getElem?_append_right (by omega),h0,hr]
  | succ i =>
   simp only [List.set_cons_succ,List.flatten_cons];rw [G0 (fun x hx=>hk x (by simp [hx])) (by simpa using hi) hr];have:∀(p l:List D) (m:Nat) (s:List D),cN (p++l) (p.length+m) s=p++cN l m s:=by
    intro p l m s;induction s generalizing l m with
    | nil=>rfl
    | cons v s f=>rw [cN,cN,show (p++l).set (p.length+m) v=p++l.set m v by rw [List.set_append_right _ _ (by omega)]; simp,Nat.add_assoc,f]
   rw [<- this,h0,show (i+1)*n=n+i*n by rw [Nat.add_mul]; omega]
theorem G3 {j:J}{w:World}{n:Nat}:∀(parts:List (Nat×A)) (g:List (Nat×Value)) (rows a_:List (List D)) (cs:Array Value),vC n rows parts=some a_->(∀r∈rows,r.length=n) ->
  aQ (fun p q=>p.1=q.1/\dw j w p.2 q.2) parts g->aQ (aF j w) rows.flatten cs.toList ->
  ∃f,Instr.fill (fun i=>some (i*n,n)) cs g=some f/\aQ (aF j w) a_.flatten f.toList/\a_.length=rows.length/\∀r∈a_,r.length=n
 | _,_,rows,a_,cs,b,hk,.nil,hz=>by simp [vC] at b; subst b; exact⟨cs,rfl,hz,rfl,hk⟩
 | (i,x)::ps,(C,v)::l,rows,a_,cs,b,hk,.cons ⟨e,hr⟩ ht,hz=>by
  dsimp only at e hr;subst e;simp only [vC] at b
  split at b
  ·rename_i hc
   simp only [Bool.and_eq_true] at hc;have hl:=Nat.eq_of_beq_eq_true hc.1;have bl:i<rows.length:=by simpa [Nat.blt_eq] using hc.2
   have k:=hr.cells;have m:v.cells.size=n:=by rw [<- hl,k.length]; simp
   have s:cs.size=rows.length*n:=by rw [<- (g_ hk).1,hz.length]; simp
   have hle:i*n+n<=rows.length*n:=by rw [<- Nat.succ_mul]; exact Nat.mul_le_mul_right n bl
   have t:aQ (aF j w) (rows.set i (ct x)).flatten (v.cells.zipIdx.foldl (fun cs (p:Value×Nat)=>cs.setIfInBounds (i*n+p.2) p.1) cs).toList:=by
    rw [G0 hk bl hl,<- Array.foldl_toList];have:=Db (i*n) v.cells.toList 0 cs;simp only [Array.toList_zipIdx];rw [this,Nat.add_zero];exact hz.cN _ k
   have u:∀r∈rows.set i (ct x),r.length=n:=fun r hr=>by
    rcases List.mem_or_eq_of_mem_set hr with h|h
    ·exact hk r h
    ·rw [h]; exact hl
   obtain⟨f,h1,y,z,B⟩:=G3 ps l _ a_ _ b u ht t;refine⟨f, ?_,y,by rw [z]; simp,B⟩;rw [Instr.fill];dsimp only;rw [if_neg (by simp [m,s]; omega)];exact h1
  ·simp at b
theorem N7 {α:Type} [Inhabited α] (z:Array α) (len:Nat) (hz:z.size≠0):((Array.range (len*z.size)).map (fun i=>z[i % z.size]!)).toList=(List.replicate len z.toList).flatten:=by
 induction len with
 | zero=>simp
 | succ len b =>
  have h1:((Array.range ((len+1)*z.size)).map (fun i=>z[i % z.size]!)).toList=((Array.range (len*z.size)).map (fun i=>z[i % z.size]!)).toList++z.toList:=by
   simp only [Array.toList_map,Array.toList_range];rw [Nat.add_mul,Nat.one_mul,List.range_add,List.map_append,List.map_map]
   congr 1
   apply List.ext_getElem?
   intro k;by_cases hk:k<z.size
   ·simp only [List.getElem?_map,List.getElem?_range hk,Option.map_some,Function.comp];have e:(len*z.size+k) % z.size=k:=by rw [Nat.mul_comm,Nat.mul_add_mod,Nat.mod_eq_of_lt hk]
    rw [e]; simp [hk]
   ·rw [List.getElem?_eq_none (by simp; omega),List.getElem?_eq_none (by simp; omega)]
  rw [h1,b];rw [List.replicate_succ',List.flatten_append]; simp
end
end Go.Ab
/-
 Slice literals,maps,parts of slices,comparisons of structs,tokens.
-/
namespace Go.Ab
open Go Go.RowKit
variable {av:bR}
variable {fS:eT}
section
variable {P:Program}{T:List TI}{ts:Ts}{ls:List (List D)}{h:af}{dst:Option Tmp}{ty:TypeId}{pos:String}{aI:Array Edge}{g:Option (Nat×Bool)}
theorem aq.uf {t e:TypeId}{u l:TI}{z:A}{len:Nat}{parts:Array (Nat×Operand)}{ps:List (Nat×A)}{rows:List (List D)}(y:aX P t=some u) (hk:u.k=.slice e) (s:aX P e=some l)
  (hz:l.zero=some z) (O:Nat.beq (ct z).length l.size=true) (B:Nat.beq l.size 0=false) (hlen:Nat.ble (len*l.size) 16777216=true) (Q:rI ts parts.toList=some ps) (hr:vC l.size (List.replicate len (ct z)) ps=some rows) :
  aq P (mk dst (.buildSlice t len parts) ty pos aI g) ts ls h {} (.full l.size rows) ls h:=by
 refine aq.of_run fun L H _ _ j w jl a hl C=>?_;have R:=Aw (j:=j) (w:=w) (jl:=jl) (act:=a) parts.toList ps Q fun x hx=>C x (by simp [Op.operands] at hx ⊢; exact hx);obtain⟨al,am,S,_,an,ao,_,E⟩:=gj s;rw [hz] at E;obtain⟨zv,U,F⟩:=nc E;have G:(ct z).length=l.size:=Nat.eq_of_beq_eq_true O;have W:l.size≠0:=fun e=>by rw [e] at B; simp at B
 have X:len*l.size<=16777216:=Nat.le_of_ble_eq_true hlen;have Y:zv.cells.size=l.size:=by have:=(F j w).cells.length; rw [G] at this; simpa using this.symm
 have hzero:∀pre:Array Value,pre=(Array.range (len*l.size)).map (fun i=>zv.cells[i % zv.cells.size]!)->aQ (aF j w) (List.replicate len (ct z)).flatten pre.toList:=by
  intro pre I;rw [I,<- Y,N7 _ _ (by omega)];have:=(F j w).cells;clear hr I hlen X C;induction len with
  | zero=>exact .nil
  | succ n Z=>simp only [List.replicate_succ,List.flatten_cons]; exact this.append Z
 obtain⟨q,h1,aa,m,K⟩:=G3 (j:=j) (w:=w) ps _ _ rows _ hr (fun r hr=>by rw [List.eq_of_mem_replicate hr]; exact G) R (hzero _ rfl);simp only [List.length_replicate] at m;have ab:(Instr.buildSlice t len (parts.map fun(i,x)=>(i,a.eval x))).run P w=.ok (.slice (some ⟨w.heap.size,0,none⟩) len len) (w.alloc (.cells q e)):=by
  have ad:¬(16777216<len*l.size):=by omega
  have ae:(Array.map (fun(x:Nat×Operand)=>(x.1,a.eval x.2)) parts).toList=parts.toList.map fun p=>(p.1,a.eval p.2):=by simp
  rw [<- ae] at h1;by_cases h0:len*l.size=0
  ·have ag:len=0:=by
    rcases Nat.mul_eq_zero.1 h0 with e|e
    ·exact e
    ·exact absurd e W
   subst ag;simp only [Nat.zero_mul] at h1;have M:∀f:Nat->Value,Array.map f (Array.range 0)=#[]:=fun f=>by apply Array.ext'; simp
   simp only [M] at h1;simp [Instr.buildSlice,eV (kj y hk),kg s,newRow,M];simp at h1;rw [h1];simp
  ·simp [Instr.buildSlice,eV (kj y hk),kg s,ad,h0,zeroValue,typeInfo,S,U,newRow];simp at h1;rw [h1];simp
 have ap:=g_ K;obtain⟨ai,N⟩:=hl.data (.cells q e) (rows.length*l.size);refine⟨_,_,.slice (some ⟨w.heap.size,0,none⟩) len len,j.eG w.heap.size (rows.length*l.size),jl,by simp [execOp,ab],.inl rfl, ?_,ai,Ext.refl _,N⟩;have hm:=vA (j:=j.eG w.heap.size (rows.length*l.size)) (w:=w.alloc (.cells q e)) (k:=l.size) (tok:=none) (rows:=rows) (b:=w.heap.size) (o:=0) (cap:=len) K (by
  rw [m]; have:len*1<=len*l.size:=Nat.mul_le_mul_left _ (by omega);unfold cC; omega) (by omega) (fun i x hx=>?_) (fun t' aj=>by simp at aj) (fun _ _ _ _=>.cells (heap_alloc_new w _))
 ·rw [m] at hm; rw [m]; exact⟨hm,⟨w.heap.size,0,none⟩,by rw [m]⟩
 ·have ar:=(List.getElem?_eq_some_iff.1 hx).1;obtain⟨v,hv,ak⟩:=aa.get hx;refine⟨by simp only [J.eG,if_true]; omega,v, ?_,ak.mono N.toLe⟩;rw [cell_of_row _ w.heap.size _ q e (0,0) (heap_alloc_new w _),Nat.zero_add]
  simpa using hv
theorem aq.G4 {o:Oper}{fx:Fx}{v b:V}{aV:List (List D)}{h':af}(hc:aq P o ts ls h fx v aV h') (hv:∀j w jl cv,bp j w jl v cv->bp j w jl b cv):aq P o ts ls h fx b aV h':=by
 intro L H f hH j w jl a hl g K Q hk;exact hc L H f hH j w jl a hl g K Q fun u l k cv j' w' m ⟨p,q,r⟩ hr=>hk b l k cv j' w' m ⟨rfl,q,r⟩ (hv _ _ _ _ (p▸hr))
theorem aq.buildSlice {t e:TypeId}{f b:TI}{z:A}{len:Nat}{parts:Array (Nat×Operand)}{ps:List (Nat×A)}{rows:List (List D)}(j:aX P t=some f) (hk:f.k=.slice e) (l:aX P e=some b)
  (hz:b.zero=some z) (m:Nat.beq (ct z).length b.size=true) (p:Nat.beq b.size 0=false) (hlen:Nat.ble (len*b.size) 16777216=true) (q:rI ts parts.toList=some ps) (hr:vC b.size (List.replicate len (ct z)) ps=some rows) :
  aq P (mk dst (.buildSlice t len parts) ty pos aI g) ts ls h {} (.a (.d (.slice b.size none false rows))) ls h :=
 (aq.uf j hk l hz m p hlen q hr).G4 fun _ _ _ _ h=>h.1
theorem G5 {n:Nat}:∀{rows:List (List D)}(_:∀r∈rows,r.length=n) (k:Nat),(rows.take k).flatten=rows.flatten.take (k*n)
 | [],_,k=>by simp
 | r::rs,hk,0=>by simp
 | r::rs,hk,k+1=>by
  have hr:r.length=n:=hk r (by simp);rw [List.take_succ_cons,List.flatten_cons,G5 (fun x hx=>hk x (by simp [hx])),List.flatten_cons,show (k+1)*n=n+k*n by rw [Nat.add_mul]; omega];rw [show n+k*n=r.length+k*n by rw [hr],List.take_length_add_append]
theorem G6 {n:Nat}:∀{rows:List (List D)}(_:∀r∈rows,r.length=n) (k:Nat),(rows.drop k).flatten=rows.flatten.drop (k*n)
 | [],_,k=>by simp
 | r::rs,hk,0=>by simp
 | r::rs,hk,k+1=>by
  have hr:r.length=n:=hk r (by simp);rw [List.drop_succ_cons,G6 (fun x hx=>hk x (by simp [hx])),List.flatten_cons,show (k+1)*n=n+k*n by rw [Nat.add_mul]; omega];rw [show n+k*n=r.length+k*n by rw [hr],List.drop_length_add_append]
theorem N8 {j:J}{w:World}{k:Nat}{rows:List (List D)}{b:Addr}{f:Nat->Value}{cap:Nat}(hk:∀r∈rows,r.length=k) (hn:rows.length<=cC) (hc:rows.length<=cap)
  (bQ:tT j w b rows f) (hr:∀i (h:i<rows.flatten.length),aF j w rows.flatten[i] (f i)){l r:Nat}(hl:l<=r) (hh:r<=rows.length) :
  aF j w (.slice k none false ((rows.take r).drop l)) (.slice (some (if cap=l then b else b.add (l*k))) (r-l) (cap-l)):=by
 have hlen:((rows.take r).drop l).length=r-l:=by simp; omega
 have s:∀x∈(rows.take r).drop l,x.length=k:=fun x hx=>hk x (List.mem_of_mem_take (List.mem_of_mem_drop hx));have m:((rows.take r).drop l).flatten=(rows.flatten.take (r*k)).drop (l*k):=by
  rw [G6 (fun x hx=>hk x (List.mem_of_mem_take hx)),G5 hk]
 have y:r*k<=rows.flatten.length:=by rw [(g_ hk).1]; exact Nat.mul_le_mul_right k hh
 rw [<- hlen];by_cases g:cap=l
 ·rw [if_pos g];have hz:(rows.take r).drop l=[]:=List.eq_nil_of_length_eq_zero (by rw [hlen]; omega);rw [hz];exact aF.slice k none [] b (cap-l) f (by simp) (by simp) (by simp) ⟨.inl rfl,by simp⟩ (by simp) (fun t ht=>by simp at ht)
 ·by_cases p:rows=[]
  ·rw [if_neg g];have hz:(rows.take r).drop l=[]:=by rw [p]; simp
   rw [hz];exact aF.slice k none [] _ (cap-l) f (by simp) (by simp) (by simp) ⟨.inl rfl,by simp⟩ (by simp) (fun t ht=>by simp at ht)
  have u:b=⟨b.block,b.off,none⟩:=by have:=bQ.1.resolve_left p; cases b; simp at this; simp [this]
  rw [if_neg g,u,add_plain];refine vA s (by rw [hlen]; omega) (by rw [hlen]; omega) (fun i x hx=>?_) (fun t ht=>by simp at ht) (fun i v hi hv=>by
   rw [m,List.length_drop,List.length_take] at hi;have h:=bQ.2 (l*k+i) (by omega);rw [Nat.add_assoc] at hv ⊢;rw [h.2.1] at hv;obtain rfl:=Option.some.inj hv;exact h.2.2)
  rw [m,List.getElem?_drop,List.getElem?_take] at hx
  split at hx
  ·rename_i bl
   have hi:=(List.getElem?_eq_some_iff.1 hx).1;have h1:=bQ.2 (l*k+i) hi;refine⟨by have:=h1.1; omega,f (l*k+i),by rw [Nat.add_assoc]; exact h1.2.1, ?_⟩;have q:=hr (l*k+i) hi;rw [(List.getElem?_eq_some_iff.1 hx).2] at q; exact q
  ·simp at hx
theorem Ax {P:Program}{t e:TypeId}{b f:TI}(g:aX P t=some b) (hk:b.k=.slice e) (j:aX P e=some f){a:Option Addr}{len cap:Nat}{lo hi:Option Value}{w:World}{l r:Nat}
  (hl:(match lo with|some v=>Instr.sliceBound v r .sliceB|none=>pure 0).run P w=.ok l w) (hh:(match hi with|some v=>Instr.sliceBound v cap .sliceAcap|none=>pure len).run P w=.ok r w) :
  (Instr.sliceAt t (.slice a len cap) lo hi none).run P w=.ok (.slice (if cap=l then a else a.map (·.add (l*f.size))) (r-l) (cap-l)) w:=by
 simp only [Instr.sliceAt,Instr.slice,Instr.sliceBounds,Sem.run_bind,eV (kj g hk),Result.andThen,Sem.run_pure,kg j];cases lo<;>cases hi<;>simp_all
theorem aq.part {t e:TypeId}{B C:TI}{x:Operand}{lo hi:Option Operand}{k:Nat}{tok:Option Nat}{rows:List (List D)}{l r:Nat}(E:aX P t=some B) (hk:B.k=.slice e) (F:aX P e=some C)
  (hx:ev ts x=.a (.d (.slice k tok false rows))) (G:k=C.size)
  (p:match lo with|none=>l=0|some o=>∃m n,ev ts o=.a (.d (.int m n))/\0<=n/\l=n.toNat) (q:match hi with|none=>r=rows.length|some o=>∃m n,ev ts o=.a (.d (.int m n))/\0<=n/\r=n.toNat)
  (H:l<=r) (I:r<=rows.length):aq P (mk dst (.slice t x lo hi none) ty pos aI g) ts ls h {} (.a (.d (.slice k none false ((rows.take r).drop l)))) ls h :=
 aq.dS fun j w jl act s=>by
  have h1:=s x (by simp [Op.operands]);rw [hx] at h1;obtain⟨b,cap,J,hn,hc,K,S,L,M⟩:=p5 h1;cases b with
  | none=>simp at K
  | some b =>
   obtain⟨_,f,bQ,N⟩:=M b rfl;have O:(match lo.map act.eval with|some v=>Instr.sliceBound v r .sliceB|none=>pure 0).run P w=.ok l w:=by
    cases lo with
    | none=>simp at p ⊢; exact p.symm
    | some o =>
     obtain⟨m,n,u,y,z⟩:=p;have:=oA (P:=P) (cap:=r) u (s o (by simp [Op.operands])) y (by omega) .sliceB;simp only [Option.map_some]; rw [this,z]
   have Q:(match hi.map act.eval with|some v=>Instr.sliceBound v cap .sliceAcap|none=>pure rows.length).run P w=.ok r w:=by
    cases hi with
    | none=>simp at q ⊢; exact q.symm
    | some o =>
     obtain⟨m,n,u,y,z⟩:=q;have:=oA (P:=P) (cap:=cap) u (s o (by simp [Op.operands])) y (by omega) .sliceAcap;simp only [Option.map_some]; rw [this,z]
   refine⟨_, ?_,N8 L hn hc bQ N H I⟩;have:=Ax E hk F (a:=some b) (len:=rows.length) (cap:=cap) O Q;simp only [execOp,Sem.run_bind,J,Option.map_none,this,Result.andThen,Sem.run_pure,G];by_cases R:cap=l<;>simp [R]
def Dd:K->Bool
 | .str=>true
 | .bool=>true
 | .int _=>true
 | _=>false
def ug (P:Program):Nat->List Field->Option (List K)
 | _,[]=>some []
 | i,f::fs=>match P.underlying f.type with
  | some d=>if (f.name != "_"&&Nat.beq f.offset i&&Dd (eU d))=true then(ug P (i+1) fs).map (eU d::·) else none
  | none=>none
def Ay (P:Program) (t:TypeId):Option (List K) :=
 match P.underlying t with
 | some (.struct gs)=>if (!P.stoodInHeld t&&!P.eqGuardType P.depth t)=true then ug P 0 gs.toList else none
 | _=>none
def Yl:D->D->Bool
 | .int _ m,.int _ n=>decide (m=n)
 | .str s,.str t=>s==t
 | .bool a,.bool b=>a==b
 | _,_=>false
def De:K->D->D->Option Bool
 | .int k,.int f m,.int k2 n=>if f=k/\k2=k then some (decide (m=n)) else none
 | .str,.str s,.str t=>some (s==t)
 | .bool,.bool a,.bool b=>some (a==b)
 | _,_,_=>none
def oC:List K->List D->List D->Option Bool
 | [],[],[]=>some true
 | k::ks,x::xs,y::f=>match De k x y,oC ks xs f with
  | some a,some b=>some (a&&b)
  | _,_=>none
 | _,_,_=>none
theorem N9 {P:Program}{j:J}{w:World}(d:Nat){t:TypeId}{g:TypeDesc}(l:P.underlying t=some g){x y:D}{v u:Value}{b:Bool}(f:De (eU g) x y=some b) (hx:aF j w x v) (p:aF j w y u) :
  (Op.equalIn (d+1) t v u).run P w=.ok b w:=by
 unfold De at f
 split at f
 ·rename_i k q m k2 n hk
  cases hx; cases p
  split at f
  ·rename_i hc
   obtain⟨rfl,rfl⟩:=hc;simp only [Option.some.injEq] at f;subst f;cases g<;>simp [eU] at hk;subst hk;rw [run_equalIn_int w d t _ _ _ _ l]
   congr 1
  ·simp at f
 ·rename_i s r hk
  cases hx; cases p;simp only [Option.some.injEq] at f;subst f;have hu:P.underlying t=some .string:=by cases g<;>simp [eU] at hk; exact l
  rw [run_equalIn_string w d t _ _ hu];simp
 ·rename_i s r hk
  cases hx; cases p;simp only [Option.some.injEq] at f;subst f;have hu:P.underlying t=some .bool:=by cases g<;>simp [eU] at hk; exact l
  exact run_equalIn_bool w d t _ _ hu
 ·simp at f
theorem Oa {P:Program}{t:TypeId}{d:TypeDesc}(h:P.underlying t=some d) (b:Dd (eU d)=true) (w:World):(isAgg t).run P w=.ok false w:=by
 simp only [isAgg,Sem.run_bind,eV h,Result.andThen];cases d<;>simp_all [eU,Dd]
theorem G7 {P:Program}{j:J}{w:World}(d:Nat):∀(fs:List Field) (i:Nat) (ks:List K) (xs k:List D) (cs ds:List Value) (b:Bool),ug P i fs=some ks->oC ks xs k=some b ->
  aQ (aF j w) xs (cs.drop i)->aQ (aF j w) k (ds.drop i)->(Op.eqFields (d+1) cs.toArray ds.toArray fs).run P w=.ok b w
 | [],i,ks,xs,k,cs,ds,b,hk,g,h1,s=>by
  simp [ug] at hk; subst hk;cases xs with
  | nil=>cases k with
   | nil=>simp [oC] at g; subst g; simp [Op.eqFields]
   | cons _ _=>simp [oC] at g
  | cons _ _=>simp [oC] at g
 | f::fs,i,ks,xs,k,cs,ds,b,hk,g,h1,s=>by
  simp only [ug] at hk
  split at hk
  ·rename_i ag t
   split at hk
   ·rename_i hc
    simp only [Bool.and_eq_true,bne_iff_ne,ne_eq] at hc;obtain⟨⟨hn,F⟩,G⟩:=hc;have H:f.offset=i:=Nat.eq_of_beq_eq_true F;cases hr:ug P (i+1) fs with
    | none=>rw [hr] at hk; simp at hk
    | some B =>
     rw [hr] at hk; simp at hk; subst hk;have C:∀(l:List Value) (v:Value),l[i]?=some v->(part f.type l.toArray f.offset).run P w=.ok v w:=fun l v hv=>by
      simp [part,Oa t G,H,hv]
     have E:∀(l:List Value) (v:Value) (r:List Value),l.drop i=v::r->l[i]?=some v/\l.drop (i+1)=r:=fun l v r he=>by
      constructor
      ·have:=congrArg (fun z=>z[0]?) he; simpa using this
      ·have:=congrArg (List.drop 1) he; simpa using this
     have I:∀(v u:Value) (c1 c2:Bool) (q dr:List Value) (m p:List D),cs.drop i=v::q->ds.drop i=u::dr->(Op.equalIn (d+1) f.type v u).run P w=.ok c1 w->oC B m p=some c2 ->
       aQ (aF j w) m q->aQ (aF j w) p dr->(Op.eqFields (d+1) cs.toArray ds.toArray (f::fs)).run P w=.ok (c1&&c2) w:=by
      intro v u c1 c2 q dr m p L M he N O Q;obtain⟨g1,g2⟩:=E cs v q L;obtain⟨g3,g4⟩:=E ds u dr M;have R:=G7 (P:=P) (j:=j) (w:=w) d fs (i+1) B m p cs ds c2 hr N (by rw [g2]; exact O) (by rw [g4]; exact Q);simp only [Op.eqFields,if_pos hn,Sem.run_bind,C cs v g1,C ds u g3,he,Result.andThen];cases c1
      ·simp
      ·simpa using R
     cases xs with
     | nil=>simp [oC] at g
     | cons x m =>
      cases k with
      | nil=>simp [oC] at g
      | cons y p =>
       generalize S:cs.drop i=c1 at h1;generalize U:ds.drop i=c2 at s;cases h1 with
       | cons W X =>
        cases s with
        | cons Y Z =>
         simp only [oC] at g
         split at g
         ·rename_i aa ab ad ae
          simp only [Option.some.injEq] at g;subst g;exact I _ _ aa ab _ _ _ _ S U (N9 d t ad W Y) ae X Z
         ·simp at g
   ·simp at hk
  ·simp at hk
theorem Ob {P:Program}{t:TypeId}{ks:List K}(h:Ay P t=some ks):P.underlying t=some (.struct (P.fieldsOf t))/\P.stoodInHeld t=false/\P.eqGuardType P.depth t=false/\ug P 0 (P.fieldsOf t).toList=some ks:=by
 unfold Ay at h
 split at h
 ·rename_i gs hu
  split at h
  ·rename_i hc
   simp only [Bool.and_eq_true,Bool.not_eq_true'] at hc;have:P.fieldsOf t=gs:=by simp [Program.fieldsOf,hu]
   rw [this];exact⟨hu,hc.1,hc.2,h⟩
  ·simp at h
 ·simp at h
theorem aq.Oc {op:BinOp}{t u:TypeId}{x y:Operand}{xs f:List D}{ks:List K}{b:Bool}(m:Ay P t=some ks) (hx:ev ts x=.a (.agg xs)) (p:ev ts y=.a (.agg f)) (q:oC ks xs f=some b) (r:op=.neq) :
  aq P (mk dst (.binOp op t x y u) ty pos aI g) ts ls h {} (.a (.d (.bool (!b)))) ls h :=
 aq.dS fun j w jl a k=>by
  subst r;obtain⟨hu,s,hg,v⟩:=Ob m;have h1:=k x (by simp [Op.operands]);have l:=k y (by simp [Op.operands]);rw [hx] at h1; rw [p] at l;obtain⟨cs,z,B⟩:=h1;obtain⟨ds,C,E⟩:=l;have F:=G7 (P:=P) (j:=j) (w:=w) 9998 (P.fieldsOf t).toList 0 ks xs f cs ds b v q (by simpa using B) (by simpa using E);refine⟨_, ?_,aF.bool _⟩;simp only [execOp,Sem.run_bind,z,C,run_eqGuard_agg w .neq t x y _ _ hg,Result.andThen,run_neq_struct,run_equalIn_struct w 9999 t _ _ hu s,F,Sem.run_pure]
theorem aq.field {t:TypeId}{r b:TI}{fs:List (Nat×TypeId)}{x:Operand}{f o:Nat}{p:TypeId}{xs:List D}{v:A}(C:aX P t=some r) (hk:r.k=.struct fs) (l:fs[f]?=some (o,p)) (q:aX P p=some b) (s:b.k.tX=false)
  (hx:ev ts x=.a (.agg xs)) (hv:(match xS b.k with|true=>some (A.agg ((xs.drop o).take b.size))|false=>(xs[o]?).map A.d)=some v):aq P (mk dst (.field t x f) ty pos aI g) ts ls h {} (.a v) ls h :=
 aq.dS fun j w jl a E=>by
  have h1:=E x (by simp [Op.operands]);rw [hx] at h1;obtain⟨cs,u,y⟩:=h1;obtain⟨gs,hu,he⟩:=C2 C hk;have hg:∃fd:Field,gs[f]?=some fd/\fd.offset=o/\fd.type=p:=by
   rw [<- he,List.getElem?_map] at l;cases e:gs.toList[f]? with
   | none=>rw [e] at l; simp at l
   | some fd=>rw [e] at l; simp at l; exact⟨fd,by simpa using e,l.1,l.2⟩
  obtain⟨fd,h1,z,B⟩:=hg;cases m:xS b.k with
  | true =>
   rw [m] at hv; simp at hv; subst hv;refine⟨.agg (cs.toArray.extract o (o+b.size)), ?_,⟨(cs.drop o).take b.size, ?_,(y.drop o).take b.size⟩⟩
   ·simp [execOp,Instr.field,eV hu,h1,Go.part,z,B,CX q (K.tY s),m,kg q,asAgg,u]
   ·congr 1; apply Array.ext'; simp [List.drop_take]
  | false =>
   rw [m] at hv;simp only [Option.map_eq_some_iff] at hv;obtain⟨d,F,rfl⟩:=hv;obtain⟨cv,G,hr⟩:=y.get F;refine⟨cv, ?_,hr⟩;simp [execOp,Instr.field,eV hu,h1,Go.part,z,B,CX q (K.tY s),m,asAgg,u,G]
end
end Go.Ab
/-
 Maps with plain keys.
-/
namespace Go.Ab
open Go Go.RowKit
variable {av:bR}
def vD:D->D->Option Bool
 | .str s,.str t=>some (s==t)
 | .int k m,.int k' n=>if k=k' then some (decide (m=n)) else none
 | .bool a,.bool b=>some (a==b)
 | _,_=>none
def p7 (key:D):List (D×A)->Option (Option A)
 | []=>some none
 | (k,v)::r=>match vD key k with
  | some true=>some (some v)
  | some false=>p7 key r
  | none=>none
def uh (key:D) (v:A):List (D×A)->Option (List (D×A))
 | []=>some [(key,v)]
 | (k,u)::r=>match vD key k with
  | some true=>some ((key,v)::r)
  | some false=>(uh key v r).map ((k,u)::·)
  | none=>none
def ji:K->D->Bool
 | .str,.str _=>true
 | .int _,.int _ _=>true
 | .bool,.bool _=>true
 | _,_=>false
theorem bytes_beq (a b:List UInt8):((⟨a.toArray⟩:ByteArray)==⟨b.toArray⟩)=(a==b):=by
 rw [beq_toListBytes]; simp
theorem ya {j:J}{w:World}{d:TypeDesc}{key k:D}{g v:Value}{b:Bool}(f:ji (eU d) key=true) (hk:aF j w key g) (hv:aF j w k v) (he:vD key k=some b):Instr.sameNow d g v=some b:=by
 unfold vD at he
 split at he
 ·cases hk; cases hv;simp only [Option.some.injEq] at he; subst he;cases d<;>simp [ji,eU] at f;simp only [Instr.sameNow,bytes_beq]
 ·cases hk; cases hv
  split at he
  ·rename_i e; subst e
   simp only [Option.some.injEq] at he; subst he;cases d<;>simp [ji,eU] at f;simp only [Instr.sameNow,if_true]; rfl
  ·simp at he
 ·cases hk; cases hv;simp only [Option.some.injEq] at he; subst he;cases d<;>simp [ji,eU] at f;simp only [Instr.sameNow]
 ·simp at he
theorem Od {j:J}{w:World}{d:TypeDesc}{key:D}{f:Value}(p:ji (eU d) key=true) (hk:aF j w key f){es:List (D×A)}{g:List MapEntry}(h:aQ (k7 j w) es g):∀(n:Nat) (r:Option A),p7 key es=some r ->
  match r with
  | none=>Instr.findNow d f g n=some none
  | some v=>∃i cv,Instr.findNow d f g n=some (some (n+i,cv))/\dw j w v cv/\∃m,g[i]?=some m/\m.val=cv/\Instr.sameNow d f m.key=some true:=by
 induction h with
 | nil=>intro n r hr; simp [p7] at hr; subst hr; rfl
 | cons hh ht q =>
  rename_i e m l B
  intro n r hr;obtain⟨k,u⟩:=e;simp only [p7] at hr
  split at hr
  ·rename_i he
   simp at hr; subst hr;have b:=ya p hk hh.1 he;exact⟨0,m.val,by simp [Instr.findNow,b],hh.2,m,rfl,rfl,b⟩
  ·rename_i he
   have b:=ya p hk hh.1 he;have:=q (n+1) r hr;cases r with
   | none=>simp only [Instr.findNow,b]; exact this
   | some v =>
    obtain⟨i,cv,h1,s,m',t,y,z⟩:=this;exact⟨i+1,cv,by simp only [Instr.findNow,b]; rw [h1,show n+1+i=n+(i+1) by omega],s,m',by simpa using t,y,z⟩
  ·simp at hr
theorem Oe {j:J}{w:World}{d:TypeDesc}{key:D}{b:Value}{v:A}{cv:Value}(s:ji (eU d) key=true) (hk:aF j w key b) (hv:dw j w v cv){es:List (D×A)}{f:List MapEntry}(h:aQ (k7 j w) es f):∀(n bC:Nat) (g:List (D×A)),uh key v es=some g ->
  (Instr.findNow d b f n=some none/\aQ (k7 j w) g (f++[{ key:=b,val:=cv,born:=bC }])) \/
  (∃i u m,Instr.findNow d b f n=some (some (n+i,u))/\f[i]?=some m/\Instr.sameNow d b m.key=some true/\aQ (k7 j w) g (f.set i { m with key:=b,val:=cv })):=by
 induction h with
 | nil=>intro n bC g he; simp [uh] at he; subst he; exact .inl ⟨rfl,.cons ⟨hk,hv⟩ .nil⟩
 | cons hh ht t =>
  rename_i e m l B
  intro n bC g he;obtain⟨k,u⟩:=e;simp only [uh] at he
  split at he
  ·rename_i hq
   simp at he; subst he;have p:=ya s hk hh.1 hq;exact .inr ⟨0,m.val,m,by simp [Instr.findNow,p],rfl,p,.cons ⟨hk,hv⟩ ht⟩
  ·rename_i hq
   have p:=ya s hk hh.1 hq;simp only [Option.map_eq_some_iff] at he;obtain⟨r,hr,rfl⟩:=he;rcases t (n+1) bC r hr with ⟨h1,q⟩|⟨i,u',m',h1,q,y,z⟩
   ·exact .inl ⟨by simp only [Instr.findNow,p]; exact h1,.cons hh q⟩
   ·exact .inr ⟨i+1,u',m',by simp only [Instr.findNow,p]; rw [h1,show n+1+i=n+(i+1) by omega],by simpa using q,y,.cons hh z⟩
  ·simp at he
theorem uj {P:Program}{t:TypeId}{f:TI}{k e:TypeId}(g:aX P t=some f) (hk:f.k=.map k e):P.underlying t=some (.map k e):=by
 obtain⟨i,d,h1,j,_,_,b,_⟩:=gj g;rw [hk] at b;cases d<;>simp [eU] at b;obtain⟨rfl,rfl⟩:=b; exact j
theorem yb {P:Program}{b:Bool}{n:Nat}{t:TypeId}{d:TypeDesc}{x:D}{v:Value}{j:J}{w0 w:World}(hu:P.underlying t=some d) (f:ji (eU d) x=true) (hx:aF j w0 x v):(Instr.checkKey b (n+1) t v).run P w=.ok () w:=by
 cases hx<;>cases d<;>simp [ji,eU] at f<;>simp [Instr.checkKey,eV hu]
section
variable {P:Program}{ts:Ts}{ls:List (List D)}{h:af}{dst:Option Tmp}{ty:TypeId}{pos:String}{aI:Array Edge}{g:Option (Nat×Bool)}
theorem Of {a b:ByteArray}(h:(a==b)=true):a=b:=by
 obtain⟨⟨x⟩⟩:=a;obtain⟨⟨y⟩⟩:=b;have h':=bytes_beq x y;have f:(x==y)=true:=by rw [<- h']; exact h
 rw [eq_of_beq f]
theorem Og (a:ByteArray):(a==a)=true:=by
 obtain⟨⟨x⟩⟩:=a;have h':=bytes_beq x x;rw [show ((⟨⟨x⟩⟩:ByteArray)==⟨⟨x⟩⟩)=(x==x) from h'];simp
theorem Oh {d:TypeDesc}{v:Value}:Instr.sameNow d v v≠some false:=by
 cases d<;>cases v<;>simp [Instr.sameNow,Og]
theorem Oi {d:TypeDesc}{a b:Value}(h:Instr.sameNow d a b=some true):a=b:=by
 unfold Instr.sameNow at h
 split at h
 ·split at h
  ·rename_i e; subst e; simp at h; rw [h]
  ·simp at h
 ·exact congrArg Value.string (Of (Option.some.inj h))
 ·simp at h; rw [h]
 ·simp at h
theorem G8 {d:TypeDesc}{v:Value}:∀{b:List MapEntry}{n:Nat},Instr.findNow d v b n=some none->∀m∈b,m.key≠v
 | [],_,_=>fun _ h=>by cases h
 | x::b,n,h=>fun m hm e=>by
  rw [Instr.findNow] at h
  split at h
  ·simp at h
  ·rename_i h1
   rcases List.mem_cons.1 hm with rfl|hm
   ·rw [e] at h1; exact Oh h1
   ·exact G8 h m hm e
  ·simp at h
theorem mY.push {g:List MapEntry}{bC:Nat}(h:mY g bC){k:Value}(hk:∀m∈g,m.key≠k) (v:Value):mY (g++[⟨k,v,bC⟩]) (bC+1):=by
 refine⟨?_,fun m hm=>?_, ?_⟩
 ·rw [List.map_append,List.nodup_append];refine⟨h.1,by simp,fun a j b f e=>?_⟩;obtain⟨m,hm,rfl⟩:=List.mem_map.1 j;simp only [List.map_cons,List.map_nil,List.mem_singleton] at f;have:=h.2.1 m hm;omega
 ·rcases List.mem_append.1 hm with hm|hm
  ·have:=h.2.1 m hm; omega
  ·rw [List.mem_singleton.1 hm]; exact Nat.lt_succ_self _
 ·rw [List.map_append,List.nodup_append];refine⟨h.2.2,by simp,fun a j b f e=>?_⟩;obtain⟨m,hm,rfl⟩:=List.mem_map.1 j;simp only [List.map_cons,List.map_nil,List.mem_singleton] at f;exact hk m hm (e.trans f)
theorem G9 {β:Type}{f:MapEntry->β}{b:List MapEntry}{i:Nat}{m m':MapEntry}(hm:b[i]?=some m) (g:f m'=f m):(b.set i m').map f=b.map f:=by
 refine List.ext_getElem? fun n=>?_;rw [List.getElem?_map,List.getElem?_map,List.getElem?_set];by_cases hn:i=n
 ·subst hn;obtain⟨bl,j⟩:=List.getElem?_eq_some_iff.1 hm;simp [bl,j,g]
 ·simp [hn]
theorem mY.set {b:List MapEntry}{bC i:Nat}{m:MapEntry}(h:mY b bC) (hm:b[i]?=some m){k v:Value}(hk:k=m.key):mY (b.set i { m with key:=k,val:=v }) bC:=by
 have e:=G9 (f:=(·.born)) (m':={ m with key:=k,val:=v }) hm rfl;refine⟨by rw [e]; exact h.1,fun x hx=>?_,by rw [G9 (f:=(·.key)) hm hk]; exact h.2.2⟩;have:x.born∈b.map (·.born):=by rw [<- e]; exact List.mem_map_of_mem hx
 obtain⟨y,g,j⟩:=List.mem_map.1 this;rw [<- j]; exact h.2.1 y g
def MapAt (j:J) (w:World) (id b:Nat) (es:List (D×A)):Prop:=∃(c:Nat) (f:List MapEntry) (bC:Nat),j.tok id=some ⟨some (b,c),1⟩/\w.heap[b]?=some (.map f.toArray bC)/\aQ (k7 j w) es f/\j.F b=0/\mY f bC
theorem Az {j:J}{w:World}{jl:List Nat}{id:Nat}{es:List (D×A)}{cv:Value}(g:iC j w id (.map es)) (h:bp j w jl (.a (.d (.map id))) cv):∃b,cv=.map (some b)/\MapAt j w id b es:=by
 have h':aF j w (.map id) cv:=h;obtain⟨b,c,k,bC,h1,l,m,p,q⟩:=g;cases h' with
 | map _ b' hi hv =>
  obtain⟨_,r⟩:=hv _ h1;obtain⟨c',f⟩:=r rfl;simp only [Option.some.injEq,Prod.mk.injEq] at f;obtain⟨rfl,rfl⟩:=f;exact⟨b,rfl,c,k,bC,h1,l,m,p,q⟩
theorem vE {P:Program}{w:World}{b:Nat}{f:Array MapEntry}{bC:Nat}(h:w.heap[b]?=some (.map f bC)):(getObj b).run P w=.ok (.map f bC) w:=by
 simp [getObj,Sem.run,h]
theorem G_ {t m p:TypeId}{q s:TI}{j:J}{w:World}{id:Nat}{es:List (D×A)}{key:D}{u:Value}{r:Option A}{ok:Bool}(y:aX P t=some q) (hk:q.k=.map m p) (B:aX P m=some s) (f:ji s.k key=true)
  {b:Nat}(hm:MapAt j w id b es) (l:aF j w key u) (C:p7 key es=some r){zv:Value}(hz:r=none->(zeroValue p).run P w=.ok zv w) :
  ∃cv,(Instr.lookup t (.map (some b)) u ok).run P w=.ok (if ok then .tuple #[cv,.bool r.isSome] else cv) w/\match r with|none=>cv=zv|some v=>dw j w v cv:=by
 obtain⟨_,H,bC,_,hg,E,_⟩:=hm;obtain⟨I,K,_,g,_,_,F,_⟩:=gj B;rw [<- F] at f;have z:=Od f l E 0 r C;cases r with
 | none =>
  refine⟨zv, ?_,rfl⟩;simp [Instr.lookup,eV (uj y hk),vE hg,yb g f l,Instr.findKey,eV g,z,hz rfl]
 | some v =>
  obtain⟨i,cv,h1,G,_⟩:=z;refine⟨cv, ?_,G⟩;simp [Instr.lookup,eV (uj y hk),vE hg,yb g f l,Instr.findKey,eV g,h1]
theorem aq.Oj {t f r:TypeId}{l m:TI}{x y:Operand}{id:Nat}{es:List (D×A)}{key:D}{v:A}(s:aX P t=some l) (hk:l.k=.map f r) (u:aX P f=some m) (hx:ev ts x=.a (.d (.map id))) (z:ev ts y=.a (.d key))
  (B:ji m.k key=true) (hm:h id=some (.map es)) (C:p7 key es=some (some v)):aq P (mk dst (.lookup t x y false) ty pos aI g) ts ls h { rh:=true } (.a v) ls h :=
 oz.rH ⟨rfl,rfl,fun L H _ hH j w jl a hl p=>by
  have h1:=p x (by simp [Op.operands]);have q:=p y (by simp [Op.operands]);rw [hx] at h1; rw [z] at q;rw [hH rfl] at hl;obtain⟨b,E,F⟩:=Az (hl.1.obj id _ hm).2 h1;obtain⟨cv,G,I⟩:=G_ (ok:=false) s hk u B F q C (zv:=undef) (by simp);exact⟨cv,by simp only [execOp,Sem.run_bind,E,G,Result.andThen,Sem.run_pure]; rfl,I⟩⟩
theorem aq.Ol {t f l:TypeId}{m p q:TI}{x y:Operand}{id:Nat}{es:List (D×A)}{key:D}{z:A}(B:aX P t=some m) (hk:m.k=.map f l) (C:aX P f=some p) (E:aX P l=some q) (hz:q.zero=some z)
  (hx:ev ts x=.a (.d (.map id))) (F:ev ts y=.a (.d key)) (G:ji p.k key=true) (hm:h id=some (.map es)) (I:p7 key es=some none):aq P (mk dst (.lookup t x y false) ty pos aI g) ts ls h { rh:=true } (.a z) ls h :=
 oz.rH ⟨rfl,rfl,fun L H _ hH j w jl a hl r=>by
  have h1:=r x (by simp [Op.operands]);have s:=r y (by simp [Op.operands]);rw [hx] at h1; rw [F] at s;rw [hH rfl] at hl;obtain⟨R,S,J,_,U,W,_,u⟩:=gj E;rw [hz] at u;obtain⟨zv,K,M⟩:=nc u;obtain⟨b,N,O⟩:=Az (hl.1.obj id _ hm).2 h1;obtain⟨cv,Q,v⟩:=G_ (ok:=false) B hk C G O s I (zv:=zv) (fun _=>by simp [zeroValue,typeInfo,J,K]);dsimp only at v
  subst v;exact⟨cv,by simp only [execOp,Sem.run_bind,N,Q,Result.andThen,Sem.run_pure]; rfl,M j w⟩⟩
theorem dx.makeMap {t:TypeId}:dx P (mk dst (.makeMap t none) ty pos aI g) ts ls h fun v aV h'=>∃id,h id=none/\v=.a (.d (.map id))/\aV=ls/\h'=h.set id (some (.map [])):=by
 intro j w jl a hl m K Q hk;have hr:(execOp a.eval (mk dst (.makeMap t none) ty pos aI g)).run P w=.ok (.value (.map (some w.heap.size))) (w.alloc (.map #[] 0)):=by simp [execOp,Instr.makeMap]
 obtain⟨h1,b⟩:=hl.eb 0;obtain⟨f,k,l⟩:=h1.Nx (af.aS _ _ _);unfold Oper.wp;rw [hr,Oper.upon_value];exact hk _ _ _ _ _ _ jl ⟨j.next,hl.1.lV (Nat.le_refl _),rfl,rfl,(af.set_set _ _ _ _)⟩ l f (Ext.refl _) (b.trans k)
theorem Om {d:TypeDesc}{a b:Value}(h:Instr.sameNow d a b=some true):Instr.sameBits 10000 b a=true:=by
 unfold Instr.sameNow at h
 split at h
 ·split at h
  ·rename_i e; subst e; simp at h; subst h; simp [Instr.sameBits]
  ·simp at h
 ·simp only [Option.some.injEq] at h;rw [beq_toListBytes] at h;simp only [Instr.sameBits,beq_toListBytes];simp at h ⊢; exact h.symm
 ·simp at h; subst h; simp [Instr.sameBits]
 ·simp at h
theorem gK.setObj {w:World}{b:Nat}{o o':Go.Obj}(h:w.heap[b]?=some o):gK w { w with heap:=w.heap.setIfInBounds b o' } b o':=by
 have bl:=jB h;refine⟨by simp,by simp [bl],fun x hx=>?_,rfl,rfl,gb.rfl⟩;simp [Array.getElem?_setIfInBounds,Ne.symm hx]
theorem aq.mapUpdate {t M U:TypeId}{N O:TI}{x y z:Operand}{id:Nat}{es l:List (D×A)}{key:D}{v:A}(Q:aX P t=some N) (hk:N.k=.map M U) (W:aX P M=some O) (hx:ev ts x=.a (.d (.map id))) (X:ev ts y=.a (.d key)) (hz:ev ts z=.a v)
  (B:ji O.k key=true) (hm:h id=some (.map es)) (hu:uh key v es=some l) (ak:dst=none):aq P (mk dst (.mapUpdate t x y z) ty pos aI g) ts ls h { rh:=true,wh:=true } .any ls (h.set id (some (.map l))):=by
 refine aq.of_run fun L H _ hH j w jl a hl I=>?_;have Y:=hH rfl;subst Y;have h1:=I x (by simp [Op.operands]);have C:=I y (by simp [Op.operands]);have R:=I z (by simp [Op.operands]);rw [hx] at h1; rw [X] at C; rw [hz] at R;obtain⟨b,e,c,al,bC,bt,hg,Z,J,hB⟩:=Az (hl.1.obj id _ hm).2 h1;obtain⟨am,an,_,E,_,_,aa,_⟩:=gj W;rw [<- aa] at B;have S:∀(p:List MapEntry) (q:Nat),aQ (k7 j w) l p->mY p q->(Instr.mapUpdate t (.map (some b)) (a.eval y) (a.eval z)).run P w=.ok () { w with heap:=w.heap.setIfInBounds b (.map p.toArray q) } ->
   ∃r w' cv j' F,(execOp a.eval (mk dst (.mapUpdate t x y z) ty pos aI g)).run P w=.ok r w'/\(r=.value cv\/(r=.skip/\cv=undef))/\bp j' w' F .any cv/\HL j' w' F L (H.set id (some (.map l)))/\Ext jl F /\
    bM j w (aU j H jl) j' w' (aU j' (H.set id (some (.map l))) F):=by
  intro p q ab ad ae;have K:=gK.setObj (av:=av) (o':=.map p.toArray q) hg;have hle:=K.le (j:=j) J;obtain⟨f,G⟩:=hl.setObj (o':=.map l) hm (by simp [bJ,bt]) (by simp [bJ,bt]) J K ⟨b,c,p,q,bt,K.here,ab.imp fun _ _ h=>h.mono hle,J,ad⟩;refine⟨.skip,_,undef,j,jl, ?_,.inr ⟨rfl,rfl⟩,trivial,f,Ext.refl _,G⟩;simp only [execOp,e,Sem.run_bind,ae,Result.andThen,Sem.run_pure]
 rcases Oe B C R Z 0 bC l hu with ⟨s,f⟩|⟨i,u,m,s,f,G,ag⟩
 ·refine S _ (bC+1) f (hB.push (G8 s) _) ?_;simp [Instr.mapUpdate,eV (uj Q hk),vE hg,yb E B C,Instr.findKey,eV E,s,setObj,Sem.run,hg]
 ·refine S _ bC ag (hB.set f (Oi G)) ?_;have ai:=Om G;rw [Nat.zero_add] at s;simp [Instr.mapUpdate,eV (uj Q hk),vE hg,yb E B C,Instr.findKey,eV E,s,f,Instr.keyThatStays,ai,setObj,Sem.run,hg]
  congr 2
  apply Array.ext'
  simp
  apply List.ext_getElem?
  intro n;simp only [List.getElem?_modify,List.getElem?_set];by_cases hn:i=n
  ·subst hn;have bl:=(List.getElem?_eq_some_iff.1 f).1;have aj:=(List.getElem?_eq_some_iff.1 f).2;simp [bl,aj]
  ·simp [hn]
end
end Go.Ab
