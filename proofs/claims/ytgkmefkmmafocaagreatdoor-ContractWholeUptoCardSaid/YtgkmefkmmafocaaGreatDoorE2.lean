import Derived.Test.YtgkmefkmmafocaaGreatDoorE1
import Derived.Laws.Tables
import Derived.Lib.Strings
import Derived.Laws.Slices
import Derived.Laws.Concat
import Derived.Laws.StructEq
set_option maxRecDepth 100000
set_option maxHeartbeats 2000000
set_option linter.unusedVariables false
set_option linter.unusedSimpArgs false
/-
 Code,calls and results over abstract states.
-/
namespace Go.Ab
open Go Go.RowKit
variable {ax:bK}
variable {fM:eN}
inductive K where
 | bool|int (k:IntKind)|str|ptr (e:TypeId)|slice (e:TypeId)|map (k e:TypeId)|struct (fs:List (Nat×TypeId))|func|iface|other
 deriving DecidableEq
def fo:TypeDesc->K
 | .bool=>.bool
 | .int k=>.int k
 | .string=>.str
 | .pointer e=>.ptr e
 | .slice e=>.slice e
 | .map k e=>.map k e
 | .struct fs=>.struct (fs.toList.map fun f=>(f.offset,f.type))
 | .func _ _ _=>.func
 | .interface _=>.iface
 | _=>.other
structure TI where
 k:K
 size:Nat
 bytes:Nat
 zero:Option A
def sA:List Value->Option (List D)
 | []=>some []
 | v::r=>match su v,sA r with
  | some x,some xs=>some (x::xs)
  | _,_=>none
def uM:Option Value->Option A
 | some (.agg cs)=>(sA cs.toList).map .agg
 | some v=>(su v).map .d
 | none=>none
def ED (P:Program):Nat->TypeId->List TypeId
 | 0,t=>[t]
 | n+1,t=>match P.underlying t with
  | some (.struct fs)=>fs.toList.flatMap fun f=>ED P n f.type
  | _=>[t]
def wN (P:Program) (t:TypeId):D->D
 | .slice k tok true []=>match P.underlying t with
  | some (.slice e)=>.slice (P.cellsOf e) tok true []
  | _=>.slice k tok true []
 | x=>x
def zy (P:Program):List TypeId->List D->List D
 | t::ts,x::xs=>wN P t x::zy P ts xs
 | _,xs=>xs
def wO (P:Program) (t:TypeId):A->A
 | .d x=>.d (wN P t x)
 | .agg xs=>.agg (zy P (ED P 8 t) xs)
def aU (P:Program) (t:TypeId):Option TI :=
 match P.info? t,P.underlying t with
 | some i,some d=>some ⟨fo d,i.size,i.bytes,(uM i.zero).map (wO P t)⟩
 | _,_=>none
theorem aI.LA {j:J}{w:World}{k k':Nat}{tok:Option Nat}{v:Value}(h:aI j w (.slice k tok true []) v):aI j w (.slice k' tok true []) v:=by
 cases h with
 | f_ _ _ ht=>exact .f_ _ _ ht
theorem EE {j:J}{w:World}{P:Program}{t:TypeId}{x:D}{v:Value}(h:aI j w x v):aI j w (wN P t x) v:=by
 unfold wN
 split
 ·split
  ·exact h.LA
  ·exact h
 ·exact h
theorem EF {j:J}{w:World}{P:Program}:∀{ts:List TypeId}{xs:List D}{b:List Value},aY (aI j w) xs b->aY (aI j w) (zy P ts xs) b
 | [],xs,_,h=>by cases xs<;>exact h
 | _::_,_,_,.nil=>.nil
 | _::ts,_,_,.cons h t=>.cons (EE h) (EF (ts:=ts) t)
theorem LB {j:J}{w:World}{P:Program}{t:TypeId}{x:A}{v:Value}(h:de j w x v):de j w (wO P t x) v:=by
 cases x with
 | d x=>exact EE (x:=x) h
 | agg xs=>obtain⟨cs,e,h⟩:=h; exact⟨cs,e,EF h⟩
theorem EG (j:J) (w:World):∀(cs:List Value) (xs:List D),sA cs=some xs->aY (aI j w) xs cs
 | [],xs,h=>by simp [sA] at h; subst h; exact .nil
 | v::r,xs,h=>by
  simp only [sA] at h
  split at h
  ·rename_i x b h1 f
   simp at h; subst h;exact .cons (zo j w v x h1) (EG j w r b f)
  ·simp at h
theorem fH {P:Program}{t:TypeId}{b:TI}(h:aU P t=some b) :
  ∃i d,P.info? t=some i/\P.underlying t=some d/\i.size=b.size/\i.bytes=b.bytes/\fo d=b.k/\(uM i.zero).map (wO P t)=b.zero:=by
 unfold aU at h
 split at h
 ·rename_i i d h1 f
  simp at h; subst h;exact⟨i,d,h1,f,rfl,rfl,rfl,rfl⟩
 ·simp at h
theorem LC {z:Option Value}{x:A}(h:uM z=some x):∃v,z=some v/\∀j w,de j w x v:=by
 unfold uM at h
 split at h
 ·rename_i cs
  cases e:sA cs.toList with
  | none=>rw [e] at h; simp at h
  | some xs =>
   rw [e] at h; simp at h; subst h;exact⟨_,rfl,fun j w=>⟨cs.toList,by simp,EG j w _ _ e⟩⟩
 ·rename_i v hn
  cases e:su v with
  | none=>rw [e] at h; simp at h
  | some xs =>
   rw [e] at h; simp at h; subst h;exact⟨_,rfl,fun j w=>zo j w _ _ e⟩
 ·simp at h
theorem nk {P:Program}{t:TypeId}{z:Option Value}{x:A}(h:(uM z).map (wO P t)=some x):∃v,z=some v/\∀j w,de j w x v:=by
 simp only [Option.map_eq_some_iff] at h;obtain⟨y,b,rfl⟩:=h;obtain⟨v,h1,f⟩:=LC b;exact⟨v,h1,fun j w=>LB (f j w)⟩
def K.sC:K->Bool
 | .other=>true
 | _=>false
theorem K.sD {k:K}(h:k.sC=false):k≠.other:=fun e=>by rw [e] at h; cases h
def uN:K->Bool
 | .struct _=>true
 | _=>false
def sF (b:TI) (xs:List D) (off:Nat):Option A :=
 match uN b.k with
 | true=>match Nat.beq off 0&&Nat.beq xs.length b.size with
  | true=>some (.agg xs)
  | false=>match Nat.ble (off+b.size) xs.length with
   | true=>some (.agg ((xs.drop off).take b.size))
   | false=>none
 | false=>match xs[off]? with
  | some x=>some (.d x)
  | none=>none
theorem eE {P:Program}{t:TypeId}{d:TypeDesc}(h:P.underlying t=some d) (w:World):(underlying t).run P w=.ok d w:=run_underlying h w
theorem zz {P:Program}{t:TypeId}{b:TI}(g:aU P t=some b) (hk:b.k≠.other) (w:World):(isAgg t).run P w=.ok (uN b.k) w:=by
 obtain⟨i,d,h1,j,_,_,f,_⟩:=fH g;simp only [isAgg,Sem.run_bind,eE j,Result.andThen];cases d<;>simp [fo] at f<;>first|(rw [<- f]; rfl)|(exact absurd f.symm hk)|skip
theorem jm {P:Program}{t:TypeId}{b:TI}(f:aU P t=some b) (w:World):(sizeOf t).run P w=.ok b.size w:=by
 obtain⟨i,d,h1,j,g,_⟩:=fH f;simp [sizeOf,typeInfo,h1,g]
def kV (P:Program) (T:List TI):Prop:=∀t b,T[t]?=some b->aU P t=some b
structure AC [bK] (P:Program) (f:FuncId) (args:List A) (h:ai) (cI:V->ai->Prop):Prop where
 enter:∀(cT:Array Value) (w:World),(callFunc f cT).run P w=.ok (.enter f cT) w
 runs:∀(j:J) (w:World) (cT:List Value),e9 j w h->aY (de j w) args cT->Calls P f cT.toArray w fun e w' =>
  ∃r cv j' h',e=.returned cv/\cI r h'/\bz j' w' [] r cv/\e9 j' w' h'/\bV j w (aV j h []) j' w' (aV j' h' [])
def AQ [bK] [eN] (Q:Exit->St->Prop) (j:J) (w:World) (jl:List Nat) (σ:St):Exit->Act->World->Prop :=
 fun e g w'=>∃b j' f,Q e b/\fN j' w' f b g/\bV j w (aV j σ.h jl) j' w' (aV j' b.h f)
def ah [bK] [eN] (P:Program) (c:Code) (Q:Exit->St->Prop) (σ:St):Prop :=
 ∀(j:J) (w:World) (jl:List Nat) (a:Act),fN j w jl σ a->c.wp P (AQ Q j w jl σ) a w
def jR (next:St->Prop) (Q:Exit->St->Prop):Exit->St->Prop
 | .normal,σ=>next σ
 | e,σ=>Q e σ
def sG (id:Nat) (Q:Exit->St->Prop):Exit->St->Prop
 | .exit i,σ=>if i=id then Q .normal σ else Q (.exit i) σ
 | e,σ=>Q e σ
theorem AQ.trans {Q:Exit->St->Prop}{j b:J}{w f:World}{jl g:List Nat}{σ i:St}(k:bV j w (aV j σ.h jl) b f (aV b i.h g)){e:Exit}{a:Act}{w':World}
  (h:AQ Q b f g i e a w'):AQ Q j w jl σ e a w' :=
 let ⟨l,j',m,hq,o,he⟩:=h
 ⟨l,j',m,hq,o,k.trans he⟩
section
variable {P:Program}{Q:Exit->St->Prop}{σ:St}
theorem ah.mono {c:Code}{Q':Exit->St->Prop}(h:ah P c Q σ) (hq:∀e σ,Q e σ->Q' e σ):ah P c Q' σ :=
 fun j w jl a b=>wp_mono (h j w jl a b) fun _ _ _ ⟨f,j',g,q,r⟩=>⟨f,j',g,hq _ _ q,r⟩
theorem ah.skip (h:Q .normal σ):ah P .skip Q σ:=fun j w jl _ b=>wp_skip ⟨σ,j,jl,h,b,bV.refl _ _ _⟩
theorem ah.ret (h:Q .ret σ):ah P .ret Q σ:=fun j w jl _ b=>wp_ret ⟨σ,j,jl,h,b,bV.refl _ _ _⟩
theorem ah.exit {id:Nat}(h:Q (.exit id) σ):ah P (.exit id) Q σ:=fun j w jl _ b=>wp_exit ⟨σ,j,jl,h,b,bV.refl _ _ _⟩
theorem ah.seq {x y:Code}(h:ah P x (jR (ah P y Q) Q) σ):ah P (.seq x y) Q σ:=by
 intro j w jl a k;refine wp_seq (wp_mono (h j w jl a k) ?_);rintro e l w' ⟨i,j',b,hq,f,g⟩;cases e with
 | normal=>exact wp_mono (hq j' w' b l f) fun e m o h=>AQ.trans g h
 | exit id=>exact⟨i,j',b,hq,f,g⟩
 | goto id=>exact⟨i,j',b,hq,f,g⟩
 | ret=>exact⟨i,j',b,hq,f,g⟩
 | panic p=>exact⟨i,j',b,hq,f,g⟩
 | outgrown=>exact⟨i,j',b,hq,f,g⟩
theorem LD {j:J}{w:World}{jl:List Nat}{a:Act}{ts:Ts}{x:Operand}{b:Bool}(f:∀k,bz j w jl (get ts k) (a.tmps.getD k undef)) (hx:ev ts x=.a (.d (.bool b))):a.eval x=.bool b:=by
 have h:=oQ f x;rw [hx] at h;have h':aI j w (.bool b) (a.eval x):=h;generalize a.eval x=y at h';cases h'; rfl
theorem ah.cond {c:Operand}{x y:Code}{b:Bool}(hc:ev σ.ts c=.a (.d (.bool b))) (ht:b=true->ah P x Q σ) (g:b=false->ah P y Q σ):ah P (.cond c x y) Q σ:=by
 intro j w jl a f;exact wp_cond_split (LD f.tmps hc) (fun e=>ht e j w jl a f) (fun e=>g e j w jl a f)
theorem ah.block {id:Nat}{c:Code}(h:ah P c (sG id Q) σ):ah P (.block id c) Q σ:=by
 intro j w jl a l;refine wp_block (wp_mono (h j w jl a l) ?_);rintro e m w' ⟨b,j',f,hq,g,k⟩;cases e with
 | exit i =>
  simp only [sG] at hq;simp only [Exit.inBlock]
  split
  ·rename_i e; rw [if_pos e] at hq; exact⟨b,j',f,hq,g,k⟩
  ·rename_i e; rw [if_neg e] at hq; exact⟨b,j',f,hq,g,k⟩
 | normal=>exact⟨b,j',f,hq,g,k⟩
 | goto id=>exact⟨b,j',f,hq,g,k⟩
 | ret=>exact⟨b,j',f,hq,g,k⟩
 | panic o=>exact⟨b,j',f,hq,g,k⟩
 | outgrown=>exact⟨b,j',f,hq,g,k⟩
theorem ah.loop {α:Type}{c:Code}(inv:α->St) (m:α->Nat) (pre:α->Prop) (t:α) (h0:pre t)
  (hr:∀x,pre x->ah P c (jR (fun g=>∃y,g=inv y/\pre y/\m y<m x) Q) (inv x)):ah P (.loop c) Q (inv t):=by
 intro j w jl a u b k cs;have key:∀n x,m x=n->pre x->∀(j:J) (w:World) (jl:List Nat) (a:Act),fN j w jl (inv x) a ->
   ∃e s w',AQ Q j w jl (inv x) e s w'/\Arrives P (lone (b.at a (.code c::.inLoop c::k)) cs w) b k cs e s w':=by
  intro n;induction n using Nat.strongRecOn with
  | _ n v =>
   intro x hn z j w jl a u;obtain⟨e,i,o,⟨g,j',p,hq,q,r⟩,f⟩:=hr x z j w jl a u b (.inLoop c::k) cs;cases e with
   | normal =>
    obtain⟨y,rfl,B,bw⟩:=hq;obtain⟨C,a2,E,F,G⟩:=v (m y) (hn▸bw) y rfl B j' o p i q;exact⟨C,a2,E,AQ.trans r F,.of_steps (Steps.trans f (.one step_inLoop)) G⟩
   | exit id=>exact⟨_,i,o,⟨g,j',p,hq,q,r⟩,.pass (x:=.inLoop c) rfl (fun _ _=>.inl (by simp)) f⟩
   | goto l=>exact⟨_,i,o,⟨g,j',p,hq,q,r⟩,.pass (x:=.inLoop c) rfl (fun _ _=>.inl (by simp)) f⟩
   | ret=>exact⟨_,i,o,⟨g,j',p,hq,q,r⟩,.pass (x:=.inLoop c) rfl (fun _ _=>.inl (by simp)) f⟩
   | panic H=>exact⟨_,i,o,⟨g,j',p,hq,q,r⟩,.pass (x:=.inLoop c) rfl (fun _ _=>.inl (by simp)) f⟩
   | outgrown=>exact⟨_,i,o,⟨g,j',p,hq,q,r⟩,.pass (x:=.inLoop c) rfl (fun _ _=>.inl (by simp)) f⟩
 obtain⟨e,s,w',hq,f⟩:=key _ t rfl h0 j w jl a u;exact⟨e,s,w',hq,.of_steps (.one step_loop) f⟩
theorem ah.region {id:Nat}{l:List Oper}(h:aP P l.toArray l (Q .normal) σ):ah P (.region id l.toArray false) Q σ:=by
 intro j w jl a b;exact wp_region_lit (h j w jl a b _ fun f j' w' g m hq i k=>⟨f,j',g,hq,i,k⟩)
theorem ah.draw (hm:P.follows .mixedOrders=true){id:Nat}{l:List Oper}(h:au P l.toArray σ.n l [] (Q .normal) σ):ah P (.region id l.toArray true) Q σ:=by
 intro j w jl a b;exact au.wp hm h rfl b fun f j' w' g m hq i k=>⟨f,j',g,hq,i,k⟩
def cq [bK] [eN] (σ b:St):Prop:=∀(j:J) (w:World) (jl:List Nat) (a:Act),fN j w jl σ a->∃j' f,fN j' w f b a/\bV j w (aV j σ.h jl) j' w (aV j' b.h f)
theorem cq.refl (σ:St):cq σ σ:=fun j _ jl _ b=>⟨j,jl,b,bV.refl _ _ _⟩
theorem cq.trans {σ b f:St}(h:cq σ b) (h':cq b f):cq σ f:=by
 intro j w jl a g;obtain⟨i,k,l,m⟩:=h j w jl a g;obtain⟨o,p,q,r⟩:=h' i w k a l;exact⟨o,p,q,m.trans r⟩
theorem ah.qC {c:Code}{b:St}(hw:cq σ b) (h:ah P c Q b):ah P c Q σ:=by
 intro j w jl a f;obtain⟨j',g,i,k⟩:=hw j w jl a f;exact wp_mono (h j' w g a i) fun e a w h=>AQ.trans k h
theorem ah.post {c:Code}(h:ah P c (fun e f=>∃b,cq f b/\Q e b) σ):ah P c Q σ:=by
 intro j w jl a g;refine wp_mono (h j w jl a g) ?_;rintro e i w' ⟨s,j',k,⟨b,hw,hq⟩,l,m⟩;obtain⟨o,p,q,r⟩:=hw j' w' k i l;exact⟨b,o,p,hq,q,m.trans r⟩
inductive aS (ts:Ts) (n:Nat):Ts->Prop where
 | nil:aS ts n []
 | cons {k:Nat}{v:V}{r:Ts}(h:get ts k=v) (hv:(∀i off,v=.cZ i off->i<n)/\∀c i off,v=.gr c i off->i<n) (t:aS ts n r):aS ts n ((k,v)::r)
theorem aS.get {ts:Ts}{n:Nat}{b:Ts}(h:aS ts n b) (k:Nat):Ab.get b k=.any\/(Ab.get b k=Ab.get ts k/\(∀i off,Ab.get b k=.cZ i off->i<n)/\∀c i off,Ab.get b k=.gr c i off->i<n):=by
 induction h with
 | nil=>exact .inl rfl
 | @cons k' v r h hv t f =>
  by_cases e:k'=k
  ·subst e; rw [ga]; exact .inr ⟨h.symm,hv⟩
  ·rw [g_ _ _ e]; exact f
theorem cq.keep {n:Nat}{ts f:Ts}{ls:List (List D)}{h:ai}(m:Nat) (hk:aS ts m f):cq ⟨n,ts,ls,h⟩ ⟨n,f,ls.take m,h⟩:=by
 intro j w jl a g;obtain⟨hl,p⟩:=g.hl.trim m;refine⟨j,jl.take m,⟨g.defers,g.size,fun k=>?_,hl⟩,p⟩;rcases hk.get k with e|⟨e,bw,q⟩
 ·show bz _ _ _ (Ab.get f k) _;rw [e]; trivial
 ·show bz _ _ _ (Ab.get f k) _;have hv:=g.tmps k;have hv:bz j w jl (Ab.get ts k) (a.tmps.getD k undef):=hv;rw [<- e] at hv;cases hx:Ab.get f k with
  | any=>trivial
  | a x=>rw [hx] at hv; exact hv
  | cZ i off =>
   rw [hx] at hv;obtain⟨b,l,o⟩:=hv;exact⟨b,by rw [List.getElem?_take_of_lt (bw i off hx)]; exact l,o⟩
  | cF xs=>rw [hx] at hv; exact hv
  | gd c x=>rw [hx] at hv; exact hv
  | full k rows=>rw [hx] at hv; exact hv
  | qx c k rows=>rw [hx] at hv; exact hv
  | gr c i off =>
   rw [hx] at hv;refine⟨fun hc=>?_,hv.2⟩;obtain⟨b,l,o⟩:=hv.1 hc;exact⟨b,by rw [List.getElem?_take_of_lt (q c i off hx)]; exact l,o⟩
theorem cq.forget {n:Nat}{ts:Ts}{ls:List (List D)}{h h':ai}(hh:∀id o,h' id=some o->h id=some o):cq ⟨n,ts,ls,h⟩ ⟨n,ts,ls,h'⟩:=by
 intro j w jl a b;obtain⟨hl,f⟩:=b.hl.forget hh;exact⟨j,jl,⟨b.defers,b.size,b.tmps,hl⟩,f⟩
end
def nq:Nat->List A->Ts
 | _,[]=>[]
 | k,x::r=>(k,.a x)::nq (k+1) r
theorem zA {j:J}{w:World}(f:Nat->Value):∀(k:Nat) (args:List A) (cT:List Value),aY (de j w) args cT->(∀i v,cT[i]?=some v->f (k+i)=v) ->
  ∀t,bz j w [] (get (nq k args) t) (f t)
 | k,_,_,.nil,_,_=>trivial
 | k,_,_,.cons (a:=x) (b:=v) (l:=l) (m:=m) h ht,g,t=>by
  by_cases e:k=t
  ·subst e;simp only [nq];rw [ga];have:=g 0 v rfl;rw [Nat.add_zero] at this;rw [this]; exact h
  ·simp only [nq];rw [g_ _ _ e];exact zA f (k+1) l m ht (fun i v hv=>by have:=g (i+1) v (by simpa using hv); rw [<- this]; congr 1; omega) t
def wP (T:List TI) (σ:St):ResultVar->Option A
 | .tmp t=>match get σ.ts t with
  | .a x=>some x
  | _=>none
 | .cell t ty=>match get σ.ts t,T[ty]? with
  | .cZ i off,some b=>match b.k.sC,σ.ls[i]? with
   | false,some xs=>sF b xs off
   | _,_=>none
  | _,_=>none
def nr (T:List TI) (σ:St):List ResultVar->Option (List A)
 | []=>some []
 | r::rs=>match wP T σ r,nr T σ rs with
  | some x,some xs=>some (x::xs)
  | _,_=>none
def kW:List A->V
 | [x]=>.a x
 | xs=>.cF xs
end Go.Ab
/-
 Loads,stores and results; from the walk of a body to the contract of a function.
-/
namespace Go.Ab
open Go Go.RowKit
variable {ax:bK}
section
variable {fM:eN}
theorem aI.one {j:J}{w:World}{x:D}{v:Value}(h:aI j w x v):v.oneCell'=true:=by cases h<;>rfl
def Cells (j:J) (w:World) (b o:Nat) (xs:List D):Prop:=∀i x,xs[i]?=some x->∃v,w.cell? ⟨b,o+i,none⟩=some v/\aI j w x v
theorem add_plain (b o n:Nat):(⟨b,o,none⟩:Addr).add n=⟨b,o+n,none⟩:=by unfold Addr.add; split<;>simp_all
theorem zB {P:Program}{j:J}{w:World}{b o:Nat}:∀(xs:List D),(∀i x,xs[i]?=some x->∃v,w.cell? ⟨b,o+i,none⟩=some v/\aI j w x v) ->
  ∃cs:List Value,aY (aI j w) xs cs/\(loadCells ⟨b,o,none⟩ xs.length).run P w=.ok cs.toArray w:=by
 intro xs h;have f:∃cs:List Value,aY (aI j w) xs cs/\∀i v,cs[i]?=some v->w.cell? ⟨b,o+i,none⟩=some v:=by
  induction xs generalizing o with
  | nil=>exact⟨[],.nil,by simp⟩
  | cons x r g =>
   obtain⟨v,hv,hr⟩:=h 0 x rfl;obtain⟨cs,f,k⟩:=g (o:=o+1) fun i y l=>by
    have:=h (i+1) y (by simpa using l)
    rwa [show o+(i+1)=o+1+i by omega] at this
   refine⟨v::cs,.cons hr f,fun i u hu=>?_⟩;cases i with
   | zero=>simp at hu; subst hu; exact hv
   | succ i=>rw [show o+(i+1)=o+1+i by omega]; exact k i u (by simpa using hu)
 obtain⟨cs,h1,m⟩:=f;refine⟨cs,h1, ?_⟩;rw [h1.length];exact run_loadCells_list w _ cs fun i v hv=>by rw [add_plain]; exact m i v hv
theorem wQ {P:Program}{j:J}{w:World}{b o off:Nat}{xs:List D}(hc:Cells j w b o xs){t:TypeId}{l:TI}(p:aU P t=some l) (hk:l.k≠.other){x:A}(hl:sF l xs off=some x) :
  ∃v,(loadVar t ⟨b,o+off,none⟩).run P w=.ok v w/\de j w x v:=by
 unfold sF at hl;simp only [loadVar,Sem.run_bind,zz p hk,Result.andThen];cases s:uN l.k with
 | false =>
  rw [s] at hl;dsimp only at hl
  split at hl
  ·rename_i y f
   simp at hl; subst hl;obtain⟨v,hv,hr⟩:=hc off y f;refine⟨v, ?_,hr⟩;simp [hv]
  ·simp at hl
 | true =>
  rw [s] at hl;dsimp only at hl;have z:∀g:List D,g.length=l.size->(∀i y,g[i]?=some y->xs[off+i]?=some y)->∃v,(loadCells ⟨b,o+off,none⟩ l.size).run P w=.ok v w/\de j w (.agg g) (.agg v):=by
   intro g hlen q;obtain⟨cs,h1,m⟩:=zB (P:=P) (j:=j) (w:=w) (b:=b) (o:=o+off) g fun i y f=>by
    have:=hc (off+i) y (q i y f)
    rwa [<- Nat.add_assoc] at this
   rw [hlen] at m;exact⟨_,m,cs,rfl,h1⟩
  have u:∀g:List D,g.length=l.size->(∀i y,g[i]?=some y->xs[off+i]?=some y) ->
    ∃v,((Sem.run P (if true=true then Value.agg <$> (do loadCells ⟨b,o+off,none⟩ (<- sizeOf t)) else load ⟨b,o+off,none⟩)) w)=.ok v w/\de j w (.agg g) v:=by
   intro g hlen q;obtain⟨v,h1,m⟩:=z g hlen q;exact⟨.agg v,by simp [jm p,h1],m⟩
  split at hl
  ·rename_i r
   simp at hl; subst hl;simp only [Bool.and_eq_true] at r;have B:off=0:=Nat.eq_of_beq_eq_true r.1;have C:xs.length=l.size:=Nat.eq_of_beq_eq_true r.2;obtain⟨v,h1,m⟩:=u xs C fun i y f=>by rw [B,Nat.zero_add]; exact f
   exact⟨v,by simpa [jm p] using h1,m⟩
  ·split at hl
   ·rename_i E
    simp at hl; subst hl;have hle:=Nat.le_of_ble_eq_true E;obtain⟨v,h1,m⟩:=u ((xs.drop off).take l.size) (by simp; omega) fun i y f=>by
     rw [List.getElem?_take] at f
     split at f
     ·rw [List.getElem?_drop] at f; exact f
     ·simp at f
    exact⟨v,by simpa [jm p] using h1,m⟩
   ·simp at hl
theorem kS.cells {j:J}{w:World}{b:Nat}{xs:List D}(h:kS j w b xs):Cells j w b 0 xs:=by
 obtain⟨cs,e,hh,hx,_⟩:=h;intro i x hi;obtain⟨v,hv,hr⟩:=hx.get hi;exact⟨v,by rw [Nat.zero_add,cell_of_row w b i cs.toArray e (0,0) hh]; simpa using hv,hr⟩
def dG {α:Type}:List α->Nat->List α->List α
 | l,_,[]=>l
 | l,n,v::r=>dG (l.set n v) (n+1) r
theorem EH {α:Type}:∀(l:List α) (n:Nat) (r:List α),(dG l n r).length=l.length
 | l,_,[]=>rfl
 | l,n,v::r=>by rw [dG,EH]; simp
theorem aY.dG {α β:Type}{R:α->β->Prop}{l:List α}{m:List β}(h:aY R l m):∀(n:Nat){r:List α}{s:List β},aY R r s->aY R (Ab.dG l n r) (Ab.dG m n s):=by
 intro n r s hr;induction hr generalizing l m n with
 | nil=>exact h
 | cons x _ b=>exact b (h.set x n) (n+1)
theorem fL.trans {w f g:World}{b:Nat}{o o':Go.Obj}(h:fL w f b o) (h':fL f g b o'):fL w g b o' :=
 ⟨h'.size.trans h.size,h'.here,fun x hx=>(h'.other x hx).trans (h.other x hx),h'.os.trans h.os,h'.tape.trans h.tape,h'.output.trans h.output⟩
theorem fL.same {w:World}{b:Nat}{o:Go.Obj}(h:w.heap[b]?=some o):fL w w b o:=⟨rfl,h,fun _ _=>rfl,rfl,rfl,fS.rfl⟩
theorem fL.setCell {w:World}{b i:Nat}{cs:List Value}{e:TypeId}(h:w.heap[b]?=some (.cells cs.toArray e (0,0))) (v:Value):fL w (w.setCell ⟨b,i,none⟩ v) b (.cells (cs.set i v).toArray e (0,0)):=by
 refine⟨by simp, ?_,fun x hx=>heap_setCell_other w _ x v hx,rfl,rfl,fS.rfl⟩;have bw:=ji h;simp only [World.setCell,Array.getElem?_modify,if_true,h,Option.map_some];simp
theorem zC {P:Program}{b off:Nat}{e:TypeId}:∀(f:List Value) (i:Nat) (cs:List Value) (w:World),w.heap[b]?=some (.cells cs.toArray e (0,0))->off+i+f.length<=cs.length ->
  (∀v∈f,v.oneCell'=true)->∃w',(storeCells ⟨b,off,none⟩ f i).run P w=.ok () w'/\fL w w' b (.cells (dG cs (off+i) f).toArray e (0,0))
 | [],i,cs,w,hg,_,_=>⟨w,by simp [storeCells],fL.same hg⟩
 | v::rest,i,cs,w,hg,hl,h1=>by
  simp only [List.length_cons] at hl;have hu:=fL.setCell (ax:=ax) (i:=off+i) hg v;obtain⟨w',g,j⟩:=zC (P:=P) (off:=off) (e:=e) rest (i+1) (cs.set (off+i) v) _ hu.here (by simp; omega) (fun x hx=>h1 x (by simp [hx]));refine⟨w', ?_,hu.trans j⟩;have k:w.cell? ⟨b,off+i,none⟩=some (cs[off+i]'(by omega)):=by
   rw [cell_of_row w b (off+i) cs.toArray e (0,0) hg];rw [Array.getElem?_eq_getElem (by simp; omega)]; simp
  have l:w.frozen? ⟨b,off+i,none⟩=false:=frozen_of_row w b _ cs.toArray e hg;have m:(store ((⟨b,off,none⟩:Addr).add i) v).run P w=.ok () (w.setCell ⟨b,off+i,none⟩ v):=by
   rw [add_plain,run_store P w _ v _ (h1 v (by simp)),k];simp [l]
  simp only [storeCells,Sem.run_bind,m,Result.andThen,g]
def cD:A->List D
 | .d x=>[x]
 | .agg xs=>xs
theorem de.cells {j:J}{w:World}{x:A}{v:Value}(h:de j w x v):aY (aI j w) (cD x) v.cells.toList:=by
 cases x with
 | d x =>
  have b:aI j w x v:=h;have:v.cells=#[v]:=by cases b<;>rfl
  rw [this];exact .cons b .nil
 | agg xs=>obtain⟨cs,e,h⟩:=h; subst e; simpa [Value.cells,cD] using h
theorem EI {j:J}{w:World}{xs:List D}{cs:List Value}(h:aY (aI j w) xs cs):∀v∈cs,v.oneCell'=true:=by
 induction h with
 | nil=>simp
 | cons x _ b =>
  intro v hv;rcases List.mem_cons.1 hv with e|e
  ·rw [e]; exact x.one
  ·exact b v e
theorem EJ {P:Program}{j:J}{w:World}{b off:Nat}{e:TypeId}{cs:List Value}(hg:w.heap[b]?=some (.cells cs.toArray e (0,0))){t:TypeId}{f:TI}(g:aU P t=some f){x:A}{v:Value}(hv:de j w x v)
  (i:(cD x).length=f.size) (hl:off+f.size<=cs.length):∃w',(storeVar t ⟨b,off,none⟩ v).run P w=.ok () w'/\fL w w' b (.cells (dG cs off v.cells.toList).toArray e (0,0)):=by
 have hc:=hv.cells;have hlen:v.cells.size=f.size:=by rw [<- i,hc.length]; simp
 obtain⟨w',h1,k⟩:=zC (P:=P) (off:=off) (e:=e) v.cells.toList 0 cs w hg (by simp; omega) (EI hc);refine⟨w', ?_,by simpa using k⟩;simp [storeVar,jm g,hlen,h1]
theorem LF {P:Program}{T:List TI}(eF:kV P T){σ:St}{j:J}{w:World}{jl:List Nat}{a:Act}(f:fN j w jl σ a){r:ResultVar}{x:A}(h:wP T σ r=some x) :
  ∃v,(match r with|.tmp t=>pure (a.tmps.getD t undef)|.cell t ty=>do loadVar ty (<- asAddr (a.tmps.getD t undef)):Sem Value).run P w=.ok v w/\de j w x v:=by
 cases r with
 | tmp t =>
  have hv:=f.tmps t;simp only [wP] at h
  split at h
  ·rename_i y l
   simp at h; subst h;rw [l] at hv;exact⟨_,rfl,hv⟩
  ·simp at h
 | cell t ty =>
  have hv:=f.tmps t;simp only [wP] at h
  split at h
  ·rename_i i off s h1 m
   rw [h1] at hv;obtain⟨b,o,e⟩:=hv
   split at h
   ·rename_i xs hk hx
    obtain⟨b',g,p⟩:=f.hl.2.each.get hx;rw [o] at g; simp only [Option.some.injEq] at g; subst g;obtain⟨v,k,q⟩:=wQ (P:=P) p.cells (eF _ _ m) (K.sD hk) h;refine⟨v, ?_,q⟩;rw [Nat.zero_add] at k;simp [e,asAddr,k]
   ·simp at h
  ·simp at h
theorem zD {P:Program}{T:List TI}(eF:kV P T){σ:St}{j:J}{w:World}{jl:List Nat}{a:Act}(f:fN j w jl σ a):∀(rs:List ResultVar) (xs:List A),nr T σ rs=some xs ->
  ∃b:List Value,(rs.mapM fun r=>(match r with|.tmp t=>pure (a.tmps.getD t undef)|.cell t ty=>do loadVar ty (<- asAddr (a.tmps.getD t undef)):Sem Value)).run P w=.ok b w/\aY (de j w) xs b
 | [],xs,h=>by simp [nr] at h; subst h; exact⟨[],by simp,.nil⟩
 | r::rs,xs,h=>by
  simp only [nr] at h
  split at h
  ·rename_i x g h1 i
   simp at h; subst h;obtain⟨v,k,l⟩:=LF eF f h1;obtain⟨b,m,o⟩:=zD eF f rs g i;refine⟨v::b, ?_,.cons l o⟩;rw [List.mapM_cons,Sem.run_bind,k];simp only [Result.andThen,Sem.run_bind,m,Sem.run_pure]
  ·simp at h
def bn (T:List TI) (rs:List ResultVar) (cI:V->ai->Prop):Exit->St->Prop:=fun e σ =>
 (e=.normal\/e=.ret)/\∃xs h',nr T σ rs=some xs/\(∀id o,h' id=some o->σ.h id=some o)/\cI (kW xs) h'
end
theorem EK {P:Program}{T:List TI}(eF:kV P T){fM:eN}{fn:Func}{σ:St}{j:J}{w:World}{jl:List Nat}{a:Act}(f:fN j w jl σ a){rs:List ResultVar}(g:fn.results.toList=rs){xs:List A}(h:nr T σ rs=some xs) :
  ∃v,(results fn a.tmps).run P w=.ok v w/\bz j w [] (kW xs) v:=by
 subst g;obtain⟨b,i,k⟩:=zD (P:=P) eF f fn.results.toList xs h;refine⟨if h:b.toArray.size=1 then b.toArray[0] else .tuple b.toArray, ?_, ?_⟩
 ·unfold results;rw [Sem.run_bind,Array.mapM_eq_mapM_toList];rw [Sem.run_map];rw [show (List.mapM _ fn.results.toList:Sem (List Value))=List.mapM (fun r=>(match r with|.tmp t=>pure (a.tmps.getD t undef)|.cell t ty=>do loadVar ty (<- asAddr (a.tmps.getD t undef)):Sem Value)) fn.results.toList from by
   congr 1]
  rw [i];simp [Result.andThen]
 ·cases k with
  | nil=>exact⟨[],rfl,.nil⟩
  | cons h1 l =>
   cases l with
   | nil=>simpa [kW,bz] using h1
   | cons m o=>exact⟨_,by simp,.cons h1 (.cons m o)⟩
theorem AC.of_wp {P:Program}{T:List TI}(eF:kV P T){f:FuncId}{fn:Func}{c:Code}{args:List A}{h:ai}{cI:V->ai->Prop}(q:∀(cT:Array Value) (w:World),(callFunc f cT).run P w=.ok (.enter f cT) w) (s:P.funcs[f]?=some fn) (u:fn.body=some c){n:Nat}(hn:fn.ntmps=n){rs:List ResultVar}(x:fn.results.toList=rs) (hl:Nat.ble args.length n=true)
  (hw:ah P c (bn T rs cI) ⟨n,nq 0 args,[],h⟩):AC P f args h cI:=by
 subst hn x;have hl:=Nat.le_of_ble_eq_true hl;refine⟨q,fun j w cT hr o=>?_⟩;refine calls_of_wp s u (wp_mono (hw j w [] _ ?_) ?_)
 ·have hlen:=o.length;refine⟨rfl,by simp; omega,fun t=>?_,⟨hr,⟨.nil,by simp,by simp⟩⟩⟩;refine zA (fun t=>(cT.toArray++Array.replicate (fn.ntmps-cT.toArray.size) undef).getD t undef) 0 args cT o (fun i v hv=>?_) t;rw [Nat.zero_add,Array.getD_eq_getD_getElem?,Array.getElem?_append];have:i<cT.length:=(List.getElem?_eq_some_iff.1 hv).1;simp [this];exact(List.getElem?_eq_some_iff.1 hv).2
 ·rintro e k w' ⟨Q,j',R,⟨he,xs,h',y,z,B⟩,b,C⟩;obtain⟨l,E,F⟩:=zD eF b fn.results.toList xs y;have G:∃v,(results fn k.tmps).run P w'=.ok v w'/\bz j' w' [] (kW xs) v:=by
   refine⟨if h:l.toArray.size=1 then l.toArray[0] else .tuple l.toArray, ?_, ?_⟩
   ·unfold results;rw [Sem.run_bind,Array.mapM_eq_mapM_toList];rw [Sem.run_map];rw [show (List.mapM _ fn.results.toList:Sem (List Value))=List.mapM (fun r=>(match r with|.tmp t=>pure (k.tmps.getD t undef)|.cell t ty=>do loadVar ty (<- asAddr (k.tmps.getD t undef)):Sem Value)) fn.results.toList from by
     congr 1]
    rw [E];simp [Result.andThen]
   ·cases F with
    | nil=>exact⟨[],rfl,.nil⟩
    | cons h1 H =>
     cases H with
     | nil=>simpa [kW,bz] using h1
     | cons I J=>exact⟨_,by simp,.cons h1 (.cons I J)⟩
  obtain⟨v,hv,K⟩:=G;obtain⟨L,M⟩:=b.hl.trim 0;obtain⟨N,O⟩:=L.forget z;have p:∃r cv g m,Ending.returned v=.returned cv/\cI r m/\bz g w' [] r cv/\e9 g w' m/\bV j w (aV j h []) g w' (aV g m []) :=
   ⟨kW xs,v,j',h',rfl,B,K,N.1,(C.trans M).trans O⟩
  rcases he with he|he<;>subst he
  ·exact⟨b.defers,v,hv,p⟩
  ·exact⟨b.defers,v,hv,p⟩
end Go.Ab
/-
 The operations that leave the world alone.
-/
namespace Go.Ab
open Go Go.RowKit
variable {ax:bK}
def oV (P:Program) (o:Oper) (ts:Ts) (ls:List (List D)) (h:ai) (fx:Fx) (v:V):Prop :=
 fx.wl=false/\fx.wh=false/\∀L H,(fx.rl=true->L=ls)->(fx.rh=true->H=h)->∀(j:J) (w:World) (jl:List Nat) (a:Act),HL j w jl L H ->
  (∀x,x∈o.op.operands->bz j w jl (ev ts x) (a.eval x))->∃cv,(execOp a.eval o).run P w=.ok (.value cv) w/\bz j w jl v cv
theorem oV.sI {P:Program}{o:Oper}{ts:Ts}{ls:List (List D)}{h:ai}{fx:Fx}{v:V}(b:oV P o ts ls h fx v):ar P o ts ls h fx v ls h:=by
 obtain⟨h1,f,b⟩:=b;intro L H g hH j w jl a hl i K Q hk;rw [h1,Bool.or_false] at g;rw [f,Bool.or_false] at hH;obtain⟨cv,hr,hv⟩:=b L H g hH j w jl a hl i;unfold Oper.wp;rw [hr,Oper.upon_value];exact hk v L H cv j w jl ⟨rfl,by rw [h1]; rfl,by rw [f]; rfl⟩ hv hl (Ext.refl _) (bV.refl _ _ _)
section
variable {P:Program}{ts:Ts}{ls:List (List D)}{h:ai}{dst:Option Tmp}{ty:TypeId}{pos:String}{aJ:Array Edge}{g:Option (Nat×Bool)}
abbrev mk (dst:Option Tmp) (op:Op) (ty:TypeId) (pos:String) (aJ:Array Edge) (g:Option (Nat×Bool)):Oper:=⟨dst,op,ty,pos,aJ,g⟩
theorem ar.dH {o:Oper}{v:V}(b:∀(j:J) (w:World) (jl:List Nat) (a:Act),(∀x,x∈o.op.operands->bz j w jl (ev ts x) (a.eval x))->∃cv,(execOp a.eval o).run P w=.ok (.value cv) w/\bz j w jl v cv) :
  ar P o ts ls h {} v ls h :=
 oV.sI ⟨rfl,rfl,fun _ _ _ _ j w jl a _ f=>b j w jl a f⟩
theorem kX {j:J}{w:World}{jl:List Nat}{b:Bool}{cv:Value}(h:bz j w jl (.a (.d (.bool b))) cv):cv=.bool b:=by
 have h':aI j w (.bool b) cv:=h;cases h'; rfl
theorem iI {j:J}{w:World}{jl:List Nat}{k:IntKind}{n:Int}{cv:Value}(h:bz j w jl (.a (.d (.int k n))) cv):cv=.int k n:=by
 have h':aI j w (.int k n) cv:=h;cases h'; rfl
theorem jo {j:J}{w:World}{jl:List Nat}{s:List UInt8}{cv:Value}(h:bz j w jl (.a (.d (.str s))) cv):cv=.string ⟨s.toArray⟩/\s.length<=eW:=by
 have h':aI j w (.str s) cv:=h;cases h' with
 | str _ b=>exact⟨rfl,b⟩
theorem zF {j:J}{w:World}{jl:List Nat}{i off:Nat}{cv:Value}(h:bz j w jl (.cZ i off) cv):∃b,jl[i]?=some b/\cv=.pointer (some ⟨b,off,none⟩):=h
theorem EL {j:J}{w:World}{jl:List Nat}{xs:List D}{cv:Value}(h:bz j w jl (.a (.d (.view xs))) cv):∃a f,cv=.pointer (some a)/\At j w a xs.length f/\∀i (h:i<xs.length),aI j w xs[i] (f i):=by
 have h':aI j w (.view xs) cv:=h;cases h' with
 | view _ a f bR hr=>exact⟨a,f,rfl,bR,hr⟩
theorem wR {j:J}{w:World}{jl:List Nat}{id off:Nat}{cv:Value}(h:bz j w jl (.a (.d (.ptr id off))) cv):cv=.pointer (some ⟨j.out id,off,none⟩)/\id<j.next:=by
 have h':aI j w (.ptr id off) cv:=h;cases h' with
 | ptr _ _ hi=>exact⟨rfl,hi⟩
theorem ar.move {x:Operand}{v:V}(hx:ev ts x=v):ar P (mk dst (.move x) ty pos aJ g) ts ls h {} v ls h :=
 ar.dH fun j w jl a b=>⟨a.eval x,rfl,hx▸b x (by simp [Op.operands])⟩
theorem ar.assign {x:Operand}{v:V}(hx:ev ts x=v):ar P (mk dst (.assign x) ty pos aJ g) ts ls h {} v ls h :=
 ar.dH fun j w jl a b=>⟨a.eval x,rfl,hx▸b x (by simp [Op.operands])⟩
theorem At.cells {j:J}{w:World}{a:Addr}{xs:List D}{f:Nat->Value}(bR:At j w a xs.length f) (hr:∀i (h:i<xs.length),aI j w xs[i] (f i)):Cells j w a.block a.off xs:=by
 intro i x hx;have hi:=(List.getElem?_eq_some_iff.1 hx).1;refine⟨f i,(bR.2 i hi).2, ?_⟩;have:=hr i hi;rw [(List.getElem?_eq_some_iff.1 hx).2] at this; exact this
theorem ar.sJ {t:TypeId}{f:TI}{x:Operand}{i off:Nat}{xs:List D}{v:A}(o:aU P t=some f) (hk:f.k.sC=false) (hx:ev ts x=.cZ i off) (hl:ls[i]?=some xs) (hv:sF f xs off=some v) :
  ar P (mk dst (.load t x) ty pos aJ g) ts ls h { rl:=true } (.a v) ls h :=
 oV.sI ⟨rfl,rfl,fun L H p _ j w jl a hh q=>by
  have h1:=q x (by simp [Op.operands]);rw [hx] at h1;obtain⟨b,r,e⟩:=zF h1;rw [p rfl] at hh;obtain⟨b',l,s⟩:=hh.2.each.get hl;rw [r] at l; simp only [Option.some.injEq] at l; subst l;obtain⟨cv,m,u⟩:=wQ (P:=P) s.cells o (K.sD hk) hv;rw [Nat.zero_add] at m;exact⟨cv,by simp [execOp,Instr.loadAt,Instr.sureAddr,e,m],u⟩⟩
theorem ar.dZ {t:TypeId}{i:TI}{x:Operand}{xs:List D}{v:A}(m:aU P t=some i) (hk:i.k.sC=false) (hx:ev ts x=.a (.d (.view xs))) (hv:sF i xs 0=some v) :
  ar P (mk dst (.load t x) ty pos aJ g) ts ls h {} (.a v) ls h :=
 ar.dH fun j w jl a o=>by
  have h1:=o x (by simp [Op.operands]);rw [hx] at h1;obtain⟨b,f,e,bR,hr⟩:=EL h1;obtain⟨cv,l,p⟩:=wQ (P:=P) (bR.cells hr) m (K.sD hk) hv;have he:b=⟨b.block,b.off+0,none⟩:=by
   have:=bR.1;cases b; simp at this; simp [this]
  rw [<- he] at l;exact⟨cv,by simp [execOp,Instr.loadAt,Instr.sureAddr,e,l],p⟩
theorem gu.cells {j:J}{w:World}{id:Nat}{xs:List D}(h:gu j w id (.cells xs)):kS j w (j.out id) xs:=h
theorem ar.bZ {t:TypeId}{b:TI}{x:Operand}{id off:Nat}{xs:List D}{v:A}(i:aU P t=some b) (hk:b.k.sC=false) (hx:ev ts x=.a (.d (.ptr id off))) (hh:h id=some (.cells xs)) (hv:sF b xs off=some v) :
  ar P (mk dst (.load t x) ty pos aJ g) ts ls h { rh:=true } (.a v) ls h :=
 oV.sI ⟨rfl,rfl,fun L H _ hH j w jl a hl l=>by
  have h1:=l x (by simp [Op.operands]);rw [hx] at h1;obtain⟨e,_⟩:=wR h1;rw [hH rfl] at hl;obtain⟨cv,f,m⟩:=wQ (P:=P) (hl.1.obj id _ hh).2.cells.cells i (K.sD hk) hv;rw [Nat.zero_add] at f;exact⟨cv,by simp [execOp,Instr.loadAt,Instr.sureAddr,e,f],m⟩⟩
theorem zG {P:Program}{t:TypeId}{g:TI}{fs:List (Nat×TypeId)}(j:aU P t=some g) (hk:g.k=.struct fs) :
  ∃gs:Array Field,P.underlying t=some (.struct gs)/\gs.toList.map (fun f=>(f.offset,f.type))=fs:=by
 obtain⟨i,d,h1,l,_,_,b,_⟩:=fH j;rw [hk] at b;cases d<;>simp [fo] at b;exact⟨_,l,b⟩
theorem zH {P:Program}{t:TypeId}{i j:TI}{fs:List (Nat×TypeId)}{f o:Nat}{g:TypeId}(l:aU P t=some i) (hk:i.k=.struct fs) (b:fs[f]?=some (o,g)) (m:aU P g=some j) (p:j.size≠0)
  (a:Addr) (w:World):(Instr.fieldAt t (.pointer (some a)) f).run P w=.ok (.pointer (some (a.add o))) w:=by
 obtain⟨gs,hu,he⟩:=zG l hk;have hg:∃fd:Field,gs[f]?=some fd/\fd.offset=o/\fd.type=g:=by
  rw [<- he,List.getElem?_map] at b;cases e:gs.toList[f]? with
  | none=>rw [e] at b; simp at b
  | some fd=>rw [e] at b; simp at b; exact⟨fd,by simpa using e,b.1,b.2⟩
 obtain⟨fd,h1,q,r⟩:=hg;simp [Instr.fieldAt,eE hu,h1,Instr.sureAddr,fieldPlace,r,jm m,p,q]
theorem ar.EM {t:TypeId}{l m:TI}{fs:List (Nat×TypeId)}{x:Operand}{f o i off:Nat}{p:TypeId}(r:aU P t=some l) (hk:l.k=.struct fs) (s:fs[f]?=some (o,p)) (u:aU P p=some m)
  (q:Nat.beq m.size 0=false) (hx:ev ts x=.cZ i off):ar P (mk dst (.fieldAddr t x f) ty pos aJ g) ts ls h {} (.cZ i (off+o)) ls h :=
 ar.dH fun j w jl a v=>by
  have h1:=v x (by simp [Op.operands]);rw [hx] at h1;obtain⟨b,y,e⟩:=zF h1;exact⟨.pointer (some ⟨b,off+o,none⟩),by simp [execOp,e,zH r hk s u (fun e=>by rw [e] at q; simp at q),add_plain],b,y,rfl⟩
theorem ar.bE {t:TypeId}{b i:TI}{fs:List (Nat×TypeId)}{x:Operand}{f o id off:Nat}{l:TypeId}(p:aU P t=some b) (hk:b.k=.struct fs) (q:fs[f]?=some (o,l)) (r:aU P l=some i)
  (m:Nat.beq i.size 0=false) (hx:ev ts x=.a (.d (.ptr id off))):ar P (mk dst (.fieldAddr t x f) ty pos aJ g) ts ls h {} (.a (.d (.ptr id (off+o)))) ls h :=
 ar.dH fun j w jl a s=>by
  have h1:=s x (by simp [Op.operands]);rw [hx] at h1;obtain⟨e,hi⟩:=wR h1;exact⟨.pointer (some ⟨j.out id,off+o,none⟩),by simp [execOp,e,zH p hk q r (fun e=>by rw [e] at m; simp at m),add_plain],aI.ptr _ _ hi⟩
theorem aI.LG {j:J}{w:World}{xs:List D}{a:Addr}{f:Nat->Value}(bR:At j w a xs.length f) (hr:∀i (h:i<xs.length),aI j w xs[i] (f i)) (n:Nat):aI j w (.view (xs.drop n)) (.pointer (some (a.add n))):=by
 have b:a=⟨a.block,a.off,none⟩:=by have:=bR.1; cases a; simp at this; simp [this]
 rw [b,add_plain];refine aI.view (xs.drop n) _ (fun i=>f (n+i)) ⟨rfl,fun i hi=>?_⟩ fun i hi=>?_
 ·simp only [List.length_drop] at hi;have:=bR.2 (n+i) (by omega);rw [<- Nat.add_assoc] at this; exact this
 ·simp only [List.length_drop] at hi;have:=hr (n+i) (by omega)
  simpa using this
theorem ar.LH {t:TypeId}{b i:TI}{fs:List (Nat×TypeId)}{x:Operand}{f o:Nat}{xs l:List D}{m:TypeId}(q:aU P t=some b) (hk:b.k=.struct fs) (r:fs[f]?=some (o,m)) (s:aU P m=some i)
  (p:Nat.beq i.size 0=false) (hx:ev ts x=.a (.d (.view xs))) (u:xs.drop o=l):ar P (mk dst (.fieldAddr t x f) ty pos aJ g) ts ls h {} (.a (.d (.view l))) ls h :=
 ar.dH fun j w jl a v=>by
  have h1:=v x (by simp [Op.operands]);rw [hx] at h1;obtain⟨y,z,e,bR,hr⟩:=EL h1;subst u;exact⟨_,by simp [execOp,e,zH q hk r s (fun e=>by rw [e] at p; simp at p)],aI.LG bR hr o⟩
theorem oZ {j:J}{w:World}{jl:List Nat}{k:Nat}{tok:Option Nat}{nl:Bool}{rows:List (List D)}{cv:Value}(h:bz j w jl (.a (.d (.slice k tok nl rows))) cv) :
  ∃a cap,cv=.slice a rows.length cap/\rows.length<=cS/\rows.length<=cap/\(nl=a.isNone)/\(a=none->cap=0/\rows=[])/\(∀r,r∈rows->r.length=k) /\
   ∀b,a=some b->sr j tok rows.length b cap/\∃f,qy j w b rows f/\∀i (h:i<rows.flatten.length),aI j w rows.flatten[i] (f i):=by
 have h':aI j w (.slice k tok nl rows) cv:=h;cases h' with
 | f_ _ _ ht=>exact⟨none,0,rfl,by simp [cS],by simp,rfl,fun _=>⟨rfl,rfl⟩,by simp,by simp⟩
 | slice _ _ _ a cap f hk hn hc bR hr ht=>exact⟨some a,cap,rfl,hn,hc,rfl,by simp,hk,fun b e=>by simp at e; subst e; exact⟨ht,f,bR,hr⟩⟩
theorem kY {rows:List (List D)}{k:Nat}(hk:∀r∈rows,r.length=k):rows.flatten.length=rows.length*k/\∀i row,rows[i]?=some row->∀n,n<k->rows.flatten[i*k+n]?=row[n]?:=by
 induction rows with
 | nil=>simp
 | cons r rs b =>
  have hr:r.length=k:=hk r (by simp);obtain⟨h1,f⟩:=b fun x hx=>hk x (by simp [hx]);refine⟨by simp [h1,hr,Nat.succ_mul,Nat.add_comm],fun i row hi n hn=>?_⟩;cases i with
  | zero =>
   simp at hi; subst hi;rw [List.flatten_cons,Nat.zero_mul,Nat.zero_add,List.getElem?_append_left (by omega)]
  | succ i =>
   simp only [List.getElem?_cons_succ] at hi;rw [List.flatten_cons,List.getElem?_append_right (by rw [hr,Nat.succ_mul]; omega)];rw [show (i+1)*k+n-r.length=i*k+n by rw [hr,Nat.succ_mul]; omega];exact f i row hi n hn
theorem LI {j:J}{w:World}{k:Nat}{rows:List (List D)}{b:Addr}{f:Nat->Value}(hk:∀r∈rows,r.length=k) (bR:qy j w b rows f) (hr:∀i (h:i<rows.flatten.length),aI j w rows.flatten[i] (f i))
  {i:Nat}{row:List D}(hi:rows[i]?=some row):aI j w (.view row) (.pointer (some (b.add (i*k)))):=by
 obtain⟨h1,m⟩:=kY hk;have hlen:row.length=k:=hk row (List.mem_of_getElem? hi);have o:b=⟨b.block,b.off,none⟩:=by have:=bR.1.resolve_left (fun e=>by rw [e] at hi; simp at hi); cases b; simp at this; simp [this]
 have bw:i<rows.length:=(List.getElem?_eq_some_iff.1 hi).1;have hle:i*k+k<=rows.flatten.length:=by
  rw [h1,<- Nat.succ_mul]; exact Nat.mul_le_mul_right k bw
 rw [o,add_plain];refine aI.view row _ (fun n=>f (i*k+n)) ⟨rfl,fun n hn=>?_⟩ fun n hn=>?_
 ·have:=bR.2 (i*k+n) (by omega);rw [<- Nat.add_assoc] at this; exact this
 ·have l:=hr (i*k+n) (by omega);have g:=m i row hi n (by omega);rw [List.getElem?_eq_getElem (by omega),List.getElem?_eq_getElem hn] at g;simp only [Option.some.injEq] at g;rw [g] at l; exact l
theorem nt {P:Program}{t:TypeId}{f:TI}{e:TypeId}(g:aU P t=some f) (hk:f.k=.slice e):P.underlying t=some (.slice e):=by
 obtain⟨i,d,h1,j,_,_,b,_⟩:=fH g;rw [hk] at b;cases d<;>simp [fo] at b;subst b; exact j
theorem ar.EN {t e:TypeId}{i l:TI}{x ix:Operand}{tok:Option Nat}{nl:Bool}{rows:List (List D)}{p:IntKind}{n:Int}{row:List D}{k:Nat}(q:aU P t=some i) (hk:i.k=.slice e) (r:aU P e=some l)
  (hx:ev ts x=.a (.d (.slice k tok nl rows))) (hi:ev ts ix=.a (.d (.int p n))) (s:k=l.size) (h0:0<=n) (hr:rows[n.toNat]?=some row) :
  ar P (mk dst (.indexAddr t x ix) ty pos aJ g) ts ls h {} (.a (.d (.view row))) ls h :=
 ar.dH fun j w jl a m=>by
  have h1:=m x (by simp [Op.operands]);have o:=m ix (by simp [Op.operands]);rw [hx] at h1; rw [hi] at o;obtain⟨b,cap,u,hn,hc,F,v,y,z⟩:=oZ h1;have bw:n.toNat<rows.length:=(List.getElem?_eq_some_iff.1 hr).1;cases b with
  | none=>obtain⟨_,B⟩:=v rfl; rw [B] at bw; simp at bw
  | some b =>
   obtain⟨_,f,bR,C⟩:=z b rfl;refine⟨_, ?_,LI y bR C hr⟩;have E:n<(rows.length:Int):=by omega
   simp [execOp,u,iI o,Instr.indexAt,asIntOf,eE (nt q hk),jm r,h0,E,s]
end
end Go.Ab
/-
 Arithmetic,comparisons,lengths,structs.
-/
namespace Go.Ab
open Go Go.RowKit
variable {ax:bK}
section
variable {P:Program}{ts:Ts}{ls:List (List D)}{h:ai}{dst:Option Tmp}{ty:TypeId}{pos:String}{aJ:Array Edge}{g:Option (Nat×Bool)}
theorem zI {op:BinOp}{t:TypeId}{x y:Operand}{k:IntKind}{m n:Int}(w:World):(eqGuard op t x y (.int k m) (.int k n)).run P w=.ok () w:=by
 unfold eqGuard;cases op<;>simp
theorem EO {op:BinOp}{t:TypeId}{x y:Operand}{m n:ByteArray}(w:World):(eqGuard op t x y (.string m) (.string n)).run P w=.ok () w:=by
 unfold eqGuard;cases op<;>simp
theorem LJ {op:BinOp}{t:TypeId}{x y:Operand}{m n:Bool}(w:World):(eqGuard op t x y (.bool m) (.bool n)).run P w=.ok () w:=by
 unfold eqGuard;cases op<;>simp
def uO (op:BinOp) (k:IntKind) (m n:Int):Option D :=
 match op with
 | .add=>some (.int k (k.wrap (m+n)))
 | .sub=>some (.int k (k.wrap (m-n)))
 | .mul=>some (.int k (k.wrap (m*n)))
 | .eql=>some (.bool (decide (m=n)))
 | .neq=>some (.bool (!decide (m=n)))
 | .lss=>some (.bool (decide (m<n)))
 | .leq=>some (.bool (decide (m<=n)))
 | .gtr=>some (.bool (decide (n<m)))
 | .geq=>some (.bool (decide (n<=m)))
 | _=>none
theorem LK {op:BinOp}{t:TypeId}{k:IntKind}{m n:Int}{r:D}(hr:uO op k m n=some r) (w:World):∃cv,(binOp op t (.int k m) (.int k n)).run P w=.ok cv w/\∀j w,aI j w r cv:=by
 cases op<;>simp only [uO,Option.some.injEq] at hr<;>first|(subst hr)|(cases hr; done)
 ·exact⟨_,by simp [binOp,Op.intArith],fun _ _=>.int _ _⟩
 ·exact⟨_,by simp [binOp,Op.intArith],fun _ _=>.int _ _⟩
 ·exact⟨_,by simp [binOp,Op.intArith],fun _ _=>.int _ _⟩
 ·exact⟨.bool (decide (m=n)),by simp [binOp,Op.intCmp]; first|rfl|(by_cases e:m=n<;>simp [e]),fun _ _=>.bool _⟩
 ·exact⟨.bool (!decide (m=n)),by simp [binOp,Op.intCmp]; first|rfl|(by_cases e:m=n<;>simp [e]),fun _ _=>.bool _⟩
 ·exact⟨.bool (decide (m<n)),by simp [binOp,Op.intCmp],fun _ _=>.bool _⟩
 ·exact⟨.bool (decide (m<=n)),by simp [binOp,Op.intCmp],fun _ _=>.bool _⟩
 ·exact⟨.bool (decide (n<m)),by simp [binOp,Op.intCmp],fun _ _=>.bool _⟩
 ·exact⟨.bool (decide (n<=m)),by simp [binOp,Op.intCmp],fun _ _=>.bool _⟩
theorem ar.zJ {op:BinOp}{t u:TypeId}{x y:Operand}{k:IntKind}{m n:Int}{r:D}(hx:ev ts x=.a (.d (.int k m))) (i:ev ts y=.a (.d (.int k n))) (hr:uO op k m n=some r) :
  ar P (mk dst (.binOp op t x y u) ty pos aJ g) ts ls h {} (.a (.d r)) ls h :=
 ar.dH fun j w jl a b=>by
  have h1:=b x (by simp [Op.operands]);have f:=b y (by simp [Op.operands]);rw [hx] at h1; rw [i] at f;obtain⟨cv,l,o⟩:=LK (P:=P) (t:=t) hr w;exact⟨cv,by simp [execOp,iI h1,iI f,zI,l],o j w⟩
theorem ar.EP {t u:TypeId}{x y:Operand}{m n:Int}(hx:ev ts x=.a (.d (.int .i64 m))) (b:ev ts y=.a (.d (.int .i64 n))) (h1 : -9223372036854775808<=m+n) (f:m+n<=9223372036854775807) :
  ar P (mk dst (.binOp .add t x y u) ty pos aJ g) ts ls h {} (.a (.d (.int .i64 (m+n)))) ls h :=
 ar.zJ hx b (by simp only [uO,Option.some.injEq,D.int.injEq,true_and]; simp only [IntKind.wrap,IntKind.bits,IntKind.signed]; simp; omega)
theorem ar.LM {t u:TypeId}{x y:Operand}{m n:Int}(hx:ev ts x=.a (.d (.int .i64 m))) (b:ev ts y=.a (.d (.int .i64 n))) (h1 : -9223372036854775808<=m-n) (f:m-n<=9223372036854775807) :
  ar P (mk dst (.binOp .sub t x y u) ty pos aJ g) ts ls h {} (.a (.d (.int .i64 (m-n)))) ls h :=
 ar.zJ hx b (by simp only [uO,Option.some.injEq,D.int.injEq,true_and]; simp only [IntKind.wrap,IntKind.bits,IntKind.signed]; simp; omega)
def zK (op:BinOp) (s t:List UInt8):Option D :=
 match op with
 | .eql=>some (.bool (s==t))
 | .neq=>some (.bool (!(s==t)))
 | .lss=>some (.bool (Op.bytesLess s t))
 | .leq=>some (.bool (Op.bytesLess s t||s==t))
 | .gtr=>some (.bool (!(Op.bytesLess s t||s==t)))
 | .geq=>some (.bool (!Op.bytesLess s t))
 | _=>none
theorem LN {op:BinOp}{t:TypeId}{a b:List UInt8}{r:D}(hr:zK op a b=some r) (w:World):∃cv,(binOp op t (.string ⟨a.toArray⟩) (.string ⟨b.toArray⟩)).run P w=.ok cv w/\∀j w,aI j w r cv:=by
 cases op<;>simp only [zK,Option.some.injEq] at hr<;>first|(subst hr)|(cases hr; done)
 all_goals exact⟨_,by simp [binOp,Op.stringOp,ByteArray.toList_mk],fun _ _=>.bool _⟩
theorem ar.LO {op:BinOp}{t u:TypeId}{x y:Operand}{a b:List UInt8}{r:D}(hx:ev ts x=.a (.d (.str a))) (k:ev ts y=.a (.d (.str b))) (hr:zK op a b=some r) :
  ar P (mk dst (.binOp op t x y u) ty pos aJ g) ts ls h {} (.a (.d r)) ls h :=
 ar.dH fun j w jl act f=>by
  have h1:=f x (by simp [Op.operands]);have i:=f y (by simp [Op.operands]);rw [hx] at h1; rw [k] at i;obtain⟨cv,l,m⟩:=LN (P:=P) (t:=t) hr w;exact⟨cv,by simp [execOp,(jo h1).1,(jo i).1,EO,l],m j w⟩
theorem ar.concat {t u:TypeId}{x y:Operand}{a b:List UInt8}(hx:ev ts x=.a (.d (.str a))) (l:ev ts y=.a (.d (.str b))) (hl:a.length+b.length<=eW) :
  ar P (mk dst (.binOp .add t x y u) ty pos aJ g) ts ls h {} (.a (.d (.str (a++b)))) ls h :=
 ar.dH fun j w jl act f=>by
  have h1:=f x (by simp [Op.operands]);have i:=f y (by simp [Op.operands]);rw [hx] at h1; rw [l] at i;refine⟨.string ⟨(a++b).toArray⟩, ?_,aI.str _ (by simpa using hl)⟩;have bw:(⟨a.toArray⟩:ByteArray).size+(⟨b.toArray⟩:ByteArray).size<=9223372036854775807:=by
   show a.toArray.size+b.toArray.size<=_; simp only [List.size_toArray]; unfold eW at hl; omega
  have k:=run_string_add_sum (P:=P) w ⟨a.toArray⟩ ⟨b.toArray⟩ bw;have e:(⟨a.toArray⟩:ByteArray)++⟨b.toArray⟩=⟨(a++b).toArray⟩:=by
   apply ByteArray.ext; simp
  rw [e] at k;simp [execOp,(jo h1).1,(jo i).1,EO,binOp,k]
theorem ar.LP {t u:TypeId}{l:TI}{x y:Operand}{a b:Bool}(p:aU P t=some l) (hk:l.k=.bool) (hx:ev ts x=.a (.d (.bool a))) (q:ev ts y=.a (.d (.bool b))) :
  ar P (mk dst (.binOp .neq t x y u) ty pos aJ g) ts ls h {} (.a (.d (.bool (!(a==b))))) ls h :=
 ar.dH fun j w jl act m=>by
  have h1:=m x (by simp [Op.operands]);have f:=m y (by simp [Op.operands]);rw [hx] at h1; rw [q] at f;have hu:P.underlying t=some .bool:=by
   obtain⟨i,d,_,f,_,_,o,_⟩:=fH p;rw [hk] at o;cases d<;>simp [fo] at o;exact f
  exact⟨_,by simp [execOp,kX h1,kX f,LJ,run_neq_bool w t a b hu],aI.bool _⟩
theorem ar.LQ {t:TypeId}{x:Operand}{b:Bool}(hx:ev ts x=.a (.d (.bool b))):ar P (mk dst (.unOp .not t x) ty pos aJ g) ts ls h {} (.a (.d (.bool (!b)))) ls h :=
 ar.dH fun j w jl act f=>by
  have h1:=f x (by simp [Op.operands]);rw [hx] at h1;exact⟨_,by simp [execOp,kX h1,Op.unary],aI.bool _⟩
theorem ar.LR {t:TypeId}{x:Operand}{k:IntKind}{n:Int}(hx:ev ts x=.a (.d (.int k n))):ar P (mk dst (.unOp .neg t x) ty pos aJ g) ts ls h {} (.a (.d (.int k (k.wrap (0-n))))) ls h :=
 ar.dH fun j w jl act b=>by
  have h1:=b x (by simp [Op.operands]);rw [hx] at h1;exact⟨_,by simp [execOp,iI h1,Op.unary,Op.intArith],aI.int _ _⟩
theorem ar.LS {t e:TypeId}{f:TI}{x:Operand}{cA:Array TypeId}{k:Nat}{tok:Option Nat}{nl:Bool}{rows:List (List D)}(i:aU P t=some f) (hk:f.k=.slice e) (bR:cA[0]?=some t)
  (hx:ev ts x=.a (.d (.slice k tok nl rows))):ar P (mk dst (.call { callee:=.builtin .len,args:=#[x],argTypes:=cA }) ty pos aJ g) ts ls h {} (.a (.d (.int .i64 (rows.length:Int)))) ls h :=
 ar.dH fun j w jl act l=>by
  have h1:=l x (by simp [Op.operands,Call.operands]);rw [hx] at h1;obtain⟨b,cap,m,_⟩:=oZ h1;exact⟨_,by simp [execOp,resolve,invoke,builtin,m,Builtin.len_,bR,eE (nt i hk),goInt],aI.int _ _⟩
theorem sK {P:Program}{t:TypeId}{b:TI}(g:aU P t=some b) (hk:b.k=.str):P.underlying t=some .string:=by
 obtain⟨i,d,h1,j,_,_,f,_⟩:=fH g;rw [hk] at f;cases d<;>simp [fo] at f;exact j
theorem size_mk (s:List UInt8):(⟨s.toArray⟩:ByteArray).size=s.length:=by
 show s.toArray.size=s.length;simp
theorem ar.wS {t:TypeId}{b:TI}{x:Operand}{cA:Array TypeId}{s:List UInt8}(f:aU P t=some b) (hk:b.k=.str) (bR:cA[0]?=some t)
  (hx:ev ts x=.a (.d (.str s))):ar P (mk dst (.call { callee:=.builtin .len,args:=#[x],argTypes:=cA }) ty pos aJ g) ts ls h {} (.a (.d (.int .i64 (s.length:Int)))) ls h :=
 ar.dH fun j w jl act i=>by
  have h1:=i x (by simp [Op.operands,Call.operands]);rw [hx] at h1;refine⟨_, ?_,aI.int _ _⟩;simp [execOp,resolve,invoke,builtin,(jo h1).1,Builtin.len_,bR,eE (sK f hk),goInt,size_mk]
theorem ar.LU {t:TypeId}{f:TI}{x ix:Operand}{s:List UInt8}{i:IntKind}{n:Int}{c:UInt8}(o:aU P t=some f) (hk:f.k=.str) (hx:ev ts x=.a (.d (.str s))) (hi:ev ts ix=.a (.d (.int i n)))
  (h0:0<=n) (hc:s[n.toNat]?=some c):ar P (mk dst (.index t x ix) ty pos aJ g) ts ls h {} (.a (.d (.int .u8 (c.toNat:Int)))) ls h :=
 ar.dH fun j w jl act l=>by
  have h1:=l x (by simp [Op.operands]);have m:=l ix (by simp [Op.operands]);rw [hx] at h1; rw [hi] at m;have bw:n.toNat<s.length:=(List.getElem?_eq_some_iff.1 hc).1;have b:=run_index_string (P:=P) w t ⟨s.toArray⟩ i n (sK o hk);rw [dif_pos ⟨h0,by rw [size_mk]; omega⟩] at b;refine⟨_, ?_,aI.int _ _⟩;have p:(⟨s.toArray⟩:ByteArray)[n.toNat]'(by rw [size_mk]; omega)=c:=by
   have:=(List.getElem?_eq_some_iff.1 hc).2;rw [<- this]; rfl
  rw [p] at b;simp [execOp,(jo h1).1,iI m,b]
def cut (s:List UInt8) (l r:Nat):List UInt8:=(s.drop l).take (r-l)
theorem extract_mk (s:List UInt8) (l r:Nat):(⟨s.toArray⟩:ByteArray).extract l r=⟨(cut s l r).toArray⟩:=by
 apply ByteArray.ext
 apply Array.ext'
 simp [cut]
def VU (ts:Ts):Option Operand->Option Nat
 | none=>some 0
 | some x=>match ev ts x with
  | .a (.d (.int _ n))=>if 0<=n then some n.toNat else none
  | _=>none
theorem o3 {ts:Ts}{j:J}{w:World}{jl:List Nat}{act:Act}{x:Operand}{k:IntKind}{n:Int}{cap:Nat}(hx:ev ts x=.a (.d (.int k n))) (b:bz j w jl (ev ts x) (act.eval x)) (h0:0<=n) (h1:n<=(cap:Int)) (code:BoundsCode) :
  (Instr.sliceBound (act.eval x) cap code).run P w=.ok n.toNat w:=by
 rw [hx] at b;rw [iI b];exact run_sliceBound w k n cap code h0 h1
theorem ar.LV {t:TypeId}{i:TI}{x lo hi:Operand}{s:List UInt8}{k k':IntKind}{l r:Int}(m:aU P t=some i) (hk:i.k=.str) (hx:ev ts x=.a (.d (.str s))) (hl:ev ts lo=.a (.d (.int k l))) (hh:ev ts hi=.a (.d (.int k' r)))
  (h0:0<=l) (h1:l<=r) (o:r<=(s.length:Int)):ar P (mk dst (.slice t x (some lo) (some hi) none) ty pos aJ g) ts ls h {} (.a (.d (.str (cut s l.toNat r.toNat)))) ls h :=
 ar.dH fun j w jl act b=>by
  have f:=b x (by simp [Op.operands]);have p:=o3 (P:=P) (cap:=r.toNat) hl (b lo (by simp [Op.operands])) h0 (by omega) .sliceB;have q:=o3 (P:=P) (cap:=s.length) hh (b hi (by simp [Op.operands])) (by omega) o .sliceAlen;rw [hx] at f;refine⟨.string ⟨(cut s l.toNat r.toNat).toArray⟩, ?_,aI.str _ (by have:=(jo f).2; simp [cut]; omega)⟩;simp [execOp,(jo f).1,Instr.sliceAt,Instr.slice,Instr.sliceBounds,eE (sK m hk),size_mk,p,q]
  exact extract_mk _ _ _
theorem ar.wK {t:TypeId}{f:TI}{x lo:Operand}{s:List UInt8}{k:IntKind}{l:Int}(m:aU P t=some f) (hk:f.k=.str) (hx:ev ts x=.a (.d (.str s))) (hl:ev ts lo=.a (.d (.int k l)))
  (h0:0<=l) (h1:l<=(s.length:Int)):ar P (mk dst (.slice t x (some lo) none none) ty pos aJ g) ts ls h {} (.a (.d (.str (s.drop l.toNat)))) ls h :=
 ar.dH fun j w jl act i=>by
  have b:=i x (by simp [Op.operands]);have o:=o3 (P:=P) (cap:=s.length) hl (i lo (by simp [Op.operands])) h0 h1 .sliceB;rw [hx] at b;refine⟨.string ⟨(s.drop l.toNat).toArray⟩, ?_,aI.str _ (by have:=(jo b).2; simp; omega)⟩;simp [execOp,(jo b).1,Instr.sliceAt,Instr.slice,Instr.sliceBounds,eE (sK m hk),size_mk,o];rw [extract_mk]; unfold cut; rw [List.take_of_length_le (by simp)]
theorem ar.zw {t:TypeId}{f:TI}{x hi:Operand}{s:List UInt8}{k:IntKind}{r:Int}(l:aU P t=some f) (hk:f.k=.str) (hx:ev ts x=.a (.d (.str s))) (hh:ev ts hi=.a (.d (.int k r)))
  (h0:0<=r) (h1:r<=(s.length:Int)):ar P (mk dst (.slice t x none (some hi) none) ty pos aJ g) ts ls h {} (.a (.d (.str (s.take r.toNat)))) ls h :=
 ar.dH fun j w jl act i=>by
  have b:=i x (by simp [Op.operands]);have m:=o3 (P:=P) (cap:=s.length) hh (i hi (by simp [Op.operands])) h0 h1 .sliceAlen;rw [hx] at b;refine⟨.string ⟨(s.take r.toNat).toArray⟩, ?_,aI.str _ (by have:=(jo b).2; simp; omega)⟩;simp [execOp,(jo b).1,Instr.sliceAt,Instr.slice,Instr.sliceBounds,eE (sK l hk),size_mk,m];rw [extract_mk]; simp [cut]
theorem ar.extract {x:Operand}{i:Nat}{xs:List A}{v:A}(hx:ev ts x=.cF xs) (hv:xs[i]?=some v):ar P (mk dst (.extract x i) ty pos aJ g) ts ls h {} (.a v) ls h :=
 ar.dH fun j w jl act b=>by
  have h1:=b x (by simp [Op.operands]);rw [hx] at h1;obtain⟨cs,e,hr⟩:=h1;obtain⟨cv,f,k⟩:=hr.get hv;exact⟨cv,by simp [execOp,Instr.extract,e,f],k⟩
theorem ar.gw {x:Operand}{id off:Nat}(hx:ev ts x=.a (.d (.ptr id off))):ar P (mk dst (.nilCheck x) ty pos aJ g) ts ls h {} (.a (.d (.ptr id off))) ls h :=
 ar.dH fun j w jl act b=>by
  have h1:=b x (by simp [Op.operands]);rw [hx] at h1;obtain⟨e,hi⟩:=wR h1;exact⟨_,by simp [execOp,e],aI.ptr _ _ hi⟩
def EQ (ts:Ts) (x:Operand):Option D:=match ev ts x with
 | .a (.d y)=>some y
 | _=>none
def qD (ts:Ts):List Operand->Option (List D)
 | []=>some []
 | x::r=>match EQ ts x,qD ts r with
  | some y,some b=>some (y::b)
  | _,_=>none
theorem wT {j:J}{w:World}{jl:List Nat}{act:Act}:∀(l:List Operand) (xs:List D),qD ts l=some xs->(∀x,x∈l->bz j w jl (ev ts x) (act.eval x))->aY (aI j w) xs (l.map act.eval)
 | [],xs,h,_=>by simp [qD] at h; subst h; exact .nil
 | x::r,xs,h,f=>by
  simp only [qD] at h
  split at h
  ·rename_i y g h1 i
   simp at h; subst h;refine .cons ?_ (wT r g i fun z b=>f z (by simp [b]));have:=f x (by simp);unfold EQ at h1
   split at h1
   ·rename_i z b; simp at h1; subst h1; rw [b] at this; exact this
   ·simp at h1
  ·simp at h
theorem ar.makeFunc {f:FuncId}{ck:Array Operand}{xs:List D}(hx:qD ts ck.toList=some xs):ar P (mk dst (.makeFunc (.func f) #[] ck) ty pos aJ g) ts ls h {} (.a (.d (.func f xs))) ls h :=
 ar.dH fun j w jl act k=>by
  have h1:=wT (j:=j) (w:=w) (jl:=jl) (act:=act) ck.toList xs hx fun x hx=>k x (by simp [Op.operands] at hx ⊢; exact hx);refine⟨.func (.func f) #[] (ck.toList.map act.eval).toArray, ?_,aI.func f xs _ h1.length fun i hi l=>?_⟩
  ·simp [execOp,Instr.makeFunc]
   apply Array.ext'; simp
  ·obtain⟨y,b,hr⟩:=h1.get (List.getElem?_eq_getElem hi);rw [List.getElem?_eq_getElem l] at b;simp only [Option.some.injEq] at b;rw [b]; exact hr
end
end Go.Ab
/-
 Structs and slices that are built,variables,objects,calls.
-/
namespace Go.Ab
open Go Go.RowKit
variable {ax:bK}
inductive bL {α:Type}(x:α):List α->Nat->List α->Prop where
 | nil:bL x [] 0 [x]
 | cons {a:α}{l l':List α}{n:Nat}(h:bL x l n l'):bL x (a::l) (n+1) (a::l')
theorem bL.spec {α:Type}{x:α}{l l':List α}{n:Nat}(h:bL x l n l'):n=l.length/\l'=l++[x]:=by
 induction h with
 | nil=>exact⟨rfl,rfl⟩
 | cons _ b=>exact⟨by simp [b.1],by simp [b.2]⟩
inductive bJ {α:Type}(x:α):List α->Nat->List α->Prop where
 | zero {a:α}{l:List α}:bJ x (a::l) 0 (x::l)
 | succ {a:α}{l l':List α}{n:Nat}(h:bJ x l n l'):bJ x (a::l) (n+1) (a::l')
theorem bJ.spec {α:Type}{x:α}{l l':List α}{n:Nat}(h:bJ x l n l'):n<l.length/\l'=l.set n x:=by
 induction h with
 | zero=>exact⟨by simp,rfl⟩
 | succ _ b=>exact⟨by simp [b.1],by simp [b.2]⟩
theorem ar.of_run {P:Program}{o:Oper}{ts:Ts}{ls aM:List (List D)}{h h':ai}{fx:Fx}{v:V}
  (i:∀L H,((fx.rl||fx.wl)=true->L=ls)->((fx.rh||fx.wh)=true->H=h)->∀(j:J) (w:World) (jl:List Nat) (a:Act),HL j w jl L H->(∀x,x∈o.op.operands->bz j w jl (ev ts x) (a.eval x)) ->
   ∃r w' cv j' b,(execOp a.eval o).run P w=.ok r w'/\(r=.value cv\/(r=.skip/\cv=undef))/\bz j' w' b v cv/\HL j' w' b (bif fx.wl then aM else L) (bif fx.wh then h' else H)/\Ext jl b /\
    bV j w (aV j H jl) j' w' (aV j' (bif fx.wh then h' else H) b)):ar P o ts ls h fx v aM h':=by
 intro L H k hH j w jl a hl l K Q hk;obtain⟨r,w',cv,j',b,m,hr,hv,f,hx,g⟩:=i L H k hH j w jl a hl l;unfold Oper.wp;rw [m];rcases hr with hr|⟨hr,hu⟩
 ·subst hr; rw [Oper.upon_value]; exact hk v _ _ cv j' w' b ⟨rfl,rfl,rfl⟩ hv f hx g
 ·subst hr; subst hu; rw [Oper.upon_skip]; exact hk v _ _ undef j' w' b ⟨rfl,rfl,rfl⟩ hv f hx g
theorem Ext.snoc (jl:List Nat) (b:Nat):Ext jl (jl++[b]):=fun i x hx=>by
 rw [List.getElem?_append_left (List.getElem?_eq_some_iff.1 hx).1]; exact hx
section
variable {P:Program}{ts:Ts}{ls:List (List D)}{h:ai}{dst:Option Tmp}{ty:TypeId}{pos:String}{aJ:Array Edge}{g:Option (Nat×Bool)}
theorem ar.ER {o:Oper}{e:TypeId}{x:A}{i:Nat}{aM:List (List D)}(f:bL (cD x) ls i aM)
  (g:∀(j:J) (w:World) (jl:List Nat) (a:Act),(∀x,x∈o.op.operands->bz j w jl (ev ts x) (a.eval x))->∃v,de j w x v/\(execOp a.eval o).run P w=.ok (.value (.pointer (some ⟨w.heap.size,0,none⟩))) (w.alloc (.cells v.cells e))) :
  ar P o ts ls h { wl:=true } (.cZ i 0) aM h:=by
 refine ar.of_run fun L H k _ j w jl a hl l=>?_;obtain⟨m,p⟩:=f.spec;have q:=k rfl;subst q;obtain⟨v,hv,hr⟩:=g j w jl a l;obtain⟨h1,b⟩:=hl.loc v.cells.toList e (cD x) hv.cells;rw [Array.toArray_toList] at h1 b;refine⟨_,_,.pointer (some ⟨w.heap.size,0,none⟩),j,jl++[w.heap.size],hr,.inl rfl,⟨w.heap.size, ?_,rfl⟩, ?_,Ext.snoc _ _,b⟩
 ·rw [m,hl.2.each.length]; simp
 ·rw [p]; exact h1
theorem ar.LW {e:TypeId}{b:TI}{z:A}{i:Nat}{aM:List (List D)}(k:aU P e=some b) (l:b.zero=some z) (m:bL (cD z) ls i aM) :
  ar P (mk dst (.alloc e) ty pos aJ g) ts ls h { wl:=true } (.cZ i 0) aM h:=by
 obtain⟨inf,d,h1,_,_,_,_,f⟩:=fH k;rw [l] at f;obtain⟨v,o,p⟩:=nk f;refine ar.ER (e:=e) m fun j w jl a _=>⟨v,p j w, ?_⟩;simp [execOp,Instr.alloc,zeroValue,typeInfo,h1,o,newVar,newRow]
theorem ar.sM {e:TypeId}{x:Operand}{y:A}{i:Nat}{aM:List (List D)}(hx:ev ts x=.a y) (b:bL (cD y) ls i aM) :
  ar P (mk dst (.box e x) ty pos aJ g) ts ls h { wl:=true } (.cZ i 0) aM h :=
 ar.ER (e:=e) b fun j w jl a f=>by
  have h1:=f x (by simp [Op.operands]);rw [hx] at h1;exact⟨a.eval x,h1,by simp [execOp,Instr.box,newVar,newRow]⟩
theorem ar.zL {t:TypeId}{f:TI}{x y:Operand}{i off:Nat}{xs:List D}{v:A}{aM:List (List D)}(q:aU P t=some f) (hx:ev ts x=.cZ i off) (r:ev ts y=.a v) (hl:ls[i]?=some xs)
  (s:(cD v).length=f.size) (hle:off+f.size<=xs.length) (u:bJ (dG xs off (cD v)) ls i aM) (K:dst=none):ar P (mk dst (.store t x y) ty pos aJ g) ts ls h { wl:=true } .any aM h:=by
 refine ar.of_run fun L H z _ j w jl a hh m=>?_;have B:=z rfl;subst B;have h1:=m x (by simp [Op.operands]);have k:=m y (by simp [Op.operands]);rw [hx] at h1; rw [r] at k;obtain⟨b,o,e⟩:=zF h1;obtain⟨b',l,cs,M,hg,p,C⟩:=hh.2.each.get hl;rw [o] at l; simp only [Option.some.injEq] at l; subst l;obtain⟨w',E,F⟩:=EJ (ax:=ax) (P:=P) hg q k s (by rw [<- p.length]; exact hle)
 obtain⟨G,I⟩:=hh.Ll o C F (p.dG off k.cells);obtain⟨_,J⟩:=u.spec;refine⟨.skip,w',undef,j,jl, ?_,.inr ⟨rfl,rfl⟩,trivial, ?_,Ext.refl _,I⟩
 ·simp [execOp,Instr.storeAt,Instr.sureAddr,e,E]
 ·rw [J]; exact G
theorem ES {α:Type}:∀(pre l r:List α),l.length=r.length->dG (pre++l) pre.length r=pre++r
 | pre,[],[],_=>by simp [dG]
 | pre,a::l,b::r,h=>by
  have:=ES (pre++[b]) l r (by simpa using h);simp only [dG];rw [show (pre++a::l).set pre.length b=(pre++[b])++l by simp [List.set_append]];rw [show pre.length+1=(pre++[b]).length by simp];rw [this]; simp
 | _,[],_::_,h=>by simp at h
 | _,_::_,[],h=>by simp at h
theorem ar.LX {t:TypeId}{f:TI}{x y:Operand}{i:Nat}{xs b:List D}{aM:List (List D)}(j:aU P t=some f) (hx:ev ts x=.cZ i 0) (k:ev ts y=.a (.agg b)) (hl:ls[i]?=some xs)
  (l:b.length=f.size) (hle:xs.length=f.size) (m:bJ b ls i aM):ar P (mk none (.store t x y) ty pos aJ g) ts ls h { wl:=true } .any aM h :=
 ar.zL j hx k hl l (by omega) (by
  have:=ES [] xs b (by omega);simp only [List.nil_append,List.length_nil] at this;rw [show cD (.agg b)=b from rfl,this]; exact m) rfl
theorem ar.qE {t:TypeId}{b:TI}{x y:Operand}{i off:Nat}{xs xs':List D}{v:D}{aM:List (List D)}(f:aU P t=some b) (hx:ev ts x=.cZ i off) (j:ev ts y=.a (.d v)) (hl:ls[i]?=some xs)
  (k:b.size=1) (hv:bJ v xs off xs') (l:bJ xs' ls i aM):ar P (mk none (.store t x y) ty pos aJ g) ts ls h { wl:=true } .any aM h:=by
 obtain⟨h1,m⟩:=hv.spec;refine ar.zL f hx j hl (by rw [k]; rfl) (by omega) ?_ rfl;rw [show dG xs off (cD (.d v))=xs' by rw [m]; rfl]; exact l
theorem ar.LY {t:TypeId}{b:TI}{x y:Operand}{i off:Nat}{xs xs':List D}{v:A}{aM:List (List D)}(f:aU P t=some b) (hx:ev ts x=.cZ i off) (j:ev ts y=.a v) (hl:ls[i]?=some xs)
  (k:(cD v).length=b.size) (hle:off+b.size<=xs.length) (hv:dG xs off (cD v)=xs') (l:bJ xs' ls i aM):ar P (mk none (.store t x y) ty pos aJ g) ts ls h { wl:=true } .any aM h :=
 ar.zL f hx j hl k hle (by rw [hv]; exact l) rfl
theorem ar.qF {t:TypeId}{b:TI}{x y:Operand}{id off:Nat}{xs f:List D}{v:A}(p:aU P t=some b) (hx:ev ts x=.a (.d (.ptr id off))) (q:ev ts y=.a v) (hl:h id=some (.cells xs))
  (r:(cD v).length=b.size) (hle:off+b.size<=xs.length) (s:dG xs off (cD v)=f) (G:dst=none) :
  ar P (mk dst (.store t x y) ty pos aJ g) ts ls h { wh:=true } .any ls (h.set id (some (.cells f))):=by
 refine ar.of_run fun L H _ hH j w jl a hh m=>?_;have u:=hH rfl;subst u;have h1:=m x (by simp [Op.operands]);have i:=m y (by simp [Op.operands]);rw [hx] at h1; rw [q] at i;obtain⟨e,hid⟩:=wR h1;obtain⟨cs,z,hg,o,k⟩:=(hh.1.obj id _ hl).2;obtain⟨w',B,l⟩:=EJ (ax:=ax) (P:=P) hg p i r (by rw [<- o.length]; exact hle);have C:=l.le (j:=j) k;obtain⟨E,F⟩:=hh.setObj (o':=.cells f) hl rfl rfl k l ⟨_,z,l.here,by rw [<- s]; exact(o.dG off i.cells).imp fun _ _ h=>h.mono C,k⟩
 refine⟨.skip,w',undef,j,jl, ?_,.inr ⟨rfl,rfl⟩,trivial,E,Ext.refl _,F⟩;simp [execOp,Instr.storeAt,Instr.sureAddr,e,B]
theorem ar.fO {t:TypeId}{b:TI}{x y:Operand}{id off:Nat}{xs xs':List D}{v:D}(f:aU P t=some b) (hx:ev ts x=.a (.d (.ptr id off))) (i:ev ts y=.a (.d v)) (hl:h id=some (.cells xs))
  (j:b.size=1) (hv:bJ v xs off xs'):ar P (mk none (.store t x y) ty pos aJ g) ts ls h { wh:=true } .any ls (h.set id (some (.cells xs'))):=by
 obtain⟨h1,k⟩:=hv.spec;exact ar.qF f hx i hl (by rw [j]; rfl) (by omega) (by rw [k]; rfl) rfl
theorem ET {o:Oper}{e:TypeId}{x:A}(b:∀(j:J) (w:World) (jl:List Nat) (a:Act),(∀x,x∈o.op.operands->bz j w jl (ev ts x) (a.eval x))->∃v,de j w x v/\(execOp a.eval o).run P w=.ok (.value (.pointer (some ⟨w.heap.size,0,none⟩))) (w.alloc (.cells v.cells e))) :
  c_ P o ts ls h fun v aM h'=>∃id,h id=none/\v=.a (.d (.ptr id 0))/\aM=ls/\h'=h.set id (some (.cells (cD x))):=by
 intro j w jl a hl f K Q hk;obtain⟨v,hv,hr⟩:=b j w jl a f;have hle:Le j w (j.obj w.heap.size) (w.alloc (.cells v.cells e)) :=
  ((hl.data (.cells v.cells e) 0).2.toLe.trans (by
   rw [J.uI (hl.1.fresh _ (Nat.le_refl _))];exact⟨by simp [J.obj],fun id hi=>by simp only [J.obj]; rw [if_neg (by omega)],fun _=>Nat.le_refl _,fun _ _ _=>rfl,fun _ _=>.inl rfl⟩))
 obtain⟨h1,g⟩:=hl.obj (.cells v.cells e) (.cells (cD x)) rfl ⟨v.cells.toList,e,by
  simp only [J.obj,if_true]; rw [Array.toArray_toList]; exact heap_alloc_new w _,hv.cells.imp fun _ _ h=>h.mono hle,by
   simp only [J.obj,if_true]; exact hl.1.fresh _ (Nat.le_refl _)⟩
 unfold Oper.wp;rw [hr,Oper.upon_value];refine hk _ _ _ _ (j.obj w.heap.size) _ jl ⟨j.next,hl.1.nh (Nat.le_refl _),rfl,rfl,rfl⟩ ?_ h1 (Ext.refl _) g;have:=aI.ptr (j:=j.obj w.heap.size) (w:=w.alloc (.cells v.cells e)) j.next 0 (by simp [J.obj])
 simpa [J.obj,bz,de] using this
theorem c_.wU {e:TypeId}{b:TI}{z:A}(i:aU P e=some b) (k:b.zero=some z) :
  c_ P (mk dst (.alloc e) ty pos aJ g) ts ls h fun v aM h'=>∃id,h id=none/\v=.a (.d (.ptr id 0))/\aM=ls/\h'=h.set id (some (.cells (cD z))):=by
 obtain⟨inf,d,h1,_,_,_,_,f⟩:=fH i;rw [k] at f;obtain⟨v,l,m⟩:=nk f;refine ET (e:=e) fun j w jl a _=>⟨v,m j w, ?_⟩;simp [execOp,Instr.alloc,zeroValue,typeInfo,h1,l,newVar,newRow]
theorem c_.uP {e:TypeId}{x:Operand}{y:A}(hx:ev ts x=.a y) :
  c_ P (mk dst (.box e x) ty pos aJ g) ts ls h fun v aM h'=>∃id,h id=none/\v=.a (.d (.ptr id 0))/\aM=ls/\h'=h.set id (some (.cells (cD y))) :=
 ET (e:=e) fun j w jl a b=>by
  have h1:=b x (by simp [Op.operands]);rw [hx] at h1;exact⟨a.eval x,h1,by simp [execOp,Instr.box,newVar,newRow]⟩
def wV (ts:Ts) (x:Operand):Option A:=match ev ts x with
 | .a y=>some y
 | _=>none
def gE (ts:Ts):List Operand->Option (List A)
 | []=>some []
 | x::r=>match wV ts x,gE ts r with
  | some y,some b=>some (y::b)
  | _,_=>none
theorem zM {j:J}{w:World}{jl:List Nat}{act:Act}:∀(l:List Operand) (xs:List A),gE ts l=some xs->(∀x,x∈l->bz j w jl (ev ts x) (act.eval x))->aY (de j w) xs (l.map act.eval)
 | [],xs,h,_=>by simp [gE] at h; subst h; exact .nil
 | x::r,xs,h,f=>by
  simp only [gE] at h
  split at h
  ·rename_i y g h1 i
   simp at h; subst h;refine .cons ?_ (zM r g i fun z b=>f z (by simp [b]));have:=f x (by simp);unfold wV at h1
   split at h1
   ·rename_i z b; simp at h1; subst h1; rw [b] at this; exact this
   ·simp at h1
  ·simp at h
theorem uQ {f:Operand}{args:Array Operand}{cA:Array TypeId}{dO:FuncId}{ck:List D}{xs:List A}{cI:V->ai->Prop}{L:List (List D)}{H:ai}(q:ev ts f=.a (.d (.func dO ck))) (s:gE ts args.toList=some xs)
  (hc:AC P dO (xs++ck.map .d) H cI) :
  c_ P (mk dst (.call { callee:=.value f,args:=args,argTypes:=cA }) ty pos aJ g) ts L H fun v aM h'=>cI v h'/\aM=L:=by
 intro j w jl a hl k K Q hk;have h1:=k f (by simp [Op.operands,Call.operands]);rw [q] at h1;have t:=zM (j:=j) (w:=w) (jl:=jl) (act:=a) args.toList xs s fun x hx=>k x (by simp [Op.operands,Call.operands]; right; simpa using hx);have o:aI j w (.func dO ck) (a.eval f):=h1;generalize u:a.eval f=S at o;cases o with
 | func _ _ jO hlen hr =>
  have B:aY (de j w) (xs++ck.map .d) (args.toList.map a.eval++jO):=by
   refine t.append (aY.jN (by simp [hlen]) fun i x y hx C=>?_);rw [List.getElem?_map] at hx;cases e:ck[i]? with
   | none=>rw [e] at hx; simp at hx
   | some z =>
    rw [e] at hx; simp at hx; subst hx;obtain⟨hi,E⟩:=List.getElem?_eq_some_iff.1 e;obtain⟨G,I⟩:=List.getElem?_eq_some_iff.1 C;have:=hr i hi G;rw [E,I] at this; exact this
  have J:=hc.runs j w _ hl.1 B;have M:(execOp a.eval (mk dst (.call { callee:=.value f,args:=args,argTypes:=cA }) ty pos aJ g)).run P w=.ok (.enter dO (args.toList.map a.eval++jO).toArray) w:=by
   have he:=hc.enter (args.toList.map a.eval++jO).toArray w;have N:Array.map a.eval args++jO.toArray=(args.toList.map a.eval++jO).toArray:=by apply Array.ext'; simp
   simp only [execOp,resolve,u,Deferred.ofValue,Sem.run_bind,Sem.run_pure,Result.andThen,invoke,List.append_eq,Array.empty_append];rw [N]; exact he
  unfold Oper.wp;rw [M,Oper.upon_enter];refine J.mono ?_;rintro e w' ⟨r,cv,j',h',rfl,O,hv,hh,m⟩;have p:∀b,b∈jl->b<w.heap.size:=fun b l=>aV.lt hl (.inl l);have R:∀b,b∈jl->w'.heap[b]?=w.heap[b]?/\j'.F b=j.F b:=fun b l=>m.frame b (p b l) (hl.2.apart b l);refine hk r L h' cv j' w' jl ⟨O,rfl⟩ (hv.mono (Le.refl _ _) (fun i b l=>by simp at l)) ⟨hh,⟨oP hl.2.each fun xs b l h=>h.keep m.toLe (R b l),hl.2.nodup,fun b l k=>hl.2.apart b l (m.own b (p b l) k)⟩⟩ (Ext.refl _) ?_
  refine { m with frame:=fun b l hn=>m.frame b l (fun k=>hn ?_),own:=fun b l k=>?_ }
  ·rcases k with k|k
   ·simp at k
   ·exact .inr k
  ·rcases k with k|k
   ·exact .inl k
   ·rcases m.own b l (.inr k) with h|h
    ·simp at h
    ·exact .inr h
theorem c_.call {f:Operand}{args:Array Operand}{cA:Array TypeId}{dO:FuncId}{ck:List D}{xs:List A}{cI:V->ai->Prop}(b:ev ts f=.a (.d (.func dO ck))) (i:gE ts args.toList=some xs)
  (hc:AC P dO (xs++ck.map .d) h cI) :
  c_ P (mk dst (.call { callee:=.value f,args:=args,argTypes:=cA }) ty pos aJ g) ts ls h fun v aM h'=>cI v h'/\aM=ls:=uQ b i hc
theorem ar.iJ {f:Operand}{args:Array Operand}{cA:Array TypeId}{dO:FuncId}{ck:List D}{xs:List A}{v:V}(b:ev ts f=.a (.d (.func dO ck))) (i:gE ts args.toList=some xs)
  (hc:∀H,AC P dO (xs++ck.map .d) H fun r h'=>r=v/\h'=H) :
  ar P (mk dst (.call { callee:=.value f,args:=args,argTypes:=cA }) ty pos aJ g) ts ls h {} v ls h:=by
 intro L H _ _;exact(uQ b i (hc H)).mono fun _ _ _ ⟨⟨j,k⟩,l⟩=>⟨j,l,k⟩
theorem ar.bP {f:Operand}{args:Array Operand}{cA:Array TypeId}{dO:FuncId}{ck:List D}{xs:List A}{v:V}{h1:ai}(b:ev ts f=.a (.d (.func dO ck))) (i:gE ts args.toList=some xs)
  (hc:AC P dO (xs++ck.map .d) h fun r h'=>r=v/\h'=h1) :
  ar P (mk dst (.call { callee:=.value f,args:=args,argTypes:=cA }) ty pos aJ g) ts ls h { rh:=true,wh:=true } v ls h1:=by
 intro L H _ hH;have e:=hH rfl;subst e;exact(uQ b i hc).mono fun _ _ _ ⟨⟨j,k⟩,l⟩=>⟨j,l,k⟩
theorem ar.eu {f:Operand}{args:Array Operand}{cA:Array TypeId}{dO:FuncId}{ck:List D}{xs:List A}{v:V}(b:ev ts f=.a (.d (.func dO ck))) (i:gE ts args.toList=some xs)
  (hc:AC P dO (xs++ck.map .d) h fun r h'=>r=v/\h'=h) :
  ar P (mk dst (.call { callee:=.value f,args:=args,argTypes:=cA }) ty pos aJ g) ts ls h { rh:=true } v ls h:=by
 intro L H _ hH;have e:=hH rfl;subst e;exact(uQ b i hc).mono fun _ _ _ ⟨⟨j,k⟩,l⟩=>⟨j,l,k⟩
end
end Go.Ab
/-
 append.
-/
namespace Go.Ab
open Go Go.RowKit
variable {ax:bK}
theorem uR {j:J}{w:World}{k:Nat}{tok:Option Nat}{rows:List (List D)}{b o cap:Nat}(hk:∀r∈rows,r.length=k) (hn:rows.length<=cS) (hc:rows.length<=cap)
  (g:∀i x,rows.flatten[i]?=some x->o+i<j.F b/\∃v,w.cell? ⟨b,o+i,none⟩=some v/\aI j w x v) (ht:sr j tok rows.length ⟨b,o,none⟩ cap) :
  aI j w (.slice k tok false rows) (.slice (some ⟨b,o,none⟩) rows.length cap):=by
 refine aI.slice k tok rows ⟨b,o,none⟩ cap (fun i=>(w.cell? ⟨b,o+i,none⟩).getD undef) hk hn hc ⟨.inr rfl,fun i hi=>?_⟩ (fun i hi=>?_) ht
 ·obtain⟨h1,v,f,_⟩:=g i _ (List.getElem?_eq_getElem hi);exact⟨h1,by show w.cell? _=some ((w.cell? ⟨b,o+i,none⟩).getD undef); rw [f]; rfl⟩
 ·obtain⟨h1,v,f,l⟩:=g i _ (List.getElem?_eq_getElem hi);rw [f]; exact l
theorem wW {α:Type}:∀(l:List α) (n:Nat) (r:List α) (i:Nat),i<n->(dG l n r)[i]?=l[i]?
 | _,_,[],_,_=>rfl
 | l,n,v::r,i,h=>by
  rw [dG,wW (l.set n v) (n+1) r i (by omega),List.getElem?_set_ne (by omega)]
theorem zN {α:Type}:∀(l:List α) (n:Nat) (r:List α) (i:Nat) (x:α),r[i]?=some x->n+r.length<=l.length->(dG l n r)[n+i]?=some x
 | _,_,[],_,_,h,_=>by simp at h
 | l,n,v::r,i,x,h,hl=>by
  simp only [List.length_cons] at hl;cases i with
  | zero =>
   simp at h; subst h;rw [dG,Nat.add_zero,wW _ _ _ _ (by omega),List.getElem?_set];simp; omega
  | succ i =>
   rw [dG,show n+(i+1)=n+1+i by omega];exact zN (l.set n v) (n+1) r i x (by simpa using h) (by simp; omega)
section
variable {P:Program}{t u ty e:TypeId}{i:TypeInfo}{z:Value}{du:TypeDesc}
theorem LZ (ht:P.underlying t=some (.slice e)) (hu:P.underlying u=some du) (b:∀k,du≠.int k) (hi:P.info? e=some i) (f:i.zero=some z){w:World}{base:Option Addr}{sLen sCap m:Nat}{x:Value}{olds news:List Value}
  (hlen:(Builtin.lenOf x).run P w=.ok m w) (g:(Builtin.firstCells i.size sLen (.slice base sLen sCap)).run P w.drew=.ok olds.toArray w.drew) (j:(Builtin.firstCells i.size m x).run P w.drew=.ok news.toArray w.drew)
  (hg:sCap<sLen+m) (q:sLen+m<=9223372036854775807) (r:Builtin.nextslicecap (sLen+m) sCap*i.bytes<=281474976710656) :
  (Builtin.append_ #[t,u] ty #[.slice base sLen sCap,x]).run P w=.ok (.slice (some ⟨w.heap.size,0,none⟩) (sLen+m) (grownCap w (sLen+m) sCap e))
   (w.drew.alloc (.cells (olds++news++(Builtin.zeroCells z.cells (grownCap w (sLen+m) sCap e-(sLen+m))).toList).toArray e)):=by
 have hn:¬(sLen+m<=sCap):=by omega
 have l:¬(9223372036854775807<((sLen:Int)+(m:Int))):=by omega
 have o:¬(281474976710656<Builtin.nextslicecap (sLen+m) sCap*i.bytes):=by omega
 have p:(match du with|.int _=>true|_=>false)=false:=by cases du<;>first|rfl|exact absurd rfl (b _)
 simp [Builtin.append_,run_underlying ht,run_underlying hu,sizeOf,typeInfo,zeroValue,hi,f,p,hlen,hn,l,o,Question.forced,g,j,newRow,grownCap]
 congr 2
 apply Array.ext'
 simp [List.append_assoc]
theorem EU (ht:P.underlying t=some (.slice e)) (hu:P.underlying u=some du) (b:∀k,du≠.int k) (hi:P.info? e=some i){w w':World}{a:Addr}{sLen sCap m:Nat}{x:Value}{news:List Value}
  (hlen:(Builtin.lenOf x).run P w=.ok m w) (f:(Builtin.firstCells i.size m x).run P w=.ok news.toArray w) (hg:sLen+m<=sCap) (g:(storeCells (a.add (sLen*i.size)) news).run P w=.ok () w') :
  (Builtin.append_ #[t,u] ty #[.slice (some a) sLen sCap,x]).run P w=.ok (.slice (some a) (sLen+m) sCap) w':=by
 have j:(match du with|.int _=>true|_=>false)=false:=by cases du<;>first|rfl|exact absurd rfl (b _)
 simp [Builtin.append_,run_underlying ht,run_underlying hu,sizeOf,typeInfo,hi,j,hlen,hg,f,g]
theorem L0 (ht:P.underlying t=some (.slice e)) (hu:P.underlying u=some du) (b:∀k,du≠.int k) (hi:P.info? e=some i){w:World}{x:Value}
  (hlen:(Builtin.lenOf x).run P w=.ok 0 w) (f:(Builtin.firstCells i.size 0 x).run P w=.ok #[] w) :
  (Builtin.append_ #[t,u] ty #[.slice none 0 0,x]).run P w=.ok (.slice none 0 0) w:=by
 have g:(match du with|.int _=>true|_=>false)=false:=by cases du<;>first|rfl|exact absurd rfl (b _)
 simp [Builtin.append_,run_underlying ht,run_underlying hu,sizeOf,typeInfo,hi,g,hlen,f]
end
theorem EV {P:Program}{j:J}{w:World}{k:Nat}{tok:Option Nat}{nl:Bool}{rows:List (List D)}{cv:Value}{size:Nat}(h:aI j w (.slice k tok nl rows) cv) (hk:∀r∈rows,r.length=size) :
  ∃cs:List Value,aY (aI j w) rows.flatten cs/\∀w',(∀b o,o<j.F b->w'.cell? ⟨b,o,none⟩=w.cell? ⟨b,o,none⟩)->(Builtin.firstCells size rows.length cv).run P w'=.ok cs.toArray w':=by
 cases h with
 | f_ _ _ ht=>exact⟨[],.nil,fun w' _=>by simp [Builtin.firstCells]⟩
 | slice _ _ _ a cap f y hn hc bR hr ht =>
  by_cases l:rows=[]
  ·subst l;exact⟨[],.nil,fun w' _=>by simp [Builtin.firstCells,loadCells,loadCellsFrom]⟩
  have m:a=⟨a.block,a.off,none⟩:=by have:=bR.1.resolve_left l; cases a; simp at this; simp [this]
  have p:=(kY hk).1;obtain⟨cs,h1,q⟩:=zB (P:=P) (j:=j) (w:=w) (b:=a.block) (o:=a.off) rows.flatten fun i x hx=>by
   have hi:=(List.getElem?_eq_some_iff.1 hx).1;refine⟨f i,(bR.2 i hi).2, ?_⟩;have:=hr i hi;rw [(List.getElem?_eq_some_iff.1 hx).2] at this; exact this
  refine⟨cs,h1,fun w' hw=>?_⟩;have s:∀n v,cs[n]?=some v->w.cell? ⟨a.block,a.off+n,none⟩=some v:=by
   intro n v hv;obtain⟨x,hx,_⟩:=h1.get' hv;have hi:=(List.getElem?_eq_some_iff.1 hx).1;have t:=(bR.2 n hi).2;have g:(loadCells ⟨a.block,a.off,none⟩ rows.flatten.length).run P w=.ok ((List.range rows.flatten.length).map f).toArray w :=
    run_loadCells w _ _ f fun i hi=>by rw [add_plain]; exact(bR.2 i hi).2
   rw [q] at g;simp only [Result.ok.injEq,and_true] at g;have u:cs=(List.range rows.flatten.length).map f:=by
    have:=congrArg Array.toList g; simpa using this
   rw [u,List.getElem?_map,List.getElem?_range hi] at hv;simp at hv;rw [t,hv]
  rw [Builtin.firstCells,<- p,h1.length];rw [m];exact run_loadCells_list w' _ cs fun n v hv=>by
   rw [add_plain];obtain⟨x,hx,_⟩:=h1.get' hv;have hi:=(List.getElem?_eq_some_iff.1 hx).1;rw [hw _ _ (bR.2 n hi).1];exact s n v hv
theorem L3 {j:J}{w:World}{k:Nat}{tok:Option Nat}{nl:Bool}{rows:List (List D)}{cv:Value}(h:aI j w (.slice k tok nl rows) cv) (P:Program) (w':World):(Builtin.lenOf cv).run P w'=.ok rows.length w':=by
 cases h<;>simp [Builtin.lenOf]
theorem EW {R:Nat->D->Prop}{rows bX:List (List D)}{n:Nat}(hn:rows.flatten.length=n) (h1:∀i x,rows.flatten[i]?=some x->R i x) (b:∀i x,bX.flatten[i]?=some x->R (n+i) x) :
  ∀i x,(rows++bX).flatten[i]?=some x->R i x:=by
 intro i x hx;rw [List.flatten_append,List.getElem?_append] at hx
 split at hx
 ·exact h1 i x hx
 ·rename_i h
  have:=b _ x hx
  rwa [show n+(i-rows.flatten.length)=i by omega] at this
section
variable {P:Program}{ts:Ts}{ls:List (List D)}{h:ai}{dst:Option Tmp}{ty:TypeId}{pos:String}{aJ:Array Edge}{g:Option (Nat×Bool)}
theorem L4 {P:Program}{t:TypeId}{b:TI}(g:aU P t=some b) (hk:(∃e,b.k=.slice e)\/b.k=.str):∃d,P.underlying t=some d/\∀k,d≠.int k:=by
 obtain⟨i,d,h1,j,_,_,f,_⟩:=fH g;refine⟨d,j,fun k e=>?_⟩;subst e;simp only [fo] at f;rcases hk with ⟨e,hk⟩|hk<;>rw [hk] at f<;>cases f
def Src (P:Program) (j:J) (w:World) (size:Nat) (cv:Value) (bX:List (List D)):Prop :=
 (∀r∈bX,r.length=size)/\(∃news:List Value,aY (aI j w) bX.flatten news/\∀w',(∀b o,o<j.F b->w'.cell? ⟨b,o,none⟩=w.cell? ⟨b,o,none⟩)->(Builtin.firstCells size bX.length cv).run P w'=.ok news.toArray w')/\∀w',(Builtin.lenOf cv).run P w'=.ok bX.length w'
theorem Src.slice {P:Program}{j:J}{w:World}{k:Nat}{tok:Option Nat}{nl:Bool}{rows:List (List D)}{cv:Value}{size:Nat}(h:aI j w (.slice k tok nl rows) cv) (hk:∀r∈rows,r.length=size):Src P j w size cv rows :=
 ⟨hk,EV h hk,fun w'=>L3 h P w'⟩
theorem ar.L5 {t u e:TypeId}{ay af l:TI}{x y:Operand}{tk k m:Nat}{E:Option TypeId}{nl:Bool}{rows bX:List (List D)}{z:A}(aP:aU P t=some ay) (hk:ay.k=.slice e) (aQ:aU P e=some l) (aR:aU P u=some af) (aT:(∃e,af.k=.slice e)\/af.k=.str)
  (aW:l.zero=some z) (aX:(cD z).length=l.size) (bs:l.size≠0)
  (hx:ev ts x=.a (.d (.slice k (some tk) nl rows))) (aY:∀(j:J) (w:World) (jl:List Nat) (cv:Value),bz j w jl (ev ts y) cv->Src P j w l.size cv bX) (B:k=l.size\/rows=[])
  (K:h tk=some (.tok l.size m E)) (hm:m=rows.length) (aZ:(rows.length+bX.length)*l.bytes<=cS) (hlen:rows.length+bX.length<=cS) (a0:∀T,E=some T->T=e:=by intro T h; cases h) :
  ar P (mk dst (.call { callee:=.builtin .append,args:=#[x,y],argTypes:=#[t,u] }) ty pos aJ g) ts ls h { rh:=true,wh:=true }
   (.a (.d (.slice l.size (some tk) (nl&&bX.isEmpty) (rows++bX)))) ls (h.set tk (some (.tok l.size (rows.length+bX.length) E))):=by
 refine ar.of_run fun L H _ hH j w jl a hl M=>?_;have a1:=hH rfl;subst a1 hm;have h1:aI j w (.slice k (some tk) nl rows) (a.eval x):=by have:=M x (by simp [Op.operands,Call.operands]); rw [hx] at this; exact this
 obtain⟨az,⟨news,S,U⟩,a2⟩:=aY j w jl (a.eval y) (M y (by simp [Op.operands,Call.operands]));obtain⟨bt,bu,W,_,I,a3,_,aA⟩:=fH aQ;rw [aW] at aA;obtain⟨zv,a4,a5⟩:=nk aA;have a6:zv.cells.size=l.size:=by have:=(a5 j w).cells.length; rw [aX] at this; simpa using this.symm
 obtain⟨du,hu,X⟩:=L4 aR aT;have ht:=nt aP hk;obtain⟨ag,cap,Y,bv,bx,bA,aB,a7,a8⟩:=oZ (jl:=jl) h1;have ah:∀r∈rows,r.length=l.size:=by
  rcases B with e|e
  ·rw [<- e]; exact a7
  ·rw [e]; simp
 have Z:∀r∈rows++bX,r.length=l.size:=fun r hr=>(List.mem_append.1 hr).elim (ah r) (az r);have aa:=a2 w;have a9:=(kY az).1;have aj:=(kY ah).1;have ab:news.length=bX.length*l.size:=by rw [<- S.length,a9]
 obtain⟨aC,eD,aD,hblk,_⟩:=hl.1.obj tk _ K;have ak:∀(v:Value) (w':World),(Builtin.append_ #[t,u] ty #[a.eval x,a.eval y]).run P w=.ok v w' ->
   (execOp a.eval (mk dst (.call { callee:=.builtin .append,args:=#[x,y],argTypes:=#[t,u] }) ty pos aJ g)).run P w=.ok (.value v) w':=fun v w' hr=>by
  simp [execOp,resolve,invoke,builtin,hr]
 have p:(rows++bX).length=rows.length+bX.length:=by simp
 by_cases al:bX=[]
 ·-- nothing is appended
  subst al;have a_:news=[]:=List.eq_nil_of_length_eq_zero (by simpa using ab);subst a_;have C:(Builtin.append_ #[t,u] ty #[a.eval x,a.eval y]).run P w=.ok (a.eval x) w:=by
   rw [Y];cases ag with
   | none =>
    obtain⟨aE,a'⟩:=aB rfl;subst aE a';exact L0 ht hu X W (by simpa using aa) (by rw [I]; simpa using U w (fun _ _ _=>rfl))
   | some am =>
    have:=EU (P:=P) (ty:=ty) (sCap:=cap) (sLen:=rows.length) (m:=0) (a:=am) (news:=[]) (w':=w) ht hu X W (by simpa using aa) (by rw [I]; simpa using U w (fun _ _ _=>rfl)) (by omega) (by simp [storeCells])
    simpa using this
  refine⟨_,w,a.eval x,j,jl,ak _ _ C,.inl rfl, ?_, ?_,Ext.refl _, ?_⟩
  ·have ba:rows≠[]->k=l.size:=fun ad=>B.resolve_right ad;simp only [List.append_nil,List.isEmpty_nil,Bool.and_true];show aI j w _ _;by_cases ad:rows=[]
   ·subst ad;have key:∀an,aI j w (.slice k (some tk) nl []) an->aI j w (.slice l.size (some tk) nl []) an:=by
     intro an hh;cases hh with
     | f_ _ _ ht=>exact .f_ _ _ ht
     | slice _ _ _ a cap f hk hn hc bR hr ht=>exact .slice _ _ [] a cap f (by simp) hn hc bR hr ht
    exact key _ h1
   ·rw [<- ba ad]; exact h1
  ·simp only [List.length_nil,Nat.add_zero,cond_true];rw [ai.El H tk _ K]; exact hl
  ·simp only [List.length_nil,Nat.add_zero,cond_true];rw [ai.El H tk _ K]; exact bV.refl _ _ _
 ·have bB:0<bX.length:=List.length_pos_iff.2 al;have bb:(nl&&bX.isEmpty)=false:=by cases bX with|nil=>exact absurd rfl al|cons _ _=>simp
  rw [bb];by_cases N:rows.length+bX.length<=cap
  ·-- in place
   cases ag with
   | none=>obtain⟨aE,_⟩:=aB rfl; omega
   | some am =>
    obtain⟨bc,f,bR,bd⟩:=a8 am rfl;obtain⟨_,be⟩:=bc tk rfl;obtain⟨_,bf⟩:=be _ aD;rcases bf rfl with ⟨_,hc⟩|⟨b,ao,bg⟩
    ·omega
    ·subst bg;dsimp only at ao;obtain⟨cs,ce,hg,ap,bh,bC,bi⟩:=hblk b cap ao;have aF:w.heap[b]?=some (.cells cs.toList.toArray ce (0,0)):=by simpa using hg
     obtain⟨w',bj,q⟩:=zC (ax:=ax) (P:=P) (off:=rows.length*l.size) news 0 cs.toList w aF (by
      rw [ab]; simp only [Array.length_toList,ap]; rw [Nat.add_zero,<- Nat.add_mul]; exact Nat.mul_le_mul_right _ N) (EI S)
     rw [Nat.add_zero] at q;have C:(Builtin.append_ #[t,u] ty #[a.eval x,a.eval y]).run P w=.ok (.slice (some ⟨b,0,none⟩) (rows.length+bX.length) cap) w':=by
      rw [Y];exact EU ht hu X W aa (by rw [I]; exact U w fun _ _ _=>rfl) N (by rw [add_plain,I,Nat.zero_add]; exact bj)
     have bk:bS j tk (.tok l.size rows.length E)=some b:=by simp [bS,aD,ao]
     have ae:∀o,w'.cell? ⟨b,o,none⟩=(dG cs.toList (rows.length*l.size) news)[o]?:=fun o=>by rw [cell_of_row w' b o _ ce (0,0) q.here]; simp
     have aG:∀o,w.cell? ⟨b,o,none⟩=cs.toList[o]?:=fun o=>by rw [cell_of_row w b o _ ce (0,0) aF]; simp
     obtain⟨aq,O⟩:=hl.grow (w':=w') (m':=rows.length+bX.length) K (by omega) (b:=b) (cap:=cap) q.here (by simp [EH,ap]) N (fun x hx _=>q.other x hx)
      (by rw [q.size]; exact Nat.le_refl _) (by rw [q.size]; omega) (.inr ⟨bk,fun o M=>by rw [ae,aG,wW _ _ _ _ (by rw [bh] at M; exact M)]⟩) q.os q.tape q.output bi
     refine⟨_,w',_,_,jl,ak _ _ C,.inl rfl, ?_,aq,Ext.refl _,O⟩;have hle:=O.toLe;have:=uR (j:=j.dw tk ⟨some (b,cap),rows.length+bX.length⟩ b ((rows.length+bX.length)*l.size)) (w:=w') (k:=l.size) (tok:=some tk) (rows:=rows++bX) (b:=b) (o:=0) (cap:=cap) Z
      (by rw [p]; exact hlen) (by rw [p]; exact N) (fun i x hx=>?_) (fun bl Q=>?_)
     ·rw [p] at this; exact this
     ·have au:i<(rows++bX).flatten.length:=(List.getElem?_eq_some_iff.1 hx).1;rw [(kY Z).1,p] at au;refine⟨by simp only [J.dw,if_true]; omega, ?_⟩;rw [Nat.zero_add,ae]
      revert i x hx
      have:=EW (R:=fun i x=>∃v,(dG cs.toList (rows.length*l.size) news)[i]?=some v/\aI (j.dw tk ⟨some (b,cap),rows.length+bX.length⟩ b ((rows.length+bX.length)*l.size)) w' x v) aj (bX:=bX)
       (fun i x hx=>by
        have hi:=(List.getElem?_eq_some_iff.1 hx).1;rw [wW _ _ _ _ (by omega)];have aH:=(bR.2 i hi).2;rw [Nat.zero_add,aG] at aH;refine⟨f i,aH, ?_⟩;have aK:=bd i hi;rw [(List.getElem?_eq_some_iff.1 hx).2] at aK;exact aK.mono hle)
       (fun i x hx=>by
        obtain⟨v,hv,hr⟩:=S.get hx;exact⟨v,zN _ _ _ _ _ hv (by rw [ab]; simp only [Array.length_toList,ap]; rw [<- Nat.add_mul]; exact Nat.mul_le_mul_right _ N),hr.mono hle⟩)
      exact fun i x hx _=>this i x hx
     ·simp only [Option.some.injEq] at Q;subst Q;refine⟨Nat.lt_of_lt_of_le aC hle.next,fun bm B=>?_⟩;simp only [J.dw,if_true,Option.some.injEq] at B;subst B;exact⟨by rw [p]; exact Nat.le_refl _,fun _=>.inr ⟨b,rfl,rfl⟩⟩
  ·-- a new array
   obtain⟨olds,aL,bo⟩:=EV (P:=P) h1 ah;have bp:olds.length=rows.length*l.size:=by rw [<- aL.length,aj]
   have aM:∀b o,o<j.F b->w.drew.cell? ⟨b,o,none⟩=w.cell? ⟨b,o,none⟩:=fun _ _ _=>rfl;have bD:cS=140737488355328:=rfl;have C:=LZ (P:=P) (ty:=ty) (w:=w) (base:=ag) (sLen:=rows.length) (sCap:=cap) (m:=bX.length) (x:=a.eval y) (olds:=olds) (news:=news) ht hu X W a4 aa
    (by rw [I,<- Y]; exact bo w.drew aM) (by rw [I]; exact U w.drew aM) (by omega) (by omega) (growslice_fits (by omega) (by rw [a3]; exact aZ))
   rw [<- Y] at C;generalize bq:grownCap w (rows.length+bX.length) cap e=G at C;have aN:rows.length+bX.length<=G:=by rw [<- bq]; exact grownCap_ge _ _ _ _
   generalize aw:olds++news++(Builtin.zeroCells zv.cells (G-(rows.length+bX.length))).toList=s at C;have br:s.length=G*l.size:=by
    rw [<- aw];simp only [List.length_append,bp,ab,Array.length_toList,size_zeroCells,a6,<- Nat.add_mul]
    congr 1; omega
   have aO:=heap_alloc_new w.drew (.cells s.toArray e);have ae:∀o,(w.drew.alloc (.cells s.toArray e)).cell? ⟨w.heap.size,o,none⟩=s[o]?:=fun o=>by
    rw [cell_of_row _ w.heap.size o s.toArray e (0,0) aO]; simp
   obtain⟨aq,O⟩:=hl.drew.grow (w':=w.drew.alloc (.cells s.toArray e)) (m':=rows.length+bX.length) K (by omega) (b:=w.heap.size) (cap:=G) aO (by simpa using br) aN
    (fun x hx bw=>uH bw) (by simp) (by simp) (.inl (Nat.le_refl _)) rfl rfl fS.rfl (fun T h=>(a0 T h).symm)
   refine⟨_,_,_,_,jl,ak _ _ C,.inl rfl, ?_,aq,Ext.refl _,(bV.drew j w _).trans O⟩;have hle:=((bV.drew j w (aV j H jl)).trans O).toLe;have:=uR (j:=j.dw tk ⟨some (w.heap.size,G),rows.length+bX.length⟩ w.heap.size ((rows.length+bX.length)*l.size)) (w:=w.drew.alloc (.cells s.toArray e)) (k:=l.size) (tok:=some tk) (rows:=rows++bX) (b:=w.heap.size)
    (o:=0) (cap:=G) Z (by rw [p]; exact hlen) (by rw [p]; exact aN) (fun i x hx=>?_) (fun bl Q=>?_)
   ·rw [p] at this; exact this
   ·have au:i<(rows++bX).flatten.length:=(List.getElem?_eq_some_iff.1 hx).1;rw [(kY Z).1,p] at au;refine⟨by simp only [J.dw,if_true]; omega, ?_⟩;rw [Nat.zero_add,ae]
    revert i x hx
    have:=EW (R:=fun i x=>∃v,s[i]?=some v/\aI (j.dw tk ⟨some (w.heap.size,G),rows.length+bX.length⟩ w.heap.size ((rows.length+bX.length)*l.size)) (w.drew.alloc (.cells s.toArray e)) x v) aj (bX:=bX)
     (fun i x hx=>by
      obtain⟨v,hv,hr⟩:=aL.get hx;refine⟨v, ?_,hr.mono hle⟩;have hi:=(List.getElem?_eq_some_iff.1 hv).1;rw [<- aw,List.append_assoc,List.getElem?_append_left hi]; exact hv)
     (fun i x hx=>by
      obtain⟨v,hv,hr⟩:=S.get hx;refine⟨v, ?_,hr.mono hle⟩;have hi:=(List.getElem?_eq_some_iff.1 hv).1;rw [<- aw,List.append_assoc,List.getElem?_append_right (by omega),show rows.length*l.size+i-olds.length=i by omega,List.getElem?_append_left hi]; exact hv)
    exact fun i x hx _=>this i x hx
   ·simp only [Option.some.injEq] at Q;subst Q;refine⟨Nat.lt_of_lt_of_le aC hle.next,fun bm B=>?_⟩;simp only [J.dw,if_true,Option.some.injEq] at B;subst B;exact⟨by rw [p]; exact Nat.le_refl _,fun _=>.inr ⟨w.heap.size,rfl,rfl⟩⟩
theorem ar.append {t u e:TypeId}{i f b:TI}{x y:Operand}{tk k k' m:Nat}{tok':Option Nat}{nl l:Bool}{rows bX:List (List D)}{z:A}(p:aU P t=some i) (hk:i.k=.slice e) (q:aU P e=some b) (s:aU P u=some f) (v:(∃e,f.k=.slice e)\/f.k=.str)
  (B:b.zero=some z) (C:(cD z).length=b.size) (E:b.size≠0)
  (hx:ev ts x=.a (.d (.slice k (some tk) nl rows))) (F:ev ts y=.a (.d (.slice k' tok' l bX))) (G:k=b.size\/rows=[]) (H:k'=b.size\/bX=[])
  (I:h tk=some (.tok b.size m)) (hm:m=rows.length) (J:(rows.length+bX.length)*b.bytes<=cS) (hlen:rows.length+bX.length<=cS) :
  ar P (mk dst (.call { callee:=.builtin .append,args:=#[x,y],argTypes:=#[t,u] }) ty pos aJ g) ts ls h { rh:=true,wh:=true }
   (.a (.d (.slice b.size (some tk) (nl&&bX.isEmpty) (rows++bX)))) ls (h.set tk (some (.tok b.size (rows.length+bX.length)))) :=
 ar.L5 p hk q s v B C E hx (fun j w jl cv hv=>by
  have o:aI j w (.slice k' tok' l bX) cv:=by rw [F] at hv; exact hv
  refine Src.slice o fun r hr=>?_;obtain⟨_,_,_,_,_,_,_,hh,_⟩:=oZ (jl:=jl) o;rcases H with e|e
  ·rw [<- e]; exact hh r hr
  ·rw [e] at hr; cases hr) G I hm J hlen
end
end Go.Ab
/-
 Struct and slice literals,maps,parts of slices,comparisons of structs,tokens.
-/
namespace Go.Ab
open Go Go.RowKit
variable {ax:bK}
theorem zO (off:Nat):∀(l:List Value) (k:Nat) (cs:Array Value),((l.zipIdx k).foldl (fun cs (p:Value×Nat)=>cs.setIfInBounds (off+p.2) p.1) cs).toList=dG cs.toList (off+k) l
 | [],_,_=>rfl
 | v::r,k,cs=>by
  simp only [List.zipIdx_cons,List.foldl_cons];rw [zO off r (k+1)];simp [dG,Nat.add_assoc]
def o4 (ts:Ts):List (Nat×Operand)->Option (List (Nat×A))
 | []=>some []
 | (i,x)::r=>match wV ts x,o4 ts r with
  | some y,some b=>some ((i,y)::b)
  | _,_=>none
theorem wX {j:J}{w:World}{jl:List Nat}{ts:Ts}{act:Act}:∀(l:List (Nat×Operand)) (xs:List (Nat×A)),o4 ts l=some xs->(∀x,x∈l.map (·.2)->bz j w jl (ev ts x) (act.eval x)) ->
  aY (fun p q=>p.1=q.1/\de j w p.2 q.2) xs (l.map fun p=>(p.1,act.eval p.2))
 | [],xs,h,_=>by simp [o4] at h; subst h; exact .nil
 | (i,x)::r,xs,h,f=>by
  simp only [o4] at h
  split at h
  ·rename_i y g h1 k
   simp at h; subst h;refine .cons ⟨rfl, ?_⟩ (wX r g k fun z b=>f z (by simp at b ⊢; exact .inr b));have:=f x (by simp);unfold wV at h1
   split at h1
   ·rename_i z b; simp at h1; subst h1; rw [b] at this; exact this
   ·simp at h1
  ·simp at h
def sN (T:List TI) (fs:List (Nat×TypeId)):List D->List (Nat×A)->Option (List D)
 | b,[]=>some b
 | b,(i,x)::r=>match fs[i]? with
  | some (o,g)=>match T[g]? with
   | some f=>match Nat.beq (cD x).length f.size&&Nat.ble (o+f.size) b.length with
    | true=>sN T fs (dG b o (cD x)) r
    | false=>none
   | none=>none
  | none=>none
section
variable {P:Program}{T:List TI}{ts:Ts}{ls:List (List D)}{h:ai}{dst:Option Tmp}{ty:TypeId}{pos:String}{aJ:Array Edge}{g:Option (Nat×Bool)}
theorem EY {P:Program}{T:List TI}(eF:kV P T):∀(fs:List Field) (w:World),(∀f∈fs,∃b,T[f.type]?=some b) ->
  ∃ps:List (Nat×Nat),(fs.mapM fun(f:Field)=>Prod.mk f.offset <$> sizeOf f.type).run P w=.ok ps w/\∀(i:Nat) (f:Field),fs[i]?=some f->∀b:TI,T[f.type]?=some b->ps[i]?=some (f.offset,b.size)
 | [],w,_=>⟨[],by simp,by simp⟩
 | f::fs,w,j=>by
  obtain⟨b,k⟩:=j f (by simp);obtain⟨ps,h1,l⟩:=EY eF fs w fun f m=>j f (by simp [m]);refine⟨(f.offset,b.size)::ps, ?_,fun i o hi p g=>?_⟩
  ·rw [List.mapM_cons,Sem.run_bind,Sem.run_map,jm (eF _ _ k)];simp only [Result.andThen,Sem.run_bind,h1,Sem.run_pure]
  ·cases i with
   | zero=>simp at hi; subst hi; rw [k] at g; simp at g; subst g; rfl
   | succ i=>simp at hi ⊢; exact l i o hi p g
theorem zP {j:J}{w:World}{T:List TI}{fs:List (Nat×TypeId)}{place:Nat->Option (Nat×Nat)}(s:∀i o l g,fs[i]?=some (o,l)->T[l]?=some g->place i=some (o,g.size)) :
  ∀(parts:List (Nat×A)) (t:List (Nat×Value)) (f k:List D) (cs:Array Value),sN T fs f parts=some k->aY (fun p q=>p.1=q.1/\de j w p.2 q.2) parts t->aY (aI j w) f cs.toList ->
  ∃m,Instr.fill place cs t=some m/\aY (aI j w) k m.toList
 | _,_,f,k,cs,b,.nil,r=>by simp [sN] at b; subst b; exact⟨cs,rfl,r⟩
 | (i,x)::ps,(I,v)::y,f,k,cs,b,.cons ⟨e,hr⟩ ht,r=>by
  dsimp only at e hr;subst e;simp only [sN] at b
  split at b
  ·rename_i o l z
   split at b
   ·rename_i g B
    split at b
    ·rename_i hc
     simp only [Bool.and_eq_true] at hc;have hl:=Nat.eq_of_beq_eq_true hc.1;have hle:=Nat.le_of_ble_eq_true hc.2;have C:=s i o l g z B;have u:=hr.cells;have E:v.cells.size=g.size:=by rw [<- hl,u.length]; simp
     have F:cs.size=f.length:=by rw [r.length]; simp
     have G:aY (aI j w) (dG f o (cD x)) (v.cells.zipIdx.foldl (fun cs (p:Value×Nat)=>cs.setIfInBounds (o+p.2) p.1) cs).toList:=by
      rw [<- Array.foldl_toList];have:=zO o v.cells.toList 0 cs;simp only [Array.toList_zipIdx];rw [this,Nat.add_zero];exact r.dG o u
     obtain⟨m,h1,H⟩:=zP s ps y _ k _ b ht G;refine⟨m, ?_,H⟩;rw [Instr.fill,C];dsimp only;rw [if_neg (by simp [E,F]; omega)];exact h1
    ·simp at b
   ·simp at b
  ·simp at b
theorem ar.build (eF:kV P T){t:TypeId}{b:TI}{fs:List (Nat×TypeId)}{l m:List D}{parts:Array (Nat×Operand)}{ps:List (Nat×A)}(u:T[t]?=some b) (hk:b.k=.struct fs) (v:b.zero=some (.agg l))
  (y:fs.all (fun f=>(T[f.2]?).isSome)=true) (z:o4 ts parts.toList=some ps) (B:sN T fs l ps=some m):ar P (mk dst (.build t parts) ty pos aJ g) ts ls h {} (.a (.agg m)) ls h :=
 ar.dH fun j w jl a C=>by
  have hr:=wX (j:=j) (w:=w) (jl:=jl) (act:=a) parts.toList ps z fun x hx=>C x (by simp [Op.operands] at hx ⊢; exact hx);have r:=eF t b u;obtain⟨inf,d,h1,_,_,_,_,s⟩:=fH r;rw [v] at s;obtain⟨zv,E,F⟩:=nk s;obtain⟨gs,hu,he⟩:=zG r hk;obtain⟨pl,G,H⟩:=EY (P:=P) eF gs.toList w fun f I=>by
   have:=List.all_eq_true.1 y (f.offset,f.type) (by rw [<- he]; exact List.mem_map.2 ⟨f,I,rfl⟩);exact Option.isSome_iff_exists.1 this
  obtain⟨q,J,K⟩:=zP (j:=j) (w:=w) (T:=T) (fs:=fs) (place:=(pl.toArray[·]?)) (fun i o O L hi M=>by
   rw [<- he,List.getElem?_map] at hi;cases e:gs.toList[i]? with
   | none=>rw [e] at hi; simp at hi
   | some f=>rw [e] at hi; simp at hi; obtain⟨rfl,rfl⟩:=hi; simpa using H i f e L M) ps _ l m zv.cells B hr (F j w).cells
  refine⟨.agg q, ?_,⟨q.toList,by simp,K⟩⟩;have N:(Instr.build t (parts.map fun(i,x)=>(i,a.eval x))).run P w=.ok (.agg q) w:=by
   simp only [Instr.build,Sem.run_bind,zeroValue,typeInfo,run_program,h1,E,Result.andThen,Sem.run_pure,eE hu];rw [Array.mapM_eq_mapM_toList,Sem.run_map];rw [show (List.mapM _ gs.toList:Sem (List (Nat×Nat)))=List.mapM (fun f=>Prod.mk f.offset <$> sizeOf f.type) gs.toList from by congr 1];rw [G];simp only [Result.andThen];have e:(Array.map (fun(x:Nat×Operand)=>(x.1,a.eval x.2)) parts).toList=parts.toList.map fun p=>(p.1,a.eval p.2):=by simp
   rw [e,J];simp
  simp only [execOp,Sem.run_bind,N,Result.andThen,Sem.run_pure]
def sO (n:Nat):List (List D)->List (Nat×A)->Option (List (List D))
 | rows,[]=>some rows
 | rows,(i,x)::r=>match Nat.beq (cD x).length n&&Nat.blt i rows.length with
  | true=>sO n (rows.set i (cD x)) r
  | false=>none
theorem EZ {n:Nat}:∀{rows:List (List D)}(_:∀r∈rows,r.length=n){i:Nat}(_:i<rows.length){r:List D}(_:r.length=n),(rows.set i r).flatten=dG rows.flatten (i*n) r
 | [],_,i,hi,_,_=>by simp at hi
 | b::rs,hk,i,hi,r,hr=>by
  have h0:b.length=n:=hk b (by simp);cases i with
  | zero =>
   simp only [List.set_cons_zero,List.flatten_cons,Nat.zero_mul]
   apply List.ext_getElem?
   intro k;by_cases g:k<n
   ·rw [List.getElem?_append_left (by omega)];have:=zN (b++rs.flatten) 0 r k (r[k]'(by omega)) (List.getElem?_eq_getElem (by omega)) (by simp; omega);rw [Nat.zero_add] at this;rw [this,List.getElem?_eq_getElem (by omega)]
   ·rw [List.getElem?_append_right (by omega)];have:∀(l:List D) (m:Nat) (s:List D) (k:Nat),m+s.length<=k->(dG l m s)[k]?=l[k]?:=by
     intro l m s;induction s generalizing l m with
     | nil=>intros; rfl
     | cons v s f=>intro k hk; simp at hk; rw [dG,f _ _ k (by omega),List.getElem?_set_ne (by omega)]
    rw [this _ _ _ _ (by omega),List.getElem?_append_right (by omega),h0,hr]
  | succ i =>
   simp only [List.set_cons_succ,List.flatten_cons];rw [EZ (fun x hx=>hk x (by simp [hx])) (by simpa using hi) hr];have:∀(p l:List D) (m:Nat) (s:List D),dG (p++l) (p.length+m) s=p++dG l m s:=by
    intro p l m s;induction s generalizing l m with
    | nil=>rfl
    | cons v s f=>rw [dG,dG,show (p++l).set (p.length+m) v=p++l.set m v by rw [List.set_append_right _ _ (by omega)]; simp,Nat.add_assoc,f]
   rw [<- this,h0,show (i+1)*n=n+i*n by rw [Nat.add_mul]; omega]
theorem E0 {j:J}{w:World}{n:Nat}:∀(parts:List (Nat×A)) (k:List (Nat×Value)) (rows bX:List (List D)) (cs:Array Value),sO n rows parts=some bX->(∀r∈rows,r.length=n) ->
  aY (fun p q=>p.1=q.1/\de j w p.2 q.2) parts k->aY (aI j w) rows.flatten cs.toList ->
  ∃f,Instr.fill (fun i=>some (i*n,n)) cs k=some f/\aY (aI j w) bX.flatten f.toList/\bX.length=rows.length/\∀r∈bX,r.length=n
 | _,_,rows,bX,cs,b,hk,.nil,g=>by simp [sO] at b; subst b; exact⟨cs,rfl,g,rfl,hk⟩
 | (i,x)::ps,(C,v)::m,rows,bX,cs,b,hk,.cons ⟨e,hr⟩ ht,g=>by
  dsimp only at e hr;subst e;simp only [sO] at b
  split at b
  ·rename_i hc
   simp only [Bool.and_eq_true] at hc;have hl:=Nat.eq_of_beq_eq_true hc.1;have bw:i<rows.length:=by simpa [Nat.blt_eq] using hc.2
   have l:=hr.cells;have o:v.cells.size=n:=by rw [<- hl,l.length]; simp
   have s:cs.size=rows.length*n:=by rw [<- (kY hk).1,g.length]; simp
   have hle:i*n+n<=rows.length*n:=by rw [<- Nat.succ_mul]; exact Nat.mul_le_mul_right n bw
   have t:aY (aI j w) (rows.set i (cD x)).flatten (v.cells.zipIdx.foldl (fun cs (p:Value×Nat)=>cs.setIfInBounds (i*n+p.2) p.1) cs).toList:=by
    rw [EZ hk bw hl,<- Array.foldl_toList];have:=zO (i*n) v.cells.toList 0 cs;simp only [Array.toList_zipIdx];rw [this,Nat.add_zero];exact g.dG _ l
   have u:∀r∈rows.set i (cD x),r.length=n:=fun r hr=>by
    rcases List.mem_or_eq_of_mem_set hr with h|h
    ·exact hk r h
    ·rw [h]; exact hl
   obtain⟨f,h1,y,z,B⟩:=E0 ps m _ bX _ b u ht t;refine⟨f, ?_,y,by rw [z]; simp,B⟩;rw [Instr.fill];dsimp only;rw [if_neg (by simp [o,s]; omega)];exact h1
  ·simp at b
theorem L6 {α:Type} [Inhabited α] (z:Array α) (len:Nat) (f:z.size≠0):((Array.range (len*z.size)).map (fun i=>z[i % z.size]!)).toList=(List.replicate len z.toList).flatten:=by
 induction len with
 | zero=>simp
 | succ len b =>
  have h1:((Array.range ((len+1)*z.size)).map (fun i=>z[i % z.size]!)).toList=((Array.range (len*z.size)).map (fun i=>z[i % z.size]!)).toList++z.toList:=by
   simp only [Array.toList_map,Array.toList_range];rw [Nat.add_mul,Nat.one_mul,List.range_add,List.map_append,List.map_map]
   congr 1
   apply List.ext_getElem?
   intro k;by_cases hk:k<z.size
   ·simp only [List.getElem?_map,List.getElem?_range hk,Option.map_some,Function.comp];have e:(len*z.size+k) % z.size=k:=by rw [Nat.mul_comm,Nat.mul_add_mod,Nat.mod_eq_of_lt hk]
    rw [e]; simp [hk]
   ·rw [List.getElem?_eq_none (by simp; omega),List.getElem?_eq_none (by simp; omega)]
  rw [h1,b];rw [List.replicate_succ',List.flatten_append]; simp
end
end Go.Ab
/-
 Slice literals,maps,parts of slices,comparisons of structs,tokens.
-/
namespace Go.Ab
open Go Go.RowKit
variable {ax:bK}
variable {fM:eN}
section
variable {P:Program}{T:List TI}{ts:Ts}{ls:List (List D)}{h:ai}{dst:Option Tmp}{ty:TypeId}{pos:String}{aJ:Array Edge}{g:Option (Nat×Bool)}
theorem ar.sP {t e:TypeId}{u l:TI}{z:A}{len:Nat}{parts:Array (Nat×Operand)}{ps:List (Nat×A)}{rows:List (List D)}(y:aU P t=some u) (hk:u.k=.slice e) (s:aU P e=some l)
  (O:l.zero=some z) (Q:Nat.beq (cD z).length l.size=true) (B:Nat.beq l.size 0=false) (hlen:Nat.ble (len*l.size) 16777216=true) (R:o4 ts parts.toList=some ps) (hr:sO l.size (List.replicate len (cD z)) ps=some rows) :
  ar P (mk dst (.buildSlice t len parts) ty pos aJ g) ts ls h {} (.full l.size rows) ls h:=by
 refine ar.of_run fun L H _ _ j w jl a hl C=>?_;have S:=wX (j:=j) (w:=w) (jl:=jl) (act:=a) parts.toList ps R fun x hx=>C x (by simp [Op.operands] at hx ⊢; exact hx);obtain⟨al,am,U,_,an,ao,_,E⟩:=fH s;rw [O] at E;obtain⟨zv,W,F⟩:=nk E;have G:(cD z).length=l.size:=Nat.eq_of_beq_eq_true Q;have X:l.size≠0:=fun e=>by rw [e] at B; simp at B
 have Y:len*l.size<=16777216:=Nat.le_of_ble_eq_true hlen;have Z:zv.cells.size=l.size:=by have:=(F j w).cells.length; rw [G] at this; simpa using this.symm
 have hzero:∀pre:Array Value,pre=(Array.range (len*l.size)).map (fun i=>zv.cells[i % zv.cells.size]!)->aY (aI j w) (List.replicate len (cD z)).flatten pre.toList:=by
  intro pre I;rw [I,<- Z,L6 _ _ (by omega)];have:=(F j w).cells;clear hr I hlen Y C;induction len with
  | zero=>exact .nil
  | succ n aa=>simp only [List.replicate_succ,List.flatten_cons]; exact this.append aa
 obtain⟨q,h1,ab,m,K⟩:=E0 (j:=j) (w:=w) ps _ _ rows _ hr (fun r hr=>by rw [List.eq_of_mem_replicate hr]; exact G) S (hzero _ rfl);simp only [List.length_replicate] at m;have ad:(Instr.buildSlice t len (parts.map fun(i,x)=>(i,a.eval x))).run P w=.ok (.slice (some ⟨w.heap.size,0,none⟩) len len) (w.alloc (.cells q e)):=by
  have ae:¬(16777216<len*l.size):=by omega
  have af:(Array.map (fun(x:Nat×Operand)=>(x.1,a.eval x.2)) parts).toList=parts.toList.map fun p=>(p.1,a.eval p.2):=by simp
  rw [<- af] at h1;by_cases h0:len*l.size=0
  ·have ag:len=0:=by
    rcases Nat.mul_eq_zero.1 h0 with e|e
    ·exact e
    ·exact absurd e X
   subst ag;simp only [Nat.zero_mul] at h1;have M:∀f:Nat->Value,Array.map f (Array.range 0)=#[]:=fun f=>by apply Array.ext'; simp
   simp only [M] at h1;simp [Instr.buildSlice,eE (nt y hk),jm s,newRow,M];simp at h1;rw [h1];simp
  ·simp [Instr.buildSlice,eE (nt y hk),jm s,ae,h0,zeroValue,typeInfo,U,W,newRow];simp at h1;rw [h1];simp
 have ap:=kY K;obtain⟨ah,N⟩:=hl.data (.cells q e) (rows.length*l.size);refine⟨_,_,.slice (some ⟨w.heap.size,0,none⟩) len len,j.eP w.heap.size (rows.length*l.size),jl,by simp [execOp,ad],.inl rfl, ?_,ah,Ext.refl _,N⟩;have hm:=uR (j:=j.eP w.heap.size (rows.length*l.size)) (w:=w.alloc (.cells q e)) (k:=l.size) (tok:=none) (rows:=rows) (b:=w.heap.size) (o:=0) (cap:=len) K (by
  rw [m]; have:len*1<=len*l.size:=Nat.mul_le_mul_left _ (by omega);unfold cS; omega) (by omega) (fun i x hx=>?_) (fun aq aj=>by simp at aj)
 ·rw [m] at hm; rw [m]; exact⟨hm,⟨w.heap.size,0,none⟩,by rw [m]⟩
 ·have au:=(List.getElem?_eq_some_iff.1 hx).1;obtain⟨v,hv,ak⟩:=ab.get hx;refine⟨by simp only [J.eP,if_true]; omega,v, ?_,ak.mono N.toLe⟩;rw [cell_of_row _ w.heap.size _ q e (0,0) (heap_alloc_new w _),Nat.zero_add]
  simpa using hv
theorem ar.E1 {o:Oper}{fx:Fx}{v b:V}{aM:List (List D)}{h':ai}(hc:ar P o ts ls h fx v aM h') (hv:∀j w jl cv,bz j w jl v cv->bz j w jl b cv):ar P o ts ls h fx b aM h':=by
 intro L H f hH j w jl a hl g K Q hk;exact hc L H f hH j w jl a hl g K Q fun u l k cv j' w' i ⟨m,p,q⟩ hr=>hk b l k cv j' w' i ⟨rfl,p,q⟩ (hv _ _ _ _ (m▸hr))
theorem ar.buildSlice {t e:TypeId}{f b:TI}{z:A}{len:Nat}{parts:Array (Nat×Operand)}{ps:List (Nat×A)}{rows:List (List D)}(i:aU P t=some f) (hk:f.k=.slice e) (j:aU P e=some b)
  (l:b.zero=some z) (m:Nat.beq (cD z).length b.size=true) (o:Nat.beq b.size 0=false) (hlen:Nat.ble (len*b.size) 16777216=true) (p:o4 ts parts.toList=some ps) (hr:sO b.size (List.replicate len (cD z)) ps=some rows) :
  ar P (mk dst (.buildSlice t len parts) ty pos aJ g) ts ls h {} (.a (.d (.slice b.size none false rows))) ls h :=
 (ar.sP i hk j l m o hlen p hr).E1 fun _ _ _ _ h=>h.1
theorem E2 {n:Nat}:∀{rows:List (List D)}(_:∀r∈rows,r.length=n) (k:Nat),(rows.take k).flatten=rows.flatten.take (k*n)
 | [],_,k=>by simp
 | r::rs,hk,0=>by simp
 | r::rs,hk,k+1=>by
  have hr:r.length=n:=hk r (by simp);rw [List.take_succ_cons,List.flatten_cons,E2 (fun x hx=>hk x (by simp [hx])),List.flatten_cons,show (k+1)*n=n+k*n by rw [Nat.add_mul]; omega];rw [show n+k*n=r.length+k*n by rw [hr],List.take_length_add_append]
theorem E3 {n:Nat}:∀{rows:List (List D)}(_:∀r∈rows,r.length=n) (k:Nat),(rows.drop k).flatten=rows.flatten.drop (k*n)
 | [],_,k=>by simp
 | r::rs,hk,0=>by simp
 | r::rs,hk,k+1=>by
  have hr:r.length=n:=hk r (by simp);rw [List.drop_succ_cons,E3 (fun x hx=>hk x (by simp [hx])),List.flatten_cons,show (k+1)*n=n+k*n by rw [Nat.add_mul]; omega];rw [show n+k*n=r.length+k*n by rw [hr],List.drop_length_add_append]
theorem L7 {j:J}{w:World}{k:Nat}{rows:List (List D)}{b:Addr}{f:Nat->Value}{cap:Nat}(hk:∀r∈rows,r.length=k) (hn:rows.length<=cS) (hc:rows.length<=cap)
  (bR:qy j w b rows f) (hr:∀i (h:i<rows.flatten.length),aI j w rows.flatten[i] (f i)){l r:Nat}(hl:l<=r) (hh:r<=rows.length) :
  aI j w (.slice k none false ((rows.take r).drop l)) (.slice (some (if cap=l then b else b.add (l*k))) (r-l) (cap-l)):=by
 have hlen:((rows.take r).drop l).length=r-l:=by simp; omega
 have q:∀x∈(rows.take r).drop l,x.length=k:=fun x hx=>hk x (List.mem_of_mem_take (List.mem_of_mem_drop hx));have s:((rows.take r).drop l).flatten=(rows.flatten.take (r*k)).drop (l*k):=by
  rw [E3 (fun x hx=>hk x (List.mem_of_mem_take hx)),E2 hk]
 have v:r*k<=rows.flatten.length:=by rw [(kY hk).1]; exact Nat.mul_le_mul_right k hh
 rw [<- hlen];by_cases g:cap=l
 ·rw [if_pos g];have m:(rows.take r).drop l=[]:=List.eq_nil_of_length_eq_zero (by rw [hlen]; omega);rw [m];exact aI.slice k none [] b (cap-l) f (by simp) (by simp) (by simp) ⟨.inl rfl,by simp⟩ (by simp) (fun t ht=>by simp at ht)
 ·by_cases o:rows=[]
  ·rw [if_neg g];have m:(rows.take r).drop l=[]:=by rw [o]; simp
   rw [m];exact aI.slice k none [] _ (cap-l) f (by simp) (by simp) (by simp) ⟨.inl rfl,by simp⟩ (by simp) (fun t ht=>by simp at ht)
  have u:b=⟨b.block,b.off,none⟩:=by have:=bR.1.resolve_left o; cases b; simp at this; simp [this]
  rw [if_neg g,u,add_plain];refine uR q (by rw [hlen]; omega) (by rw [hlen]; omega) (fun i x hx=>?_) (fun t ht=>by simp at ht);rw [s,List.getElem?_drop,List.getElem?_take] at hx
  split at hx
  ·rename_i bw
   have hi:=(List.getElem?_eq_some_iff.1 hx).1;have h1:=bR.2 (l*k+i) hi;refine⟨by have:=h1.1; omega,f (l*k+i),by rw [Nat.add_assoc]; exact h1.2, ?_⟩;have p:=hr (l*k+i) hi;rw [(List.getElem?_eq_some_iff.1 hx).2] at p; exact p
  ·simp at hx
theorem E4 {P:Program}{t e:TypeId}{b f:TI}(g:aU P t=some b) (hk:b.k=.slice e) (i:aU P e=some f){a:Option Addr}{len cap:Nat}{lo hi:Option Value}{w:World}{l r:Nat}
  (hl:(match lo with|some v=>Instr.sliceBound v r .sliceB|none=>pure 0).run P w=.ok l w) (hh:(match hi with|some v=>Instr.sliceBound v cap .sliceAcap|none=>pure len).run P w=.ok r w) :
  (Instr.sliceAt t (.slice a len cap) lo hi none).run P w=.ok (.slice (if cap=l then a else a.map (·.add (l*f.size))) (r-l) (cap-l)) w:=by
 simp only [Instr.sliceAt,Instr.slice,Instr.sliceBounds,Sem.run_bind,eE (nt g hk),Result.andThen,Sem.run_pure,jm i];cases lo<;>cases hi<;>simp_all
theorem ar.part {t e:TypeId}{z B:TI}{x:Operand}{lo hi:Option Operand}{k:Nat}{tok:Option Nat}{rows:List (List D)}{l r:Nat}(C:aU P t=some z) (hk:z.k=.slice e) (E:aU P e=some B)
  (hx:ev ts x=.a (.d (.slice k tok false rows))) (F:k=B.size)
  (m:match lo with|none=>l=0|some o=>∃i n,ev ts o=.a (.d (.int i n))/\0<=n/\l=n.toNat) (p:match hi with|none=>r=rows.length|some o=>∃i n,ev ts o=.a (.d (.int i n))/\0<=n/\r=n.toNat)
  (G:l<=r) (H:r<=rows.length):ar P (mk dst (.slice t x lo hi none) ty pos aJ g) ts ls h {} (.a (.d (.slice k none false ((rows.take r).drop l)))) ls h :=
 ar.dH fun j w jl act q=>by
  have h1:=q x (by simp [Op.operands]);rw [hx] at h1;obtain⟨b,cap,I,hn,hc,J,R,K,L⟩:=oZ h1;cases b with
  | none=>simp at J
  | some b =>
   obtain⟨_,f,bR,M⟩:=L b rfl;have N:(match lo.map act.eval with|some v=>Instr.sliceBound v r .sliceB|none=>pure 0).run P w=.ok l w:=by
    cases lo with
    | none=>simp at m ⊢; exact m.symm
    | some o =>
     obtain⟨i,n,s,u,y⟩:=m;have:=o3 (P:=P) (cap:=r) s (q o (by simp [Op.operands])) u (by omega) .sliceB;simp only [Option.map_some]; rw [this,y]
   have O:(match hi.map act.eval with|some v=>Instr.sliceBound v cap .sliceAcap|none=>pure rows.length).run P w=.ok r w:=by
    cases hi with
    | none=>simp at p ⊢; exact p.symm
    | some o =>
     obtain⟨i,n,s,u,y⟩:=p;have:=o3 (P:=P) (cap:=cap) s (q o (by simp [Op.operands])) u (by omega) .sliceAcap;simp only [Option.map_some]; rw [this,y]
   refine⟨_, ?_,L7 K hn hc bR M G H⟩;have:=E4 C hk E (a:=some b) (len:=rows.length) (cap:=cap) N O;simp only [execOp,Sem.run_bind,I,Option.map_none,this,Result.andThen,Sem.run_pure,F];by_cases Q:cap=l<;>simp [Q]
theorem ar.field {t:TypeId}{q b:TI}{fs:List (Nat×TypeId)}{x:Operand}{f o:Nat}{m:TypeId}{xs:List D}{v:A}(B:aU P t=some q) (hk:q.k=.struct fs) (i:fs[f]?=some (o,m)) (p:aU P m=some b) (r:b.k.sC=false)
  (hx:ev ts x=.a (.agg xs)) (hv:(match uN b.k with|true=>some (A.agg ((xs.drop o).take b.size))|false=>(xs[o]?).map A.d)=some v):ar P (mk dst (.field t x f) ty pos aJ g) ts ls h {} (.a v) ls h :=
 ar.dH fun j w jl a C=>by
  have h1:=C x (by simp [Op.operands]);rw [hx] at h1;obtain⟨cs,s,u⟩:=h1;obtain⟨gs,hu,he⟩:=zG B hk;have hg:∃fd:Field,gs[f]?=some fd/\fd.offset=o/\fd.type=m:=by
   rw [<- he,List.getElem?_map] at i;cases e:gs.toList[f]? with
   | none=>rw [e] at i; simp at i
   | some fd=>rw [e] at i; simp at i; exact⟨fd,by simpa using e,i.1,i.2⟩
  obtain⟨fd,h1,y,z⟩:=hg;cases l:uN b.k with
  | true =>
   rw [l] at hv; simp at hv; subst hv;refine⟨.agg (cs.toArray.extract o (o+b.size)), ?_,⟨(cs.drop o).take b.size, ?_,(u.drop o).take b.size⟩⟩
   ·simp [execOp,Instr.field,eE hu,h1,Go.part,y,z,zz p (K.sD r),l,jm p,asAgg,s]
   ·congr 1; apply Array.ext'; simp [List.drop_take]
  | false =>
   rw [l] at hv;simp only [Option.map_eq_some_iff] at hv;obtain⟨d,E,rfl⟩:=hv;obtain⟨cv,F,hr⟩:=u.get E;refine⟨cv, ?_,hr⟩;simp [execOp,Instr.field,eE hu,h1,Go.part,y,z,zz p (K.sD r),l,asAgg,s,F]
end
end Go.Ab
/-
 Maps with plain keys.
-/
namespace Go.Ab
open Go Go.RowKit
variable {ax:bK}
def sQ:D->D->Option Bool
 | .str s,.str t=>some (s==t)
 | .int k m,.int k' n=>if k=k' then some (decide (m=n)) else none
 | .bool a,.bool b=>some (a==b)
 | _,_=>none
def nv (key:D):List (D×A)->Option (Option A)
 | []=>some none
 | (k,v)::r=>match sQ key k with
  | some true=>some (some v)
  | some false=>nv key r
  | none=>none
def qG (key:D) (v:A):List (D×A)->Option (List (D×A))
 | []=>some [(key,v)]
 | (k,u)::r=>match sQ key k with
  | some true=>some ((key,v)::r)
  | some false=>(qG key v r).map ((k,u)::·)
  | none=>none
def gM:K->D->Bool
 | .str,.str _=>true
 | .int _,.int _ _=>true
 | .bool,.bool _=>true
 | _,_=>false
theorem bytes_beq (a b:List UInt8):((⟨a.toArray⟩:ByteArray)==⟨b.toArray⟩)=(a==b):=by
 rw [beq_toListBytes]; simp
theorem uS {j:J}{w:World}{d:TypeDesc}{key k:D}{g v:Value}{b:Bool}(f:gM (fo d) key=true) (hk:aI j w key g) (hv:aI j w k v) (he:sQ key k=some b):Instr.sameNow d g v=some b:=by
 unfold sQ at he
 split at he
 ·cases hk; cases hv;simp only [Option.some.injEq] at he; subst he;cases d<;>simp [gM,fo] at f;simp only [Instr.sameNow,bytes_beq]
 ·cases hk; cases hv
  split at he
  ·rename_i e; subst e
   simp only [Option.some.injEq] at he; subst he;cases d<;>simp [gM,fo] at f;simp only [Instr.sameNow,if_true]; rfl
  ·simp at he
 ·cases hk; cases hv;simp only [Option.some.injEq] at he; subst he;cases d<;>simp [gM,fo] at f;simp only [Instr.sameNow]
 ·simp at he
theorem L8 {j:J}{w:World}{d:TypeDesc}{key:D}{f:Value}(o:gM (fo d) key=true) (hk:aI j w key f){es:List (D×A)}{g:List MapEntry}(h:aY (jf j w) es g):∀(n:Nat) (r:Option A),nv key es=some r ->
  match r with
  | none=>Instr.findNow d f g n=some none
  | some v=>∃i cv,Instr.findNow d f g n=some (some (n+i,cv))/\de j w v cv/\∃m,g[i]?=some m/\m.val=cv/\Instr.sameNow d f m.key=some true:=by
 induction h with
 | nil=>intro n r hr; simp [nv] at hr; subst hr; rfl
 | cons hh ht p =>
  rename_i e m l y
  intro n r hr;obtain⟨k,u⟩:=e;simp only [nv] at hr
  split at hr
  ·rename_i he
   simp at hr; subst hr;have b:=uS o hk hh.1 he;exact⟨0,m.val,by simp [Instr.findNow,b],hh.2,m,rfl,rfl,b⟩
  ·rename_i he
   have b:=uS o hk hh.1 he;have:=p (n+1) r hr;cases r with
   | none=>simp only [Instr.findNow,b]; exact this
   | some v =>
    obtain⟨i,cv,h1,q,m',s,t,x⟩:=this;exact⟨i+1,cv,by simp only [Instr.findNow,b]; rw [h1,show n+1+i=n+(i+1) by omega],q,m',by simpa using s,t,x⟩
  ·simp at hr
theorem L9 {j:J}{w:World}{d:TypeDesc}{key:D}{b:Value}{v:A}{cv:Value}(q:gM (fo d) key=true) (hk:aI j w key b) (hv:de j w v cv){es:List (D×A)}{f:List MapEntry}(h:aY (jf j w) es f):∀(n br:Nat) (g:List (D×A)),qG key v es=some g ->
  (Instr.findNow d b f n=some none/\aY (jf j w) g (f++[{ key:=b,val:=cv,born:=br }])) \/
  (∃i u m,Instr.findNow d b f n=some (some (n+i,u))/\f[i]?=some m/\Instr.sameNow d b m.key=some true/\aY (jf j w) g (f.set i { m with key:=b,val:=cv })):=by
 induction h with
 | nil=>intro n br g he; simp [qG] at he; subst he; exact .inl ⟨rfl,.cons ⟨hk,hv⟩ .nil⟩
 | cons hh ht s =>
  rename_i e m l y
  intro n br g he;obtain⟨k,u⟩:=e;simp only [qG] at he
  split at he
  ·rename_i hq
   simp at he; subst he;have o:=uS q hk hh.1 hq;exact .inr ⟨0,m.val,m,by simp [Instr.findNow,o],rfl,o,.cons ⟨hk,hv⟩ ht⟩
  ·rename_i hq
   have o:=uS q hk hh.1 hq;simp only [Option.map_eq_some_iff] at he;obtain⟨r,hr,rfl⟩:=he;rcases s (n+1) br r hr with ⟨h1,p⟩|⟨i,u',m',h1,p,t,x⟩
   ·exact .inl ⟨by simp only [Instr.findNow,o]; exact h1,.cons hh p⟩
   ·exact .inr ⟨i+1,u',m',by simp only [Instr.findNow,o]; rw [h1,show n+1+i=n+(i+1) by omega],by simpa using p,t,.cons hh x⟩
  ·simp at he
theorem qH {P:Program}{t:TypeId}{f:TI}{k e:TypeId}(g:aU P t=some f) (hk:f.k=.map k e):P.underlying t=some (.map k e):=by
 obtain⟨i,d,h1,j,_,_,b,_⟩:=fH g;rw [hk] at b;cases d<;>simp [fo] at b;obtain⟨rfl,rfl⟩:=b; exact j
theorem uT {P:Program}{b:Bool}{n:Nat}{t:TypeId}{d:TypeDesc}{x:D}{v:Value}{j:J}{w0 w:World}(hu:P.underlying t=some d) (f:gM (fo d) x=true) (hx:aI j w0 x v):(Instr.checkKey b (n+1) t v).run P w=.ok () w:=by
 cases hx<;>cases d<;>simp [gM,fo] at f<;>simp [Instr.checkKey,eE hu]
section
variable {P:Program}{ts:Ts}{ls:List (List D)}{h:ai}{dst:Option Tmp}{ty:TypeId}{pos:String}{aJ:Array Edge}{g:Option (Nat×Bool)}
theorem L_ {a b:ByteArray}(h:(a==b)=true):a=b:=by
 obtain⟨⟨x⟩⟩:=a;obtain⟨⟨y⟩⟩:=b;have h':=bytes_beq x y;have f:(x==y)=true:=by rw [<- h']; exact h
 rw [eq_of_beq f]
theorem Ma (a:ByteArray):(a==a)=true:=by
 obtain⟨⟨x⟩⟩:=a;have h':=bytes_beq x x;rw [show ((⟨⟨x⟩⟩:ByteArray)==⟨⟨x⟩⟩)=(x==x) from h'];simp
theorem Mb {d:TypeDesc}{v:Value}:Instr.sameNow d v v≠some false:=by
 cases d<;>cases v<;>simp [Instr.sameNow,Ma]
theorem Mc {d:TypeDesc}{a b:Value}(h:Instr.sameNow d a b=some true):a=b:=by
 unfold Instr.sameNow at h
 split at h
 ·split at h
  ·rename_i e; subst e; simp at h; rw [h]
  ·simp at h
 ·exact congrArg Value.string (L_ (Option.some.inj h))
 ·simp at h; rw [h]
 ·simp at h
theorem E5 {d:TypeDesc}{v:Value}:∀{b:List MapEntry}{n:Nat},Instr.findNow d v b n=some none->∀m∈b,m.key≠v
 | [],_,_=>fun _ h=>by cases h
 | x::b,n,h=>fun m hm e=>by
  rw [Instr.findNow] at h
  split at h
  ·simp at h
  ·rename_i h1
   rcases List.mem_cons.1 hm with rfl|hm
   ·rw [e] at h1; exact Mb h1
   ·exact E5 h m hm e
  ·simp at h
theorem kR.push {g:List MapEntry}{br:Nat}(h:kR g br){k:Value}(hk:∀m∈g,m.key≠k) (v:Value):kR (g++[⟨k,v,br⟩]) (br+1):=by
 refine⟨?_,fun m hm=>?_, ?_⟩
 ·rw [List.map_append,List.nodup_append];refine⟨h.1,by simp,fun a i b f e=>?_⟩;obtain⟨m,hm,rfl⟩:=List.mem_map.1 i;simp only [List.map_cons,List.map_nil,List.mem_singleton] at f;have:=h.2.1 m hm;omega
 ·rcases List.mem_append.1 hm with hm|hm
  ·have:=h.2.1 m hm; omega
  ·rw [List.mem_singleton.1 hm]; exact Nat.lt_succ_self _
 ·rw [List.map_append,List.nodup_append];refine⟨h.2.2,by simp,fun a i b f e=>?_⟩;obtain⟨m,hm,rfl⟩:=List.mem_map.1 i;simp only [List.map_cons,List.map_nil,List.mem_singleton] at f;exact hk m hm (e.trans f)
theorem E6 {β:Type}{f:MapEntry->β}{b:List MapEntry}{i:Nat}{m m':MapEntry}(hm:b[i]?=some m) (g:f m'=f m):(b.set i m').map f=b.map f:=by
 refine List.ext_getElem? fun n=>?_;rw [List.getElem?_map,List.getElem?_map,List.getElem?_set];by_cases hn:i=n
 ·subst hn;obtain⟨bw,j⟩:=List.getElem?_eq_some_iff.1 hm;simp [bw,j,g]
 ·simp [hn]
theorem kR.set {b:List MapEntry}{br i:Nat}{m:MapEntry}(h:kR b br) (hm:b[i]?=some m){k v:Value}(hk:k=m.key):kR (b.set i { m with key:=k,val:=v }) br:=by
 have e:=E6 (f:=(·.born)) (m':={ m with key:=k,val:=v }) hm rfl;refine⟨by rw [e]; exact h.1,fun x hx=>?_,by rw [E6 (f:=(·.key)) hm hk]; exact h.2.2⟩;have:x.born∈b.map (·.born):=by rw [<- e]; exact List.mem_map_of_mem hx
 obtain⟨y,g,j⟩:=List.mem_map.1 this;rw [<- j]; exact h.2.1 y g
def MapAt (j:J) (w:World) (id b:Nat) (es:List (D×A)):Prop:=∃(c:Nat) (f:List MapEntry) (br:Nat),j.tok id=some ⟨some (b,c),1⟩/\w.heap[b]?=some (.map f.toArray br)/\aY (jf j w) es f/\j.F b=0/\kR f br
theorem wY {j:J}{w:World}{jl:List Nat}{id:Nat}{es:List (D×A)}{cv:Value}(g:gu j w id (.map es)) (h:bz j w jl (.a (.d (.map id))) cv):∃b,cv=.map (some b)/\MapAt j w id b es:=by
 have h':aI j w (.map id) cv:=h;obtain⟨b,c,i,br,h1,k,l,m,o⟩:=g;cases h' with
 | map _ b' hi hv =>
  obtain⟨_,p⟩:=hv _ h1;obtain⟨c',f⟩:=p rfl;simp only [Option.some.injEq,Prod.mk.injEq] at f;obtain⟨rfl,rfl⟩:=f;exact⟨b,rfl,c,i,br,h1,k,l,m,o⟩
theorem sS {P:Program}{w:World}{b:Nat}{f:Array MapEntry}{br:Nat}(h:w.heap[b]?=some (.map f br)):(getObj b).run P w=.ok (.map f br) w:=by
 simp [getObj,Sem.run,h]
theorem E7 {t m o:TypeId}{p q:TI}{j:J}{w:World}{id:Nat}{es:List (D×A)}{key:D}{s:Value}{r:Option A}{ok:Bool}(u:aU P t=some p) (hk:p.k=.map m o) (y:aU P m=some q) (f:gM q.k key=true)
  {b:Nat}(hm:MapAt j w id b es) (l:aI j w key s) (z:nv key es=some r){zv:Value}(B:r=none->(zeroValue o).run P w=.ok zv w) :
  ∃cv,(Instr.lookup t (.map (some b)) s ok).run P w=.ok (if ok then .tuple #[cv,.bool r.isSome] else cv) w/\match r with|none=>cv=zv|some v=>de j w v cv:=by
 obtain⟨_,G,br,_,hg,C,_⟩:=hm;obtain⟨H,I,_,g,_,_,E,_⟩:=fH y;rw [<- E] at f;have x:=L8 f l C 0 r z;cases r with
 | none =>
  refine⟨zv, ?_,rfl⟩;simp [Instr.lookup,eE (qH u hk),sS hg,uT g f l,Instr.findKey,eE g,x,B rfl]
 | some v =>
  obtain⟨i,cv,h1,F,_⟩:=x;refine⟨cv, ?_,F⟩;simp [Instr.lookup,eE (qH u hk),sS hg,uT g f l,Instr.findKey,eE g,h1]
theorem ar.Md {t f p:TypeId}{i l:TI}{x y:Operand}{id:Nat}{es:List (D×A)}{key:D}{v:A}(q:aU P t=some i) (hk:i.k=.map f p) (r:aU P f=some l) (hx:ev ts x=.a (.d (.map id))) (s:ev ts y=.a (.d key))
  (u:gM l.k key=true) (hm:h id=some (.map es)) (z:nv key es=some (some v)):ar P (mk dst (.lookup t x y false) ty pos aJ g) ts ls h { rh:=true } (.a v) ls h :=
 oV.sI ⟨rfl,rfl,fun L H _ hH j w jl a hl m=>by
  have h1:=m x (by simp [Op.operands]);have o:=m y (by simp [Op.operands]);rw [hx] at h1; rw [s] at o;rw [hH rfl] at hl;obtain⟨b,B,C⟩:=wY (hl.1.obj id _ hm).2 h1;obtain⟨cv,E,F⟩:=E7 (ok:=false) q hk r u C o z (zv:=undef) (by simp);exact⟨cv,by simp only [execOp,Sem.run_bind,B,E,Result.andThen,Sem.run_pure]; rfl,F⟩⟩
theorem ar.Me {t f i:TypeId}{l m o:TI}{x y:Operand}{id:Nat}{es:List (D×A)}{key:D}{z:A}(u:aU P t=some l) (hk:l.k=.map f i) (v:aU P f=some m) (B:aU P i=some o) (C:o.zero=some z)
  (hx:ev ts x=.a (.d (.map id))) (E:ev ts y=.a (.d key)) (F:gM m.k key=true) (hm:h id=some (.map es)) (G:nv key es=some none):ar P (mk dst (.lookup t x y false) ty pos aJ g) ts ls h { rh:=true } (.a z) ls h :=
 oV.sI ⟨rfl,rfl,fun L H _ hH j w jl a hl p=>by
  have h1:=p x (by simp [Op.operands]);have q:=p y (by simp [Op.operands]);rw [hx] at h1; rw [E] at q;rw [hH rfl] at hl;obtain⟨Q,R,I,_,S,U,_,r⟩:=fH B;rw [C] at r;obtain⟨zv,J,K⟩:=nk r;obtain⟨b,M,N⟩:=wY (hl.1.obj id _ hm).2 h1;obtain⟨cv,O,s⟩:=E7 (ok:=false) u hk v F N q G (zv:=zv) (fun _=>by simp [zeroValue,typeInfo,I,J]);dsimp only at s
  subst s;exact⟨cv,by simp only [execOp,Sem.run_bind,M,O,Result.andThen,Sem.run_pure]; rfl,K j w⟩⟩
theorem c_.makeMap {t:TypeId}:c_ P (mk dst (.makeMap t none) ty pos aJ g) ts ls h fun v aM h'=>∃id,h id=none/\v=.a (.d (.map id))/\aM=ls/\h'=h.set id (some (.map [])):=by
 intro j w jl a hl l K Q hk;have hr:(execOp a.eval (mk dst (.makeMap t none) ty pos aJ g)).run P w=.ok (.value (.map (some w.heap.size))) (w.alloc (.map #[] 0)):=by simp [execOp,Instr.makeMap]
 obtain⟨h1,b⟩:=hl.fG 0;obtain⟨f,i,k⟩:=h1.Lm (ai.cN _ _ _);unfold Oper.wp;rw [hr,Oper.upon_value];exact hk _ _ _ _ _ _ jl ⟨j.next,hl.1.nh (Nat.le_refl _),rfl,rfl,(ai.set_set _ _ _ _)⟩ k f (Ext.refl _) (b.trans i)
theorem Mf {d:TypeDesc}{a b:Value}(h:Instr.sameNow d a b=some true):Instr.sameBits 10000 b a=true:=by
 unfold Instr.sameNow at h
 split at h
 ·split at h
  ·rename_i e; subst e; simp at h; subst h; simp [Instr.sameBits]
  ·simp at h
 ·simp only [Option.some.injEq] at h;rw [beq_toListBytes] at h;simp only [Instr.sameBits,beq_toListBytes];simp at h ⊢; exact h.symm
 ·simp at h; subst h; simp [Instr.sameBits]
 ·simp at h
theorem fL.setObj {w:World}{b:Nat}{o o':Go.Obj}(h:w.heap[b]?=some o):fL w { w with heap:=w.heap.setIfInBounds b o' } b o':=by
 have bw:=ji h;refine⟨by simp,by simp [bw],fun x hx=>?_,rfl,rfl,fS.rfl⟩;simp [Array.getElem?_setIfInBounds,Ne.symm hx]
theorem ar.mapUpdate {t M U:TypeId}{N O:TI}{x y z:Operand}{id:Nat}{es l:List (D×A)}{key:D}{v:A}(Q:aU P t=some N) (hk:N.k=.map M U) (W:aU P M=some O) (hx:ev ts x=.a (.d (.map id))) (X:ev ts y=.a (.d key)) (Y:ev ts z=.a v)
  (s:gM O.k key=true) (hm:h id=some (.map es)) (hu:qG key v es=some l) (ak:dst=none):ar P (mk dst (.mapUpdate t x y z) ty pos aJ g) ts ls h { rh:=true,wh:=true } .any ls (h.set id (some (.map l))):=by
 refine ar.of_run fun L H _ hH j w jl a hl G=>?_;have Z:=hH rfl;subst Z;have h1:=G x (by simp [Op.operands]);have B:=G y (by simp [Op.operands]);have R:=G z (by simp [Op.operands]);rw [hx] at h1; rw [X] at B; rw [Y] at R;obtain⟨b,e,c,al,br,I,hg,aa,J,hB⟩:=wY (hl.1.obj id _ hm).2 h1;obtain⟨am,an,_,C,_,_,ab,_⟩:=fH W;rw [<- ab] at s;have S:∀(o:List MapEntry) (p:Nat),aY (jf j w) l o->kR o p->(Instr.mapUpdate t (.map (some b)) (a.eval y) (a.eval z)).run P w=.ok () { w with heap:=w.heap.setIfInBounds b (.map o.toArray p) } ->
   ∃r w' cv j' E,(execOp a.eval (mk dst (.mapUpdate t x y z) ty pos aJ g)).run P w=.ok r w'/\(r=.value cv\/(r=.skip/\cv=undef))/\bz j' w' E .any cv/\HL j' w' E L (H.set id (some (.map l)))/\Ext jl E /\
    bV j w (aV j H jl) j' w' (aV j' (H.set id (some (.map l))) E):=by
  intro o p ad ae af;have K:=fL.setObj (ax:=ax) (o':=.map o.toArray p) hg;have hle:=K.le (j:=j) J;obtain⟨f,F⟩:=hl.setObj (o':=.map l) hm (by simp [bS,I]) (by simp [bS,I]) J K ⟨b,c,o,p,I,K.here,ad.imp fun _ _ h=>h.mono hle,J,ae⟩;refine⟨.skip,_,undef,j,jl, ?_,.inr ⟨rfl,rfl⟩,trivial,f,Ext.refl _,F⟩;simp only [execOp,e,Sem.run_bind,af,Result.andThen,Sem.run_pure]
 rcases L9 s B R aa 0 br l hu with ⟨q,f⟩|⟨i,u,m,q,f,F,ag⟩
 ·refine S _ (br+1) f (hB.push (E5 q) _) ?_;simp [Instr.mapUpdate,eE (qH Q hk),sS hg,uT C s B,Instr.findKey,eE C,q,setObj,Sem.run,hg]
 ·refine S _ br ag (hB.set f (Mc F)) ?_;have ah:=Mf F;rw [Nat.zero_add] at q;simp [Instr.mapUpdate,eE (qH Q hk),sS hg,uT C s B,Instr.findKey,eE C,q,f,Instr.keyThatStays,ah,setObj,Sem.run,hg]
  congr 2
  apply Array.ext'
  simp
  apply List.ext_getElem?
  intro n;simp only [List.getElem?_modify,List.getElem?_set];by_cases hn:i=n
  ·subst hn;have bw:=(List.getElem?_eq_some_iff.1 f).1;have aj:=(List.getElem?_eq_some_iff.1 f).2;simp [bw,aj]
  ·simp [hn]
end
end Go.Ab
