import Derived.Test.YtbbkbkhdciklaaaGreatDoorE1
import Derived.Laws.Tables
import Derived.Lib.Strings
import Derived.Laws.Slices
import Derived.Laws.Concat
import Derived.Laws.StructEq
set_option maxRecDepth 100000
set_option maxHeartbeats 2000000
set_option linter.unusedVariables false
set_option linter.unusedSimpArgs false
/-
 Code,calls and results over abstract states.
-/
namespace Go.Ab
open Go Go.RowKit
variable {ak:bP}
variable {fE:ez}
inductive K where
 | bool|int (k:IntKind)|str|ptr (e:TypeId)|slice (e:TypeId)|map (k e:TypeId)|struct (fs:List (Nat×TypeId))|func|iface|other
 deriving DecidableEq
def fZ:TypeDesc->K
 | .bool=>.bool
 | .int k=>.int k
 | .string=>.str
 | .pointer e=>.ptr e
 | .slice e=>.slice e
 | .map k e=>.map k e
 | .struct fs=>.struct (fs.toList.map fun f=>(f.offset,f.type))
 | .func _ _ _=>.func
 | .interface _=>.iface
 | _=>.other
structure TI where
 k:K
 size:Nat
 bytes:Nat
 zero:Option A
def tY:List Value->Option (List D)
 | []=>some []
 | v::r=>match tU v,tY r with
  | some x,some xs=>some (x::xs)
  | _,_=>none
def w_:Option Value->Option A
 | some (.agg cs)=>(tY cs.toList).map .agg
 | some v=>(tU v).map .d
 | none=>none
def HE (P:Program):Nat->TypeId->List TypeId
 | 0,t=>[t]
 | n+1,t=>match P.underlying t with
  | some (.struct fs)=>fs.toList.flatMap fun f=>HE P n f.type
  | _=>[t]
def Af (P:Program) (t:TypeId):D->D
 | .slice k tok true []=>match P.underlying t with
  | some (.slice e)=>.slice (P.cellsOf e) tok true []
  | _=>.slice k tok true []
 | x=>x
def Di (P:Program):List TypeId->List D->List D
 | t::ts,x::xs=>Af P t x::Di P ts xs
 | _,xs=>xs
def Ag (P:Program) (t:TypeId):A->A
 | .d x=>.d (Af P t x)
 | .agg xs=>.agg (Di P (HE P 8 t) xs)
def bn (P:Program) (t:TypeId):Option TI :=
 match P.info? t,P.underlying t with
 | some i,some d=>some ⟨fZ d,i.size,i.bytes,(w_ i.zero).map (Ag P t)⟩
 | _,_=>none
theorem aF.NA {j:J}{w:World}{k k':Nat}{tok:Option Nat}{v:Value}(h:aF j w (.slice k tok true []) v):aF j w (.slice k' tok true []) v:=by
 cases h with
 | gH _ _ ht=>exact .gH _ _ ht
theorem HF {j:J}{w:World}{P:Program}{t:TypeId}{x:D}{v:Value}(h:aF j w x v):aF j w (Af P t x) v:=by
 unfold Af
 split
 ·split
  ·exact h.NA
  ·exact h
 ·exact h
theorem HG {j:J}{w:World}{P:Program}:∀{ts:List TypeId}{xs:List D}{vs:List Value},bI (aF j w) xs vs->bI (aF j w) (Di P ts xs) vs
 | [],xs,_,h=>by cases xs<;>exact h
 | _::_,_,_,.nil=>.nil
 | _::ts,_,_,.cons h t=>.cons (HF h) (HG (ts:=ts) t)
theorem NB {j:J}{w:World}{P:Program}{t:TypeId}{x:A}{v:Value}(h:cF j w x v):cF j w (Ag P t x) v:=by
 cases x with
 | d x=>exact HF (x:=x) h
 | agg xs=>obtain⟨cs,e,h⟩:=h; exact⟨cs,e,HG h⟩
theorem HH (j:J) (w:World):∀(cs:List Value) (xs:List D),tY cs=some xs->bI (aF j w) xs cs
 | [],xs,h=>by simp [tY] at h; subst h; exact .nil
 | v::r,xs,h=>by
  simp only [tY] at h
  split at h
  ·rename_i x ys h1 h2
   simp at h; subst h;exact .cons (Da j w v x h1) (HH j w r ys h2)
  ·simp at h
theorem gr {P:Program}{t:TypeId}{b:TI}(h:bn P t=some b) :
  ∃i d,P.info? t=some i/\P.underlying t=some d/\i.size=b.size/\i.bytes=b.bytes/\fZ d=b.k/\(w_ i.zero).map (Ag P t)=b.zero:=by
 unfold bn at h
 split at h
 ·rename_i i d h1 h2
  simp at h; subst h;exact⟨i,d,h1,h2,rfl,rfl,rfl,rfl⟩
 ·simp at h
theorem NC {z:Option Value}{x:A}(h:w_ z=some x):∃v,z=some v/\∀j w,cF j w x v:=by
 unfold w_ at h
 split at h
 ·rename_i cs
  cases e:tY cs.toList with
  | none=>rw [e] at h; simp at h
  | some xs =>
   rw [e] at h; simp at h; subst h;exact⟨_,rfl,fun j w=>⟨cs.toList,by simp,HH j w _ _ e⟩⟩
 ·rename_i v hn
  cases e:tU v with
  | none=>rw [e] at h; simp at h
  | some xs =>
   rw [e] at h; simp at h; subst h;exact⟨_,rfl,fun j w=>Da j w _ _ e⟩
 ·simp at h
theorem mi {P:Program}{t:TypeId}{z:Option Value}{x:A}(h:(w_ z).map (Ag P t)=some x):∃v,z=some v/\∀j w,cF j w x v:=by
 simp only [Option.map_eq_some_iff] at h;obtain⟨y,b,rfl⟩:=h;obtain⟨v,h1,h2⟩:=NC b;exact⟨v,h1,fun j w=>NB (h2 j w)⟩
def K.xa:K->Bool
 | .other=>true
 | _=>false
theorem K.Ah {k:K}(h:k.xa=false):k≠.other:=fun e=>by rw [e] at h; cases h
def Dj:K->Bool
 | .struct _=>true
 | _=>false
def tZ (b:TI) (xs:List D) (off:Nat):Option A :=
 match Dj b.k with
 | true=>match Nat.beq off 0&&Nat.beq xs.length b.size with
  | true=>some (.agg xs)
  | false=>match Nat.ble (off+b.size) xs.length with
   | true=>some (.agg ((xs.drop off).take b.size))
   | false=>none
 | false=>match xs[off]? with
  | some x=>some (.d x)
  | none=>none
theorem dz {P:Program}{t:TypeId}{d:TypeDesc}(h:P.underlying t=some d) (w:World):(underlying t).run P w=.ok d w:=run_underlying h w
theorem ND {P:Program}{t:TypeId}{b:TI}(g:bn P t=some b) (hk:b.k≠.other) (w:World):(isAgg t).run P w=.ok (Dj b.k) w:=by
 obtain⟨i,d,h1,h2,_,_,f,_⟩:=gr g;simp only [isAgg,Sem.run_bind,dz h2,Result.andThen];cases d<;>simp [fZ] at f<;>first|(rw [<- f]; rfl)|(exact absurd f.symm hk)|skip
theorem mj {P:Program}{t:TypeId}{b:TI}(f:bn P t=some b) (w:World):(sizeOf t).run P w=.ok b.size w:=by
 obtain⟨i,d,h1,h2,g,_⟩:=gr f;simp [sizeOf,typeInfo,h1,g]
def mm (P:Program) (T:List TI):Prop:=∀t b,T[t]?=some b->bn P t=some b
structure AC [bP] (P:Program) (f:FuncId) (args:List A) (h:ah) (cT:V->ah->Prop):Prop where
 enter:∀(cR:Array Value) (w:World),(callFunc f cR).run P w=.ok (.enter f cR) w
 runs:∀(j:J) (w:World) (cR:List Value),fI j w h->bI (cF j w) args cR->Calls P f cR.toArray w fun e w' =>
  ∃r cv j' h',e=.returned cv/\cT r h'/\bD j' w' [] r cv/\fI j' w' h'/\bT j w (aU j h []) j' w' (aU j' h' [])
theorem AC.mono {P:Program}{f:FuncId}{args:List A}{h:ah}{cT b:V->ah->Prop}(hc:AC P f args h cT) (g:∀r h',cT r h'->b r h'):AC P f args h b :=
 ⟨hc.enter,fun j w cR hr k=>(hc.runs j w cR hr k).mono fun _ _ ⟨r,cv,j',h',e,p,rest⟩=>⟨r,cv,j',h',e,g r h' p,rest⟩⟩
def AQ [bP] [ez] (Q:Exit->St->Prop) (j:J) (w:World) (jl:List Nat) (σ:St):Exit->Act->World->Prop :=
 fun e f w'=>∃b j' bp,Q e b/\fS j' w' bp b f/\bT j w (aU j σ.h jl) j' w' (aU j' b.h bp)
def ag [bP] [ez] (P:Program) (c:Code) (Q:Exit->St->Prop) (σ:St):Prop :=
 ∀(j:J) (w:World) (jl:List Nat) (a:Act),fS j w jl σ a->c.wp P (AQ Q j w jl σ) a w
def kw (next:St->Prop) (Q:Exit->St->Prop):Exit->St->Prop
 | .normal,σ=>next σ
 | e,σ=>Q e σ
def t_ (id:Nat) (Q:Exit->St->Prop):Exit->St->Prop
 | .exit i,σ=>if i=id then Q .normal σ else Q (.exit i) σ
 | e,σ=>Q e σ
theorem AQ.trans {Q:Exit->St->Prop}{j b:J}{w f:World}{jl g:List Nat}{σ k:St}(l:bT j w (aU j σ.h jl) b f (aU b k.h g)){e:Exit}{a:Act}{w':World}
  (h:AQ Q b f g k e a w'):AQ Q j w jl σ e a w' :=
 let ⟨m,j',bp,hq,p,he⟩:=h
 ⟨m,j',bp,hq,p,l.trans he⟩
section
variable {P:Program}{Q:Exit->St->Prop}{σ:St}
theorem ag.mono {c:Code}{Q':Exit->St->Prop}(h:ag P c Q σ) (hq:∀e σ,Q e σ->Q' e σ):ag P c Q' σ :=
 fun j w jl a b=>wp_mono (h j w jl a b) fun _ _ _ ⟨f,j',bp,q,r⟩=>⟨f,j',bp,hq _ _ q,r⟩
theorem ag.skip (h:Q .normal σ):ag P .skip Q σ:=fun j w jl _ b=>wp_skip ⟨σ,j,jl,h,b,bT.refl _ _ _⟩
theorem ag.ret (h:Q .ret σ):ag P .ret Q σ:=fun j w jl _ b=>wp_ret ⟨σ,j,jl,h,b,bT.refl _ _ _⟩
theorem ag.exit {id:Nat}(h:Q (.exit id) σ):ag P (.exit id) Q σ:=fun j w jl _ b=>wp_exit ⟨σ,j,jl,h,b,bT.refl _ _ _⟩
theorem ag.label {l:Nat}(h:Q .normal σ):ag P (.label l) Q σ:=fun j w jl _ b=>wp_label ⟨σ,j,jl,h,b,bT.refl _ _ _⟩
theorem ag.seq {x y:Code}(h:ag P x (kw (ag P y Q) Q) σ):ag P (.seq x y) Q σ:=by
 intro j w jl a k;refine wp_seq (wp_mono (h j w jl a k) ?_);rintro e l w' ⟨g,j',bp,hq,b,f⟩;cases e with
 | normal=>exact wp_mono (hq j' w' bp l b) fun e m p h=>AQ.trans f h
 | exit id=>exact⟨g,j',bp,hq,b,f⟩
 | goto id=>exact⟨g,j',bp,hq,b,f⟩
 | ret=>exact⟨g,j',bp,hq,b,f⟩
 | panic q=>exact⟨g,j',bp,hq,b,f⟩
 | outgrown=>exact⟨g,j',bp,hq,b,f⟩
theorem NE {j:J}{w:World}{jl:List Nat}{a:Act}{ts:Ts}{x:Operand}{b:Bool}(f:∀k,bD j w jl (get ts k) (a.tmps.getD k undef)) (hx:ev ts x=.a (.d (.bool b))):a.eval x=.bool b:=by
 have h:=pO f x;rw [hx] at h;have h':aF j w (.bool b) (a.eval x):=h;generalize a.eval x=y at h';cases h'; rfl
theorem ag.cond {c:Operand}{x y:Code}{b:Bool}(hc:ev σ.ts c=.a (.d (.bool b))) (ht:b=true->ag P x Q σ) (g:b=false->ag P y Q σ):ag P (.cond c x y) Q σ:=by
 intro j w jl a f;exact wp_cond_split (NE f.tmps hc) (fun e=>ht e j w jl a f) (fun e=>g e j w jl a f)
theorem ag.block {id:Nat}{c:Code}(h:ag P c (t_ id Q) σ):ag P (.block id c) Q σ:=by
 intro j w jl a k;refine wp_block (wp_mono (h j w jl a k) ?_);rintro e l w' ⟨b,j',bp,hq,f,g⟩;cases e with
 | exit i =>
  simp only [t_] at hq;simp only [Exit.inBlock]
  split
  ·rename_i e; rw [if_pos e] at hq; exact⟨b,j',bp,hq,f,g⟩
  ·rename_i e; rw [if_neg e] at hq; exact⟨b,j',bp,hq,f,g⟩
 | normal=>exact⟨b,j',bp,hq,f,g⟩
 | goto id=>exact⟨b,j',bp,hq,f,g⟩
 | ret=>exact⟨b,j',bp,hq,f,g⟩
 | panic m=>exact⟨b,j',bp,hq,f,g⟩
 | outgrown=>exact⟨b,j',bp,hq,f,g⟩
theorem ag.loop {α:Type}{c:Code}(inv:α->St) (m:α->Nat) (pre:α->Prop) (u:α) (h0:pre u)
  (hr:∀x,pre x->ag P c (kw (fun g=>∃y,g=inv y/\pre y/\m y<m x) Q) (inv x)):ag P (.loop c) Q (inv u):=by
 intro j w jl a v b k cs;have key:∀n x,m x=n->pre x->∀(j:J) (w:World) (jl:List Nat) (a:Act),fS j w jl (inv x) a ->
   ∃e t w',AQ Q j w jl (inv x) e t w'/\Arrives P (lone (b.at a (.code c::.inLoop c::k)) cs w) b k cs e t w':=by
  intro n;induction n using Nat.strongRecOn with
  | _ n z =>
   intro x hn B j w jl a v;obtain⟨e,p,q,⟨g,j',bp,hq,r,s⟩,f⟩:=hr x B j w jl a v b (.inLoop c::k) cs;cases e with
   | normal =>
    obtain⟨y,rfl,C,aJ⟩:=hq;obtain⟨E,a2,F,G,H⟩:=z (m y) (hn▸aJ) y rfl C j' q bp p r;exact⟨E,a2,F,AQ.trans s G,.of_steps (Steps.trans f (.one step_inLoop)) H⟩
   | exit id=>exact⟨_,p,q,⟨g,j',bp,hq,r,s⟩,.pass (x:=.inLoop c) rfl (fun _ _=>.inl (by simp)) f⟩
   | goto l=>exact⟨_,p,q,⟨g,j',bp,hq,r,s⟩,.pass (x:=.inLoop c) rfl (fun _ _=>.inl (by simp)) f⟩
   | ret=>exact⟨_,p,q,⟨g,j',bp,hq,r,s⟩,.pass (x:=.inLoop c) rfl (fun _ _=>.inl (by simp)) f⟩
   | panic I=>exact⟨_,p,q,⟨g,j',bp,hq,r,s⟩,.pass (x:=.inLoop c) rfl (fun _ _=>.inl (by simp)) f⟩
   | outgrown=>exact⟨_,p,q,⟨g,j',bp,hq,r,s⟩,.pass (x:=.inLoop c) rfl (fun _ _=>.inl (by simp)) f⟩
 obtain⟨e,t,w',hq,f⟩:=key _ u rfl h0 j w jl a v;exact⟨e,t,w',hq,.of_steps (.one step_loop) f⟩
theorem ag.region {id:Nat}{l:List Oper}(h:aI P l.toArray l (Q .normal) σ):ag P (.region id l.toArray false) Q σ:=by
 intro j w jl a b;exact wp_region_lit (h j w jl a b _ fun f j' w' bp m hq g k=>⟨f,j',bp,hq,g,k⟩)
theorem ag.draw (hm:P.follows .mixedOrders=true){id:Nat}{l:List Oper}(h:aH P l.toArray σ.n l [] (Q .normal) σ):ag P (.region id l.toArray true) Q σ:=by
 intro j w jl a b;exact aH.wp hm h rfl b fun f j' w' bp m hq g k=>⟨f,j',bp,hq,g,k⟩
def cI [bP] [ez] (σ b:St):Prop:=∀(j:J) (w:World) (jl:List Nat) (a:Act),fS j w jl σ a->∃j' bp,fS j' w bp b a/\bT j w (aU j σ.h jl) j' w (aU j' b.h bp)
theorem cI.refl (σ:St):cI σ σ:=fun j _ jl _ b=>⟨j,jl,b,bT.refl _ _ _⟩
theorem cI.trans {σ b f:St}(h:cI σ b) (h':cI b f):cI σ f:=by
 intro j w jl a g;obtain⟨k,l,m,p⟩:=h j w jl a g;obtain⟨q,r,s,t⟩:=h' k w l a m;exact⟨q,r,s,p.trans t⟩
theorem ag.ua {c:Code}{b:St}(hw:cI σ b) (h:ag P c Q b):ag P c Q σ:=by
 intro j w jl a f;obtain⟨j',bp,g,k⟩:=hw j w jl a f;exact wp_mono (h j' w bp a g) fun e a w h=>AQ.trans k h
theorem ag.post {c:Code}(h:ag P c (fun e f=>∃b,cI f b/\Q e b) σ):ag P c Q σ:=by
 intro j w jl a g;refine wp_mono (h j w jl a g) ?_;rintro e k w' ⟨t,j',bp,⟨b,hw,hq⟩,l,m⟩;obtain⟨p,q,r,s⟩:=hw j' w' bp k l;exact⟨b,p,q,hq,r,m.trans s⟩
inductive dR (ts:Ts) (n:Nat):Ts->Prop where
 | nil:dR ts n []
 | cons {k:Nat}{v:V}{r:Ts}(h:get ts k=v) (hv:(∀i off,v=.dH i off->i<n)/\∀c i off,v=.g_ c i off->i<n) (t:dR ts n r):dR ts n ((k,v)::r)
theorem dR.get {ts:Ts}{n:Nat}{b:Ts}(h:dR ts n b) (k:Nat):Ab.get b k=.any\/(Ab.get b k=Ab.get ts k/\(∀i off,Ab.get b k=.dH i off->i<n)/\∀c i off,Ab.get b k=.g_ c i off->i<n):=by
 induction h with
 | nil=>exact .inl rfl
 | @cons k' v r h hv t f =>
  by_cases e:k'=k
  ·subst e; rw [gp]; exact .inr ⟨h.symm,hv⟩
  ·rw [ia _ _ e]; exact f
theorem cI.keep {n:Nat}{ts f:Ts}{ls:List (List D)}{h:ah}(m:Nat) (hk:dR ts m f):cI ⟨n,ts,ls,h⟩ ⟨n,f,ls.take m,h⟩:=by
 intro j w jl a g;obtain⟨hl,q⟩:=g.hl.trim m;refine⟨j,jl.take m,⟨g.defers,g.size,fun k=>?_,hl⟩,q⟩;rcases hk.get k with e|⟨e,aJ,r⟩
 ·show bD _ _ _ (Ab.get f k) _;rw [e]; trivial
 ·show bD _ _ _ (Ab.get f k) _;have hv:=g.tmps k;have hv:bD j w jl (Ab.get ts k) (a.tmps.getD k undef):=hv;rw [<- e] at hv;cases hx:Ab.get f k with
  | any=>trivial
  | a x=>rw [hx] at hv; exact hv
  | dH i off =>
   rw [hx] at hv;obtain⟨b,l,p⟩:=hv;exact⟨b,by rw [List.getElem?_take_of_lt (aJ i off hx)]; exact l,p⟩
  | b_ xs=>rw [hx] at hv; exact hv
  | gd c x=>rw [hx] at hv; exact hv
  | full k rows=>rw [hx] at hv; exact hv
  | rH c k rows=>rw [hx] at hv; exact hv
  | sm c K=>rw [hx] at hv; exact hv
  | pK K=>rw [hx] at hv; exact hv
  | g_ c i off =>
   rw [hx] at hv;refine⟨fun hc=>?_,hv.2⟩;obtain⟨b,l,p⟩:=hv.1 hc;exact⟨b,by rw [List.getElem?_take_of_lt (r c i off hx)]; exact l,p⟩
theorem cI.forget {n:Nat}{ts:Ts}{ls:List (List D)}{h h':ah}(hh:∀id o,h' id=some o->h id=some o):cI ⟨n,ts,ls,h⟩ ⟨n,ts,ls,h'⟩:=by
 intro j w jl a b;obtain⟨hl,f⟩:=b.hl.forget hh;exact⟨j,jl,⟨b.defers,b.size,b.tmps,hl⟩,f⟩
end
def nC:Nat->List A->Ts
 | _,[]=>[]
 | k,x::r=>(k,.a x)::nC (k+1) r
theorem Dk {j:J}{w:World}(f:Nat->Value):∀(k:Nat) (args:List A) (cR:List Value),bI (cF j w) args cR->(∀i v,cR[i]?=some v->f (k+i)=v) ->
  ∀t,bD j w [] (get (nC k args) t) (f t)
 | k,_,_,.nil,_,_=>trivial
 | k,_,_,.cons (a:=x) (b:=v) (l:=l) (m:=m) h ht,g,t=>by
  by_cases e:k=t
  ·subst e;simp only [nC];rw [gp];have:=g 0 v rfl;rw [Nat.add_zero] at this;rw [this]; exact h
  ·simp only [nC];rw [ia _ _ e];exact Dk f (k+1) l m ht (fun i v hv=>by have:=g (i+1) v (by simpa using hv); rw [<- this]; congr 1; omega) t
def Ai (T:List TI) (σ:St):ResultVar->Option A
 | .tmp t=>match get σ.ts t with
  | .a x=>some x
  | _=>none
 | .cell t ty=>match get σ.ts t,T[ty]? with
  | .dH i off,some b=>match b.k.xa,σ.ls[i]? with
   | false,some xs=>tZ b xs off
   | _,_=>none
  | _,_=>none
def nD (T:List TI) (σ:St):List ResultVar->Option (List A)
 | []=>some []
 | r::rs=>match Ai T σ r,nD T σ rs with
  | some x,some xs=>some (x::xs)
  | _,_=>none
def lc:List A->V
 | [x]=>.a x
 | xs=>.b_ xs
end Go.Ab
/-
 Loads,stores and results; from the walk of a body to the contract of a function.
-/
namespace Go.Ab
open Go Go.RowKit
variable {ak:bP}
section
variable {fE:ez}
theorem aF.one {j:J}{w:World}{x:D}{v:Value}(h:aF j w x v):v.oneCell'=true:=by cases h<;>rfl
def Cells (j:J) (w:World) (b o:Nat) (xs:List D):Prop:=∀i x,xs[i]?=some x->∃v,w.cell? ⟨b,o+i,none⟩=some v/\aF j w x v
theorem add_plain (b o n:Nat):(⟨b,o,none⟩:Addr).add n=⟨b,o+n,none⟩:=by unfold Addr.add; split<;>simp_all
theorem Dl {P:Program}{j:J}{w:World}{b o:Nat}:∀(xs:List D),(∀i x,xs[i]?=some x->∃v,w.cell? ⟨b,o+i,none⟩=some v/\aF j w x v) ->
  ∃cs:List Value,bI (aF j w) xs cs/\(loadCells ⟨b,o,none⟩ xs.length).run P w=.ok cs.toArray w:=by
 intro xs h;have f:∃cs:List Value,bI (aF j w) xs cs/\∀i v,cs[i]?=some v->w.cell? ⟨b,o+i,none⟩=some v:=by
  induction xs generalizing o with
  | nil=>exact⟨[],.nil,by simp⟩
  | cons x r g =>
   obtain⟨v,hv,hr⟩:=h 0 x rfl;obtain⟨cs,f,k⟩:=g (o:=o+1) fun i y l=>by
    have:=h (i+1) y (by simpa using l)
    rwa [show o+(i+1)=o+1+i by omega] at this
   refine⟨v::cs,.cons hr f,fun i u hu=>?_⟩;cases i with
   | zero=>simp at hu; subst hu; exact hv
   | succ i=>rw [show o+(i+1)=o+1+i by omega]; exact k i u (by simpa using hu)
 obtain⟨cs,h1,h2⟩:=f;refine⟨cs,h1, ?_⟩;rw [h1.length];exact run_loadCells_list w _ cs fun i v hv=>by rw [add_plain]; exact h2 i v hv
theorem Aj {P:Program}{j:J}{w:World}{b o off:Nat}{xs:List D}(hc:Cells j w b o xs){t:TypeId}{g:TI}(l:bn P t=some g) (hk:g.k≠.other){x:A}(hl:tZ g xs off=some x) :
  ∃v,(loadVar t ⟨b,o+off,none⟩).run P w=.ok v w/\cF j w x v:=by
 unfold tZ at hl;simp only [loadVar,Sem.run_bind,ND l hk,Result.andThen];cases q:Dj g.k with
 | false =>
  rw [q] at hl;dsimp only at hl
  split at hl
  ·rename_i y f
   simp at hl; subst hl;obtain⟨v,hv,hr⟩:=hc off y f;refine⟨v, ?_,hr⟩;simp [hv]
  ·simp at hl
 | true =>
  rw [q] at hl;dsimp only at hl;have s:∀ys:List D,ys.length=g.size->(∀i y,ys[i]?=some y->xs[off+i]?=some y)->∃v,(loadCells ⟨b,o+off,none⟩ g.size).run P w=.ok v w/\cF j w (.agg ys) (.agg v):=by
   intro ys hlen m;obtain⟨cs,h1,h2⟩:=Dl (P:=P) (j:=j) (w:=w) (b:=b) (o:=o+off) ys fun i y f=>by
    have:=hc (off+i) y (m i y f)
    rwa [<- Nat.add_assoc] at this
   rw [hlen] at h2;exact⟨_,h2,cs,rfl,h1⟩
  have r:∀ys:List D,ys.length=g.size->(∀i y,ys[i]?=some y->xs[off+i]?=some y) ->
    ∃v,((Sem.run P (if true=true then Value.agg <$> (do loadCells ⟨b,o+off,none⟩ (<- sizeOf t)) else load ⟨b,o+off,none⟩)) w)=.ok v w/\cF j w (.agg ys) v:=by
   intro ys hlen m;obtain⟨v,h1,h2⟩:=s ys hlen m;exact⟨.agg v,by simp [mj l,h1],h2⟩
  split at hl
  ·rename_i p
   simp at hl; subst hl;simp only [Bool.and_eq_true] at p;have u:off=0:=Nat.eq_of_beq_eq_true p.1;have z:xs.length=g.size:=Nat.eq_of_beq_eq_true p.2;obtain⟨v,h1,h2⟩:=r xs z fun i y f=>by rw [u,Nat.zero_add]; exact f
   exact⟨v,by simpa [mj l] using h1,h2⟩
  ·split at hl
   ·rename_i B
    simp at hl; subst hl;have hle:=Nat.le_of_ble_eq_true B;obtain⟨v,h1,h2⟩:=r ((xs.drop off).take g.size) (by simp; omega) fun i y f=>by
     rw [List.getElem?_take] at f
     split at f
     ·rw [List.getElem?_drop] at f; exact f
     ·simp at f
    exact⟨v,by simpa [mj l] using h1,h2⟩
   ·simp at hl
theorem k9.cells {j:J}{w:World}{b:Nat}{xs:List D}(h:k9 j w b xs):Cells j w b 0 xs:=by
 obtain⟨cs,e,hh,hx,_⟩:=h;intro i x hi;obtain⟨v,hv,hr⟩:=hx.get hi;exact⟨v,by rw [Nat.zero_add,cell_of_row w b i cs.toArray e (0,0) hh]; simpa using hv,hr⟩
def en {α:Type}:List α->Nat->List α->List α
 | l,_,[]=>l
 | l,n,v::r=>en (l.set n v) (n+1) r
theorem Dm {α:Type}:∀(l:List α) (n:Nat) (r:List α),(en l n r).length=l.length
 | l,_,[]=>rfl
 | l,n,v::r=>by rw [en,Dm]; simp
theorem bI.en {α β:Type}{R:α->β->Prop}{l:List α}{m:List β}(h:bI R l m):∀(n:Nat){r:List α}{s:List β},bI R r s->bI R (Ab.en l n r) (Ab.en m n s):=by
 intro n r s hr;induction hr generalizing l m n with
 | nil=>exact h
 | cons x _ b=>exact b (h.set x n) (n+1)
theorem fW.trans {w f g:World}{b:Nat}{o o':Go.Obj}(h:fW w f b o) (h':fW f g b o'):fW w g b o' :=
 ⟨h'.size.trans h.size,h'.here,fun x hx=>(h'.other x hx).trans (h.other x hx),h'.os.trans h.os,h'.tape.trans h.tape,h'.output.trans h.output⟩
theorem fW.same {w:World}{b:Nat}{o:Go.Obj}(h:w.heap[b]?=some o):fW w w b o:=⟨rfl,h,fun _ _=>rfl,rfl,rfl,fJ.rfl⟩
theorem fW.setCell {w:World}{b i:Nat}{cs:List Value}{e:TypeId}(h:w.heap[b]?=some (.cells cs.toArray e (0,0))) (v:Value):fW w (w.setCell ⟨b,i,none⟩ v) b (.cells (cs.set i v).toArray e (0,0)):=by
 refine⟨by simp, ?_,fun x hx=>heap_setCell_other w _ x v hx,rfl,rfl,fJ.rfl⟩;have aJ:=iR h;simp only [World.setCell,Array.getElem?_modify,if_true,h,Option.map_some];simp
theorem Ak {P:Program}{b off:Nat}{e:TypeId}:∀(vs:List Value) (i:Nat) (cs:List Value) (w:World),w.heap[b]?=some (.cells cs.toArray e (0,0))->off+i+vs.length<=cs.length ->
  (∀v∈vs,v.oneCell'=true)->∃w',(storeCells ⟨b,off,none⟩ vs i).run P w=.ok () w'/\fW w w' b (.cells (en cs (off+i) vs).toArray e (0,0))
 | [],i,cs,w,hg,_,_=>⟨w,by simp [storeCells],fW.same hg⟩
 | v::rest,i,cs,w,hg,hl,h1=>by
  simp only [List.length_cons] at hl;have hu:=fW.setCell (ak:=ak) (i:=off+i) hg v;obtain⟨w',h2,f⟩:=Ak (P:=P) (off:=off) (e:=e) rest (i+1) (cs.set (off+i) v) _ hu.here (by simp; omega) (fun x hx=>h1 x (by simp [hx]));refine⟨w', ?_,hu.trans f⟩;have g:w.cell? ⟨b,off+i,none⟩=some (cs[off+i]'(by omega)):=by
   rw [cell_of_row w b (off+i) cs.toArray e (0,0) hg];rw [Array.getElem?_eq_getElem (by simp; omega)]; simp
  have j:w.frozen? ⟨b,off+i,none⟩=false:=frozen_of_row w b _ cs.toArray e hg;have k:(store ((⟨b,off,none⟩:Addr).add i) v).run P w=.ok () (w.setCell ⟨b,off+i,none⟩ v):=by
   rw [add_plain,run_store P w _ v _ (h1 v (by simp)),g];simp [j]
  simp only [storeCells,Sem.run_bind,k,Result.andThen,h2]
def cU:A->List D
 | .d x=>[x]
 | .agg xs=>xs
theorem cF.cells {j:J}{w:World}{x:A}{v:Value}(h:cF j w x v):bI (aF j w) (cU x) v.cells.toList:=by
 cases x with
 | d x =>
  have hd:aF j w x v:=h;have:v.cells=#[v]:=by cases hd<;>rfl
  rw [this];exact .cons hd .nil
 | agg xs=>obtain⟨cs,e,h⟩:=h; subst e; simpa [Value.cells,cU] using h
theorem Dn {j:J}{w:World}{xs:List D}{cs:List Value}(h:bI (aF j w) xs cs):∀v∈cs,v.oneCell'=true:=by
 induction h with
 | nil=>simp
 | cons x _ b =>
  intro v hv;rcases List.mem_cons.1 hv with e|e
  ·rw [e]; exact x.one
  ·exact b v e
theorem HI {P:Program}{j:J}{w:World}{b off:Nat}{e:TypeId}{cs:List Value}(hg:w.heap[b]?=some (.cells cs.toArray e (0,0))){t:TypeId}{f:TI}(g:bn P t=some f){x:A}{v:Value}(hv:cF j w x v)
  (k:(cU x).length=f.size) (hl:off+f.size<=cs.length):∃w',(storeVar t ⟨b,off,none⟩ v).run P w=.ok () w'/\fW w w' b (.cells (en cs off v.cells.toList).toArray e (0,0)):=by
 have hc:=hv.cells;have hlen:v.cells.size=f.size:=by rw [<- k,hc.length]; simp
 obtain⟨w',h1,h2⟩:=Ak (P:=P) (off:=off) (e:=e) v.cells.toList 0 cs w hg (by simp; omega) (Dn hc);refine⟨w', ?_,by simpa using h2⟩;simp [storeVar,mj g,hlen,h1]
theorem NG {P:Program}{T:List TI}(fK:mm P T){σ:St}{j:J}{w:World}{jl:List Nat}{a:Act}(f:fS j w jl σ a){r:ResultVar}{x:A}(h:Ai T σ r=some x) :
  ∃v,(match r with|.tmp t=>pure (a.tmps.getD t undef)|.cell t ty=>do loadVar ty (<- asAddr (a.tmps.getD t undef)):Sem Value).run P w=.ok v w/\cF j w x v:=by
 cases r with
 | tmp t =>
  have hv:=f.tmps t;simp only [Ai] at h
  split at h
  ·rename_i y l
   simp at h; subst h;rw [l] at hv;exact⟨_,rfl,hv⟩
  ·simp at h
 | cell t ty =>
  have hv:=f.tmps t;simp only [Ai] at h
  split at h
  ·rename_i i off s h1 h2
   rw [h1] at hv;obtain⟨b,m,e⟩:=hv
   split at h
   ·rename_i xs hk hx
    obtain⟨u,g,p⟩:=f.hl.2.each.get hx;rw [m] at g; simp only [Option.some.injEq] at g; subst g;obtain⟨v,k,q⟩:=Aj (P:=P) p.cells (fK _ _ h2) (K.Ah hk) h;refine⟨v, ?_,q⟩;rw [Nat.zero_add] at k;simp [e,asAddr,k]
   ·simp at h
  ·simp at h
theorem Dp {P:Program}{T:List TI}(fK:mm P T){σ:St}{j:J}{w:World}{jl:List Nat}{a:Act}(b:fS j w jl σ a):∀(rs:List ResultVar) (xs:List A),nD T σ rs=some xs ->
  ∃vs:List Value,(rs.mapM fun r=>(match r with|.tmp t=>pure (a.tmps.getD t undef)|.cell t ty=>do loadVar ty (<- asAddr (a.tmps.getD t undef)):Sem Value)).run P w=.ok vs w/\bI (cF j w) xs vs
 | [],xs,h=>by simp [nD] at h; subst h; exact⟨[],by simp,.nil⟩
 | r::rs,xs,h=>by
  simp only [nD] at h
  split at h
  ·rename_i x ys h1 h2
   simp at h; subst h;obtain⟨v,f,g⟩:=NG fK b h1;obtain⟨vs,k,l⟩:=Dp fK b rs ys h2;refine⟨v::vs, ?_,.cons g l⟩;rw [List.mapM_cons,Sem.run_bind,f];simp only [Result.andThen,Sem.run_bind,k,Sem.run_pure]
  ·simp at h
def bR (T:List TI) (rs:List ResultVar) (cT:V->ah->Prop):Exit->St->Prop:=fun e σ =>
 (e=.normal\/e=.ret)/\∃xs h',nD T σ rs=some xs/\(∀id o,h' id=some o->σ.h id=some o)/\cT (lc xs) h'
end
theorem HJ {P:Program}{T:List TI}(fK:mm P T){fE:ez}{fn:Func}{σ:St}{j:J}{w:World}{jl:List Nat}{a:Act}(b:fS j w jl σ a){rs:List ResultVar}(f:fn.results.toList=rs){xs:List A}(h:nD T σ rs=some xs) :
  ∃v,(results fn a.tmps).run P w=.ok v w/\bD j w [] (lc xs) v:=by
 subst f;obtain⟨vs,g,k⟩:=Dp (P:=P) fK b fn.results.toList xs h;refine⟨if h:vs.toArray.size=1 then vs.toArray[0] else .tuple vs.toArray, ?_, ?_⟩
 ·unfold results;rw [Sem.run_bind,Array.mapM_eq_mapM_toList];rw [Sem.run_map];rw [show (List.mapM _ fn.results.toList:Sem (List Value))=List.mapM (fun r=>(match r with|.tmp t=>pure (a.tmps.getD t undef)|.cell t ty=>do loadVar ty (<- asAddr (a.tmps.getD t undef)):Sem Value)) fn.results.toList from by
   congr 1]
  rw [g];simp [Result.andThen]
 ·cases k with
  | nil=>exact⟨[],rfl,.nil⟩
  | cons h1 h2 =>
   cases h2 with
   | nil=>simpa [lc,bD] using h1
   | cons l m=>exact⟨_,by simp,.cons h1 (.cons l m)⟩
theorem AC.of_wp {P:Program}{T:List TI}(fK:mm P T){f:FuncId}{fn:Func}{c:Code}{args:List A}{h:ah}{cT:V->ah->Prop}(q:∀(cR:Array Value) (w:World),(callFunc f cR).run P w=.ok (.enter f cR) w) (s:P.funcs[f]?=some fn) (u:fn.body=some c){n:Nat}(hn:fn.ntmps=n){rs:List ResultVar}(y:fn.results.toList=rs) (hl:Nat.ble args.length n=true)
  (hw:ag P c (bR T rs cT) ⟨n,nC 0 args,[],h⟩):AC P f args h cT:=by
 subst hn y;have hl:=Nat.le_of_ble_eq_true hl;refine⟨q,fun j w cR hr m=>?_⟩;refine calls_of_wp s u (wp_mono (hw j w [] _ ?_) ?_)
 ·have hlen:=m.length;refine⟨rfl,by simp; omega,fun t=>?_,⟨hr,⟨.nil,by simp,by simp⟩⟩⟩;refine Dk (fun t=>(cR.toArray++Array.replicate (fn.ntmps-cR.toArray.size) undef).getD t undef) 0 args cR m (fun i v hv=>?_) t;rw [Nat.zero_add,Array.getD_eq_getD_getElem?,Array.getElem?_append];have:i<cR.length:=(List.getElem?_eq_some_iff.1 hv).1;simp [this];exact(List.getElem?_eq_some_iff.1 hv).2
 ·rintro e k w' ⟨Q,j',bp,⟨he,xs,h',z,B,C⟩,b,E⟩;obtain⟨vs,F,G⟩:=Dp fK b fn.results.toList xs z;have H:∃v,(results fn k.tmps).run P w'=.ok v w'/\bD j' w' [] (lc xs) v:=by
   refine⟨if h:vs.toArray.size=1 then vs.toArray[0] else .tuple vs.toArray, ?_, ?_⟩
   ·unfold results;rw [Sem.run_bind,Array.mapM_eq_mapM_toList];rw [Sem.run_map];rw [show (List.mapM _ fn.results.toList:Sem (List Value))=List.mapM (fun r=>(match r with|.tmp t=>pure (k.tmps.getD t undef)|.cell t ty=>do loadVar ty (<- asAddr (k.tmps.getD t undef)):Sem Value)) fn.results.toList from by
     congr 1]
    rw [F];simp [Result.andThen]
   ·cases G with
    | nil=>exact⟨[],rfl,.nil⟩
    | cons h1 h2 =>
     cases h2 with
     | nil=>simpa [lc,bD] using h1
     | cons I J=>exact⟨_,by simp,.cons h1 (.cons I J)⟩
  obtain⟨v,hv,K⟩:=H;obtain⟨L,M⟩:=b.hl.trim 0;obtain⟨N,O⟩:=L.forget B;have p:∃r cv g l,Ending.returned v=.returned cv/\cT r l/\bD g w' [] r cv/\fI g w' l/\bT j w (aU j h []) g w' (aU g l []) :=
   ⟨lc xs,v,j',h',rfl,C,K,N.1,(E.trans M).trans O⟩
  rcases he with he|he<;>subst he
  ·exact⟨b.defers,v,hv,p⟩
  ·exact⟨b.defers,v,hv,p⟩
end Go.Ab
/-
 The operations that leave the world alone.
-/
namespace Go.Ab
open Go Go.RowKit
variable {ak:bP}
def mo (P:Program) (o:Oper) (ts:Ts) (ls:List (List D)) (h:ah) (fx:Fx) (v:V):Prop :=
 fx.wl=false/\fx.wh=false/\∀L H,(fx.rl=true->L=ls)->(fx.rh=true->H=h)->∀(j:J) (w:World) (jl:List Nat) (a:Act),HL j w jl L H ->
  (∀x,x∈o.op.operands->bD j w jl (ev ts x) (a.eval x))->∃cv,(execOp a.eval o).run P w=.ok (.value cv) w/\bD j w jl v cv
theorem mo.pQ {P:Program}{o:Oper}{ts:Ts}{ls:List (List D)}{h:ah}{fx:Fx}{v:V}(b:mo P o ts ls h fx v):aq P o ts ls h fx v ls h:=by
 obtain⟨h1,h2,b⟩:=b;intro L H f hH j w jl a hl g K Q hk;rw [h1,Bool.or_false] at f;rw [h2,Bool.or_false] at hH;obtain⟨cv,hr,hv⟩:=b L H f hH j w jl a hl g;unfold Oper.wp;rw [hr,Oper.upon_value];exact hk v L H cv j w jl ⟨rfl,by rw [h1]; rfl,by rw [h2]; rfl⟩ hv hl (Ext.refl _) (bT.refl _ _ _)
section
variable {P:Program}{ts:Ts}{ls:List (List D)}{h:ah}{dst:Option Tmp}{ty:TypeId}{pos:String}{aD:Array Edge}{g:Option (Nat×Bool)}
abbrev mk (dst:Option Tmp) (op:Op) (ty:TypeId) (pos:String) (aD:Array Edge) (g:Option (Nat×Bool)):Oper:=⟨dst,op,ty,pos,aD,g⟩
theorem aq.eA {o:Oper}{v:V}(b:∀(j:J) (w:World) (jl:List Nat) (a:Act),(∀x,x∈o.op.operands->bD j w jl (ev ts x) (a.eval x))->∃cv,(execOp a.eval o).run P w=.ok (.value cv) w/\bD j w jl v cv) :
  aq P o ts ls h {} v ls h :=
 mo.pQ ⟨rfl,rfl,fun _ _ _ _ j w jl a _ f=>b j w jl a f⟩
theorem jH {j:J}{w:World}{jl:List Nat}{b:Bool}{cv:Value}(h:bD j w jl (.a (.d (.bool b))) cv):cv=.bool b:=by
 have h':aF j w (.bool b) cv:=h;cases h'; rfl
theorem je {j:J}{w:World}{jl:List Nat}{k:IntKind}{n:Int}{cv:Value}(h:bD j w jl (.a (.d (.int k n))) cv):cv=.int k n:=by
 have h':aF j w (.int k n) cv:=h;cases h'; rfl
theorem jI {j:J}{w:World}{jl:List Nat}{s:List UInt8}{cv:Value}(h:bD j w jl (.a (.d (.str s))) cv):cv=.string ⟨s.toArray⟩/\s.length<=fD:=by
 have h':aF j w (.str s) cv:=h;cases h' with
 | str _ b=>exact⟨rfl,b⟩
theorem Dq {j:J}{w:World}{jl:List Nat}{i off:Nat}{cv:Value}(h:bD j w jl (.dH i off) cv):∃b,jl[i]?=some b/\cv=.pointer (some ⟨b,off,none⟩):=h
theorem Dr {j:J}{w:World}{jl:List Nat}{xs:List D}{cv:Value}(h:bD j w jl (.a (.d (.view xs))) cv):∃a f,cv=.pointer (some a)/\At j w a xs.length f/\∀i (h:i<xs.length),aF j w xs[i] (f i):=by
 have h':aF j w (.view xs) cv:=h;cases h' with
 | view _ a f bZ hr=>exact⟨a,f,rfl,bZ,hr⟩
theorem Al {j:J}{w:World}{jl:List Nat}{id off:Nat}{cv:Value}(h:bD j w jl (.a (.d (.ptr id off))) cv):cv=.pointer (some ⟨j.out id,off,none⟩)/\id<j.next:=by
 have h':aF j w (.ptr id off) cv:=h;cases h' with
 | ptr _ _ hi=>exact⟨rfl,hi⟩
theorem aq.move {x:Operand}{v:V}(hx:ev ts x=v):aq P (mk dst (.move x) ty pos aD g) ts ls h {} v ls h :=
 aq.eA fun j w jl a b=>⟨a.eval x,rfl,hx▸b x (by simp [Op.operands])⟩
theorem aq.assign {x:Operand}{v:V}(hx:ev ts x=v):aq P (mk dst (.assign x) ty pos aD g) ts ls h {} v ls h :=
 aq.eA fun j w jl a b=>⟨a.eval x,rfl,hx▸b x (by simp [Op.operands])⟩
theorem At.cells {j:J}{w:World}{a:Addr}{xs:List D}{f:Nat->Value}(bZ:At j w a xs.length f) (hr:∀i (h:i<xs.length),aF j w xs[i] (f i)):Cells j w a.block a.off xs:=by
 intro i x hx;have hi:=(List.getElem?_eq_some_iff.1 hx).1;refine⟨f i,(bZ.2 i hi).2.1, ?_⟩;have:=hr i hi;rw [(List.getElem?_eq_some_iff.1 hx).2] at this; exact this
theorem aq.xb {t:TypeId}{f:TI}{x:Operand}{i off:Nat}{xs:List D}{v:A}(p:bn P t=some f) (hk:f.k.xa=false) (hx:ev ts x=.dH i off) (hl:ls[i]?=some xs) (hv:tZ f xs off=some v) :
  aq P (mk dst (.load t x) ty pos aD g) ts ls h { rl:=true } (.a v) ls h :=
 mo.pQ ⟨rfl,rfl,fun L H q _ j w jl a hh r=>by
  have h1:=r x (by simp [Op.operands]);rw [hx] at h1;obtain⟨b,s,e⟩:=Dq h1;rw [q rfl] at hh;obtain⟨z,l,u⟩:=hh.2.each.get hl;rw [s] at l; simp only [Option.some.injEq] at l; subst l;obtain⟨cv,m,y⟩:=Aj (P:=P) u.cells p (K.Ah hk) hv;rw [Nat.zero_add] at m;exact⟨cv,by simp [execOp,Instr.loadAt,Instr.sureAddr,e,m],y⟩⟩
theorem aq.cA {t:TypeId}{l:TI}{x:Operand}{xs:List D}{v:A}(p:bn P t=some l) (hk:l.k.xa=false) (hx:ev ts x=.a (.d (.view xs))) (hv:tZ l xs 0=some v) :
  aq P (mk dst (.load t x) ty pos aD g) ts ls h {} (.a v) ls h :=
 aq.eA fun j w jl a q=>by
  have h1:=q x (by simp [Op.operands]);rw [hx] at h1;obtain⟨b,f,e,bZ,hr⟩:=Dr h1;obtain⟨cv,m,r⟩:=Aj (P:=P) (bZ.cells hr) p (K.Ah hk) hv;have he:b=⟨b.block,b.off+0,none⟩:=by
   have:=bZ.1;cases b; simp at this; simp [this]
  rw [<- he] at m;exact⟨cv,by simp [execOp,Instr.loadAt,Instr.sureAddr,e,m],r⟩
theorem gJ.cells {j:J}{w:World}{id:Nat}{xs:List D}(h:gJ j w id (.cells xs)):k9 j w (j.out id) xs:=h
theorem aq.iI {t:TypeId}{b:TI}{x:Operand}{id off:Nat}{xs:List D}{v:A}(l:bn P t=some b) (hk:b.k.xa=false) (hx:ev ts x=.a (.d (.ptr id off))) (hh:h id=some (.cells xs)) (hv:tZ b xs off=some v) :
  aq P (mk dst (.load t x) ty pos aD g) ts ls h { rh:=true } (.a v) ls h :=
 mo.pQ ⟨rfl,rfl,fun L H _ hH j w jl a hl m=>by
  have h1:=m x (by simp [Op.operands]);rw [hx] at h1;obtain⟨e,_⟩:=Al h1;rw [hH rfl] at hl;obtain⟨cv,f,p⟩:=Aj (P:=P) (hl.1.obj id _ hh).2.cells.cells l (K.Ah hk) hv;rw [Nat.zero_add] at f;exact⟨cv,by simp [execOp,Instr.loadAt,Instr.sureAddr,e,f],p⟩⟩
theorem HK {P:Program}{t:TypeId}{g:TI}{fs:List (Nat×TypeId)}(j:bn P t=some g) (hk:g.k=.struct fs) :
  ∃gs:Array Field,P.underlying t=some (.struct gs)/\gs.toList.map (fun f=>(f.offset,f.type))=fs:=by
 obtain⟨i,d,h1,h2,_,_,b,_⟩:=gr j;rw [hk] at b;cases d<;>simp [fZ] at b;exact⟨_,h2,b⟩
theorem Ds {P:Program}{t:TypeId}{j l:TI}{fs:List (Nat×TypeId)}{f o:Nat}{g:TypeId}(m:bn P t=some j) (hk:j.k=.struct fs) (b:fs[f]?=some (o,g)) (p:bn P g=some l) (hz:l.size≠0)
  (a:Addr) (w:World):(Instr.fieldAt t (.pointer (some a)) f).run P w=.ok (.pointer (some (a.add o))) w:=by
 obtain⟨gs,hu,he⟩:=HK m hk;have hg:∃fd:Field,gs[f]?=some fd/\fd.offset=o/\fd.type=g:=by
  rw [<- he,List.getElem?_map] at b;cases e:gs.toList[f]? with
  | none=>rw [e] at b; simp at b
  | some fd=>rw [e] at b; simp at b; exact⟨fd,by simpa using e,b.1,b.2⟩
 obtain⟨fd,h1,h2,q⟩:=hg;simp [Instr.fieldAt,dz hu,h1,Instr.sureAddr,fieldPlace,q,mj p,hz,h2]
theorem aq.NH {t:TypeId}{l m:TI}{fs:List (Nat×TypeId)}{x:Operand}{f o i off:Nat}{p:TypeId}(q:bn P t=some l) (hk:l.k=.struct fs) (r:fs[f]?=some (o,p)) (s:bn P p=some m)
  (hz:Nat.beq m.size 0=false) (hx:ev ts x=.dH i off):aq P (mk dst (.fieldAddr t x f) ty pos aD g) ts ls h {} (.dH i (off+o)) ls h :=
 aq.eA fun j w jl a u=>by
  have h1:=u x (by simp [Op.operands]);rw [hx] at h1;obtain⟨b,v,e⟩:=Dq h1;exact⟨.pointer (some ⟨b,off+o,none⟩),by simp [execOp,e,Ds q hk r s (fun e=>by rw [e] at hz; simp at hz),add_plain],b,v,rfl⟩
theorem aq.iJ {t:TypeId}{b l:TI}{fs:List (Nat×TypeId)}{x:Operand}{f o id off:Nat}{m:TypeId}(p:bn P t=some b) (hk:b.k=.struct fs) (q:fs[f]?=some (o,m)) (r:bn P m=some l)
  (hz:Nat.beq l.size 0=false) (hx:ev ts x=.a (.d (.ptr id off))):aq P (mk dst (.fieldAddr t x f) ty pos aD g) ts ls h {} (.a (.d (.ptr id (off+o)))) ls h :=
 aq.eA fun j w jl a s=>by
  have h1:=s x (by simp [Op.operands]);rw [hx] at h1;obtain⟨e,hi⟩:=Al h1;exact⟨.pointer (some ⟨j.out id,off+o,none⟩),by simp [execOp,e,Ds p hk q r (fun e=>by rw [e] at hz; simp at hz),add_plain],aF.ptr _ _ hi⟩
theorem aF.NI {j:J}{w:World}{xs:List D}{a:Addr}{f:Nat->Value}(bZ:At j w a xs.length f) (hr:∀i (h:i<xs.length),aF j w xs[i] (f i)) (n:Nat):aF j w (.view (xs.drop n)) (.pointer (some (a.add n))):=by
 have b:a=⟨a.block,a.off,none⟩:=by have:=bZ.1; cases a; simp at this; simp [this]
 rw [b,add_plain];refine aF.view (xs.drop n) _ (fun i=>f (n+i)) ⟨rfl,fun i hi=>?_⟩ fun i hi=>?_
 ·simp only [List.length_drop] at hi;have:=bZ.2 (n+i) (by omega);rw [<- Nat.add_assoc] at this; exact this
 ·simp only [List.length_drop] at hi;have:=hr (n+i) (by omega)
  simpa using this
theorem aq.NJ {t:TypeId}{b l:TI}{fs:List (Nat×TypeId)}{x:Operand}{f o:Nat}{xs ys:List D}{m:TypeId}(p:bn P t=some b) (hk:b.k=.struct fs) (q:fs[f]?=some (o,m)) (r:bn P m=some l)
  (hz:Nat.beq l.size 0=false) (hx:ev ts x=.a (.d (.view xs))) (s:xs.drop o=ys):aq P (mk dst (.fieldAddr t x f) ty pos aD g) ts ls h {} (.a (.d (.view ys))) ls h :=
 aq.eA fun j w jl a u=>by
  have h1:=u x (by simp [Op.operands]);rw [hx] at h1;obtain⟨v,y,e,bZ,hr⟩:=Dr h1;subst s;exact⟨_,by simp [execOp,e,Ds p hk q r (fun e=>by rw [e] at hz; simp at hz)],aF.NI bZ hr o⟩
theorem nE {j:J}{w:World}{jl:List Nat}{k:Nat}{tok:Option Nat}{nl:Bool}{rows:List (List D)}{cv:Value}(h:bD j w jl (.a (.d (.slice k tok nl rows))) cv) :
  ∃a cap,cv=.slice a rows.length cap/\rows.length<=dI/\rows.length<=cap/\(nl=a.isNone)/\(a=none->cap=0/\rows=[])/\(∀r,r∈rows->r.length=k) /\
   ∀b,a=some b->tQ j tok rows.length b cap/\∃f,rI j w b rows f/\∀i (h:i<rows.flatten.length),aF j w rows.flatten[i] (f i):=by
 have h':aF j w (.slice k tok nl rows) cv:=h;cases h' with
 | gH _ _ ht=>exact⟨none,0,rfl,by simp [dI],by simp,rfl,fun _=>⟨rfl,rfl⟩,by simp,by simp⟩
 | slice _ _ _ a cap f hk hn hc bZ hr ht=>exact⟨some a,cap,rfl,hn,hc,rfl,by simp,hk,fun b e=>by simp at e; subst e; exact⟨ht,f,bZ,hr⟩⟩
theorem jq {rows:List (List D)}{k:Nat}(hk:∀r∈rows,r.length=k):rows.flatten.length=rows.length*k/\∀i row,rows[i]?=some row->∀n,n<k->rows.flatten[i*k+n]?=row[n]?:=by
 induction rows with
 | nil=>simp
 | cons r rs b =>
  have hr:r.length=k:=hk r (by simp);obtain⟨h1,h2⟩:=b fun x hx=>hk x (by simp [hx]);refine⟨by simp [h1,hr,Nat.succ_mul,Nat.add_comm],fun i row hi n hn=>?_⟩;cases i with
  | zero =>
   simp at hi; subst hi;rw [List.flatten_cons,Nat.zero_mul,Nat.zero_add,List.getElem?_append_left (by omega)]
  | succ i =>
   simp only [List.getElem?_cons_succ] at hi;rw [List.flatten_cons,List.getElem?_append_right (by rw [hr,Nat.succ_mul]; omega)];rw [show (i+1)*k+n-r.length=i*k+n by rw [hr,Nat.succ_mul]; omega];exact h2 i row hi n hn
theorem NK {j:J}{w:World}{k:Nat}{rows:List (List D)}{b:Addr}{f:Nat->Value}(hk:∀r∈rows,r.length=k) (bZ:rI j w b rows f) (hr:∀i (h:i<rows.flatten.length),aF j w rows.flatten[i] (f i))
  {i:Nat}{row:List D}(hi:rows[i]?=some row):aF j w (.view row) (.pointer (some (b.add (i*k)))):=by
 obtain⟨h1,h2⟩:=jq hk;have hlen:row.length=k:=hk row (List.mem_of_getElem? hi);have m:b=⟨b.block,b.off,none⟩:=by have:=bZ.1.resolve_left (fun e=>by rw [e] at hi; simp at hi); cases b; simp at this; simp [this]
 have aJ:i<rows.length:=(List.getElem?_eq_some_iff.1 hi).1;have hle:i*k+k<=rows.flatten.length:=by
  rw [h1,<- Nat.succ_mul]; exact Nat.mul_le_mul_right k aJ
 rw [m,add_plain];refine aF.view row _ (fun n=>f (i*k+n)) ⟨rfl,fun n hn=>?_⟩ fun n hn=>?_
 ·have:=bZ.2 (i*k+n) (by omega);rw [<- Nat.add_assoc] at this; exact this
 ·have l:=hr (i*k+n) (by omega);have g:=h2 i row hi n (by omega);rw [List.getElem?_eq_getElem (by omega),List.getElem?_eq_getElem hn] at g;simp only [Option.some.injEq] at g;rw [g] at l; exact l
theorem mq {P:Program}{t:TypeId}{f:TI}{e:TypeId}(g:bn P t=some f) (hk:f.k=.slice e):P.underlying t=some (.slice e):=by
 obtain⟨i,d,h1,h2,_,_,b,_⟩:=gr g;rw [hk] at b;cases d<;>simp [fZ] at b;subst b; exact h2
theorem aq.Am {t e:TypeId}{l m:TI}{x ix:Operand}{tok:Option Nat}{nl:Bool}{rows:List (List D)}{q:IntKind}{n:Int}{row:List D}{k:Nat}(r:bn P t=some l) (hk:l.k=.slice e) (s:bn P e=some m)
  (hx:ev ts x=.a (.d (.slice k tok nl rows))) (hi:ev ts ix=.a (.d (.int q n))) (u:k=m.size) (h0:0<=n) (hr:rows[n.toNat]?=some row) :
  aq P (mk dst (.indexAddr t x ix) ty pos aD g) ts ls h {} (.a (.d (.view row))) ls h :=
 aq.eA fun j w jl a p=>by
  have h1:=p x (by simp [Op.operands]);have h2:=p ix (by simp [Op.operands]);rw [hx] at h1; rw [hi] at h2;obtain⟨b,cap,v,hn,hc,G,y,z,B⟩:=nE h1;have aJ:n.toNat<rows.length:=(List.getElem?_eq_some_iff.1 hr).1;cases b with
  | none=>obtain⟨_,C⟩:=y rfl; rw [C] at aJ; simp at aJ
  | some b =>
   obtain⟨_,f,bZ,E⟩:=B b rfl;refine⟨_, ?_,NK z bZ E hr⟩;have F:n<(rows.length:Int):=by omega
   simp [execOp,v,je h2,Instr.indexAt,asIntOf,dz (mq r hk),mj s,h0,F,u]
end
end Go.Ab
/-
 Arithmetic,comparisons,lengths,structs.
-/
namespace Go.Ab
open Go Go.RowKit
variable {ak:bP}
section
variable {P:Program}{ts:Ts}{ls:List (List D)}{h:ah}{dst:Option Tmp}{ty:TypeId}{pos:String}{aD:Array Edge}{g:Option (Nat×Bool)}
theorem Dt {op:BinOp}{t:TypeId}{x y:Operand}{k:IntKind}{m n:Int}(w:World):(eqGuard op t x y (.int k m) (.int k n)).run P w=.ok () w:=by
 unfold eqGuard;cases op<;>simp
theorem HM {op:BinOp}{t:TypeId}{x y:Operand}{m n:ByteArray}(w:World):(eqGuard op t x y (.string m) (.string n)).run P w=.ok () w:=by
 unfold eqGuard;cases op<;>simp
def xd (op:BinOp) (k:IntKind) (m n:Int):Option D :=
 match op with
 | .add=>some (.int k (k.wrap (m+n)))
 | .sub=>some (.int k (k.wrap (m-n)))
 | .mul=>some (.int k (k.wrap (m*n)))
 | .eql=>some (.bool (decide (m=n)))
 | .neq=>some (.bool (!decide (m=n)))
 | .lss=>some (.bool (decide (m<n)))
 | .leq=>some (.bool (decide (m<=n)))
 | .gtr=>some (.bool (decide (n<m)))
 | .geq=>some (.bool (decide (n<=m)))
 | _=>none
theorem NL {op:BinOp}{t:TypeId}{k:IntKind}{m n:Int}{r:D}(hr:xd op k m n=some r) (w:World):∃cv,(binOp op t (.int k m) (.int k n)).run P w=.ok cv w/\∀j w,aF j w r cv:=by
 cases op<;>simp only [xd,Option.some.injEq] at hr<;>first|(subst hr)|(cases hr; done)
 ·exact⟨_,by simp [binOp,Op.intArith],fun _ _=>.int _ _⟩
 ·exact⟨_,by simp [binOp,Op.intArith],fun _ _=>.int _ _⟩
 ·exact⟨_,by simp [binOp,Op.intArith],fun _ _=>.int _ _⟩
 ·exact⟨.bool (decide (m=n)),by simp [binOp,Op.intCmp]; first|rfl|(by_cases e:m=n<;>simp [e]),fun _ _=>.bool _⟩
 ·exact⟨.bool (!decide (m=n)),by simp [binOp,Op.intCmp]; first|rfl|(by_cases e:m=n<;>simp [e]),fun _ _=>.bool _⟩
 ·exact⟨.bool (decide (m<n)),by simp [binOp,Op.intCmp],fun _ _=>.bool _⟩
 ·exact⟨.bool (decide (m<=n)),by simp [binOp,Op.intCmp],fun _ _=>.bool _⟩
 ·exact⟨.bool (decide (n<m)),by simp [binOp,Op.intCmp],fun _ _=>.bool _⟩
 ·exact⟨.bool (decide (n<=m)),by simp [binOp,Op.intCmp],fun _ _=>.bool _⟩
theorem aq.An {op:BinOp}{t u:TypeId}{x y:Operand}{k:IntKind}{m n:Int}{r:D}(hx:ev ts x=.a (.d (.int k m))) (f:ev ts y=.a (.d (.int k n))) (hr:xd op k m n=some r) :
  aq P (mk dst (.binOp op t x y u) ty pos aD g) ts ls h {} (.a (.d r)) ls h :=
 aq.eA fun j w jl a b=>by
  have h1:=b x (by simp [Op.operands]);have h2:=b y (by simp [Op.operands]);rw [hx] at h1; rw [f] at h2;obtain⟨cv,l,p⟩:=NL (P:=P) (t:=t) hr w;exact⟨cv,by simp [execOp,je h1,je h2,Dt,l],p j w⟩
theorem aq.HN {t u:TypeId}{x y:Operand}{m n:Int}(hx:ev ts x=.a (.d (.int .i64 m))) (b:ev ts y=.a (.d (.int .i64 n))) (h1 : -9223372036854775808<=m+n) (h2:m+n<=9223372036854775807) :
  aq P (mk dst (.binOp .add t x y u) ty pos aD g) ts ls h {} (.a (.d (.int .i64 (m+n)))) ls h :=
 aq.An hx b (by simp only [xd,Option.some.injEq,D.int.injEq,true_and]; simp only [IntKind.wrap,IntKind.bits,IntKind.signed]; simp; omega)
theorem aq.NM {t u:TypeId}{x y:Operand}{m n:Int}(hx:ev ts x=.a (.d (.int .i64 m))) (b:ev ts y=.a (.d (.int .i64 n))) (h1 : -9223372036854775808<=m-n) (h2:m-n<=9223372036854775807) :
  aq P (mk dst (.binOp .sub t x y u) ty pos aD g) ts ls h {} (.a (.d (.int .i64 (m-n)))) ls h :=
 aq.An hx b (by simp only [xd,Option.some.injEq,D.int.injEq,true_and]; simp only [IntKind.wrap,IntKind.bits,IntKind.signed]; simp; omega)
def Du (op:BinOp) (s t:List UInt8):Option D :=
 match op with
 | .eql=>some (.bool (s==t))
 | .neq=>some (.bool (!(s==t)))
 | .lss=>some (.bool (Op.bytesLess s t))
 | .leq=>some (.bool (Op.bytesLess s t||s==t))
 | .gtr=>some (.bool (!(Op.bytesLess s t||s==t)))
 | .geq=>some (.bool (!Op.bytesLess s t))
 | _=>none
theorem NN {op:BinOp}{t:TypeId}{a b:List UInt8}{r:D}(hr:Du op a b=some r) (w:World):∃cv,(binOp op t (.string ⟨a.toArray⟩) (.string ⟨b.toArray⟩)).run P w=.ok cv w/\∀j w,aF j w r cv:=by
 cases op<;>simp only [Du,Option.some.injEq] at hr<;>first|(subst hr)|(cases hr; done)
 all_goals exact⟨_,by simp [binOp,Op.stringOp,ByteArray.toList_mk],fun _ _=>.bool _⟩
theorem aq.HO {op:BinOp}{t u:TypeId}{x y:Operand}{a b:List UInt8}{r:D}(hx:ev ts x=.a (.d (.str a))) (k:ev ts y=.a (.d (.str b))) (hr:Du op a b=some r) :
  aq P (mk dst (.binOp op t x y u) ty pos aD g) ts ls h {} (.a (.d r)) ls h :=
 aq.eA fun j w jl act f=>by
  have h1:=f x (by simp [Op.operands]);have h2:=f y (by simp [Op.operands]);rw [hx] at h1; rw [k] at h2;obtain⟨cv,l,m⟩:=NN (P:=P) (t:=t) hr w;exact⟨cv,by simp [execOp,(jI h1).1,(jI h2).1,HM,l],m j w⟩
theorem aq.concat {t u:TypeId}{x y:Operand}{a b:List UInt8}(hx:ev ts x=.a (.d (.str a))) (l:ev ts y=.a (.d (.str b))) (hl:a.length+b.length<=fD) :
  aq P (mk dst (.binOp .add t x y u) ty pos aD g) ts ls h {} (.a (.d (.str (a++b)))) ls h :=
 aq.eA fun j w jl act f=>by
  have h1:=f x (by simp [Op.operands]);have h2:=f y (by simp [Op.operands]);rw [hx] at h1; rw [l] at h2;refine⟨.string ⟨(a++b).toArray⟩, ?_,aF.str _ (by simpa using hl)⟩;have aJ:(⟨a.toArray⟩:ByteArray).size+(⟨b.toArray⟩:ByteArray).size<=9223372036854775807:=by
   show a.toArray.size+b.toArray.size<=_; simp only [List.size_toArray]; unfold fD at hl; omega
  have k:=run_string_add_sum (P:=P) w ⟨a.toArray⟩ ⟨b.toArray⟩ aJ;have e:(⟨a.toArray⟩:ByteArray)++⟨b.toArray⟩=⟨(a++b).toArray⟩:=by
   apply ByteArray.ext; simp
  rw [e] at k;simp [execOp,(jI h1).1,(jI h2).1,HM,binOp,k]
theorem aq.NO {t:TypeId}{x:Operand}{b:Bool}(hx:ev ts x=.a (.d (.bool b))):aq P (mk dst (.unOp .not t x) ty pos aD g) ts ls h {} (.a (.d (.bool (!b)))) ls h :=
 aq.eA fun j w jl act f=>by
  have h1:=f x (by simp [Op.operands]);rw [hx] at h1;exact⟨_,by simp [execOp,jH h1,Op.unary],aF.bool _⟩
theorem aq.NP {t:TypeId}{x:Operand}{k:IntKind}{n:Int}(hx:ev ts x=.a (.d (.int k n))):aq P (mk dst (.unOp .neg t x) ty pos aD g) ts ls h {} (.a (.d (.int k (k.wrap (0-n))))) ls h :=
 aq.eA fun j w jl act b=>by
  have h1:=b x (by simp [Op.operands]);rw [hx] at h1;exact⟨_,by simp [execOp,je h1,Op.unary,Op.intArith],aF.int _ _⟩
theorem aq.NQ {t e:TypeId}{f:TI}{x:Operand}{cn:Array TypeId}{k:Nat}{tok:Option Nat}{nl:Bool}{rows:List (List D)}(l:bn P t=some f) (hk:f.k=.slice e) (bZ:cn[0]?=some t)
  (hx:ev ts x=.a (.d (.slice k tok nl rows))):aq P (mk dst (.call { callee:=.builtin .len,args:=#[x],argTypes:=cn }) ty pos aD g) ts ls h {} (.a (.d (.int .i64 (rows.length:Int)))) ls h :=
 aq.eA fun j w jl act m=>by
  have h1:=m x (by simp [Op.operands,Call.operands]);rw [hx] at h1;obtain⟨b,cap,p,_⟩:=nE h1;exact⟨_,by simp [execOp,resolve,invoke,builtin,p,Builtin.len_,bZ,dz (mq l hk),goInt],aF.int _ _⟩
theorem uc {P:Program}{t:TypeId}{b:TI}(g:bn P t=some b) (hk:b.k=.str):P.underlying t=some .string:=by
 obtain⟨i,d,h1,h2,_,_,f,_⟩:=gr g;rw [hk] at f;cases d<;>simp [fZ] at f;exact h2
theorem size_mk (s:List UInt8):(⟨s.toArray⟩:ByteArray).size=s.length:=by
 show s.toArray.size=s.length;simp
theorem aq.Ao {t:TypeId}{b:TI}{x:Operand}{cn:Array TypeId}{s:List UInt8}(f:bn P t=some b) (hk:b.k=.str) (bZ:cn[0]?=some t)
  (hx:ev ts x=.a (.d (.str s))):aq P (mk dst (.call { callee:=.builtin .len,args:=#[x],argTypes:=cn }) ty pos aD g) ts ls h {} (.a (.d (.int .i64 (s.length:Int)))) ls h :=
 aq.eA fun j w jl act l=>by
  have h1:=l x (by simp [Op.operands,Call.operands]);rw [hx] at h1;refine⟨_, ?_,aF.int _ _⟩;simp [execOp,resolve,invoke,builtin,(jI h1).1,Builtin.len_,bZ,dz (uc f hk),goInt,size_mk]
theorem aq.NR {t:TypeId}{f:TI}{x ix:Operand}{s:List UInt8}{l:IntKind}{n:Int}{c:UInt8}(p:bn P t=some f) (hk:f.k=.str) (hx:ev ts x=.a (.d (.str s))) (hi:ev ts ix=.a (.d (.int l n)))
  (h0:0<=n) (hc:s[n.toNat]?=some c):aq P (mk dst (.index t x ix) ty pos aD g) ts ls h {} (.a (.d (.int .u8 (c.toNat:Int)))) ls h :=
 aq.eA fun j w jl act m=>by
  have h1:=m x (by simp [Op.operands]);have h2:=m ix (by simp [Op.operands]);rw [hx] at h1; rw [hi] at h2;have aJ:n.toNat<s.length:=(List.getElem?_eq_some_iff.1 hc).1;have b:=run_index_string (P:=P) w t ⟨s.toArray⟩ l n (uc p hk);rw [dif_pos ⟨h0,by rw [size_mk]; omega⟩] at b;refine⟨_, ?_,aF.int _ _⟩;have q:(⟨s.toArray⟩:ByteArray)[n.toNat]'(by rw [size_mk]; omega)=c:=by
   have:=(List.getElem?_eq_some_iff.1 hc).2;rw [<- this]; rfl
  rw [q] at b;simp [execOp,(jI h1).1,je h2,b]
def cut (s:List UInt8) (l r:Nat):List UInt8:=(s.drop l).take (r-l)
theorem extract_mk (s:List UInt8) (l r:Nat):(⟨s.toArray⟩:ByteArray).extract l r=⟨(cut s l r).toArray⟩:=by
 apply ByteArray.ext
 apply Array.ext'
 simp [cut]
def Zk (ts:Ts):Option Operand->Option Nat
 | none=>some 0
 | some x=>match ev ts x with
  | .a (.d (.int _ n))=>if 0<=n then some n.toNat else none
  | _=>none
theorem pR {ts:Ts}{j:J}{w:World}{jl:List Nat}{act:Act}{x:Operand}{k:IntKind}{n:Int}{cap:Nat}(hx:ev ts x=.a (.d (.int k n))) (b:bD j w jl (ev ts x) (act.eval x)) (h0:0<=n) (h1:n<=(cap:Int)) (code:BoundsCode) :
  (Instr.sliceBound (act.eval x) cap code).run P w=.ok n.toNat w:=by
 rw [hx] at b;rw [je b];exact run_sliceBound w k n cap code h0 h1
theorem aq.NS {t:TypeId}{m:TI}{x lo hi:Operand}{s:List UInt8}{k k':IntKind}{l r:Int}(p:bn P t=some m) (hk:m.k=.str) (hx:ev ts x=.a (.d (.str s))) (hl:ev ts lo=.a (.d (.int k l))) (hh:ev ts hi=.a (.d (.int k' r)))
  (h0:0<=l) (h1:l<=r) (h2:r<=(s.length:Int)):aq P (mk dst (.slice t x (some lo) (some hi) none) ty pos aD g) ts ls h {} (.a (.d (.str (cut s l.toNat r.toNat)))) ls h :=
 aq.eA fun j w jl act b=>by
  have f:=b x (by simp [Op.operands]);have q:=pR (P:=P) (cap:=r.toNat) hl (b lo (by simp [Op.operands])) h0 (by omega) .sliceB;have u:=pR (P:=P) (cap:=s.length) hh (b hi (by simp [Op.operands])) (by omega) h2 .sliceAlen;rw [hx] at f;refine⟨.string ⟨(cut s l.toNat r.toNat).toArray⟩, ?_,aF.str _ (by have:=(jI f).2; simp [cut]; omega)⟩;simp [execOp,(jI f).1,Instr.sliceAt,Instr.slice,Instr.sliceBounds,dz (uc p hk),size_mk,q,u]
  exact extract_mk _ _ _
theorem aq.Aa {t:TypeId}{f:TI}{x lo:Operand}{s:List UInt8}{k:IntKind}{l:Int}(p:bn P t=some f) (hk:f.k=.str) (hx:ev ts x=.a (.d (.str s))) (hl:ev ts lo=.a (.d (.int k l)))
  (h0:0<=l) (h1:l<=(s.length:Int)):aq P (mk dst (.slice t x (some lo) none none) ty pos aD g) ts ls h {} (.a (.d (.str (s.drop l.toNat)))) ls h :=
 aq.eA fun j w jl act m=>by
  have b:=m x (by simp [Op.operands]);have q:=pR (P:=P) (cap:=s.length) hl (m lo (by simp [Op.operands])) h0 h1 .sliceB;rw [hx] at b;refine⟨.string ⟨(s.drop l.toNat).toArray⟩, ?_,aF.str _ (by have:=(jI b).2; simp; omega)⟩;simp [execOp,(jI b).1,Instr.sliceAt,Instr.slice,Instr.sliceBounds,dz (uc p hk),size_mk,q];rw [extract_mk]; unfold cut; rw [List.take_of_length_le (by simp)]
theorem aq.Ac {t:TypeId}{f:TI}{x hi:Operand}{s:List UInt8}{k:IntKind}{r:Int}(m:bn P t=some f) (hk:f.k=.str) (hx:ev ts x=.a (.d (.str s))) (hh:ev ts hi=.a (.d (.int k r)))
  (h0:0<=r) (h1:r<=(s.length:Int)):aq P (mk dst (.slice t x none (some hi) none) ty pos aD g) ts ls h {} (.a (.d (.str (s.take r.toNat)))) ls h :=
 aq.eA fun j w jl act l=>by
  have b:=l x (by simp [Op.operands]);have p:=pR (P:=P) (cap:=s.length) hh (l hi (by simp [Op.operands])) h0 h1 .sliceAlen;rw [hx] at b;refine⟨.string ⟨(s.take r.toNat).toArray⟩, ?_,aF.str _ (by have:=(jI b).2; simp; omega)⟩;simp [execOp,(jI b).1,Instr.sliceAt,Instr.slice,Instr.sliceBounds,dz (uc m hk),size_mk,p];rw [extract_mk]; simp [cut]
theorem aq.extract {x:Operand}{i:Nat}{xs:List A}{v:A}(hx:ev ts x=.b_ xs) (hv:xs[i]?=some v):aq P (mk dst (.extract x i) ty pos aD g) ts ls h {} (.a v) ls h :=
 aq.eA fun j w jl act b=>by
  have h1:=b x (by simp [Op.operands]);rw [hx] at h1;obtain⟨cs,e,hr⟩:=h1;obtain⟨cv,h2,f⟩:=hr.get hv;exact⟨cv,by simp [execOp,Instr.extract,e,h2],f⟩
theorem aq.NT {x:Operand}{id off:Nat}(hx:ev ts x=.a (.d (.ptr id off))):aq P (mk dst (.nilCheck x) ty pos aD g) ts ls h {} (.a (.d (.ptr id off))) ls h :=
 aq.eA fun j w jl act b=>by
  have h1:=b x (by simp [Op.operands]);rw [hx] at h1;obtain⟨e,hi⟩:=Al h1;exact⟨_,by simp [execOp,e],aF.ptr _ _ hi⟩
theorem aq.cW {x:Operand}{xs:List D}(hx:ev ts x=.a (.d (.view xs))):aq P (mk dst (.nilCheck x) ty pos aD g) ts ls h {} (.a (.d (.view xs))) ls h :=
 aq.eA fun j w jl act b=>by
  have h1:=b x (by simp [Op.operands]);rw [hx] at h1;obtain⟨k,f,e,bZ,hr⟩:=Dr h1;exact⟨_,by simp [execOp,e],aF.view _ _ _ bZ hr⟩
def HP (ts:Ts) (x:Operand):Option D:=match ev ts x with
 | .a (.d y)=>some y
 | _=>none
def ud (ts:Ts):List Operand->Option (List D)
 | []=>some []
 | x::r=>match HP ts x,ud ts r with
  | some y,some ys=>some (y::ys)
  | _,_=>none
theorem Dv {j:J}{w:World}{jl:List Nat}{act:Act}:∀(l:List Operand) (xs:List D),ud ts l=some xs->(∀x,x∈l->bD j w jl (ev ts x) (act.eval x))->bI (aF j w) xs (l.map act.eval)
 | [],xs,h,_=>by simp [ud] at h; subst h; exact .nil
 | x::r,xs,h,b=>by
  simp only [ud] at h
  split at h
  ·rename_i y ys h1 h2
   simp at h; subst h;refine .cons ?_ (Dv r ys h2 fun z hz=>b z (by simp [hz]));have:=b x (by simp);unfold HP at h1
   split at h1
   ·rename_i z hz; simp at h1; subst h1; rw [hz] at this; exact this
   ·simp at h1
  ·simp at h
theorem aq.makeFunc {f:FuncId}{cr:Array Operand}{xs:List D}(hx:ud ts cr.toList=some xs):aq P (mk dst (.makeFunc (.func f) #[] cr) ty pos aD g) ts ls h {} (.a (.d (.func f xs))) ls h :=
 aq.eA fun j w jl act k=>by
  have h1:=Dv (j:=j) (w:=w) (jl:=jl) (act:=act) cr.toList xs hx fun x hx=>k x (by simp [Op.operands] at hx ⊢; exact hx);refine⟨.func (.func f) #[] (cr.toList.map act.eval).toArray, ?_,aF.func f xs _ h1.length fun i hi l=>?_⟩
  ·simp [execOp,Instr.makeFunc]
   apply Array.ext'; simp
  ·obtain⟨y,b,hr⟩:=h1.get (List.getElem?_eq_getElem hi);rw [List.getElem?_eq_getElem l] at b;simp only [Option.some.injEq] at b;rw [b]; exact hr
end
end Go.Ab
/-
 Structs and slices that are built,variables,objects,calls.
-/
namespace Go.Ab
open Go Go.RowKit
variable {ak:bP}
inductive fF {α:Type}(x:α):List α->Nat->List α->Prop where
 | nil:fF x [] 0 [x]
 | cons {a:α}{l l':List α}{n:Nat}(h:fF x l n l'):fF x (a::l) (n+1) (a::l')
theorem fF.spec {α:Type}{x:α}{l l':List α}{n:Nat}(h:fF x l n l'):n=l.length/\l'=l++[x]:=by
 induction h with
 | nil=>exact⟨rfl,rfl⟩
 | cons _ b=>exact⟨by simp [b.1],by simp [b.2]⟩
inductive cZ {α:Type}(x:α):List α->Nat->List α->Prop where
 | zero {a:α}{l:List α}:cZ x (a::l) 0 (x::l)
 | succ {a:α}{l l':List α}{n:Nat}(h:cZ x l n l'):cZ x (a::l) (n+1) (a::l')
theorem cZ.spec {α:Type}{x:α}{l l':List α}{n:Nat}(h:cZ x l n l'):n<l.length/\l'=l.set n x:=by
 induction h with
 | zero=>exact⟨by simp,rfl⟩
 | succ _ b=>exact⟨by simp [b.1],by simp [b.2]⟩
theorem aq.of_run {P:Program}{o:Oper}{ts:Ts}{ls aS:List (List D)}{h h':ah}{fx:Fx}{v:V}
  (g:∀L H,((fx.rl||fx.wl)=true->L=ls)->((fx.rh||fx.wh)=true->H=h)->∀(j:J) (w:World) (jl:List Nat) (a:Act),HL j w jl L H->(∀x,x∈o.op.operands->bD j w jl (ev ts x) (a.eval x)) ->
   ∃r w' cv j' bp,(execOp a.eval o).run P w=.ok r w'/\(r=.value cv\/(r=.skip/\cv=undef))/\bD j' w' bp v cv/\HL j' w' bp (bif fx.wl then aS else L) (bif fx.wh then h' else H)/\Ext jl bp /\
    bT j w (aU j H jl) j' w' (aU j' (bif fx.wh then h' else H) bp)):aq P o ts ls h fx v aS h':=by
 intro L H k hH j w jl a hl l K Q hk;obtain⟨r,w',cv,j',bp,m,hr,hv,b,hx,f⟩:=g L H k hH j w jl a hl l;unfold Oper.wp;rw [m];rcases hr with hr|⟨hr,hu⟩
 ·subst hr; rw [Oper.upon_value]; exact hk v _ _ cv j' w' bp ⟨rfl,rfl,rfl⟩ hv b hx f
 ·subst hr; subst hu; rw [Oper.upon_skip]; exact hk v _ _ undef j' w' bp ⟨rfl,rfl,rfl⟩ hv b hx f
theorem Ext.snoc (jl:List Nat) (b:Nat):Ext jl (jl++[b]):=fun i x hx=>by
 rw [List.getElem?_append_left (List.getElem?_eq_some_iff.1 hx).1]; exact hx
section
variable {P:Program}{ts:Ts}{ls:List (List D)}{h:ah}{dst:Option Tmp}{ty:TypeId}{pos:String}{aD:Array Edge}{g:Option (Nat×Bool)}
theorem aq.HQ {o:Oper}{e:TypeId}{x:A}{i:Nat}{aS:List (List D)}(b:fF (cU x) ls i aS)
  (f:∀(j:J) (w:World) (jl:List Nat) (a:Act),(∀x,x∈o.op.operands->bD j w jl (ev ts x) (a.eval x))->∃v,cF j w x v/\(execOp a.eval o).run P w=.ok (.value (.pointer (some ⟨w.heap.size,0,none⟩))) (w.alloc (.cells v.cells e))) :
  aq P o ts ls h { wl:=true } (.dH i 0) aS h:=by
 refine aq.of_run fun L H g _ j w jl a hl k=>?_;obtain⟨l,m⟩:=b.spec;have p:=g rfl;subst p;obtain⟨v,hv,hr⟩:=f j w jl a k;obtain⟨h1,h2⟩:=hl.loc v.cells.toList e (cU x) hv.cells;rw [Array.toArray_toList] at h1 h2;refine⟨_,_,.pointer (some ⟨w.heap.size,0,none⟩),j,jl++[w.heap.size],hr,.inl rfl,⟨w.heap.size, ?_,rfl⟩, ?_,Ext.snoc _ _,h2⟩
 ·rw [l,hl.2.each.length]; simp
 ·rw [m]; exact h1
theorem aq.NU {e:TypeId}{b:TI}{z:A}{i:Nat}{aS:List (List D)}(f:bn P e=some b) (hz:b.zero=some z) (k:fF (cU z) ls i aS) :
  aq P (mk dst (.alloc e) ty pos aD g) ts ls h { wl:=true } (.dH i 0) aS h:=by
 obtain⟨inf,d,h1,_,_,_,_,h2⟩:=gr f;rw [hz] at h2;obtain⟨v,l,m⟩:=mi h2;refine aq.HQ (e:=e) k fun j w jl a _=>⟨v,m j w, ?_⟩;simp [execOp,Instr.alloc,zeroValue,typeInfo,h1,l,newVar,newRow]
theorem aq.NV {e:TypeId}{x:Operand}{y:A}{i:Nat}{aS:List (List D)}(hx:ev ts x=.a y) (b:fF (cU y) ls i aS) :
  aq P (mk dst (.box e x) ty pos aD g) ts ls h { wl:=true } (.dH i 0) aS h :=
 aq.HQ (e:=e) b fun j w jl a f=>by
  have h1:=f x (by simp [Op.operands]);rw [hx] at h1;exact⟨a.eval x,h1,by simp [execOp,Instr.box,newVar,newRow]⟩
theorem aq.HR {t:TypeId}{f:TI}{x y:Operand}{i off:Nat}{xs:List D}{v:A}{aS:List (List D)}(p:bn P t=some f) (hx:ev ts x=.dH i off) (q:ev ts y=.a v) (hl:ls[i]?=some xs)
  (r:(cU v).length=f.size) (hle:off+f.size<=xs.length) (s:cZ (en xs off (cU v)) ls i aS) (hd:dst=none):aq P (mk dst (.store t x y) ty pos aD g) ts ls h { wl:=true } .any aS h:=by
 refine aq.of_run fun L H u _ j w jl a hh l=>?_;have z:=u rfl;subst z;have h1:=l x (by simp [Op.operands]);have h2:=l y (by simp [Op.operands]);rw [hx] at h1; rw [q] at h2;obtain⟨b,m,e⟩:=Dq h1;obtain⟨J,k,cs,K,hg,ct,B⟩:=hh.2.each.get hl;rw [m] at k; simp only [Option.some.injEq] at k; subst k;obtain⟨w',C,E⟩:=HI (ak:=ak) (P:=P) hg p h2 r (by rw [<- ct.length]; exact hle)
 obtain⟨F,G⟩:=hh.Ns m B E (ct.en off h2.cells);obtain⟨_,I⟩:=s.spec;refine⟨.skip,w',undef,j,jl, ?_,.inr ⟨rfl,rfl⟩,trivial, ?_,Ext.refl _,G⟩
 ·simp [execOp,Instr.storeAt,Instr.sureAddr,e,C]
 ·rw [I]; exact F
theorem HS {α:Type}:∀(pre l r:List α),l.length=r.length->en (pre++l) pre.length r=pre++r
 | pre,[],[],_=>by simp [en]
 | pre,a::l,b::r,h=>by
  have:=HS (pre++[b]) l r (by simpa using h);simp only [en];rw [show (pre++a::l).set pre.length b=(pre++[b])++l by simp [List.set_append]];rw [show pre.length+1=(pre++[b]).length by simp];rw [this]; simp
 | _,[],_::_,h=>by simp at h
 | _,_::_,[],h=>by simp at h
theorem aq.NW {t:TypeId}{b:TI}{x y:Operand}{i:Nat}{xs ys:List D}{aS:List (List D)}(f:bn P t=some b) (hx:ev ts x=.dH i 0) (j:ev ts y=.a (.agg ys)) (hl:ls[i]?=some xs)
  (k:ys.length=b.size) (hle:xs.length=b.size) (l:cZ ys ls i aS):aq P (mk none (.store t x y) ty pos aD g) ts ls h { wl:=true } .any aS h :=
 aq.HR f hx j hl k (by omega) (by
  have:=HS [] xs ys (by omega);simp only [List.nil_append,List.length_nil] at this;rw [show cU (.agg ys)=ys from rfl,this]; exact l) rfl
theorem aq.Ap {t:TypeId}{f:TI}{x y:Operand}{i off:Nat}{xs b:List D}{v:D}{aS:List (List D)}(j:bn P t=some f) (hx:ev ts x=.dH i off) (k:ev ts y=.a (.d v)) (hl:ls[i]?=some xs)
  (l:f.size=1) (hv:cZ v xs off b) (m:cZ b ls i aS):aq P (mk none (.store t x y) ty pos aD g) ts ls h { wl:=true } .any aS h:=by
 obtain⟨h1,h2⟩:=hv.spec;refine aq.HR j hx k hl (by rw [l]; rfl) (by omega) ?_ rfl;rw [show en xs off (cU (.d v))=b by rw [h2]; rfl]; exact m
theorem aq.xe {t:TypeId}{b:TI}{x y:Operand}{id off:Nat}{xs ys:List D}{v:A}(m:bn P t=some b) (hx:ev ts x=.a (.d (.ptr id off))) (p:ev ts y=.a v) (hl:h id=some (.cells xs))
  (q:(cU v).length=b.size) (hle:off+b.size<=xs.length) (r:en xs off (cU v)=ys) (hd:dst=none) :
  aq P (mk dst (.store t x y) ty pos aD g) ts ls h { wh:=true } .any ls (h.set id (some (.cells ys))):=by
 refine aq.of_run fun L H _ hH j w jl a hh l=>?_;have s:=hH rfl;subst s;have h1:=l x (by simp [Op.operands]);have h2:=l y (by simp [Op.operands]);rw [hx] at h1; rw [p] at h2;obtain⟨e,hid⟩:=Al h1;obtain⟨cs,u,hg,ct,f⟩:=(hh.1.obj id _ hl).2;obtain⟨w',z,k⟩:=HI (ak:=ak) (P:=P) hg m h2 q (by rw [<- ct.length]; exact hle);have B:=k.le (j:=j) f;obtain⟨C,E⟩:=hh.setObj (o':=.cells ys) hl rfl rfl f k ⟨_,u,k.here,by rw [<- r]; exact(ct.en off h2.cells).imp fun _ _ h=>h.mono B,f⟩
 refine⟨.skip,w',undef,j,jl, ?_,.inr ⟨rfl,rfl⟩,trivial,C,Ext.refl _,E⟩;simp [execOp,Instr.storeAt,Instr.sureAddr,e,z]
theorem aq.kz {t:TypeId}{b:TI}{x y:Operand}{id off:Nat}{xs f:List D}{v:D}(j:bn P t=some b) (hx:ev ts x=.a (.d (.ptr id off))) (k:ev ts y=.a (.d v)) (hl:h id=some (.cells xs))
  (l:b.size=1) (hv:cZ v xs off f):aq P (mk none (.store t x y) ty pos aD g) ts ls h { wh:=true } .any ls (h.set id (some (.cells f))):=by
 obtain⟨h1,h2⟩:=hv.spec;exact aq.xe j hx k hl (by rw [l]; rfl) (by omega) (by rw [h2]; rfl) rfl
theorem HT {o:Oper}{e:TypeId}{x:A}(b:∀(j:J) (w:World) (jl:List Nat) (a:Act),(∀x,x∈o.op.operands->bD j w jl (ev ts x) (a.eval x))->∃v,cF j w x v/\(execOp a.eval o).run P w=.ok (.value (.pointer (some ⟨w.heap.size,0,none⟩))) (w.alloc (.cells v.cells e))) :
  dA P o ts ls h fun v aS h'=>∃id,h id=none/\v=.a (.d (.ptr id 0))/\aS=ls/\h'=h.set id (some (.cells (cU x))):=by
 intro j w jl a hl f K Q hk;obtain⟨v,hv,hr⟩:=b j w jl a f;have hle:Le j w (j.obj w.heap.size) (w.alloc (.cells v.cells e)) :=
  ((hl.data (.cells v.cells e) 0).2.toLe.trans (by
   rw [J.z6 (hl.1.fresh _ (Nat.le_refl _))];exact⟨by simp [J.obj],fun id hi=>by simp only [J.obj]; rw [if_neg (by omega)],fun _=>Nat.le_refl _,fun _ _ _=>rfl,fun _ _=>.inl rfl,fun _ _ _ _ _ h=>h⟩))
 obtain⟨h1,h2⟩:=hl.obj (.cells v.cells e) (.cells (cU x)) rfl ⟨v.cells.toList,e,by
  simp only [J.obj,if_true]; rw [Array.toArray_toList]; exact heap_alloc_new w _,hv.cells.imp fun _ _ h=>h.mono hle,by
   simp only [J.obj,if_true]; exact hl.1.fresh _ (Nat.le_refl _)⟩
 unfold Oper.wp;rw [hr,Oper.upon_value];refine hk _ _ _ _ (j.obj w.heap.size) _ jl ⟨j.next,hl.1.pN (Nat.le_refl _),rfl,rfl,rfl⟩ ?_ h1 (Ext.refl _) h2;have:=aF.ptr (j:=j.obj w.heap.size) (w:=w.alloc (.cells v.cells e)) j.next 0 (by simp [J.obj])
 simpa [J.obj,bD,cF] using this
theorem dA.HU {e:TypeId}{b:TI}{z:A}(f:bn P e=some b) (hz:b.zero=some z) :
  dA P (mk dst (.alloc e) ty pos aD g) ts ls h fun v aS h'=>∃id,h id=none/\v=.a (.d (.ptr id 0))/\aS=ls/\h'=h.set id (some (.cells (cU z))):=by
 obtain⟨inf,d,h1,_,_,_,_,h2⟩:=gr f;rw [hz] at h2;obtain⟨v,k,l⟩:=mi h2;refine HT (e:=e) fun j w jl a _=>⟨v,l j w, ?_⟩;simp [execOp,Instr.alloc,zeroValue,typeInfo,h1,k,newVar,newRow]
theorem dA.rN {e:TypeId}{x:Operand}{y:A}(hx:ev ts x=.a y) :
  dA P (mk dst (.box e x) ty pos aD g) ts ls h fun v aS h'=>∃id,h id=none/\v=.a (.d (.ptr id 0))/\aS=ls/\h'=h.set id (some (.cells (cU y))) :=
 HT (e:=e) fun j w jl a b=>by
  have h1:=b x (by simp [Op.operands]);rw [hx] at h1;exact⟨a.eval x,h1,by simp [execOp,Instr.box,newVar,newRow]⟩
def Aq (ts:Ts) (x:Operand):Option A:=match ev ts x with
 | .a y=>some y
 | _=>none
def ic (ts:Ts):List Operand->Option (List A)
 | []=>some []
 | x::r=>match Aq ts x,ic ts r with
  | some y,some ys=>some (y::ys)
  | _,_=>none
theorem Dw {j:J}{w:World}{jl:List Nat}{act:Act}:∀(l:List Operand) (xs:List A),ic ts l=some xs->(∀x,x∈l->bD j w jl (ev ts x) (act.eval x))->bI (cF j w) xs (l.map act.eval)
 | [],xs,h,_=>by simp [ic] at h; subst h; exact .nil
 | x::r,xs,h,b=>by
  simp only [ic] at h
  split at h
  ·rename_i y ys h1 h2
   simp at h; subst h;refine .cons ?_ (Dw r ys h2 fun z hz=>b z (by simp [hz]));have:=b x (by simp);unfold Aq at h1
   split at h1
   ·rename_i z hz; simp at h1; subst h1; rw [hz] at this; exact this
   ·simp at h1
  ·simp at h
theorem ue {f:Operand}{args:Array Operand}{cn:Array TypeId}{dY:FuncId}{cr:List D}{xs:List A}{cT:V->ah->Prop}{L:List (List D)}{H:ah}(s:ev ts f=.a (.d (.func dY cr))) (t:ic ts args.toList=some xs)
  (hc:AC P dY (xs++cr.map .d) H cT) :
  dA P (mk dst (.call { callee:=.value f,args:=args,argTypes:=cn }) ty pos aD g) ts L H fun v aS h'=>cT v h'/\aS=L:=by
 intro j w jl a hl k K Q hk;have h1:=k f (by simp [Op.operands,Call.operands]);rw [s] at h1;have h2:=Dw (j:=j) (w:=w) (jl:=jl) (act:=a) args.toList xs t fun x hx=>k x (by simp [Op.operands,Call.operands]; right; simpa using hx);have p:aF j w (.func dY cr) (a.eval f):=h1;generalize u:a.eval f=S at p;cases p with
 | func _ _ jk hlen hr =>
  have B:bI (cF j w) (xs++cr.map .d) (args.toList.map a.eval++jk):=by
   refine h2.append (bI.k7 (by simp [hlen]) fun i x y hx C=>?_);rw [List.getElem?_map] at hx;cases e:cr[i]? with
   | none=>rw [e] at hx; simp at hx
   | some z =>
    rw [e] at hx; simp at hx; subst hx;obtain⟨hi,E⟩:=List.getElem?_eq_some_iff.1 e;obtain⟨G,I⟩:=List.getElem?_eq_some_iff.1 C;have:=hr i hi G;rw [E,I] at this; exact this
  have J:=hc.runs j w _ hl.1 B;have M:(execOp a.eval (mk dst (.call { callee:=.value f,args:=args,argTypes:=cn }) ty pos aD g)).run P w=.ok (.enter dY (args.toList.map a.eval++jk).toArray) w:=by
   have he:=hc.enter (args.toList.map a.eval++jk).toArray w;have N:Array.map a.eval args++jk.toArray=(args.toList.map a.eval++jk).toArray:=by apply Array.ext'; simp
   simp only [execOp,resolve,u,Deferred.ofValue,Sem.run_bind,Sem.run_pure,Result.andThen,invoke,List.append_eq,Array.empty_append];rw [N]; exact he
  unfold Oper.wp;rw [M,Oper.upon_enter];refine J.mono ?_;rintro e w' ⟨r,cv,j',h',rfl,O,hv,hh,m⟩;have q:∀b,b∈jl->b<w.heap.size:=fun b l=>aU.lt hl (.inl l);have R:∀b,b∈jl->w'.heap[b]?=w.heap[b]?/\j'.F b=j.F b:=fun b l=>m.frame b (q b l) (hl.2.apart b l);refine hk r L h' cv j' w' jl ⟨O,rfl⟩ (hv.mono (Le.refl _ _) (fun i b l=>by simp at l)) ⟨hh,⟨ny hl.2.each fun xs b l h=>h.keep m.toLe (R b l),hl.2.nodup,fun b l k=>hl.2.apart b l (m.own b (q b l) k)⟩⟩ (Ext.refl _) ?_
  refine { m with frame:=fun b l hn=>m.frame b l (fun k=>hn ?_),own:=fun b l k=>?_ }
  ·rcases k with k|k
   ·simp at k
   ·exact .inr k
  ·rcases k with k|k
   ·exact .inl k
   ·rcases m.own b l (.inr k) with h|h
    ·simp at h
    ·exact .inr h
theorem dA.call {f:Operand}{args:Array Operand}{cn:Array TypeId}{dY:FuncId}{cr:List D}{xs:List A}{cT:V->ah->Prop}(b:ev ts f=.a (.d (.func dY cr))) (j:ic ts args.toList=some xs)
  (hc:AC P dY (xs++cr.map .d) h cT) :
  dA P (mk dst (.call { callee:=.value f,args:=args,argTypes:=cn }) ty pos aD g) ts ls h fun v aS h'=>cT v h'/\aS=ls:=ue b j hc
theorem aq.fT {f:Operand}{args:Array Operand}{cn:Array TypeId}{dY:FuncId}{cr:List D}{xs:List A}{v:V}(b:ev ts f=.a (.d (.func dY cr))) (j:ic ts args.toList=some xs)
  (hc:∀H,AC P dY (xs++cr.map .d) H fun r h'=>r=v/\h'=H) :
  aq P (mk dst (.call { callee:=.value f,args:=args,argTypes:=cn }) ty pos aD g) ts ls h {} v ls h:=by
 intro L H _ _;exact(ue b j (hc H)).mono fun _ _ _ ⟨⟨k,l⟩,m⟩=>⟨k,m,l⟩
theorem aq.bF {f:Operand}{args:Array Operand}{cn:Array TypeId}{dY:FuncId}{cr:List D}{xs:List A}{v:V}{h1:ah}(b:ev ts f=.a (.d (.func dY cr))) (j:ic ts args.toList=some xs)
  (hc:AC P dY (xs++cr.map .d) h fun r h'=>r=v/\h'=h1) :
  aq P (mk dst (.call { callee:=.value f,args:=args,argTypes:=cn }) ty pos aD g) ts ls h { rh:=true,wh:=true } v ls h1:=by
 intro L H _ hH;have e:=hH rfl;subst e;exact(ue b j hc).mono fun _ _ _ ⟨⟨k,l⟩,m⟩=>⟨k,m,l⟩
theorem aq.eV {f:Operand}{args:Array Operand}{cn:Array TypeId}{dY:FuncId}{cr:List D}{xs:List A}{v:V}(b:ev ts f=.a (.d (.func dY cr))) (j:ic ts args.toList=some xs)
  (hc:AC P dY (xs++cr.map .d) h fun r h'=>r=v/\h'=h) :
  aq P (mk dst (.call { callee:=.value f,args:=args,argTypes:=cn }) ty pos aD g) ts ls h { rh:=true } v ls h:=by
 intro L H _ hH;have e:=hH rfl;subst e;exact(ue b j hc).mono fun _ _ _ ⟨⟨k,l⟩,m⟩=>⟨k,m,l⟩
end
end Go.Ab
/-
 append.
-/
namespace Go.Ab
open Go Go.RowKit
variable {ak:bP}
theorem uf {j:J}{w:World}{k:Nat}{tok:Option Nat}{rows:List (List D)}{b o cap:Nat}(hk:∀r∈rows,r.length=k) (hn:rows.length<=dI) (hc:rows.length<=cap)
  (f:∀i x,rows.flatten[i]?=some x->o+i<j.F b/\∃v,w.cell? ⟨b,o+i,none⟩=some v/\aF j w x v) (ht:tQ j tok rows.length ⟨b,o,none⟩ cap) (g:∀i v,i<rows.flatten.length->w.cell? ⟨b,o+i,none⟩=some v->Uz w b (o+i) v) :
  aF j w (.slice k tok false rows) (.slice (some ⟨b,o,none⟩) rows.length cap):=by
 refine aF.slice k tok rows ⟨b,o,none⟩ cap (fun i=>(w.cell? ⟨b,o+i,none⟩).getD undef) hk hn hc ⟨.inr rfl,fun i hi=>?_⟩ (fun i hi=>?_) ht
 ·obtain⟨h1,v,h2,_⟩:=f i _ (List.getElem?_eq_getElem hi);exact⟨h1,by show w.cell? _=some ((w.cell? ⟨b,o+i,none⟩).getD undef); rw [h2]; rfl,g i _ hi (by show _=some ((w.cell? ⟨b,o+i,none⟩).getD undef); rw [h2]; rfl)⟩
 ·obtain⟨h1,v,h2,l⟩:=f i _ (List.getElem?_eq_getElem hi);rw [h2]; exact l
theorem xf {α:Type}:∀(l:List α) (n:Nat) (r:List α) (i:Nat),i<n->(en l n r)[i]?=l[i]?
 | _,_,[],_,_=>rfl
 | l,n,v::r,i,h=>by
  rw [en,xf (l.set n v) (n+1) r i (by omega),List.getElem?_set_ne (by omega)]
theorem Ar {α:Type}:∀(l:List α) (n:Nat) (r:List α) (i:Nat) (x:α),r[i]?=some x->n+r.length<=l.length->(en l n r)[n+i]?=some x
 | _,_,[],_,_,h,_=>by simp at h
 | l,n,v::r,i,x,h,hl=>by
  simp only [List.length_cons] at hl;cases i with
  | zero =>
   simp at h; subst h;rw [en,Nat.add_zero,xf _ _ _ _ (by omega),List.getElem?_set];simp; omega
  | succ i =>
   rw [en,show n+(i+1)=n+1+i by omega];exact Ar (l.set n v) (n+1) r i x (by simpa using h) (by simp; omega)
section
variable {P:Program}{t u ty e:TypeId}{i:TypeInfo}{z:Value}{du:TypeDesc}
theorem Dx (ht:P.underlying t=some (.slice e)) (hu:P.underlying u=some du) (b:∀k,du≠.int k) (hi:P.info? e=some i) (hz:i.zero=some z){w:World}{base:Option Addr}{sLen sCap m:Nat}{x:Value}{olds news:List Value}
  (hlen:(Builtin.lenOf x).run P w=.ok m w) (f:(Builtin.firstCells i.size sLen (.slice base sLen sCap)).run P w.drew=.ok olds.toArray w.drew) (g:(Builtin.firstCells i.size m x).run P w.drew=.ok news.toArray w.drew)
  (hg:sCap<sLen+m) (p:sLen+m<=9223372036854775807) (q:Builtin.nextslicecap (sLen+m) sCap*i.bytes<=281474976710656) :
  (Builtin.append_ #[t,u] ty #[.slice base sLen sCap,x]).run P w=.ok (.slice (some ⟨w.heap.size,0,none⟩) (sLen+m) (grownCap w (sLen+m) sCap e))
   (w.drew.alloc (.cells (olds++news++(Builtin.zeroCells z.cells (grownCap w (sLen+m) sCap e-(sLen+m))).toList).toArray e)):=by
 have hn:¬(sLen+m<=sCap):=by omega
 have j:¬(9223372036854775807<((sLen:Int)+(m:Int))):=by omega
 have l:¬(281474976710656<Builtin.nextslicecap (sLen+m) sCap*i.bytes):=by omega
 have hd:(match du with|.int _=>true|_=>false)=false:=by cases du<;>first|rfl|exact absurd rfl (b _)
 simp [Builtin.append_,run_underlying ht,run_underlying hu,sizeOf,typeInfo,zeroValue,hi,hz,hd,hlen,hn,j,l,Question.forced,f,g,newRow,grownCap]
 congr 2
 apply Array.ext'
 simp [List.append_assoc]
theorem xg (ht:P.underlying t=some (.slice e)) (hu:P.underlying u=some du) (b:∀k,du≠.int k) (hi:P.info? e=some i){w w':World}{a:Addr}{sLen sCap m:Nat}{x:Value}{news:List Value}
  (hlen:(Builtin.lenOf x).run P w=.ok m w) (f:(Builtin.firstCells i.size m x).run P w=.ok news.toArray w) (hg:sLen+m<=sCap) (g:(storeCells (a.add (sLen*i.size)) news).run P w=.ok () w') :
  (Builtin.append_ #[t,u] ty #[.slice (some a) sLen sCap,x]).run P w=.ok (.slice (some a) (sLen+m) sCap) w':=by
 have hd:(match du with|.int _=>true|_=>false)=false:=by cases du<;>first|rfl|exact absurd rfl (b _)
 simp [Builtin.append_,run_underlying ht,run_underlying hu,sizeOf,typeInfo,hi,hd,hlen,hg,f,g]
theorem HV (ht:P.underlying t=some (.slice e)) (hu:P.underlying u=some du) (b:∀k,du≠.int k) (hi:P.info? e=some i){w:World}{x:Value}
  (hlen:(Builtin.lenOf x).run P w=.ok 0 w) (f:(Builtin.firstCells i.size 0 x).run P w=.ok #[] w) :
  (Builtin.append_ #[t,u] ty #[.slice none 0 0,x]).run P w=.ok (.slice none 0 0) w:=by
 have hd:(match du with|.int _=>true|_=>false)=false:=by cases du<;>first|rfl|exact absurd rfl (b _)
 simp [Builtin.append_,run_underlying ht,run_underlying hu,sizeOf,typeInfo,hi,hd,hlen,f]
end
theorem Dy {P:Program}{j:J}{w:World}{k:Nat}{tok:Option Nat}{nl:Bool}{rows:List (List D)}{cv:Value}{size:Nat}(h:aF j w (.slice k tok nl rows) cv) (hk:∀r∈rows,r.length=size) :
  ∃cs:List Value,bI (aF j w) rows.flatten cs/\∀w',(∀b o,o<j.F b->w'.cell? ⟨b,o,none⟩=w.cell? ⟨b,o,none⟩)->(Builtin.firstCells size rows.length cv).run P w'=.ok cs.toArray w':=by
 cases h with
 | gH _ _ ht=>exact⟨[],.nil,fun w' _=>by simp [Builtin.firstCells]⟩
 | slice _ _ _ a cap f u hn hc bZ hr ht =>
  by_cases l:rows=[]
  ·subst l;exact⟨[],.nil,fun w' _=>by simp [Builtin.firstCells,loadCells,loadCellsFrom]⟩
  have m:a=⟨a.block,a.off,none⟩:=by have:=bZ.1.resolve_left l; cases a; simp at this; simp [this]
  have p:=(jq hk).1;obtain⟨cs,h1,h2⟩:=Dl (P:=P) (j:=j) (w:=w) (b:=a.block) (o:=a.off) rows.flatten fun i x hx=>by
   have hi:=(List.getElem?_eq_some_iff.1 hx).1;refine⟨f i,(bZ.2 i hi).2.1, ?_⟩;have:=hr i hi;rw [(List.getElem?_eq_some_iff.1 hx).2] at this; exact this
  refine⟨cs,h1,fun w' hw=>?_⟩;have q:∀n v,cs[n]?=some v->w.cell? ⟨a.block,a.off+n,none⟩=some v:=by
   intro n v hv;obtain⟨x,hx,_⟩:=h1.get' hv;have hi:=(List.getElem?_eq_some_iff.1 hx).1;have s:=(bZ.2 n hi).2.1;have g:(loadCells ⟨a.block,a.off,none⟩ rows.flatten.length).run P w=.ok ((List.range rows.flatten.length).map f).toArray w :=
    run_loadCells w _ _ f fun i hi=>by rw [add_plain]; exact(bZ.2 i hi).2.1
   rw [h2] at g;simp only [Result.ok.injEq,and_true] at g;have t:cs=(List.range rows.flatten.length).map f:=by
    have:=congrArg Array.toList g; simpa using this
   rw [t,List.getElem?_map,List.getElem?_range hi] at hv;simp at hv;rw [s,hv]
  rw [Builtin.firstCells,<- p,h1.length];rw [m];exact run_loadCells_list w' _ cs fun n v hv=>by
   rw [add_plain];obtain⟨x,hx,_⟩:=h1.get' hv;have hi:=(List.getElem?_eq_some_iff.1 hx).1;rw [hw _ _ (bZ.2 n hi).1];exact q n v hv
theorem HW {j:J}{w:World}{k:Nat}{tok:Option Nat}{nl:Bool}{rows:List (List D)}{cv:Value}(h:aF j w (.slice k tok nl rows) cv) (P:Program) (w':World):(Builtin.lenOf cv).run P w'=.ok rows.length w':=by
 cases h<;>simp [Builtin.lenOf]
theorem HX {R:Nat->D->Prop}{rows bt:List (List D)}{n:Nat}(hn:rows.flatten.length=n) (h1:∀i x,rows.flatten[i]?=some x->R i x) (h2:∀i x,bt.flatten[i]?=some x->R (n+i) x) :
  ∀i x,(rows++bt).flatten[i]?=some x->R i x:=by
 intro i x hx;rw [List.flatten_append,List.getElem?_append] at hx
 split at hx
 ·exact h1 i x hx
 ·rename_i h
  have:=h2 _ x hx
  rwa [show n+(i-rows.flatten.length)=i by omega] at this
section
variable {P:Program}{ts:Ts}{ls:List (List D)}{h:ah}{dst:Option Tmp}{ty:TypeId}{pos:String}{aD:Array Edge}{g:Option (Nat×Bool)}
theorem HY {P:Program}{t:TypeId}{b:TI}(g:bn P t=some b) (hk:(∃e,b.k=.slice e)\/b.k=.str):∃d,P.underlying t=some d/\∀k,d≠.int k:=by
 obtain⟨i,d,h1,h2,_,_,f,_⟩:=gr g;refine⟨d,h2,fun k e=>?_⟩;subst e;simp only [fZ] at f;rcases hk with ⟨e,hk⟩|hk<;>rw [hk] at f<;>cases f
def Src (P:Program) (j:J) (w:World) (size:Nat) (cv:Value) (bt:List (List D)):Prop :=
 (∀r∈bt,r.length=size)/\(∃news:List Value,bI (aF j w) bt.flatten news/\∀w',(∀b o,o<j.F b->w'.cell? ⟨b,o,none⟩=w.cell? ⟨b,o,none⟩)->(Builtin.firstCells size bt.length cv).run P w'=.ok news.toArray w')/\∀w',(Builtin.lenOf cv).run P w'=.ok bt.length w'
theorem Src.slice {P:Program}{j:J}{w:World}{k:Nat}{tok:Option Nat}{nl:Bool}{rows:List (List D)}{cv:Value}{size:Nat}(h:aF j w (.slice k tok nl rows) cv) (hk:∀r∈rows,r.length=size):Src P j w size cv rows :=
 ⟨hk,Dy h hk,fun w'=>HW h P w'⟩
theorem aq.NX {t u e:TypeId}{aA af l:TI}{x y:Operand}{tk k m:Nat}{E:Option TypeId}{nl:Bool}{rows bt:List (List D)}{z:A}(aT:bn P t=some aA) (hk:aA.k=.slice e) (aV:bn P e=some l) (aW:bn P u=some af) (aX:(∃e,af.k=.slice e)\/af.k=.str)
  (hz:l.zero=some z) (aY:(cU z).length=l.size) (bs:l.size≠0)
  (hx:ev ts x=.a (.d (.slice k (some tk) nl rows))) (aZ:∀(j:J) (w:World) (jl:List Nat) (cv:Value),bD j w jl (ev ts y) cv->Src P j w l.size cv bt) (B:k=l.size\/rows=[])
  (K:h tk=some (.tok l.size m E)) (hm:m=rows.length) (a0:(rows.length+bt.length)*l.bytes<=dI) (hlen:rows.length+bt.length<=dI) (a1:∀T,E=some T->T=e:=by intro T h; cases h) :
  aq P (mk dst (.call { callee:=.builtin .append,args:=#[x,y],argTypes:=#[t,u] }) ty pos aD g) ts ls h { rh:=true,wh:=true }
   (.a (.d (.slice l.size (some tk) (nl&&bt.isEmpty) (rows++bt)))) ls (h.set tk (some (.tok l.size (rows.length+bt.length) E))):=by
 refine aq.of_run fun L H _ hH j w jl a hl M=>?_;have a2:=hH rfl;subst a2 hm;have h1:aF j w (.slice k (some tk) nl rows) (a.eval x):=by have:=M x (by simp [Op.operands,Call.operands]); rw [hx] at this; exact this
 obtain⟨aB,⟨news,S,U⟩,a3⟩:=aZ j w jl (a.eval y) (M y (by simp [Op.operands,Call.operands]));obtain⟨bu,bv,W,_,I,a4,_,aC⟩:=gr aV;rw [hz] at aC;obtain⟨zv,a5,a6⟩:=mi aC;have a7:zv.cells.size=l.size:=by have:=(a6 j w).cells.length; rw [aY] at this; simpa using this.symm
 obtain⟨du,hu,X⟩:=HY aW aX;have ht:=mq aT hk;obtain⟨ai,cap,Y,bw,bx,bz,aE,a8,a9⟩:=nE (jl:=jl) h1;have aj:∀r∈rows,r.length=l.size:=by
  rcases B with e|e
  ·rw [<- e]; exact a8
  ·rw [e]; simp
 have Z:∀r∈rows++bt,r.length=l.size:=fun r hr=>(List.mem_append.1 hr).elim (aj r) (aB r);have aa:=a3 w;have a_:=(jq aB).1;have al:=(jq aj).1;have ab:news.length=bt.length*l.size:=by rw [<- S.length,a_]
 obtain⟨aG,ek,aK,hblk,_⟩:=hl.1.obj tk _ K;have am:∀(v:Value) (w':World),(Builtin.append_ #[t,u] ty #[a.eval x,a.eval y]).run P w=.ok v w' ->
   (execOp a.eval (mk dst (.call { callee:=.builtin .append,args:=#[x,y],argTypes:=#[t,u] }) ty pos aD g)).run P w=.ok (.value v) w':=fun v w' hr=>by
  simp [execOp,resolve,invoke,builtin,hr]
 have p:(rows++bt).length=rows.length+bt.length:=by simp
 by_cases an:bt=[]
 ·-- nothing is appended
  subst an;have a':news=[]:=List.eq_nil_of_length_eq_zero (by simpa using ab);subst a';have C:(Builtin.append_ #[t,u] ty #[a.eval x,a.eval y]).run P w=.ok (a.eval x) w:=by
   rw [Y];cases ai with
   | none =>
    obtain⟨aL,ba⟩:=aE rfl;subst aL ba;exact HV ht hu X W (by simpa using aa) (by rw [I]; simpa using U w (fun _ _ _=>rfl))
   | some ao =>
    have:=xg (P:=P) (ty:=ty) (sCap:=cap) (sLen:=rows.length) (m:=0) (a:=ao) (news:=[]) (w':=w) ht hu X W (by simpa using aa) (by rw [I]; simpa using U w (fun _ _ _=>rfl)) (by omega) (by simp [storeCells])
    simpa using this
  refine⟨_,w,a.eval x,j,jl,am _ _ C,.inl rfl, ?_, ?_,Ext.refl _, ?_⟩
  ·have bb:rows≠[]->k=l.size:=fun ad=>B.resolve_right ad;simp only [List.append_nil,List.isEmpty_nil,Bool.and_true];show aF j w _ _;by_cases ad:rows=[]
   ·subst ad;have key:∀ap,aF j w (.slice k (some tk) nl []) ap->aF j w (.slice l.size (some tk) nl []) ap:=by
     intro ap hh;cases hh with
     | gH _ _ ht=>exact .gH _ _ ht
     | slice _ _ _ a cap f hk hn hc bZ hr ht=>exact .slice _ _ [] a cap f (by simp) hn hc bZ hr ht
    exact key _ h1
   ·rw [<- bb ad]; exact h1
  ·simp only [List.length_nil,Nat.add_zero,cond_true];rw [ah.tR H tk _ K]; exact hl
  ·simp only [List.length_nil,Nat.add_zero,cond_true];rw [ah.tR H tk _ K]; exact bT.refl _ _ _
 ·have bA:0<bt.length:=List.length_pos_iff.2 an;have bc:(nl&&bt.isEmpty)=false:=by cases bt with|nil=>exact absurd rfl an|cons _ _=>simp
  rw [bc];by_cases N:rows.length+bt.length<=cap
  ·-- in place
   cases ai with
   | none=>obtain⟨aL,_⟩:=aE rfl; omega
   | some ao =>
    obtain⟨bd,f,bZ,be⟩:=a9 ao rfl;obtain⟨_,bf⟩:=bd tk rfl;obtain⟨_,bg⟩:=bf _ aK;rcases bg rfl with ⟨_,hc⟩|⟨b,ar,bh⟩
    ·omega
    ·subst bh;dsimp only at ar;obtain⟨cs,ce,hg,av,bi,bB,bj⟩:=hblk b cap ar;have aM:w.heap[b]?=some (.cells cs.toList.toArray ce (0,0)):=by simpa using hg
     obtain⟨w',bk,q⟩:=Ak (ak:=ak) (P:=P) (off:=rows.length*l.size) news 0 cs.toList w aM (by
      rw [ab]; simp only [Array.length_toList,av]; rw [Nat.add_zero,<- Nat.add_mul]; exact Nat.mul_le_mul_right _ N) (Dn S)
     rw [Nat.add_zero] at q;have C:(Builtin.append_ #[t,u] ty #[a.eval x,a.eval y]).run P w=.ok (.slice (some ⟨b,0,none⟩) (rows.length+bt.length) cap) w':=by
      rw [Y];exact xg ht hu X W aa (by rw [I]; exact U w fun _ _ _=>rfl) N (by rw [add_plain,I,Nat.zero_add]; exact bk)
     have bl:bQ j tk (.tok l.size rows.length E)=some b:=by simp [bQ,aK,ar]
     have ae:∀o,w'.cell? ⟨b,o,none⟩=(en cs.toList (rows.length*l.size) news)[o]?:=fun o=>by rw [cell_of_row w' b o _ ce (0,0) q.here]; simp
     have aN:∀o,w.cell? ⟨b,o,none⟩=cs.toList[o]?:=fun o=>by rw [cell_of_row w b o _ ce (0,0) aM]; simp
     obtain⟨aw,O⟩:=hl.grow (w':=w') (m':=rows.length+bt.length) K (by omega) (b:=b) (cap:=cap) q.here (by simp [Dm,av]) N (fun x hx _=>q.other x hx)
      (by rw [q.size]; exact Nat.le_refl _) (by rw [q.size]; omega) (.inr ⟨bl,fun o M=>by rw [ae,aN,xf _ _ _ _ (by rw [bi] at M; exact M)]⟩) q.os q.tape q.output bj
     refine⟨_,w',_,_,jl,am _ _ C,.inl rfl, ?_,aw,Ext.refl _,O⟩;have hle:=O.toLe;have:=uf (j:=j.cH tk ⟨some (b,cap),rows.length+bt.length⟩ b ((rows.length+bt.length)*l.size)) (w:=w') (k:=l.size) (tok:=some tk) (rows:=rows++bt) (b:=b) (o:=0) (cap:=cap) Z
      (by rw [p]; exact hlen) (by rw [p]; exact N) (fun i x hx=>?_) (fun bm Q=>?_) (fun _ _ _ _=>.cells q.here)
     ·rw [p] at this; exact this
     ·have ax:i<(rows++bt).flatten.length:=(List.getElem?_eq_some_iff.1 hx).1;rw [(jq Z).1,p] at ax;refine⟨by simp only [J.cH,if_true]; omega, ?_⟩;rw [Nat.zero_add,ae]
      revert i x hx
      have:=HX (R:=fun i x=>∃v,(en cs.toList (rows.length*l.size) news)[i]?=some v/\aF (j.cH tk ⟨some (b,cap),rows.length+bt.length⟩ b ((rows.length+bt.length)*l.size)) w' x v) al (bt:=bt)
       (fun i x hx=>by
        have hi:=(List.getElem?_eq_some_iff.1 hx).1;rw [xf _ _ _ _ (by omega)];have aO:=(bZ.2 i hi).2.1;rw [Nat.zero_add,aN] at aO;refine⟨f i,aO, ?_⟩;have aP:=be i hi;rw [(List.getElem?_eq_some_iff.1 hx).2] at aP;exact aP.mono hle)
       (fun i x hx=>by
        obtain⟨v,hv,hr⟩:=S.get hx;exact⟨v,Ar _ _ _ _ _ hv (by rw [ab]; simp only [Array.length_toList,av]; rw [<- Nat.add_mul]; exact Nat.mul_le_mul_right _ N),hr.mono hle⟩)
      exact fun i x hx _=>this i x hx
     ·simp only [Option.some.injEq] at Q;subst Q;refine⟨Nat.lt_of_lt_of_le aG hle.next,fun kk B=>?_⟩;simp only [J.cH,if_true,Option.some.injEq] at B;subst B;exact⟨by rw [p]; exact Nat.le_refl _,fun _=>.inr ⟨b,rfl,rfl⟩⟩
  ·-- a new array
   obtain⟨olds,aQ,bo⟩:=Dy (P:=P) h1 aj;have bp:olds.length=rows.length*l.size:=by rw [<- aQ.length,al]
   have aR:∀b o,o<j.F b->w.drew.cell? ⟨b,o,none⟩=w.cell? ⟨b,o,none⟩:=fun _ _ _=>rfl;have bC:dI=140737488355328:=rfl;have C:=Dx (P:=P) (ty:=ty) (w:=w) (base:=ai) (sLen:=rows.length) (sCap:=cap) (m:=bt.length) (x:=a.eval y) (olds:=olds) (news:=news) ht hu X W a5 aa
    (by rw [I,<- Y]; exact bo w.drew aR) (by rw [I]; exact U w.drew aR) (by omega) (by omega) (growslice_fits (by omega) (by rw [a4]; exact a0))
   rw [<- Y] at C;generalize bq:grownCap w (rows.length+bt.length) cap e=G at C;have aS:rows.length+bt.length<=G:=by rw [<- bq]; exact grownCap_ge _ _ _ _
   generalize ay:olds++news++(Builtin.zeroCells zv.cells (G-(rows.length+bt.length))).toList=s at C;have br:s.length=G*l.size:=by
    rw [<- ay];simp only [List.length_append,bp,ab,Array.length_toList,size_zeroCells,a7,<- Nat.add_mul]
    congr 1; omega
   have az:=heap_alloc_new w.drew (.cells s.toArray e);have ae:∀o,(w.drew.alloc (.cells s.toArray e)).cell? ⟨w.heap.size,o,none⟩=s[o]?:=fun o=>by
    rw [cell_of_row _ w.heap.size o s.toArray e (0,0) az]; simp
   obtain⟨aw,O⟩:=hl.drew.grow (w':=w.drew.alloc (.cells s.toArray e)) (m':=rows.length+bt.length) K (by omega) (b:=w.heap.size) (cap:=G) az (by simpa using br) aS
    (fun x hx aJ=>pM aJ) (by simp) (by simp) (.inl (Nat.le_refl _)) rfl rfl fJ.rfl (fun T h=>(a1 T h).symm)
   refine⟨_,_,_,_,jl,am _ _ C,.inl rfl, ?_,aw,Ext.refl _,(bT.drew j w _).trans O⟩;have hle:=((bT.drew j w (aU j H jl)).trans O).toLe;have:=uf (j:=j.cH tk ⟨some (w.heap.size,G),rows.length+bt.length⟩ w.heap.size ((rows.length+bt.length)*l.size)) (w:=w.drew.alloc (.cells s.toArray e)) (k:=l.size) (tok:=some tk) (rows:=rows++bt) (b:=w.heap.size)
    (o:=0) (cap:=G) Z (by rw [p]; exact hlen) (by rw [p]; exact aS) (fun i x hx=>?_) (fun bm Q=>?_) (fun _ _ _ _=>.cells az)
   ·rw [p] at this; exact this
   ·have ax:i<(rows++bt).flatten.length:=(List.getElem?_eq_some_iff.1 hx).1;rw [(jq Z).1,p] at ax;refine⟨by simp only [J.cH,if_true]; omega, ?_⟩;rw [Nat.zero_add,ae]
    revert i x hx
    have:=HX (R:=fun i x=>∃v,s[i]?=some v/\aF (j.cH tk ⟨some (w.heap.size,G),rows.length+bt.length⟩ w.heap.size ((rows.length+bt.length)*l.size)) (w.drew.alloc (.cells s.toArray e)) x v) al (bt:=bt)
     (fun i x hx=>by
      obtain⟨v,hv,hr⟩:=aQ.get hx;refine⟨v, ?_,hr.mono hle⟩;have hi:=(List.getElem?_eq_some_iff.1 hv).1;rw [<- ay,List.append_assoc,List.getElem?_append_left hi]; exact hv)
     (fun i x hx=>by
      obtain⟨v,hv,hr⟩:=S.get hx;refine⟨v, ?_,hr.mono hle⟩;have hi:=(List.getElem?_eq_some_iff.1 hv).1;rw [<- ay,List.append_assoc,List.getElem?_append_right (by omega),show rows.length*l.size+i-olds.length=i by omega,List.getElem?_append_left hi]; exact hv)
    exact fun i x hx _=>this i x hx
   ·simp only [Option.some.injEq] at Q;subst Q;refine⟨Nat.lt_of_lt_of_le aG hle.next,fun kk B=>?_⟩;simp only [J.cH,if_true,Option.some.injEq] at B;subst B;exact⟨by rw [p]; exact Nat.le_refl _,fun _=>.inr ⟨w.heap.size,rfl,rfl⟩⟩
theorem aq.append {t u e:TypeId}{l f b:TI}{x y:Operand}{tk k k' m:Nat}{tok':Option Nat}{nl p:Bool}{rows bt:List (List D)}{z:A}(s:bn P t=some l) (hk:l.k=.slice e) (v:bn P e=some b) (B:bn P u=some f) (C:(∃e,f.k=.slice e)\/f.k=.str)
  (hz:b.zero=some z) (E:(cU z).length=b.size) (F:b.size≠0)
  (hx:ev ts x=.a (.d (.slice k (some tk) nl rows))) (G:ev ts y=.a (.d (.slice k' tok' p bt))) (H:k=b.size\/rows=[]) (I:k'=b.size\/bt=[])
  (J:h tk=some (.tok b.size m)) (hm:m=rows.length) (K:(rows.length+bt.length)*b.bytes<=dI) (hlen:rows.length+bt.length<=dI) :
  aq P (mk dst (.call { callee:=.builtin .append,args:=#[x,y],argTypes:=#[t,u] }) ty pos aD g) ts ls h { rh:=true,wh:=true }
   (.a (.d (.slice b.size (some tk) (nl&&bt.isEmpty) (rows++bt)))) ls (h.set tk (some (.tok b.size (rows.length+bt.length)))) :=
 aq.NX s hk v B C hz E F hx (fun j w jl cv hv=>by
  have q:aF j w (.slice k' tok' p bt) cv:=by rw [G] at hv; exact hv
  refine Src.slice q fun r hr=>?_;obtain⟨_,_,_,_,_,_,_,hh,_⟩:=nE (jl:=jl) q;rcases I with e|e
  ·rw [<- e]; exact hh r hr
  ·rw [e] at hr; cases hr) H J hm K hlen
end
end Go.Ab
/-
 Struct and slice literals,maps,parts of slices,comparisons of structs,tokens.
-/
namespace Go.Ab
open Go Go.RowKit
variable {ak:bP}
theorem Dz (off:Nat):∀(l:List Value) (k:Nat) (cs:Array Value),((l.zipIdx k).foldl (fun cs (p:Value×Nat)=>cs.setIfInBounds (off+p.2) p.1) cs).toList=en cs.toList (off+k) l
 | [],_,_=>rfl
 | v::r,k,cs=>by
  simp only [List.zipIdx_cons,List.foldl_cons];rw [Dz off r (k+1)];simp [en,Nat.add_assoc]
def rO (ts:Ts):List (Nat×Operand)->Option (List (Nat×A))
 | []=>some []
 | (i,x)::r=>match Aq ts x,rO ts r with
  | some y,some ys=>some ((i,y)::ys)
  | _,_=>none
theorem DA {j:J}{w:World}{jl:List Nat}{ts:Ts}{act:Act}:∀(l:List (Nat×Operand)) (xs:List (Nat×A)),rO ts l=some xs->(∀x,x∈l.map (·.2)->bD j w jl (ev ts x) (act.eval x)) ->
  bI (fun p q=>p.1=q.1/\cF j w p.2 q.2) xs (l.map fun p=>(p.1,act.eval p.2))
 | [],xs,h,_=>by simp [rO] at h; subst h; exact .nil
 | (i,x)::r,xs,h,b=>by
  simp only [rO] at h
  split at h
  ·rename_i y ys h1 h2
   simp at h; subst h;refine .cons ⟨rfl, ?_⟩ (DA r ys h2 fun z hz=>b z (by simp at hz ⊢; exact .inr hz));have:=b x (by simp);unfold Aq at h1
   split at h1
   ·rename_i z hz; simp at h1; subst h1; rw [hz] at this; exact this
   ·simp at h1
  ·simp at h
def xh (T:List TI) (fs:List (Nat×TypeId)):List D->List (Nat×A)->Option (List D)
 | b,[]=>some b
 | b,(i,x)::r=>match fs[i]? with
  | some (o,g)=>match T[g]? with
   | some f=>match Nat.beq (cU x).length f.size&&Nat.ble (o+f.size) b.length with
    | true=>xh T fs (en b o (cU x)) r
    | false=>none
   | none=>none
  | none=>none
section
variable {P:Program}{T:List TI}{ts:Ts}{ls:List (List D)}{h:ah}{dst:Option Tmp}{ty:TypeId}{pos:String}{aD:Array Edge}{g:Option (Nat×Bool)}
theorem HZ {P:Program}{T:List TI}(fK:mm P T):∀(fs:List Field) (w:World),(∀f∈fs,∃b,T[f.type]?=some b) ->
  ∃ps:List (Nat×Nat),(fs.mapM fun(f:Field)=>Prod.mk f.offset <$> sizeOf f.type).run P w=.ok ps w/\∀(i:Nat) (f:Field),fs[i]?=some f->∀b:TI,T[f.type]?=some b->ps[i]?=some (f.offset,b.size)
 | [],w,_=>⟨[],by simp,by simp⟩
 | f::fs,w,ct=>by
  obtain⟨b,j⟩:=ct f (by simp);obtain⟨ps,h1,h2⟩:=HZ fK fs w fun f k=>ct f (by simp [k]);refine⟨(f.offset,b.size)::ps, ?_,fun i l hi m g=>?_⟩
  ·rw [List.mapM_cons,Sem.run_bind,Sem.run_map,mj (fK _ _ j)];simp only [Result.andThen,Sem.run_bind,h1,Sem.run_pure]
  ·cases i with
   | zero=>simp at hi; subst hi; rw [j] at g; simp at g; subst g; rfl
   | succ i=>simp at hi ⊢; exact h2 i l hi m g
theorem H6 {j:J}{w:World}{T:List TI}{fs:List (Nat×TypeId)}{place:Nat->Option (Nat×Nat)}(m:∀i o k g,fs[i]?=some (o,k)->T[k]?=some g->place i=some (o,g.size)) :
  ∀(parts:List (Nat×A)) (r:List (Nat×Value)) (f ys:List D) (cs:Array Value),xh T fs f parts=some ys->bI (fun p q=>p.1=q.1/\cF j w p.2 q.2) parts r->bI (aF j w) f cs.toList ->
  ∃l,Instr.fill place cs r=some l/\bI (aF j w) ys l.toList
 | _,_,f,ys,cs,b,.nil,hz=>by simp [xh] at b; subst b; exact⟨cs,rfl,hz⟩
 | (i,x)::ps,(E,v)::vs,f,ys,cs,b,.cons ⟨e,hr⟩ ht,hz=>by
  dsimp only at e hr;subst e;simp only [xh] at b
  split at b
  ·rename_i o k t
   split at b
   ·rename_i g u
    split at b
    ·rename_i hc
     simp only [Bool.and_eq_true] at hc;have hl:=Nat.eq_of_beq_eq_true hc.1;have hle:=Nat.le_of_ble_eq_true hc.2;have y:=m i o k g t u;have s:=hr.cells;have z:v.cells.size=g.size:=by rw [<- hl,s.length]; simp
     have B:cs.size=f.length:=by rw [hz.length]; simp
     have C:bI (aF j w) (en f o (cU x)) (v.cells.zipIdx.foldl (fun cs (p:Value×Nat)=>cs.setIfInBounds (o+p.2) p.1) cs).toList:=by
      rw [<- Array.foldl_toList];have:=Dz o v.cells.toList 0 cs;simp only [Array.toList_zipIdx];rw [this,Nat.add_zero];exact hz.en o s
     obtain⟨l,h1,h2⟩:=H6 m ps vs _ ys _ b ht C;refine⟨l, ?_,h2⟩;rw [Instr.fill,y];dsimp only;rw [if_neg (by simp [z,B]; omega)];exact h1
    ·simp at b
   ·simp at b
  ·simp at b
theorem aq.build (fK:mm P T){t:TypeId}{b:TI}{fs:List (Nat×TypeId)}{l ys:List D}{parts:Array (Nat×Operand)}{ps:List (Nat×A)}(r:T[t]?=some b) (hk:b.k=.struct fs) (hz:b.zero=some (.agg l))
  (ct:fs.all (fun f=>(T[f.2]?).isSome)=true) (s:rO ts parts.toList=some ps) (u:xh T fs l ps=some ys):aq P (mk dst (.build t parts) ty pos aD g) ts ls h {} (.a (.agg ys)) ls h :=
 aq.eA fun j w jl a v=>by
  have hr:=DA (j:=j) (w:=w) (jl:=jl) (act:=a) parts.toList ps s fun x hx=>v x (by simp [Op.operands] at hx ⊢; exact hx);have q:=fK t b r;obtain⟨inf,d,h1,_,_,_,_,h2⟩:=gr q;rw [hz] at h2;obtain⟨zv,y,z⟩:=mi h2;obtain⟨gs,hu,he⟩:=HK q hk;obtain⟨pl,B,C⟩:=HZ (P:=P) fK gs.toList w fun f E=>by
   have:=List.all_eq_true.1 ct (f.offset,f.type) (by rw [<- he]; exact List.mem_map.2 ⟨f,E,rfl⟩);exact Option.isSome_iff_exists.1 this
  obtain⟨m,F,G⟩:=H6 (j:=j) (w:=w) (T:=T) (fs:=fs) (place:=(pl.toArray[·]?)) (fun i o K H hi I=>by
   rw [<- he,List.getElem?_map] at hi;cases e:gs.toList[i]? with
   | none=>rw [e] at hi; simp at hi
   | some f=>rw [e] at hi; simp at hi; obtain⟨rfl,rfl⟩:=hi; simpa using C i f e H I) ps _ l ys zv.cells u hr (z j w).cells
  refine⟨.agg m, ?_,⟨m.toList,by simp,G⟩⟩;have J:(Instr.build t (parts.map fun(i,x)=>(i,a.eval x))).run P w=.ok (.agg m) w:=by
   simp only [Instr.build,Sem.run_bind,zeroValue,typeInfo,run_program,h1,y,Result.andThen,Sem.run_pure,dz hu];rw [Array.mapM_eq_mapM_toList,Sem.run_map];rw [show (List.mapM _ gs.toList:Sem (List (Nat×Nat)))=List.mapM (fun f=>Prod.mk f.offset <$> sizeOf f.type) gs.toList from by congr 1];rw [B];simp only [Result.andThen];have e:(Array.map (fun(x:Nat×Operand)=>(x.1,a.eval x.2)) parts).toList=parts.toList.map fun p=>(p.1,a.eval p.2):=by simp
   rw [e,F];simp
  simp only [execOp,Sem.run_bind,J,Result.andThen,Sem.run_pure]
def ug (n:Nat):List (List D)->List (Nat×A)->Option (List (List D))
 | rows,[]=>some rows
 | rows,(i,x)::r=>match Nat.beq (cU x).length n&&Nat.blt i rows.length with
  | true=>ug n (rows.set i (cU x)) r
  | false=>none
theorem H7 {n:Nat}:∀{rows:List (List D)}(_:∀r∈rows,r.length=n){i:Nat}(_:i<rows.length){r:List D}(_:r.length=n),(rows.set i r).flatten=en rows.flatten (i*n) r
 | [],_,i,hi,_,_=>by simp at hi
 | b::rs,hk,i,hi,r,hr=>by
  have h0:b.length=n:=hk b (by simp);cases i with
  | zero =>
   simp only [List.set_cons_zero,List.flatten_cons,Nat.zero_mul]
   apply List.ext_getElem?
   intro k;by_cases g:k<n
   ·rw [List.getElem?_append_left (by omega)];have:=Ar (b++rs.flatten) 0 r k (r[k]'(by omega)) (List.getElem?_eq_getElem (by omega)) (by simp; omega);rw [Nat.zero_add] at this;rw [this,List.getElem?_eq_getElem (by omega)]
   ·rw [List.getElem?_append_right (by omega)];have:∀(l:List D) (m:Nat) (s:List D) (k:Nat),m+s.length<=k->(en l m s)[k]?=l[k]?:=by
     intro l m s;induction s generalizing l m with
     | nil=>intros; rfl
     | cons v s f=>intro k hk; simp at hk; rw [en,f _ _ k (by omega),List.getElem?_set_ne (by omega)]
    rw [this _ _ _ _ (by omega),List.getElem?_append_right (by omega),h0,hr]
  | succ i =>
   simp only [List.set_cons_succ,List.flatten_cons];rw [H7 (fun x hx=>hk x (by simp [hx])) (by simpa using hi) hr];have:∀(p l:List D) (m:Nat) (s:List D),en (p++l) (p.length+m) s=p++en l m s:=by
    intro p l m s;induction s generalizing l m with
    | nil=>rfl
    | cons v s f=>rw [en,en,show (p++l).set (p.length+m) v=p++l.set m v by rw [List.set_append_right _ _ (by omega)]; simp,Nat.add_assoc,f]
   rw [<- this,h0,show (i+1)*n=n+i*n by rw [Nat.add_mul]; omega]
theorem H8 {j:J}{w:World}{n:Nat}:∀(parts:List (Nat×A)) (g:List (Nat×Value)) (rows bt:List (List D)) (cs:Array Value),ug n rows parts=some bt->(∀r∈rows,r.length=n) ->
  bI (fun p q=>p.1=q.1/\cF j w p.2 q.2) parts g->bI (aF j w) rows.flatten cs.toList ->
  ∃f,Instr.fill (fun i=>some (i*n,n)) cs g=some f/\bI (aF j w) bt.flatten f.toList/\bt.length=rows.length/\∀r∈bt,r.length=n
 | _,_,rows,bt,cs,b,hk,.nil,hz=>by simp [ug] at b; subst b; exact⟨cs,rfl,hz,rfl,hk⟩
 | (i,x)::ps,(z,v)::vs,rows,bt,cs,b,hk,.cons ⟨e,hr⟩ ht,hz=>by
  dsimp only at e hr;subst e;simp only [ug] at b
  split at b
  ·rename_i hc
   simp only [Bool.and_eq_true] at hc;have hl:=Nat.eq_of_beq_eq_true hc.1;have aJ:i<rows.length:=by simpa [Nat.blt_eq] using hc.2
   have k:=hr.cells;have l:v.cells.size=n:=by rw [<- hl,k.length]; simp
   have m:cs.size=rows.length*n:=by rw [<- (jq hk).1,hz.length]; simp
   have hle:i*n+n<=rows.length*n:=by rw [<- Nat.succ_mul]; exact Nat.mul_le_mul_right n aJ
   have s:bI (aF j w) (rows.set i (cU x)).flatten (v.cells.zipIdx.foldl (fun cs (p:Value×Nat)=>cs.setIfInBounds (i*n+p.2) p.1) cs).toList:=by
    rw [H7 hk aJ hl,<- Array.foldl_toList];have:=Dz (i*n) v.cells.toList 0 cs;simp only [Array.toList_zipIdx];rw [this,Nat.add_zero];exact hz.en _ k
   have t:∀r∈rows.set i (cU x),r.length=n:=fun r hr=>by
    rcases List.mem_or_eq_of_mem_set hr with h|h
    ·exact hk r h
    ·rw [h]; exact hl
   obtain⟨f,h1,h2,u,y⟩:=H8 ps vs _ bt _ b t ht s;refine⟨f, ?_,h2,by rw [u]; simp,y⟩;rw [Instr.fill];dsimp only;rw [if_neg (by simp [l,m]; omega)];exact h1
  ·simp at b
theorem NY {α:Type} [Inhabited α] (z:Array α) (len:Nat) (hz:z.size≠0):((Array.range (len*z.size)).map (fun i=>z[i % z.size]!)).toList=(List.replicate len z.toList).flatten:=by
 induction len with
 | zero=>simp
 | succ len b =>
  have h1:((Array.range ((len+1)*z.size)).map (fun i=>z[i % z.size]!)).toList=((Array.range (len*z.size)).map (fun i=>z[i % z.size]!)).toList++z.toList:=by
   simp only [Array.toList_map,Array.toList_range];rw [Nat.add_mul,Nat.one_mul,List.range_add,List.map_append,List.map_map]
   congr 1
   apply List.ext_getElem?
   intro k;by_cases hk:k<z.size
   ·simp only [List.getElem?_map,List.getElem?_range hk,Option.map_some,Function.comp];have e:(len*z.size+k) % z.size=k:=by rw [Nat.mul_comm,Nat.mul_add_mod,Nat.mod_eq_of_lt hk]
    rw [e]; simp [hk]
   ·rw [List.getElem?_eq_none (by simp; omega),List.getElem?_eq_none (by simp; omega)]
  rw [h1,b];rw [List.replicate_succ',List.flatten_append]; simp
end
end Go.Ab
/-
 Slice literals,maps,parts of slices,comparisons of structs,tokens.
-/
namespace Go.Ab
open Go Go.RowKit
variable {ak:bP}
variable {fE:ez}
section
variable {P:Program}{T:List TI}{ts:Ts}{ls:List (List D)}{h:ah}{dst:Option Tmp}{ty:TypeId}{pos:String}{aD:Array Edge}{g:Option (Nat×Bool)}
theorem aq.pS {t e:TypeId}{u l:TI}{z:A}{len:Nat}{parts:Array (Nat×Operand)}{ps:List (Nat×A)}{rows:List (List D)}(y:bn P t=some u) (hk:u.k=.slice e) (s:bn P e=some l)
  (hz:l.zero=some z) (O:Nat.beq (cU z).length l.size=true) (B:Nat.beq l.size 0=false) (hlen:Nat.ble (len*l.size) 16777216=true) (Q:rO ts parts.toList=some ps) (hr:ug l.size (List.replicate len (cU z)) ps=some rows) :
  aq P (mk dst (.buildSlice t len parts) ty pos aD g) ts ls h {} (.full l.size rows) ls h:=by
 refine aq.of_run fun L H _ _ j w jl a hl C=>?_;have R:=DA (j:=j) (w:=w) (jl:=jl) (act:=a) parts.toList ps Q fun x hx=>C x (by simp [Op.operands] at hx ⊢; exact hx);obtain⟨ak,al,S,_,am,an,_,E⟩:=gr s;rw [hz] at E;obtain⟨zv,U,F⟩:=mi E;have G:(cU z).length=l.size:=Nat.eq_of_beq_eq_true O;have W:l.size≠0:=fun e=>by rw [e] at B; simp at B
 have X:len*l.size<=16777216:=Nat.le_of_ble_eq_true hlen;have Y:zv.cells.size=l.size:=by have:=(F j w).cells.length; rw [G] at this; simpa using this.symm
 have hzero:∀pre:Array Value,pre=(Array.range (len*l.size)).map (fun i=>zv.cells[i % zv.cells.size]!)->bI (aF j w) (List.replicate len (cU z)).flatten pre.toList:=by
  intro pre I;rw [I,<- Y,NY _ _ (by omega)];have:=(F j w).cells;clear hr I hlen X C;induction len with
  | zero=>exact .nil
  | succ n Z=>simp only [List.replicate_succ,List.flatten_cons]; exact this.append Z
 obtain⟨q,h1,h2,m,K⟩:=H8 (j:=j) (w:=w) ps _ _ rows _ hr (fun r hr=>by rw [List.eq_of_mem_replicate hr]; exact G) R (hzero _ rfl);simp only [List.length_replicate] at m;have aa:(Instr.buildSlice t len (parts.map fun(i,x)=>(i,a.eval x))).run P w=.ok (.slice (some ⟨w.heap.size,0,none⟩) len len) (w.alloc (.cells q e)):=by
  have ab:¬(16777216<len*l.size):=by omega
  have ad:(Array.map (fun(x:Nat×Operand)=>(x.1,a.eval x.2)) parts).toList=parts.toList.map fun p=>(p.1,a.eval p.2):=by simp
  rw [<- ad] at h1;by_cases h0:len*l.size=0
  ·have ae:len=0:=by
    rcases Nat.mul_eq_zero.1 h0 with e|e
    ·exact e
    ·exact absurd e W
   subst ae;simp only [Nat.zero_mul] at h1;have M:∀f:Nat->Value,Array.map f (Array.range 0)=#[]:=fun f=>by apply Array.ext'; simp
   simp only [M] at h1;simp [Instr.buildSlice,dz (mq y hk),mj s,newRow,M];simp at h1;rw [h1];simp
  ·simp [Instr.buildSlice,dz (mq y hk),mj s,ab,h0,zeroValue,typeInfo,S,U,newRow];simp at h1;rw [h1];simp
 have ao:=jq K;obtain⟨af,N⟩:=hl.data (.cells q e) (rows.length*l.size);refine⟨_,_,.slice (some ⟨w.heap.size,0,none⟩) len len,j.eO w.heap.size (rows.length*l.size),jl,by simp [execOp,aa],.inl rfl, ?_,af,Ext.refl _,N⟩;have hm:=uf (j:=j.eO w.heap.size (rows.length*l.size)) (w:=w.alloc (.cells q e)) (k:=l.size) (tok:=none) (rows:=rows) (b:=w.heap.size) (o:=0) (cap:=len) K (by
  rw [m]; have:len*1<=len*l.size:=Nat.mul_le_mul_left _ (by omega);unfold dI; omega) (by omega) (fun i x hx=>?_) (fun ap ai=>by simp at ai) (fun _ _ _ _=>.cells (heap_alloc_new w _))
 ·rw [m] at hm; rw [m]; exact⟨hm,⟨w.heap.size,0,none⟩,by rw [m]⟩
 ·have ar:=(List.getElem?_eq_some_iff.1 hx).1;obtain⟨v,hv,aj⟩:=h2.get hx;refine⟨by simp only [J.eO,if_true]; omega,v, ?_,aj.mono N.toLe⟩;rw [cell_of_row _ w.heap.size _ q e (0,0) (heap_alloc_new w _),Nat.zero_add]
  simpa using hv
theorem aq.H9 {o:Oper}{fx:Fx}{v v':V}{aS:List (List D)}{h':ah}(hc:aq P o ts ls h fx v aS h') (hv:∀j w jl cv,bD j w jl v cv->bD j w jl v' cv):aq P o ts ls h fx v' aS h':=by
 intro L H b hH j w jl a hl f K Q hk;exact hc L H b hH j w jl a hl f K Q fun u l k cv j' w' bp ⟨g,m,p⟩ hr=>hk v' l k cv j' w' bp ⟨rfl,m,p⟩ (hv _ _ _ _ (g▸hr))
theorem aq.buildSlice {t e:TypeId}{f b:TI}{z:A}{len:Nat}{parts:Array (Nat×Operand)}{ps:List (Nat×A)}{rows:List (List D)}(j:bn P t=some f) (hk:f.k=.slice e) (l:bn P e=some b)
  (hz:b.zero=some z) (m:Nat.beq (cU z).length b.size=true) (p:Nat.beq b.size 0=false) (hlen:Nat.ble (len*b.size) 16777216=true) (q:rO ts parts.toList=some ps) (hr:ug b.size (List.replicate len (cU z)) ps=some rows) :
  aq P (mk dst (.buildSlice t len parts) ty pos aD g) ts ls h {} (.a (.d (.slice b.size none false rows))) ls h :=
 (aq.pS j hk l hz m p hlen q hr).H9 fun _ _ _ _ h=>h.1
theorem H_ {n:Nat}:∀{rows:List (List D)}(_:∀r∈rows,r.length=n) (k:Nat),(rows.take k).flatten=rows.flatten.take (k*n)
 | [],_,k=>by simp
 | r::rs,hk,0=>by simp
 | r::rs,hk,k+1=>by
  have hr:r.length=n:=hk r (by simp);rw [List.take_succ_cons,List.flatten_cons,H_ (fun x hx=>hk x (by simp [hx])),List.flatten_cons,show (k+1)*n=n+k*n by rw [Nat.add_mul]; omega];rw [show n+k*n=r.length+k*n by rw [hr],List.take_length_add_append]
theorem Ia {n:Nat}:∀{rows:List (List D)}(_:∀r∈rows,r.length=n) (k:Nat),(rows.drop k).flatten=rows.flatten.drop (k*n)
 | [],_,k=>by simp
 | r::rs,hk,0=>by simp
 | r::rs,hk,k+1=>by
  have hr:r.length=n:=hk r (by simp);rw [List.drop_succ_cons,Ia (fun x hx=>hk x (by simp [hx])),List.flatten_cons,show (k+1)*n=n+k*n by rw [Nat.add_mul]; omega];rw [show n+k*n=r.length+k*n by rw [hr],List.drop_length_add_append]
theorem Ib {j:J}{w:World}{k:Nat}{rows:List (List D)}{b:Addr}{f:Nat->Value}{cap:Nat}(hk:∀r∈rows,r.length=k) (hn:rows.length<=dI) (hc:rows.length<=cap)
  (bZ:rI j w b rows f) (hr:∀i (h:i<rows.flatten.length),aF j w rows.flatten[i] (f i)){l r:Nat}(hl:l<=r) (hh:r<=rows.length) :
  aF j w (.slice k none false ((rows.take r).drop l)) (.slice (some (if cap=l then b else b.add (l*k))) (r-l) (cap-l)):=by
 have hlen:((rows.take r).drop l).length=r-l:=by simp; omega
 have q:∀x∈(rows.take r).drop l,x.length=k:=fun x hx=>hk x (List.mem_of_mem_take (List.mem_of_mem_drop hx));have m:((rows.take r).drop l).flatten=(rows.flatten.take (r*k)).drop (l*k):=by
  rw [Ia (fun x hx=>hk x (List.mem_of_mem_take hx)),H_ hk]
 have u:r*k<=rows.flatten.length:=by rw [(jq hk).1]; exact Nat.mul_le_mul_right k hh
 rw [<- hlen];by_cases g:cap=l
 ·rw [if_pos g];have hz:(rows.take r).drop l=[]:=List.eq_nil_of_length_eq_zero (by rw [hlen]; omega);rw [hz];exact aF.slice k none [] b (cap-l) f (by simp) (by simp) (by simp) ⟨.inl rfl,by simp⟩ (by simp) (fun t ht=>by simp at ht)
 ·by_cases p:rows=[]
  ·rw [if_neg g];have hz:(rows.take r).drop l=[]:=by rw [p]; simp
   rw [hz];exact aF.slice k none [] _ (cap-l) f (by simp) (by simp) (by simp) ⟨.inl rfl,by simp⟩ (by simp) (fun t ht=>by simp at ht)
  have s:b=⟨b.block,b.off,none⟩:=by have:=bZ.1.resolve_left p; cases b; simp at this; simp [this]
  rw [if_neg g,s,add_plain];refine uf q (by rw [hlen]; omega) (by rw [hlen]; omega) (fun i x hx=>?_) (fun t ht=>by simp at ht) (fun i v hi hv=>by
   rw [m,List.length_drop,List.length_take] at hi;have h:=bZ.2 (l*k+i) (by omega);rw [Nat.add_assoc] at hv ⊢;rw [h.2.1] at hv;obtain rfl:=Option.some.inj hv;exact h.2.2)
  rw [m,List.getElem?_drop,List.getElem?_take] at hx
  split at hx
  ·rename_i aJ
   have hi:=(List.getElem?_eq_some_iff.1 hx).1;have h1:=bZ.2 (l*k+i) hi;refine⟨by have:=h1.1; omega,f (l*k+i),by rw [Nat.add_assoc]; exact h1.2.1, ?_⟩;have h2:=hr (l*k+i) hi;rw [(List.getElem?_eq_some_iff.1 hx).2] at h2; exact h2
  ·simp at hx
theorem Ic {P:Program}{t e:TypeId}{b f:TI}(g:bn P t=some b) (hk:b.k=.slice e) (j:bn P e=some f){a:Option Addr}{len cap:Nat}{lo hi:Option Value}{w:World}{l r:Nat}
  (hl:(match lo with|some v=>Instr.sliceBound v r .sliceB|none=>pure 0).run P w=.ok l w) (hh:(match hi with|some v=>Instr.sliceBound v cap .sliceAcap|none=>pure len).run P w=.ok r w) :
  (Instr.sliceAt t (.slice a len cap) lo hi none).run P w=.ok (.slice (if cap=l then a else a.map (·.add (l*f.size))) (r-l) (cap-l)) w:=by
 simp only [Instr.sliceAt,Instr.slice,Instr.sliceBounds,Sem.run_bind,dz (mq g hk),Result.andThen,Sem.run_pure,mj j];cases lo<;>cases hi<;>simp_all
theorem aq.part {t e:TypeId}{z B:TI}{x:Operand}{lo hi:Option Operand}{k:Nat}{tok:Option Nat}{rows:List (List D)}{l r:Nat}(C:bn P t=some z) (hk:z.k=.slice e) (E:bn P e=some B)
  (hx:ev ts x=.a (.d (.slice k tok false rows))) (F:k=B.size)
  (p:match lo with|none=>l=0|some o=>∃m n,ev ts o=.a (.d (.int m n))/\0<=n/\l=n.toNat) (q:match hi with|none=>r=rows.length|some o=>∃m n,ev ts o=.a (.d (.int m n))/\0<=n/\r=n.toNat)
  (G:l<=r) (H:r<=rows.length):aq P (mk dst (.slice t x lo hi none) ty pos aD g) ts ls h {} (.a (.d (.slice k none false ((rows.take r).drop l)))) ls h :=
 aq.eA fun j w jl act s=>by
  have h1:=s x (by simp [Op.operands]);rw [hx] at h1;obtain⟨b,cap,I,hn,hc,J,R,K,L⟩:=nE h1;cases b with
  | none=>simp at J
  | some b =>
   obtain⟨_,f,bZ,M⟩:=L b rfl;have N:(match lo.map act.eval with|some v=>Instr.sliceBound v r .sliceB|none=>pure 0).run P w=.ok l w:=by
    cases lo with
    | none=>simp at p ⊢; exact p.symm
    | some o =>
     obtain⟨m,n,h2,u,y⟩:=p;have:=pR (P:=P) (cap:=r) h2 (s o (by simp [Op.operands])) u (by omega) .sliceB;simp only [Option.map_some]; rw [this,y]
   have O:(match hi.map act.eval with|some v=>Instr.sliceBound v cap .sliceAcap|none=>pure rows.length).run P w=.ok r w:=by
    cases hi with
    | none=>simp at q ⊢; exact q.symm
    | some o =>
     obtain⟨m,n,h2,u,y⟩:=q;have:=pR (P:=P) (cap:=cap) h2 (s o (by simp [Op.operands])) u (by omega) .sliceAcap;simp only [Option.map_some]; rw [this,y]
   refine⟨_, ?_,Ib K hn hc bZ M G H⟩;have:=Ic C hk E (a:=some b) (len:=rows.length) (cap:=cap) N O;simp only [execOp,Sem.run_bind,I,Option.map_none,this,Result.andThen,Sem.run_pure,F];by_cases Q:cap=l<;>simp [Q]
end
end Go.Ab
/-
 Maps with plain keys.
-/
namespace Go.Ab
open Go Go.RowKit
variable {ak:bP}
def pT:D->D->Option Bool
 | .str s,.str t=>some (s==t)
 | .int k m,.int k' n=>if k=k' then some (decide (m=n)) else none
 | .bool a,.bool b=>some (a==b)
 | _,_=>none
def kA (key:D):List (D×A)->Option (Option A)
 | []=>some none
 | (k,v)::r=>match pT key k with
  | some true=>some (some v)
  | some false=>kA key r
  | none=>none
def nF (key:D) (v:A):List (D×A)->Option (List (D×A))
 | []=>some [(key,v)]
 | (k,u)::r=>match pT key k with
  | some true=>some ((key,v)::r)
  | some false=>(nF key v r).map ((k,u)::·)
  | none=>none
def iy:K->D->Bool
 | .str,.str _=>true
 | .int _,.int _ _=>true
 | .bool,.bool _=>true
 | _,_=>false
theorem bytes_beq (a b:List UInt8):((⟨a.toArray⟩:ByteArray)==⟨b.toArray⟩)=(a==b):=by
 rw [beq_toListBytes]; simp
theorem xk {j:J}{w:World}{d:TypeDesc}{key k:D}{f v:Value}{b:Bool}(hd:iy (fZ d) key=true) (hk:aF j w key f) (hv:aF j w k v) (he:pT key k=some b):Instr.sameNow d f v=some b:=by
 unfold pT at he
 split at he
 ·cases hk; cases hv;simp only [Option.some.injEq] at he; subst he;cases d<;>simp [iy,fZ] at hd;simp only [Instr.sameNow,bytes_beq]
 ·cases hk; cases hv
  split at he
  ·rename_i e; subst e
   simp only [Option.some.injEq] at he; subst he;cases d<;>simp [iy,fZ] at hd;simp only [Instr.sameNow,if_true]; rfl
  ·simp at he
 ·cases hk; cases hv;simp only [Option.some.injEq] at he; subst he;cases d<;>simp [iy,fZ] at hd;simp only [Instr.sameNow]
 ·simp at he
theorem NZ {j:J}{w:World}{d:TypeDesc}{key:D}{f:Value}(hd:iy (fZ d) key=true) (hk:aF j w key f){es:List (D×A)}{g:List MapEntry}(h:bI (jE j w) es g):∀(n:Nat) (r:Option A),kA key es=some r ->
  match r with
  | none=>Instr.findNow d f g n=some none
  | some v=>∃i cv,Instr.findNow d f g n=some (some (n+i,cv))/\cF j w v cv/\∃m,g[i]?=some m/\m.val=cv/\Instr.sameNow d f m.key=some true:=by
 induction h with
 | nil=>intro n r hr; simp [kA] at hr; subst hr; rfl
 | cons hh ht p =>
  rename_i e m l y
  intro n r hr;obtain⟨k,u⟩:=e;simp only [kA] at hr
  split at hr
  ·rename_i he
   simp at hr; subst hr;have b:=xk hd hk hh.1 he;exact⟨0,m.val,by simp [Instr.findNow,b],hh.2,m,rfl,rfl,b⟩
  ·rename_i he
   have b:=xk hd hk hh.1 he;have:=p (n+1) r hr;cases r with
   | none=>simp only [Instr.findNow,b]; exact this
   | some v =>
    obtain⟨i,cv,h1,h2,m',q,s,t⟩:=this;exact⟨i+1,cv,by simp only [Instr.findNow,b]; rw [h1,show n+1+i=n+(i+1) by omega],h2,m',by simpa using q,s,t⟩
  ·simp at hr
theorem N0 {j:J}{w:World}{d:TypeDesc}{key:D}{b:Value}{v:A}{cv:Value}(hd:iy (fZ d) key=true) (hk:aF j w key b) (hv:cF j w v cv){es:List (D×A)}{f:List MapEntry}(h:bI (jE j w) es f):∀(n bu:Nat) (g:List (D×A)),nF key v es=some g ->
  (Instr.findNow d b f n=some none/\bI (jE j w) g (f++[{ key:=b,val:=cv,born:=bu }])) \/
  (∃i u m,Instr.findNow d b f n=some (some (n+i,u))/\f[i]?=some m/\Instr.sameNow d b m.key=some true/\bI (jE j w) g (f.set i { m with key:=b,val:=cv })):=by
 induction h with
 | nil=>intro n bu g he; simp [nF] at he; subst he; exact .inl ⟨rfl,.cons ⟨hk,hv⟩ .nil⟩
 | cons hh ht q =>
  rename_i e m l y
  intro n bu g he;obtain⟨k,u⟩:=e;simp only [nF] at he
  split at he
  ·rename_i hq
   simp at he; subst he;have p:=xk hd hk hh.1 hq;exact .inr ⟨0,m.val,m,by simp [Instr.findNow,p],rfl,p,.cons ⟨hk,hv⟩ ht⟩
  ·rename_i hq
   have p:=xk hd hk hh.1 hq;simp only [Option.map_eq_some_iff] at he;obtain⟨r,hr,rfl⟩:=he;rcases q (n+1) bu r hr with ⟨h1,h2⟩|⟨i,u',m',h1,h2,s,t⟩
   ·exact .inl ⟨by simp only [Instr.findNow,p]; exact h1,.cons hh h2⟩
   ·exact .inr ⟨i+1,u',m',by simp only [Instr.findNow,p]; rw [h1,show n+1+i=n+(i+1) by omega],by simpa using h2,s,.cons hh t⟩
  ·simp at he
theorem lg {P:Program}{t:TypeId}{f:TI}{k e:TypeId}(g:bn P t=some f) (hk:f.k=.map k e):P.underlying t=some (.map k e):=by
 obtain⟨i,d,h1,h2,_,_,b,_⟩:=gr g;rw [hk] at b;cases d<;>simp [fZ] at b;obtain⟨rfl,rfl⟩:=b; exact h2
theorem xl {P:Program}{b:Bool}{n:Nat}{t:TypeId}{d:TypeDesc}{x:D}{v:Value}{j:J}{w0 w:World}(hu:P.underlying t=some d) (hd:iy (fZ d) x=true) (hx:aF j w0 x v):(Instr.checkKey b (n+1) t v).run P w=.ok () w:=by
 cases hx<;>cases d<;>simp [iy,fZ] at hd<;>simp [Instr.checkKey,dz hu]
section
variable {P:Program}{ts:Ts}{ls:List (List D)}{h:ah}{dst:Option Tmp}{ty:TypeId}{pos:String}{aD:Array Edge}{g:Option (Nat×Bool)}
theorem N2 {a b:ByteArray}(h:(a==b)=true):a=b:=by
 obtain⟨⟨x⟩⟩:=a;obtain⟨⟨y⟩⟩:=b;have h':=bytes_beq x y;have h2:(x==y)=true:=by rw [<- h']; exact h
 rw [eq_of_beq h2]
theorem N3 (a:ByteArray):(a==a)=true:=by
 obtain⟨⟨x⟩⟩:=a;have h':=bytes_beq x x;rw [show ((⟨⟨x⟩⟩:ByteArray)==⟨⟨x⟩⟩)=(x==x) from h'];simp
theorem N4 {d:TypeDesc}{v:Value}:Instr.sameNow d v v≠some false:=by
 cases d<;>cases v<;>simp [Instr.sameNow,N3]
theorem N5 {d:TypeDesc}{a b:Value}(h:Instr.sameNow d a b=some true):a=b:=by
 unfold Instr.sameNow at h
 split at h
 ·split at h
  ·rename_i e; subst e; simp at h; rw [h]
  ·simp at h
 ·exact congrArg Value.string (N2 (Option.some.inj h))
 ·simp at h; rw [h]
 ·simp at h
theorem Ie {d:TypeDesc}{v:Value}:∀{b:List MapEntry}{n:Nat},Instr.findNow d v b n=some none->∀m∈b,m.key≠v
 | [],_,_=>fun _ h=>by cases h
 | x::b,n,h=>fun m hm e=>by
  rw [Instr.findNow] at h
  split at h
  ·simp at h
  ·rename_i h1
   rcases List.mem_cons.1 hm with rfl|hm
   ·rw [e] at h1; exact N4 h1
   ·exact Ie h m hm e
  ·simp at h
theorem k8.push {g:List MapEntry}{bu:Nat}(h:k8 g bu){k:Value}(hk:∀m∈g,m.key≠k) (v:Value):k8 (g++[⟨k,v,bu⟩]) (bu+1):=by
 refine⟨?_,fun m hm=>?_, ?_⟩
 ·rw [List.map_append,List.nodup_append];refine⟨h.1,by simp,fun a j b f e=>?_⟩;obtain⟨m,hm,rfl⟩:=List.mem_map.1 j;simp only [List.map_cons,List.map_nil,List.mem_singleton] at f;have:=h.2.1 m hm;omega
 ·rcases List.mem_append.1 hm with hm|hm
  ·have:=h.2.1 m hm; omega
  ·rw [List.mem_singleton.1 hm]; exact Nat.lt_succ_self _
 ·rw [List.map_append,List.nodup_append];refine⟨h.2.2,by simp,fun a j b f e=>?_⟩;obtain⟨m,hm,rfl⟩:=List.mem_map.1 j;simp only [List.map_cons,List.map_nil,List.mem_singleton] at f;exact hk m hm (e.trans f)
theorem Ig {β:Type}{f:MapEntry->β}{b:List MapEntry}{i:Nat}{m m':MapEntry}(hm:b[i]?=some m) (g:f m'=f m):(b.set i m').map f=b.map f:=by
 refine List.ext_getElem? fun n=>?_;rw [List.getElem?_map,List.getElem?_map,List.getElem?_set];by_cases hn:i=n
 ·subst hn;obtain⟨aJ,h2⟩:=List.getElem?_eq_some_iff.1 hm;simp [aJ,h2,g]
 ·simp [hn]
theorem k8.set {b:List MapEntry}{bu i:Nat}{m:MapEntry}(h:k8 b bu) (hm:b[i]?=some m){k v:Value}(hk:k=m.key):k8 (b.set i { m with key:=k,val:=v }) bu:=by
 have e:=Ig (f:=(·.born)) (m':={ m with key:=k,val:=v }) hm rfl;refine⟨by rw [e]; exact h.1,fun x hx=>?_,by rw [Ig (f:=(·.key)) hm hk]; exact h.2.2⟩;have:x.born∈b.map (·.born):=by rw [<- e]; exact List.mem_map_of_mem hx
 obtain⟨y,g,j⟩:=List.mem_map.1 this;rw [<- j]; exact h.2.1 y g
def MapAt (j:J) (w:World) (id b:Nat) (es:List (D×A)):Prop:=∃(c:Nat) (f:List MapEntry) (bu:Nat),j.tok id=some ⟨some (b,c),1⟩/\w.heap[b]?=some (.map f.toArray bu)/\bI (jE j w) es f/\j.F b=0/\k8 f bu
theorem uh {j:J}{w:World}{jl:List Nat}{id:Nat}{es:List (D×A)}{cv:Value}(g:gJ j w id (.map es)) (h:bD j w jl (.a (.d (.map id))) cv):∃b,cv=.map (some b)/\MapAt j w id b es:=by
 have h':aF j w (.map id) cv:=h;obtain⟨b,c,k,bu,h1,h2,l,m,p⟩:=g;cases h' with
 | map _ r hi hv =>
  obtain⟨_,q⟩:=hv _ h1;obtain⟨c',f⟩:=q rfl;simp only [Option.some.injEq,Prod.mk.injEq] at f;obtain⟨rfl,rfl⟩:=f;exact⟨b,rfl,c,k,bu,h1,h2,l,m,p⟩
theorem lm {P:Program}{w:World}{b:Nat}{f:Array MapEntry}{bu:Nat}(h:w.heap[b]?=some (.map f bu)):(getObj b).run P w=.ok (.map f bu) w:=by
 simp [getObj,Sem.run,h]
theorem DB {t m p:TypeId}{q s:TI}{j:J}{w:World}{id:Nat}{es:List (D×A)}{key:D}{u:Value}{r:Option A}{ok:Bool}(y:bn P t=some q) (hk:q.k=.map m p) (B:bn P m=some s) (f:iy s.k key=true)
  {b:Nat}(hm:MapAt j w id b es) (l:aF j w key u) (C:kA key es=some r){zv:Value}(hz:r=none->(zeroValue p).run P w=.ok zv w) :
  ∃cv,(Instr.lookup t (.map (some b)) u ok).run P w=.ok (if ok then .tuple #[cv,.bool r.isSome] else cv) w/\match r with|none=>cv=zv|some v=>cF j w v cv:=by
 obtain⟨_,F,bu,_,hg,ct,_⟩:=hm;obtain⟨G,H,_,g,_,_,E,_⟩:=gr B;rw [<- E] at f;have z:=NZ f l ct 0 r C;cases r with
 | none =>
  refine⟨zv, ?_,rfl⟩;simp [Instr.lookup,dz (lg y hk),lm hg,xl g f l,Instr.findKey,dz g,z,hz rfl]
 | some v =>
  obtain⟨i,cv,h1,h2,_⟩:=z;refine⟨cv, ?_,h2⟩;simp [Instr.lookup,dz (lg y hk),lm hg,xl g f l,Instr.findKey,dz g,h1]
theorem aq.N6 {t f q:TypeId}{l m:TI}{x y:Operand}{id:Nat}{es:List (D×A)}{key:D}{v:A}(r:bn P t=some l) (hk:l.k=.map f q) (s:bn P f=some m) (hx:ev ts x=.a (.d (.map id))) (u:ev ts y=.a (.d key))
  (z:iy m.k key=true) (hm:h id=some (.map es)) (B:kA key es=some (some v)):aq P (mk dst (.lookup t x y false) ty pos aD g) ts ls h { rh:=true } (.a v) ls h :=
 mo.pQ ⟨rfl,rfl,fun L H _ hH j w jl a hl p=>by
  have h1:=p x (by simp [Op.operands]);have h2:=p y (by simp [Op.operands]);rw [hx] at h1; rw [u] at h2;rw [hH rfl] at hl;obtain⟨b,C,E⟩:=uh (hl.1.obj id _ hm).2 h1;obtain⟨cv,F,G⟩:=DB (ok:=false) r hk s z E h2 B (zv:=undef) (by simp);exact⟨cv,by simp only [execOp,Sem.run_bind,C,F,Result.andThen,Sem.run_pure]; rfl,G⟩⟩
theorem aq.N7 {t f l:TypeId}{m p q:TI}{x y:Operand}{id:Nat}{es:List (D×A)}{key:D}{z:A}(v:bn P t=some m) (hk:m.k=.map f l) (B:bn P f=some p) (C:bn P l=some q) (hz:q.zero=some z)
  (hx:ev ts x=.a (.d (.map id))) (E:ev ts y=.a (.d key)) (F:iy p.k key=true) (hm:h id=some (.map es)) (G:kA key es=some none):aq P (mk dst (.lookup t x y false) ty pos aD g) ts ls h { rh:=true } (.a z) ls h :=
 mo.pQ ⟨rfl,rfl,fun L H _ hH j w jl a hl r=>by
  have h1:=r x (by simp [Op.operands]);have h2:=r y (by simp [Op.operands]);rw [hx] at h1; rw [E] at h2;rw [hH rfl] at hl;obtain⟨Q,R,I,_,S,U,_,s⟩:=gr C;rw [hz] at s;obtain⟨zv,J,K⟩:=mi s;obtain⟨b,M,N⟩:=uh (hl.1.obj id _ hm).2 h1;obtain⟨cv,O,u⟩:=DB (ok:=false) v hk B F N h2 G (zv:=zv) (fun _=>by simp [zeroValue,typeInfo,I,J]);dsimp only at u
  subst u;exact⟨cv,by simp only [execOp,Sem.run_bind,M,O,Result.andThen,Sem.run_pure]; rfl,K j w⟩⟩
theorem dA.makeMap {t:TypeId}:dA P (mk dst (.makeMap t none) ty pos aD g) ts ls h fun v aS h'=>∃id,h id=none/\v=.a (.d (.map id))/\aS=ls/\h'=h.set id (some (.map [])):=by
 intro j w jl a hl l K Q hk;have hr:(execOp a.eval (mk dst (.makeMap t none) ty pos aD g)).run P w=.ok (.value (.map (some w.heap.size))) (w.alloc (.map #[] 0)):=by simp [execOp,Instr.makeMap]
 obtain⟨h1,h2⟩:=hl.eM 0;obtain⟨b,f,k⟩:=h1.Hf (ah.cM _ _ _);unfold Oper.wp;rw [hr,Oper.upon_value];exact hk _ _ _ _ _ _ jl ⟨j.next,hl.1.pN (Nat.le_refl _),rfl,rfl,(ah.set_set _ _ _ _)⟩ k b (Ext.refl _) (h2.trans f)
theorem aq.N8 {t:TypeId}{id k:Nat}(hi:h id=some (.tok k 0)):aq P (mk dst (.makeMap t none) ty pos aD g) ts ls h { rh:=true,wh:=true } (.a (.d (.map id))) ls (h.set id (some (.map []))) :=
 aq.of_run fun L H _ hH j w jl a hl p=>by
  have b:=hH rfl;subst b;obtain⟨f,l,m⟩:=hl.Hf hi;exact⟨.value (.map (some w.heap.size)),_,_,_,jl,by simp [execOp,Instr.makeMap],.inl rfl,m,f,Ext.refl _,l⟩
theorem N9 {d:TypeDesc}{a b:Value}(h:Instr.sameNow d a b=some true):Instr.sameBits 10000 b a=true:=by
 unfold Instr.sameNow at h
 split at h
 ·split at h
  ·rename_i e; subst e; simp at h; subst h; simp [Instr.sameBits]
  ·simp at h
 ·simp only [Option.some.injEq] at h;rw [beq_toListBytes] at h;simp only [Instr.sameBits,beq_toListBytes];simp at h ⊢; exact h.symm
 ·simp at h; subst h; simp [Instr.sameBits]
 ·simp at h
theorem fW.setObj {w:World}{b:Nat}{o o':Go.Obj}(h:w.heap[b]?=some o):fW w { w with heap:=w.heap.setIfInBounds b o' } b o':=by
 have aJ:=iR h;refine⟨by simp,by simp [aJ],fun x hx=>?_,rfl,rfl,fJ.rfl⟩;simp [Array.getElem?_setIfInBounds,Ne.symm hx]
theorem aq.mapUpdate {t K S:TypeId}{M N:TI}{x y z:Operand}{id:Nat}{es l:List (D×A)}{key:D}{v:A}(O:bn P t=some M) (hk:M.k=.map K S) (U:bn P K=some N) (hx:ev ts x=.a (.d (.map id))) (W:ev ts y=.a (.d key)) (hz:ev ts z=.a v)
  (B:iy N.k key=true) (hm:h id=some (.map es)) (hu:nF key v es=some l) (hd:dst=none):aq P (mk dst (.mapUpdate t x y z) ty pos aD g) ts ls h { rh:=true,wh:=true } .any ls (h.set id (some (.map l))):=by
 refine aq.of_run fun L H _ hH j w jl a hl F=>?_;have X:=hH rfl;subst X;have h1:=F x (by simp [Op.operands]);have h2:=F y (by simp [Op.operands]);have Q:=F z (by simp [Op.operands]);rw [hx] at h1; rw [W] at h2; rw [hz] at Q;obtain⟨b,e,c,ai,bu,G,hg,ct,I,hB⟩:=uh (hl.1.obj id _ hm).2 h1;obtain⟨aj,al,_,C,_,_,Y,_⟩:=gr U;rw [<- Y] at B;have R:∀(p:List MapEntry) (q:Nat),bI (jE j w) l p->k8 p q->(Instr.mapUpdate t (.map (some b)) (a.eval y) (a.eval z)).run P w=.ok () { w with heap:=w.heap.setIfInBounds b (.map p.toArray q) } ->
   ∃r w' cv j' bp,(execOp a.eval (mk dst (.mapUpdate t x y z) ty pos aD g)).run P w=.ok r w'/\(r=.value cv\/(r=.skip/\cv=undef))/\bD j' w' bp .any cv/\HL j' w' bp L (H.set id (some (.map l)))/\Ext jl bp /\
    bT j w (aU j H jl) j' w' (aU j' (H.set id (some (.map l))) bp):=by
  intro p q Z aa ab;have J:=fW.setObj (ak:=ak) (o':=.map p.toArray q) hg;have hle:=J.le (j:=j) I;obtain⟨f,E⟩:=hl.setObj (o':=.map l) hm (by simp [bQ,G]) (by simp [bQ,G]) I J ⟨b,c,p,q,G,J.here,Z.imp fun _ _ h=>h.mono hle,I,aa⟩;refine⟨.skip,_,undef,j,jl, ?_,.inr ⟨rfl,rfl⟩,trivial,f,Ext.refl _,E⟩;simp only [execOp,e,Sem.run_bind,ab,Result.andThen,Sem.run_pure]
 rcases N0 B h2 Q ct 0 bu l hu with ⟨s,f⟩|⟨i,u,m,s,f,E,ad⟩
 ·refine R _ (bu+1) f (hB.push (Ie s) _) ?_;simp [Instr.mapUpdate,dz (lg O hk),lm hg,xl C B h2,Instr.findKey,dz C,s,setObj,Sem.run,hg]
 ·refine R _ bu ad (hB.set f (N5 E)) ?_;have ae:=N9 E;rw [Nat.zero_add] at s;simp [Instr.mapUpdate,dz (lg O hk),lm hg,xl C B h2,Instr.findKey,dz C,s,f,Instr.keyThatStays,ae,setObj,Sem.run,hg]
  congr 2
  apply Array.ext'
  simp
  apply List.ext_getElem?
  intro n;simp only [List.getElem?_modify,List.getElem?_set];by_cases hn:i=n
  ·subst hn;have aJ:=(List.getElem?_eq_some_iff.1 f).1;have af:=(List.getElem?_eq_some_iff.1 f).2;simp [aJ,af]
  ·simp [hn]
theorem aq.Oa {t l m:TypeId}{f:TI}{x:Operand}{cn:Array TypeId}{id:Nat}{es:List (D×A)}(p:bn P t=some f) (hk:f.k=.map l m) (bZ:cn[0]?=some t)
  (hx:ev ts x=.a (.d (.map id))) (hm:h id=some (.map es)):aq P (mk dst (.call { callee:=.builtin .len,args:=#[x],argTypes:=cn }) ty pos aD g) ts ls h { rh:=true } (.a (.d (.int .i64 (es.length:Int)))) ls h :=
 mo.pQ ⟨rfl,rfl,fun L H _ hH j w jl a hl q=>by
  have h1:=q x (by simp [Op.operands,Call.operands]);rw [hx] at h1;rw [hH rfl] at hl;obtain⟨b,r,c,s,bu,_,hg,ct,u,_⟩:=uh (hl.1.obj id _ hm).2 h1;exact⟨_,by simp [execOp,resolve,invoke,builtin,r,Builtin.len_,bZ,dz (lg p hk),lm hg,goInt,ct.length],aF.int _ _⟩⟩
end
end Go.Ab
