import Derived.Test.YtdlobimnfmjonaaGreatDoorE1
import Derived.Laws.Tables
import Derived.Lib.Strings
import Derived.Laws.Slices
import Derived.Laws.Concat
import Derived.Laws.StructEq
set_option maxRecDepth 100000
set_option maxHeartbeats 2000000
set_option linter.unusedVariables false
set_option linter.unusedSimpArgs false
/-
 Code,calls and results over abstract states.
-/
namespace Go.Ab
open Go Go.RowKit
variable {au:bS}
variable {f_:eT}
inductive K where
 | bool|int (k:IntKind)|str|ptr (e:TypeId)|slice (e:TypeId)|map (k e:TypeId)|struct (fs:List (Nat×TypeId))|func|iface|other
 deriving DecidableEq
def gb:TypeDesc->K
 | .bool=>.bool
 | .int k=>.int k
 | .string=>.str
 | .pointer e=>.ptr e
 | .slice e=>.slice e
 | .map k e=>.map k e
 | .struct fs=>.struct (fs.toList.map fun f=>(f.offset,f.type))
 | .func _ _ _=>.func
 | .interface _=>.iface
 | _=>.other
structure TI where
 k:K
 size:Nat
 bytes:Nat
 zero:Option A
def vT:List Value->Option (List D)
 | []=>some []
 | v::r=>match vN v,vT r with
  | some x,some xs=>some (x::xs)
  | _,_=>none
def yx:Option Value->Option A
 | some (.agg cs)=>(vT cs.toList).map .agg
 | some v=>(vN v).map .d
 | none=>none
def G_ (P:Program):Nat->TypeId->List TypeId
 | 0,t=>[t]
 | n+1,t=>match P.underlying t with
  | some (.struct fs)=>fs.toList.flatMap fun f=>G_ P n f.type
  | _=>[t]
def AI (P:Program) (t:TypeId):D->D
 | .slice k tok true []=>match P.underlying t with
  | some (.slice e)=>.slice (P.cellsOf e) tok true []
  | _=>.slice k tok true []
 | x=>x
def Dc (P:Program):List TypeId->List D->List D
 | t::ts,x::xs=>AI P t x::Dc P ts xs
 | _,xs=>xs
def AJ (P:Program) (t:TypeId):A->A
 | .d x=>.d (AI P t x)
 | .agg xs=>.agg (Dc P (G_ P 8 t) xs)
def aY (P:Program) (t:TypeId):Option TI :=
 match P.info? t,P.underlying t with
 | some i,some d=>some ⟨gb d,i.size,i.bytes,(yx i.zero).map (AJ P t)⟩
 | _,_=>none
theorem aD.Oe {j:J}{w:World}{k k':Nat}{tok:Option Nat}{v:Value}(h:aD j w (.slice k tok true []) v):aD j w (.slice k' tok true []) v:=by
 cases h with
 | gD _ _ ht=>exact .gD _ _ ht
theorem He {j:J}{w:World}{P:Program}{t:TypeId}{x:D}{v:Value}(h:aD j w x v):aD j w (AI P t x) v:=by
 unfold AI
 split
 ·split
  ·exact h.Oe
  ·exact h
 ·exact h
theorem Hf {j:J}{w:World}{P:Program}:∀{ts:List TypeId}{xs:List D}{b:List Value},aW (aD j w) xs b->aW (aD j w) (Dc P ts xs) b
 | [],xs,_,h=>by cases xs<;>exact h
 | _::_,_,_,.nil=>.nil
 | _::ts,_,_,.cons h t=>.cons (He h) (Hf (ts:=ts) t)
theorem Of {j:J}{w:World}{P:Program}{t:TypeId}{x:A}{v:Value}(h:di j w x v):di j w (AJ P t x) v:=by
 cases x with
 | d x=>exact He (x:=x) h
 | agg xs=>obtain⟨cs,e,h⟩:=h; exact⟨cs,e,Hf h⟩
theorem Hg (j:J) (w:World):∀(cs:List Value) (xs:List D),vT cs=some xs->aW (aD j w) xs cs
 | [],xs,h=>by simp [vT] at h; subst h; exact .nil
 | v::r,xs,h=>by
  simp only [vT] at h
  split at h
  ·rename_i x b h1 f
   simp at h; subst h;exact .cons (C7 j w v x h1) (Hg j w r b f)
  ·simp at h
theorem gh {P:Program}{t:TypeId}{b:TI}(h:aY P t=some b) :
  ∃i d,P.info? t=some i/\P.underlying t=some d/\i.size=b.size/\i.bytes=b.bytes/\gb d=b.k/\(yx i.zero).map (AJ P t)=b.zero:=by
 unfold aY at h
 split at h
 ·rename_i i d h1 f
  simp at h; subst h;exact⟨i,d,h1,f,rfl,rfl,rfl,rfl⟩
 ·simp at h
theorem Og {z:Option Value}{x:A}(h:yx z=some x):∃v,z=some v/\∀j w,di j w x v:=by
 unfold yx at h
 split at h
 ·rename_i cs
  cases e:vT cs.toList with
  | none=>rw [e] at h; simp at h
  | some xs =>
   rw [e] at h; simp at h; subst h;exact⟨_,rfl,fun j w=>⟨cs.toList,by simp,Hg j w _ _ e⟩⟩
 ·rename_i v hn
  cases e:vN v with
  | none=>rw [e] at h; simp at h
  | some xs =>
   rw [e] at h; simp at h; subst h;exact⟨_,rfl,fun j w=>C7 j w _ _ e⟩
 ·simp at h
theorem nH {P:Program}{t:TypeId}{z:Option Value}{x:A}(h:(yx z).map (AJ P t)=some x):∃v,z=some v/\∀j w,di j w x v:=by
 simp only [Option.map_eq_some_iff] at h;obtain⟨y,b,rfl⟩:=h;obtain⟨v,h1,f⟩:=Og b;exact⟨v,h1,fun j w=>Of (f j w)⟩
def K.uw:K->Bool
 | .other=>true
 | _=>false
theorem K.ux {k:K}(h:k.uw=false):k≠.other:=fun e=>by rw [e] at h; cases h
def yy:K->Bool
 | .struct _=>true
 | _=>false
def uy (b:TI) (xs:List D) (off:Nat):Option A :=
 match yy b.k with
 | true=>match Nat.beq off 0&&Nat.beq xs.length b.size with
  | true=>some (.agg xs)
  | false=>match Nat.ble (off+b.size) xs.length with
   | true=>some (.agg ((xs.drop off).take b.size))
   | false=>none
 | false=>match xs[off]? with
  | some x=>some (.d x)
  | none=>none
theorem eU {P:Program}{t:TypeId}{d:TypeDesc}(h:P.underlying t=some d) (w:World):(underlying t).run P w=.ok d w:=run_underlying h w
theorem Dd {P:Program}{t:TypeId}{b:TI}(g:aY P t=some b) (hk:b.k≠.other) (w:World):(isAgg t).run P w=.ok (yy b.k) w:=by
 obtain⟨i,d,h1,j,_,_,f,_⟩:=gh g;simp only [isAgg,Sem.run_bind,eU j,Result.andThen];cases d<;>simp [gb] at f<;>first|(rw [<- f]; rfl)|(exact absurd f.symm hk)|skip
theorem kE {P:Program}{t:TypeId}{b:TI}(f:aY P t=some b) (w:World):(sizeOf t).run P w=.ok b.size w:=by
 obtain⟨i,d,h1,j,g,_⟩:=gh f;simp [sizeOf,typeInfo,h1,g]
def nI (P:Program) (T:List TI):Prop:=∀t b,T[t]?=some b->aY P t=some b
structure AC [bS] (P:Program) (f:FuncId) (args:List A) (h:af) (cZ:V->af->Prop):Prop where
 enter:∀(dc:Array Value) (w:World),(callFunc f dc).run P w=.ok (.enter f dc) w
 runs:∀(j:J) (w:World) (dc:List Value),fo j w h->aW (di j w) args dc->Calls P f dc.toArray w fun e w' =>
  ∃r cv j' h',e=.returned cv/\cZ r h'/\br j' w' [] r cv/\fo j' w' h'/\bN j w (aV j h []) j' w' (aV j' h' [])
def AQ [bS] [eT] (Q:Exit->St->Prop) (j:J) (w:World) (jl:List Nat) (σ:St):Exit->Act->World->Prop :=
 fun e g w'=>∃b j' f,Q e b/\gE j' w' f b g/\bN j w (aV j σ.h jl) j' w' (aV j' b.h f)
def ag [bS] [eT] (P:Program) (c:Code) (Q:Exit->St->Prop) (σ:St):Prop :=
 ∀(j:J) (w:World) (jl:List Nat) (a:Act),gE j w jl σ a->c.wp P (AQ Q j w jl σ) a w
def mq (next:St->Prop) (Q:Exit->St->Prop):Exit->St->Prop
 | .normal,σ=>next σ
 | e,σ=>Q e σ
def vU (id:Nat) (Q:Exit->St->Prop):Exit->St->Prop
 | .exit i,σ=>if i=id then Q .normal σ else Q (.exit i) σ
 | e,σ=>Q e σ
theorem AQ.trans {Q:Exit->St->Prop}{j b:J}{w f:World}{jl g:List Nat}{σ k:St}(l:bN j w (aV j σ.h jl) b f (aV b k.h g)){e:Exit}{a:Act}{w':World}
  (h:AQ Q b f g k e a w'):AQ Q j w jl σ e a w' :=
 let ⟨m,j',p,hq,q,he⟩:=h
 ⟨m,j',p,hq,q,l.trans he⟩
section
variable {P:Program}{Q:Exit->St->Prop}{σ:St}
theorem ag.mono {c:Code}{Q':Exit->St->Prop}(h:ag P c Q σ) (hq:∀e σ,Q e σ->Q' e σ):ag P c Q' σ :=
 fun j w jl a b=>wp_mono (h j w jl a b) fun _ _ _ ⟨f,j',g,q,r⟩=>⟨f,j',g,hq _ _ q,r⟩
theorem ag.skip (h:Q .normal σ):ag P .skip Q σ:=fun j w jl _ b=>wp_skip ⟨σ,j,jl,h,b,bN.refl _ _ _⟩
theorem ag.ret (h:Q .ret σ):ag P .ret Q σ:=fun j w jl _ b=>wp_ret ⟨σ,j,jl,h,b,bN.refl _ _ _⟩
theorem ag.exit {id:Nat}(h:Q (.exit id) σ):ag P (.exit id) Q σ:=fun j w jl _ b=>wp_exit ⟨σ,j,jl,h,b,bN.refl _ _ _⟩
theorem ag.seq {x y:Code}(h:ag P x (mq (ag P y Q) Q) σ):ag P (.seq x y) Q σ:=by
 intro j w jl a l;refine wp_seq (wp_mono (h j w jl a l) ?_);rintro e m w' ⟨k,j',b,hq,f,g⟩;cases e with
 | normal=>exact wp_mono (hq j' w' b m f) fun e p q h=>AQ.trans g h
 | exit id=>exact⟨k,j',b,hq,f,g⟩
 | goto id=>exact⟨k,j',b,hq,f,g⟩
 | ret=>exact⟨k,j',b,hq,f,g⟩
 | panic ch=>exact⟨k,j',b,hq,f,g⟩
 | outgrown=>exact⟨k,j',b,hq,f,g⟩
theorem Oh {j:J}{w:World}{jl:List Nat}{a:Act}{ts:Ts}{x:Operand}{b:Bool}(f:∀k,br j w jl (get ts k) (a.tmps.getD k undef)) (hx:ev ts x=.a (.d (.bool b))):a.eval x=.bool b:=by
 have h:=o8 f x;rw [hx] at h;have h':aD j w (.bool b) (a.eval x):=h;generalize a.eval x=y at h';cases h'; rfl
theorem ag.cond {c:Operand}{x y:Code}{b:Bool}(hc:ev σ.ts c=.a (.d (.bool b))) (ht:b=true->ag P x Q σ) (g:b=false->ag P y Q σ):ag P (.cond c x y) Q σ:=by
 intro j w jl a f;exact wp_cond_split (Oh f.tmps hc) (fun e=>ht e j w jl a f) (fun e=>g e j w jl a f)
theorem ag.jY {c:Operand}{x y:Code}{b:Bool}(hc:ev σ.ts c=.a (.d (.bool b))) (f:b=true) (ht:ag P x Q σ):ag P (.cond c x y) Q σ :=
 ag.cond hc (fun _=>ht) fun e=>by rw [f] at e; cases e
theorem ag.uz {c:Operand}{x y:Code}{b:Bool}(hc:ev σ.ts c=.a (.d (.bool b))) (f:b=false) (g:ag P y Q σ):ag P (.cond c x y) Q σ :=
 ag.cond hc (fun e=>by rw [f] at e; cases e) fun _=>g
theorem ag.block {id:Nat}{c:Code}(h:ag P c (vU id Q) σ):ag P (.block id c) Q σ:=by
 intro j w jl a l;refine wp_block (wp_mono (h j w jl a l) ?_);rintro e m w' ⟨b,j',f,hq,g,k⟩;cases e with
 | exit i =>
  simp only [vU] at hq;simp only [Exit.inBlock]
  split
  ·rename_i e; rw [if_pos e] at hq; exact⟨b,j',f,hq,g,k⟩
  ·rename_i e; rw [if_neg e] at hq; exact⟨b,j',f,hq,g,k⟩
 | normal=>exact⟨b,j',f,hq,g,k⟩
 | goto id=>exact⟨b,j',f,hq,g,k⟩
 | ret=>exact⟨b,j',f,hq,g,k⟩
 | panic ch=>exact⟨b,j',f,hq,g,k⟩
 | outgrown=>exact⟨b,j',f,hq,g,k⟩
theorem ag.loop {α:Type}{c:Code}(inv:α->St) (m:α->Nat) (pre:α->Prop) (u:α) (h0:pre u)
  (hr:∀x,pre x->ag P c (mq (fun g=>∃y,g=inv y/\pre y/\m y<m x) Q) (inv x)):ag P (.loop c) Q (inv u):=by
 intro j w jl a v b k cs;have key:∀n x,m x=n->pre x->∀(j:J) (w:World) (jl:List Nat) (a:Act),gE j w jl (inv x) a ->
   ∃e t w',AQ Q j w jl (inv x) e t w'/\Arrives P (lone (b.at a (.code c::.inLoop c::k)) cs w) b k cs e t w':=by
  intro n;induction n using Nat.strongRecOn with
  | _ n z =>
   intro x hn B j w jl a v;obtain⟨e,a1,p,⟨g,j',q,hq,r,s⟩,f⟩:=hr x B j w jl a v b (.inLoop c::k) cs;cases e with
   | normal =>
    obtain⟨y,rfl,C,bn⟩:=hq;obtain⟨E,a2,F,G,H⟩:=z (m y) (hn▸bn) y rfl C j' p q a1 r;exact⟨E,a2,F,AQ.trans s G,.of_steps (Steps.trans f (.one step_inLoop)) H⟩
   | exit id=>exact⟨_,a1,p,⟨g,j',q,hq,r,s⟩,.pass (x:=.inLoop c) rfl (fun _ _=>.inl (by simp)) f⟩
   | goto l=>exact⟨_,a1,p,⟨g,j',q,hq,r,s⟩,.pass (x:=.inLoop c) rfl (fun _ _=>.inl (by simp)) f⟩
   | ret=>exact⟨_,a1,p,⟨g,j',q,hq,r,s⟩,.pass (x:=.inLoop c) rfl (fun _ _=>.inl (by simp)) f⟩
   | panic ch=>exact⟨_,a1,p,⟨g,j',q,hq,r,s⟩,.pass (x:=.inLoop c) rfl (fun _ _=>.inl (by simp)) f⟩
   | outgrown=>exact⟨_,a1,p,⟨g,j',q,hq,r,s⟩,.pass (x:=.inLoop c) rfl (fun _ _=>.inl (by simp)) f⟩
 obtain⟨e,t,w',hq,f⟩:=key _ u rfl h0 j w jl a v;exact⟨e,t,w',hq,.of_steps (.one step_loop) f⟩
theorem ag.region {id:Nat}{l:List Oper}(h:aK P l.toArray l (Q .normal) σ):ag P (.region id l.toArray false) Q σ:=by
 intro j w jl a b;exact wp_region_lit (h j w jl a b _ fun f j' w' g p hq k m=>⟨f,j',g,hq,k,m⟩)
theorem ag.draw (hm:P.follows .mixedOrders=true){id:Nat}{l:List Oper}(h:aN P l.toArray σ.n l [] (Q .normal) σ):ag P (.region id l.toArray true) Q σ:=by
 intro j w jl a b;exact aN.wp hm h rfl b fun f j' w' g p hq k m=>⟨f,j',g,hq,k,m⟩
def cC [bS] [eT] (σ b:St):Prop:=∀(j:J) (w:World) (jl:List Nat) (a:Act),gE j w jl σ a->∃j' f,gE j' w f b a/\bN j w (aV j σ.h jl) j' w (aV j' b.h f)
theorem cC.refl (σ:St):cC σ σ:=fun j _ jl _ b=>⟨j,jl,b,bN.refl _ _ _⟩
theorem cC.trans {σ b f:St}(h:cC σ b) (h':cC b f):cC σ f:=by
 intro j w jl a g;obtain⟨k,l,m,p⟩:=h j w jl a g;obtain⟨q,r,s,t⟩:=h' k w l a m;exact⟨q,r,s,p.trans t⟩
theorem ag.uA {c:Code}{b:St}(hw:cC σ b) (h:ag P c Q b):ag P c Q σ:=by
 intro j w jl a f;obtain⟨j',g,k,l⟩:=hw j w jl a f;exact wp_mono (h j' w g a k) fun e a w h=>AQ.trans l h
theorem ag.post {c:Code}(h:ag P c (fun e f=>∃b,cC f b/\Q e b) σ):ag P c Q σ:=by
 intro j w jl a g;refine wp_mono (h j w jl a g) ?_;rintro e k w' ⟨u,j',l,⟨b,hw,hq⟩,m,p⟩;obtain⟨q,r,s,t⟩:=hw j' w' l k m;exact⟨b,q,r,hq,s,p.trans t⟩
inductive dJ (ts:Ts) (n:Nat):Ts->Prop where
 | nil:dJ ts n []
 | cons {k:Nat}{v:V}{r:Ts}(h:get ts k=v) (hv:(∀i off,v=.cW i off->i<n)/\∀c i off,v=.iI c i off->i<n) (t:dJ ts n r):dJ ts n ((k,v)::r)
theorem dJ.get {ts:Ts}{n:Nat}{b:Ts}(h:dJ ts n b) (k:Nat):Ab.get b k=.any\/(Ab.get b k=Ab.get ts k/\(∀i off,Ab.get b k=.cW i off->i<n)/\∀c i off,Ab.get b k=.iI c i off->i<n):=by
 induction h with
 | nil=>exact .inl rfl
 | @cons k' v r h hv t f =>
  by_cases e:k'=k
  ·subst e; rw [ga]; exact .inr ⟨h.symm,hv⟩
  ·rw [ir _ _ e]; exact f
theorem cC.keep {n:Nat}{ts f:Ts}{ls:List (List D)}{h:af}(m:Nat) (hk:dJ ts m f):cC ⟨n,ts,ls,h⟩ ⟨n,f,ls.take m,h⟩:=by
 intro j w jl a g;obtain⟨hl,q⟩:=g.hl.trim m;refine⟨j,jl.take m,⟨g.defers,g.size,fun k=>?_,hl⟩,q⟩;rcases hk.get k with e|⟨e,bn,r⟩
 ·show br _ _ _ (Ab.get f k) _;rw [e]; trivial
 ·show br _ _ _ (Ab.get f k) _;have hv:=g.tmps k;have hv:br j w jl (Ab.get ts k) (a.tmps.getD k undef):=hv;rw [<- e] at hv;cases hx:Ab.get f k with
  | any=>trivial
  | a x=>rw [hx] at hv; exact hv
  | cW i off =>
   rw [hx] at hv;obtain⟨b,l,p⟩:=hv;exact⟨b,by rw [List.getElem?_take_of_lt (bn i off hx)]; exact l,p⟩
  | cL xs=>rw [hx] at hv; exact hv
  | gd c x=>rw [hx] at hv; exact hv
  | full k rows=>rw [hx] at hv; exact hv
  | rV c k rows=>rw [hx] at hv; exact hv
  | iI c i off =>
   rw [hx] at hv;refine⟨fun hc=>?_,hv.2⟩;obtain⟨b,l,p⟩:=hv.1 hc;exact⟨b,by rw [List.getElem?_take_of_lt (r c i off hx)]; exact l,p⟩
theorem cC.forget {n:Nat}{ts:Ts}{ls:List (List D)}{h h':af}(hh:∀id o,h' id=some o->h id=some o):cC ⟨n,ts,ls,h⟩ ⟨n,ts,ls,h'⟩:=by
 intro j w jl a b;obtain⟨hl,f⟩:=b.hl.forget hh;exact⟨j,jl,⟨b.defers,b.size,b.tmps,hl⟩,f⟩
end
def qk:Nat->List A->Ts
 | _,[]=>[]
 | k,x::r=>(k,.a x)::qk (k+1) r
theorem De {j:J}{w:World}(f:Nat->Value):∀(k:Nat) (args:List A) (dc:List Value),aW (di j w) args dc->(∀i v,dc[i]?=some v->f (k+i)=v) ->
  ∀t,br j w [] (get (qk k args) t) (f t)
 | k,_,_,.nil,_,_=>trivial
 | k,_,_,.cons (a:=x) (b:=v) (l:=l) (m:=m) h ht,g,t=>by
  by_cases e:k=t
  ·subst e;simp only [qk];rw [ga];have:=g 0 v rfl;rw [Nat.add_zero] at this;rw [this]; exact h
  ·simp only [qk];rw [ir _ _ e];exact De f (k+1) l m ht (fun i v hv=>by have:=g (i+1) v (by simpa using hv); rw [<- this]; congr 1; omega) t
def AK (T:List TI) (σ:St):ResultVar->Option A
 | .tmp t=>match get σ.ts t with
  | .a x=>some x
  | _=>none
 | .cell t ty=>match get σ.ts t,T[ty]? with
  | .cW i off,some b=>match b.k.uw,σ.ls[i]? with
   | false,some xs=>uy b xs off
   | _,_=>none
  | _,_=>none
def ql (T:List TI) (σ:St):List ResultVar->Option (List A)
 | []=>some []
 | r::rs=>match AK T σ r,ql T σ rs with
  | some x,some xs=>some (x::xs)
  | _,_=>none
def nJ:List A->V
 | [x]=>.a x
 | xs=>.cL xs
end Go.Ab
/-
 Loads,stores and results; from the walk of a body to the contract of a function.
-/
namespace Go.Ab
open Go Go.RowKit
variable {au:bS}
section
variable {f_:eT}
theorem aD.one {j:J}{w:World}{x:D}{v:Value}(h:aD j w x v):v.oneCell'=true:=by cases h<;>rfl
def Cells (j:J) (w:World) (b o:Nat) (xs:List D):Prop:=∀i x,xs[i]?=some x->∃v,w.cell? ⟨b,o+i,none⟩=some v/\aD j w x v
theorem add_plain (b o n:Nat):(⟨b,o,none⟩:Addr).add n=⟨b,o+n,none⟩:=by unfold Addr.add; split<;>simp_all
theorem Df {P:Program}{j:J}{w:World}{b o:Nat}:∀(xs:List D),(∀i x,xs[i]?=some x->∃v,w.cell? ⟨b,o+i,none⟩=some v/\aD j w x v) ->
  ∃cs:List Value,aW (aD j w) xs cs/\(loadCells ⟨b,o,none⟩ xs.length).run P w=.ok cs.toArray w:=by
 intro xs h;have f:∃cs:List Value,aW (aD j w) xs cs/\∀i v,cs[i]?=some v->w.cell? ⟨b,o+i,none⟩=some v:=by
  induction xs generalizing o with
  | nil=>exact⟨[],.nil,by simp⟩
  | cons x r g =>
   obtain⟨v,hv,hr⟩:=h 0 x rfl;obtain⟨cs,f,k⟩:=g (o:=o+1) fun i y l=>by
    have:=h (i+1) y (by simpa using l)
    rwa [show o+(i+1)=o+1+i by omega] at this
   refine⟨v::cs,.cons hr f,fun i u hu=>?_⟩;cases i with
   | zero=>simp at hu; subst hu; exact hv
   | succ i=>rw [show o+(i+1)=o+1+i by omega]; exact k i u (by simpa using hu)
 obtain⟨cs,h1,m⟩:=f;refine⟨cs,h1, ?_⟩;rw [h1.length];exact run_loadCells_list w _ cs fun i v hv=>by rw [add_plain]; exact m i v hv
theorem yz {P:Program}{j:J}{w:World}{b o off:Nat}{xs:List D}(hc:Cells j w b o xs){t:TypeId}{l:TI}(p:aY P t=some l) (hk:l.k≠.other){x:A}(hl:uy l xs off=some x) :
  ∃v,(loadVar t ⟨b,o+off,none⟩).run P w=.ok v w/\di j w x v:=by
 unfold uy at hl;simp only [loadVar,Sem.run_bind,Dd p hk,Result.andThen];cases s:yy l.k with
 | false =>
  rw [s] at hl;dsimp only at hl
  split at hl
  ·rename_i y f
   simp at hl; subst hl;obtain⟨v,hv,hr⟩:=hc off y f;refine⟨v, ?_,hr⟩;simp [hv]
  ·simp at hl
 | true =>
  rw [s] at hl;dsimp only at hl;have z:∀g:List D,g.length=l.size->(∀i y,g[i]?=some y->xs[off+i]?=some y)->∃v,(loadCells ⟨b,o+off,none⟩ l.size).run P w=.ok v w/\di j w (.agg g) (.agg v):=by
   intro g hlen q;obtain⟨cs,h1,m⟩:=Df (P:=P) (j:=j) (w:=w) (b:=b) (o:=o+off) g fun i y f=>by
    have:=hc (off+i) y (q i y f)
    rwa [<- Nat.add_assoc] at this
   rw [hlen] at m;exact⟨_,m,cs,rfl,h1⟩
  have u:∀g:List D,g.length=l.size->(∀i y,g[i]?=some y->xs[off+i]?=some y) ->
    ∃v,((Sem.run P (if true=true then Value.agg <$> (do loadCells ⟨b,o+off,none⟩ (<- sizeOf t)) else load ⟨b,o+off,none⟩)) w)=.ok v w/\di j w (.agg g) v:=by
   intro g hlen q;obtain⟨v,h1,m⟩:=z g hlen q;exact⟨.agg v,by simp [kE p,h1],m⟩
  split at hl
  ·rename_i r
   simp at hl; subst hl;simp only [Bool.and_eq_true] at r;have B:off=0:=Nat.eq_of_beq_eq_true r.1;have C:xs.length=l.size:=Nat.eq_of_beq_eq_true r.2;obtain⟨v,h1,m⟩:=u xs C fun i y f=>by rw [B,Nat.zero_add]; exact f
   exact⟨v,by simpa [kE p] using h1,m⟩
  ·split at hl
   ·rename_i E
    simp at hl; subst hl;have hle:=Nat.le_of_ble_eq_true E;obtain⟨v,h1,m⟩:=u ((xs.drop off).take l.size) (by simp; omega) fun i y f=>by
     rw [List.getElem?_take] at f
     split at f
     ·rw [List.getElem?_drop] at f; exact f
     ·simp at f
    exact⟨v,by simpa [kE p] using h1,m⟩
   ·simp at hl
theorem jW.cells {j:J}{w:World}{b:Nat}{xs:List D}(h:jW j w b xs):Cells j w b 0 xs:=by
 obtain⟨cs,e,hh,hx,_⟩:=h;intro i x hi;obtain⟨v,hv,hr⟩:=hx.get hi;exact⟨v,by rw [Nat.zero_add,cell_of_row w b i cs.toArray e (0,0) hh]; simpa using hv,hr⟩
def cK {α:Type}:List α->Nat->List α->List α
 | l,_,[]=>l
 | l,n,v::r=>cK (l.set n v) (n+1) r
theorem uB {α:Type}:∀(l:List α) (n:Nat) (r:List α),(cK l n r).length=l.length
 | l,_,[]=>rfl
 | l,n,v::r=>by rw [cK,uB]; simp
theorem aW.cK {α β:Type}{R:α->β->Prop}{l:List α}{m:List β}(h:aW R l m):∀(n:Nat){r:List α}{s:List β},aW R r s->aW R (Ab.cK l n r) (Ab.cK m n s):=by
 intro n r s hr;induction hr generalizing l m n with
 | nil=>exact h
 | cons x _ b=>exact b (h.set x n) (n+1)
theorem gM.trans {w f g:World}{b:Nat}{o o':Go.Obj}(h:gM w f b o) (h':gM f g b o'):gM w g b o' :=
 ⟨h'.size.trans h.size,h'.here,fun x hx=>(h'.other x hx).trans (h.other x hx),h'.os.trans h.os,h'.tape.trans h.tape,h'.output.trans h.output⟩
theorem gM.same {w:World}{b:Nat}{o:Go.Obj}(h:w.heap[b]?=some o):gM w w b o:=⟨rfl,h,fun _ _=>rfl,rfl,rfl,fZ.rfl⟩
theorem gM.setCell {w:World}{b i:Nat}{cs:List Value}{e:TypeId}(h:w.heap[b]?=some (.cells cs.toArray e (0,0))) (v:Value):gM w (w.setCell ⟨b,i,none⟩ v) b (.cells (cs.set i v).toArray e (0,0)):=by
 refine⟨by simp, ?_,fun x hx=>heap_setCell_other w _ x v hx,rfl,rfl,fZ.rfl⟩;have bn:=jJ h;simp only [World.setCell,Array.getElem?_modify,if_true,h,Option.map_some];simp
theorem yA {P:Program}{b off:Nat}{e:TypeId}:∀(f:List Value) (i:Nat) (cs:List Value) (w:World),w.heap[b]?=some (.cells cs.toArray e (0,0))->off+i+f.length<=cs.length ->
  (∀v∈f,v.oneCell'=true)->∃w',(storeCells ⟨b,off,none⟩ f i).run P w=.ok () w'/\gM w w' b (.cells (cK cs (off+i) f).toArray e (0,0))
 | [],i,cs,w,hg,_,_=>⟨w,by simp [storeCells],gM.same hg⟩
 | v::rest,i,cs,w,hg,hl,h1=>by
  simp only [List.length_cons] at hl;have hu:=gM.setCell (au:=au) (i:=off+i) hg v;obtain⟨w',g,j⟩:=yA (P:=P) (off:=off) (e:=e) rest (i+1) (cs.set (off+i) v) _ hu.here (by simp; omega) (fun x hx=>h1 x (by simp [hx]));refine⟨w', ?_,hu.trans j⟩;have k:w.cell? ⟨b,off+i,none⟩=some (cs[off+i]'(by omega)):=by
   rw [cell_of_row w b (off+i) cs.toArray e (0,0) hg];rw [Array.getElem?_eq_getElem (by simp; omega)]; simp
  have l:w.frozen? ⟨b,off+i,none⟩=false:=frozen_of_row w b _ cs.toArray e hg;have m:(store ((⟨b,off,none⟩:Addr).add i) v).run P w=.ok () (w.setCell ⟨b,off+i,none⟩ v):=by
   rw [add_plain,run_store P w _ v _ (h1 v (by simp)),k];simp [l]
  simp only [storeCells,Sem.run_bind,m,Result.andThen,g]
def cw:A->List D
 | .d x=>[x]
 | .agg xs=>xs
theorem di.cells {j:J}{w:World}{x:A}{v:Value}(h:di j w x v):aW (aD j w) (cw x) v.cells.toList:=by
 cases x with
 | d x =>
  have b:aD j w x v:=h;have:v.cells=#[v]:=by cases b<;>rfl
  rw [this];exact .cons b .nil
 | agg xs=>obtain⟨cs,e,h⟩:=h; subst e; simpa [Value.cells,cw] using h
theorem AL {j:J}{w:World}{xs:List D}{cs:List Value}(h:aW (aD j w) xs cs):∀v∈cs,v.oneCell'=true:=by
 induction h with
 | nil=>simp
 | cons x _ b =>
  intro v hv;rcases List.mem_cons.1 hv with e|e
  ·rw [e]; exact x.one
  ·exact b v e
theorem Dg {P:Program}{j:J}{w:World}{b off:Nat}{e:TypeId}{cs:List Value}(hg:w.heap[b]?=some (.cells cs.toArray e (0,0))){t:TypeId}{f:TI}(g:aY P t=some f){x:A}{v:Value}(hv:di j w x v)
  (k:(cw x).length=f.size) (hl:off+f.size<=cs.length):∃w',(storeVar t ⟨b,off,none⟩ v).run P w=.ok () w'/\gM w w' b (.cells (cK cs off v.cells.toList).toArray e (0,0)):=by
 have hc:=hv.cells;have hlen:v.cells.size=f.size:=by rw [<- k,hc.length]; simp
 obtain⟨w',h1,l⟩:=yA (P:=P) (off:=off) (e:=e) v.cells.toList 0 cs w hg (by simp; omega) (AL hc);refine⟨w', ?_,by simpa using l⟩;simp [storeVar,kE g,hlen,h1]
theorem Oi {P:Program}{T:List TI}(fc:nI P T){σ:St}{j:J}{w:World}{jl:List Nat}{a:Act}(f:gE j w jl σ a){r:ResultVar}{x:A}(h:AK T σ r=some x) :
  ∃v,(match r with|.tmp t=>pure (a.tmps.getD t undef)|.cell t ty=>do loadVar ty (<- asAddr (a.tmps.getD t undef)):Sem Value).run P w=.ok v w/\di j w x v:=by
 cases r with
 | tmp t =>
  have hv:=f.tmps t;simp only [AK] at h
  split at h
  ·rename_i y l
   simp at h; subst h;rw [l] at hv;exact⟨_,rfl,hv⟩
  ·simp at h
 | cell t ty =>
  have hv:=f.tmps t;simp only [AK] at h
  split at h
  ·rename_i i off u h1 m
   rw [h1] at hv;obtain⟨b,p,e⟩:=hv
   split at h
   ·rename_i xs hk hx
    obtain⟨b',g,q⟩:=f.hl.2.each.get hx;rw [p] at g; simp only [Option.some.injEq] at g; subst g;obtain⟨v,k,s⟩:=yz (P:=P) q.cells (fc _ _ m) (K.ux hk) h;refine⟨v, ?_,s⟩;rw [Nat.zero_add] at k;simp [e,asAddr,k]
   ·simp at h
  ·simp at h
theorem Di {P:Program}{T:List TI}(fc:nI P T){σ:St}{j:J}{w:World}{jl:List Nat}{a:Act}(f:gE j w jl σ a):∀(rs:List ResultVar) (xs:List A),ql T σ rs=some xs ->
  ∃b:List Value,(rs.mapM fun r=>(match r with|.tmp t=>pure (a.tmps.getD t undef)|.cell t ty=>do loadVar ty (<- asAddr (a.tmps.getD t undef)):Sem Value)).run P w=.ok b w/\aW (di j w) xs b
 | [],xs,h=>by simp [ql] at h; subst h; exact⟨[],by simp,.nil⟩
 | r::rs,xs,h=>by
  simp only [ql] at h
  split at h
  ·rename_i x g h1 k
   simp at h; subst h;obtain⟨v,l,m⟩:=Oi fc f h1;obtain⟨b,p,q⟩:=Di fc f rs g k;refine⟨v::b, ?_,.cons m q⟩;rw [List.mapM_cons,Sem.run_bind,l];simp only [Result.andThen,Sem.run_bind,p,Sem.run_pure]
  ·simp at h
def bU (T:List TI) (rs:List ResultVar) (cZ:V->af->Prop):Exit->St->Prop:=fun e σ =>
 (e=.normal\/e=.ret)/\∃xs h',ql T σ rs=some xs/\(∀id o,h' id=some o->σ.h id=some o)/\cZ (nJ xs) h'
end
theorem Hh {P:Program}{T:List TI}(fc:nI P T){f_:eT}{fn:Func}{σ:St}{j:J}{w:World}{jl:List Nat}{a:Act}(f:gE j w jl σ a){rs:List ResultVar}(g:fn.results.toList=rs){xs:List A}(h:ql T σ rs=some xs) :
  ∃v,(results fn a.tmps).run P w=.ok v w/\br j w [] (nJ xs) v:=by
 subst g;obtain⟨b,k,l⟩:=Di (P:=P) fc f fn.results.toList xs h;refine⟨if h:b.toArray.size=1 then b.toArray[0] else .tuple b.toArray, ?_, ?_⟩
 ·unfold results;rw [Sem.run_bind,Array.mapM_eq_mapM_toList];rw [Sem.run_map];rw [show (List.mapM _ fn.results.toList:Sem (List Value))=List.mapM (fun r=>(match r with|.tmp t=>pure (a.tmps.getD t undef)|.cell t ty=>do loadVar ty (<- asAddr (a.tmps.getD t undef)):Sem Value)) fn.results.toList from by
   congr 1]
  rw [k];simp [Result.andThen]
 ·cases l with
  | nil=>exact⟨[],rfl,.nil⟩
  | cons h1 m =>
   cases m with
   | nil=>simpa [nJ,br] using h1
   | cons p q=>exact⟨_,by simp,.cons h1 (.cons p q)⟩
theorem AC.of_wp {P:Program}{T:List TI}(fc:nI P T){f:FuncId}{fn:Func}{c:Code}{args:List A}{h:af}{cZ:V->af->Prop}(s:∀(dc:Array Value) (w:World),(callFunc f dc).run P w=.ok (.enter f dc) w) (u:P.funcs[f]?=some fn) (y:fn.body=some c){n:Nat}(hn:fn.ntmps=n){rs:List ResultVar}(z:fn.results.toList=rs) (hl:Nat.ble args.length n=true)
  (hw:ag P c (bU T rs cZ) ⟨n,qk 0 args,[],h⟩):AC P f args h cZ:=by
 subst hn z;have hl:=Nat.le_of_ble_eq_true hl;refine⟨s,fun j w dc hr p=>?_⟩;refine calls_of_wp u y (wp_mono (hw j w [] _ ?_) ?_)
 ·have hlen:=p.length;refine⟨rfl,by simp; omega,fun t=>?_,⟨hr,⟨.nil,by simp,by simp⟩⟩⟩;refine De (fun t=>(dc.toArray++Array.replicate (fn.ntmps-dc.toArray.size) undef).getD t undef) 0 args dc p (fun i v hv=>?_) t;rw [Nat.zero_add,Array.getD_eq_getD_getElem?,Array.getElem?_append];have:i<dc.length:=(List.getElem?_eq_some_iff.1 hv).1;simp [this];exact(List.getElem?_eq_some_iff.1 hv).2
 ·rintro e k w' ⟨S,j',U,⟨he,xs,h',B,C,E⟩,b,F⟩;obtain⟨l,G,H⟩:=Di fc b fn.results.toList xs B;have I:∃v,(results fn k.tmps).run P w'=.ok v w'/\br j' w' [] (nJ xs) v:=by
   refine⟨if h:l.toArray.size=1 then l.toArray[0] else .tuple l.toArray, ?_, ?_⟩
   ·unfold results;rw [Sem.run_bind,Array.mapM_eq_mapM_toList];rw [Sem.run_map];rw [show (List.mapM _ fn.results.toList:Sem (List Value))=List.mapM (fun r=>(match r with|.tmp t=>pure (k.tmps.getD t undef)|.cell t ty=>do loadVar ty (<- asAddr (k.tmps.getD t undef)):Sem Value)) fn.results.toList from by
     congr 1]
    rw [G];simp [Result.andThen]
   ·cases H with
    | nil=>exact⟨[],rfl,.nil⟩
    | cons h1 J =>
     cases J with
     | nil=>simpa [nJ,br] using h1
     | cons K L=>exact⟨_,by simp,.cons h1 (.cons K L)⟩
  obtain⟨v,hv,M⟩:=I;obtain⟨N,O⟩:=b.hl.trim 0;obtain⟨Q,R⟩:=N.forget C;have q:∃r cv g m,Ending.returned v=.returned cv/\cZ r m/\br g w' [] r cv/\fo g w' m/\bN j w (aV j h []) g w' (aV g m []) :=
   ⟨nJ xs,v,j',h',rfl,E,M,Q.1,(F.trans O).trans R⟩
  rcases he with he|he<;>subst he
  ·exact⟨b.defers,v,hv,q⟩
  ·exact⟨b.defers,v,hv,q⟩
end Go.Ab
/-
 The operations that leave the world alone.
-/
namespace Go.Ab
open Go Go.RowKit
variable {au:bS}
def o9 (P:Program) (o:Oper) (ts:Ts) (ls:List (List D)) (h:af) (fx:Fx) (v:V):Prop :=
 fx.wl=false/\fx.wh=false/\∀L H,(fx.rl=true->L=ls)->(fx.rh=true->H=h)->∀(j:J) (w:World) (jl:List Nat) (a:Act),HL j w jl L H ->
  (∀x,x∈o.op.operands->br j w jl (ev ts x) (a.eval x))->∃cv,(execOp a.eval o).run P w=.ok (.value cv) w/\br j w jl v cv
theorem o9.r_ {P:Program}{o:Oper}{ts:Ts}{ls:List (List D)}{h:af}{fx:Fx}{v:V}(b:o9 P o ts ls h fx v):an P o ts ls h fx v ls h:=by
 obtain⟨h1,f,b⟩:=b;intro L H g hH j w jl a hl k K Q hk;rw [h1,Bool.or_false] at g;rw [f,Bool.or_false] at hH;obtain⟨cv,hr,hv⟩:=b L H g hH j w jl a hl k;unfold Oper.wp;rw [hr,Oper.upon_value];exact hk v L H cv j w jl ⟨rfl,by rw [h1]; rfl,by rw [f]; rfl⟩ hv hl (Ext.refl _) (bN.refl _ _ _)
section
variable {P:Program}{ts:Ts}{ls:List (List D)}{h:af}{dst:Option Tmp}{ty:TypeId}{pos:String}{aI:Array Edge}{g:Option (Nat×Bool)}
abbrev mk (dst:Option Tmp) (op:Op) (ty:TypeId) (pos:String) (aI:Array Edge) (g:Option (Nat×Bool)):Oper:=⟨dst,op,ty,pos,aI,g⟩
theorem an.dR {o:Oper}{v:V}(b:∀(j:J) (w:World) (jl:List Nat) (a:Act),(∀x,x∈o.op.operands->br j w jl (ev ts x) (a.eval x))->∃cv,(execOp a.eval o).run P w=.ok (.value cv) w/\br j w jl v cv) :
  an P o ts ls h {} v ls h :=
 o9.r_ ⟨rfl,rfl,fun _ _ _ _ j w jl a _ f=>b j w jl a f⟩
theorem nK {j:J}{w:World}{jl:List Nat}{b:Bool}{cv:Value}(h:br j w jl (.a (.d (.bool b))) cv):cv=.bool b:=by
 have h':aD j w (.bool b) cv:=h;cases h'; rfl
theorem jZ {j:J}{w:World}{jl:List Nat}{k:IntKind}{n:Int}{cv:Value}(h:br j w jl (.a (.d (.int k n))) cv):cv=.int k n:=by
 have h':aD j w (.int k n) cv:=h;cases h'; rfl
theorem lK {j:J}{w:World}{jl:List Nat}{s:List UInt8}{cv:Value}(h:br j w jl (.a (.d (.str s))) cv):cv=.string ⟨s.toArray⟩/\s.length<=fu:=by
 have h':aD j w (.str s) cv:=h;cases h' with
 | str _ b=>exact⟨rfl,b⟩
theorem AM {j:J}{w:World}{jl:List Nat}{i off:Nat}{cv:Value}(h:br j w jl (.cW i off) cv):∃b,jl[i]?=some b/\cv=.pointer (some ⟨b,off,none⟩):=h
theorem Hi {j:J}{w:World}{jl:List Nat}{xs:List D}{cv:Value}(h:br j w jl (.a (.d (.view xs))) cv):∃a f,cv=.pointer (some a)/\At j w a xs.length f/\∀i (h:i<xs.length),aD j w xs[i] (f i):=by
 have h':aD j w (.view xs) cv:=h;cases h' with
 | view _ a f bQ hr=>exact⟨a,f,rfl,bQ,hr⟩
theorem AN {j:J}{w:World}{jl:List Nat}{id off:Nat}{cv:Value}(h:br j w jl (.a (.d (.ptr id off))) cv):cv=.pointer (some ⟨j.out id,off,none⟩)/\id<j.next:=by
 have h':aD j w (.ptr id off) cv:=h;cases h' with
 | ptr _ _ hi=>exact⟨rfl,hi⟩
theorem an.move {x:Operand}{v:V}(hx:ev ts x=v):an P (mk dst (.move x) ty pos aI g) ts ls h {} v ls h :=
 an.dR fun j w jl a b=>⟨a.eval x,rfl,hx▸b x (by simp [Op.operands])⟩
theorem an.assign {x:Operand}{v:V}(hx:ev ts x=v):an P (mk dst (.assign x) ty pos aI g) ts ls h {} v ls h :=
 an.dR fun j w jl a b=>⟨a.eval x,rfl,hx▸b x (by simp [Op.operands])⟩
theorem At.cells {j:J}{w:World}{a:Addr}{xs:List D}{f:Nat->Value}(bQ:At j w a xs.length f) (hr:∀i (h:i<xs.length),aD j w xs[i] (f i)):Cells j w a.block a.off xs:=by
 intro i x hx;have hi:=(List.getElem?_eq_some_iff.1 hx).1;refine⟨f i,(bQ.2 i hi).2.1, ?_⟩;have:=hr i hi;rw [(List.getElem?_eq_some_iff.1 hx).2] at this; exact this
theorem an.nL {t:TypeId}{f:TI}{x:Operand}{i off:Nat}{xs:List D}{v:A}(p:aY P t=some f) (hk:f.k.uw=false) (hx:ev ts x=.cW i off) (hl:ls[i]?=some xs) (hv:uy f xs off=some v) :
  an P (mk dst (.load t x) ty pos aI g) ts ls h { rl:=true } (.a v) ls h :=
 o9.r_ ⟨rfl,rfl,fun L H q _ j w jl a hh r=>by
  have h1:=r x (by simp [Op.operands]);rw [hx] at h1;obtain⟨b,s,e⟩:=AM h1;rw [q rfl] at hh;obtain⟨b',l,u⟩:=hh.2.each.get hl;rw [s] at l; simp only [Option.some.injEq] at l; subst l;obtain⟨cv,m,y⟩:=yz (P:=P) u.cells p (K.ux hk) hv;rw [Nat.zero_add] at m;exact⟨cv,by simp [execOp,Instr.loadAt,Instr.sureAddr,e,m],y⟩⟩
theorem an.dK {t:TypeId}{l:TI}{x:Operand}{xs:List D}{v:A}(p:aY P t=some l) (hk:l.k.uw=false) (hx:ev ts x=.a (.d (.view xs))) (hv:uy l xs 0=some v) :
  an P (mk dst (.load t x) ty pos aI g) ts ls h {} (.a v) ls h :=
 an.dR fun j w jl a q=>by
  have h1:=q x (by simp [Op.operands]);rw [hx] at h1;obtain⟨b,f,e,bQ,hr⟩:=Hi h1;obtain⟨cv,m,r⟩:=yz (P:=P) (bQ.cells hr) p (K.ux hk) hv;have he:b=⟨b.block,b.off+0,none⟩:=by
   have:=bQ.1;cases b; simp at this; simp [this]
  rw [<- he] at m;exact⟨cv,by simp [execOp,Instr.loadAt,Instr.sureAddr,e,m],r⟩
theorem iJ.cells {j:J}{w:World}{id:Nat}{xs:List D}(h:iJ j w id (.cells xs)):jW j w (j.out id) xs:=h
theorem an.eD {t:TypeId}{b:TI}{x:Operand}{id off:Nat}{xs:List D}{v:A}(l:aY P t=some b) (hk:b.k.uw=false) (hx:ev ts x=.a (.d (.ptr id off))) (hh:h id=some (.cells xs)) (hv:uy b xs off=some v) :
  an P (mk dst (.load t x) ty pos aI g) ts ls h { rh:=true } (.a v) ls h :=
 o9.r_ ⟨rfl,rfl,fun L H _ hH j w jl a hl m=>by
  have h1:=m x (by simp [Op.operands]);rw [hx] at h1;obtain⟨e,_⟩:=AN h1;rw [hH rfl] at hl;obtain⟨cv,f,p⟩:=yz (P:=P) (hl.1.obj id _ hh).2.cells.cells l (K.ux hk) hv;rw [Nat.zero_add] at f;exact⟨cv,by simp [execOp,Instr.loadAt,Instr.sureAddr,e,f],p⟩⟩
theorem Dj {P:Program}{t:TypeId}{g:TI}{fs:List (Nat×TypeId)}(j:aY P t=some g) (hk:g.k=.struct fs) :
  ∃gs:Array Field,P.underlying t=some (.struct gs)/\gs.toList.map (fun f=>(f.offset,f.type))=fs:=by
 obtain⟨i,d,h1,l,_,_,b,_⟩:=gh j;rw [hk] at b;cases d<;>simp [gb] at b;exact⟨_,l,b⟩
theorem Dk {P:Program}{t:TypeId}{j l:TI}{fs:List (Nat×TypeId)}{f o:Nat}{g:TypeId}(m:aY P t=some j) (hk:j.k=.struct fs) (b:fs[f]?=some (o,g)) (p:aY P g=some l) (hz:l.size≠0)
  (a:Addr) (w:World):(Instr.fieldAt t (.pointer (some a)) f).run P w=.ok (.pointer (some (a.add o))) w:=by
 obtain⟨gs,hu,he⟩:=Dj m hk;have hg:∃fd:Field,gs[f]?=some fd/\fd.offset=o/\fd.type=g:=by
  rw [<- he,List.getElem?_map] at b;cases e:gs.toList[f]? with
  | none=>rw [e] at b; simp at b
  | some fd=>rw [e] at b; simp at b; exact⟨fd,by simpa using e,b.1,b.2⟩
 obtain⟨fd,h1,q,r⟩:=hg;simp [Instr.fieldAt,eU hu,h1,Instr.sureAddr,fieldPlace,r,kE p,hz,q]
theorem an.pe {t:TypeId}{l m:TI}{fs:List (Nat×TypeId)}{x:Operand}{f o i off:Nat}{p:TypeId}(q:aY P t=some l) (hk:l.k=.struct fs) (r:fs[f]?=some (o,p)) (s:aY P p=some m)
  (hz:Nat.beq m.size 0=false) (hx:ev ts x=.cW i off):an P (mk dst (.fieldAddr t x f) ty pos aI g) ts ls h {} (.cW i (off+o)) ls h :=
 an.dR fun j w jl a u=>by
  have h1:=u x (by simp [Op.operands]);rw [hx] at h1;obtain⟨b,v,e⟩:=AM h1;exact⟨.pointer (some ⟨b,off+o,none⟩),by simp [execOp,e,Dk q hk r s (fun e=>by rw [e] at hz; simp at hz),add_plain],b,v,rfl⟩
theorem an.iK {t:TypeId}{b l:TI}{fs:List (Nat×TypeId)}{x:Operand}{f o id off:Nat}{m:TypeId}(p:aY P t=some b) (hk:b.k=.struct fs) (q:fs[f]?=some (o,m)) (r:aY P m=some l)
  (hz:Nat.beq l.size 0=false) (hx:ev ts x=.a (.d (.ptr id off))):an P (mk dst (.fieldAddr t x f) ty pos aI g) ts ls h {} (.a (.d (.ptr id (off+o)))) ls h :=
 an.dR fun j w jl a s=>by
  have h1:=s x (by simp [Op.operands]);rw [hx] at h1;obtain⟨e,hi⟩:=AN h1;exact⟨.pointer (some ⟨j.out id,off+o,none⟩),by simp [execOp,e,Dk p hk q r (fun e=>by rw [e] at hz; simp at hz),add_plain],aD.ptr _ _ hi⟩
theorem aD.Oj {j:J}{w:World}{xs:List D}{a:Addr}{f:Nat->Value}(bQ:At j w a xs.length f) (hr:∀i (h:i<xs.length),aD j w xs[i] (f i)) (n:Nat):aD j w (.view (xs.drop n)) (.pointer (some (a.add n))):=by
 have b:a=⟨a.block,a.off,none⟩:=by have:=bQ.1; cases a; simp at this; simp [this]
 rw [b,add_plain];refine aD.view (xs.drop n) _ (fun i=>f (n+i)) ⟨rfl,fun i hi=>?_⟩ fun i hi=>?_
 ·simp only [List.length_drop] at hi;have:=bQ.2 (n+i) (by omega);rw [<- Nat.add_assoc] at this; exact this
 ·simp only [List.length_drop] at hi;have:=hr (n+i) (by omega)
  simpa using this
theorem an.Ol {t:TypeId}{b l:TI}{fs:List (Nat×TypeId)}{x:Operand}{f o:Nat}{xs m:List D}{p:TypeId}(q:aY P t=some b) (hk:b.k=.struct fs) (r:fs[f]?=some (o,p)) (s:aY P p=some l)
  (hz:Nat.beq l.size 0=false) (hx:ev ts x=.a (.d (.view xs))) (u:xs.drop o=m):an P (mk dst (.fieldAddr t x f) ty pos aI g) ts ls h {} (.a (.d (.view m))) ls h :=
 an.dR fun j w jl a v=>by
  have h1:=v x (by simp [Op.operands]);rw [hx] at h1;obtain⟨y,f',e,bQ,hr⟩:=Hi h1;subst u;exact⟨_,by simp [execOp,e,Dk q hk r s (fun e=>by rw [e] at hz; simp at hz)],aD.Oj bQ hr o⟩
theorem qm {j:J}{w:World}{jl:List Nat}{k:Nat}{tok:Option Nat}{nl:Bool}{rows:List (List D)}{cv:Value}(h:br j w jl (.a (.d (.slice k tok nl rows))) cv) :
  ∃a cap,cv=.slice a rows.length cap/\rows.length<=cA/\rows.length<=cap/\(nl=a.isNone)/\(a=none->cap=0/\rows=[])/\(∀r,r∈rows->r.length=k) /\
   ∀b,a=some b->vL j tok rows.length b cap/\∃f,uq j w b rows f/\∀i (h:i<rows.flatten.length),aD j w rows.flatten[i] (f i):=by
 have h':aD j w (.slice k tok nl rows) cv:=h;cases h' with
 | gD _ _ ht=>exact⟨none,0,rfl,by simp [cA],by simp,rfl,fun _=>⟨rfl,rfl⟩,by simp,by simp⟩
 | slice _ _ _ a cap f hk hn hc bQ hr ht=>exact⟨some a,cap,rfl,hn,hc,rfl,by simp,hk,fun b e=>by simp at e; subst e; exact⟨ht,f,bQ,hr⟩⟩
theorem iu {rows:List (List D)}{k:Nat}(hk:∀r∈rows,r.length=k):rows.flatten.length=rows.length*k/\∀i row,rows[i]?=some row->∀n,n<k->rows.flatten[i*k+n]?=row[n]?:=by
 induction rows with
 | nil=>simp
 | cons r rs b =>
  have hr:r.length=k:=hk r (by simp);obtain⟨h1,f⟩:=b fun x hx=>hk x (by simp [hx]);refine⟨by simp [h1,hr,Nat.succ_mul,Nat.add_comm],fun i row hi n hn=>?_⟩;cases i with
  | zero =>
   simp at hi; subst hi;rw [List.flatten_cons,Nat.zero_mul,Nat.zero_add,List.getElem?_append_left (by omega)]
  | succ i =>
   simp only [List.getElem?_cons_succ] at hi;rw [List.flatten_cons,List.getElem?_append_right (by rw [hr,Nat.succ_mul]; omega)];rw [show (i+1)*k+n-r.length=i*k+n by rw [hr,Nat.succ_mul]; omega];exact f i row hi n hn
theorem Om {j:J}{w:World}{k:Nat}{rows:List (List D)}{b:Addr}{f:Nat->Value}(hk:∀r∈rows,r.length=k) (bQ:uq j w b rows f) (hr:∀i (h:i<rows.flatten.length),aD j w rows.flatten[i] (f i))
  {i:Nat}{row:List D}(hi:rows[i]?=some row):aD j w (.view row) (.pointer (some (b.add (i*k)))):=by
 obtain⟨h1,m⟩:=iu hk;have hlen:row.length=k:=hk row (List.mem_of_getElem? hi);have p:b=⟨b.block,b.off,none⟩:=by have:=bQ.1.resolve_left (fun e=>by rw [e] at hi; simp at hi); cases b; simp at this; simp [this]
 have bn:i<rows.length:=(List.getElem?_eq_some_iff.1 hi).1;have hle:i*k+k<=rows.flatten.length:=by
  rw [h1,<- Nat.succ_mul]; exact Nat.mul_le_mul_right k bn
 rw [p,add_plain];refine aD.view row _ (fun n=>f (i*k+n)) ⟨rfl,fun n hn=>?_⟩ fun n hn=>?_
 ·have:=bQ.2 (i*k+n) (by omega);rw [<- Nat.add_assoc] at this; exact this
 ·have l:=hr (i*k+n) (by omega);have g:=m i row hi n (by omega);rw [List.getElem?_eq_getElem (by omega),List.getElem?_eq_getElem hn] at g;simp only [Option.some.injEq] at g;rw [g] at l; exact l
theorem kF {P:Program}{t:TypeId}{f:TI}{e:TypeId}(g:aY P t=some f) (hk:f.k=.slice e):P.underlying t=some (.slice e):=by
 obtain⟨i,d,h1,j,_,_,b,_⟩:=gh g;rw [hk] at b;cases d<;>simp [gb] at b;subst b; exact j
theorem an.Hj {t e:TypeId}{l m:TI}{x ix:Operand}{tok:Option Nat}{nl:Bool}{rows:List (List D)}{r:IntKind}{n:Int}{row:List D}{k:Nat}(s:aY P t=some l) (hk:l.k=.slice e) (u:aY P e=some m)
  (hx:ev ts x=.a (.d (.slice k tok nl rows))) (hi:ev ts ix=.a (.d (.int r n))) (v:k=m.size) (h0:0<=n) (hr:rows[n.toNat]?=some row) :
  an P (mk dst (.indexAddr t x ix) ty pos aI g) ts ls h {} (.a (.d (.view row))) ls h :=
 an.dR fun j w jl a p=>by
  have h1:=p x (by simp [Op.operands]);have q:=p ix (by simp [Op.operands]);rw [hx] at h1; rw [hi] at q;obtain⟨b,cap,y,hn,hc,H,z,B,C⟩:=qm h1;have bn:n.toNat<rows.length:=(List.getElem?_eq_some_iff.1 hr).1;cases b with
  | none=>obtain⟨_,E⟩:=z rfl; rw [E] at bn; simp at bn
  | some b =>
   obtain⟨_,f,bQ,F⟩:=C b rfl;refine⟨_, ?_,Om B bQ F hr⟩;have G:n<(rows.length:Int):=by omega
   simp [execOp,y,jZ q,Instr.indexAt,asIntOf,eU (kF s hk),kE u,h0,G,v]
end
end Go.Ab
/-
 Arithmetic,comparisons,lengths,structs.
-/
namespace Go.Ab
open Go Go.RowKit
variable {au:bS}
section
variable {P:Program}{ts:Ts}{ls:List (List D)}{h:af}{dst:Option Tmp}{ty:TypeId}{pos:String}{aI:Array Edge}{g:Option (Nat×Bool)}
theorem Dl {op:BinOp}{t:TypeId}{x y:Operand}{k:IntKind}{m n:Int}(w:World):(eqGuard op t x y (.int k m) (.int k n)).run P w=.ok () w:=by
 unfold eqGuard;cases op<;>simp
theorem Hl {op:BinOp}{t:TypeId}{x y:Operand}{m n:ByteArray}(w:World):(eqGuard op t x y (.string m) (.string n)).run P w=.ok () w:=by
 unfold eqGuard;cases op<;>simp
theorem On {op:BinOp}{t:TypeId}{x y:Operand}{m n:Bool}(w:World):(eqGuard op t x y (.bool m) (.bool n)).run P w=.ok () w:=by
 unfold eqGuard;cases op<;>simp
def yB (op:BinOp) (k:IntKind) (m n:Int):Option D :=
 match op with
 | .add=>some (.int k (k.wrap (m+n)))
 | .sub=>some (.int k (k.wrap (m-n)))
 | .mul=>some (.int k (k.wrap (m*n)))
 | .eql=>some (.bool (decide (m=n)))
 | .neq=>some (.bool (!decide (m=n)))
 | .lss=>some (.bool (decide (m<n)))
 | .leq=>some (.bool (decide (m<=n)))
 | .gtr=>some (.bool (decide (n<m)))
 | .geq=>some (.bool (decide (n<=m)))
 | _=>none
theorem Oo {op:BinOp}{t:TypeId}{k:IntKind}{m n:Int}{r:D}(hr:yB op k m n=some r) (w:World):∃cv,(binOp op t (.int k m) (.int k n)).run P w=.ok cv w/\∀j w,aD j w r cv:=by
 cases op<;>simp only [yB,Option.some.injEq] at hr<;>first|(subst hr)|(cases hr; done)
 ·exact⟨_,by simp [binOp,Op.intArith],fun _ _=>.int _ _⟩
 ·exact⟨_,by simp [binOp,Op.intArith],fun _ _=>.int _ _⟩
 ·exact⟨_,by simp [binOp,Op.intArith],fun _ _=>.int _ _⟩
 ·exact⟨.bool (decide (m=n)),by simp [binOp,Op.intCmp]; first|rfl|(by_cases e:m=n<;>simp [e]),fun _ _=>.bool _⟩
 ·exact⟨.bool (!decide (m=n)),by simp [binOp,Op.intCmp]; first|rfl|(by_cases e:m=n<;>simp [e]),fun _ _=>.bool _⟩
 ·exact⟨.bool (decide (m<n)),by simp [binOp,Op.intCmp],fun _ _=>.bool _⟩
 ·exact⟨.bool (decide (m<=n)),by simp [binOp,Op.intCmp],fun _ _=>.bool _⟩
 ·exact⟨.bool (decide (n<m)),by simp [binOp,Op.intCmp],fun _ _=>.bool _⟩
 ·exact⟨.bool (decide (n<=m)),by simp [binOp,Op.intCmp],fun _ _=>.bool _⟩
theorem an.yC {op:BinOp}{t u:TypeId}{x y:Operand}{k:IntKind}{m n:Int}{r:D}(hx:ev ts x=.a (.d (.int k m))) (l:ev ts y=.a (.d (.int k n))) (hr:yB op k m n=some r) :
  an P (mk dst (.binOp op t x y u) ty pos aI g) ts ls h {} (.a (.d r)) ls h :=
 an.dR fun j w jl a b=>by
  have h1:=b x (by simp [Op.operands]);have f:=b y (by simp [Op.operands]);rw [hx] at h1; rw [l] at f;obtain⟨cv,p,q⟩:=Oo (P:=P) (t:=t) hr w;exact⟨cv,by simp [execOp,jZ h1,jZ f,Dl,p],q j w⟩
theorem an.qn {t u:TypeId}{x y:Operand}{m n:Int}(hx:ev ts x=.a (.d (.int .i64 m))) (b:ev ts y=.a (.d (.int .i64 n))) (h1 : -9223372036854775808<=m+n) (f:m+n<=9223372036854775807) :
  an P (mk dst (.binOp .add t x y u) ty pos aI g) ts ls h {} (.a (.d (.int .i64 (m+n)))) ls h :=
 an.yC hx b (by simp only [yB,Option.some.injEq,D.int.injEq,true_and]; simp only [IntKind.wrap,IntKind.bits,IntKind.signed]; simp; omega)
theorem an.Oq {t u:TypeId}{x y:Operand}{m n:Int}(hx:ev ts x=.a (.d (.int .i64 m))) (b:ev ts y=.a (.d (.int .i64 n))) (h1 : -9223372036854775808<=m-n) (f:m-n<=9223372036854775807) :
  an P (mk dst (.binOp .sub t x y u) ty pos aI g) ts ls h {} (.a (.d (.int .i64 (m-n)))) ls h :=
 an.yC hx b (by simp only [yB,Option.some.injEq,D.int.injEq,true_and]; simp only [IntKind.wrap,IntKind.bits,IntKind.signed]; simp; omega)
def Dm (op:BinOp) (s t:List UInt8):Option D :=
 match op with
 | .eql=>some (.bool (s==t))
 | .neq=>some (.bool (!(s==t)))
 | .lss=>some (.bool (Op.bytesLess s t))
 | .leq=>some (.bool (Op.bytesLess s t||s==t))
 | .gtr=>some (.bool (!(Op.bytesLess s t||s==t)))
 | .geq=>some (.bool (!Op.bytesLess s t))
 | _=>none
theorem Ot {op:BinOp}{t:TypeId}{a b:List UInt8}{r:D}(hr:Dm op a b=some r) (w:World):∃cv,(binOp op t (.string ⟨a.toArray⟩) (.string ⟨b.toArray⟩)).run P w=.ok cv w/\∀j w,aD j w r cv:=by
 cases op<;>simp only [Dm,Option.some.injEq] at hr<;>first|(subst hr)|(cases hr; done)
 all_goals exact⟨_,by simp [binOp,Op.stringOp,ByteArray.toList_mk],fun _ _=>.bool _⟩
theorem an.Dn {op:BinOp}{t u:TypeId}{x y:Operand}{a b:List UInt8}{r:D}(hx:ev ts x=.a (.d (.str a))) (l:ev ts y=.a (.d (.str b))) (hr:Dm op a b=some r) :
  an P (mk dst (.binOp op t x y u) ty pos aI g) ts ls h {} (.a (.d r)) ls h :=
 an.dR fun j w jl act f=>by
  have h1:=f x (by simp [Op.operands]);have k:=f y (by simp [Op.operands]);rw [hx] at h1; rw [l] at k;obtain⟨cv,m,p⟩:=Ot (P:=P) (t:=t) hr w;exact⟨cv,by simp [execOp,(lK h1).1,(lK k).1,Hl,m],p j w⟩
theorem an.concat {t u:TypeId}{x y:Operand}{a b:List UInt8}(hx:ev ts x=.a (.d (.str a))) (m:ev ts y=.a (.d (.str b))) (hl:a.length+b.length<=fu) :
  an P (mk dst (.binOp .add t x y u) ty pos aI g) ts ls h {} (.a (.d (.str (a++b)))) ls h :=
 an.dR fun j w jl act f=>by
  have h1:=f x (by simp [Op.operands]);have k:=f y (by simp [Op.operands]);rw [hx] at h1; rw [m] at k;refine⟨.string ⟨(a++b).toArray⟩, ?_,aD.str _ (by simpa using hl)⟩;have bn:(⟨a.toArray⟩:ByteArray).size+(⟨b.toArray⟩:ByteArray).size<=9223372036854775807:=by
   show a.toArray.size+b.toArray.size<=_; simp only [List.size_toArray]; unfold fu at hl; omega
  have l:=run_string_add_sum (P:=P) w ⟨a.toArray⟩ ⟨b.toArray⟩ bn;have e:(⟨a.toArray⟩:ByteArray)++⟨b.toArray⟩=⟨(a++b).toArray⟩:=by
   apply ByteArray.ext; simp
  rw [e] at l;simp [execOp,(lK h1).1,(lK k).1,Hl,binOp,l]
theorem an.Ou {t u:TypeId}{l:TI}{x y:Operand}{a b:Bool}(q:aY P t=some l) (hk:l.k=.bool) (hx:ev ts x=.a (.d (.bool a))) (r:ev ts y=.a (.d (.bool b))) :
  an P (mk dst (.binOp .neq t x y u) ty pos aI g) ts ls h {} (.a (.d (.bool (!(a==b))))) ls h :=
 an.dR fun j w jl act m=>by
  have h1:=m x (by simp [Op.operands]);have f:=m y (by simp [Op.operands]);rw [hx] at h1; rw [r] at f;have hu:P.underlying t=some .bool:=by
   obtain⟨i,d,_,f,_,_,p,_⟩:=gh q;rw [hk] at p;cases d<;>simp [gb] at p;exact f
  exact⟨_,by simp [execOp,nK h1,nK f,On,run_neq_bool w t a b hu],aD.bool _⟩
theorem an.Ov {t:TypeId}{x:Operand}{b:Bool}(hx:ev ts x=.a (.d (.bool b))):an P (mk dst (.unOp .not t x) ty pos aI g) ts ls h {} (.a (.d (.bool (!b)))) ls h :=
 an.dR fun j w jl act f=>by
  have h1:=f x (by simp [Op.operands]);rw [hx] at h1;exact⟨_,by simp [execOp,nK h1,Op.unary],aD.bool _⟩
theorem an.Ow {t:TypeId}{x:Operand}{k:IntKind}{n:Int}(hx:ev ts x=.a (.d (.int k n))):an P (mk dst (.unOp .neg t x) ty pos aI g) ts ls h {} (.a (.d (.int k (k.wrap (0-n))))) ls h :=
 an.dR fun j w jl act b=>by
  have h1:=b x (by simp [Op.operands]);rw [hx] at h1;exact⟨_,by simp [execOp,jZ h1,Op.unary,Op.intArith],aD.int _ _⟩
theorem an.Ho {t e:TypeId}{f:TI}{x:Operand}{cq:Array TypeId}{k:Nat}{tok:Option Nat}{nl:Bool}{rows:List (List D)}(l:aY P t=some f) (hk:f.k=.slice e) (bQ:cq[0]?=some t)
  (hx:ev ts x=.a (.d (.slice k tok nl rows))):an P (mk dst (.call { callee:=.builtin .len,args:=#[x],argTypes:=cq }) ty pos aI g) ts ls h {} (.a (.d (.int .i64 (rows.length:Int)))) ls h :=
 an.dR fun j w jl act m=>by
  have h1:=m x (by simp [Op.operands,Call.operands]);rw [hx] at h1;obtain⟨b,cap,p,_⟩:=qm h1;exact⟨_,by simp [execOp,resolve,invoke,builtin,p,Builtin.len_,bQ,eU (kF l hk),goInt],aD.int _ _⟩
theorem vV {P:Program}{t:TypeId}{b:TI}(g:aY P t=some b) (hk:b.k=.str):P.underlying t=some .string:=by
 obtain⟨i,d,h1,j,_,_,f,_⟩:=gh g;rw [hk] at f;cases d<;>simp [gb] at f;exact j
theorem size_mk (s:List UInt8):(⟨s.toArray⟩:ByteArray).size=s.length:=by
 show s.toArray.size=s.length;simp
theorem an.AO {t:TypeId}{b:TI}{x:Operand}{cq:Array TypeId}{s:List UInt8}(f:aY P t=some b) (hk:b.k=.str) (bQ:cq[0]?=some t)
  (hx:ev ts x=.a (.d (.str s))):an P (mk dst (.call { callee:=.builtin .len,args:=#[x],argTypes:=cq }) ty pos aI g) ts ls h {} (.a (.d (.int .i64 (s.length:Int)))) ls h :=
 an.dR fun j w jl act l=>by
  have h1:=l x (by simp [Op.operands,Call.operands]);rw [hx] at h1;refine⟨_, ?_,aD.int _ _⟩;simp [execOp,resolve,invoke,builtin,(lK h1).1,Builtin.len_,bQ,eU (vV f hk),goInt,size_mk]
theorem an.Ox {t:TypeId}{f:TI}{x ix:Operand}{s:List UInt8}{l:IntKind}{n:Int}{c:UInt8}(q:aY P t=some f) (hk:f.k=.str) (hx:ev ts x=.a (.d (.str s))) (hi:ev ts ix=.a (.d (.int l n)))
  (h0:0<=n) (hc:s[n.toNat]?=some c):an P (mk dst (.index t x ix) ty pos aI g) ts ls h {} (.a (.d (.int .u8 (c.toNat:Int)))) ls h :=
 an.dR fun j w jl act m=>by
  have h1:=m x (by simp [Op.operands]);have p:=m ix (by simp [Op.operands]);rw [hx] at h1; rw [hi] at p;have bn:n.toNat<s.length:=(List.getElem?_eq_some_iff.1 hc).1;have b:=run_index_string (P:=P) w t ⟨s.toArray⟩ l n (vV q hk);rw [dif_pos ⟨h0,by rw [size_mk]; omega⟩] at b;refine⟨_, ?_,aD.int _ _⟩;have r:(⟨s.toArray⟩:ByteArray)[n.toNat]'(by rw [size_mk]; omega)=c:=by
   have:=(List.getElem?_eq_some_iff.1 hc).2;rw [<- this]; rfl
  rw [r] at b;simp [execOp,(lK h1).1,jZ p,b]
def cut (s:List UInt8) (l r:Nat):List UInt8:=(s.drop l).take (r-l)
theorem extract_mk (s:List UInt8) (l r:Nat):(⟨s.toArray⟩:ByteArray).extract l r=⟨(cut s l r).toArray⟩:=by
 apply ByteArray.ext
 apply Array.ext'
 simp [cut]
def YF (ts:Ts):Option Operand->Option Nat
 | none=>some 0
 | some x=>match ev ts x with
  | .a (.d (.int _ n))=>if 0<=n then some n.toNat else none
  | _=>none
theorem pg {ts:Ts}{j:J}{w:World}{jl:List Nat}{act:Act}{x:Operand}{k:IntKind}{n:Int}{cap:Nat}(hx:ev ts x=.a (.d (.int k n))) (b:br j w jl (ev ts x) (act.eval x)) (h0:0<=n) (h1:n<=(cap:Int)) (code:BoundsCode) :
  (Instr.sliceBound (act.eval x) cap code).run P w=.ok n.toNat w:=by
 rw [hx] at b;rw [jZ b];exact run_sliceBound w k n cap code h0 h1
theorem an.Oy {t:TypeId}{m:TI}{x lo hi:Operand}{s:List UInt8}{k k':IntKind}{l r:Int}(p:aY P t=some m) (hk:m.k=.str) (hx:ev ts x=.a (.d (.str s))) (hl:ev ts lo=.a (.d (.int k l))) (hh:ev ts hi=.a (.d (.int k' r)))
  (h0:0<=l) (h1:l<=r) (q:r<=(s.length:Int)):an P (mk dst (.slice t x (some lo) (some hi) none) ty pos aI g) ts ls h {} (.a (.d (.str (cut s l.toNat r.toNat)))) ls h :=
 an.dR fun j w jl act b=>by
  have f:=b x (by simp [Op.operands]);have u:=pg (P:=P) (cap:=r.toNat) hl (b lo (by simp [Op.operands])) h0 (by omega) .sliceB;have v:=pg (P:=P) (cap:=s.length) hh (b hi (by simp [Op.operands])) (by omega) q .sliceAlen;rw [hx] at f;refine⟨.string ⟨(cut s l.toNat r.toNat).toArray⟩, ?_,aD.str _ (by have:=(lK f).2; simp [cut]; omega)⟩;simp [execOp,(lK f).1,Instr.sliceAt,Instr.slice,Instr.sliceBounds,eU (vV p hk),size_mk,u,v]
  exact extract_mk _ _ _
theorem an.AF {t:TypeId}{f:TI}{x lo:Operand}{s:List UInt8}{k:IntKind}{l:Int}(p:aY P t=some f) (hk:f.k=.str) (hx:ev ts x=.a (.d (.str s))) (hl:ev ts lo=.a (.d (.int k l)))
  (h0:0<=l) (h1:l<=(s.length:Int)):an P (mk dst (.slice t x (some lo) none none) ty pos aI g) ts ls h {} (.a (.d (.str (s.drop l.toNat)))) ls h :=
 an.dR fun j w jl act m=>by
  have b:=m x (by simp [Op.operands]);have q:=pg (P:=P) (cap:=s.length) hl (m lo (by simp [Op.operands])) h0 h1 .sliceB;rw [hx] at b;refine⟨.string ⟨(s.drop l.toNat).toArray⟩, ?_,aD.str _ (by have:=(lK b).2; simp; omega)⟩;simp [execOp,(lK b).1,Instr.sliceAt,Instr.slice,Instr.sliceBounds,eU (vV p hk),size_mk,q];rw [extract_mk]; unfold cut; rw [List.take_of_length_le (by simp)]
theorem an.Da {t:TypeId}{f:TI}{x hi:Operand}{s:List UInt8}{k:IntKind}{r:Int}(m:aY P t=some f) (hk:f.k=.str) (hx:ev ts x=.a (.d (.str s))) (hh:ev ts hi=.a (.d (.int k r)))
  (h0:0<=r) (h1:r<=(s.length:Int)):an P (mk dst (.slice t x none (some hi) none) ty pos aI g) ts ls h {} (.a (.d (.str (s.take r.toNat)))) ls h :=
 an.dR fun j w jl act l=>by
  have b:=l x (by simp [Op.operands]);have p:=pg (P:=P) (cap:=s.length) hh (l hi (by simp [Op.operands])) h0 h1 .sliceAlen;rw [hx] at b;refine⟨.string ⟨(s.take r.toNat).toArray⟩, ?_,aD.str _ (by have:=(lK b).2; simp; omega)⟩;simp [execOp,(lK b).1,Instr.sliceAt,Instr.slice,Instr.sliceBounds,eU (vV m hk),size_mk,p];rw [extract_mk]; simp [cut]
theorem an.extract {x:Operand}{i:Nat}{xs:List A}{v:A}(hx:ev ts x=.cL xs) (hv:xs[i]?=some v):an P (mk dst (.extract x i) ty pos aI g) ts ls h {} (.a v) ls h :=
 an.dR fun j w jl act b=>by
  have h1:=b x (by simp [Op.operands]);rw [hx] at h1;obtain⟨cs,e,hr⟩:=h1;obtain⟨cv,f,k⟩:=hr.get hv;exact⟨cv,by simp [execOp,Instr.extract,e,f],k⟩
theorem an.Hp {x:Operand}{i off:Nat}(hx:ev ts x=.cW i off):an P (mk dst (.nilCheck x) ty pos aI g) ts ls h {} (.cW i off) ls h :=
 an.dR fun j w jl act f=>by
  have h1:=f x (by simp [Op.operands]);rw [hx] at h1;obtain⟨b,k,e⟩:=AM h1;exact⟨_,by simp [execOp,e],b,k,rfl⟩
theorem an.iS {x:Operand}{id off:Nat}(hx:ev ts x=.a (.d (.ptr id off))):an P (mk dst (.nilCheck x) ty pos aI g) ts ls h {} (.a (.d (.ptr id off))) ls h :=
 an.dR fun j w jl act b=>by
  have h1:=b x (by simp [Op.operands]);rw [hx] at h1;obtain⟨e,hi⟩:=AN h1;exact⟨_,by simp [execOp,e],aD.ptr _ _ hi⟩
def Hq (ts:Ts) (x:Operand):Option D:=match ev ts x with
 | .a (.d y)=>some y
 | _=>none
def uC (ts:Ts):List Operand->Option (List D)
 | []=>some []
 | x::r=>match Hq ts x,uC ts r with
  | some y,some b=>some (y::b)
  | _,_=>none
theorem AP {j:J}{w:World}{jl:List Nat}{act:Act}:∀(l:List Operand) (xs:List D),uC ts l=some xs->(∀x,x∈l->br j w jl (ev ts x) (act.eval x))->aW (aD j w) xs (l.map act.eval)
 | [],xs,h,_=>by simp [uC] at h; subst h; exact .nil
 | x::r,xs,h,b=>by
  simp only [uC] at h
  split at h
  ·rename_i y f h1 g
   simp at h; subst h;refine .cons ?_ (AP r f g fun z hz=>b z (by simp [hz]));have:=b x (by simp);unfold Hq at h1
   split at h1
   ·rename_i z hz; simp at h1; subst h1; rw [hz] at this; exact this
   ·simp at h1
  ·simp at h
theorem an.makeFunc {f:FuncId}{cB:Array Operand}{xs:List D}(hx:uC ts cB.toList=some xs):an P (mk dst (.makeFunc (.func f) #[] cB) ty pos aI g) ts ls h {} (.a (.d (.func f xs))) ls h :=
 an.dR fun j w jl act k=>by
  have h1:=AP (j:=j) (w:=w) (jl:=jl) (act:=act) cB.toList xs hx fun x hx=>k x (by simp [Op.operands] at hx ⊢; exact hx);refine⟨.func (.func f) #[] (cB.toList.map act.eval).toArray, ?_,aD.func f xs _ h1.length fun i hi l=>?_⟩
  ·simp [execOp,Instr.makeFunc]
   apply Array.ext'; simp
  ·obtain⟨y,b,hr⟩:=h1.get (List.getElem?_eq_getElem hi);rw [List.getElem?_eq_getElem l] at b;simp only [Option.some.injEq] at b;rw [b]; exact hr
end
end Go.Ab
/-
 Structs and slices that are built,variables,objects,calls.
-/
namespace Go.Ab
open Go Go.RowKit
variable {au:bS}
inductive fw {α:Type}(x:α):List α->Nat->List α->Prop where
 | nil:fw x [] 0 [x]
 | cons {a:α}{l l':List α}{n:Nat}(h:fw x l n l'):fw x (a::l) (n+1) (a::l')
theorem fw.spec {α:Type}{x:α}{l l':List α}{n:Nat}(h:fw x l n l'):n=l.length/\l'=l++[x]:=by
 induction h with
 | nil=>exact⟨rfl,rfl⟩
 | cons _ b=>exact⟨by simp [b.1],by simp [b.2]⟩
inductive bE {α:Type}(x:α):List α->Nat->List α->Prop where
 | zero {a:α}{l:List α}:bE x (a::l) 0 (x::l)
 | succ {a:α}{l l':List α}{n:Nat}(h:bE x l n l'):bE x (a::l) (n+1) (a::l')
theorem bE.spec {α:Type}{x:α}{l l':List α}{n:Nat}(h:bE x l n l'):n<l.length/\l'=l.set n x:=by
 induction h with
 | zero=>exact⟨by simp,rfl⟩
 | succ _ b=>exact⟨by simp [b.1],by simp [b.2]⟩
theorem an.of_run {P:Program}{o:Oper}{ts:Ts}{ls aS:List (List D)}{h h':af}{fx:Fx}{v:V}
  (k:∀L H,((fx.rl||fx.wl)=true->L=ls)->((fx.rh||fx.wh)=true->H=h)->∀(j:J) (w:World) (jl:List Nat) (a:Act),HL j w jl L H->(∀x,x∈o.op.operands->br j w jl (ev ts x) (a.eval x)) ->
   ∃r w' cv j' b,(execOp a.eval o).run P w=.ok r w'/\(r=.value cv\/(r=.skip/\cv=undef))/\br j' w' b v cv/\HL j' w' b (bif fx.wl then aS else L) (bif fx.wh then h' else H)/\Ext jl b /\
    bN j w (aV j H jl) j' w' (aV j' (bif fx.wh then h' else H) b)):an P o ts ls h fx v aS h':=by
 intro L H l hH j w jl a hl m K Q hk;obtain⟨r,w',cv,j',b,p,hr,hv,f,hx,g⟩:=k L H l hH j w jl a hl m;unfold Oper.wp;rw [p];rcases hr with hr|⟨hr,hu⟩
 ·subst hr; rw [Oper.upon_value]; exact hk v _ _ cv j' w' b ⟨rfl,rfl,rfl⟩ hv f hx g
 ·subst hr; subst hu; rw [Oper.upon_skip]; exact hk v _ _ undef j' w' b ⟨rfl,rfl,rfl⟩ hv f hx g
theorem Ext.snoc (jl:List Nat) (b:Nat):Ext jl (jl++[b]):=fun i x hx=>by
 rw [List.getElem?_append_left (List.getElem?_eq_some_iff.1 hx).1]; exact hx
section
variable {P:Program}{ts:Ts}{ls:List (List D)}{h:af}{dst:Option Tmp}{ty:TypeId}{pos:String}{aI:Array Edge}{g:Option (Nat×Bool)}
theorem an.Hr {o:Oper}{e:TypeId}{x:A}{i:Nat}{aS:List (List D)}(f:fw (cw x) ls i aS)
  (g:∀(j:J) (w:World) (jl:List Nat) (a:Act),(∀x,x∈o.op.operands->br j w jl (ev ts x) (a.eval x))->∃v,di j w x v/\(execOp a.eval o).run P w=.ok (.value (.pointer (some ⟨w.heap.size,0,none⟩))) (w.alloc (.cells v.cells e))) :
  an P o ts ls h { wl:=true } (.cW i 0) aS h:=by
 refine an.of_run fun L H k _ j w jl a hl l=>?_;obtain⟨m,p⟩:=f.spec;have q:=k rfl;subst q;obtain⟨v,hv,hr⟩:=g j w jl a l;obtain⟨h1,b⟩:=hl.loc v.cells.toList e (cw x) hv.cells;rw [Array.toArray_toList] at h1 b;refine⟨_,_,.pointer (some ⟨w.heap.size,0,none⟩),j,jl++[w.heap.size],hr,.inl rfl,⟨w.heap.size, ?_,rfl⟩, ?_,Ext.snoc _ _,b⟩
 ·rw [m,hl.2.each.length]; simp
 ·rw [p]; exact h1
theorem an.Oz {e:TypeId}{b:TI}{z:A}{i:Nat}{aS:List (List D)}(k:aY P e=some b) (hz:b.zero=some z) (l:fw (cw z) ls i aS) :
  an P (mk dst (.alloc e) ty pos aI g) ts ls h { wl:=true } (.cW i 0) aS h:=by
 obtain⟨inf,d,h1,_,_,_,_,f⟩:=gh k;rw [hz] at f;obtain⟨v,m,p⟩:=nH f;refine an.Hr (e:=e) l fun j w jl a _=>⟨v,p j w, ?_⟩;simp [execOp,Instr.alloc,zeroValue,typeInfo,h1,m,newVar,newRow]
theorem an.OA {e:TypeId}{x:Operand}{y:A}{i:Nat}{aS:List (List D)}(hx:ev ts x=.a y) (b:fw (cw y) ls i aS) :
  an P (mk dst (.box e x) ty pos aI g) ts ls h { wl:=true } (.cW i 0) aS h :=
 an.Hr (e:=e) b fun j w jl a f=>by
  have h1:=f x (by simp [Op.operands]);rw [hx] at h1;exact⟨a.eval x,h1,by simp [execOp,Instr.box,newVar,newRow]⟩
theorem an.Dp {t:TypeId}{f:TI}{x y:Operand}{i off:Nat}{xs:List D}{v:A}{aS:List (List D)}(r:aY P t=some f) (hx:ev ts x=.cW i off) (s:ev ts y=.a v) (hl:ls[i]?=some xs)
  (u:(cw v).length=f.size) (hle:off+f.size<=xs.length) (z:bE (cK xs off (cw v)) ls i aS) (M:dst=none):an P (mk dst (.store t x y) ty pos aI g) ts ls h { wl:=true } .any aS h:=by
 refine an.of_run fun L H B _ j w jl a hh m=>?_;have C:=B rfl;subst C;have h1:=m x (by simp [Op.operands]);have k:=m y (by simp [Op.operands]);rw [hx] at h1; rw [s] at k;obtain⟨b,p,e⟩:=AM h1;obtain⟨b',l,cs,N,hg,q,E⟩:=hh.2.each.get hl;rw [p] at l; simp only [Option.some.injEq] at l; subst l;obtain⟨w',F,G⟩:=Dg (au:=au) (P:=P) hg r k u (by rw [<- q.length]; exact hle)
 obtain⟨I,J⟩:=hh.NZ p E G (q.cK off k.cells);obtain⟨_,K⟩:=z.spec;refine⟨.skip,w',undef,j,jl, ?_,.inr ⟨rfl,rfl⟩,trivial, ?_,Ext.refl _,J⟩
 ·simp [execOp,Instr.storeAt,Instr.sureAddr,e,F]
 ·rw [K]; exact I
theorem Dq {α:Type}:∀(pre l r:List α),l.length=r.length->cK (pre++l) pre.length r=pre++r
 | pre,[],[],_=>by simp [cK]
 | pre,a::l,b::r,h=>by
  have:=Dq (pre++[b]) l r (by simpa using h);simp only [cK];rw [show (pre++a::l).set pre.length b=(pre++[b])++l by simp [List.set_append]];rw [show pre.length+1=(pre++[b]).length by simp];rw [this]; simp
 | _,[],_::_,h=>by simp at h
 | _,_::_,[],h=>by simp at h
theorem an.OB {t:TypeId}{f:TI}{x y:Operand}{i:Nat}{xs b:List D}{aS:List (List D)}(j:aY P t=some f) (hx:ev ts x=.cW i 0) (k:ev ts y=.a (.agg b)) (hl:ls[i]?=some xs)
  (l:b.length=f.size) (hle:xs.length=f.size) (m:bE b ls i aS):an P (mk none (.store t x y) ty pos aI g) ts ls h { wl:=true } .any aS h :=
 an.Dp j hx k hl l (by omega) (by
  have:=Dq [] xs b (by omega);simp only [List.nil_append,List.length_nil] at this;rw [show cw (.agg b)=b from rfl,this]; exact m) rfl
theorem an.mr {t:TypeId}{b:TI}{x y:Operand}{i off:Nat}{xs xs':List D}{v:D}{aS:List (List D)}(f:aY P t=some b) (hx:ev ts x=.cW i off) (j:ev ts y=.a (.d v)) (hl:ls[i]?=some xs)
  (k:b.size=1) (hv:bE v xs off xs') (l:bE xs' ls i aS):an P (mk none (.store t x y) ty pos aI g) ts ls h { wl:=true } .any aS h:=by
 obtain⟨h1,m⟩:=hv.spec;refine an.Dp f hx j hl (by rw [k]; rfl) (by omega) ?_ rfl;rw [show cK xs off (cw (.d v))=xs' by rw [m]; rfl]; exact l
theorem an.Hs {t:TypeId}{b:TI}{x y:Operand}{i off:Nat}{xs xs':List D}{v:A}{aS:List (List D)}(f:aY P t=some b) (hx:ev ts x=.cW i off) (j:ev ts y=.a v) (hl:ls[i]?=some xs)
  (k:(cw v).length=b.size) (hle:off+b.size<=xs.length) (hv:cK xs off (cw v)=xs') (l:bE xs' ls i aS):an P (mk none (.store t x y) ty pos aI g) ts ls h { wl:=true } .any aS h :=
 an.Dp f hx j hl k hle (by rw [hv]; exact l) rfl
theorem an.uD {t:TypeId}{b:TI}{x y:Operand}{id off:Nat}{xs f:List D}{v:A}(r:aY P t=some b) (hx:ev ts x=.a (.d (.ptr id off))) (s:ev ts y=.a v) (hl:h id=some (.cells xs))
  (u:(cw v).length=b.size) (hle:off+b.size<=xs.length) (z:cK xs off (cw v)=f) (J:dst=none) :
  an P (mk dst (.store t x y) ty pos aI g) ts ls h { wh:=true } .any ls (h.set id (some (.cells f))):=by
 refine an.of_run fun L H _ hH j w jl a hh p=>?_;have B:=hH rfl;subst B;have h1:=p x (by simp [Op.operands]);have k:=p y (by simp [Op.operands]);rw [hx] at h1; rw [s] at k;obtain⟨e,hid⟩:=AN h1;obtain⟨cs,C,hg,q,l⟩:=(hh.1.obj id _ hl).2;obtain⟨w',E,m⟩:=Dg (au:=au) (P:=P) hg r k u (by rw [<- q.length]; exact hle);have F:=m.le (j:=j) l;obtain⟨G,I⟩:=hh.setObj (o':=.cells f) hl rfl rfl l m ⟨_,C,m.here,by rw [<- z]; exact(q.cK off k.cells).imp fun _ _ h=>h.mono F,l⟩
 refine⟨.skip,w',undef,j,jl, ?_,.inr ⟨rfl,rfl⟩,trivial,G,Ext.refl _,I⟩;simp [execOp,Instr.storeAt,Instr.sureAddr,e,E]
theorem an.gw {t:TypeId}{b:TI}{x y:Operand}{id off:Nat}{xs xs':List D}{v:D}(f:aY P t=some b) (hx:ev ts x=.a (.d (.ptr id off))) (j:ev ts y=.a (.d v)) (hl:h id=some (.cells xs))
  (k:b.size=1) (hv:bE v xs off xs'):an P (mk none (.store t x y) ty pos aI g) ts ls h { wh:=true } .any ls (h.set id (some (.cells xs'))):=by
 obtain⟨h1,l⟩:=hv.spec;exact an.uD f hx j hl (by rw [k]; rfl) (by omega) (by rw [l]; rfl) rfl
theorem Ht {o:Oper}{e:TypeId}{x:A}(b:∀(j:J) (w:World) (jl:List Nat) (a:Act),(∀x,x∈o.op.operands->br j w jl (ev ts x) (a.eval x))->∃v,di j w x v/\(execOp a.eval o).run P w=.ok (.value (.pointer (some ⟨w.heap.size,0,none⟩))) (w.alloc (.cells v.cells e))) :
  dm P o ts ls h fun v aS h'=>∃id,h id=none/\v=.a (.d (.ptr id 0))/\aS=ls/\h'=h.set id (some (.cells (cw x))):=by
 intro j w jl a hl f K Q hk;obtain⟨v,hv,hr⟩:=b j w jl a f;have hle:Le j w (j.obj w.heap.size) (w.alloc (.cells v.cells e)) :=
  ((hl.data (.cells v.cells e) 0).2.toLe.trans (by
   rw [J.yt (hl.1.fresh _ (Nat.le_refl _))];exact⟨by simp [J.obj],fun id hi=>by simp only [J.obj]; rw [if_neg (by omega)],fun _=>Nat.le_refl _,fun _ _ _=>rfl,fun _ _=>.inl rfl,fun _ _ _ _ _ h=>h⟩))
 obtain⟨h1,g⟩:=hl.obj (.cells v.cells e) (.cells (cw x)) rfl ⟨v.cells.toList,e,by
  simp only [J.obj,if_true]; rw [Array.toArray_toList]; exact heap_alloc_new w _,hv.cells.imp fun _ _ h=>h.mono hle,by
   simp only [J.obj,if_true]; exact hl.1.fresh _ (Nat.le_refl _)⟩
 unfold Oper.wp;rw [hr,Oper.upon_value];refine hk _ _ _ _ (j.obj w.heap.size) _ jl ⟨j.next,hl.1.mm (Nat.le_refl _),rfl,rfl,rfl⟩ ?_ h1 (Ext.refl _) g;have:=aD.ptr (j:=j.obj w.heap.size) (w:=w.alloc (.cells v.cells e)) j.next 0 (by simp [J.obj])
 simpa [J.obj,br,di] using this
theorem dm.AR {e:TypeId}{b:TI}{z:A}(k:aY P e=some b) (hz:b.zero=some z) :
  dm P (mk dst (.alloc e) ty pos aI g) ts ls h fun v aS h'=>∃id,h id=none/\v=.a (.d (.ptr id 0))/\aS=ls/\h'=h.set id (some (.cells (cw z))):=by
 obtain⟨inf,d,h1,_,_,_,_,f⟩:=gh k;rw [hz] at f;obtain⟨v,l,m⟩:=nH f;refine Ht (e:=e) fun j w jl a _=>⟨v,m j w, ?_⟩;simp [execOp,Instr.alloc,zeroValue,typeInfo,h1,l,newVar,newRow]
theorem dm.yD {e:TypeId}{x:Operand}{y:A}(hx:ev ts x=.a y) :
  dm P (mk dst (.box e x) ty pos aI g) ts ls h fun v aS h'=>∃id,h id=none/\v=.a (.d (.ptr id 0))/\aS=ls/\h'=h.set id (some (.cells (cw y))) :=
 Ht (e:=e) fun j w jl a b=>by
  have h1:=b x (by simp [Op.operands]);rw [hx] at h1;exact⟨a.eval x,h1,by simp [execOp,Instr.box,newVar,newRow]⟩
def AS (ts:Ts) (x:Operand):Option A:=match ev ts x with
 | .a y=>some y
 | _=>none
def jh (ts:Ts):List Operand->Option (List A)
 | []=>some []
 | x::r=>match AS ts x,jh ts r with
  | some y,some b=>some (y::b)
  | _,_=>none
theorem Dr {j:J}{w:World}{jl:List Nat}{act:Act}:∀(l:List Operand) (xs:List A),jh ts l=some xs->(∀x,x∈l->br j w jl (ev ts x) (act.eval x))->aW (di j w) xs (l.map act.eval)
 | [],xs,h,_=>by simp [jh] at h; subst h; exact .nil
 | x::r,xs,h,b=>by
  simp only [jh] at h
  split at h
  ·rename_i y f h1 g
   simp at h; subst h;refine .cons ?_ (Dr r f g fun z hz=>b z (by simp [hz]));have:=b x (by simp);unfold AS at h1
   split at h1
   ·rename_i z hz; simp at h1; subst h1; rw [hz] at this; exact this
   ·simp at h1
  ·simp at h
theorem yE {f:Operand}{args:Array Operand}{cq:Array TypeId}{eb:FuncId}{cB:List D}{xs:List A}{cZ:V->af->Prop}{L:List (List D)}{H:af}(s:ev ts f=.a (.d (.func eb cB))) (t:jh ts args.toList=some xs)
  (hc:AC P eb (xs++cB.map .d) H cZ) :
  dm P (mk dst (.call { callee:=.value f,args:=args,argTypes:=cq }) ty pos aI g) ts L H fun v aS h'=>cZ v h'/\aS=L:=by
 intro j w jl a hl k K Q hk;have h1:=k f (by simp [Op.operands,Call.operands]);rw [s] at h1;have u:=Dr (j:=j) (w:=w) (jl:=jl) (act:=a) args.toList xs t fun x hx=>k x (by simp [Op.operands,Call.operands]; right; simpa using hx);have p:aD j w (.func eb cB) (a.eval f):=h1;generalize B:a.eval f=U at p;cases p with
 | func _ _ mi hlen hr =>
  have C:aW (di j w) (xs++cB.map .d) (args.toList.map a.eval++mi):=by
   refine u.append (aW.jV (by simp [hlen]) fun i x y hx E=>?_);rw [List.getElem?_map] at hx;cases e:cB[i]? with
   | none=>rw [e] at hx; simp at hx
   | some z =>
    rw [e] at hx; simp at hx; subst hx;obtain⟨hi,G⟩:=List.getElem?_eq_some_iff.1 e;obtain⟨I,J⟩:=List.getElem?_eq_some_iff.1 E;have:=hr i hi I;rw [G,J] at this; exact this
  have M:=hc.runs j w _ hl.1 C;have N:(execOp a.eval (mk dst (.call { callee:=.value f,args:=args,argTypes:=cq }) ty pos aI g)).run P w=.ok (.enter eb (args.toList.map a.eval++mi).toArray) w:=by
   have he:=hc.enter (args.toList.map a.eval++mi).toArray w;have O:Array.map a.eval args++mi.toArray=(args.toList.map a.eval++mi).toArray:=by apply Array.ext'; simp
   simp only [execOp,resolve,B,Deferred.ofValue,Sem.run_bind,Sem.run_pure,Result.andThen,invoke,List.append_eq,Array.empty_append];rw [O]; exact he
  unfold Oper.wp;rw [N,Oper.upon_enter];refine M.mono ?_;rintro e w' ⟨r,cv,j',h',rfl,R,hv,hh,m⟩;have q:∀b,b∈jl->b<w.heap.size:=fun b l=>aV.lt hl (.inl l);have S:∀b,b∈jl->w'.heap[b]?=w.heap[b]?/\j'.F b=j.F b:=fun b l=>m.frame b (q b l) (hl.2.apart b l);refine hk r L h' cv j' w' jl ⟨R,rfl⟩ (hv.mono (Le.refl _ _) (fun i b l=>by simp at l)) ⟨hh,⟨qh hl.2.each fun xs b l h=>h.keep m.toLe (S b l),hl.2.nodup,fun b l k=>hl.2.apart b l (m.own b (q b l) k)⟩⟩ (Ext.refl _) ?_
  refine { m with frame:=fun b l hn=>m.frame b l (fun k=>hn ?_),own:=fun b l k=>?_ }
  ·rcases k with k|k
   ·simp at k
   ·exact .inr k
  ·rcases k with k|k
   ·exact .inl k
   ·rcases m.own b l (.inr k) with h|h
    ·simp at h
    ·exact .inr h
theorem dm.call {f:Operand}{args:Array Operand}{cq:Array TypeId}{eb:FuncId}{cB:List D}{xs:List A}{cZ:V->af->Prop}(b:ev ts f=.a (.d (.func eb cB))) (j:jh ts args.toList=some xs)
  (hc:AC P eb (xs++cB.map .d) h cZ) :
  dm P (mk dst (.call { callee:=.value f,args:=args,argTypes:=cq }) ty pos aI g) ts ls h fun v aS h'=>cZ v h'/\aS=ls:=yE b j hc
theorem an.j6 {f:Operand}{args:Array Operand}{cq:Array TypeId}{eb:FuncId}{cB:List D}{xs:List A}{v:V}(b:ev ts f=.a (.d (.func eb cB))) (j:jh ts args.toList=some xs)
  (hc:∀H,AC P eb (xs++cB.map .d) H fun r h'=>r=v/\h'=H) :
  an P (mk dst (.call { callee:=.value f,args:=args,argTypes:=cq }) ty pos aI g) ts ls h {} v ls h:=by
 intro L H _ _;exact(yE b j (hc H)).mono fun _ _ _ ⟨⟨k,l⟩,m⟩=>⟨k,m,l⟩
theorem an.bV {f:Operand}{args:Array Operand}{cq:Array TypeId}{eb:FuncId}{cB:List D}{xs:List A}{v:V}{h1:af}(b:ev ts f=.a (.d (.func eb cB))) (j:jh ts args.toList=some xs)
  (hc:AC P eb (xs++cB.map .d) h fun r h'=>r=v/\h'=h1) :
  an P (mk dst (.call { callee:=.value f,args:=args,argTypes:=cq }) ty pos aI g) ts ls h { rh:=true,wh:=true } v ls h1:=by
 intro L H _ hH;have e:=hH rfl;subst e;exact(yE b j hc).mono fun _ _ _ ⟨⟨k,l⟩,m⟩=>⟨k,m,l⟩
theorem an.eE {f:Operand}{args:Array Operand}{cq:Array TypeId}{eb:FuncId}{cB:List D}{xs:List A}{v:V}(b:ev ts f=.a (.d (.func eb cB))) (j:jh ts args.toList=some xs)
  (hc:AC P eb (xs++cB.map .d) h fun r h'=>r=v/\h'=h) :
  an P (mk dst (.call { callee:=.value f,args:=args,argTypes:=cq }) ty pos aI g) ts ls h { rh:=true } v ls h:=by
 intro L H _ hH;have e:=hH rfl;subst e;exact(yE b j hc).mono fun _ _ _ ⟨⟨k,l⟩,m⟩=>⟨k,m,l⟩
end
end Go.Ab
/-
 append.
-/
namespace Go.Ab
open Go Go.RowKit
variable {au:bS}
theorem vW {j:J}{w:World}{k:Nat}{tok:Option Nat}{rows:List (List D)}{b o cap:Nat}(hk:∀r∈rows,r.length=k) (hn:rows.length<=cA) (hc:rows.length<=cap)
  (g:∀i x,rows.flatten[i]?=some x->o+i<j.F b/\∃v,w.cell? ⟨b,o+i,none⟩=some v/\aD j w x v) (ht:vL j tok rows.length ⟨b,o,none⟩ cap) (l:∀i v,i<rows.flatten.length->w.cell? ⟨b,o+i,none⟩=some v->Uz w b (o+i) v) :
  aD j w (.slice k tok false rows) (.slice (some ⟨b,o,none⟩) rows.length cap):=by
 refine aD.slice k tok rows ⟨b,o,none⟩ cap (fun i=>(w.cell? ⟨b,o+i,none⟩).getD undef) hk hn hc ⟨.inr rfl,fun i hi=>?_⟩ (fun i hi=>?_) ht
 ·obtain⟨h1,v,f,_⟩:=g i _ (List.getElem?_eq_getElem hi);exact⟨h1,by show w.cell? _=some ((w.cell? ⟨b,o+i,none⟩).getD undef); rw [f]; rfl,l i _ hi (by show _=some ((w.cell? ⟨b,o+i,none⟩).getD undef); rw [f]; rfl)⟩
 ·obtain⟨h1,v,f,m⟩:=g i _ (List.getElem?_eq_getElem hi);rw [f]; exact m
theorem yF {α:Type}:∀(l:List α) (n:Nat) (r:List α) (i:Nat),i<n->(cK l n r)[i]?=l[i]?
 | _,_,[],_,_=>rfl
 | l,n,v::r,i,h=>by
  rw [cK,yF (l.set n v) (n+1) r i (by omega),List.getElem?_set_ne (by omega)]
theorem AT {α:Type}:∀(l:List α) (n:Nat) (r:List α) (i:Nat) (x:α),r[i]?=some x->n+r.length<=l.length->(cK l n r)[n+i]?=some x
 | _,_,[],_,_,h,_=>by simp at h
 | l,n,v::r,i,x,h,hl=>by
  simp only [List.length_cons] at hl;cases i with
  | zero =>
   simp at h; subst h;rw [cK,Nat.add_zero,yF _ _ _ _ (by omega),List.getElem?_set];simp; omega
  | succ i =>
   rw [cK,show n+(i+1)=n+1+i by omega];exact AT (l.set n v) (n+1) r i x (by simpa using h) (by simp; omega)
section
variable {P:Program}{t u ty e:TypeId}{i:TypeInfo}{z:Value}{du:TypeDesc}
theorem Ds (ht:P.underlying t=some (.slice e)) (hu:P.underlying u=some du) (b:∀k,du≠.int k) (hi:P.info? e=some i) (hz:i.zero=some z){w:World}{base:Option Addr}{sLen sCap m:Nat}{x:Value}{olds news:List Value}
  (hlen:(Builtin.lenOf x).run P w=.ok m w) (f:(Builtin.firstCells i.size sLen (.slice base sLen sCap)).run P w.drew=.ok olds.toArray w.drew) (g:(Builtin.firstCells i.size m x).run P w.drew=.ok news.toArray w.drew)
  (hg:sCap<sLen+m) (q:sLen+m<=9223372036854775807) (r:Builtin.nextslicecap (sLen+m) sCap*i.bytes<=281474976710656) :
  (Builtin.append_ #[t,u] ty #[.slice base sLen sCap,x]).run P w=.ok (.slice (some ⟨w.heap.size,0,none⟩) (sLen+m) (grownCap w (sLen+m) sCap e))
   (w.drew.alloc (.cells (olds++news++(Builtin.zeroCells z.cells (grownCap w (sLen+m) sCap e-(sLen+m))).toList).toArray e)):=by
 have hn:¬(sLen+m<=sCap):=by omega
 have j:¬(9223372036854775807<((sLen:Int)+(m:Int))):=by omega
 have l:¬(281474976710656<Builtin.nextslicecap (sLen+m) sCap*i.bytes):=by omega
 have p:(match du with|.int _=>true|_=>false)=false:=by cases du<;>first|rfl|exact absurd rfl (b _)
 simp [Builtin.append_,run_underlying ht,run_underlying hu,sizeOf,typeInfo,zeroValue,hi,hz,p,hlen,hn,j,l,Question.forced,f,g,newRow,grownCap]
 congr 2
 apply Array.ext'
 simp [List.append_assoc]
theorem yG (ht:P.underlying t=some (.slice e)) (hu:P.underlying u=some du) (b:∀k,du≠.int k) (hi:P.info? e=some i){w w':World}{a:Addr}{sLen sCap m:Nat}{x:Value}{news:List Value}
  (hlen:(Builtin.lenOf x).run P w=.ok m w) (f:(Builtin.firstCells i.size m x).run P w=.ok news.toArray w) (hg:sLen+m<=sCap) (g:(storeCells (a.add (sLen*i.size)) news).run P w=.ok () w') :
  (Builtin.append_ #[t,u] ty #[.slice (some a) sLen sCap,x]).run P w=.ok (.slice (some a) (sLen+m) sCap) w':=by
 have j:(match du with|.int _=>true|_=>false)=false:=by cases du<;>first|rfl|exact absurd rfl (b _)
 simp [Builtin.append_,run_underlying ht,run_underlying hu,sizeOf,typeInfo,hi,j,hlen,hg,f,g]
theorem Hu (ht:P.underlying t=some (.slice e)) (hu:P.underlying u=some du) (b:∀k,du≠.int k) (hi:P.info? e=some i){w:World}{x:Value}
  (hlen:(Builtin.lenOf x).run P w=.ok 0 w) (f:(Builtin.firstCells i.size 0 x).run P w=.ok #[] w) :
  (Builtin.append_ #[t,u] ty #[.slice none 0 0,x]).run P w=.ok (.slice none 0 0) w:=by
 have g:(match du with|.int _=>true|_=>false)=false:=by cases du<;>first|rfl|exact absurd rfl (b _)
 simp [Builtin.append_,run_underlying ht,run_underlying hu,sizeOf,typeInfo,hi,g,hlen,f]
end
theorem Dt {P:Program}{j:J}{w:World}{k:Nat}{tok:Option Nat}{nl:Bool}{rows:List (List D)}{cv:Value}{size:Nat}(h:aD j w (.slice k tok nl rows) cv) (hk:∀r∈rows,r.length=size) :
  ∃cs:List Value,aW (aD j w) rows.flatten cs/\∀w',(∀b o,o<j.F b->w'.cell? ⟨b,o,none⟩=w.cell? ⟨b,o,none⟩)->(Builtin.firstCells size rows.length cv).run P w'=.ok cs.toArray w':=by
 cases h with
 | gD _ _ ht=>exact⟨[],.nil,fun w' _=>by simp [Builtin.firstCells]⟩
 | slice _ _ _ a cap f y hn hc bQ hr ht =>
  by_cases l:rows=[]
  ·subst l;exact⟨[],.nil,fun w' _=>by simp [Builtin.firstCells,loadCells,loadCellsFrom]⟩
  have m:a=⟨a.block,a.off,none⟩:=by have:=bQ.1.resolve_left l; cases a; simp at this; simp [this]
  have p:=(iu hk).1;obtain⟨cs,h1,q⟩:=Df (P:=P) (j:=j) (w:=w) (b:=a.block) (o:=a.off) rows.flatten fun i x hx=>by
   have hi:=(List.getElem?_eq_some_iff.1 hx).1;refine⟨f i,(bQ.2 i hi).2.1, ?_⟩;have:=hr i hi;rw [(List.getElem?_eq_some_iff.1 hx).2] at this; exact this
  refine⟨cs,h1,fun w' hw=>?_⟩;have s:∀n v,cs[n]?=some v->w.cell? ⟨a.block,a.off+n,none⟩=some v:=by
   intro n v hv;obtain⟨x,hx,_⟩:=h1.get' hv;have hi:=(List.getElem?_eq_some_iff.1 hx).1;have t:=(bQ.2 n hi).2.1;have g:(loadCells ⟨a.block,a.off,none⟩ rows.flatten.length).run P w=.ok ((List.range rows.flatten.length).map f).toArray w :=
    run_loadCells w _ _ f fun i hi=>by rw [add_plain]; exact(bQ.2 i hi).2.1
   rw [q] at g;simp only [Result.ok.injEq,and_true] at g;have u:cs=(List.range rows.flatten.length).map f:=by
    have:=congrArg Array.toList g; simpa using this
   rw [u,List.getElem?_map,List.getElem?_range hi] at hv;simp at hv;rw [t,hv]
  rw [Builtin.firstCells,<- p,h1.length];rw [m];exact run_loadCells_list w' _ cs fun n v hv=>by
   rw [add_plain];obtain⟨x,hx,_⟩:=h1.get' hv;have hi:=(List.getElem?_eq_some_iff.1 hx).1;rw [hw _ _ (bQ.2 n hi).1];exact s n v hv
theorem Hv {j:J}{w:World}{k:Nat}{tok:Option Nat}{nl:Bool}{rows:List (List D)}{cv:Value}(h:aD j w (.slice k tok nl rows) cv) (P:Program) (w':World):(Builtin.lenOf cv).run P w'=.ok rows.length w':=by
 cases h<;>simp [Builtin.lenOf]
theorem Hw {R:Nat->D->Prop}{rows bg:List (List D)}{n:Nat}(hn:rows.flatten.length=n) (h1:∀i x,rows.flatten[i]?=some x->R i x) (b:∀i x,bg.flatten[i]?=some x->R (n+i) x) :
  ∀i x,(rows++bg).flatten[i]?=some x->R i x:=by
 intro i x hx;rw [List.flatten_append,List.getElem?_append] at hx
 split at hx
 ·exact h1 i x hx
 ·rename_i h
  have:=b _ x hx
  rwa [show n+(i-rows.flatten.length)=i by omega] at this
section
variable {P:Program}{ts:Ts}{ls:List (List D)}{h:af}{dst:Option Tmp}{ty:TypeId}{pos:String}{aI:Array Edge}{g:Option (Nat×Bool)}
theorem Hx {P:Program}{t:TypeId}{b:TI}(g:aY P t=some b) (hk:(∃e,b.k=.slice e)\/b.k=.str):∃d,P.underlying t=some d/\∀k,d≠.int k:=by
 obtain⟨i,d,h1,j,_,_,f,_⟩:=gh g;refine⟨d,j,fun k e=>?_⟩;subst e;simp only [gb] at f;rcases hk with ⟨e,hk⟩|hk<;>rw [hk] at f<;>cases f
def Src (P:Program) (j:J) (w:World) (size:Nat) (cv:Value) (bg:List (List D)):Prop :=
 (∀r∈bg,r.length=size)/\(∃news:List Value,aW (aD j w) bg.flatten news/\∀w',(∀b o,o<j.F b->w'.cell? ⟨b,o,none⟩=w.cell? ⟨b,o,none⟩)->(Builtin.firstCells size bg.length cv).run P w'=.ok news.toArray w')/\∀w',(Builtin.lenOf cv).run P w'=.ok bg.length w'
theorem Src.slice {P:Program}{j:J}{w:World}{k:Nat}{tok:Option Nat}{nl:Bool}{rows:List (List D)}{cv:Value}{size:Nat}(h:aD j w (.slice k tok nl rows) cv) (hk:∀r∈rows,r.length=size):Src P j w size cv rows :=
 ⟨hk,Dt h hk,fun w'=>Hv h P w'⟩
theorem an.OC {t u e:TypeId}{ay ae l:TI}{x y:Operand}{tk k m:Nat}{E:Option TypeId}{nl:Bool}{rows bg:List (List D)}{z:A}(aR:aY P t=some ay) (hk:ay.k=.slice e) (aS:aY P e=some l) (aU:aY P u=some ae) (aW:(∃e,ae.k=.slice e)\/ae.k=.str)
  (hz:l.zero=some z) (aX:(cw z).length=l.size) (bv:l.size≠0)
  (hx:ev ts x=.a (.d (.slice k (some tk) nl rows))) (aZ:∀(j:J) (w:World) (jl:List Nat) (cv:Value),br j w jl (ev ts y) cv->Src P j w l.size cv bg) (B:k=l.size\/rows=[])
  (bu:h tk=some (.tok l.size m E)) (hm:m=rows.length) (a0:(rows.length+bg.length)*l.bytes<=cA) (hlen:rows.length+bg.length<=cA) (a1:∀T,E=some T->T=e:=by intro T h; cases h) :
  an P (mk dst (.call { callee:=.builtin .append,args:=#[x,y],argTypes:=#[t,u] }) ty pos aI g) ts ls h { rh:=true,wh:=true }
   (.a (.d (.slice l.size (some tk) (nl&&bg.isEmpty) (rows++bg)))) ls (h.set tk (some (.tok l.size (rows.length+bg.length) E))):=by
 refine an.of_run fun L H _ hH j w jl a hl K=>?_;have a2:=hH rfl;subst a2 hm;have h1:aD j w (.slice k (some tk) nl rows) (a.eval x):=by have:=K x (by simp [Op.operands,Call.operands]); rw [hx] at this; exact this
 obtain⟨aA,⟨news,Q,S⟩,a3⟩:=aZ j w jl (a.eval y) (K y (by simp [Op.operands,Call.operands]));obtain⟨bw,bx,U,_,I,a4,_,aB⟩:=gh aS;rw [hz] at aB;obtain⟨zv,a5,a6⟩:=nH aB;have a7:zv.cells.size=l.size:=by have:=(a6 j w).cells.length; rw [aX] at this; simpa using this.symm
 obtain⟨du,hu,W⟩:=Hx aU aW;have ht:=kF aR hk;obtain⟨ah,cap,X,bz,bA,bB,aC,a8,a9⟩:=qm (jl:=jl) h1;have ai:∀r∈rows,r.length=l.size:=by
  rcases B with e|e
  ·rw [<- e]; exact a8
  ·rw [e]; simp
 have Y:∀r∈rows++bg,r.length=l.size:=fun r hr=>(List.mem_append.1 hr).elim (ai r) (aA r);have Z:=a3 w;have a_:=(iu aA).1;have aj:=(iu ai).1;have aa:news.length=bg.length*l.size:=by rw [<- Q.length,a_]
 obtain⟨aE,dI,aF,hblk,_⟩:=hl.1.obj tk _ bu;have ak:∀(v:Value) (w':World),(Builtin.append_ #[t,u] ty #[a.eval x,a.eval y]).run P w=.ok v w' ->
   (execOp a.eval (mk dst (.call { callee:=.builtin .append,args:=#[x,y],argTypes:=#[t,u] }) ty pos aI g)).run P w=.ok (.value v) w':=fun v w' hr=>by
  simp [execOp,resolve,invoke,builtin,hr]
 have p:(rows++bg).length=rows.length+bg.length:=by simp
 by_cases al:bg=[]
 ·-- nothing is appended
  subst al;have a':news=[]:=List.eq_nil_of_length_eq_zero (by simpa using aa);subst a';have C:(Builtin.append_ #[t,u] ty #[a.eval x,a.eval y]).run P w=.ok (a.eval x) w:=by
   rw [X];cases ah with
   | none =>
    obtain⟨b7,ba⟩:=aC rfl;subst b7 ba;exact Hu ht hu W U (by simpa using Z) (by rw [I]; simpa using S w (fun _ _ _=>rfl))
   | some am =>
    have:=yG (P:=P) (ty:=ty) (sCap:=cap) (sLen:=rows.length) (m:=0) (a:=am) (news:=[]) (w':=w) ht hu W U (by simpa using Z) (by rw [I]; simpa using S w (fun _ _ _=>rfl)) (by omega) (by simp [storeCells])
    simpa using this
  refine⟨_,w,a.eval x,j,jl,ak _ _ C,.inl rfl, ?_, ?_,Ext.refl _, ?_⟩
  ·have bb:rows≠[]->k=l.size:=fun ab=>B.resolve_right ab;simp only [List.append_nil,List.isEmpty_nil,Bool.and_true];show aD j w _ _;by_cases ab:rows=[]
   ·subst ab;have key:∀ao,aD j w (.slice k (some tk) nl []) ao->aD j w (.slice l.size (some tk) nl []) ao:=by
     intro ao hh;cases hh with
     | gD _ _ ht=>exact .gD _ _ ht
     | slice _ _ _ a cap f hk hn hc bQ hr ht=>exact .slice _ _ [] a cap f (by simp) hn hc bQ hr ht
    exact key _ h1
   ·rw [<- bb ab]; exact h1
  ·simp only [List.length_nil,Nat.add_zero,cond_true];rw [af.kD H tk _ bu]; exact hl
  ·simp only [List.length_nil,Nat.add_zero,cond_true];rw [af.kD H tk _ bu]; exact bN.refl _ _ _
 ·have bC:0<bg.length:=List.length_pos_iff.2 al;have bc:(nl&&bg.isEmpty)=false:=by cases bg with|nil=>exact absurd rfl al|cons _ _=>simp
  rw [bc];by_cases M:rows.length+bg.length<=cap
  ·-- in place
   cases ah with
   | none=>obtain⟨b7,_⟩:=aC rfl; omega
   | some am =>
    obtain⟨bd,f,bQ,be⟩:=a9 am rfl;obtain⟨_,bf⟩:=bd tk rfl;obtain⟨_,bh⟩:=bf _ aF;rcases bh rfl with ⟨_,hc⟩|⟨b,ap,bi⟩
    ·omega
    ·subst bi;dsimp only at ap;obtain⟨cs,ce,hg,aq,bj,bD,bk⟩:=hblk b cap ap;have aG:w.heap[b]?=some (.cells cs.toList.toArray ce (0,0)):=by simpa using hg
     obtain⟨w',bl,q⟩:=yA (au:=au) (P:=P) (off:=rows.length*l.size) news 0 cs.toList w aG (by
      rw [aa]; simp only [Array.length_toList,aq]; rw [Nat.add_zero,<- Nat.add_mul]; exact Nat.mul_le_mul_right _ M) (AL Q)
     rw [Nat.add_zero] at q;have C:(Builtin.append_ #[t,u] ty #[a.eval x,a.eval y]).run P w=.ok (.slice (some ⟨b,0,none⟩) (rows.length+bg.length) cap) w':=by
      rw [X];exact yG ht hu W U Z (by rw [I]; exact S w fun _ _ _=>rfl) M (by rw [add_plain,I,Nat.zero_add]; exact bl)
     have bm:bH j tk (.tok l.size rows.length E)=some b:=by simp [bH,aF,ap]
     have ad:∀o,w'.cell? ⟨b,o,none⟩=(cK cs.toList (rows.length*l.size) news)[o]?:=fun o=>by rw [cell_of_row w' b o _ ce (0,0) q.here]; simp
     have aH:∀o,w.cell? ⟨b,o,none⟩=cs.toList[o]?:=fun o=>by rw [cell_of_row w b o _ ce (0,0) aG]; simp
     obtain⟨ar,N⟩:=hl.grow (w':=w') (m':=rows.length+bg.length) bu (by omega) (b:=b) (cap:=cap) q.here (by simp [uB,aq]) M (fun x hx _=>q.other x hx)
      (by rw [q.size]; exact Nat.le_refl _) (by rw [q.size]; omega) (.inr ⟨bm,fun o K=>by rw [ad,aH,yF _ _ _ _ (by rw [bj] at K; exact K)]⟩) q.os q.tape q.output bk
     refine⟨_,w',_,_,jl,ak _ _ C,.inl rfl, ?_,ar,Ext.refl _,N⟩;have hle:=N.toLe;have:=vW (j:=j.cG tk ⟨some (b,cap),rows.length+bg.length⟩ b ((rows.length+bg.length)*l.size)) (w:=w') (k:=l.size) (tok:=some tk) (rows:=rows++bg) (b:=b) (o:=0) (cap:=cap) Y
      (by rw [p]; exact hlen) (by rw [p]; exact M) (fun i x hx=>?_) (fun t' O=>?_) (fun _ _ _ _=>.cells q.here)
     ·rw [p] at this; exact this
     ·have av:i<(rows++bg).flatten.length:=(List.getElem?_eq_some_iff.1 hx).1;rw [(iu Y).1,p] at av;refine⟨by simp only [J.cG,if_true]; omega, ?_⟩;rw [Nat.zero_add,ad]
      revert i x hx
      have:=Hw (R:=fun i x=>∃v,(cK cs.toList (rows.length*l.size) news)[i]?=some v/\aD (j.cG tk ⟨some (b,cap),rows.length+bg.length⟩ b ((rows.length+bg.length)*l.size)) w' x v) aj (bg:=bg)
       (fun i x hx=>by
        have hi:=(List.getElem?_eq_some_iff.1 hx).1;rw [yF _ _ _ _ (by omega)];have aJ:=(bQ.2 i hi).2.1;rw [Nat.zero_add,aH] at aJ;refine⟨f i,aJ, ?_⟩;have aL:=be i hi;rw [(List.getElem?_eq_some_iff.1 hx).2] at aL;exact aL.mono hle)
       (fun i x hx=>by
        obtain⟨v,hv,hr⟩:=Q.get hx;exact⟨v,AT _ _ _ _ _ hv (by rw [aa]; simp only [Array.length_toList,aq]; rw [<- Nat.add_mul]; exact Nat.mul_le_mul_right _ M),hr.mono hle⟩)
      exact fun i x hx _=>this i x hx
     ·simp only [Option.some.injEq] at O;subst O;refine⟨Nat.lt_of_lt_of_le aE hle.next,fun bo B=>?_⟩;simp only [J.cG,if_true,Option.some.injEq] at B;subst B;exact⟨by rw [p]; exact Nat.le_refl _,fun _=>.inr ⟨b,rfl,rfl⟩⟩
  ·-- a new array
   obtain⟨olds,aM,bp⟩:=Dt (P:=P) h1 ai;have bq:olds.length=rows.length*l.size:=by rw [<- aM.length,aj]
   have aO:∀b o,o<j.F b->w.drew.cell? ⟨b,o,none⟩=w.cell? ⟨b,o,none⟩:=fun _ _ _=>rfl;have bF:cA=140737488355328:=rfl;have C:=Ds (P:=P) (ty:=ty) (w:=w) (base:=ah) (sLen:=rows.length) (sCap:=cap) (m:=bg.length) (x:=a.eval y) (olds:=olds) (news:=news) ht hu W U a5 Z
    (by rw [I,<- X]; exact bp w.drew aO) (by rw [I]; exact S w.drew aO) (by omega) (by omega) (growslice_fits (by omega) (by rw [a4]; exact a0))
   rw [<- X] at C;generalize bs:grownCap w (rows.length+bg.length) cap e=G at C;have aP:rows.length+bg.length<=G:=by rw [<- bs]; exact grownCap_ge _ _ _ _
   generalize aw:olds++news++(Builtin.zeroCells zv.cells (G-(rows.length+bg.length))).toList=s at C;have bt:s.length=G*l.size:=by
    rw [<- aw];simp only [List.length_append,bq,aa,Array.length_toList,size_zeroCells,a7,<- Nat.add_mul]
    congr 1; omega
   have ax:=heap_alloc_new w.drew (.cells s.toArray e);have ad:∀o,(w.drew.alloc (.cells s.toArray e)).cell? ⟨w.heap.size,o,none⟩=s[o]?:=fun o=>by
    rw [cell_of_row _ w.heap.size o s.toArray e (0,0) ax]; simp
   obtain⟨ar,N⟩:=hl.drew.grow (w':=w.drew.alloc (.cells s.toArray e)) (m':=rows.length+bg.length) bu (by omega) (b:=w.heap.size) (cap:=G) ax (by simpa using bt) aP
    (fun x hx bn=>rW bn) (by simp) (by simp) (.inl (Nat.le_refl _)) rfl rfl fZ.rfl (fun T h=>(a1 T h).symm)
   refine⟨_,_,_,_,jl,ak _ _ C,.inl rfl, ?_,ar,Ext.refl _,(bN.drew j w _).trans N⟩;have hle:=((bN.drew j w (aV j H jl)).trans N).toLe;have:=vW (j:=j.cG tk ⟨some (w.heap.size,G),rows.length+bg.length⟩ w.heap.size ((rows.length+bg.length)*l.size)) (w:=w.drew.alloc (.cells s.toArray e)) (k:=l.size) (tok:=some tk) (rows:=rows++bg) (b:=w.heap.size)
    (o:=0) (cap:=G) Y (by rw [p]; exact hlen) (by rw [p]; exact aP) (fun i x hx=>?_) (fun t' O=>?_) (fun _ _ _ _=>.cells ax)
   ·rw [p] at this; exact this
   ·have av:i<(rows++bg).flatten.length:=(List.getElem?_eq_some_iff.1 hx).1;rw [(iu Y).1,p] at av;refine⟨by simp only [J.cG,if_true]; omega, ?_⟩;rw [Nat.zero_add,ad]
    revert i x hx
    have:=Hw (R:=fun i x=>∃v,s[i]?=some v/\aD (j.cG tk ⟨some (w.heap.size,G),rows.length+bg.length⟩ w.heap.size ((rows.length+bg.length)*l.size)) (w.drew.alloc (.cells s.toArray e)) x v) aj (bg:=bg)
     (fun i x hx=>by
      obtain⟨v,hv,hr⟩:=aM.get hx;refine⟨v, ?_,hr.mono hle⟩;have hi:=(List.getElem?_eq_some_iff.1 hv).1;rw [<- aw,List.append_assoc,List.getElem?_append_left hi]; exact hv)
     (fun i x hx=>by
      obtain⟨v,hv,hr⟩:=Q.get hx;refine⟨v, ?_,hr.mono hle⟩;have hi:=(List.getElem?_eq_some_iff.1 hv).1;rw [<- aw,List.append_assoc,List.getElem?_append_right (by omega),show rows.length*l.size+i-olds.length=i by omega,List.getElem?_append_left hi]; exact hv)
    exact fun i x hx _=>this i x hx
   ·simp only [Option.some.injEq] at O;subst O;refine⟨Nat.lt_of_lt_of_le aE hle.next,fun bo B=>?_⟩;simp only [J.cG,if_true,Option.some.injEq] at B;subst B;exact⟨by rw [p]; exact Nat.le_refl _,fun _=>.inr ⟨w.heap.size,rfl,rfl⟩⟩
theorem an.append {t u e:TypeId}{l f b:TI}{x y:Operand}{tk k k' m:Nat}{tok':Option Nat}{nl p:Bool}{rows bg:List (List D)}{z:A}(s:aY P t=some l) (hk:l.k=.slice e) (v:aY P e=some b) (B:aY P u=some f) (C:(∃e,f.k=.slice e)\/f.k=.str)
  (hz:b.zero=some z) (E:(cw z).length=b.size) (F:b.size≠0)
  (hx:ev ts x=.a (.d (.slice k (some tk) nl rows))) (G:ev ts y=.a (.d (.slice k' tok' p bg))) (H:k=b.size\/rows=[]) (I:k'=b.size\/bg=[])
  (bu:h tk=some (.tok b.size m)) (hm:m=rows.length) (J:(rows.length+bg.length)*b.bytes<=cA) (hlen:rows.length+bg.length<=cA) :
  an P (mk dst (.call { callee:=.builtin .append,args:=#[x,y],argTypes:=#[t,u] }) ty pos aI g) ts ls h { rh:=true,wh:=true }
   (.a (.d (.slice b.size (some tk) (nl&&bg.isEmpty) (rows++bg)))) ls (h.set tk (some (.tok b.size (rows.length+bg.length)))) :=
 an.OC s hk v B C hz E F hx (fun j w jl cv hv=>by
  have q:aD j w (.slice k' tok' p bg) cv:=by rw [G] at hv; exact hv
  refine Src.slice q fun r hr=>?_;obtain⟨_,_,_,_,_,_,_,hh,_⟩:=qm (jl:=jl) q;rcases I with e|e
  ·rw [<- e]; exact hh r hr
  ·rw [e] at hr; cases hr) H bu hm J hlen
end
end Go.Ab
/-
 Struct and slice literals,maps,parts of slices,comparisons of structs,tokens.
-/
namespace Go.Ab
open Go Go.RowKit
variable {au:bS}
theorem Du (off:Nat):∀(l:List Value) (k:Nat) (cs:Array Value),((l.zipIdx k).foldl (fun cs (p:Value×Nat)=>cs.setIfInBounds (off+p.2) p.1) cs).toList=cK cs.toList (off+k) l
 | [],_,_=>rfl
 | v::r,k,cs=>by
  simp only [List.zipIdx_cons,List.foldl_cons];rw [Du off r (k+1)];simp [cK,Nat.add_assoc]
def sg (ts:Ts):List (Nat×Operand)->Option (List (Nat×A))
 | []=>some []
 | (i,x)::r=>match AS ts x,sg ts r with
  | some y,some b=>some ((i,y)::b)
  | _,_=>none
theorem AU {j:J}{w:World}{jl:List Nat}{ts:Ts}{act:Act}:∀(l:List (Nat×Operand)) (xs:List (Nat×A)),sg ts l=some xs->(∀x,x∈l.map (·.2)->br j w jl (ev ts x) (act.eval x)) ->
  aW (fun p q=>p.1=q.1/\di j w p.2 q.2) xs (l.map fun p=>(p.1,act.eval p.2))
 | [],xs,h,_=>by simp [sg] at h; subst h; exact .nil
 | (i,x)::r,xs,h,b=>by
  simp only [sg] at h
  split at h
  ·rename_i y f h1 g
   simp at h; subst h;refine .cons ⟨rfl, ?_⟩ (AU r f g fun z hz=>b z (by simp at hz ⊢; exact .inr hz));have:=b x (by simp);unfold AS at h1
   split at h1
   ·rename_i z hz; simp at h1; subst h1; rw [hz] at this; exact this
   ·simp at h1
  ·simp at h
def vX (T:List TI) (fs:List (Nat×TypeId)):List D->List (Nat×A)->Option (List D)
 | b,[]=>some b
 | b,(i,x)::r=>match fs[i]? with
  | some (o,g)=>match T[g]? with
   | some f=>match Nat.beq (cw x).length f.size&&Nat.ble (o+f.size) b.length with
    | true=>vX T fs (cK b o (cw x)) r
    | false=>none
   | none=>none
  | none=>none
section
variable {P:Program}{T:List TI}{ts:Ts}{ls:List (List D)}{h:af}{dst:Option Tmp}{ty:TypeId}{pos:String}{aI:Array Edge}{g:Option (Nat×Bool)}
theorem Hy {P:Program}{T:List TI}(fc:nI P T):∀(fs:List Field) (w:World),(∀f∈fs,∃b,T[f.type]?=some b) ->
  ∃ps:List (Nat×Nat),(fs.mapM fun(f:Field)=>Prod.mk f.offset <$> sizeOf f.type).run P w=.ok ps w/\∀(i:Nat) (f:Field),fs[i]?=some f->∀b:TI,T[f.type]?=some b->ps[i]?=some (f.offset,b.size)
 | [],w,_=>⟨[],by simp,by simp⟩
 | f::fs,w,j=>by
  obtain⟨b,k⟩:=j f (by simp);obtain⟨ps,h1,l⟩:=Hy fc fs w fun f m=>j f (by simp [m]);refine⟨(f.offset,b.size)::ps, ?_,fun i f' hi p g=>?_⟩
  ·rw [List.mapM_cons,Sem.run_bind,Sem.run_map,kE (fc _ _ k)];simp only [Result.andThen,Sem.run_bind,h1,Sem.run_pure]
  ·cases i with
   | zero=>simp at hi; subst hi; rw [k] at g; simp at g; subst g; rfl
   | succ i=>simp at hi ⊢; exact l i f' hi p g
theorem Dv {j:J}{w:World}{T:List TI}{fs:List (Nat×TypeId)}{place:Nat->Option (Nat×Nat)}(r:∀i o l g,fs[i]?=some (o,l)->T[l]?=some g->place i=some (o,g.size)) :
  ∀(parts:List (Nat×A)) (s:List (Nat×Value)) (f k:List D) (cs:Array Value),vX T fs f parts=some k->aW (fun p q=>p.1=q.1/\di j w p.2 q.2) parts s->aW (aD j w) f cs.toList ->
  ∃m,Instr.fill place cs s=some m/\aW (aD j w) k m.toList
 | _,_,f,k,cs,b,.nil,hz=>by simp [vX] at b; subst b; exact⟨cs,rfl,hz⟩
 | (i,x)::ps,(H,v)::u,f,k,cs,b,.cons ⟨e,hr⟩ ht,hz=>by
  dsimp only at e hr;subst e;simp only [vX] at b
  split at b
  ·rename_i o l y
   split at b
   ·rename_i g z
    split at b
    ·rename_i hc
     simp only [Bool.and_eq_true] at hc;have hl:=Nat.eq_of_beq_eq_true hc.1;have hle:=Nat.le_of_ble_eq_true hc.2;have B:=r i o l g y z;have t:=hr.cells;have C:v.cells.size=g.size:=by rw [<- hl,t.length]; simp
     have E:cs.size=f.length:=by rw [hz.length]; simp
     have F:aW (aD j w) (cK f o (cw x)) (v.cells.zipIdx.foldl (fun cs (p:Value×Nat)=>cs.setIfInBounds (o+p.2) p.1) cs).toList:=by
      rw [<- Array.foldl_toList];have:=Du o v.cells.toList 0 cs;simp only [Array.toList_zipIdx];rw [this,Nat.add_zero];exact hz.cK o t
     obtain⟨m,h1,G⟩:=Dv r ps u _ k _ b ht F;refine⟨m, ?_,G⟩;rw [Instr.fill,B];dsimp only;rw [if_neg (by simp [C,E]; omega)];exact h1
    ·simp at b
   ·simp at b
  ·simp at b
theorem an.build (fc:nI P T){t:TypeId}{b:TI}{fs:List (Nat×TypeId)}{l m:List D}{parts:Array (Nat×Operand)}{ps:List (Nat×A)}(u:T[t]?=some b) (hk:b.k=.struct fs) (hz:b.zero=some (.agg l))
  (v:fs.all (fun f=>(T[f.2]?).isSome)=true) (y:sg ts parts.toList=some ps) (z:vX T fs l ps=some m):an P (mk dst (.build t parts) ty pos aI g) ts ls h {} (.a (.agg m)) ls h :=
 an.dR fun j w jl a B=>by
  have hr:=AU (j:=j) (w:=w) (jl:=jl) (act:=a) parts.toList ps y fun x hx=>B x (by simp [Op.operands] at hx ⊢; exact hx);have r:=fc t b u;obtain⟨inf,d,h1,_,_,_,_,s⟩:=gh r;rw [hz] at s;obtain⟨zv,C,E⟩:=nH s;obtain⟨gs,hu,he⟩:=Dj r hk;obtain⟨pl,F,G⟩:=Hy (P:=P) fc gs.toList w fun f H=>by
   have:=List.all_eq_true.1 v (f.offset,f.type) (by rw [<- he]; exact List.mem_map.2 ⟨f,H,rfl⟩);exact Option.isSome_iff_exists.1 this
  obtain⟨q,I,J⟩:=Dv (j:=j) (w:=w) (T:=T) (fs:=fs) (place:=(pl.toArray[·]?)) (fun i o N K hi L=>by
   rw [<- he,List.getElem?_map] at hi;cases e:gs.toList[i]? with
   | none=>rw [e] at hi; simp at hi
   | some f=>rw [e] at hi; simp at hi; obtain⟨rfl,rfl⟩:=hi; simpa using G i f e K L) ps _ l m zv.cells z hr (E j w).cells
  refine⟨.agg q, ?_,⟨q.toList,by simp,J⟩⟩;have M:(Instr.build t (parts.map fun(i,x)=>(i,a.eval x))).run P w=.ok (.agg q) w:=by
   simp only [Instr.build,Sem.run_bind,zeroValue,typeInfo,run_program,h1,C,Result.andThen,Sem.run_pure,eU hu];rw [Array.mapM_eq_mapM_toList,Sem.run_map];rw [show (List.mapM _ gs.toList:Sem (List (Nat×Nat)))=List.mapM (fun f=>Prod.mk f.offset <$> sizeOf f.type) gs.toList from by congr 1];rw [F];simp only [Result.andThen];have e:(Array.map (fun(x:Nat×Operand)=>(x.1,a.eval x.2)) parts).toList=parts.toList.map fun p=>(p.1,a.eval p.2):=by simp
   rw [e,I];simp
  simp only [execOp,Sem.run_bind,M,Result.andThen,Sem.run_pure]
def vY (n:Nat):List (List D)->List (Nat×A)->Option (List (List D))
 | rows,[]=>some rows
 | rows,(i,x)::r=>match Nat.beq (cw x).length n&&Nat.blt i rows.length with
  | true=>vY n (rows.set i (cw x)) r
  | false=>none
theorem Hz {n:Nat}:∀{rows:List (List D)}(_:∀r∈rows,r.length=n){i:Nat}(_:i<rows.length){r:List D}(_:r.length=n),(rows.set i r).flatten=cK rows.flatten (i*n) r
 | [],_,i,hi,_,_=>by simp at hi
 | b::rs,hk,i,hi,r,hr=>by
  have h0:b.length=n:=hk b (by simp);cases i with
  | zero =>
   simp only [List.set_cons_zero,List.flatten_cons,Nat.zero_mul]
   apply List.ext_getElem?
   intro k;by_cases g:k<n
   ·rw [List.getElem?_append_left (by omega)];have:=AT (b++rs.flatten) 0 r k (r[k]'(by omega)) (List.getElem?_eq_getElem (by omega)) (by simp; omega);rw [Nat.zero_add] at this;rw [this,List.getElem?_eq_getElem (by omega)]
   ·rw [List.getElem?_append_right (by omega)];have:∀(l:List D) (m:Nat) (s:List D) (k:Nat),m+s.length<=k->(cK l m s)[k]?=l[k]?:=by
     intro l m s;induction s generalizing l m with
     | nil=>intros; rfl
     | cons v s f=>intro k hk; simp at hk; rw [cK,f _ _ k (by omega),List.getElem?_set_ne (by omega)]
    rw [this _ _ _ _ (by omega),List.getElem?_append_right (by omega),h0,hr]
  | succ i =>
   simp only [List.set_cons_succ,List.flatten_cons];rw [Hz (fun x hx=>hk x (by simp [hx])) (by simpa using hi) hr];have:∀(p l:List D) (m:Nat) (s:List D),cK (p++l) (p.length+m) s=p++cK l m s:=by
    intro p l m s;induction s generalizing l m with
    | nil=>rfl
    | cons v s f=>rw [cK,cK,show (p++l).set (p.length+m) v=p++l.set m v by rw [List.set_append_right _ _ (by omega)]; simp,Nat.add_assoc,f]
   rw [<- this,h0,show (i+1)*n=n+i*n by rw [Nat.add_mul]; omega]
theorem HA {j:J}{w:World}{n:Nat}:∀(parts:List (Nat×A)) (g:List (Nat×Value)) (rows bg:List (List D)) (cs:Array Value),vY n rows parts=some bg->(∀r∈rows,r.length=n) ->
  aW (fun p q=>p.1=q.1/\di j w p.2 q.2) parts g->aW (aD j w) rows.flatten cs.toList ->
  ∃f,Instr.fill (fun i=>some (i*n,n)) cs g=some f/\aW (aD j w) bg.flatten f.toList/\bg.length=rows.length/\∀r∈bg,r.length=n
 | _,_,rows,bg,cs,b,hk,.nil,hz=>by simp [vY] at b; subst b; exact⟨cs,rfl,hz,rfl,hk⟩
 | (i,x)::ps,(C,v)::l,rows,bg,cs,b,hk,.cons ⟨e,hr⟩ ht,hz=>by
  dsimp only at e hr;subst e;simp only [vY] at b
  split at b
  ·rename_i hc
   simp only [Bool.and_eq_true] at hc;have hl:=Nat.eq_of_beq_eq_true hc.1;have bn:i<rows.length:=by simpa [Nat.blt_eq] using hc.2
   have k:=hr.cells;have m:v.cells.size=n:=by rw [<- hl,k.length]; simp
   have s:cs.size=rows.length*n:=by rw [<- (iu hk).1,hz.length]; simp
   have hle:i*n+n<=rows.length*n:=by rw [<- Nat.succ_mul]; exact Nat.mul_le_mul_right n bn
   have t:aW (aD j w) (rows.set i (cw x)).flatten (v.cells.zipIdx.foldl (fun cs (p:Value×Nat)=>cs.setIfInBounds (i*n+p.2) p.1) cs).toList:=by
    rw [Hz hk bn hl,<- Array.foldl_toList];have:=Du (i*n) v.cells.toList 0 cs;simp only [Array.toList_zipIdx];rw [this,Nat.add_zero];exact hz.cK _ k
   have u:∀r∈rows.set i (cw x),r.length=n:=fun r hr=>by
    rcases List.mem_or_eq_of_mem_set hr with h|h
    ·exact hk r h
    ·rw [h]; exact hl
   obtain⟨f,h1,y,z,B⟩:=HA ps l _ bg _ b u ht t;refine⟨f, ?_,y,by rw [z]; simp,B⟩;rw [Instr.fill];dsimp only;rw [if_neg (by simp [m,s]; omega)];exact h1
  ·simp at b
theorem OD {α:Type} [Inhabited α] (z:Array α) (len:Nat) (hz:z.size≠0):((Array.range (len*z.size)).map (fun i=>z[i % z.size]!)).toList=(List.replicate len z.toList).flatten:=by
 induction len with
 | zero=>simp
 | succ len b =>
  have h1:((Array.range ((len+1)*z.size)).map (fun i=>z[i % z.size]!)).toList=((Array.range (len*z.size)).map (fun i=>z[i % z.size]!)).toList++z.toList:=by
   simp only [Array.toList_map,Array.toList_range];rw [Nat.add_mul,Nat.one_mul,List.range_add,List.map_append,List.map_map]
   congr 1
   apply List.ext_getElem?
   intro k;by_cases hk:k<z.size
   ·simp only [List.getElem?_map,List.getElem?_range hk,Option.map_some,Function.comp];have e:(len*z.size+k) % z.size=k:=by rw [Nat.mul_comm,Nat.mul_add_mod,Nat.mod_eq_of_lt hk]
    rw [e]; simp [hk]
   ·rw [List.getElem?_eq_none (by simp; omega),List.getElem?_eq_none (by simp; omega)]
  rw [h1,b];rw [List.replicate_succ',List.flatten_append]; simp
end
end Go.Ab
/-
 Slice literals,maps,parts of slices,comparisons of structs,tokens.
-/
namespace Go.Ab
open Go Go.RowKit
variable {au:bS}
variable {f_:eT}
section
variable {P:Program}{T:List TI}{ts:Ts}{ls:List (List D)}{h:af}{dst:Option Tmp}{ty:TypeId}{pos:String}{aI:Array Edge}{g:Option (Nat×Bool)}
theorem an.uE {t e:TypeId}{u l:TI}{z:A}{len:Nat}{parts:Array (Nat×Operand)}{ps:List (Nat×A)}{rows:List (List D)}(y:aY P t=some u) (hk:u.k=.slice e) (s:aY P e=some l)
  (hz:l.zero=some z) (O:Nat.beq (cw z).length l.size=true) (B:Nat.beq l.size 0=false) (hlen:Nat.ble (len*l.size) 16777216=true) (Q:sg ts parts.toList=some ps) (hr:vY l.size (List.replicate len (cw z)) ps=some rows) :
  an P (mk dst (.buildSlice t len parts) ty pos aI g) ts ls h {} (.full l.size rows) ls h:=by
 refine an.of_run fun L H _ _ j w jl a hl C=>?_;have R:=AU (j:=j) (w:=w) (jl:=jl) (act:=a) parts.toList ps Q fun x hx=>C x (by simp [Op.operands] at hx ⊢; exact hx);obtain⟨al,am,S,_,ao,ap,_,E⟩:=gh s;rw [hz] at E;obtain⟨zv,U,F⟩:=nH E;have G:(cw z).length=l.size:=Nat.eq_of_beq_eq_true O;have W:l.size≠0:=fun e=>by rw [e] at B; simp at B
 have X:len*l.size<=16777216:=Nat.le_of_ble_eq_true hlen;have Y:zv.cells.size=l.size:=by have:=(F j w).cells.length; rw [G] at this; simpa using this.symm
 have hzero:∀pre:Array Value,pre=(Array.range (len*l.size)).map (fun i=>zv.cells[i % zv.cells.size]!)->aW (aD j w) (List.replicate len (cw z)).flatten pre.toList:=by
  intro pre I;rw [I,<- Y,OD _ _ (by omega)];have:=(F j w).cells;clear hr I hlen X C;induction len with
  | zero=>exact .nil
  | succ n Z=>simp only [List.replicate_succ,List.flatten_cons]; exact this.append Z
 obtain⟨q,h1,aa,m,K⟩:=HA (j:=j) (w:=w) ps _ _ rows _ hr (fun r hr=>by rw [List.eq_of_mem_replicate hr]; exact G) R (hzero _ rfl);simp only [List.length_replicate] at m;have ab:(Instr.buildSlice t len (parts.map fun(i,x)=>(i,a.eval x))).run P w=.ok (.slice (some ⟨w.heap.size,0,none⟩) len len) (w.alloc (.cells q e)):=by
  have ad:¬(16777216<len*l.size):=by omega
  have ae:(Array.map (fun(x:Nat×Operand)=>(x.1,a.eval x.2)) parts).toList=parts.toList.map fun p=>(p.1,a.eval p.2):=by simp
  rw [<- ae] at h1;by_cases h0:len*l.size=0
  ·have ah:len=0:=by
    rcases Nat.mul_eq_zero.1 h0 with e|e
    ·exact e
    ·exact absurd e W
   subst ah;simp only [Nat.zero_mul] at h1;have M:∀f:Nat->Value,Array.map f (Array.range 0)=#[]:=fun f=>by apply Array.ext'; simp
   simp only [M] at h1;simp [Instr.buildSlice,eU (kF y hk),kE s,newRow,M];simp at h1;rw [h1];simp
  ·simp [Instr.buildSlice,eU (kF y hk),kE s,ad,h0,zeroValue,typeInfo,S,U,newRow];simp at h1;rw [h1];simp
 have aq:=iu K;obtain⟨ai,N⟩:=hl.data (.cells q e) (rows.length*l.size);refine⟨_,_,.slice (some ⟨w.heap.size,0,none⟩) len len,j.eC w.heap.size (rows.length*l.size),jl,by simp [execOp,ab],.inl rfl, ?_,ai,Ext.refl _,N⟩;have hm:=vW (j:=j.eC w.heap.size (rows.length*l.size)) (w:=w.alloc (.cells q e)) (k:=l.size) (tok:=none) (rows:=rows) (b:=w.heap.size) (o:=0) (cap:=len) K (by
  rw [m]; have:len*1<=len*l.size:=Nat.mul_le_mul_left _ (by omega);unfold cA; omega) (by omega) (fun i x hx=>?_) (fun t' aj=>by simp at aj) (fun _ _ _ _=>.cells (heap_alloc_new w _))
 ·rw [m] at hm; rw [m]; exact⟨hm,⟨w.heap.size,0,none⟩,by rw [m]⟩
 ·have ar:=(List.getElem?_eq_some_iff.1 hx).1;obtain⟨v,hv,ak⟩:=aa.get hx;refine⟨by simp only [J.eC,if_true]; omega,v, ?_,ak.mono N.toLe⟩;rw [cell_of_row _ w.heap.size _ q e (0,0) (heap_alloc_new w _),Nat.zero_add]
  simpa using hv
theorem an.HB {o:Oper}{fx:Fx}{v b:V}{aS:List (List D)}{h':af}(hc:an P o ts ls h fx v aS h') (hv:∀j w jl cv,br j w jl v cv->br j w jl b cv):an P o ts ls h fx b aS h':=by
 intro L H f hH j w jl a hl g K Q hk;exact hc L H f hH j w jl a hl g K Q fun u l k cv j' w' m ⟨p,q,r⟩ hr=>hk b l k cv j' w' m ⟨rfl,q,r⟩ (hv _ _ _ _ (p▸hr))
theorem an.buildSlice {t e:TypeId}{f b:TI}{z:A}{len:Nat}{parts:Array (Nat×Operand)}{ps:List (Nat×A)}{rows:List (List D)}(j:aY P t=some f) (hk:f.k=.slice e) (l:aY P e=some b)
  (hz:b.zero=some z) (m:Nat.beq (cw z).length b.size=true) (p:Nat.beq b.size 0=false) (hlen:Nat.ble (len*b.size) 16777216=true) (q:sg ts parts.toList=some ps) (hr:vY b.size (List.replicate len (cw z)) ps=some rows) :
  an P (mk dst (.buildSlice t len parts) ty pos aI g) ts ls h {} (.a (.d (.slice b.size none false rows))) ls h :=
 (an.uE j hk l hz m p hlen q hr).HB fun _ _ _ _ h=>h.1
theorem HC {n:Nat}:∀{rows:List (List D)}(_:∀r∈rows,r.length=n) (k:Nat),(rows.take k).flatten=rows.flatten.take (k*n)
 | [],_,k=>by simp
 | r::rs,hk,0=>by simp
 | r::rs,hk,k+1=>by
  have hr:r.length=n:=hk r (by simp);rw [List.take_succ_cons,List.flatten_cons,HC (fun x hx=>hk x (by simp [hx])),List.flatten_cons,show (k+1)*n=n+k*n by rw [Nat.add_mul]; omega];rw [show n+k*n=r.length+k*n by rw [hr],List.take_length_add_append]
theorem HD {n:Nat}:∀{rows:List (List D)}(_:∀r∈rows,r.length=n) (k:Nat),(rows.drop k).flatten=rows.flatten.drop (k*n)
 | [],_,k=>by simp
 | r::rs,hk,0=>by simp
 | r::rs,hk,k+1=>by
  have hr:r.length=n:=hk r (by simp);rw [List.drop_succ_cons,HD (fun x hx=>hk x (by simp [hx])),List.flatten_cons,show (k+1)*n=n+k*n by rw [Nat.add_mul]; omega];rw [show n+k*n=r.length+k*n by rw [hr],List.drop_length_add_append]
theorem OE {j:J}{w:World}{k:Nat}{rows:List (List D)}{b:Addr}{f:Nat->Value}{cap:Nat}(hk:∀r∈rows,r.length=k) (hn:rows.length<=cA) (hc:rows.length<=cap)
  (bQ:uq j w b rows f) (hr:∀i (h:i<rows.flatten.length),aD j w rows.flatten[i] (f i)){l r:Nat}(hl:l<=r) (hh:r<=rows.length) :
  aD j w (.slice k none false ((rows.take r).drop l)) (.slice (some (if cap=l then b else b.add (l*k))) (r-l) (cap-l)):=by
 have hlen:((rows.take r).drop l).length=r-l:=by simp; omega
 have s:∀x∈(rows.take r).drop l,x.length=k:=fun x hx=>hk x (List.mem_of_mem_take (List.mem_of_mem_drop hx));have m:((rows.take r).drop l).flatten=(rows.flatten.take (r*k)).drop (l*k):=by
  rw [HD (fun x hx=>hk x (List.mem_of_mem_take hx)),HC hk]
 have y:r*k<=rows.flatten.length:=by rw [(iu hk).1]; exact Nat.mul_le_mul_right k hh
 rw [<- hlen];by_cases g:cap=l
 ·rw [if_pos g];have hz:(rows.take r).drop l=[]:=List.eq_nil_of_length_eq_zero (by rw [hlen]; omega);rw [hz];exact aD.slice k none [] b (cap-l) f (by simp) (by simp) (by simp) ⟨.inl rfl,by simp⟩ (by simp) (fun t ht=>by simp at ht)
 ·by_cases p:rows=[]
  ·rw [if_neg g];have hz:(rows.take r).drop l=[]:=by rw [p]; simp
   rw [hz];exact aD.slice k none [] _ (cap-l) f (by simp) (by simp) (by simp) ⟨.inl rfl,by simp⟩ (by simp) (fun t ht=>by simp at ht)
  have u:b=⟨b.block,b.off,none⟩:=by have:=bQ.1.resolve_left p; cases b; simp at this; simp [this]
  rw [if_neg g,u,add_plain];refine vW s (by rw [hlen]; omega) (by rw [hlen]; omega) (fun i x hx=>?_) (fun t ht=>by simp at ht) (fun i v hi hv=>by
   rw [m,List.length_drop,List.length_take] at hi;have h:=bQ.2 (l*k+i) (by omega);rw [Nat.add_assoc] at hv ⊢;rw [h.2.1] at hv;obtain rfl:=Option.some.inj hv;exact h.2.2)
  rw [m,List.getElem?_drop,List.getElem?_take] at hx
  split at hx
  ·rename_i bn
   have hi:=(List.getElem?_eq_some_iff.1 hx).1;have h1:=bQ.2 (l*k+i) hi;refine⟨by have:=h1.1; omega,f (l*k+i),by rw [Nat.add_assoc]; exact h1.2.1, ?_⟩;have q:=hr (l*k+i) hi;rw [(List.getElem?_eq_some_iff.1 hx).2] at q; exact q
  ·simp at hx
theorem AV {P:Program}{t e:TypeId}{b f:TI}(g:aY P t=some b) (hk:b.k=.slice e) (j:aY P e=some f){a:Option Addr}{len cap:Nat}{lo hi:Option Value}{w:World}{l r:Nat}
  (hl:(match lo with|some v=>Instr.sliceBound v r .sliceB|none=>pure 0).run P w=.ok l w) (hh:(match hi with|some v=>Instr.sliceBound v cap .sliceAcap|none=>pure len).run P w=.ok r w) :
  (Instr.sliceAt t (.slice a len cap) lo hi none).run P w=.ok (.slice (if cap=l then a else a.map (·.add (l*f.size))) (r-l) (cap-l)) w:=by
 simp only [Instr.sliceAt,Instr.slice,Instr.sliceBounds,Sem.run_bind,eU (kF g hk),Result.andThen,Sem.run_pure,kE j];cases lo<;>cases hi<;>simp_all
theorem an.part {t e:TypeId}{B C:TI}{x:Operand}{lo hi:Option Operand}{k:Nat}{tok:Option Nat}{rows:List (List D)}{l r:Nat}(E:aY P t=some B) (hk:B.k=.slice e) (F:aY P e=some C)
  (hx:ev ts x=.a (.d (.slice k tok false rows))) (G:k=C.size)
  (p:match lo with|none=>l=0|some o=>∃m n,ev ts o=.a (.d (.int m n))/\0<=n/\l=n.toNat) (q:match hi with|none=>r=rows.length|some o=>∃m n,ev ts o=.a (.d (.int m n))/\0<=n/\r=n.toNat)
  (H:l<=r) (I:r<=rows.length):an P (mk dst (.slice t x lo hi none) ty pos aI g) ts ls h {} (.a (.d (.slice k none false ((rows.take r).drop l)))) ls h :=
 an.dR fun j w jl act s=>by
  have h1:=s x (by simp [Op.operands]);rw [hx] at h1;obtain⟨b,cap,J,hn,hc,K,S,L,M⟩:=qm h1;cases b with
  | none=>simp at K
  | some b =>
   obtain⟨_,f,bQ,N⟩:=M b rfl;have O:(match lo.map act.eval with|some v=>Instr.sliceBound v r .sliceB|none=>pure 0).run P w=.ok l w:=by
    cases lo with
    | none=>simp at p ⊢; exact p.symm
    | some o =>
     obtain⟨m,n,u,y,z⟩:=p;have:=pg (P:=P) (cap:=r) u (s o (by simp [Op.operands])) y (by omega) .sliceB;simp only [Option.map_some]; rw [this,z]
   have Q:(match hi.map act.eval with|some v=>Instr.sliceBound v cap .sliceAcap|none=>pure rows.length).run P w=.ok r w:=by
    cases hi with
    | none=>simp at q ⊢; exact q.symm
    | some o =>
     obtain⟨m,n,u,y,z⟩:=q;have:=pg (P:=P) (cap:=cap) u (s o (by simp [Op.operands])) y (by omega) .sliceAcap;simp only [Option.map_some]; rw [this,z]
   refine⟨_, ?_,OE L hn hc bQ N H I⟩;have:=AV E hk F (a:=some b) (len:=rows.length) (cap:=cap) O Q;simp only [execOp,Sem.run_bind,J,Option.map_none,this,Result.andThen,Sem.run_pure,G];by_cases R:cap=l<;>simp [R]
theorem an.field {t:TypeId}{r b:TI}{fs:List (Nat×TypeId)}{x:Operand}{f o:Nat}{p:TypeId}{xs:List D}{v:A}(C:aY P t=some r) (hk:r.k=.struct fs) (l:fs[f]?=some (o,p)) (q:aY P p=some b) (s:b.k.uw=false)
  (hx:ev ts x=.a (.agg xs)) (hv:(match yy b.k with|true=>some (A.agg ((xs.drop o).take b.size))|false=>(xs[o]?).map A.d)=some v):an P (mk dst (.field t x f) ty pos aI g) ts ls h {} (.a v) ls h :=
 an.dR fun j w jl a E=>by
  have h1:=E x (by simp [Op.operands]);rw [hx] at h1;obtain⟨cs,u,y⟩:=h1;obtain⟨gs,hu,he⟩:=Dj C hk;have hg:∃fd:Field,gs[f]?=some fd/\fd.offset=o/\fd.type=p:=by
   rw [<- he,List.getElem?_map] at l;cases e:gs.toList[f]? with
   | none=>rw [e] at l; simp at l
   | some fd=>rw [e] at l; simp at l; exact⟨fd,by simpa using e,l.1,l.2⟩
  obtain⟨fd,h1,z,B⟩:=hg;cases m:yy b.k with
  | true =>
   rw [m] at hv; simp at hv; subst hv;refine⟨.agg (cs.toArray.extract o (o+b.size)), ?_,⟨(cs.drop o).take b.size, ?_,(y.drop o).take b.size⟩⟩
   ·simp [execOp,Instr.field,eU hu,h1,Go.part,z,B,Dd q (K.ux s),m,kE q,asAgg,u]
   ·congr 1; apply Array.ext'; simp [List.drop_take]
  | false =>
   rw [m] at hv;simp only [Option.map_eq_some_iff] at hv;obtain⟨d,F,rfl⟩:=hv;obtain⟨cv,G,hr⟩:=y.get F;refine⟨cv, ?_,hr⟩;simp [execOp,Instr.field,eU hu,h1,Go.part,z,B,Dd q (K.ux s),m,asAgg,u,G]
end
end Go.Ab
/-
 Maps with plain keys.
-/
namespace Go.Ab
open Go Go.RowKit
variable {au:bS}
def vZ:D->D->Option Bool
 | .str s,.str t=>some (s==t)
 | .int k m,.int k' n=>if k=k' then some (decide (m=n)) else none
 | .bool a,.bool b=>some (a==b)
 | _,_=>none
def qo (key:D):List (D×A)->Option (Option A)
 | []=>some none
 | (k,v)::r=>match vZ key k with
  | some true=>some (some v)
  | some false=>qo key r
  | none=>none
def uF (key:D) (v:A):List (D×A)->Option (List (D×A))
 | []=>some [(key,v)]
 | (k,u)::r=>match vZ key k with
  | some true=>some ((key,v)::r)
  | some false=>(uF key v r).map ((k,u)::·)
  | none=>none
def jx:K->D->Bool
 | .str,.str _=>true
 | .int _,.int _ _=>true
 | .bool,.bool _=>true
 | _,_=>false
theorem bytes_beq (a b:List UInt8):((⟨a.toArray⟩:ByteArray)==⟨b.toArray⟩)=(a==b):=by
 rw [beq_toListBytes]; simp
theorem yH {j:J}{w:World}{d:TypeDesc}{key k:D}{g v:Value}{b:Bool}(f:jx (gb d) key=true) (hk:aD j w key g) (hv:aD j w k v) (he:vZ key k=some b):Instr.sameNow d g v=some b:=by
 unfold vZ at he
 split at he
 ·cases hk; cases hv;simp only [Option.some.injEq] at he; subst he;cases d<;>simp [jx,gb] at f;simp only [Instr.sameNow,bytes_beq]
 ·cases hk; cases hv
  split at he
  ·rename_i e; subst e
   simp only [Option.some.injEq] at he; subst he;cases d<;>simp [jx,gb] at f;simp only [Instr.sameNow,if_true]; rfl
  ·simp at he
 ·cases hk; cases hv;simp only [Option.some.injEq] at he; subst he;cases d<;>simp [jx,gb] at f;simp only [Instr.sameNow]
 ·simp at he
theorem OF {j:J}{w:World}{d:TypeDesc}{key:D}{f:Value}(p:jx (gb d) key=true) (hk:aD j w key f){es:List (D×A)}{g:List MapEntry}(h:aW (lH j w) es g):∀(n:Nat) (r:Option A),qo key es=some r ->
  match r with
  | none=>Instr.findNow d f g n=some none
  | some v=>∃i cv,Instr.findNow d f g n=some (some (n+i,cv))/\di j w v cv/\∃m,g[i]?=some m/\m.val=cv/\Instr.sameNow d f m.key=some true:=by
 induction h with
 | nil=>intro n r hr; simp [qo] at hr; subst hr; rfl
 | cons hh ht q =>
  rename_i e m l B
  intro n r hr;obtain⟨k,u⟩:=e;simp only [qo] at hr
  split at hr
  ·rename_i he
   simp at hr; subst hr;have b:=yH p hk hh.1 he;exact⟨0,m.val,by simp [Instr.findNow,b],hh.2,m,rfl,rfl,b⟩
  ·rename_i he
   have b:=yH p hk hh.1 he;have:=q (n+1) r hr;cases r with
   | none=>simp only [Instr.findNow,b]; exact this
   | some v =>
    obtain⟨i,cv,h1,s,m',t,y,z⟩:=this;exact⟨i+1,cv,by simp only [Instr.findNow,b]; rw [h1,show n+1+i=n+(i+1) by omega],s,m',by simpa using t,y,z⟩
  ·simp at hr
theorem OG {j:J}{w:World}{d:TypeDesc}{key:D}{b:Value}{v:A}{cv:Value}(s:jx (gb d) key=true) (hk:aD j w key b) (hv:di j w v cv){es:List (D×A)}{f:List MapEntry}(h:aW (lH j w) es f):∀(n bD:Nat) (g:List (D×A)),uF key v es=some g ->
  (Instr.findNow d b f n=some none/\aW (lH j w) g (f++[{ key:=b,val:=cv,born:=bD }])) \/
  (∃i u m,Instr.findNow d b f n=some (some (n+i,u))/\f[i]?=some m/\Instr.sameNow d b m.key=some true/\aW (lH j w) g (f.set i { m with key:=b,val:=cv })):=by
 induction h with
 | nil=>intro n bD g he; simp [uF] at he; subst he; exact .inl ⟨rfl,.cons ⟨hk,hv⟩ .nil⟩
 | cons hh ht t =>
  rename_i e m l B
  intro n bD g he;obtain⟨k,u⟩:=e;simp only [uF] at he
  split at he
  ·rename_i hq
   simp at he; subst he;have p:=yH s hk hh.1 hq;exact .inr ⟨0,m.val,m,by simp [Instr.findNow,p],rfl,p,.cons ⟨hk,hv⟩ ht⟩
  ·rename_i hq
   have p:=yH s hk hh.1 hq;simp only [Option.map_eq_some_iff] at he;obtain⟨r,hr,rfl⟩:=he;rcases t (n+1) bD r hr with ⟨h1,q⟩|⟨i,u',m',h1,q,y,z⟩
   ·exact .inl ⟨by simp only [Instr.findNow,p]; exact h1,.cons hh q⟩
   ·exact .inr ⟨i+1,u',m',by simp only [Instr.findNow,p]; rw [h1,show n+1+i=n+(i+1) by omega],by simpa using q,y,.cons hh z⟩
  ·simp at he
theorem uG {P:Program}{t:TypeId}{f:TI}{k e:TypeId}(g:aY P t=some f) (hk:f.k=.map k e):P.underlying t=some (.map k e):=by
 obtain⟨i,d,h1,j,_,_,b,_⟩:=gh g;rw [hk] at b;cases d<;>simp [gb] at b;obtain⟨rfl,rfl⟩:=b; exact j
theorem yI {P:Program}{b:Bool}{n:Nat}{t:TypeId}{d:TypeDesc}{x:D}{v:Value}{j:J}{w0 w:World}(hu:P.underlying t=some d) (f:jx (gb d) x=true) (hx:aD j w0 x v):(Instr.checkKey b (n+1) t v).run P w=.ok () w:=by
 cases hx<;>cases d<;>simp [jx,gb] at f<;>simp [Instr.checkKey,eU hu]
section
variable {P:Program}{ts:Ts}{ls:List (List D)}{h:af}{dst:Option Tmp}{ty:TypeId}{pos:String}{aI:Array Edge}{g:Option (Nat×Bool)}
theorem OH {a b:ByteArray}(h:(a==b)=true):a=b:=by
 obtain⟨⟨x⟩⟩:=a;obtain⟨⟨y⟩⟩:=b;have h':=bytes_beq x y;have f:(x==y)=true:=by rw [<- h']; exact h
 rw [eq_of_beq f]
theorem OI (a:ByteArray):(a==a)=true:=by
 obtain⟨⟨x⟩⟩:=a;have h':=bytes_beq x x;rw [show ((⟨⟨x⟩⟩:ByteArray)==⟨⟨x⟩⟩)=(x==x) from h'];simp
theorem OJ {d:TypeDesc}{v:Value}:Instr.sameNow d v v≠some false:=by
 cases d<;>cases v<;>simp [Instr.sameNow,OI]
theorem OK {d:TypeDesc}{a b:Value}(h:Instr.sameNow d a b=some true):a=b:=by
 unfold Instr.sameNow at h
 split at h
 ·split at h
  ·rename_i e; subst e; simp at h; rw [h]
  ·simp at h
 ·exact congrArg Value.string (OH (Option.some.inj h))
 ·simp at h; rw [h]
 ·simp at h
theorem HE {d:TypeDesc}{v:Value}:∀{b:List MapEntry}{n:Nat},Instr.findNow d v b n=some none->∀m∈b,m.key≠v
 | [],_,_=>fun _ h=>by cases h
 | x::b,n,h=>fun m hm e=>by
  rw [Instr.findNow] at h
  split at h
  ·simp at h
  ·rename_i h1
   rcases List.mem_cons.1 hm with rfl|hm
   ·rw [e] at h1; exact OJ h1
   ·exact HE h m hm e
  ·simp at h
theorem nE.push {g:List MapEntry}{bD:Nat}(h:nE g bD){k:Value}(hk:∀m∈g,m.key≠k) (v:Value):nE (g++[⟨k,v,bD⟩]) (bD+1):=by
 refine⟨?_,fun m hm=>?_, ?_⟩
 ·rw [List.map_append,List.nodup_append];refine⟨h.1,by simp,fun a j b f e=>?_⟩;obtain⟨m,hm,rfl⟩:=List.mem_map.1 j;simp only [List.map_cons,List.map_nil,List.mem_singleton] at f;have:=h.2.1 m hm;omega
 ·rcases List.mem_append.1 hm with hm|hm
  ·have:=h.2.1 m hm; omega
  ·rw [List.mem_singleton.1 hm]; exact Nat.lt_succ_self _
 ·rw [List.map_append,List.nodup_append];refine⟨h.2.2,by simp,fun a j b f e=>?_⟩;obtain⟨m,hm,rfl⟩:=List.mem_map.1 j;simp only [List.map_cons,List.map_nil,List.mem_singleton] at f;exact hk m hm (e.trans f)
theorem HF {β:Type}{f:MapEntry->β}{b:List MapEntry}{i:Nat}{m m':MapEntry}(hm:b[i]?=some m) (g:f m'=f m):(b.set i m').map f=b.map f:=by
 refine List.ext_getElem? fun n=>?_;rw [List.getElem?_map,List.getElem?_map,List.getElem?_set];by_cases hn:i=n
 ·subst hn;obtain⟨bn,j⟩:=List.getElem?_eq_some_iff.1 hm;simp [bn,j,g]
 ·simp [hn]
theorem nE.set {b:List MapEntry}{bD i:Nat}{m:MapEntry}(h:nE b bD) (hm:b[i]?=some m){k v:Value}(hk:k=m.key):nE (b.set i { m with key:=k,val:=v }) bD:=by
 have e:=HF (f:=(·.born)) (m':={ m with key:=k,val:=v }) hm rfl;refine⟨by rw [e]; exact h.1,fun x hx=>?_,by rw [HF (f:=(·.key)) hm hk]; exact h.2.2⟩;have:x.born∈b.map (·.born):=by rw [<- e]; exact List.mem_map_of_mem hx
 obtain⟨y,g,j⟩:=List.mem_map.1 this;rw [<- j]; exact h.2.1 y g
def MapAt (j:J) (w:World) (id b:Nat) (es:List (D×A)):Prop:=∃(c:Nat) (f:List MapEntry) (bD:Nat),j.tok id=some ⟨some (b,c),1⟩/\w.heap[b]?=some (.map f.toArray bD)/\aW (lH j w) es f/\j.F b=0/\nE f bD
theorem AW {j:J}{w:World}{jl:List Nat}{id:Nat}{es:List (D×A)}{cv:Value}(g:iJ j w id (.map es)) (h:br j w jl (.a (.d (.map id))) cv):∃b,cv=.map (some b)/\MapAt j w id b es:=by
 have h':aD j w (.map id) cv:=h;obtain⟨b,c,k,bD,h1,l,m,p,q⟩:=g;cases h' with
 | map _ b' hi hv =>
  obtain⟨_,r⟩:=hv _ h1;obtain⟨c',f⟩:=r rfl;simp only [Option.some.injEq,Prod.mk.injEq] at f;obtain⟨rfl,rfl⟩:=f;exact⟨b,rfl,c,k,bD,h1,l,m,p,q⟩
theorem v7 {P:Program}{w:World}{b:Nat}{f:Array MapEntry}{bD:Nat}(h:w.heap[b]?=some (.map f bD)):(getObj b).run P w=.ok (.map f bD) w:=by
 simp [getObj,Sem.run,h]
theorem HG {t m p:TypeId}{q s:TI}{j:J}{w:World}{id:Nat}{es:List (D×A)}{key:D}{u:Value}{r:Option A}{ok:Bool}(y:aY P t=some q) (hk:q.k=.map m p) (B:aY P m=some s) (f:jx s.k key=true)
  {b:Nat}(hm:MapAt j w id b es) (l:aD j w key u) (C:qo key es=some r){zv:Value}(hz:r=none->(zeroValue p).run P w=.ok zv w) :
  ∃cv,(Instr.lookup t (.map (some b)) u ok).run P w=.ok (if ok then .tuple #[cv,.bool r.isSome] else cv) w/\match r with|none=>cv=zv|some v=>di j w v cv:=by
 obtain⟨_,H,bD,_,hg,E,_⟩:=hm;obtain⟨I,K,_,g,_,_,F,_⟩:=gh B;rw [<- F] at f;have z:=OF f l E 0 r C;cases r with
 | none =>
  refine⟨zv, ?_,rfl⟩;simp [Instr.lookup,eU (uG y hk),v7 hg,yI g f l,Instr.findKey,eU g,z,hz rfl]
 | some v =>
  obtain⟨i,cv,h1,G,_⟩:=z;refine⟨cv, ?_,G⟩;simp [Instr.lookup,eU (uG y hk),v7 hg,yI g f l,Instr.findKey,eU g,h1]
theorem an.OL {t f r:TypeId}{l m:TI}{x y:Operand}{id:Nat}{es:List (D×A)}{key:D}{v:A}(s:aY P t=some l) (hk:l.k=.map f r) (u:aY P f=some m) (hx:ev ts x=.a (.d (.map id))) (z:ev ts y=.a (.d key))
  (B:jx m.k key=true) (hm:h id=some (.map es)) (C:qo key es=some (some v)):an P (mk dst (.lookup t x y false) ty pos aI g) ts ls h { rh:=true } (.a v) ls h :=
 o9.r_ ⟨rfl,rfl,fun L H _ hH j w jl a hl p=>by
  have h1:=p x (by simp [Op.operands]);have q:=p y (by simp [Op.operands]);rw [hx] at h1; rw [z] at q;rw [hH rfl] at hl;obtain⟨b,E,F⟩:=AW (hl.1.obj id _ hm).2 h1;obtain⟨cv,G,I⟩:=HG (ok:=false) s hk u B F q C (zv:=undef) (by simp);exact⟨cv,by simp only [execOp,Sem.run_bind,E,G,Result.andThen,Sem.run_pure]; rfl,I⟩⟩
theorem an.OM {t f l:TypeId}{m p q:TI}{x y:Operand}{id:Nat}{es:List (D×A)}{key:D}{z:A}(B:aY P t=some m) (hk:m.k=.map f l) (C:aY P f=some p) (E:aY P l=some q) (hz:q.zero=some z)
  (hx:ev ts x=.a (.d (.map id))) (F:ev ts y=.a (.d key)) (G:jx p.k key=true) (hm:h id=some (.map es)) (I:qo key es=some none):an P (mk dst (.lookup t x y false) ty pos aI g) ts ls h { rh:=true } (.a z) ls h :=
 o9.r_ ⟨rfl,rfl,fun L H _ hH j w jl a hl r=>by
  have h1:=r x (by simp [Op.operands]);have s:=r y (by simp [Op.operands]);rw [hx] at h1; rw [F] at s;rw [hH rfl] at hl;obtain⟨R,S,J,_,U,W,_,u⟩:=gh E;rw [hz] at u;obtain⟨zv,K,M⟩:=nH u;obtain⟨b,N,O⟩:=AW (hl.1.obj id _ hm).2 h1;obtain⟨cv,Q,v⟩:=HG (ok:=false) B hk C G O s I (zv:=zv) (fun _=>by simp [zeroValue,typeInfo,J,K]);dsimp only at v
  subst v;exact⟨cv,by simp only [execOp,Sem.run_bind,N,Q,Result.andThen,Sem.run_pure]; rfl,M j w⟩⟩
theorem dm.makeMap {t:TypeId}:dm P (mk dst (.makeMap t none) ty pos aI g) ts ls h fun v aS h'=>∃id,h id=none/\v=.a (.d (.map id))/\aS=ls/\h'=h.set id (some (.map [])):=by
 intro j w jl a hl m K Q hk;have hr:(execOp a.eval (mk dst (.makeMap t none) ty pos aI g)).run P w=.ok (.value (.map (some w.heap.size))) (w.alloc (.map #[] 0)):=by simp [execOp,Instr.makeMap]
 obtain⟨h1,b⟩:=hl.dX 0;obtain⟨f,k,l⟩:=h1.N0 (af.aT _ _ _);unfold Oper.wp;rw [hr,Oper.upon_value];exact hk _ _ _ _ _ _ jl ⟨j.next,hl.1.mm (Nat.le_refl _),rfl,rfl,(af.set_set _ _ _ _)⟩ l f (Ext.refl _) (b.trans k)
theorem ON {d:TypeDesc}{a b:Value}(h:Instr.sameNow d a b=some true):Instr.sameBits 10000 b a=true:=by
 unfold Instr.sameNow at h
 split at h
 ·split at h
  ·rename_i e; subst e; simp at h; subst h; simp [Instr.sameBits]
  ·simp at h
 ·simp only [Option.some.injEq] at h;rw [beq_toListBytes] at h;simp only [Instr.sameBits,beq_toListBytes];simp at h ⊢; exact h.symm
 ·simp at h; subst h; simp [Instr.sameBits]
 ·simp at h
theorem gM.setObj {w:World}{b:Nat}{o o':Go.Obj}(h:w.heap[b]?=some o):gM w { w with heap:=w.heap.setIfInBounds b o' } b o':=by
 have bn:=jJ h;refine⟨by simp,by simp [bn],fun x hx=>?_,rfl,rfl,fZ.rfl⟩;simp [Array.getElem?_setIfInBounds,Ne.symm hx]
theorem an.mapUpdate {t M U:TypeId}{N O:TI}{x y z:Operand}{id:Nat}{es l:List (D×A)}{key:D}{v:A}(Q:aY P t=some N) (hk:N.k=.map M U) (W:aY P M=some O) (hx:ev ts x=.a (.d (.map id))) (X:ev ts y=.a (.d key)) (hz:ev ts z=.a v)
  (B:jx O.k key=true) (hm:h id=some (.map es)) (hu:uF key v es=some l) (ak:dst=none):an P (mk dst (.mapUpdate t x y z) ty pos aI g) ts ls h { rh:=true,wh:=true } .any ls (h.set id (some (.map l))):=by
 refine an.of_run fun L H _ hH j w jl a hl I=>?_;have Y:=hH rfl;subst Y;have h1:=I x (by simp [Op.operands]);have C:=I y (by simp [Op.operands]);have R:=I z (by simp [Op.operands]);rw [hx] at h1; rw [X] at C; rw [hz] at R;obtain⟨b,e,c,al,bD,bu,hg,Z,J,hB⟩:=AW (hl.1.obj id _ hm).2 h1;obtain⟨am,ao,_,E,_,_,aa,_⟩:=gh W;rw [<- aa] at B;have S:∀(p:List MapEntry) (q:Nat),aW (lH j w) l p->nE p q->(Instr.mapUpdate t (.map (some b)) (a.eval y) (a.eval z)).run P w=.ok () { w with heap:=w.heap.setIfInBounds b (.map p.toArray q) } ->
   ∃r w' cv j' F,(execOp a.eval (mk dst (.mapUpdate t x y z) ty pos aI g)).run P w=.ok r w'/\(r=.value cv\/(r=.skip/\cv=undef))/\br j' w' F .any cv/\HL j' w' F L (H.set id (some (.map l)))/\Ext jl F /\
    bN j w (aV j H jl) j' w' (aV j' (H.set id (some (.map l))) F):=by
  intro p q ab ad ae;have K:=gM.setObj (au:=au) (o':=.map p.toArray q) hg;have hle:=K.le (j:=j) J;obtain⟨f,G⟩:=hl.setObj (o':=.map l) hm (by simp [bH,bu]) (by simp [bH,bu]) J K ⟨b,c,p,q,bu,K.here,ab.imp fun _ _ h=>h.mono hle,J,ad⟩;refine⟨.skip,_,undef,j,jl, ?_,.inr ⟨rfl,rfl⟩,trivial,f,Ext.refl _,G⟩;simp only [execOp,e,Sem.run_bind,ae,Result.andThen,Sem.run_pure]
 rcases OG B C R Z 0 bD l hu with ⟨s,f⟩|⟨i,u,m,s,f,G,ah⟩
 ·refine S _ (bD+1) f (hB.push (HE s) _) ?_;simp [Instr.mapUpdate,eU (uG Q hk),v7 hg,yI E B C,Instr.findKey,eU E,s,setObj,Sem.run,hg]
 ·refine S _ bD ah (hB.set f (OK G)) ?_;have ai:=ON G;rw [Nat.zero_add] at s;simp [Instr.mapUpdate,eU (uG Q hk),v7 hg,yI E B C,Instr.findKey,eU E,s,f,Instr.keyThatStays,ai,setObj,Sem.run,hg]
  congr 2
  apply Array.ext'
  simp
  apply List.ext_getElem?
  intro n;simp only [List.getElem?_modify,List.getElem?_set];by_cases hn:i=n
  ·subst hn;have bn:=(List.getElem?_eq_some_iff.1 f).1;have aj:=(List.getElem?_eq_some_iff.1 f).2;simp [bn,aj]
  ·simp [hn]
end
end Go.Ab
