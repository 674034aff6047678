import Derived.Test.YtbghdiaepdaaeaaGreatDoorE1
import Derived.Laws.Tables
import Derived.Lib.Strings
import Derived.Laws.Slices
import Derived.Laws.Concat
import Derived.Laws.StructEq
set_option maxRecDepth 100000
set_option maxHeartbeats 2000000
set_option linter.unusedVariables false
set_option linter.unusedSimpArgs false
/-
 Code,calls and results over abstract states.
-/
namespace Go.Ab
open Go Go.RowKit
variable {ak:bf}
variable {eP:d_}
inductive K where
 | bool|int (k:IntKind)|str|ptr (e:TypeId)|slice (e:TypeId)|map (k e:TypeId)|struct (fs:List (Nat×TypeId))|func|iface|other
 deriving DecidableEq
def fE:TypeDesc->K
 | .bool=>.bool
 | .int k=>.int k
 | .string=>.str
 | .pointer e=>.ptr e
 | .slice e=>.slice e
 | .map k e=>.map k e
 | .struct fs=>.struct (fs.toList.map fun f=>(f.offset,f.type))
 | .func _ _ _=>.func
 | .interface _=>.iface
 | _=>.other
structure TI where
 k:K
 size:Nat
 bytes:Nat
 zero:Option A
def rE:List Value->Option (List D)
 | []=>some []
 | v::r=>match rz v,rE r with
  | some x,some xs=>some (x::xs)
  | _,_=>none
def ug:Option Value->Option A
 | some (.agg cs)=>(rE cs.toList).map .agg
 | some v=>(rz v).map .d
 | none=>none
def Fb (P:Program):Nat->TypeId->List TypeId
 | 0,t=>[t]
 | n+1,t=>match P.underlying t with
  | some (.struct fs)=>fs.toList.flatMap fun f=>Fb P n f.type
  | _=>[t]
def vZ (P:Program) (t:TypeId):D->D
 | .slice k tok true []=>match P.underlying t with
  | some (.slice e)=>.slice (P.cellsOf e) tok true []
  | _=>.slice k tok true []
 | x=>x
def zk (P:Program):List TypeId->List D->List D
 | t::ts,x::xs=>vZ P t x::zk P ts xs
 | _,xs=>xs
def v_ (P:Program) (t:TypeId):A->A
 | .d x=>.d (vZ P t x)
 | .agg xs=>.agg (zk P (Fb P 8 t) xs)
def aM (P:Program) (t:TypeId):Option TI :=
 match P.info? t,P.underlying t with
 | some i,some d=>some ⟨fE d,i.size,i.bytes,(ug i.zero).map (v_ P t)⟩
 | _,_=>none
theorem aB.Mo {j:J}{w:World}{k k':Nat}{tok:Option Nat}{v:Value}(h:aB j w (.slice k tok true []) v):aB j w (.slice k' tok true []) v:=by
 cases h with
 | fB _ _ ht=>exact .fB _ _ ht
theorem Fc {j:J}{w:World}{P:Program}{t:TypeId}{x:D}{v:Value}(h:aB j w x v):aB j w (vZ P t x) v:=by
 unfold vZ
 split
 ·split
  ·exact h.Mo
  ·exact h
 ·exact h
theorem Fe {j:J}{w:World}{P:Program}:∀{ts:List TypeId}{xs:List D}{b:List Value},aW (aB j w) xs b->aW (aB j w) (zk P ts xs) b
 | [],xs,_,h=>by cases xs<;>exact h
 | _::_,_,_,.nil=>.nil
 | _::ts,_,_,.cons h t=>.cons (Fc h) (Fe (ts:=ts) t)
theorem Mp {j:J}{w:World}{P:Program}{t:TypeId}{x:A}{v:Value}(h:cM j w x v):cM j w (v_ P t x) v:=by
 cases x with
 | d x=>exact Fc (x:=x) h
 | agg xs=>obtain⟨cs,e,h⟩:=h; exact⟨cs,e,Fe h⟩
theorem Ff (j:J) (w:World):∀(cs:List Value) (xs:List D),rE cs=some xs->aW (aB j w) xs cs
 | [],xs,h=>by simp [rE] at h; subst h; exact .nil
 | v::r,xs,h=>by
  simp only [rE] at h
  split at h
  ·rename_i x b h1 f
   simp at h; subst h;exact .cons (ze j w v x h1) (Ff j w r b f)
  ·simp at h
theorem fS {P:Program}{t:TypeId}{b:TI}(h:aM P t=some b) :
  ∃i d,P.info? t=some i/\P.underlying t=some d/\i.size=b.size/\i.bytes=b.bytes/\fE d=b.k/\(ug i.zero).map (v_ P t)=b.zero:=by
 unfold aM at h
 split at h
 ·rename_i i d h1 f
  simp at h; subst h;exact⟨i,d,h1,f,rfl,rfl,rfl,rfl⟩
 ·simp at h
theorem Mq {z:Option Value}{x:A}(h:ug z=some x):∃v,z=some v/\∀j w,cM j w x v:=by
 unfold ug at h
 split at h
 ·rename_i cs
  cases e:rE cs.toList with
  | none=>rw [e] at h; simp at h
  | some xs =>
   rw [e] at h; simp at h; subst h;exact⟨_,rfl,fun j w=>⟨cs.toList,by simp,Ff j w _ _ e⟩⟩
 ·rename_i v hn
  cases e:rz v with
  | none=>rw [e] at h; simp at h
  | some xs =>
   rw [e] at h; simp at h; subst h;exact⟨_,rfl,fun j w=>ze j w _ _ e⟩
 ·simp at h
theorem oq {P:Program}{t:TypeId}{z:Option Value}{x:A}(h:(ug z).map (v_ P t)=some x):∃v,z=some v/\∀j w,cM j w x v:=by
 simp only [Option.map_eq_some_iff] at h;obtain⟨y,b,rfl⟩:=h;obtain⟨v,h1,f⟩:=Mq b;exact⟨v,h1,fun j w=>Mp (f j w)⟩
def K.lF:K->Bool
 | .other=>true
 | _=>false
theorem K.qa {k:K}(h:k.lF=false):k≠.other:=fun e=>by rw [e] at h; cases h
def zl:K->Bool
 | .struct _=>true
 | _=>false
def kS (b:TI) (xs:List D) (off:Nat):Option A :=
 match zl b.k with
 | true=>match Nat.beq off 0&&Nat.beq xs.length b.size with
  | true=>some (.agg xs)
  | false=>match Nat.ble (off+b.size) xs.length with
   | true=>some (.agg ((xs.drop off).take b.size))
   | false=>none
 | false=>match xs[off]? with
  | some x=>some (.d x)
  | none=>none
theorem eZ {P:Program}{t:TypeId}{d:TypeDesc}(h:P.underlying t=some d) (w:World):(underlying t).run P w=.ok d w:=run_underlying h w
theorem Mr {P:Program}{t:TypeId}{b:TI}(g:aM P t=some b) (hk:b.k≠.other) (w:World):(isAgg t).run P w=.ok (zl b.k) w:=by
 obtain⟨i,d,h1,j,_,_,f,_⟩:=fS g;simp only [isAgg,Sem.run_bind,eZ j,Result.andThen];cases d<;>simp [fE] at f<;>first|(rw [<- f]; rfl)|(exact absurd f.symm hk)|skip
theorem kT {P:Program}{t:TypeId}{b:TI}(f:aM P t=some b) (w:World):(sizeOf t).run P w=.ok b.size w:=by
 obtain⟨i,d,h1,j,g,_⟩:=fS f;simp [sizeOf,typeInfo,h1,g]
def je (P:Program) (T:List TI):Prop:=∀t b,T[t]?=some b->aM P t=some b
structure AC [bf] (P:Program) (f:FuncId) (args:List A) (h:ah) (Post:V->ah->Prop):Prop where
 enter:∀(cF:Array Value) (w:World),(callFunc f cF).run P w=.ok (.enter f cF) w
 runs:∀(j:J) (w:World) (cF:List Value),dJ j w h->aW (cM j w) args cF->Calls P f cF.toArray w fun e w' =>
  ∃r cv j' h',e=.returned cv/\Post r h'/\aX j' w' [] r cv/\dJ j' w' h'/\bw j w (Own j h []) j' w' (Own j' h' [])
theorem AC.mono {P:Program}{f:FuncId}{args:List A}{h:ah}{Post b:V->ah->Prop}(hc:AC P f args h Post) (g:∀r h',Post r h'->b r h'):AC P f args h b :=
 ⟨hc.enter,fun j w cF hr i=>(hc.runs j w cF hr i).mono fun _ _ ⟨r,cv,j',h',e,p,rest⟩=>⟨r,cv,j',h',e,g r h' p,rest⟩⟩
def AQ [bf] [d_] (Q:Exit->St->Prop) (j:J) (w:World) (jl:List Nat) (σ:St):Exit->Act->World->Prop :=
 fun e g w'=>∃b j' f,Q e b/\dB j' w' f b g/\bw j w (Own j σ.h jl) j' w' (Own j' b.h f)
def ag [bf] [d_] (P:Program) (c:Code) (Q:Exit->St->Prop) (σ:St):Prop :=
 ∀(j:J) (w:World) (jl:List Nat) (a:Act),dB j w jl σ a->c.wp P (AQ Q j w jl σ) a w
def kU (next:St->Prop) (Q:Exit->St->Prop):Exit->St->Prop
 | .normal,σ=>next σ
 | e,σ=>Q e σ
def we (id:Nat) (Q:Exit->St->Prop):Exit->St->Prop
 | .exit i,σ=>if i=id then Q .normal σ else Q (.exit i) σ
 | e,σ=>Q e σ
theorem AQ.trans {Q:Exit->St->Prop}{j b:J}{w f:World}{jl g:List Nat}{σ i:St}(k:bw j w (Own j σ.h jl) b f (Own b i.h g)){e:Exit}{a:Act}{w':World}
  (h:AQ Q b f g i e a w'):AQ Q j w jl σ e a w' :=
 let ⟨l,j',m,hq,o,he⟩:=h
 ⟨l,j',m,hq,o,k.trans he⟩
section
variable {P:Program}{Q:Exit->St->Prop}{σ:St}
theorem ag.mono {c:Code}{Q':Exit->St->Prop}(h:ag P c Q σ) (hq:∀e σ,Q e σ->Q' e σ):ag P c Q' σ :=
 fun j w jl a b=>wp_mono (h j w jl a b) fun _ _ _ ⟨f,j',g,q,r⟩=>⟨f,j',g,hq _ _ q,r⟩
theorem ag.skip (h:Q .normal σ):ag P .skip Q σ:=fun j w jl _ b=>wp_skip ⟨σ,j,jl,h,b,bw.refl _ _ _⟩
theorem ag.ret (h:Q .ret σ):ag P .ret Q σ:=fun j w jl _ b=>wp_ret ⟨σ,j,jl,h,b,bw.refl _ _ _⟩
theorem ag.exit {id:Nat}(h:Q (.exit id) σ):ag P (.exit id) Q σ:=fun j w jl _ b=>wp_exit ⟨σ,j,jl,h,b,bw.refl _ _ _⟩
theorem ag.label {l:Nat}(h:Q .normal σ):ag P (.label l) Q σ:=fun j w jl _ b=>wp_label ⟨σ,j,jl,h,b,bw.refl _ _ _⟩
theorem ag.seq {x y:Code}(h:ag P x (kU (ag P y Q) Q) σ):ag P (.seq x y) Q σ:=by
 intro j w jl a k;refine wp_seq (wp_mono (h j w jl a k) ?_);rintro e l w' ⟨i,j',b,hq,f,g⟩;cases e with
 | normal=>exact wp_mono (hq j' w' b l f) fun e m o h=>AQ.trans g h
 | exit id=>exact⟨i,j',b,hq,f,g⟩
 | goto id=>exact⟨i,j',b,hq,f,g⟩
 | ret=>exact⟨i,j',b,hq,f,g⟩
 | panic p=>exact⟨i,j',b,hq,f,g⟩
 | outgrown=>exact⟨i,j',b,hq,f,g⟩
theorem Ms {j:J}{w:World}{jl:List Nat}{a:Act}{ts:Ts}{x:Operand}{b:Bool}(f:∀k,aX j w jl (get ts k) (a.tmps.getD k undef)) (g:ev ts x=.a (.d (.bool b))):a.eval x=.bool b:=by
 have h:=mH f x;rw [g] at h;have h':aB j w (.bool b) (a.eval x):=h;generalize a.eval x=y at h';cases h'; rfl
theorem ag.cond {c:Operand}{x y:Code}{b:Bool}(hc:ev σ.ts c=.a (.d (.bool b))) (ht:b=true->ag P x Q σ) (g:b=false->ag P y Q σ):ag P (.cond c x y) Q σ:=by
 intro j w jl a f;exact wp_cond_split (Ms f.tmps hc) (fun e=>ht e j w jl a f) (fun e=>g e j w jl a f)
theorem ag.qb {c:Operand}{x y:Code}{b:Bool}(hc:ev σ.ts c=.a (.d (.bool b))) (f:b=true) (ht:ag P x Q σ):ag P (.cond c x y) Q σ :=
 ag.cond hc (fun _=>ht) fun e=>by rw [f] at e; cases e
theorem ag.mK {c:Operand}{x y:Code}{b:Bool}(hc:ev σ.ts c=.a (.d (.bool b))) (f:b=false) (g:ag P y Q σ):ag P (.cond c x y) Q σ :=
 ag.cond hc (fun e=>by rw [f] at e; cases e) fun _=>g
theorem ag.block {id:Nat}{c:Code}(h:ag P c (we id Q) σ):ag P (.block id c) Q σ:=by
 intro j w jl a l;refine wp_block (wp_mono (h j w jl a l) ?_);rintro e m w' ⟨b,j',f,hq,g,k⟩;cases e with
 | exit i =>
  simp only [we] at hq;simp only [Exit.inBlock]
  split
  ·rename_i e; rw [if_pos e] at hq; exact⟨b,j',f,hq,g,k⟩
  ·rename_i e; rw [if_neg e] at hq; exact⟨b,j',f,hq,g,k⟩
 | normal=>exact⟨b,j',f,hq,g,k⟩
 | goto id=>exact⟨b,j',f,hq,g,k⟩
 | ret=>exact⟨b,j',f,hq,g,k⟩
 | panic o=>exact⟨b,j',f,hq,g,k⟩
 | outgrown=>exact⟨b,j',f,hq,g,k⟩
theorem ag.loop {α:Type}{c:Code}(inv:α->St) (m:α->Nat) (pre:α->Prop) (s:α) (h0:pre s)
  (hr:∀x,pre x->ag P c (kU (fun g=>∃y,g=inv y/\pre y/\m y<m x) Q) (inv x)):ag P (.loop c) Q (inv s):=by
 intro j w jl a t b k cs;have key:∀n x,m x=n->pre x->∀(j:J) (w:World) (jl:List Nat) (a:Act),dB j w jl (inv x) a ->
   ∃e r w',AQ Q j w jl (inv x) e r w'/\Arrives P (lone (b.at a (.code c::.inLoop c::k)) cs w) b k cs e r w':=by
  intro n;induction n using Nat.strongRecOn with
  | _ n u =>
   intro x hn v j w jl a t;obtain⟨e,a1,i,⟨g,j',o,hq,p,q⟩,f⟩:=hr x v j w jl a t b (.inLoop c::k) cs;cases e with
   | normal =>
    obtain⟨y,rfl,z,aY⟩:=hq;obtain⟨B,a2,C,E,F⟩:=u (m y) (hn▸aY) y rfl z j' i o a1 p;exact⟨B,a2,C,AQ.trans q E,.of_steps (Steps.trans f (.one step_inLoop)) F⟩
   | exit id=>exact⟨_,a1,i,⟨g,j',o,hq,p,q⟩,.pass (x:=.inLoop c) rfl (fun _ _=>.inl (by simp)) f⟩
   | goto l=>exact⟨_,a1,i,⟨g,j',o,hq,p,q⟩,.pass (x:=.inLoop c) rfl (fun _ _=>.inl (by simp)) f⟩
   | ret=>exact⟨_,a1,i,⟨g,j',o,hq,p,q⟩,.pass (x:=.inLoop c) rfl (fun _ _=>.inl (by simp)) f⟩
   | panic G=>exact⟨_,a1,i,⟨g,j',o,hq,p,q⟩,.pass (x:=.inLoop c) rfl (fun _ _=>.inl (by simp)) f⟩
   | outgrown=>exact⟨_,a1,i,⟨g,j',o,hq,p,q⟩,.pass (x:=.inLoop c) rfl (fun _ _=>.inl (by simp)) f⟩
 obtain⟨e,r,w',hq,f⟩:=key _ s rfl h0 j w jl a t;exact⟨e,r,w',hq,.of_steps (.one step_loop) f⟩
theorem ag.region {id:Nat}{l:List Oper}(h:aQ P l.toArray l (Q .normal) σ):ag P (.region id l.toArray false) Q σ:=by
 intro j w jl a b;exact wp_region_lit (h j w jl a b _ fun f j' w' g m hq i k=>⟨f,j',g,hq,i,k⟩)
theorem ag.draw (hm:P.follows .mixedOrders=true){id:Nat}{l:List Oper}(h:au P l.toArray σ.n l [] (Q .normal) σ):ag P (.region id l.toArray true) Q σ:=by
 intro j w jl a b;exact au.wp hm h rfl b fun f j' w' g m hq i k=>⟨f,j',g,hq,i,k⟩
def cw [bf] [d_] (σ b:St):Prop:=∀(j:J) (w:World) (jl:List Nat) (a:Act),dB j w jl σ a->∃j' f,dB j' w f b a/\bw j w (Own j σ.h jl) j' w (Own j' b.h f)
theorem cw.refl (σ:St):cw σ σ:=fun j _ jl _ b=>⟨j,jl,b,bw.refl _ _ _⟩
theorem cw.trans {σ b f:St}(h:cw σ b) (h':cw b f):cw σ f:=by
 intro j w jl a g;obtain⟨i,k,l,m⟩:=h j w jl a g;obtain⟨o,p,q,r⟩:=h' i w k a l;exact⟨o,p,q,m.trans r⟩
theorem ag.rF {c:Code}{b:St}(hw:cw σ b) (h:ag P c Q b):ag P c Q σ:=by
 intro j w jl a f;obtain⟨j',g,i,k⟩:=hw j w jl a f;exact wp_mono (h j' w g a i) fun e a w h=>AQ.trans k h
theorem ag.post {c:Code}(h:ag P c (fun e f=>∃b,cw f b/\Q e b) σ):ag P c Q σ:=by
 intro j w jl a g;refine wp_mono (h j w jl a g) ?_;rintro e i w' ⟨s,j',k,⟨b,hw,hq⟩,l,m⟩;obtain⟨o,p,q,r⟩:=hw j' w' k i l;exact⟨b,o,p,hq,q,m.trans r⟩
inductive aS (ts:Ts) (n:Nat):Ts->Prop where
 | nil:aS ts n []
 | cons {k:Nat}{v:V}{r:Ts}(h:get ts k=v) (hv:(∀i off,v=.cV i off->i<n)/\∀c i off,v=.gr c i off->i<n) (t:aS ts n r):aS ts n ((k,v)::r)
theorem aS.get {ts:Ts}{n:Nat}{ts':Ts}(h:aS ts n ts') (k:Nat):Ab.get ts' k=.any\/(Ab.get ts' k=Ab.get ts k/\(∀i off,Ab.get ts' k=.cV i off->i<n)/\∀c i off,Ab.get ts' k=.gr c i off->i<n):=by
 induction h with
 | nil=>exact .inl rfl
 | @cons k' v r h hv t b =>
  by_cases e:k'=k
  ·subst e; rw [fD]; exact .inr ⟨h.symm,hv⟩
  ·rw [eN _ _ e]; exact b
theorem cw.keep {n:Nat}{ts ts':Ts}{ls:List (List D)}{h:ah}(m:Nat) (hk:aS ts m ts'):cw ⟨n,ts,ls,h⟩ ⟨n,ts',ls.take m,h⟩:=by
 intro j w jl a g;obtain⟨hl,p⟩:=g.hl.trim m;refine⟨j,jl.take m,⟨g.defers,g.size,fun k=>?_,hl⟩,p⟩;rcases hk.get k with e|⟨e,aY,q⟩
 ·show aX _ _ _ (Ab.get ts' k) _;rw [e]; trivial
 ·show aX _ _ _ (Ab.get ts' k) _;have hv:=g.tmps k;have hv:aX j w jl (Ab.get ts k) (a.tmps.getD k undef):=hv;rw [<- e] at hv;cases f:Ab.get ts' k with
  | any=>trivial
  | a x=>rw [f] at hv; exact hv
  | cV i off =>
   rw [f] at hv;obtain⟨b,l,o⟩:=hv;exact⟨b,by rw [List.getElem?_take_of_lt (aY i off f)]; exact l,o⟩
  | cS xs=>rw [f] at hv; exact hv
  | gd c x=>rw [f] at hv; exact hv
  | full k rows=>rw [f] at hv; exact hv
  | oe c k rows=>rw [f] at hv; exact hv
  | gr c i off =>
   rw [f] at hv;refine⟨fun hc=>?_,hv.2⟩;obtain⟨b,l,o⟩:=hv.1 hc;exact⟨b,by rw [List.getElem?_take_of_lt (q c i off f)]; exact l,o⟩
theorem cw.forget {n:Nat}{ts:Ts}{ls:List (List D)}{h h':ah}(hh:∀id o,h' id=some o->h id=some o):cw ⟨n,ts,ls,h⟩ ⟨n,ts,ls,h'⟩:=by
 intro j w jl a b;obtain⟨hl,f⟩:=b.hl.forget hh;exact⟨j,jl,⟨b.defers,b.size,b.tmps,hl⟩,f⟩
end
def mL:Nat->List A->Ts
 | _,[]=>[]
 | k,x::r=>(k,.a x)::mL (k+1) r
theorem zm {j:J}{w:World}(f:Nat->Value):∀(k:Nat) (args:List A) (cF:List Value),aW (cM j w) args cF->(∀i v,cF[i]?=some v->f (k+i)=v) ->
  ∀t,aX j w [] (get (mL k args) t) (f t)
 | k,_,_,.nil,_,_=>trivial
 | k,_,_,.cons (a:=x) (b:=v) (l:=l) (m:=m) h ht,g,t=>by
  by_cases e:k=t
  ·subst e;simp only [mL];rw [fD];have:=g 0 v rfl;rw [Nat.add_zero] at this;rw [this]; exact h
  ·simp only [mL];rw [eN _ _ e];exact zm f (k+1) l m ht (fun i v hv=>by have:=g (i+1) v (by simpa using hv); rw [<- this]; congr 1; omega) t
def uh (T:List TI) (σ:St):ResultVar->Option A
 | .tmp t=>match get σ.ts t with
  | .a x=>some x
  | _=>none
 | .cell t ty=>match get σ.ts t,T[ty]? with
  | .cV i off,some b=>match b.k.lF,σ.ls[i]? with
   | false,some xs=>kS b xs off
   | _,_=>none
  | _,_=>none
def jf (T:List TI) (σ:St):List ResultVar->Option (List A)
 | []=>some []
 | r::rs=>match uh T σ r,jf T σ rs with
  | some x,some xs=>some (x::xs)
  | _,_=>none
def iG:List A->V
 | [x]=>.a x
 | xs=>.cS xs
end Go.Ab
/-
 Loads,stores and results; from the walk of a body to the contract of a function.
-/
namespace Go.Ab
open Go Go.RowKit
variable {ak:bf}
section
variable {eP:d_}
theorem aB.one {j:J}{w:World}{x:D}{v:Value}(h:aB j w x v):v.oneCell'=true:=by cases h<;>rfl
def Cells (j:J) (w:World) (b o:Nat) (xs:List D):Prop:=∀i x,xs[i]?=some x->∃v,w.cell? ⟨b,o+i,none⟩=some v/\aB j w x v
theorem add_plain (b o n:Nat):(⟨b,o,none⟩:Addr).add n=⟨b,o+n,none⟩:=by unfold Addr.add; split<;>simp_all
theorem zn {P:Program}{j:J}{w:World}{b o:Nat}:∀(xs:List D),(∀i x,xs[i]?=some x->∃v,w.cell? ⟨b,o+i,none⟩=some v/\aB j w x v) ->
  ∃cs:List Value,aW (aB j w) xs cs/\(loadCells ⟨b,o,none⟩ xs.length).run P w=.ok cs.toArray w:=by
 intro xs h;have f:∃cs:List Value,aW (aB j w) xs cs/\∀i v,cs[i]?=some v->w.cell? ⟨b,o+i,none⟩=some v:=by
  induction xs generalizing o with
  | nil=>exact⟨[],.nil,by simp⟩
  | cons x r g =>
   obtain⟨v,hv,hr⟩:=h 0 x rfl;obtain⟨cs,f,k⟩:=g (o:=o+1) fun i y l=>by
    have:=h (i+1) y (by simpa using l)
    rwa [show o+(i+1)=o+1+i by omega] at this
   refine⟨v::cs,.cons hr f,fun i u hu=>?_⟩;cases i with
   | zero=>simp at hu; subst hu; exact hv
   | succ i=>rw [show o+(i+1)=o+1+i by omega]; exact k i u (by simpa using hu)
 obtain⟨cs,h1,m⟩:=f;refine⟨cs,h1, ?_⟩;rw [h1.length];exact run_loadCells_list w _ cs fun i v hv=>by rw [add_plain]; exact m i v hv
theorem qc {P:Program}{j:J}{w:World}{b o off:Nat}{xs:List D}(hc:Cells j w b o xs){t:TypeId}{l:TI}(p:aM P t=some l) (hk:l.k≠.other){x:A}(hl:kS l xs off=some x) :
  ∃v,(loadVar t ⟨b,o+off,none⟩).run P w=.ok v w/\cM j w x v:=by
 unfold kS at hl;simp only [loadVar,Sem.run_bind,Mr p hk,Result.andThen];cases s:zl l.k with
 | false =>
  rw [s] at hl;dsimp only at hl
  split at hl
  ·rename_i y f
   simp at hl; subst hl;obtain⟨v,hv,hr⟩:=hc off y f;refine⟨v, ?_,hr⟩;simp [hv]
  ·simp at hl
 | true =>
  rw [s] at hl;dsimp only at hl;have z:∀g:List D,g.length=l.size->(∀i y,g[i]?=some y->xs[off+i]?=some y)->∃v,(loadCells ⟨b,o+off,none⟩ l.size).run P w=.ok v w/\cM j w (.agg g) (.agg v):=by
   intro g hlen q;obtain⟨cs,h1,m⟩:=zn (P:=P) (j:=j) (w:=w) (b:=b) (o:=o+off) g fun i y f=>by
    have:=hc (off+i) y (q i y f)
    rwa [<- Nat.add_assoc] at this
   rw [hlen] at m;exact⟨_,m,cs,rfl,h1⟩
  have u:∀g:List D,g.length=l.size->(∀i y,g[i]?=some y->xs[off+i]?=some y) ->
    ∃v,((Sem.run P (if true=true then Value.agg <$> (do loadCells ⟨b,o+off,none⟩ (<- sizeOf t)) else load ⟨b,o+off,none⟩)) w)=.ok v w/\cM j w (.agg g) v:=by
   intro g hlen q;obtain⟨v,h1,m⟩:=z g hlen q;exact⟨.agg v,by simp [kT p,h1],m⟩
  split at hl
  ·rename_i r
   simp at hl; subst hl;simp only [Bool.and_eq_true] at r;have B:off=0:=Nat.eq_of_beq_eq_true r.1;have C:xs.length=l.size:=Nat.eq_of_beq_eq_true r.2;obtain⟨v,h1,m⟩:=u xs C fun i y f=>by rw [B,Nat.zero_add]; exact f
   exact⟨v,by simpa [kT p] using h1,m⟩
  ·split at hl
   ·rename_i E
    simp at hl; subst hl;have hle:=Nat.le_of_ble_eq_true E;obtain⟨v,h1,m⟩:=u ((xs.drop off).take l.size) (by simp; omega) fun i y f=>by
     rw [List.getElem?_take] at f
     split at f
     ·rw [List.getElem?_drop] at f; exact f
     ·simp at f
    exact⟨v,by simpa [kT p] using h1,m⟩
   ·simp at hl
theorem jL.cells {j:J}{w:World}{b:Nat}{xs:List D}(h:jL j w b xs):Cells j w b 0 xs:=by
 obtain⟨cs,e,hh,f,_⟩:=h;intro i x hi;obtain⟨v,hv,hr⟩:=f.get hi;exact⟨v,by rw [Nat.zero_add,cell_of_row w b i cs.toArray e (0,0) hh]; simpa using hv,hr⟩
def cT {α:Type}:List α->Nat->List α->List α
 | l,_,[]=>l
 | l,n,v::r=>cT (l.set n v) (n+1) r
theorem rG {α:Type}:∀(l:List α) (n:Nat) (r:List α),(cT l n r).length=l.length
 | l,_,[]=>rfl
 | l,n,v::r=>by rw [cT,rG]; simp
theorem aW.cT {α β:Type}{R:α->β->Prop}{l:List α}{m:List β}(h:aW R l m):∀(n:Nat){r:List α}{s:List β},aW R r s->aW R (Ab.cT l n r) (Ab.cT m n s):=by
 intro n r s hr;induction hr generalizing l m n with
 | nil=>exact h
 | cons x _ b=>exact b (h.set x n) (n+1)
theorem eY.trans {w f g:World}{b:Nat}{o o':Go.Obj}(h:eY w f b o) (h':eY f g b o'):eY w g b o' :=
 ⟨h'.size.trans h.size,h'.here,fun x i=>(h'.other x i).trans (h.other x i),h'.os.trans h.os,h'.tape.trans h.tape,h'.output.trans h.output⟩
theorem eY.same {w:World}{b:Nat}{o:Go.Obj}(h:w.heap[b]?=some o):eY w w b o:=⟨rfl,h,fun _ _=>rfl,rfl,rfl,fC.rfl⟩
theorem eY.setCell {w:World}{b i:Nat}{cs:List Value}{e:TypeId}(h:w.heap[b]?=some (.cells cs.toArray e (0,0))) (v:Value):eY w (w.setCell ⟨b,i,none⟩ v) b (.cells (cs.set i v).toArray e (0,0)):=by
 refine⟨by simp, ?_,fun x f=>heap_setCell_other w _ x v f,rfl,rfl,fC.rfl⟩;have aY:=fO h;simp only [World.setCell,Array.getElem?_modify,if_true,h,Option.map_some];simp
theorem wi {P:Program}{b off:Nat}{e:TypeId}:∀(g:List Value) (i:Nat) (cs:List Value) (w:World),w.heap[b]?=some (.cells cs.toArray e (0,0))->off+i+g.length<=cs.length ->
  (∀v∈g,v.oneCell'=true)->∃w',(storeCells ⟨b,off,none⟩ g i).run P w=.ok () w'/\eY w w' b (.cells (cT cs (off+i) g).toArray e (0,0))
 | [],i,cs,w,f,_,_=>⟨w,by simp [storeCells],eY.same f⟩
 | v::rest,i,cs,w,f,hl,h1=>by
  simp only [List.length_cons] at hl;have hu:=eY.setCell (ak:=ak) (i:=off+i) f v;obtain⟨w',j,k⟩:=wi (P:=P) (off:=off) (e:=e) rest (i+1) (cs.set (off+i) v) _ hu.here (by simp; omega) (fun x l=>h1 x (by simp [l]));refine⟨w', ?_,hu.trans k⟩;have m:w.cell? ⟨b,off+i,none⟩=some (cs[off+i]'(by omega)):=by
   rw [cell_of_row w b (off+i) cs.toArray e (0,0) f];rw [Array.getElem?_eq_getElem (by simp; omega)]; simp
  have o:w.frozen? ⟨b,off+i,none⟩=false:=frozen_of_row w b _ cs.toArray e f;have p:(store ((⟨b,off,none⟩:Addr).add i) v).run P w=.ok () (w.setCell ⟨b,off+i,none⟩ v):=by
   rw [add_plain,run_store P w _ v _ (h1 v (by simp)),m];simp [o]
  simp only [storeCells,Sem.run_bind,p,Result.andThen,j]
def cn:A->List D
 | .d x=>[x]
 | .agg xs=>xs
theorem cM.cells {j:J}{w:World}{x:A}{v:Value}(h:cM j w x v):aW (aB j w) (cn x) v.cells.toList:=by
 cases x with
 | d x =>
  have b:aB j w x v:=h;have:v.cells=#[v]:=by cases b<;>rfl
  rw [this];exact .cons b .nil
 | agg xs=>obtain⟨cs,e,h⟩:=h; subst e; simpa [Value.cells,cn] using h
theorem zo {j:J}{w:World}{xs:List D}{cs:List Value}(h:aW (aB j w) xs cs):∀v∈cs,v.oneCell'=true:=by
 induction h with
 | nil=>simp
 | cons x _ b =>
  intro v hv;rcases List.mem_cons.1 hv with e|e
  ·rw [e]; exact x.one
  ·exact b v e
theorem uj {P:Program}{j:J}{w:World}{b off:Nat}{e:TypeId}{cs:List Value}(g:w.heap[b]?=some (.cells cs.toArray e (0,0))){t:TypeId}{f:TI}(i:aM P t=some f){x:A}{v:Value}(hv:cM j w x v)
  (k:(cn x).length=f.size) (hl:off+f.size<=cs.length):∃w',(storeVar t ⟨b,off,none⟩ v).run P w=.ok () w'/\eY w w' b (.cells (cT cs off v.cells.toList).toArray e (0,0)):=by
 have hc:=hv.cells;have hlen:v.cells.size=f.size:=by rw [<- k,hc.length]; simp
 obtain⟨w',h1,l⟩:=wi (P:=P) (off:=off) (e:=e) v.cells.toList 0 cs w g (by simp; omega) (zo hc);refine⟨w', ?_,by simpa using l⟩;simp [storeVar,kT i,hlen,h1]
theorem Mt {P:Program}{T:List TI}(ew:je P T){σ:St}{j:J}{w:World}{jl:List Nat}{a:Act}(f:dB j w jl σ a){r:ResultVar}{x:A}(h:uh T σ r=some x) :
  ∃v,(match r with|.tmp t=>pure (a.tmps.getD t undef)|.cell t ty=>do loadVar ty (<- asAddr (a.tmps.getD t undef)):Sem Value).run P w=.ok v w/\cM j w x v:=by
 cases r with
 | tmp t =>
  have hv:=f.tmps t;simp only [uh] at h
  split at h
  ·rename_i y l
   simp at h; subst h;rw [l] at hv;exact⟨_,rfl,hv⟩
  ·simp at h
 | cell t ty =>
  have hv:=f.tmps t;simp only [uh] at h
  split at h
  ·rename_i i off u h1 m
   rw [h1] at hv;obtain⟨b,o,e⟩:=hv
   split at h
   ·rename_i xs hk p
    obtain⟨z,g,q⟩:=f.hl.2.each.get p;rw [o] at g; simp only [Option.some.injEq] at g; subst g;obtain⟨v,k,s⟩:=qc (P:=P) q.cells (ew _ _ m) (K.qa hk) h;refine⟨v, ?_,s⟩;rw [Nat.zero_add] at k;simp [e,asAddr,k]
   ·simp at h
  ·simp at h
theorem zq {P:Program}{T:List TI}(ew:je P T){σ:St}{j:J}{w:World}{jl:List Nat}{a:Act}(f:dB j w jl σ a):∀(rs:List ResultVar) (xs:List A),jf T σ rs=some xs ->
  ∃b:List Value,(rs.mapM fun r=>(match r with|.tmp t=>pure (a.tmps.getD t undef)|.cell t ty=>do loadVar ty (<- asAddr (a.tmps.getD t undef)):Sem Value)).run P w=.ok b w/\aW (cM j w) xs b
 | [],xs,h=>by simp [jf] at h; subst h; exact⟨[],by simp,.nil⟩
 | r::rs,xs,h=>by
  simp only [jf] at h
  split at h
  ·rename_i x g h1 i
   simp at h; subst h;obtain⟨v,k,l⟩:=Mt ew f h1;obtain⟨b,m,o⟩:=zq ew f rs g i;refine⟨v::b, ?_,.cons l o⟩;rw [List.mapM_cons,Sem.run_bind,k];simp only [Result.andThen,Sem.run_bind,m,Sem.run_pure]
  ·simp at h
def bz (T:List TI) (rs:List ResultVar) (Post:V->ah->Prop):Exit->St->Prop:=fun e σ =>
 (e=.normal\/e=.ret)/\∃xs h',jf T σ rs=some xs/\(∀id o,h' id=some o->σ.h id=some o)/\Post (iG xs) h'
theorem bz.normal {T:List TI}{rs:List ResultVar}{Post:V->ah->Prop}{σ:St}{xs:List A}(h:jf T σ rs=some xs) (b:Post (iG xs) σ.h):bz T rs Post .normal σ:=⟨.inl rfl,xs,σ.h,h,fun _ _ h=>h,b⟩
end
theorem wj {P:Program}{T:List TI}(ew:je P T){eP:d_}{fn:Func}{σ:St}{j:J}{w:World}{jl:List Nat}{a:Act}(f:dB j w jl σ a){rs:List ResultVar}(g:fn.results.toList=rs){xs:List A}(h:jf T σ rs=some xs) :
  ∃v,(results fn a.tmps).run P w=.ok v w/\aX j w [] (iG xs) v:=by
 subst g;obtain⟨b,i,k⟩:=zq (P:=P) ew f fn.results.toList xs h;refine⟨if h:b.toArray.size=1 then b.toArray[0] else .tuple b.toArray, ?_, ?_⟩
 ·unfold results;rw [Sem.run_bind,Array.mapM_eq_mapM_toList];rw [Sem.run_map];rw [show (List.mapM _ fn.results.toList:Sem (List Value))=List.mapM (fun r=>(match r with|.tmp t=>pure (a.tmps.getD t undef)|.cell t ty=>do loadVar ty (<- asAddr (a.tmps.getD t undef)):Sem Value)) fn.results.toList from by
   congr 1]
  rw [i];simp [Result.andThen]
 ·cases k with
  | nil=>exact⟨[],rfl,.nil⟩
  | cons h1 l =>
   cases l with
   | nil=>simpa [iG,aX] using h1
   | cons m o=>exact⟨_,by simp,.cons h1 (.cons m o)⟩
theorem AC.of_wp {P:Program}{T:List TI}(ew:je P T){f:FuncId}{fn:Func}{c:Code}{args:List A}{h:ah}{Post:V->ah->Prop}(q:∀(cF:Array Value) (w:World),(callFunc f cF).run P w=.ok (.enter f cF) w) (s:P.funcs[f]?=some fn) (u:fn.body=some c){n:Nat}(hn:fn.ntmps=n){rs:List ResultVar}(x:fn.results.toList=rs) (hl:Nat.ble args.length n=true)
  (hw:ag P c (bz T rs Post) ⟨n,mL 0 args,[],h⟩):AC P f args h Post:=by
 subst hn x;have hl:=Nat.le_of_ble_eq_true hl;refine⟨q,fun j w cF hr o=>?_⟩;refine calls_of_wp s u (wp_mono (hw j w [] _ ?_) ?_)
 ·have hlen:=o.length;refine⟨rfl,by simp; omega,fun t=>?_,⟨hr,⟨.nil,by simp,by simp⟩⟩⟩;refine zm (fun t=>(cF.toArray++Array.replicate (fn.ntmps-cF.toArray.size) undef).getD t undef) 0 args cF o (fun i v hv=>?_) t;rw [Nat.zero_add,Array.getD_eq_getD_getElem?,Array.getElem?_append];have:i<cF.length:=(List.getElem?_eq_some_iff.1 hv).1;simp [this];exact(List.getElem?_eq_some_iff.1 hv).2
 ·rintro e k w' ⟨Q,j',R,⟨he,xs,h',y,z,B⟩,b,C⟩;obtain⟨l,E,F⟩:=zq ew b fn.results.toList xs y;have G:∃v,(results fn k.tmps).run P w'=.ok v w'/\aX j' w' [] (iG xs) v:=by
   refine⟨if h:l.toArray.size=1 then l.toArray[0] else .tuple l.toArray, ?_, ?_⟩
   ·unfold results;rw [Sem.run_bind,Array.mapM_eq_mapM_toList];rw [Sem.run_map];rw [show (List.mapM _ fn.results.toList:Sem (List Value))=List.mapM (fun r=>(match r with|.tmp t=>pure (k.tmps.getD t undef)|.cell t ty=>do loadVar ty (<- asAddr (k.tmps.getD t undef)):Sem Value)) fn.results.toList from by
     congr 1]
    rw [E];simp [Result.andThen]
   ·cases F with
    | nil=>exact⟨[],rfl,.nil⟩
    | cons h1 H =>
     cases H with
     | nil=>simpa [iG,aX] using h1
     | cons I J=>exact⟨_,by simp,.cons h1 (.cons I J)⟩
  obtain⟨v,hv,K⟩:=G;obtain⟨L,M⟩:=b.hl.trim 0;obtain⟨N,O⟩:=L.forget z;have p:∃r cv g m,Ending.returned v=.returned cv/\Post r m/\aX g w' [] r cv/\dJ g w' m/\bw j w (Own j h []) g w' (Own g m []) :=
   ⟨iG xs,v,j',h',rfl,B,K,N.1,(C.trans M).trans O⟩
  rcases he with he|he<;>subst he
  ·exact⟨b.defers,v,hv,p⟩
  ·exact⟨b.defers,v,hv,p⟩
end Go.Ab
/-
 The operations that leave the world alone.
-/
namespace Go.Ab
open Go Go.RowKit
variable {ak:bf}
def kV (P:Program) (o:Oper) (ts:Ts) (ls:List (List D)) (h:ah) (fx:Fx) (v:V):Prop :=
 fx.wl=false/\fx.wh=false/\∀L H,(fx.rl=true->L=ls)->(fx.rh=true->H=h)->∀(j:J) (w:World) (jl:List Nat) (a:Act),HL j w jl L H ->
  (∀x,x∈o.op.operands->aX j w jl (ev ts x) (a.eval x))->∃cv,(execOp a.eval o).run P w=.ok (.value cv) w/\aX j w jl v cv
theorem kV.mM {P:Program}{o:Oper}{ts:Ts}{ls:List (List D)}{h:ah}{fx:Fx}{v:V}(b:kV P o ts ls h fx v):ar P o ts ls h fx v ls h:=by
 obtain⟨h1,f,b⟩:=b;intro L H g hH j w jl a hl i K Q hk;rw [h1,Bool.or_false] at g;rw [f,Bool.or_false] at hH;obtain⟨cv,hr,hv⟩:=b L H g hH j w jl a hl i;unfold Oper.wp;rw [hr,Oper.upon_value];exact hk v L H cv j w jl ⟨rfl,by rw [h1]; rfl,by rw [f]; rfl⟩ hv hl (Ext.refl _) (bw.refl _ _ _)
section
variable {P:Program}{ts:Ts}{ls:List (List D)}{h:ah}{dst:Option Tmp}{ty:TypeId}{pos:String}{aC:Array Edge}{g:Option (Nat×Bool)}
abbrev mk (dst:Option Tmp) (op:Op) (ty:TypeId) (pos:String) (aC:Array Edge) (g:Option (Nat×Bool)):Oper:=⟨dst,op,ty,pos,aC,g⟩
theorem ar.dU {o:Oper}{v:V}(b:∀(j:J) (w:World) (jl:List Nat) (a:Act),(∀x,x∈o.op.operands->aX j w jl (ev ts x) (a.eval x))->∃cv,(execOp a.eval o).run P w=.ok (.value cv) w/\aX j w jl v cv) :
  ar P o ts ls h {} v ls h :=
 kV.mM ⟨rfl,rfl,fun _ _ _ _ j w jl a _ f=>b j w jl a f⟩
theorem jg {j:J}{w:World}{jl:List Nat}{b:Bool}{cv:Value}(h:aX j w jl (.a (.d (.bool b))) cv):cv=.bool b:=by
 have h':aB j w (.bool b) cv:=h;cases h'; rfl
theorem ir {j:J}{w:World}{jl:List Nat}{k:IntKind}{n:Int}{cv:Value}(h:aX j w jl (.a (.d (.int k n))) cv):cv=.int k n:=by
 have h':aB j w (.int k n) cv:=h;cases h'; rfl
theorem jh {j:J}{w:World}{jl:List Nat}{s:List UInt8}{cv:Value}(h:aX j w jl (.a (.d (.str s))) cv):cv=.string ⟨s.toArray⟩/\s.length<=eF:=by
 have h':aB j w (.str s) cv:=h;cases h' with
 | str _ b=>exact⟨rfl,b⟩
theorem zu {j:J}{w:World}{jl:List Nat}{i off:Nat}{cv:Value}(h:aX j w jl (.cV i off) cv):∃b,jl[i]?=some b/\cv=.pointer (some ⟨b,off,none⟩):=h
theorem Fg {j:J}{w:World}{jl:List Nat}{xs:List D}{cv:Value}(h:aX j w jl (.a (.d (.view xs))) cv):∃a f,cv=.pointer (some a)/\At j w a xs.length f/\∀i (h:i<xs.length),aB j w xs[i] (f i):=by
 have h':aB j w (.view xs) cv:=h;cases h' with
 | view _ a f bH hr=>exact⟨a,f,rfl,bH,hr⟩
theorem rH {j:J}{w:World}{jl:List Nat}{id off:Nat}{cv:Value}(h:aX j w jl (.a (.d (.ptr id off))) cv):cv=.pointer (some ⟨j.out id,off,none⟩)/\id<j.next:=by
 have h':aB j w (.ptr id off) cv:=h;cases h' with
 | ptr _ _ hi=>exact⟨rfl,hi⟩
theorem ar.move {x:Operand}{v:V}(b:ev ts x=v):ar P (mk dst (.move x) ty pos aC g) ts ls h {} v ls h :=
 ar.dU fun j w jl a f=>⟨a.eval x,rfl,b▸f x (by simp [Op.operands])⟩
theorem ar.assign {x:Operand}{v:V}(b:ev ts x=v):ar P (mk dst (.assign x) ty pos aC g) ts ls h {} v ls h :=
 ar.dU fun j w jl a f=>⟨a.eval x,rfl,b▸f x (by simp [Op.operands])⟩
theorem ar.Mu {c x y:Operand}{b:Bool}{v:V}(hc:ev ts c=.a (.d (.bool b))) (i:b=true) (k:ev ts x=v):ar P (mk dst (.pick c x y) ty pos aC g) ts ls h {} v ls h :=
 ar.dU fun j w jl a f=>by
  have h1:=f c (by simp [Op.operands]);rw [hc] at h1;refine⟨a.eval x, ?_,k▸f x (by simp [Op.operands])⟩;simp [execOp,jg h1,i,asBool]
theorem ar.Fh {c x y:Operand}{b:Bool}{v:V}(hc:ev ts c=.a (.d (.bool b))) (i:b=false) (k:ev ts y=v):ar P (mk dst (.pick c x y) ty pos aC g) ts ls h {} v ls h :=
 ar.dU fun j w jl a f=>by
  have h1:=f c (by simp [Op.operands]);rw [hc] at h1;refine⟨a.eval y, ?_,k▸f y (by simp [Op.operands])⟩;simp [execOp,jg h1,i,asBool]
theorem At.cells {j:J}{w:World}{a:Addr}{xs:List D}{f:Nat->Value}(bH:At j w a xs.length f) (hr:∀i (h:i<xs.length),aB j w xs[i] (f i)):Cells j w a.block a.off xs:=by
 intro i x b;have hi:=(List.getElem?_eq_some_iff.1 b).1;refine⟨f i,(bH.2 i hi).2, ?_⟩;have:=hr i hi;rw [(List.getElem?_eq_some_iff.1 b).2] at this; exact this
theorem ar.rI {t:TypeId}{f:TI}{x:Operand}{i off:Nat}{xs:List D}{v:A}(o:aM P t=some f) (hk:f.k.lF=false) (p:ev ts x=.cV i off) (hl:ls[i]?=some xs) (hv:kS f xs off=some v) :
  ar P (mk dst (.load t x) ty pos aC g) ts ls h { rl:=true } (.a v) ls h :=
 kV.mM ⟨rfl,rfl,fun L H q _ j w jl a hh r=>by
  have h1:=r x (by simp [Op.operands]);rw [p] at h1;obtain⟨b,s,e⟩:=zu h1;rw [q rfl] at hh;obtain⟨z,l,u⟩:=hh.2.each.get hl;rw [s] at l; simp only [Option.some.injEq] at l; subst l;obtain⟨cv,m,y⟩:=qc (P:=P) u.cells o (K.qa hk) hv;rw [Nat.zero_add] at m;exact⟨cv,by simp [execOp,Instr.loadAt,Instr.sureAddr,e,m],y⟩⟩
theorem ar.bS {t:TypeId}{i:TI}{x:Operand}{xs:List D}{v:A}(m:aM P t=some i) (hk:i.k.lF=false) (o:ev ts x=.a (.d (.view xs))) (hv:kS i xs 0=some v) :
  ar P (mk dst (.load t x) ty pos aC g) ts ls h {} (.a v) ls h :=
 ar.dU fun j w jl a p=>by
  have h1:=p x (by simp [Op.operands]);rw [o] at h1;obtain⟨b,f,e,bH,hr⟩:=Fg h1;obtain⟨cv,l,q⟩:=qc (P:=P) (bH.cells hr) m (K.qa hk) hv;have he:b=⟨b.block,b.off+0,none⟩:=by
   have:=bH.1;cases b; simp at this; simp [this]
  rw [<- he] at l;exact⟨cv,by simp [execOp,Instr.loadAt,Instr.sureAddr,e,l],q⟩
theorem fq.cells {j:J}{w:World}{id:Nat}{xs:List D}(h:fq j w id (.cells xs)):jL j w (j.out id) xs:=h
theorem ar.dr {t:TypeId}{b:TI}{x:Operand}{id off:Nat}{xs:List D}{v:A}(i:aM P t=some b) (hk:b.k.lF=false) (l:ev ts x=.a (.d (.ptr id off))) (hh:h id=some (.cells xs)) (hv:kS b xs off=some v) :
  ar P (mk dst (.load t x) ty pos aC g) ts ls h { rh:=true } (.a v) ls h :=
 kV.mM ⟨rfl,rfl,fun L H _ hH j w jl a hl m=>by
  have h1:=m x (by simp [Op.operands]);rw [l] at h1;obtain⟨e,_⟩:=rH h1;rw [hH rfl] at hl;obtain⟨cv,f,o⟩:=qc (P:=P) (hl.1.obj id _ hh).2.cells.cells i (K.qa hk) hv;rw [Nat.zero_add] at f;exact⟨cv,by simp [execOp,Instr.loadAt,Instr.sureAddr,e,f],o⟩⟩
theorem Fi {P:Program}{t:TypeId}{g:TI}{fs:List (Nat×TypeId)}(j:aM P t=some g) (hk:g.k=.struct fs) :
  ∃gs:Array Field,P.underlying t=some (.struct gs)/\gs.toList.map (fun f=>(f.offset,f.type))=fs:=by
 obtain⟨i,d,h1,l,_,_,b,_⟩:=fS j;rw [hk] at b;cases d<;>simp [fE] at b;exact⟨_,l,b⟩
theorem wk {P:Program}{t:TypeId}{i j:TI}{fs:List (Nat×TypeId)}{f o:Nat}{g:TypeId}(l:aM P t=some i) (hk:i.k=.struct fs) (b:fs[f]?=some (o,g)) (m:aM P g=some j) (p:j.size≠0)
  (a:Addr) (w:World):(Instr.fieldAt t (.pointer (some a)) f).run P w=.ok (.pointer (some (a.add o))) w:=by
 obtain⟨gs,hu,he⟩:=Fi l hk;have q:∃fd:Field,gs[f]?=some fd/\fd.offset=o/\fd.type=g:=by
  rw [<- he,List.getElem?_map] at b;cases e:gs.toList[f]? with
  | none=>rw [e] at b; simp at b
  | some fd=>rw [e] at b; simp at b; exact⟨fd,by simpa using e,b.1,b.2⟩
 obtain⟨fd,h1,r,s⟩:=q;simp [Instr.fieldAt,eZ hu,h1,Instr.sureAddr,fieldPlace,s,kT m,p,r]
theorem ar.Mw {t:TypeId}{l m:TI}{fs:List (Nat×TypeId)}{x:Operand}{f o i off:Nat}{p:TypeId}(r:aM P t=some l) (hk:l.k=.struct fs) (s:fs[f]?=some (o,p)) (u:aM P p=some m)
  (q:Nat.beq m.size 0=false) (v:ev ts x=.cV i off):ar P (mk dst (.fieldAddr t x f) ty pos aC g) ts ls h {} (.cV i (off+o)) ls h :=
 ar.dU fun j w jl a y=>by
  have h1:=y x (by simp [Op.operands]);rw [v] at h1;obtain⟨b,z,e⟩:=zu h1;exact⟨.pointer (some ⟨b,off+o,none⟩),by simp [execOp,e,wk r hk s u (fun e=>by rw [e] at q; simp at q),add_plain],b,z,rfl⟩
theorem ar.ct {t:TypeId}{b i:TI}{fs:List (Nat×TypeId)}{x:Operand}{f o id off:Nat}{l:TypeId}(p:aM P t=some b) (hk:b.k=.struct fs) (q:fs[f]?=some (o,l)) (r:aM P l=some i)
  (m:Nat.beq i.size 0=false) (s:ev ts x=.a (.d (.ptr id off))):ar P (mk dst (.fieldAddr t x f) ty pos aC g) ts ls h {} (.a (.d (.ptr id (off+o)))) ls h :=
 ar.dU fun j w jl a u=>by
  have h1:=u x (by simp [Op.operands]);rw [s] at h1;obtain⟨e,hi⟩:=rH h1;exact⟨.pointer (some ⟨j.out id,off+o,none⟩),by simp [execOp,e,wk p hk q r (fun e=>by rw [e] at m; simp at m),add_plain],aB.ptr _ _ hi⟩
theorem aB.Mx {j:J}{w:World}{xs:List D}{a:Addr}{f:Nat->Value}(bH:At j w a xs.length f) (hr:∀i (h:i<xs.length),aB j w xs[i] (f i)) (n:Nat):aB j w (.view (xs.drop n)) (.pointer (some (a.add n))):=by
 have b:a=⟨a.block,a.off,none⟩:=by have:=bH.1; cases a; simp at this; simp [this]
 rw [b,add_plain];refine aB.view (xs.drop n) _ (fun i=>f (n+i)) ⟨rfl,fun i hi=>?_⟩ fun i hi=>?_
 ·simp only [List.length_drop] at hi;have:=bH.2 (n+i) (by omega);rw [<- Nat.add_assoc] at this; exact this
 ·simp only [List.length_drop] at hi;have:=hr (n+i) (by omega)
  simpa using this
theorem ar.My {t:TypeId}{b i:TI}{fs:List (Nat×TypeId)}{x:Operand}{f o:Nat}{xs l:List D}{m:TypeId}(q:aM P t=some b) (hk:b.k=.struct fs) (r:fs[f]?=some (o,m)) (s:aM P m=some i)
  (p:Nat.beq i.size 0=false) (u:ev ts x=.a (.d (.view xs))) (v:xs.drop o=l):ar P (mk dst (.fieldAddr t x f) ty pos aC g) ts ls h {} (.a (.d (.view l))) ls h :=
 ar.dU fun j w jl a y=>by
  have h1:=y x (by simp [Op.operands]);rw [u] at h1;obtain⟨z,B,e,bH,hr⟩:=Fg h1;subst v;exact⟨_,by simp [execOp,e,wk q hk r s (fun e=>by rw [e] at p; simp at p)],aB.Mx bH hr o⟩
theorem lG {j:J}{w:World}{jl:List Nat}{k:Nat}{tok:Option Nat}{nl:Bool}{rows:List (List D)}{cv:Value}(h:aX j w jl (.a (.d (.slice k tok nl rows))) cv) :
  ∃a cap,cv=.slice a rows.length cap/\rows.length<=cL/\rows.length<=cap/\(nl=a.isNone)/\(a=none->cap=0/\rows=[])/\(∀r,r∈rows->r.length=k) /\
   ∀b,a=some b->ry j tok rows.length b cap/\∃f,pY j w b rows f/\∀i (h:i<rows.flatten.length),aB j w rows.flatten[i] (f i):=by
 have h':aB j w (.slice k tok nl rows) cv:=h;cases h' with
 | fB _ _ ht=>exact⟨none,0,rfl,by simp [cL],by simp,rfl,fun _=>⟨rfl,rfl⟩,by simp,by simp⟩
 | slice _ _ _ a cap f hk hn hc bH hr ht=>exact⟨some a,cap,rfl,hn,hc,rfl,by simp,hk,fun b e=>by simp at e; subst e; exact⟨ht,f,bH,hr⟩⟩
theorem iO {rows:List (List D)}{k:Nat}(hk:∀r∈rows,r.length=k):rows.flatten.length=rows.length*k/\∀i row,rows[i]?=some row->∀n,n<k->rows.flatten[i*k+n]?=row[n]?:=by
 induction rows with
 | nil=>simp
 | cons r rs b =>
  have hr:r.length=k:=hk r (by simp);obtain⟨h1,f⟩:=b fun x g=>hk x (by simp [g]);refine⟨by simp [h1,hr,Nat.succ_mul,Nat.add_comm],fun i row hi n hn=>?_⟩;cases i with
  | zero =>
   simp at hi; subst hi;rw [List.flatten_cons,Nat.zero_mul,Nat.zero_add,List.getElem?_append_left (by omega)]
  | succ i =>
   simp only [List.getElem?_cons_succ] at hi;rw [List.flatten_cons,List.getElem?_append_right (by rw [hr,Nat.succ_mul]; omega)];rw [show (i+1)*k+n-r.length=i*k+n by rw [hr,Nat.succ_mul]; omega];exact f i row hi n hn
theorem Mz {j:J}{w:World}{k:Nat}{rows:List (List D)}{b:Addr}{f:Nat->Value}(hk:∀r∈rows,r.length=k) (bH:pY j w b rows f) (hr:∀i (h:i<rows.flatten.length),aB j w rows.flatten[i] (f i))
  {i:Nat}{row:List D}(hi:rows[i]?=some row):aB j w (.view row) (.pointer (some (b.add (i*k)))):=by
 obtain⟨h1,m⟩:=iO hk;have hlen:row.length=k:=hk row (List.mem_of_getElem? hi);have o:b=⟨b.block,b.off,none⟩:=by have:=bH.1.resolve_left (fun e=>by rw [e] at hi; simp at hi); cases b; simp at this; simp [this]
 have aY:i<rows.length:=(List.getElem?_eq_some_iff.1 hi).1;have hle:i*k+k<=rows.flatten.length:=by
  rw [h1,<- Nat.succ_mul]; exact Nat.mul_le_mul_right k aY
 rw [o,add_plain];refine aB.view row _ (fun n=>f (i*k+n)) ⟨rfl,fun n hn=>?_⟩ fun n hn=>?_
 ·have:=bH.2 (i*k+n) (by omega);rw [<- Nat.add_assoc] at this; exact this
 ·have l:=hr (i*k+n) (by omega);have g:=m i row hi n (by omega);rw [List.getElem?_eq_getElem (by omega),List.getElem?_eq_getElem hn] at g;simp only [Option.some.injEq] at g;rw [g] at l; exact l
theorem kW {P:Program}{t:TypeId}{f:TI}{e:TypeId}(g:aM P t=some f) (hk:f.k=.slice e):P.underlying t=some (.slice e):=by
 obtain⟨i,d,h1,j,_,_,b,_⟩:=fS g;rw [hk] at b;cases d<;>simp [fE] at b;subst b; exact j
theorem ar.Fj {t e:TypeId}{i l:TI}{x ix:Operand}{tok:Option Nat}{nl:Bool}{rows:List (List D)}{p:IntKind}{n:Int}{row:List D}{k:Nat}(q:aM P t=some i) (hk:i.k=.slice e) (r:aM P e=some l)
  (s:ev ts x=.a (.d (.slice k tok nl rows))) (hi:ev ts ix=.a (.d (.int p n))) (u:k=l.size) (h0:0<=n) (hr:rows[n.toNat]?=some row) :
  ar P (mk dst (.indexAddr t x ix) ty pos aC g) ts ls h {} (.a (.d (.view row))) ls h :=
 ar.dU fun j w jl a m=>by
  have h1:=m x (by simp [Op.operands]);have o:=m ix (by simp [Op.operands]);rw [s] at h1; rw [hi] at o;obtain⟨b,cap,v,hn,hc,G,y,z,B⟩:=lG h1;have aY:n.toNat<rows.length:=(List.getElem?_eq_some_iff.1 hr).1;cases b with
  | none=>obtain⟨_,C⟩:=y rfl; rw [C] at aY; simp at aY
  | some b =>
   obtain⟨_,f,bH,E⟩:=B b rfl;refine⟨_, ?_,Mz z bH E hr⟩;have F:n<(rows.length:Int):=by omega
   simp [execOp,v,ir o,Instr.indexAt,asIntOf,eZ (kW q hk),kT r,h0,F,u]
end
end Go.Ab
/-
 Arithmetic,comparisons,lengths,structs.
-/
namespace Go.Ab
open Go Go.RowKit
variable {ak:bf}
section
variable {P:Program}{ts:Ts}{ls:List (List D)}{h:ah}{dst:Option Tmp}{ty:TypeId}{pos:String}{aC:Array Edge}{g:Option (Nat×Bool)}
theorem wm {op:BinOp}{t:TypeId}{x y:Operand}{k:IntKind}{m n:Int}(w:World):(eqGuard op t x y (.int k m) (.int k n)).run P w=.ok () w:=by
 unfold eqGuard;cases op<;>simp
theorem Fk {op:BinOp}{t:TypeId}{x y:Operand}{m n:ByteArray}(w:World):(eqGuard op t x y (.string m) (.string n)).run P w=.ok () w:=by
 unfold eqGuard;cases op<;>simp
theorem MA {op:BinOp}{t:TypeId}{x y:Operand}{m n:Bool}(w:World):(eqGuard op t x y (.bool m) (.bool n)).run P w=.ok () w:=by
 unfold eqGuard;cases op<;>simp
def ot (op:BinOp) (k:IntKind) (m n:Int):Option D :=
 match op with
 | .add=>some (.int k (k.wrap (m+n)))
 | .sub=>some (.int k (k.wrap (m-n)))
 | .mul=>some (.int k (k.wrap (m*n)))
 | .eql=>some (.bool (decide (m=n)))
 | .neq=>some (.bool (!decide (m=n)))
 | .lss=>some (.bool (decide (m<n)))
 | .leq=>some (.bool (decide (m<=n)))
 | .gtr=>some (.bool (decide (n<m)))
 | .geq=>some (.bool (decide (n<=m)))
 | _=>none
theorem Fl {op:BinOp}{t:TypeId}{k:IntKind}{m n:Int}{r:D}(hr:ot op k m n=some r) (w:World):∃cv,(binOp op t (.int k m) (.int k n)).run P w=.ok cv w/\∀j w,aB j w r cv:=by
 cases op<;>simp only [ot,Option.some.injEq] at hr<;>first|(subst hr)|(cases hr; done)
 ·exact⟨_,by simp [binOp,Op.intArith],fun _ _=>.int _ _⟩
 ·exact⟨_,by simp [binOp,Op.intArith],fun _ _=>.int _ _⟩
 ·exact⟨_,by simp [binOp,Op.intArith],fun _ _=>.int _ _⟩
 ·exact⟨.bool (decide (m=n)),by simp [binOp,Op.intCmp]; first|rfl|(by_cases e:m=n<;>simp [e]),fun _ _=>.bool _⟩
 ·exact⟨.bool (!decide (m=n)),by simp [binOp,Op.intCmp]; first|rfl|(by_cases e:m=n<;>simp [e]),fun _ _=>.bool _⟩
 ·exact⟨.bool (decide (m<n)),by simp [binOp,Op.intCmp],fun _ _=>.bool _⟩
 ·exact⟨.bool (decide (m<=n)),by simp [binOp,Op.intCmp],fun _ _=>.bool _⟩
 ·exact⟨.bool (decide (n<m)),by simp [binOp,Op.intCmp],fun _ _=>.bool _⟩
 ·exact⟨.bool (decide (n<=m)),by simp [binOp,Op.intCmp],fun _ _=>.bool _⟩
theorem ar.zw {op:BinOp}{t u:TypeId}{x y:Operand}{k:IntKind}{m n:Int}{r:D}(i:ev ts x=.a (.d (.int k m))) (l:ev ts y=.a (.d (.int k n))) (hr:ot op k m n=some r) :
  ar P (mk dst (.binOp op t x y u) ty pos aC g) ts ls h {} (.a (.d r)) ls h :=
 ar.dU fun j w jl a b=>by
  have h1:=b x (by simp [Op.operands]);have f:=b y (by simp [Op.operands]);rw [i] at h1; rw [l] at f;obtain⟨cv,o,p⟩:=Fl (P:=P) (t:=t) hr w;exact⟨cv,by simp [execOp,ir h1,ir f,wm,o],p j w⟩
theorem ar.Fm {t u:TypeId}{x y:Operand}{m n:Int}(b:ev ts x=.a (.d (.int .i64 m))) (f:ev ts y=.a (.d (.int .i64 n))) (h1 : -9223372036854775808<=m+n) (i:m+n<=9223372036854775807) :
  ar P (mk dst (.binOp .add t x y u) ty pos aC g) ts ls h {} (.a (.d (.int .i64 (m+n)))) ls h :=
 ar.zw b f (by simp only [ot,Option.some.injEq,D.int.injEq,true_and]; simp only [IntKind.wrap,IntKind.bits,IntKind.signed]; simp; omega)
theorem ar.MB {t u:TypeId}{x y:Operand}{m n:Int}(b:ev ts x=.a (.d (.int .i64 m))) (f:ev ts y=.a (.d (.int .i64 n))) (h1 : -9223372036854775808<=m-n) (i:m-n<=9223372036854775807) :
  ar P (mk dst (.binOp .sub t x y u) ty pos aC g) ts ls h {} (.a (.d (.int .i64 (m-n)))) ls h :=
 ar.zw b f (by simp only [ot,Option.some.injEq,D.int.injEq,true_and]; simp only [IntKind.wrap,IntKind.bits,IntKind.signed]; simp; omega)
def zx (op:BinOp) (s t:List UInt8):Option D :=
 match op with
 | .eql=>some (.bool (s==t))
 | .neq=>some (.bool (!(s==t)))
 | .lss=>some (.bool (Op.bytesLess s t))
 | .leq=>some (.bool (Op.bytesLess s t||s==t))
 | .gtr=>some (.bool (!(Op.bytesLess s t||s==t)))
 | .geq=>some (.bool (!Op.bytesLess s t))
 | _=>none
theorem MC {op:BinOp}{t:TypeId}{a b:List UInt8}{r:D}(hr:zx op a b=some r) (w:World):∃cv,(binOp op t (.string ⟨a.toArray⟩) (.string ⟨b.toArray⟩)).run P w=.ok cv w/\∀j w,aB j w r cv:=by
 cases op<;>simp only [zx,Option.some.injEq] at hr<;>first|(subst hr)|(cases hr; done)
 all_goals exact⟨_,by simp [binOp,Op.stringOp,ByteArray.toList_mk],fun _ _=>.bool _⟩
theorem ar.MD {op:BinOp}{t u:TypeId}{x y:Operand}{a b:List UInt8}{r:D}(k:ev ts x=.a (.d (.str a))) (l:ev ts y=.a (.d (.str b))) (hr:zx op a b=some r) :
  ar P (mk dst (.binOp op t x y u) ty pos aC g) ts ls h {} (.a (.d r)) ls h :=
 ar.dU fun j w jl act f=>by
  have h1:=f x (by simp [Op.operands]);have i:=f y (by simp [Op.operands]);rw [k] at h1; rw [l] at i;obtain⟨cv,m,o⟩:=MC (P:=P) (t:=t) hr w;exact⟨cv,by simp [execOp,(jh h1).1,(jh i).1,Fk,m],o j w⟩
theorem ar.concat {t u:TypeId}{x y:Operand}{a b:List UInt8}(l:ev ts x=.a (.d (.str a))) (m:ev ts y=.a (.d (.str b))) (hl:a.length+b.length<=eF) :
  ar P (mk dst (.binOp .add t x y u) ty pos aC g) ts ls h {} (.a (.d (.str (a++b)))) ls h :=
 ar.dU fun j w jl act f=>by
  have h1:=f x (by simp [Op.operands]);have i:=f y (by simp [Op.operands]);rw [l] at h1; rw [m] at i;refine⟨.string ⟨(a++b).toArray⟩, ?_,aB.str _ (by simpa using hl)⟩;have aY:(⟨a.toArray⟩:ByteArray).size+(⟨b.toArray⟩:ByteArray).size<=9223372036854775807:=by
   show a.toArray.size+b.toArray.size<=_; simp only [List.size_toArray]; unfold eF at hl; omega
  have k:=run_string_add_sum (P:=P) w ⟨a.toArray⟩ ⟨b.toArray⟩ aY;have e:(⟨a.toArray⟩:ByteArray)++⟨b.toArray⟩=⟨(a++b).toArray⟩:=by
   apply ByteArray.ext; simp
  rw [e] at k;simp [execOp,(jh h1).1,(jh i).1,Fk,binOp,k]
theorem ar.ME {t u:TypeId}{l:TI}{x y:Operand}{a b:Bool}(p:aM P t=some l) (hk:l.k=.bool) (q:ev ts x=.a (.d (.bool a))) (r:ev ts y=.a (.d (.bool b))) :
  ar P (mk dst (.binOp .eql t x y u) ty pos aC g) ts ls h {} (.a (.d (.bool (a==b)))) ls h :=
 ar.dU fun j w jl act m=>by
  have h1:=m x (by simp [Op.operands]);have f:=m y (by simp [Op.operands]);rw [q] at h1; rw [r] at f;have hu:P.underlying t=some .bool:=by
   obtain⟨i,d,_,f,_,_,o,_⟩:=fS p;rw [hk] at o;cases d<;>simp [fE] at o;exact f
  exact⟨_,by simp [execOp,jg h1,jg f,MA,run_eql_bool w t a b hu],aB.bool _⟩
theorem ar.uk {t:TypeId}{x:Operand}{b:Bool}(f:ev ts x=.a (.d (.bool b))):ar P (mk dst (.unOp .not t x) ty pos aC g) ts ls h {} (.a (.d (.bool (!b)))) ls h :=
 ar.dU fun j w jl act i=>by
  have h1:=i x (by simp [Op.operands]);rw [f] at h1;exact⟨_,by simp [execOp,jg h1,Op.unary],aB.bool _⟩
theorem ar.MF {t:TypeId}{x:Operand}{k:IntKind}{n:Int}(b:ev ts x=.a (.d (.int k n))):ar P (mk dst (.unOp .neg t x) ty pos aC g) ts ls h {} (.a (.d (.int k (k.wrap (0-n))))) ls h :=
 ar.dU fun j w jl act f=>by
  have h1:=f x (by simp [Op.operands]);rw [b] at h1;exact⟨_,by simp [execOp,ir h1,Op.unary,Op.intArith],aB.int _ _⟩
theorem ar.MG {t e:TypeId}{f:TI}{x:Operand}{cN:Array TypeId}{k:Nat}{tok:Option Nat}{nl:Bool}{rows:List (List D)}(i:aM P t=some f) (hk:f.k=.slice e) (bH:cN[0]?=some t)
  (l:ev ts x=.a (.d (.slice k tok nl rows))):ar P (mk dst (.call { callee:=.builtin .len,args:=#[x],argTypes:=cN }) ty pos aC g) ts ls h {} (.a (.d (.int .i64 (rows.length:Int)))) ls h :=
 ar.dU fun j w jl act m=>by
  have h1:=m x (by simp [Op.operands,Call.operands]);rw [l] at h1;obtain⟨b,cap,o,_⟩:=lG h1;exact⟨_,by simp [execOp,resolve,invoke,builtin,o,Builtin.len_,bH,eZ (kW i hk),goInt],aB.int _ _⟩
theorem rJ {P:Program}{t:TypeId}{b:TI}(g:aM P t=some b) (hk:b.k=.str):P.underlying t=some .string:=by
 obtain⟨i,d,h1,j,_,_,f,_⟩:=fS g;rw [hk] at f;cases d<;>simp [fE] at f;exact j
theorem size_mk (s:List UInt8):(⟨s.toArray⟩:ByteArray).size=s.length:=by
 show s.toArray.size=s.length;simp
theorem ar.wo {t:TypeId}{b:TI}{x:Operand}{cN:Array TypeId}{s:List UInt8}(f:aM P t=some b) (hk:b.k=.str) (bH:cN[0]?=some t)
  (i:ev ts x=.a (.d (.str s))):ar P (mk dst (.call { callee:=.builtin .len,args:=#[x],argTypes:=cN }) ty pos aC g) ts ls h {} (.a (.d (.int .i64 (s.length:Int)))) ls h :=
 ar.dU fun j w jl act l=>by
  have h1:=l x (by simp [Op.operands,Call.operands]);rw [i] at h1;refine⟨_, ?_,aB.int _ _⟩;simp [execOp,resolve,invoke,builtin,(jh h1).1,Builtin.len_,bH,eZ (rJ f hk),goInt,size_mk]
theorem ar.MH {t:TypeId}{f:TI}{x ix:Operand}{s:List UInt8}{i:IntKind}{n:Int}{c:UInt8}(o:aM P t=some f) (hk:f.k=.str) (p:ev ts x=.a (.d (.str s))) (hi:ev ts ix=.a (.d (.int i n)))
  (h0:0<=n) (hc:s[n.toNat]?=some c):ar P (mk dst (.index t x ix) ty pos aC g) ts ls h {} (.a (.d (.int .u8 (c.toNat:Int)))) ls h :=
 ar.dU fun j w jl act l=>by
  have h1:=l x (by simp [Op.operands]);have m:=l ix (by simp [Op.operands]);rw [p] at h1; rw [hi] at m;have aY:n.toNat<s.length:=(List.getElem?_eq_some_iff.1 hc).1;have b:=run_index_string (P:=P) w t ⟨s.toArray⟩ i n (rJ o hk);rw [dif_pos ⟨h0,by rw [size_mk]; omega⟩] at b;refine⟨_, ?_,aB.int _ _⟩;have q:(⟨s.toArray⟩:ByteArray)[n.toNat]'(by rw [size_mk]; omega)=c:=by
   have:=(List.getElem?_eq_some_iff.1 hc).2;rw [<- this]; rfl
  rw [q] at b;simp [execOp,(jh h1).1,ir m,b]
def cut (s:List UInt8) (l r:Nat):List UInt8:=(s.drop l).take (r-l)
theorem extract_mk (s:List UInt8) (l r:Nat):(⟨s.toArray⟩:ByteArray).extract l r=⟨(cut s l r).toArray⟩:=by
 apply ByteArray.ext
 apply Array.ext'
 simp [cut]
def Yc (ts:Ts):Option Operand->Option Nat
 | none=>some 0
 | some x=>match ev ts x with
  | .a (.d (.int _ n))=>if 0<=n then some n.toNat else none
  | _=>none
theorem ou {ts:Ts}{j:J}{w:World}{jl:List Nat}{act:Act}{x:Operand}{k:IntKind}{n:Int}{cap:Nat}(f:ev ts x=.a (.d (.int k n))) (b:aX j w jl (ev ts x) (act.eval x)) (h0:0<=n) (h1:n<=(cap:Int)) (code:BoundsCode) :
  (Instr.sliceBound (act.eval x) cap code).run P w=.ok n.toNat w:=by
 rw [f] at b;rw [ir b];exact run_sliceBound w k n cap code h0 h1
theorem ar.MI {t:TypeId}{i:TI}{x lo hi:Operand}{s:List UInt8}{k k':IntKind}{l r:Int}(m:aM P t=some i) (hk:i.k=.str) (o:ev ts x=.a (.d (.str s))) (hl:ev ts lo=.a (.d (.int k l))) (hh:ev ts hi=.a (.d (.int k' r)))
  (h0:0<=l) (h1:l<=r) (p:r<=(s.length:Int)):ar P (mk dst (.slice t x (some lo) (some hi) none) ty pos aC g) ts ls h {} (.a (.d (.str (cut s l.toNat r.toNat)))) ls h :=
 ar.dU fun j w jl act b=>by
  have f:=b x (by simp [Op.operands]);have q:=ou (P:=P) (cap:=r.toNat) hl (b lo (by simp [Op.operands])) h0 (by omega) .sliceB;have u:=ou (P:=P) (cap:=s.length) hh (b hi (by simp [Op.operands])) (by omega) p .sliceAlen;rw [o] at f;refine⟨.string ⟨(cut s l.toNat r.toNat).toArray⟩, ?_,aB.str _ (by have:=(jh f).2; simp [cut]; omega)⟩;simp [execOp,(jh f).1,Instr.sliceAt,Instr.slice,Instr.sliceBounds,eZ (rJ m hk),size_mk,q,u]
  exact extract_mk _ _ _
theorem ar.vW {t:TypeId}{f:TI}{x lo:Operand}{s:List UInt8}{k:IntKind}{l:Int}(m:aM P t=some f) (hk:f.k=.str) (o:ev ts x=.a (.d (.str s))) (hl:ev ts lo=.a (.d (.int k l)))
  (h0:0<=l) (h1:l<=(s.length:Int)):ar P (mk dst (.slice t x (some lo) none none) ty pos aC g) ts ls h {} (.a (.d (.str (s.drop l.toNat)))) ls h :=
 ar.dU fun j w jl act i=>by
  have b:=i x (by simp [Op.operands]);have p:=ou (P:=P) (cap:=s.length) hl (i lo (by simp [Op.operands])) h0 h1 .sliceB;rw [o] at b;refine⟨.string ⟨(s.drop l.toNat).toArray⟩, ?_,aB.str _ (by have:=(jh b).2; simp; omega)⟩;simp [execOp,(jh b).1,Instr.sliceAt,Instr.slice,Instr.sliceBounds,eZ (rJ m hk),size_mk,p];rw [extract_mk]; unfold cut; rw [List.take_of_length_le (by simp)]
theorem ar.zi {t:TypeId}{f:TI}{x hi:Operand}{s:List UInt8}{k:IntKind}{r:Int}(l:aM P t=some f) (hk:f.k=.str) (m:ev ts x=.a (.d (.str s))) (hh:ev ts hi=.a (.d (.int k r)))
  (h0:0<=r) (h1:r<=(s.length:Int)):ar P (mk dst (.slice t x none (some hi) none) ty pos aC g) ts ls h {} (.a (.d (.str (s.take r.toNat)))) ls h :=
 ar.dU fun j w jl act i=>by
  have b:=i x (by simp [Op.operands]);have o:=ou (P:=P) (cap:=s.length) hh (i hi (by simp [Op.operands])) h0 h1 .sliceAlen;rw [m] at b;refine⟨.string ⟨(s.take r.toNat).toArray⟩, ?_,aB.str _ (by have:=(jh b).2; simp; omega)⟩;simp [execOp,(jh b).1,Instr.sliceAt,Instr.slice,Instr.sliceBounds,eZ (rJ l hk),size_mk,o];rw [extract_mk]; simp [cut]
theorem ar.extract {x:Operand}{i:Nat}{xs:List A}{v:A}(b:ev ts x=.cS xs) (hv:xs[i]?=some v):ar P (mk dst (.extract x i) ty pos aC g) ts ls h {} (.a v) ls h :=
 ar.dU fun j w jl act f=>by
  have h1:=f x (by simp [Op.operands]);rw [b] at h1;obtain⟨cs,e,hr⟩:=h1;obtain⟨cv,k,l⟩:=hr.get hv;exact⟨cv,by simp [execOp,Instr.extract,e,k],l⟩
theorem ar.MJ {x:Operand}{id off:Nat}(b:ev ts x=.a (.d (.ptr id off))):ar P (mk dst (.nilCheck x) ty pos aC g) ts ls h {} (.a (.d (.ptr id off))) ls h :=
 ar.dU fun j w jl act f=>by
  have h1:=f x (by simp [Op.operands]);rw [b] at h1;obtain⟨e,hi⟩:=rH h1;exact⟨_,by simp [execOp,e],aB.ptr _ _ hi⟩
def Fo (ts:Ts) (x:Operand):Option D:=match ev ts x with
 | .a (.d y)=>some y
 | _=>none
def rK (ts:Ts):List Operand->Option (List D)
 | []=>some []
 | x::r=>match Fo ts x,rK ts r with
  | some y,some b=>some (y::b)
  | _,_=>none
theorem zy {j:J}{w:World}{jl:List Nat}{act:Act}:∀(l:List Operand) (xs:List D),rK ts l=some xs->(∀x,x∈l->aX j w jl (ev ts x) (act.eval x))->aW (aB j w) xs (l.map act.eval)
 | [],xs,h,_=>by simp [rK] at h; subst h; exact .nil
 | x::r,xs,h,f=>by
  simp only [rK] at h
  split at h
  ·rename_i y g h1 i
   simp at h; subst h;refine .cons ?_ (zy r g i fun z b=>f z (by simp [b]));have:=f x (by simp);unfold Fo at h1
   split at h1
   ·rename_i z b; simp at h1; subst h1; rw [b] at this; exact this
   ·simp at h1
  ·simp at h
theorem ar.makeFunc {f:FuncId}{bZ:Array Operand}{xs:List D}(b:rK ts bZ.toList=some xs):ar P (mk dst (.makeFunc (.func f) #[] bZ) ty pos aC g) ts ls h {} (.a (.d (.func f xs))) ls h :=
 ar.dU fun j w jl act l=>by
  have h1:=zy (j:=j) (w:=w) (jl:=jl) (act:=act) bZ.toList xs b fun x b=>l x (by simp [Op.operands] at b ⊢; exact b);refine⟨.func (.func f) #[] (bZ.toList.map act.eval).toArray, ?_,aB.func f xs _ h1.length fun i hi m=>?_⟩
  ·simp [execOp,Instr.makeFunc]
   apply Array.ext'; simp
  ·obtain⟨y,k,hr⟩:=h1.get (List.getElem?_eq_getElem hi);rw [List.getElem?_eq_getElem m] at k;simp only [Option.some.injEq] at k;rw [k]; exact hr
end
end Go.Ab
/-
 Structs and slices that are built,variables,objects,calls.
-/
namespace Go.Ab
open Go Go.RowKit
variable {ak:bf}
inductive bA {α:Type}(x:α):List α->Nat->List α->Prop where
 | nil:bA x [] 0 [x]
 | cons {a:α}{l l':List α}{n:Nat}(h:bA x l n l'):bA x (a::l) (n+1) (a::l')
theorem bA.spec {α:Type}{x:α}{l l':List α}{n:Nat}(h:bA x l n l'):n=l.length/\l'=l++[x]:=by
 induction h with
 | nil=>exact⟨rfl,rfl⟩
 | cons _ b=>exact⟨by simp [b.1],by simp [b.2]⟩
inductive cD {α:Type}(x:α):List α->Nat->List α->Prop where
 | zero {a:α}{l:List α}:cD x (a::l) 0 (x::l)
 | succ {a:α}{l l':List α}{n:Nat}(h:cD x l n l'):cD x (a::l) (n+1) (a::l')
theorem cD.spec {α:Type}{x:α}{l l':List α}{n:Nat}(h:cD x l n l'):n<l.length/\l'=l.set n x:=by
 induction h with
 | zero=>exact⟨by simp,rfl⟩
 | succ _ b=>exact⟨by simp [b.1],by simp [b.2]⟩
theorem ar.of_run {P:Program}{o:Oper}{ts:Ts}{ls aH:List (List D)}{h h':ah}{fx:Fx}{v:V}
  (k:∀L H,((fx.rl||fx.wl)=true->L=ls)->((fx.rh||fx.wh)=true->H=h)->∀(j:J) (w:World) (jl:List Nat) (a:Act),HL j w jl L H->(∀x,x∈o.op.operands->aX j w jl (ev ts x) (a.eval x)) ->
   ∃r w' cv j' b,(execOp a.eval o).run P w=.ok r w'/\(r=.value cv\/(r=.skip/\cv=undef))/\aX j' w' b v cv/\HL j' w' b (bif fx.wl then aH else L) (bif fx.wh then h' else H)/\Ext jl b /\
    bw j w (Own j H jl) j' w' (Own j' (bif fx.wh then h' else H) b)):ar P o ts ls h fx v aH h':=by
 intro L H l hH j w jl a hl m K Q hk;obtain⟨r,w',cv,j',b,p,hr,hv,f,g,i⟩:=k L H l hH j w jl a hl m;unfold Oper.wp;rw [p];rcases hr with hr|⟨hr,hu⟩
 ·subst hr; rw [Oper.upon_value]; exact hk v _ _ cv j' w' b ⟨rfl,rfl,rfl⟩ hv f g i
 ·subst hr; subst hu; rw [Oper.upon_skip]; exact hk v _ _ undef j' w' b ⟨rfl,rfl,rfl⟩ hv f g i
theorem Ext.snoc (jl:List Nat) (b:Nat):Ext jl (jl++[b]):=fun i x f=>by
 rw [List.getElem?_append_left (List.getElem?_eq_some_iff.1 f).1]; exact f
section
variable {P:Program}{ts:Ts}{ls:List (List D)}{h:ah}{dst:Option Tmp}{ty:TypeId}{pos:String}{aC:Array Edge}{g:Option (Nat×Bool)}
theorem ar.Fp {o:Oper}{e:TypeId}{x:A}{i:Nat}{aH:List (List D)}(f:bA (cn x) ls i aH)
  (g:∀(j:J) (w:World) (jl:List Nat) (a:Act),(∀x,x∈o.op.operands->aX j w jl (ev ts x) (a.eval x))->∃v,cM j w x v/\(execOp a.eval o).run P w=.ok (.value (.pointer (some ⟨w.heap.size,0,none⟩))) (w.alloc (.cells v.cells e))) :
  ar P o ts ls h { wl:=true } (.cV i 0) aH h:=by
 refine ar.of_run fun L H k _ j w jl a hl l=>?_;obtain⟨m,p⟩:=f.spec;have q:=k rfl;subst q;obtain⟨v,hv,hr⟩:=g j w jl a l;obtain⟨h1,b⟩:=hl.loc v.cells.toList e (cn x) hv.cells;rw [Array.toArray_toList] at h1 b;refine⟨_,_,.pointer (some ⟨w.heap.size,0,none⟩),j,jl++[w.heap.size],hr,.inl rfl,⟨w.heap.size, ?_,rfl⟩, ?_,Ext.snoc _ _,b⟩
 ·rw [m,hl.2.each.length]; simp
 ·rw [p]; exact h1
theorem ar.MK {e:TypeId}{b:TI}{z:A}{i:Nat}{aH:List (List D)}(k:aM P e=some b) (l:b.zero=some z) (m:bA (cn z) ls i aH) :
  ar P (mk dst (.alloc e) ty pos aC g) ts ls h { wl:=true } (.cV i 0) aH h:=by
 obtain⟨inf,d,h1,_,_,_,_,f⟩:=fS k;rw [l] at f;obtain⟨v,o,p⟩:=oq f;refine ar.Fp (e:=e) m fun j w jl a _=>⟨v,p j w, ?_⟩;simp [execOp,Instr.alloc,zeroValue,typeInfo,h1,o,newVar,newRow]
theorem ar.rL {e:TypeId}{x:Operand}{y:A}{i:Nat}{aH:List (List D)}(b:ev ts x=.a y) (f:bA (cn y) ls i aH) :
  ar P (mk dst (.box e x) ty pos aC g) ts ls h { wl:=true } (.cV i 0) aH h :=
 ar.Fp (e:=e) f fun j w jl a k=>by
  have h1:=k x (by simp [Op.operands]);rw [b] at h1;exact⟨a.eval x,h1,by simp [execOp,Instr.box,newVar,newRow]⟩
theorem ar.zz {t:TypeId}{f:TI}{x y:Operand}{i off:Nat}{xs:List D}{v:A}{aH:List (List D)}(q:aM P t=some f) (r:ev ts x=.cV i off) (s:ev ts y=.a v) (hl:ls[i]?=some xs)
  (u:(cn v).length=f.size) (hle:off+f.size<=xs.length) (z:cD (cT xs off (cn v)) ls i aH) (N:dst=none):ar P (mk dst (.store t x y) ty pos aC g) ts ls h { wl:=true } .any aH h:=by
 refine ar.of_run fun L H B _ j w jl a hh m=>?_;have C:=B rfl;subst C;have h1:=m x (by simp [Op.operands]);have k:=m y (by simp [Op.operands]);rw [r] at h1; rw [s] at k;obtain⟨b,o,e⟩:=zu h1;obtain⟨O,l,cs,Q,E,p,F⟩:=hh.2.each.get hl;rw [o] at l; simp only [Option.some.injEq] at l; subst l;obtain⟨w',G,I⟩:=uj (ak:=ak) (P:=P) E q k u (by rw [<- p.length]; exact hle)
 obtain⟨J,K⟩:=hh.L_ o F I (p.cT off k.cells);obtain⟨_,M⟩:=z.spec;refine⟨.skip,w',undef,j,jl, ?_,.inr ⟨rfl,rfl⟩,trivial, ?_,Ext.refl _,K⟩
 ·simp [execOp,Instr.storeAt,Instr.sureAddr,e,G]
 ·rw [M]; exact J
theorem Fs {α:Type}:∀(pre l r:List α),l.length=r.length->cT (pre++l) pre.length r=pre++r
 | pre,[],[],_=>by simp [cT]
 | pre,a::l,b::r,h=>by
  have:=Fs (pre++[b]) l r (by simpa using h);simp only [cT];rw [show (pre++a::l).set pre.length b=(pre++[b])++l by simp [List.set_append]];rw [show pre.length+1=(pre++[b]).length by simp];rw [this]; simp
 | _,[],_::_,h=>by simp at h
 | _,_::_,[],h=>by simp at h
theorem ar.ML {t:TypeId}{f:TI}{x y:Operand}{i:Nat}{xs b:List D}{aH:List (List D)}(j:aM P t=some f) (k:ev ts x=.cV i 0) (l:ev ts y=.a (.agg b)) (hl:ls[i]?=some xs)
  (m:b.length=f.size) (hle:xs.length=f.size) (o:cD b ls i aH):ar P (mk none (.store t x y) ty pos aC g) ts ls h { wl:=true } .any aH h :=
 ar.zz j k l hl m (by omega) (by
  have:=Fs [] xs b (by omega);simp only [List.nil_append,List.length_nil] at this;rw [show cn (.agg b)=b from rfl,this]; exact o) rfl
theorem ar.ul {t:TypeId}{b:TI}{x y:Operand}{i off:Nat}{xs xs':List D}{v:D}{aH:List (List D)}(f:aM P t=some b) (j:ev ts x=.cV i off) (k:ev ts y=.a (.d v)) (hl:ls[i]?=some xs)
  (l:b.size=1) (hv:cD v xs off xs') (m:cD xs' ls i aH):ar P (mk none (.store t x y) ty pos aC g) ts ls h { wl:=true } .any aH h:=by
 obtain⟨h1,o⟩:=hv.spec;refine ar.zz f j k hl (by rw [l]; rfl) (by omega) ?_ rfl;rw [show cT xs off (cn (.d v))=xs' by rw [o]; rfl]; exact m
theorem ar.MM {t:TypeId}{b:TI}{x y:Operand}{i off:Nat}{xs xs':List D}{v:A}{aH:List (List D)}(f:aM P t=some b) (j:ev ts x=.cV i off) (k:ev ts y=.a v) (hl:ls[i]?=some xs)
  (l:(cn v).length=b.size) (hle:off+b.size<=xs.length) (hv:cT xs off (cn v)=xs') (m:cD xs' ls i aH):ar P (mk none (.store t x y) ty pos aC g) ts ls h { wl:=true } .any aH h :=
 ar.zz f j k hl l hle (by rw [hv]; exact m) rfl
theorem ar.um {t:TypeId}{b:TI}{x y:Operand}{id off:Nat}{xs f:List D}{v:A}(p:aM P t=some b) (q:ev ts x=.a (.d (.ptr id off))) (r:ev ts y=.a v) (hl:h id=some (.cells xs))
  (s:(cn v).length=b.size) (hle:off+b.size<=xs.length) (u:cT xs off (cn v)=f) (J:dst=none) :
  ar P (mk dst (.store t x y) ty pos aC g) ts ls h { wh:=true } .any ls (h.set id (some (.cells f))):=by
 refine ar.of_run fun L H _ hH j w jl a hh m=>?_;have z:=hH rfl;subst z;have h1:=m x (by simp [Op.operands]);have i:=m y (by simp [Op.operands]);rw [q] at h1; rw [r] at i;obtain⟨e,hid⟩:=rH h1;obtain⟨cs,B,C,o,k⟩:=(hh.1.obj id _ hl).2;obtain⟨w',E,l⟩:=uj (ak:=ak) (P:=P) C p i s (by rw [<- o.length]; exact hle);have F:=l.le (j:=j) k;obtain⟨G,I⟩:=hh.setObj (o':=.cells f) hl rfl rfl k l ⟨_,B,l.here,by rw [<- u]; exact(o.cT off i.cells).imp fun _ _ h=>h.mono F,k⟩
 refine⟨.skip,w',undef,j,jl, ?_,.inr ⟨rfl,rfl⟩,trivial,G,Ext.refl _,I⟩;simp [execOp,Instr.storeAt,Instr.sureAddr,e,E]
theorem ar.mN {t:TypeId}{b:TI}{x y:Operand}{id off:Nat}{xs xs':List D}{v:D}(f:aM P t=some b) (i:ev ts x=.a (.d (.ptr id off))) (j:ev ts y=.a (.d v)) (hl:h id=some (.cells xs))
  (k:b.size=1) (hv:cD v xs off xs'):ar P (mk none (.store t x y) ty pos aC g) ts ls h { wh:=true } .any ls (h.set id (some (.cells xs'))):=by
 obtain⟨h1,l⟩:=hv.spec;exact ar.um f i j hl (by rw [k]; rfl) (by omega) (by rw [l]; rfl) rfl
theorem MN {o:Oper}{e:TypeId}{x:A}(b:∀(j:J) (w:World) (jl:List Nat) (a:Act),(∀x,x∈o.op.operands->aX j w jl (ev ts x) (a.eval x))->∃v,cM j w x v/\(execOp a.eval o).run P w=.ok (.value (.pointer (some ⟨w.heap.size,0,none⟩))) (w.alloc (.cells v.cells e))) :
  dW P o ts ls h fun v aH h'=>∃id,h id=none/\v=.a (.d (.ptr id 0))/\aH=ls/\h'=h.set id (some (.cells (cn x))):=by
 intro j w jl a hl f K Q hk;obtain⟨v,hv,hr⟩:=b j w jl a f;have hle:Le j w (j.obj w.heap.size) (w.alloc (.cells v.cells e)) :=
  ((hl.data (.cells v.cells e) 0).2.toLe.trans (by
   rw [J.ud (hl.1.fresh _ (Nat.le_refl _))];exact⟨by simp [J.obj],fun id hi=>by simp only [J.obj]; rw [if_neg (by omega)],fun _=>Nat.le_refl _,fun _ _ _=>rfl,fun _ _=>.inl rfl⟩))
 obtain⟨h1,g⟩:=hl.obj (.cells v.cells e) (.cells (cn x)) rfl ⟨v.cells.toList,e,by
  simp only [J.obj,if_true]; rw [Array.toArray_toList]; exact heap_alloc_new w _,hv.cells.imp fun _ _ h=>h.mono hle,by
   simp only [J.obj,if_true]; exact hl.1.fresh _ (Nat.le_refl _)⟩
 unfold Oper.wp;rw [hr,Oper.upon_value];refine hk _ _ _ _ (j.obj w.heap.size) _ jl ⟨j.next,hl.1.kQ (Nat.le_refl _),rfl,rfl,rfl⟩ ?_ h1 (Ext.refl _) g;have:=aB.ptr (j:=j.obj w.heap.size) (w:=w.alloc (.cells v.cells e)) j.next 0 (by simp [J.obj])
 simpa [J.obj,aX,cM] using this
theorem dW.rM {e:TypeId}{x:Operand}{y:A}(b:ev ts x=.a y) :
  dW P (mk dst (.box e x) ty pos aC g) ts ls h fun v aH h'=>∃id,h id=none/\v=.a (.d (.ptr id 0))/\aH=ls/\h'=h.set id (some (.cells (cn y))) :=
 MN (e:=e) fun j w jl a f=>by
  have h1:=f x (by simp [Op.operands]);rw [b] at h1;exact⟨a.eval x,h1,by simp [execOp,Instr.box,newVar,newRow]⟩
def wq (ts:Ts) (x:Operand):Option A:=match ev ts x with
 | .a y=>some y
 | _=>none
def iH (ts:Ts):List Operand->Option (List A)
 | []=>some []
 | x::r=>match wq ts x,iH ts r with
  | some y,some b=>some (y::b)
  | _,_=>none
theorem Ft {j:J}{w:World}{jl:List Nat}{act:Act}:∀(l:List Operand) (xs:List A),iH ts l=some xs->(∀x,x∈l->aX j w jl (ev ts x) (act.eval x))->aW (cM j w) xs (l.map act.eval)
 | [],xs,h,_=>by simp [iH] at h; subst h; exact .nil
 | x::r,xs,h,f=>by
  simp only [iH] at h
  split at h
  ·rename_i y g h1 i
   simp at h; subst h;refine .cons ?_ (Ft r g i fun z b=>f z (by simp [b]));have:=f x (by simp);unfold wq at h1
   split at h1
   ·rename_i z b; simp at h1; subst h1; rw [b] at this; exact this
   ·simp at h1
  ·simp at h
theorem wu {f:Operand}{args:Array Operand}{cN:Array TypeId}{eG:FuncId}{bZ:List D}{xs:List A}{Post:V->ah->Prop}{L:List (List D)}{H:ah}(s:ev ts f=.a (.d (.func eG bZ))) (t:iH ts args.toList=some xs)
  (hc:AC P eG (xs++bZ.map .d) H Post) :
  dW P (mk dst (.call { callee:=.value f,args:=args,argTypes:=cN }) ty pos aC g) ts L H fun v aH h'=>Post v h'/\aH=L:=by
 intro j w jl a hl k K Q hk;have h1:=k f (by simp [Op.operands,Call.operands]);rw [s] at h1;have u:=Ft (j:=j) (w:=w) (jl:=jl) (act:=a) args.toList xs t fun x m=>k x (by simp [Op.operands,Call.operands]; right; simpa using m);have p:aB j w (.func eG bZ) (a.eval f):=h1;generalize B:a.eval f=U at p;cases p with
 | func _ _ gK hlen hr =>
  have C:aW (cM j w) (xs++bZ.map .d) (args.toList.map a.eval++gK):=by
   refine u.append (aW.kO (by simp [hlen]) fun i x y m E=>?_);rw [List.getElem?_map] at m;cases e:bZ[i]? with
   | none=>rw [e] at m; simp at m
   | some z =>
    rw [e] at m; simp at m; subst m;obtain⟨hi,G⟩:=List.getElem?_eq_some_iff.1 e;obtain⟨I,J⟩:=List.getElem?_eq_some_iff.1 E;have:=hr i hi I;rw [G,J] at this; exact this
  have M:=hc.runs j w _ hl.1 C;have N:(execOp a.eval (mk dst (.call { callee:=.value f,args:=args,argTypes:=cN }) ty pos aC g)).run P w=.ok (.enter eG (args.toList.map a.eval++gK).toArray) w:=by
   have he:=hc.enter (args.toList.map a.eval++gK).toArray w;have O:Array.map a.eval args++gK.toArray=(args.toList.map a.eval++gK).toArray:=by apply Array.ext'; simp
   simp only [execOp,resolve,B,Deferred.ofValue,Sem.run_bind,Sem.run_pure,Result.andThen,invoke,List.append_eq,Array.empty_append];rw [O]; exact he
  unfold Oper.wp;rw [N,Oper.upon_enter];refine M.mono ?_;rintro e w' ⟨r,cv,j',h',rfl,R,hv,hh,o⟩;have q:∀b,b∈jl->b<w.heap.size:=fun b l=>Own.lt hl (.inl l);have S:∀b,b∈jl->w'.heap[b]?=w.heap[b]?/\j'.F b=j.F b:=fun b l=>o.frame b (q b l) (hl.2.apart b l);refine hk r L h' cv j' w' jl ⟨R,rfl⟩ (hv.mono (Le.refl _ _) (fun i b l=>by simp at l)) ⟨hh,⟨og hl.2.each fun xs b l h=>h.keep o.toLe (S b l),hl.2.nodup,fun b l k=>hl.2.apart b l (o.own b (q b l) k)⟩⟩ (Ext.refl _) ?_
  refine { o with frame:=fun b l hn=>o.frame b l (fun k=>hn ?_),own:=fun b l k=>?_ }
  ·rcases k with k|k
   ·simp at k
   ·exact .inr k
  ·rcases k with k|k
   ·exact .inl k
   ·rcases o.own b l (.inr k) with h|h
    ·simp at h
    ·exact .inr h
theorem dW.call {f:Operand}{args:Array Operand}{cN:Array TypeId}{eG:FuncId}{bZ:List D}{xs:List A}{Post:V->ah->Prop}(b:ev ts f=.a (.d (.func eG bZ))) (i:iH ts args.toList=some xs)
  (hc:AC P eG (xs++bZ.map .d) h Post) :
  dW P (mk dst (.call { callee:=.value f,args:=args,argTypes:=cN }) ty pos aC g) ts ls h fun v aH h'=>Post v h'/\aH=ls:=wu b i hc
theorem ar.en {f:Operand}{args:Array Operand}{cN:Array TypeId}{eG:FuncId}{bZ:List D}{xs:List A}{v:V}(b:ev ts f=.a (.d (.func eG bZ))) (i:iH ts args.toList=some xs)
  (hc:∀H,AC P eG (xs++bZ.map .d) H fun r h'=>r=v/\h'=H) :
  ar P (mk dst (.call { callee:=.value f,args:=args,argTypes:=cN }) ty pos aC g) ts ls h {} v ls h:=by
 intro L H _ _;exact(wu b i (hc H)).mono fun _ _ _ ⟨⟨j,k⟩,l⟩=>⟨j,l,k⟩
theorem ar.de {f:Operand}{args:Array Operand}{cN:Array TypeId}{eG:FuncId}{bZ:List D}{xs:List A}{v:V}{h1:ah}(b:ev ts f=.a (.d (.func eG bZ))) (i:iH ts args.toList=some xs)
  (hc:AC P eG (xs++bZ.map .d) h fun r h'=>r=v/\h'=h1) :
  ar P (mk dst (.call { callee:=.value f,args:=args,argTypes:=cN }) ty pos aC g) ts ls h { rh:=true,wh:=true } v ls h1:=by
 intro L H _ hH;have e:=hH rfl;subst e;exact(wu b i hc).mono fun _ _ _ ⟨⟨j,k⟩,l⟩=>⟨j,l,k⟩
theorem ar.gN {f:Operand}{args:Array Operand}{cN:Array TypeId}{eG:FuncId}{bZ:List D}{xs:List A}{v:V}(b:ev ts f=.a (.d (.func eG bZ))) (i:iH ts args.toList=some xs)
  (hc:AC P eG (xs++bZ.map .d) h fun r h'=>r=v/\h'=h) :
  ar P (mk dst (.call { callee:=.value f,args:=args,argTypes:=cN }) ty pos aC g) ts ls h { rh:=true } v ls h:=by
 intro L H _ hH;have e:=hH rfl;subst e;exact(wu b i hc).mono fun _ _ _ ⟨⟨j,k⟩,l⟩=>⟨j,l,k⟩
end
end Go.Ab
/-
 append.
-/
namespace Go.Ab
open Go Go.RowKit
variable {ak:bf}
theorem rN {j:J}{w:World}{k:Nat}{tok:Option Nat}{rows:List (List D)}{b o cap:Nat}(hk:∀r∈rows,r.length=k) (hn:rows.length<=cL) (hc:rows.length<=cap)
  (g:∀i x,rows.flatten[i]?=some x->o+i<j.F b/\∃v,w.cell? ⟨b,o+i,none⟩=some v/\aB j w x v) (ht:ry j tok rows.length ⟨b,o,none⟩ cap) :
  aB j w (.slice k tok false rows) (.slice (some ⟨b,o,none⟩) rows.length cap):=by
 refine aB.slice k tok rows ⟨b,o,none⟩ cap (fun i=>(w.cell? ⟨b,o+i,none⟩).getD undef) hk hn hc ⟨.inr rfl,fun i hi=>?_⟩ (fun i hi=>?_) ht
 ·obtain⟨h1,v,f,_⟩:=g i _ (List.getElem?_eq_getElem hi);exact⟨h1,by show w.cell? _=some ((w.cell? ⟨b,o+i,none⟩).getD undef); rw [f]; rfl⟩
 ·obtain⟨h1,v,f,l⟩:=g i _ (List.getElem?_eq_getElem hi);rw [f]; exact l
theorem uo {α:Type}:∀(l:List α) (n:Nat) (r:List α) (i:Nat),i<n->(cT l n r)[i]?=l[i]?
 | _,_,[],_,_=>rfl
 | l,n,v::r,i,h=>by
  rw [cT,uo (l.set n v) (n+1) r i (by omega),List.getElem?_set_ne (by omega)]
theorem wv {α:Type}:∀(l:List α) (n:Nat) (r:List α) (i:Nat) (x:α),r[i]?=some x->n+r.length<=l.length->(cT l n r)[n+i]?=some x
 | _,_,[],_,_,h,_=>by simp at h
 | l,n,v::r,i,x,h,hl=>by
  simp only [List.length_cons] at hl;cases i with
  | zero =>
   simp at h; subst h;rw [cT,Nat.add_zero,uo _ _ _ _ (by omega),List.getElem?_set];simp; omega
  | succ i =>
   rw [cT,show n+(i+1)=n+1+i by omega];exact wv (l.set n v) (n+1) r i x (by simpa using h) (by simp; omega)
section
variable {P:Program}{t u ty e:TypeId}{i:TypeInfo}{z:Value}{du:TypeDesc}
theorem zA (ht:P.underlying t=some (.slice e)) (hu:P.underlying u=some du) (b:∀k,du≠.int k) (hi:P.info? e=some i) (f:i.zero=some z){w:World}{base:Option Addr}{sLen sCap m:Nat}{x:Value}{olds news:List Value}
  (hlen:(Builtin.lenOf x).run P w=.ok m w) (g:(Builtin.firstCells i.size sLen (.slice base sLen sCap)).run P w.drew=.ok olds.toArray w.drew) (j:(Builtin.firstCells i.size m x).run P w.drew=.ok news.toArray w.drew)
  (q:sCap<sLen+m) (r:sLen+m<=9223372036854775807) (s:Builtin.nextslicecap (sLen+m) sCap*i.bytes<=281474976710656) :
  (Builtin.append_ #[t,u] ty #[.slice base sLen sCap,x]).run P w=.ok (.slice (some ⟨w.heap.size,0,none⟩) (sLen+m) (grownCap w (sLen+m) sCap e))
   (w.drew.alloc (.cells (olds++news++(Builtin.zeroCells z.cells (grownCap w (sLen+m) sCap e-(sLen+m))).toList).toArray e)):=by
 have hn:¬(sLen+m<=sCap):=by omega
 have l:¬(9223372036854775807<((sLen:Int)+(m:Int))):=by omega
 have o:¬(281474976710656<Builtin.nextslicecap (sLen+m) sCap*i.bytes):=by omega
 have p:(match du with|.int _=>true|_=>false)=false:=by cases du<;>first|rfl|exact absurd rfl (b _)
 simp [Builtin.append_,run_underlying ht,run_underlying hu,sizeOf,typeInfo,zeroValue,hi,f,p,hlen,hn,l,o,Question.forced,g,j,newRow,grownCap]
 congr 2
 apply Array.ext'
 simp [List.append_assoc]
theorem uq (ht:P.underlying t=some (.slice e)) (hu:P.underlying u=some du) (b:∀k,du≠.int k) (hi:P.info? e=some i){w w':World}{a:Addr}{sLen sCap m:Nat}{x:Value}{news:List Value}
  (hlen:(Builtin.lenOf x).run P w=.ok m w) (f:(Builtin.firstCells i.size m x).run P w=.ok news.toArray w) (g:sLen+m<=sCap) (j:(storeCells (a.add (sLen*i.size)) news).run P w=.ok () w') :
  (Builtin.append_ #[t,u] ty #[.slice (some a) sLen sCap,x]).run P w=.ok (.slice (some a) (sLen+m) sCap) w':=by
 have l:(match du with|.int _=>true|_=>false)=false:=by cases du<;>first|rfl|exact absurd rfl (b _)
 simp [Builtin.append_,run_underlying ht,run_underlying hu,sizeOf,typeInfo,hi,l,hlen,g,f,j]
theorem Fu (ht:P.underlying t=some (.slice e)) (hu:P.underlying u=some du) (b:∀k,du≠.int k) (hi:P.info? e=some i){w:World}{x:Value}
  (hlen:(Builtin.lenOf x).run P w=.ok 0 w) (f:(Builtin.firstCells i.size 0 x).run P w=.ok #[] w) :
  (Builtin.append_ #[t,u] ty #[.slice none 0 0,x]).run P w=.ok (.slice none 0 0) w:=by
 have g:(match du with|.int _=>true|_=>false)=false:=by cases du<;>first|rfl|exact absurd rfl (b _)
 simp [Builtin.append_,run_underlying ht,run_underlying hu,sizeOf,typeInfo,hi,g,hlen,f]
end
theorem zB {P:Program}{j:J}{w:World}{k:Nat}{tok:Option Nat}{nl:Bool}{rows:List (List D)}{cv:Value}{size:Nat}(h:aB j w (.slice k tok nl rows) cv) (hk:∀r∈rows,r.length=size) :
  ∃cs:List Value,aW (aB j w) rows.flatten cs/\∀w',(∀b o,o<j.F b->w'.cell? ⟨b,o,none⟩=w.cell? ⟨b,o,none⟩)->(Builtin.firstCells size rows.length cv).run P w'=.ok cs.toArray w':=by
 cases h with
 | fB _ _ ht=>exact⟨[],.nil,fun w' _=>by simp [Builtin.firstCells]⟩
 | slice _ _ _ a cap f z hn hc bH hr ht =>
  by_cases m:rows=[]
  ·subst m;exact⟨[],.nil,fun w' _=>by simp [Builtin.firstCells,loadCells,loadCellsFrom]⟩
  have p:a=⟨a.block,a.off,none⟩:=by have:=bH.1.resolve_left m; cases a; simp at this; simp [this]
  have q:=(iO hk).1;obtain⟨cs,h1,s⟩:=zn (P:=P) (j:=j) (w:=w) (b:=a.block) (o:=a.off) rows.flatten fun i x g=>by
   have hi:=(List.getElem?_eq_some_iff.1 g).1;refine⟨f i,(bH.2 i hi).2, ?_⟩;have:=hr i hi;rw [(List.getElem?_eq_some_iff.1 g).2] at this; exact this
  refine⟨cs,h1,fun w' hw=>?_⟩;have t:∀n v,cs[n]?=some v->w.cell? ⟨a.block,a.off+n,none⟩=some v:=by
   intro n v hv;obtain⟨x,g,_⟩:=h1.get' hv;have hi:=(List.getElem?_eq_some_iff.1 g).1;have u:=(bH.2 n hi).2;have l:(loadCells ⟨a.block,a.off,none⟩ rows.flatten.length).run P w=.ok ((List.range rows.flatten.length).map f).toArray w :=
    run_loadCells w _ _ f fun i hi=>by rw [add_plain]; exact(bH.2 i hi).2
   rw [s] at l;simp only [Result.ok.injEq,and_true] at l;have y:cs=(List.range rows.flatten.length).map f:=by
    have:=congrArg Array.toList l; simpa using this
   rw [y,List.getElem?_map,List.getElem?_range hi] at hv;simp at hv;rw [u,hv]
  rw [Builtin.firstCells,<- q,h1.length];rw [p];exact run_loadCells_list w' _ cs fun n v hv=>by
   rw [add_plain];obtain⟨x,g,_⟩:=h1.get' hv;have hi:=(List.getElem?_eq_some_iff.1 g).1;rw [hw _ _ (bH.2 n hi).1];exact t n v hv
theorem Fw {j:J}{w:World}{k:Nat}{tok:Option Nat}{nl:Bool}{rows:List (List D)}{cv:Value}(h:aB j w (.slice k tok nl rows) cv) (P:Program) (w':World):(Builtin.lenOf cv).run P w'=.ok rows.length w':=by
 cases h<;>simp [Builtin.lenOf]
theorem Fy {R:Nat->D->Prop}{rows aU:List (List D)}{n:Nat}(hn:rows.flatten.length=n) (h1:∀i x,rows.flatten[i]?=some x->R i x) (f:∀i x,aU.flatten[i]?=some x->R (n+i) x) :
  ∀i x,(rows++aU).flatten[i]?=some x->R i x:=by
 intro i x b;rw [List.flatten_append,List.getElem?_append] at b
 split at b
 ·exact h1 i x b
 ·rename_i h
  have:=f _ x b
  rwa [show n+(i-rows.flatten.length)=i by omega] at this
section
variable {P:Program}{ts:Ts}{ls:List (List D)}{h:ah}{dst:Option Tmp}{ty:TypeId}{pos:String}{aC:Array Edge}{g:Option (Nat×Bool)}
theorem Fz {P:Program}{t:TypeId}{b:TI}(g:aM P t=some b) (hk:(∃e,b.k=.slice e)\/b.k=.str):∃d,P.underlying t=some d/\∀k,d≠.int k:=by
 obtain⟨i,d,h1,j,_,_,f,_⟩:=fS g;refine⟨d,j,fun k e=>?_⟩;subst e;simp only [fE] at f;rcases hk with ⟨e,hk⟩|hk<;>rw [hk] at f<;>cases f
def Src (P:Program) (j:J) (w:World) (size:Nat) (cv:Value) (aU:List (List D)):Prop :=
 (∀r∈aU,r.length=size)/\(∃news:List Value,aW (aB j w) aU.flatten news/\∀w',(∀b o,o<j.F b->w'.cell? ⟨b,o,none⟩=w.cell? ⟨b,o,none⟩)->(Builtin.firstCells size aU.length cv).run P w'=.ok news.toArray w')/\∀w',(Builtin.lenOf cv).run P w'=.ok aU.length w'
theorem Src.slice {P:Program}{j:J}{w:World}{k:Nat}{tok:Option Nat}{nl:Bool}{rows:List (List D)}{cv:Value}{size:Nat}(h:aB j w (.slice k tok nl rows) cv) (hk:∀r∈rows,r.length=size):Src P j w size cv rows :=
 ⟨hk,zB h hk,fun w'=>Fw h P w'⟩
def jM (s:List UInt8):List (List D):=s.map fun b=>[.int .u8 (b.toNat:Int)]
theorem MO (j:J) (w:World) (s:List UInt8):aW (aB j w) (s.map fun b=>D.int .u8 (b.toNat:Int)) (s.map fun b=>Value.int .u8 (b.toNat:Int)):=by
 induction s with
 | nil=>exact .nil
 | cons a r f=>exact .cons (.int _ _) f
theorem MP (s:List UInt8):(jM s).flatten=s.map fun b=>D.int .u8 (b.toNat:Int):=by
 induction s with
 | nil=>rfl
 | cons a r f=>simp [jM] at f ⊢; exact f
theorem ar.zC {t u e:TypeId}{ay ag l:TI}{x y:Operand}{tk k m:Nat}{E:Option TypeId}{nl:Bool}{rows aU:List (List D)}{z:A}(aR:aM P t=some ay) (hk:ay.k=.slice e) (aT:aM P e=some l) (aV:aM P u=some ag) (aW:(∃e,ag.k=.slice e)\/ag.k=.str)
  (aZ:l.zero=some z) (a0:(cn z).length=l.size) (bv:l.size≠0)
  (p:ev ts x=.a (.d (.slice k (some tk) nl rows))) (a1:∀(j:J) (w:World) (jl:List Nat) (cv:Value),aX j w jl (ev ts y) cv->Src P j w l.size cv aU) (C:k=l.size\/rows=[])
  (M:h tk=some (.tok l.size m E)) (hm:m=rows.length) (a2:(rows.length+aU.length)*l.bytes<=cL) (hlen:rows.length+aU.length<=cL) (a3:∀T,E=some T->T=e:=by intro T h; cases h) :
  ar P (mk dst (.call { callee:=.builtin .append,args:=#[x,y],argTypes:=#[t,u] }) ty pos aC g) ts ls h { rh:=true,wh:=true }
   (.a (.d (.slice l.size (some tk) (nl&&aU.isEmpty) (rows++aU)))) ls (h.set tk (some (.tok l.size (rows.length+aU.length) E))):=by
 refine ar.of_run fun L H _ hH j w jl a hl N=>?_;have a4:=hH rfl;subst a4 hm;have h1:aB j w (.slice k (some tk) nl rows) (a.eval x):=by have:=N x (by simp [Op.operands,Call.operands]); rw [p] at this; exact this
 obtain⟨az,⟨news,U,W⟩,a5⟩:=a1 j w jl (a.eval y) (N y (by simp [Op.operands,Call.operands]));obtain⟨bx,bB,X,_,K,a6,_,aA⟩:=fS aT;rw [aZ] at aA;obtain⟨zv,a7,a8⟩:=oq aA;have a9:zv.cells.size=l.size:=by have:=(a8 j w).cells.length; rw [a0] at this; simpa using this.symm
 obtain⟨du,hu,Y⟩:=Fz aV aW;have ht:=kW aR hk;obtain⟨ai,cap,Z,bC,bE,bF,aD,a_,a'⟩:=lG (jl:=jl) h1;have aj:∀r∈rows,r.length=l.size:=by
  rcases C with e|e
  ·rw [<- e]; exact a_
  ·rw [e]; simp
 have aa:∀r∈rows++aU,r.length=l.size:=fun r hr=>(List.mem_append.1 hr).elim (aj r) (az r);have ab:=a5 w;have ba:=(iO az).1;have al:=(iO aj).1;have ad:news.length=aU.length*l.size:=by rw [<- U.length,ba]
 obtain⟨aE,dP,aF,hblk,_⟩:=hl.1.obj tk _ M;have am:∀(v:Value) (w':World),(Builtin.append_ #[t,u] ty #[a.eval x,a.eval y]).run P w=.ok v w' ->
   (execOp a.eval (mk dst (.call { callee:=.builtin .append,args:=#[x,y],argTypes:=#[t,u] }) ty pos aC g)).run P w=.ok (.value v) w':=fun v w' hr=>by
  simp [execOp,resolve,invoke,builtin,hr]
 have q:(rows++aU).length=rows.length+aU.length:=by simp
 by_cases an:aU=[]
 ·-- nothing is appended
  subst an;have bb:news=[]:=List.eq_nil_of_length_eq_zero (by simpa using ad);subst bb;have G:(Builtin.append_ #[t,u] ty #[a.eval x,a.eval y]).run P w=.ok (a.eval x) w:=by
   rw [Z];cases ai with
   | none =>
    obtain⟨aG,bc⟩:=aD rfl;subst aG bc;exact Fu ht hu Y X (by simpa using ab) (by rw [K]; simpa using W w (fun _ _ _=>rfl))
   | some ao =>
    have:=uq (P:=P) (ty:=ty) (sCap:=cap) (sLen:=rows.length) (m:=0) (a:=ao) (news:=[]) (w':=w) ht hu Y X (by simpa using ab) (by rw [K]; simpa using W w (fun _ _ _=>rfl)) (by omega) (by simp [storeCells])
    simpa using this
  refine⟨_,w,a.eval x,j,jl,am _ _ G,.inl rfl, ?_, ?_,Ext.refl _, ?_⟩
  ·have bd:rows≠[]->k=l.size:=fun ae=>C.resolve_right ae;simp only [List.append_nil,List.isEmpty_nil,Bool.and_true];show aB j w _ _;by_cases ae:rows=[]
   ·subst ae;have key:∀ap,aB j w (.slice k (some tk) nl []) ap->aB j w (.slice l.size (some tk) nl []) ap:=by
     intro ap hh;cases hh with
     | fB _ _ ht=>exact .fB _ _ ht
     | slice _ _ _ a cap f hk hn hc bH hr ht=>exact .slice _ _ [] a cap f (by simp) hn hc bH hr ht
    exact key _ h1
   ·rw [<- bd ae]; exact h1
  ·simp only [List.length_nil,Nat.add_zero,cond_true];rw [ah.oh H tk _ M]; exact hl
  ·simp only [List.length_nil,Nat.add_zero,cond_true];rw [ah.oh H tk _ M]; exact bw.refl _ _ _
 ·have bG:0<aU.length:=List.length_pos_iff.2 an;have be:(nl&&aU.isEmpty)=false:=by cases aU with|nil=>exact absurd rfl an|cons _ _=>simp
  rw [be];by_cases O:rows.length+aU.length<=cap
  ·-- in place
   cases ai with
   | none=>obtain⟨aG,_⟩:=aD rfl; omega
   | some ao =>
    obtain⟨bf,f,bH,bg⟩:=a' ao rfl;obtain⟨_,bh⟩:=bf tk rfl;obtain⟨_,bi⟩:=bh _ aF;rcases bi rfl with ⟨_,hc⟩|⟨b,aq,bj⟩
    ·omega
    ·subst bj;dsimp only at aq;obtain⟨cs,ce,bk,au,bl,bI,bm⟩:=hblk b cap aq;have aH:w.heap[b]?=some (.cells cs.toList.toArray ce (0,0)):=by simpa using bk
     obtain⟨w',bn,s⟩:=wi (ak:=ak) (P:=P) (off:=rows.length*l.size) news 0 cs.toList w aH (by
      rw [ad]; simp only [Array.length_toList,au]; rw [Nat.add_zero,<- Nat.add_mul]; exact Nat.mul_le_mul_right _ O) (zo U)
     rw [Nat.add_zero] at s;have G:(Builtin.append_ #[t,u] ty #[a.eval x,a.eval y]).run P w=.ok (.slice (some ⟨b,0,none⟩) (rows.length+aU.length) cap) w':=by
      rw [Z];exact uq ht hu Y X ab (by rw [K]; exact W w fun _ _ _=>rfl) O (by rw [add_plain,K,Nat.zero_add]; exact bn)
     have bo:bD j tk (.tok l.size rows.length E)=some b:=by simp [bD,aF,aq]
     have af:∀o,w'.cell? ⟨b,o,none⟩=(cT cs.toList (rows.length*l.size) news)[o]?:=fun o=>by rw [cell_of_row w' b o _ ce (0,0) s.here]; simp
     have aJ:∀o,w.cell? ⟨b,o,none⟩=cs.toList[o]?:=fun o=>by rw [cell_of_row w b o _ ce (0,0) aH]; simp
     obtain⟨av,Q⟩:=hl.grow (w':=w') (m':=rows.length+aU.length) M (by omega) (b:=b) (cap:=cap) s.here (by simp [rG,au]) O (fun x p _=>s.other x p)
      (by rw [s.size]; exact Nat.le_refl _) (by rw [s.size]; omega) (.inr ⟨bo,fun o N=>by rw [af,aJ,uo _ _ _ _ (by rw [bl] at N; exact N)]⟩) s.os s.tape s.output bm
     refine⟨_,w',_,_,jl,am _ _ G,.inl rfl, ?_,av,Ext.refl _,Q⟩;have hle:=Q.toLe;have:=rN (j:=j.cr tk ⟨some (b,cap),rows.length+aU.length⟩ b ((rows.length+aU.length)*l.size)) (w:=w') (k:=l.size) (tok:=some tk) (rows:=rows++aU) (b:=b) (o:=0) (cap:=cap) aa
      (by rw [q]; exact hlen) (by rw [q]; exact O) (fun i x p=>?_) (fun bp S=>?_)
     ·rw [q] at this; exact this
     ·have aw:i<(rows++aU).flatten.length:=(List.getElem?_eq_some_iff.1 p).1;rw [(iO aa).1,q] at aw;refine⟨by simp only [J.cr,if_true]; omega, ?_⟩;rw [Nat.zero_add,af]
      revert i x p
      have:=Fy (R:=fun i x=>∃v,(cT cs.toList (rows.length*l.size) news)[i]?=some v/\aB (j.cr tk ⟨some (b,cap),rows.length+aU.length⟩ b ((rows.length+aU.length)*l.size)) w' x v) al (aU:=aU)
       (fun i x p=>by
        have hi:=(List.getElem?_eq_some_iff.1 p).1;rw [uo _ _ _ _ (by omega)];have aK:=(bH.2 i hi).2;rw [Nat.zero_add,aJ] at aK;refine⟨f i,aK, ?_⟩;have aL:=bg i hi;rw [(List.getElem?_eq_some_iff.1 p).2] at aL;exact aL.mono hle)
       (fun i x p=>by
        obtain⟨v,hv,hr⟩:=U.get p;exact⟨v,wv _ _ _ _ _ hv (by rw [ad]; simp only [Array.length_toList,au]; rw [<- Nat.add_mul]; exact Nat.mul_le_mul_right _ O),hr.mono hle⟩)
      exact fun i x p _=>this i x p
     ·simp only [Option.some.injEq] at S;subst S;refine⟨Nat.lt_of_lt_of_le aE hle.next,fun bq C=>?_⟩;simp only [J.cr,if_true,Option.some.injEq] at C;subst C;exact⟨by rw [q]; exact Nat.le_refl _,fun _=>.inr ⟨b,rfl,rfl⟩⟩
  ·-- a new array
   obtain⟨olds,aN,br⟩:=zB (P:=P) h1 aj;have bs:olds.length=rows.length*l.size:=by rw [<- aN.length,al]
   have aO:∀b o,o<j.F b->w.drew.cell? ⟨b,o,none⟩=w.cell? ⟨b,o,none⟩:=fun _ _ _=>rfl;have bM:cL=140737488355328:=rfl;have G:=zA (P:=P) (ty:=ty) (w:=w) (base:=ai) (sLen:=rows.length) (sCap:=cap) (m:=aU.length) (x:=a.eval y) (olds:=olds) (news:=news) ht hu Y X a7 ab
    (by rw [K,<- Z]; exact br w.drew aO) (by rw [K]; exact W w.drew aO) (by omega) (by omega) (growslice_fits (by omega) (by rw [a6]; exact a2))
   rw [<- Z] at G;generalize bt:grownCap w (rows.length+aU.length) cap e=I at G;have aP:rows.length+aU.length<=I:=by rw [<- bt]; exact grownCap_ge _ _ _ _
   generalize ax:olds++news++(Builtin.zeroCells zv.cells (I-(rows.length+aU.length))).toList=B at G;have bu:B.length=I*l.size:=by
    rw [<- ax];simp only [List.length_append,bs,ad,Array.length_toList,size_zeroCells,a9,<- Nat.add_mul]
    congr 1; omega
   have aQ:=heap_alloc_new w.drew (.cells B.toArray e);have af:∀o,(w.drew.alloc (.cells B.toArray e)).cell? ⟨w.heap.size,o,none⟩=B[o]?:=fun o=>by
    rw [cell_of_row _ w.heap.size o B.toArray e (0,0) aQ]; simp
   obtain⟨av,Q⟩:=hl.drew.grow (w':=w.drew.alloc (.cells B.toArray e)) (m':=rows.length+aU.length) M (by omega) (b:=w.heap.size) (cap:=I) aQ (by simpa using bu) aP
    (fun x p aY=>pZ aY) (by simp) (by simp) (.inl (Nat.le_refl _)) rfl rfl fC.rfl (fun T h=>(a3 T h).symm)
   refine⟨_,_,_,_,jl,am _ _ G,.inl rfl, ?_,av,Ext.refl _,(bw.drew j w _).trans Q⟩;have hle:=((bw.drew j w (Own j H jl)).trans Q).toLe;have:=rN (j:=j.cr tk ⟨some (w.heap.size,I),rows.length+aU.length⟩ w.heap.size ((rows.length+aU.length)*l.size)) (w:=w.drew.alloc (.cells B.toArray e)) (k:=l.size) (tok:=some tk) (rows:=rows++aU) (b:=w.heap.size)
    (o:=0) (cap:=I) aa (by rw [q]; exact hlen) (by rw [q]; exact aP) (fun i x p=>?_) (fun bp S=>?_)
   ·rw [q] at this; exact this
   ·have aw:i<(rows++aU).flatten.length:=(List.getElem?_eq_some_iff.1 p).1;rw [(iO aa).1,q] at aw;refine⟨by simp only [J.cr,if_true]; omega, ?_⟩;rw [Nat.zero_add,af]
    revert i x p
    have:=Fy (R:=fun i x=>∃v,B[i]?=some v/\aB (j.cr tk ⟨some (w.heap.size,I),rows.length+aU.length⟩ w.heap.size ((rows.length+aU.length)*l.size)) (w.drew.alloc (.cells B.toArray e)) x v) al (aU:=aU)
     (fun i x p=>by
      obtain⟨v,hv,hr⟩:=aN.get p;refine⟨v, ?_,hr.mono hle⟩;have hi:=(List.getElem?_eq_some_iff.1 hv).1;rw [<- ax,List.append_assoc,List.getElem?_append_left hi]; exact hv)
     (fun i x p=>by
      obtain⟨v,hv,hr⟩:=U.get p;refine⟨v, ?_,hr.mono hle⟩;have hi:=(List.getElem?_eq_some_iff.1 hv).1;rw [<- ax,List.append_assoc,List.getElem?_append_right (by omega),show rows.length*l.size+i-olds.length=i by omega,List.getElem?_append_left hi]; exact hv)
    exact fun i x p _=>this i x p
   ·simp only [Option.some.injEq] at S;subst S;refine⟨Nat.lt_of_lt_of_le aE hle.next,fun bq C=>?_⟩;simp only [J.cr,if_true,Option.some.injEq] at C;subst C;exact⟨by rw [q]; exact Nat.le_refl _,fun _=>.inr ⟨w.heap.size,rfl,rfl⟩⟩
theorem ar.append {t u e:TypeId}{i f b:TI}{x y:Operand}{tk k k' m:Nat}{tok':Option Nat}{nl l:Bool}{rows aU:List (List D)}{z:A}(p:aM P t=some i) (hk:i.k=.slice e) (q:aM P e=some b) (s:aM P u=some f) (v:(∃e,f.k=.slice e)\/f.k=.str)
  (B:b.zero=some z) (C:(cn z).length=b.size) (E:b.size≠0)
  (F:ev ts x=.a (.d (.slice k (some tk) nl rows))) (G:ev ts y=.a (.d (.slice k' tok' l aU))) (H:k=b.size\/rows=[]) (I:k'=b.size\/aU=[])
  (J:h tk=some (.tok b.size m)) (hm:m=rows.length) (K:(rows.length+aU.length)*b.bytes<=cL) (hlen:rows.length+aU.length<=cL) :
  ar P (mk dst (.call { callee:=.builtin .append,args:=#[x,y],argTypes:=#[t,u] }) ty pos aC g) ts ls h { rh:=true,wh:=true }
   (.a (.d (.slice b.size (some tk) (nl&&aU.isEmpty) (rows++aU)))) ls (h.set tk (some (.tok b.size (rows.length+aU.length)))) :=
 ar.zC p hk q s v B C E F (fun j w jl cv hv=>by
  have o:aB j w (.slice k' tok' l aU) cv:=by rw [G] at hv; exact hv
  refine Src.slice o fun r hr=>?_;obtain⟨_,_,_,_,_,_,_,hh,_⟩:=lG (jl:=jl) o;rcases I with e|e
  ·rw [<- e]; exact hh r hr
  ·rw [e] at hr; cases hr) H J hm K hlen
theorem ar.MQ {t u e:TypeId}{i l f:TI}{x y:Operand}{tk k m:Nat}{E:Option TypeId}{nl:Bool}{rows:List (List D)}{s:List UInt8}{z:A}(q:aM P t=some i) (hk:i.k=.slice e) (v:aM P e=some f) (B:aM P u=some l) (C:l.k=.str)
  (F:f.zero=some z) (G:(cn z).length=f.size) (o:f.size=1)
  (H:ev ts x=.a (.d (.slice k (some tk) nl rows))) (I:ev ts y=.a (.d (.str s))) (J:k=f.size\/rows=[])
  (K:h tk=some (.tok f.size m E)) (hm:m=rows.length) (L:(rows.length+(jM s).length)*f.bytes<=cL) (hlen:rows.length+(jM s).length<=cL) (M:∀T,E=some T->T=e:=by intro T h; cases h) :
  ar P (mk dst (.call { callee:=.builtin .append,args:=#[x,y],argTypes:=#[t,u] }) ty pos aC g) ts ls h { rh:=true,wh:=true }
   (.a (.d (.slice f.size (some tk) (nl&&(jM s).isEmpty) (rows++jM s)))) ls (h.set tk (some (.tok f.size (rows.length+(jM s).length) E))) :=
 ar.zC q hk v B (.inr C) F G (by omega) H (fun j w jl cv hv=>by
  have N:aB j w (.str s) cv:=by rw [I] at hv; exact hv
  cases N with
  | str _ Q =>
   refine⟨fun r hr=>?_,⟨s.map fun b=>Value.int .u8 (b.toNat:Int), ?_,fun w' _=>?_⟩,fun w'=>?_⟩
   ·obtain⟨b,_,rfl⟩:=List.mem_map.1 hr;rw [o]; rfl
   ·rw [MP]; exact MO j w s
   ·have p:(⟨s.toArray⟩:ByteArray).size=s.length:=by show s.toArray.size=_; simp
    have O:(⟨s.toArray⟩:ByteArray).extract 0 (jM s).length=⟨s.toArray⟩:=by
     apply ByteArray.ext
     simp [jM]
    simp only [o,Builtin.firstCells,O,Sem.run_pure];simp
   ·have p:(⟨s.toArray⟩:ByteArray).size=s.length:=by show s.toArray.size=_; simp
    simp [Builtin.lenOf,jM,p]) J K hm L hlen M
end
end Go.Ab
/-
 Struct and slice literals,maps,parts of slices,comparisons of structs,tokens.
-/
namespace Go.Ab
open Go Go.RowKit
variable {ak:bf}
theorem zD (off:Nat):∀(l:List Value) (k:Nat) (cs:Array Value),((l.zipIdx k).foldl (fun cs (p:Value×Nat)=>cs.setIfInBounds (off+p.2) p.1) cs).toList=cT cs.toList (off+k) l
 | [],_,_=>rfl
 | v::r,k,cs=>by
  simp only [List.zipIdx_cons,List.foldl_cons];rw [zD off r (k+1)];simp [cT,Nat.add_assoc]
def qd (ts:Ts):List (Nat×Operand)->Option (List (Nat×A))
 | []=>some []
 | (i,x)::r=>match wq ts x,qd ts r with
  | some y,some b=>some ((i,y)::b)
  | _,_=>none
theorem zF {j:J}{w:World}{jl:List Nat}{ts:Ts}{act:Act}:∀(l:List (Nat×Operand)) (xs:List (Nat×A)),qd ts l=some xs->(∀x,x∈l.map (·.2)->aX j w jl (ev ts x) (act.eval x)) ->
  aW (fun p q=>p.1=q.1/\cM j w p.2 q.2) xs (l.map fun p=>(p.1,act.eval p.2))
 | [],xs,h,_=>by simp [qd] at h; subst h; exact .nil
 | (i,x)::r,xs,h,f=>by
  simp only [qd] at h
  split at h
  ·rename_i y g h1 k
   simp at h; subst h;refine .cons ⟨rfl, ?_⟩ (zF r g k fun z b=>f z (by simp at b ⊢; exact .inr b));have:=f x (by simp);unfold wq at h1
   split at h1
   ·rename_i z b; simp at h1; subst h1; rw [b] at this; exact this
   ·simp at h1
  ·simp at h
def ur (T:List TI) (fs:List (Nat×TypeId)):List D->List (Nat×A)->Option (List D)
 | b,[]=>some b
 | b,(i,x)::r=>match fs[i]? with
  | some (o,g)=>match T[g]? with
   | some f=>match Nat.beq (cn x).length f.size&&Nat.ble (o+f.size) b.length with
    | true=>ur T fs (cT b o (cn x)) r
    | false=>none
   | none=>none
  | none=>none
section
variable {P:Program}{T:List TI}{ts:Ts}{ls:List (List D)}{h:ah}{dst:Option Tmp}{ty:TypeId}{pos:String}{aC:Array Edge}{g:Option (Nat×Bool)}
theorem FA {P:Program}{T:List TI}(ew:je P T):∀(fs:List Field) (w:World),(∀f∈fs,∃b,T[f.type]?=some b) ->
  ∃ps:List (Nat×Nat),(fs.mapM fun(f:Field)=>Prod.mk f.offset <$> sizeOf f.type).run P w=.ok ps w/\∀(i:Nat) (f:Field),fs[i]?=some f->∀b:TI,T[f.type]?=some b->ps[i]?=some (f.offset,b.size)
 | [],w,_=>⟨[],by simp,by simp⟩
 | f::fs,w,j=>by
  obtain⟨b,k⟩:=j f (by simp);obtain⟨ps,h1,l⟩:=FA ew fs w fun f m=>j f (by simp [m]);refine⟨(f.offset,b.size)::ps, ?_,fun i o hi p g=>?_⟩
  ·rw [List.mapM_cons,Sem.run_bind,Sem.run_map,kT (ew _ _ k)];simp only [Result.andThen,Sem.run_bind,h1,Sem.run_pure]
  ·cases i with
   | zero=>simp at hi; subst hi; rw [k] at g; simp at g; subst g; rfl
   | succ i=>simp at hi ⊢; exact l i o hi p g
theorem FB {j:J}{w:World}{T:List TI}{fs:List (Nat×TypeId)}{place:Nat->Option (Nat×Nat)}(s:∀i o l g,fs[i]?=some (o,l)->T[l]?=some g->place i=some (o,g.size)) :
  ∀(parts:List (Nat×A)) (t:List (Nat×Value)) (f k:List D) (cs:Array Value),ur T fs f parts=some k->aW (fun p q=>p.1=q.1/\cM j w p.2 q.2) parts t->aW (aB j w) f cs.toList ->
  ∃m,Instr.fill place cs t=some m/\aW (aB j w) k m.toList
 | _,_,f,k,cs,b,.nil,r=>by simp [ur] at b; subst b; exact⟨cs,rfl,r⟩
 | (i,x)::ps,(I,v)::y,f,k,cs,b,.cons ⟨e,hr⟩ ht,r=>by
  dsimp only at e hr;subst e;simp only [ur] at b
  split at b
  ·rename_i o l z
   split at b
   ·rename_i g B
    split at b
    ·rename_i hc
     simp only [Bool.and_eq_true] at hc;have hl:=Nat.eq_of_beq_eq_true hc.1;have hle:=Nat.le_of_ble_eq_true hc.2;have C:=s i o l g z B;have u:=hr.cells;have E:v.cells.size=g.size:=by rw [<- hl,u.length]; simp
     have F:cs.size=f.length:=by rw [r.length]; simp
     have G:aW (aB j w) (cT f o (cn x)) (v.cells.zipIdx.foldl (fun cs (p:Value×Nat)=>cs.setIfInBounds (o+p.2) p.1) cs).toList:=by
      rw [<- Array.foldl_toList];have:=zD o v.cells.toList 0 cs;simp only [Array.toList_zipIdx];rw [this,Nat.add_zero];exact r.cT o u
     obtain⟨m,h1,H⟩:=FB s ps y _ k _ b ht G;refine⟨m, ?_,H⟩;rw [Instr.fill,C];dsimp only;rw [if_neg (by simp [E,F]; omega)];exact h1
    ·simp at b
   ·simp at b
  ·simp at b
theorem ar.build (ew:je P T){t:TypeId}{b:TI}{fs:List (Nat×TypeId)}{l m:List D}{parts:Array (Nat×Operand)}{ps:List (Nat×A)}(v:T[t]?=some b) (hk:b.k=.struct fs) (y:b.zero=some (.agg l))
  (z:fs.all (fun f=>(T[f.2]?).isSome)=true) (B:qd ts parts.toList=some ps) (C:ur T fs l ps=some m):ar P (mk dst (.build t parts) ty pos aC g) ts ls h {} (.a (.agg m)) ls h :=
 ar.dU fun j w jl a E=>by
  have hr:=zF (j:=j) (w:=w) (jl:=jl) (act:=a) parts.toList ps B fun x r=>E x (by simp [Op.operands] at r ⊢; exact r);have s:=ew t b v;obtain⟨inf,d,h1,_,_,_,_,u⟩:=fS s;rw [y] at u;obtain⟨zv,F,G⟩:=oq u;obtain⟨gs,hu,he⟩:=Fi s hk;obtain⟨pl,H,I⟩:=FA (P:=P) ew gs.toList w fun f J=>by
   have:=List.all_eq_true.1 z (f.offset,f.type) (by rw [<- he]; exact List.mem_map.2 ⟨f,J,rfl⟩);exact Option.isSome_iff_exists.1 this
  obtain⟨q,K,L⟩:=FB (j:=j) (w:=w) (T:=T) (fs:=fs) (place:=(pl.toArray[·]?)) (fun i o Q M hi N=>by
   rw [<- he,List.getElem?_map] at hi;cases e:gs.toList[i]? with
   | none=>rw [e] at hi; simp at hi
   | some f=>rw [e] at hi; simp at hi; obtain⟨rfl,rfl⟩:=hi; simpa using I i f e M N) ps _ l m zv.cells C hr (G j w).cells
  refine⟨.agg q, ?_,⟨q.toList,by simp,L⟩⟩;have O:(Instr.build t (parts.map fun(i,x)=>(i,a.eval x))).run P w=.ok (.agg q) w:=by
   simp only [Instr.build,Sem.run_bind,zeroValue,typeInfo,run_program,h1,F,Result.andThen,Sem.run_pure,eZ hu];rw [Array.mapM_eq_mapM_toList,Sem.run_map];rw [show (List.mapM _ gs.toList:Sem (List (Nat×Nat)))=List.mapM (fun f=>Prod.mk f.offset <$> sizeOf f.type) gs.toList from by congr 1];rw [H];simp only [Result.andThen];have e:(Array.map (fun(x:Nat×Operand)=>(x.1,a.eval x.2)) parts).toList=parts.toList.map fun p=>(p.1,a.eval p.2):=by simp
   rw [e,K];simp
  simp only [execOp,Sem.run_bind,O,Result.andThen,Sem.run_pure]
def rO (n:Nat):List (List D)->List (Nat×A)->Option (List (List D))
 | rows,[]=>some rows
 | rows,(i,x)::r=>match Nat.beq (cn x).length n&&Nat.blt i rows.length with
  | true=>rO n (rows.set i (cn x)) r
  | false=>none
theorem FC {n:Nat}:∀{rows:List (List D)}(_:∀r∈rows,r.length=n){i:Nat}(_:i<rows.length){r:List D}(_:r.length=n),(rows.set i r).flatten=cT rows.flatten (i*n) r
 | [],_,i,hi,_,_=>by simp at hi
 | b::rs,hk,i,hi,r,hr=>by
  have h0:b.length=n:=hk b (by simp);cases i with
  | zero =>
   simp only [List.set_cons_zero,List.flatten_cons,Nat.zero_mul]
   apply List.ext_getElem?
   intro k;by_cases j:k<n
   ·rw [List.getElem?_append_left (by omega)];have:=wv (b++rs.flatten) 0 r k (r[k]'(by omega)) (List.getElem?_eq_getElem (by omega)) (by simp; omega);rw [Nat.zero_add] at this;rw [this,List.getElem?_eq_getElem (by omega)]
   ·rw [List.getElem?_append_right (by omega)];have:∀(l:List D) (m:Nat) (s:List D) (k:Nat),m+s.length<=k->(cT l m s)[k]?=l[k]?:=by
     intro l m s;induction s generalizing l m with
     | nil=>intros; rfl
     | cons v s f=>intro k hk; simp at hk; rw [cT,f _ _ k (by omega),List.getElem?_set_ne (by omega)]
    rw [this _ _ _ _ (by omega),List.getElem?_append_right (by omega),h0,hr]
  | succ i =>
   simp only [List.set_cons_succ,List.flatten_cons];rw [FC (fun x g=>hk x (by simp [g])) (by simpa using hi) hr];have:∀(p l:List D) (m:Nat) (s:List D),cT (p++l) (p.length+m) s=p++cT l m s:=by
    intro p l m s;induction s generalizing l m with
    | nil=>rfl
    | cons v s f=>rw [cT,cT,show (p++l).set (p.length+m) v=p++l.set m v by rw [List.set_append_right _ _ (by omega)]; simp,Nat.add_assoc,f]
   rw [<- this,h0,show (i+1)*n=n+i*n by rw [Nat.add_mul]; omega]
theorem FD {j:J}{w:World}{n:Nat}:∀(parts:List (Nat×A)) (k:List (Nat×Value)) (rows aU:List (List D)) (cs:Array Value),rO n rows parts=some aU->(∀r∈rows,r.length=n) ->
  aW (fun p q=>p.1=q.1/\cM j w p.2 q.2) parts k->aW (aB j w) rows.flatten cs.toList ->
  ∃f,Instr.fill (fun i=>some (i*n,n)) cs k=some f/\aW (aB j w) aU.flatten f.toList/\aU.length=rows.length/\∀r∈aU,r.length=n
 | _,_,rows,aU,cs,b,hk,.nil,g=>by simp [rO] at b; subst b; exact⟨cs,rfl,g,rfl,hk⟩
 | (i,x)::ps,(C,v)::m,rows,aU,cs,b,hk,.cons ⟨e,hr⟩ ht,g=>by
  dsimp only at e hr;subst e;simp only [rO] at b
  split at b
  ·rename_i hc
   simp only [Bool.and_eq_true] at hc;have hl:=Nat.eq_of_beq_eq_true hc.1;have aY:i<rows.length:=by simpa [Nat.blt_eq] using hc.2
   have l:=hr.cells;have o:v.cells.size=n:=by rw [<- hl,l.length]; simp
   have s:cs.size=rows.length*n:=by rw [<- (iO hk).1,g.length]; simp
   have hle:i*n+n<=rows.length*n:=by rw [<- Nat.succ_mul]; exact Nat.mul_le_mul_right n aY
   have t:aW (aB j w) (rows.set i (cn x)).flatten (v.cells.zipIdx.foldl (fun cs (p:Value×Nat)=>cs.setIfInBounds (i*n+p.2) p.1) cs).toList:=by
    rw [FC hk aY hl,<- Array.foldl_toList];have:=zD (i*n) v.cells.toList 0 cs;simp only [Array.toList_zipIdx];rw [this,Nat.add_zero];exact g.cT _ l
   have u:∀r∈rows.set i (cn x),r.length=n:=fun r hr=>by
    rcases List.mem_or_eq_of_mem_set hr with h|h
    ·exact hk r h
    ·rw [h]; exact hl
   obtain⟨f,h1,y,z,B⟩:=FD ps m _ aU _ b u ht t;refine⟨f, ?_,y,by rw [z]; simp,B⟩;rw [Instr.fill];dsimp only;rw [if_neg (by simp [o,s]; omega)];exact h1
  ·simp at b
theorem MR {α:Type} [Inhabited α] (z:Array α) (len:Nat) (f:z.size≠0):((Array.range (len*z.size)).map (fun i=>z[i % z.size]!)).toList=(List.replicate len z.toList).flatten:=by
 induction len with
 | zero=>simp
 | succ len b =>
  have h1:((Array.range ((len+1)*z.size)).map (fun i=>z[i % z.size]!)).toList=((Array.range (len*z.size)).map (fun i=>z[i % z.size]!)).toList++z.toList:=by
   simp only [Array.toList_map,Array.toList_range];rw [Nat.add_mul,Nat.one_mul,List.range_add,List.map_append,List.map_map]
   congr 1
   apply List.ext_getElem?
   intro k;by_cases hk:k<z.size
   ·simp only [List.getElem?_map,List.getElem?_range hk,Option.map_some,Function.comp];have e:(len*z.size+k) % z.size=k:=by rw [Nat.mul_comm,Nat.mul_add_mod,Nat.mod_eq_of_lt hk]
    rw [e]; simp [hk]
   ·rw [List.getElem?_eq_none (by simp; omega),List.getElem?_eq_none (by simp; omega)]
  rw [h1,b];rw [List.replicate_succ',List.flatten_append]; simp
end
end Go.Ab
/-
 Slice literals,maps,parts of slices,comparisons of structs,tokens.
-/
namespace Go.Ab
open Go Go.RowKit
variable {ak:bf}
variable {eP:d_}
section
variable {P:Program}{T:List TI}{ts:Ts}{ls:List (List D)}{h:ah}{dst:Option Tmp}{ty:TypeId}{pos:String}{aC:Array Edge}{g:Option (Nat×Bool)}
theorem ar.ov {t e:TypeId}{y l:TI}{z:A}{len:Nat}{parts:Array (Nat×Operand)}{ps:List (Nat×A)}{rows:List (List D)}(B:aM P t=some y) (hk:y.k=.slice e) (u:aM P e=some l)
  (Q:l.zero=some z) (R:Nat.beq (cn z).length l.size=true) (C:Nat.beq l.size 0=false) (hlen:Nat.ble (len*l.size) 16777216=true) (S:qd ts parts.toList=some ps) (hr:rO l.size (List.replicate len (cn z)) ps=some rows) :
  ar P (mk dst (.buildSlice t len parts) ty pos aC g) ts ls h {} (.full l.size rows) ls h:=by
 refine ar.of_run fun L H _ _ j w jl a hl E=>?_;have U:=zF (j:=j) (w:=w) (jl:=jl) (act:=a) parts.toList ps S fun x m=>E x (by simp [Op.operands] at m ⊢; exact m);obtain⟨am,an,W,_,ao,ap,_,F⟩:=fS u;rw [Q] at F;obtain⟨zv,X,G⟩:=oq F;have I:(cn z).length=l.size:=Nat.eq_of_beq_eq_true R;have Y:l.size≠0:=fun e=>by rw [e] at C; simp at C
 have Z:len*l.size<=16777216:=Nat.le_of_ble_eq_true hlen;have aa:zv.cells.size=l.size:=by have:=(G j w).cells.length; rw [I] at this; simpa using this.symm
 have hzero:∀pre:Array Value,pre=(Array.range (len*l.size)).map (fun i=>zv.cells[i % zv.cells.size]!)->aW (aB j w) (List.replicate len (cn z)).flatten pre.toList:=by
  intro pre K;rw [K,<- aa,MR _ _ (by omega)];have:=(G j w).cells;clear hr K hlen Z E;induction len with
  | zero=>exact .nil
  | succ n ab=>simp only [List.replicate_succ,List.flatten_cons]; exact this.append ab
 obtain⟨s,h1,ad,q,M⟩:=FD (j:=j) (w:=w) ps _ _ rows _ hr (fun r hr=>by rw [List.eq_of_mem_replicate hr]; exact I) U (hzero _ rfl);simp only [List.length_replicate] at q;have ae:(Instr.buildSlice t len (parts.map fun(i,x)=>(i,a.eval x))).run P w=.ok (.slice (some ⟨w.heap.size,0,none⟩) len len) (w.alloc (.cells s e)):=by
  have af:¬(16777216<len*l.size):=by omega
  have ag:(Array.map (fun(x:Nat×Operand)=>(x.1,a.eval x.2)) parts).toList=parts.toList.map fun p=>(p.1,a.eval p.2):=by simp
  rw [<- ag] at h1;by_cases h0:len*l.size=0
  ·have ai:len=0:=by
    rcases Nat.mul_eq_zero.1 h0 with e|e
    ·exact e
    ·exact absurd e Y
   subst ai;simp only [Nat.zero_mul] at h1;have N:∀f:Nat->Value,Array.map f (Array.range 0)=#[]:=fun f=>by apply Array.ext'; simp
   simp only [N] at h1;simp [Instr.buildSlice,eZ (kW B hk),kT u,newRow,N];simp at h1;rw [h1];simp
  ·simp [Instr.buildSlice,eZ (kW B hk),kT u,af,h0,zeroValue,typeInfo,W,X,newRow];simp at h1;rw [h1];simp
 have aq:=iO M;obtain⟨aj,O⟩:=hl.data (.cells s e) (rows.length*l.size);refine⟨_,_,.slice (some ⟨w.heap.size,0,none⟩) len len,j.er w.heap.size (rows.length*l.size),jl,by simp [execOp,ae],.inl rfl, ?_,aj,Ext.refl _,O⟩;have hm:=rN (j:=j.er w.heap.size (rows.length*l.size)) (w:=w.alloc (.cells s e)) (k:=l.size) (tok:=none) (rows:=rows) (b:=w.heap.size) (o:=0) (cap:=len) M (by
  rw [q]; have:len*1<=len*l.size:=Nat.mul_le_mul_left _ (by omega);unfold cL; omega) (by omega) (fun i x m=>?_) (fun au ak=>by simp at ak)
 ·rw [q] at hm; rw [q]; exact⟨hm,⟨w.heap.size,0,none⟩,by rw [q]⟩
 ·have av:=(List.getElem?_eq_some_iff.1 m).1;obtain⟨v,hv,al⟩:=ad.get m;refine⟨by simp only [J.er,if_true]; omega,v, ?_,al.mono O.toLe⟩;rw [cell_of_row _ w.heap.size _ s e (0,0) (heap_alloc_new w _),Nat.zero_add]
  simpa using hv
theorem ar.FE {o:Oper}{fx:Fx}{v b:V}{aH:List (List D)}{h':ah}(hc:ar P o ts ls h fx v aH h') (hv:∀j w jl cv,aX j w jl v cv->aX j w jl b cv):ar P o ts ls h fx b aH h':=by
 intro L H f hH j w jl a hl g K Q hk;exact hc L H f hH j w jl a hl g K Q fun u l k cv j' w' i ⟨m,p,q⟩ hr=>hk b l k cv j' w' i ⟨rfl,p,q⟩ (hv _ _ _ _ (m▸hr))
theorem ar.buildSlice {t e:TypeId}{f b:TI}{z:A}{len:Nat}{parts:Array (Nat×Operand)}{ps:List (Nat×A)}{rows:List (List D)}(i:aM P t=some f) (hk:f.k=.slice e) (j:aM P e=some b)
  (l:b.zero=some z) (m:Nat.beq (cn z).length b.size=true) (o:Nat.beq b.size 0=false) (hlen:Nat.ble (len*b.size) 16777216=true) (p:qd ts parts.toList=some ps) (hr:rO b.size (List.replicate len (cn z)) ps=some rows) :
  ar P (mk dst (.buildSlice t len parts) ty pos aC g) ts ls h {} (.a (.d (.slice b.size none false rows))) ls h :=
 (ar.ov i hk j l m o hlen p hr).FE fun _ _ _ _ h=>h.1
theorem FF {n:Nat}:∀{rows:List (List D)}(_:∀r∈rows,r.length=n) (k:Nat),(rows.take k).flatten=rows.flatten.take (k*n)
 | [],_,k=>by simp
 | r::rs,hk,0=>by simp
 | r::rs,hk,k+1=>by
  have hr:r.length=n:=hk r (by simp);rw [List.take_succ_cons,List.flatten_cons,FF (fun x b=>hk x (by simp [b])),List.flatten_cons,show (k+1)*n=n+k*n by rw [Nat.add_mul]; omega];rw [show n+k*n=r.length+k*n by rw [hr],List.take_length_add_append]
theorem FG {n:Nat}:∀{rows:List (List D)}(_:∀r∈rows,r.length=n) (k:Nat),(rows.drop k).flatten=rows.flatten.drop (k*n)
 | [],_,k=>by simp
 | r::rs,hk,0=>by simp
 | r::rs,hk,k+1=>by
  have hr:r.length=n:=hk r (by simp);rw [List.drop_succ_cons,FG (fun x b=>hk x (by simp [b])),List.flatten_cons,show (k+1)*n=n+k*n by rw [Nat.add_mul]; omega];rw [show n+k*n=r.length+k*n by rw [hr],List.drop_length_add_append]
theorem MS {j:J}{w:World}{k:Nat}{rows:List (List D)}{b:Addr}{f:Nat->Value}{cap:Nat}(hk:∀r∈rows,r.length=k) (hn:rows.length<=cL) (hc:rows.length<=cap)
  (bH:pY j w b rows f) (hr:∀i (h:i<rows.flatten.length),aB j w rows.flatten[i] (f i)){l r:Nat}(hl:l<=r) (hh:r<=rows.length) :
  aB j w (.slice k none false ((rows.take r).drop l)) (.slice (some (if cap=l then b else b.add (l*k))) (r-l) (cap-l)):=by
 have hlen:((rows.take r).drop l).length=r-l:=by simp; omega
 have s:∀x∈(rows.take r).drop l,x.length=k:=fun x g=>hk x (List.mem_of_mem_take (List.mem_of_mem_drop g));have u:((rows.take r).drop l).flatten=(rows.flatten.take (r*k)).drop (l*k):=by
  rw [FG (fun x g=>hk x (List.mem_of_mem_take g)),FF hk]
 have y:r*k<=rows.flatten.length:=by rw [(iO hk).1]; exact Nat.mul_le_mul_right k hh
 rw [<- hlen];by_cases m:cap=l
 ·rw [if_pos m];have o:(rows.take r).drop l=[]:=List.eq_nil_of_length_eq_zero (by rw [hlen]; omega);rw [o];exact aB.slice k none [] b (cap-l) f (by simp) (by simp) (by simp) ⟨.inl rfl,by simp⟩ (by simp) (fun t ht=>by simp at ht)
 ·by_cases p:rows=[]
  ·rw [if_neg m];have o:(rows.take r).drop l=[]:=by rw [p]; simp
   rw [o];exact aB.slice k none [] _ (cap-l) f (by simp) (by simp) (by simp) ⟨.inl rfl,by simp⟩ (by simp) (fun t ht=>by simp at ht)
  have v:b=⟨b.block,b.off,none⟩:=by have:=bH.1.resolve_left p; cases b; simp at this; simp [this]
  rw [if_neg m,v,add_plain];refine rN s (by rw [hlen]; omega) (by rw [hlen]; omega) (fun i x g=>?_) (fun t ht=>by simp at ht);rw [u,List.getElem?_drop,List.getElem?_take] at g
  split at g
  ·rename_i aY
   have hi:=(List.getElem?_eq_some_iff.1 g).1;have h1:=bH.2 (l*k+i) hi;refine⟨by have:=h1.1; omega,f (l*k+i),by rw [Nat.add_assoc]; exact h1.2, ?_⟩;have q:=hr (l*k+i) hi;rw [(List.getElem?_eq_some_iff.1 g).2] at q; exact q
  ·simp at g
theorem FH {P:Program}{t e:TypeId}{b f:TI}(g:aM P t=some b) (hk:b.k=.slice e) (i:aM P e=some f){a:Option Addr}{len cap:Nat}{lo hi:Option Value}{w:World}{l r:Nat}
  (hl:(match lo with|some v=>Instr.sliceBound v r .sliceB|none=>pure 0).run P w=.ok l w) (hh:(match hi with|some v=>Instr.sliceBound v cap .sliceAcap|none=>pure len).run P w=.ok r w) :
  (Instr.sliceAt t (.slice a len cap) lo hi none).run P w=.ok (.slice (if cap=l then a else a.map (·.add (l*f.size))) (r-l) (cap-l)) w:=by
 simp only [Instr.sliceAt,Instr.slice,Instr.sliceBounds,Sem.run_bind,eZ (kW g hk),Result.andThen,Sem.run_pure,kT i];cases lo<;>cases hi<;>simp_all
theorem ar.part {t e:TypeId}{z B:TI}{x:Operand}{lo hi:Option Operand}{k:Nat}{tok:Option Nat}{rows:List (List D)}{l r:Nat}(C:aM P t=some z) (hk:z.k=.slice e) (E:aM P e=some B)
  (F:ev ts x=.a (.d (.slice k tok false rows))) (G:k=B.size)
  (m:match lo with|none=>l=0|some o=>∃i n,ev ts o=.a (.d (.int i n))/\0<=n/\l=n.toNat) (p:match hi with|none=>r=rows.length|some o=>∃i n,ev ts o=.a (.d (.int i n))/\0<=n/\r=n.toNat)
  (H:l<=r) (I:r<=rows.length):ar P (mk dst (.slice t x lo hi none) ty pos aC g) ts ls h {} (.a (.d (.slice k none false ((rows.take r).drop l)))) ls h :=
 ar.dU fun j w jl act q=>by
  have h1:=q x (by simp [Op.operands]);rw [F] at h1;obtain⟨b,cap,J,hn,hc,K,S,L,M⟩:=lG h1;cases b with
  | none=>simp at K
  | some b =>
   obtain⟨_,f,bH,N⟩:=M b rfl;have O:(match lo.map act.eval with|some v=>Instr.sliceBound v r .sliceB|none=>pure 0).run P w=.ok l w:=by
    cases lo with
    | none=>simp at m ⊢; exact m.symm
    | some o =>
     obtain⟨i,n,s,u,y⟩:=m;have:=ou (P:=P) (cap:=r) s (q o (by simp [Op.operands])) u (by omega) .sliceB;simp only [Option.map_some]; rw [this,y]
   have Q:(match hi.map act.eval with|some v=>Instr.sliceBound v cap .sliceAcap|none=>pure rows.length).run P w=.ok r w:=by
    cases hi with
    | none=>simp at p ⊢; exact p.symm
    | some o =>
     obtain⟨i,n,s,u,y⟩:=p;have:=ou (P:=P) (cap:=cap) s (q o (by simp [Op.operands])) u (by omega) .sliceAcap;simp only [Option.map_some]; rw [this,y]
   refine⟨_, ?_,MS L hn hc bH N H I⟩;have:=FH C hk E (a:=some b) (len:=rows.length) (cap:=cap) O Q;simp only [execOp,Sem.run_bind,J,Option.map_none,this,Result.andThen,Sem.run_pure,G];by_cases R:cap=l<;>simp [R]
end
end Go.Ab
/-
 Maps with plain keys.
-/
namespace Go.Ab
open Go Go.RowKit
variable {ak:bf}
def rP:D->D->Option Bool
 | .str s,.str t=>some (s==t)
 | .int k m,.int k' n=>if k=k' then some (decide (m=n)) else none
 | .bool a,.bool b=>some (a==b)
 | _,_=>none
def mQ (key:D):List (D×A)->Option (Option A)
 | []=>some none
 | (k,v)::r=>match rP key k with
  | some true=>some (some v)
  | some false=>mQ key r
  | none=>none
def qe (key:D) (v:A):List (D×A)->Option (List (D×A))
 | []=>some [(key,v)]
 | (k,u)::r=>match rP key k with
  | some true=>some ((key,v)::r)
  | some false=>(qe key v r).map ((k,u)::·)
  | none=>none
def gV:K->D->Bool
 | .str,.str _=>true
 | .int _,.int _ _=>true
 | .bool,.bool _=>true
 | _,_=>false
theorem bytes_beq (a b:List UInt8):((⟨a.toArray⟩:ByteArray)==⟨b.toArray⟩)=(a==b):=by
 rw [beq_toListBytes]; simp
theorem uu {j:J}{w:World}{d:TypeDesc}{key k:D}{g v:Value}{b:Bool}(f:gV (fE d) key=true) (hk:aB j w key g) (hv:aB j w k v) (he:rP key k=some b):Instr.sameNow d g v=some b:=by
 unfold rP at he
 split at he
 ·cases hk; cases hv;simp only [Option.some.injEq] at he; subst he;cases d<;>simp [gV,fE] at f;simp only [Instr.sameNow,bytes_beq]
 ·cases hk; cases hv
  split at he
  ·rename_i e; subst e
   simp only [Option.some.injEq] at he; subst he;cases d<;>simp [gV,fE] at f;simp only [Instr.sameNow,if_true]; rfl
  ·simp at he
 ·cases hk; cases hv;simp only [Option.some.injEq] at he; subst he;cases d<;>simp [gV,fE] at f;simp only [Instr.sameNow]
 ·simp at he
theorem MT {j:J}{w:World}{d:TypeDesc}{key:D}{f:Value}(o:gV (fE d) key=true) (hk:aB j w key f){es:List (D×A)}{g:List MapEntry}(h:aW (jb j w) es g):∀(n:Nat) (r:Option A),mQ key es=some r ->
  match r with
  | none=>Instr.findNow d f g n=some none
  | some v=>∃i cv,Instr.findNow d f g n=some (some (n+i,cv))/\cM j w v cv/\∃m,g[i]?=some m/\m.val=cv/\Instr.sameNow d f m.key=some true:=by
 induction h with
 | nil=>intro n r hr; simp [mQ] at hr; subst hr; rfl
 | cons hh ht p =>
  rename_i e m l y
  intro n r hr;obtain⟨k,u⟩:=e;simp only [mQ] at hr
  split at hr
  ·rename_i he
   simp at hr; subst hr;have b:=uu o hk hh.1 he;exact⟨0,m.val,by simp [Instr.findNow,b],hh.2,m,rfl,rfl,b⟩
  ·rename_i he
   have b:=uu o hk hh.1 he;have:=p (n+1) r hr;cases r with
   | none=>simp only [Instr.findNow,b]; exact this
   | some v =>
    obtain⟨i,cv,h1,q,m',s,t,x⟩:=this;exact⟨i+1,cv,by simp only [Instr.findNow,b]; rw [h1,show n+1+i=n+(i+1) by omega],q,m',by simpa using s,t,x⟩
  ·simp at hr
theorem MU {j:J}{w:World}{d:TypeDesc}{key:D}{b:Value}{v:A}{cv:Value}(q:gV (fE d) key=true) (hk:aB j w key b) (hv:cM j w v cv){es:List (D×A)}{f:List MapEntry}(h:aW (jb j w) es f):∀(n bq:Nat) (g:List (D×A)),qe key v es=some g ->
  (Instr.findNow d b f n=some none/\aW (jb j w) g (f++[{ key:=b,val:=cv,born:=bq }])) \/
  (∃i u m,Instr.findNow d b f n=some (some (n+i,u))/\f[i]?=some m/\Instr.sameNow d b m.key=some true/\aW (jb j w) g (f.set i { m with key:=b,val:=cv })):=by
 induction h with
 | nil=>intro n bq g he; simp [qe] at he; subst he; exact .inl ⟨rfl,.cons ⟨hk,hv⟩ .nil⟩
 | cons hh ht s =>
  rename_i e m l y
  intro n bq g he;obtain⟨k,u⟩:=e;simp only [qe] at he
  split at he
  ·rename_i hq
   simp at he; subst he;have o:=uu q hk hh.1 hq;exact .inr ⟨0,m.val,m,by simp [Instr.findNow,o],rfl,o,.cons ⟨hk,hv⟩ ht⟩
  ·rename_i hq
   have o:=uu q hk hh.1 hq;simp only [Option.map_eq_some_iff] at he;obtain⟨r,hr,rfl⟩:=he;rcases s (n+1) bq r hr with ⟨h1,p⟩|⟨i,u',m',h1,p,t,x⟩
   ·exact .inl ⟨by simp only [Instr.findNow,o]; exact h1,.cons hh p⟩
   ·exact .inr ⟨i+1,u',m',by simp only [Instr.findNow,o]; rw [h1,show n+1+i=n+(i+1) by omega],by simpa using p,t,.cons hh x⟩
  ·simp at he
theorem qf {P:Program}{t:TypeId}{f:TI}{k e:TypeId}(g:aM P t=some f) (hk:f.k=.map k e):P.underlying t=some (.map k e):=by
 obtain⟨i,d,h1,j,_,_,b,_⟩:=fS g;rw [hk] at b;cases d<;>simp [fE] at b;obtain⟨rfl,rfl⟩:=b; exact j
theorem uv {P:Program}{b:Bool}{n:Nat}{t:TypeId}{d:TypeDesc}{x:D}{v:Value}{j:J}{w0 w:World}(hu:P.underlying t=some d) (f:gV (fE d) x=true) (g:aB j w0 x v):(Instr.checkKey b (n+1) t v).run P w=.ok () w:=by
 cases g<;>cases d<;>simp [gV,fE] at f<;>simp [Instr.checkKey,eZ hu]
section
variable {P:Program}{ts:Ts}{ls:List (List D)}{h:ah}{dst:Option Tmp}{ty:TypeId}{pos:String}{aC:Array Edge}{g:Option (Nat×Bool)}
theorem MV {a b:ByteArray}(h:(a==b)=true):a=b:=by
 obtain⟨⟨x⟩⟩:=a;obtain⟨⟨y⟩⟩:=b;have h':=bytes_beq x y;have f:(x==y)=true:=by rw [<- h']; exact h
 rw [eq_of_beq f]
theorem MW (a:ByteArray):(a==a)=true:=by
 obtain⟨⟨x⟩⟩:=a;have h':=bytes_beq x x;rw [show ((⟨⟨x⟩⟩:ByteArray)==⟨⟨x⟩⟩)=(x==x) from h'];simp
theorem MX {d:TypeDesc}{v:Value}:Instr.sameNow d v v≠some false:=by
 cases d<;>cases v<;>simp [Instr.sameNow,MW]
theorem MY {d:TypeDesc}{a b:Value}(h:Instr.sameNow d a b=some true):a=b:=by
 unfold Instr.sameNow at h
 split at h
 ·split at h
  ·rename_i e; subst e; simp at h; rw [h]
  ·simp at h
 ·exact congrArg Value.string (MV (Option.some.inj h))
 ·simp at h; rw [h]
 ·simp at h
theorem FI {d:TypeDesc}{v:Value}:∀{b:List MapEntry}{n:Nat},Instr.findNow d v b n=some none->∀m∈b,m.key≠v
 | [],_,_=>fun _ h=>by cases h
 | x::b,n,h=>fun m hm e=>by
  rw [Instr.findNow] at h
  split at h
  ·simp at h
  ·rename_i h1
   rcases List.mem_cons.1 hm with rfl|hm
   ·rw [e] at h1; exact MX h1
   ·exact FI h m hm e
  ·simp at h
theorem kP.push {g:List MapEntry}{bq:Nat}(h:kP g bq){k:Value}(hk:∀m∈g,m.key≠k) (v:Value):kP (g++[⟨k,v,bq⟩]) (bq+1):=by
 refine⟨?_,fun m hm=>?_, ?_⟩
 ·rw [List.map_append,List.nodup_append];refine⟨h.1,by simp,fun a i b f e=>?_⟩;obtain⟨m,hm,rfl⟩:=List.mem_map.1 i;simp only [List.map_cons,List.map_nil,List.mem_singleton] at f;have:=h.2.1 m hm;omega
 ·rcases List.mem_append.1 hm with hm|hm
  ·have:=h.2.1 m hm; omega
  ·rw [List.mem_singleton.1 hm]; exact Nat.lt_succ_self _
 ·rw [List.map_append,List.nodup_append];refine⟨h.2.2,by simp,fun a i b f e=>?_⟩;obtain⟨m,hm,rfl⟩:=List.mem_map.1 i;simp only [List.map_cons,List.map_nil,List.mem_singleton] at f;exact hk m hm (e.trans f)
theorem FJ {β:Type}{f:MapEntry->β}{b:List MapEntry}{i:Nat}{m m':MapEntry}(hm:b[i]?=some m) (g:f m'=f m):(b.set i m').map f=b.map f:=by
 refine List.ext_getElem? fun n=>?_;rw [List.getElem?_map,List.getElem?_map,List.getElem?_set];by_cases hn:i=n
 ·subst hn;obtain⟨aY,j⟩:=List.getElem?_eq_some_iff.1 hm;simp [aY,j,g]
 ·simp [hn]
theorem kP.set {b:List MapEntry}{bq i:Nat}{m:MapEntry}(h:kP b bq) (hm:b[i]?=some m){k v:Value}(hk:k=m.key):kP (b.set i { m with key:=k,val:=v }) bq:=by
 have e:=FJ (f:=(·.born)) (m':={ m with key:=k,val:=v }) hm rfl;refine⟨by rw [e]; exact h.1,fun x g=>?_,by rw [FJ (f:=(·.key)) hm hk]; exact h.2.2⟩;have:x.born∈b.map (·.born):=by rw [<- e]; exact List.mem_map_of_mem g
 obtain⟨y,j,l⟩:=List.mem_map.1 this;rw [<- l]; exact h.2.1 y j
def MapAt (j:J) (w:World) (id b:Nat) (es:List (D×A)):Prop:=∃(c:Nat) (f:List MapEntry) (bq:Nat),j.tok id=some ⟨some (b,c),1⟩/\w.heap[b]?=some (.map f.toArray bq)/\aW (jb j w) es f/\j.F b=0/\kP f bq
theorem ww {j:J}{w:World}{jl:List Nat}{id:Nat}{es:List (D×A)}{cv:Value}(g:fq j w id (.map es)) (h:aX j w jl (.a (.d (.map id))) cv):∃b,cv=.map (some b)/\MapAt j w id b es:=by
 have h':aB j w (.map id) cv:=h;obtain⟨b,c,i,bq,h1,k,l,m,o⟩:=g;cases h' with
 | map _ q hi hv =>
  obtain⟨_,p⟩:=hv _ h1;obtain⟨c',f⟩:=p rfl;simp only [Option.some.injEq,Prod.mk.injEq] at f;obtain⟨rfl,rfl⟩:=f;exact⟨b,rfl,c,i,bq,h1,k,l,m,o⟩
theorem rQ {P:Program}{w:World}{b:Nat}{f:Array MapEntry}{bq:Nat}(h:w.heap[b]?=some (.map f bq)):(getObj b).run P w=.ok (.map f bq) w:=by
 simp [getObj,Sem.run,h]
theorem FK {t m o:TypeId}{p q:TI}{j:J}{w:World}{id:Nat}{es:List (D×A)}{key:D}{s:Value}{r:Option A}{ok:Bool}(u:aM P t=some p) (hk:p.k=.map m o) (z:aM P m=some q) (f:gV q.k key=true)
  {b:Nat}(hm:MapAt j w id b es) (l:aB j w key s) (B:mQ key es=some r){zv:Value}(C:r=none->(zeroValue o).run P w=.ok zv w) :
  ∃cv,(Instr.lookup t (.map (some b)) s ok).run P w=.ok (if ok then .tuple #[cv,.bool r.isSome] else cv) w/\match r with|none=>cv=zv|some v=>cM j w v cv:=by
 obtain⟨_,H,bq,_,x,E,_⟩:=hm;obtain⟨I,K,_,g,_,_,F,_⟩:=fS z;rw [<- F] at f;have y:=MT f l E 0 r B;cases r with
 | none =>
  refine⟨zv, ?_,rfl⟩;simp [Instr.lookup,eZ (qf u hk),rQ x,uv g f l,Instr.findKey,eZ g,y,C rfl]
 | some v =>
  obtain⟨i,cv,h1,G,_⟩:=y;refine⟨cv, ?_,G⟩;simp [Instr.lookup,eZ (qf u hk),rQ x,uv g f l,Instr.findKey,eZ g,h1]
theorem ar.MZ {t f p:TypeId}{i l:TI}{x y:Operand}{id:Nat}{es:List (D×A)}{key:D}{v:A}(q:aM P t=some i) (hk:i.k=.map f p) (r:aM P f=some l) (s:ev ts x=.a (.d (.map id))) (u:ev ts y=.a (.d key))
  (z:gV l.k key=true) (hm:h id=some (.map es)) (B:mQ key es=some (some v)):ar P (mk dst (.lookup t x y false) ty pos aC g) ts ls h { rh:=true } (.a v) ls h :=
 kV.mM ⟨rfl,rfl,fun L H _ hH j w jl a hl m=>by
  have h1:=m x (by simp [Op.operands]);have o:=m y (by simp [Op.operands]);rw [s] at h1; rw [u] at o;rw [hH rfl] at hl;obtain⟨b,C,E⟩:=ww (hl.1.obj id _ hm).2 h1;obtain⟨cv,F,G⟩:=FK (ok:=false) q hk r z E o B (zv:=undef) (by simp);exact⟨cv,by simp only [execOp,Sem.run_bind,C,F,Result.andThen,Sem.run_pure]; rfl,G⟩⟩
theorem ar.M0 {t f i:TypeId}{l m o:TI}{x y:Operand}{id:Nat}{es:List (D×A)}{key:D}{z:A}(u:aM P t=some l) (hk:l.k=.map f i) (v:aM P f=some m) (B:aM P i=some o) (C:o.zero=some z)
  (E:ev ts x=.a (.d (.map id))) (F:ev ts y=.a (.d key)) (G:gV m.k key=true) (hm:h id=some (.map es)) (I:mQ key es=some none):ar P (mk dst (.lookup t x y false) ty pos aC g) ts ls h { rh:=true } (.a z) ls h :=
 kV.mM ⟨rfl,rfl,fun L H _ hH j w jl a hl p=>by
  have h1:=p x (by simp [Op.operands]);have q:=p y (by simp [Op.operands]);rw [E] at h1; rw [F] at q;rw [hH rfl] at hl;obtain⟨R,S,J,_,U,W,_,r⟩:=fS B;rw [C] at r;obtain⟨zv,K,M⟩:=oq r;obtain⟨b,N,O⟩:=ww (hl.1.obj id _ hm).2 h1;obtain⟨cv,Q,s⟩:=FK (ok:=false) u hk v G O q I (zv:=zv) (fun _=>by simp [zeroValue,typeInfo,J,K]);dsimp only at s
  subst s;exact⟨cv,by simp only [execOp,Sem.run_bind,N,Q,Result.andThen,Sem.run_pure]; rfl,M j w⟩⟩
theorem dW.makeMap {t:TypeId}:dW P (mk dst (.makeMap t none) ty pos aC g) ts ls h fun v aH h'=>∃id,h id=none/\v=.a (.d (.map id))/\aH=ls/\h'=h.set id (some (.map [])):=by
 intro j w jl a hl l K Q hk;have hr:(execOp a.eval (mk dst (.makeMap t none) ty pos aC g)).run P w=.ok (.value (.map (some w.heap.size))) (w.alloc (.map #[] 0)):=by simp [execOp,Instr.makeMap]
 obtain⟨h1,b⟩:=hl.dQ 0;obtain⟨f,i,k⟩:=h1.Ma (ah.bX _ _ _);unfold Oper.wp;rw [hr,Oper.upon_value];exact hk _ _ _ _ _ _ jl ⟨j.next,hl.1.kQ (Nat.le_refl _),rfl,rfl,(ah.set_set _ _ _ _)⟩ k f (Ext.refl _) (b.trans i)
theorem M1 {d:TypeDesc}{a b:Value}(h:Instr.sameNow d a b=some true):Instr.sameBits 10000 b a=true:=by
 unfold Instr.sameNow at h
 split at h
 ·split at h
  ·rename_i e; subst e; simp at h; subst h; simp [Instr.sameBits]
  ·simp at h
 ·simp only [Option.some.injEq] at h;rw [beq_toListBytes] at h;simp only [Instr.sameBits,beq_toListBytes];simp at h ⊢; exact h.symm
 ·simp at h; subst h; simp [Instr.sameBits]
 ·simp at h
theorem eY.setObj {w:World}{b:Nat}{o o':Go.Obj}(h:w.heap[b]?=some o):eY w { w with heap:=w.heap.setIfInBounds b o' } b o':=by
 have aY:=fO h;refine⟨by simp,by simp [aY],fun x f=>?_,rfl,rfl,fC.rfl⟩;simp [Array.getElem?_setIfInBounds,Ne.symm f]
theorem ar.mapUpdate {t N W:TypeId}{O Q:TI}{x y z:Operand}{id:Nat}{es l:List (D×A)}{key:D}{v:A}(R:aM P t=some O) (hk:O.k=.map N W) (X:aM P N=some Q) (Y:ev ts x=.a (.d (.map id))) (Z:ev ts y=.a (.d key)) (aa:ev ts z=.a v)
  (B:gV Q.k key=true) (hm:h id=some (.map es)) (hu:qe key v es=some l) (an:dst=none):ar P (mk dst (.mapUpdate t x y z) ty pos aC g) ts ls h { rh:=true,wh:=true } .any ls (h.set id (some (.map l))):=by
 refine ar.of_run fun L H _ hH j w jl a hl I=>?_;have ab:=hH rfl;subst ab;have h1:=I x (by simp [Op.operands]);have C:=I y (by simp [Op.operands]);have S:=I z (by simp [Op.operands]);rw [Y] at h1; rw [Z] at C; rw [aa] at S;obtain⟨b,e,c,ao,bq,J,p,ad,K,hB⟩:=ww (hl.1.obj id _ hm).2 h1;obtain⟨ap,aq,_,E,_,_,ae,_⟩:=fS X;rw [<- ae] at B;have U:∀(o:List MapEntry) (q:Nat),aW (jb j w) l o->kP o q->(Instr.mapUpdate t (.map (some b)) (a.eval y) (a.eval z)).run P w=.ok () { w with heap:=w.heap.setIfInBounds b (.map o.toArray q) } ->
   ∃r w' cv j' F,(execOp a.eval (mk dst (.mapUpdate t x y z) ty pos aC g)).run P w=.ok r w'/\(r=.value cv\/(r=.skip/\cv=undef))/\aX j' w' F .any cv/\HL j' w' F L (H.set id (some (.map l)))/\Ext jl F /\
    bw j w (Own j H jl) j' w' (Own j' (H.set id (some (.map l))) F):=by
  intro o q af ag ai;have M:=eY.setObj (ak:=ak) (o':=.map o.toArray q) p;have hle:=M.le (j:=j) K;obtain⟨f,G⟩:=hl.setObj (o':=.map l) hm (by simp [bD,J]) (by simp [bD,J]) K M ⟨b,c,o,q,J,M.here,af.imp fun _ _ h=>h.mono hle,K,ag⟩;refine⟨.skip,_,undef,j,jl, ?_,.inr ⟨rfl,rfl⟩,trivial,f,Ext.refl _,G⟩;simp only [execOp,e,Sem.run_bind,ai,Result.andThen,Sem.run_pure]
 rcases MU B C S ad 0 bq l hu with ⟨s,f⟩|⟨i,u,m,s,f,G,aj⟩
 ·refine U _ (bq+1) f (hB.push (FI s) _) ?_;simp [Instr.mapUpdate,eZ (qf R hk),rQ p,uv E B C,Instr.findKey,eZ E,s,setObj,Sem.run,p]
 ·refine U _ bq aj (hB.set f (MY G)) ?_;have al:=M1 G;rw [Nat.zero_add] at s;simp [Instr.mapUpdate,eZ (qf R hk),rQ p,uv E B C,Instr.findKey,eZ E,s,f,Instr.keyThatStays,al,setObj,Sem.run,p]
  congr 2
  apply Array.ext'
  simp
  apply List.ext_getElem?
  intro n;simp only [List.getElem?_modify,List.getElem?_set];by_cases hn:i=n
  ·subst hn;have aY:=(List.getElem?_eq_some_iff.1 f).1;have am:=(List.getElem?_eq_some_iff.1 f).2;simp [aY,am]
  ·simp [hn]
end
end Go.Ab
