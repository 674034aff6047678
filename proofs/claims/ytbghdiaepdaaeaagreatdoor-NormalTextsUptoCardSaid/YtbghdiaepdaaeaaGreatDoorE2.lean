import Derived.Test.YtbghdiaepdaaeaaGreatDoorE1
import Derived.Laws.Tables
import Derived.Lib.Strings
import Derived.Laws.Slices
import Derived.Laws.Concat
import Derived.Laws.StructEq
set_option maxRecDepth 100000
set_option maxHeartbeats 2000000
set_option linter.unusedVariables false
set_option linter.unusedSimpArgs false
/-
 Code,calls and results over abstract states.
-/
namespace Go.Ab
open Go Go.RowKit
variable {an:bf}
variable {gv:eN}
inductive K where
 | bool|int (k:IntKind)|str|ptr (e:TypeId)|slice (e:TypeId)|map (k e:TypeId)|struct (fs:List (Nat×TypeId))|func|iface|other
 deriving DecidableEq
def fF:TypeDesc->K
 | .bool=>.bool
 | .int k=>.int k
 | .string=>.str
 | .pointer e=>.ptr e
 | .slice e=>.slice e
 | .map k e=>.map k e
 | .struct fs=>.struct (fs.toList.map fun f=>(f.offset,f.type))
 | .func _ _ _=>.func
 | .interface _=>.iface
 | _=>.other
structure TI where
 k:K
 size:Nat
 bytes:Nat
 zero:Option A
def qK:List Value->Option (List D)
 | []=>some []
 | v::r=>match qG v,qK r with
  | some x,some xs=>some (x::xs)
  | _,_=>none
def tn:Option Value->Option A
 | some (.agg cs)=>(qK cs.toList).map .agg
 | some v=>(qG v).map .d
 | none=>none
def EF (P:Program):Nat->TypeId->List TypeId
 | 0,t=>[t]
 | n+1,t=>match P.underlying t with
  | some (.struct fs)=>fs.toList.flatMap fun f=>EF P n f.type
  | _=>[t]
def vf (P:Program) (t:TypeId):D->D
 | .slice k tok true []=>match P.underlying t with
  | some (.slice e)=>.slice (P.cellsOf e) tok true []
  | _=>.slice k tok true []
 | x=>x
def yN (P:Program):List TypeId->List D->List D
 | t::ts,x::xs=>vf P t x::yN P ts xs
 | _,xs=>xs
def vg (P:Program) (t:TypeId):A->A
 | .d x=>.d (vf P t x)
 | .agg xs=>.agg (yN P (EF P 8 t) xs)
def aL (P:Program) (t:TypeId):Option TI :=
 match P.info? t,P.underlying t with
 | some i,some d=>some ⟨fF d,i.size,i.bytes,(tn i.zero).map (vg P t)⟩
 | _,_=>none
theorem aA.Ma {j:J}{w:World}{k k':Nat}{tok:Option Nat}{v:Value}(h:aA j w (.slice k tok true []) v):aA j w (.slice k' tok true []) v:=by
 cases h with
 | eU _ _ ht=>exact .eU _ _ ht
theorem EG {j:J}{w:World}{P:Program}{t:TypeId}{x:D}{v:Value}(h:aA j w x v):aA j w (vf P t x) v:=by
 unfold vf
 split
 ·split
  ·exact h.Ma
  ·exact h
 ·exact h
theorem EH {j:J}{w:World}{P:Program}:∀{ts:List TypeId}{xs:List D}{b:List Value},aR (aA j w) xs b->aR (aA j w) (yN P ts xs) b
 | [],xs,_,h=>by cases xs<;>exact h
 | _::_,_,_,.nil=>.nil
 | _::ts,_,_,.cons h t=>.cons (EG h) (EH (ts:=ts) t)
theorem Mb {j:J}{w:World}{P:Program}{t:TypeId}{x:A}{v:Value}(h:cT j w x v):cT j w (vg P t x) v:=by
 cases x with
 | d x=>exact EG (x:=x) h
 | agg xs=>obtain⟨cs,e,h⟩:=h; exact⟨cs,e,EH h⟩
theorem EI (j:J) (w:World):∀(cs:List Value) (xs:List D),qK cs=some xs->aR (aA j w) xs cs
 | [],xs,h=>by simp [qK] at h; subst h; exact .nil
 | v::r,xs,h=>by
  simp only [qK] at h
  split at h
  ·rename_i x b h1 f
   simp at h; subst h;exact .cons (yH j w v x h1) (EI j w r b f)
  ·simp at h
theorem fS {P:Program}{t:TypeId}{b:TI}(h:aL P t=some b) :
  ∃i d,P.info? t=some i/\P.underlying t=some d/\i.size=b.size/\i.bytes=b.bytes/\fF d=b.k/\(tn i.zero).map (vg P t)=b.zero:=by
 unfold aL at h
 split at h
 ·rename_i i d h1 f
  simp at h; subst h;exact⟨i,d,h1,f,rfl,rfl,rfl,rfl⟩
 ·simp at h
theorem Mc {z:Option Value}{x:A}(h:tn z=some x):∃v,z=some v/\∀j w,cT j w x v:=by
 unfold tn at h
 split at h
 ·rename_i cs
  cases e:qK cs.toList with
  | none=>rw [e] at h; simp at h
  | some xs =>
   rw [e] at h; simp at h; subst h;exact⟨_,rfl,fun j w=>⟨cs.toList,by simp,EI j w _ _ e⟩⟩
 ·rename_i v hn
  cases e:qG v with
  | none=>rw [e] at h; simp at h
  | some xs =>
   rw [e] at h; simp at h; subst h;exact⟨_,rfl,fun j w=>yH j w _ _ e⟩
 ·simp at h
theorem nF {P:Program}{t:TypeId}{z:Option Value}{x:A}(h:(tn z).map (vg P t)=some x):∃v,z=some v/\∀j w,cT j w x v:=by
 simp only [Option.map_eq_some_iff] at h;obtain⟨y,b,rfl⟩:=h;obtain⟨v,h1,f⟩:=Mc b;exact⟨v,h1,fun j w=>Mb (f j w)⟩
def K.lz:K->Bool
 | .other=>true
 | _=>false
theorem K.px {k:K}(h:k.lz=false):k≠.other:=fun e=>by rw [e] at h; cases h
def yO:K->Bool
 | .struct _=>true
 | _=>false
def kw (b:TI) (xs:List D) (off:Nat):Option A :=
 match yO b.k with
 | true=>match Nat.beq off 0&&Nat.beq xs.length b.size with
  | true=>some (.agg xs)
  | false=>match Nat.ble (off+b.size) xs.length with
   | true=>some (.agg ((xs.drop off).take b.size))
   | false=>none
 | false=>match xs[off]? with
  | some x=>some (.d x)
  | none=>none
theorem ff {P:Program}{t:TypeId}{d:TypeDesc}(h:P.underlying t=some d) (w:World):(underlying t).run P w=.ok d w:=run_underlying h w
theorem Md {P:Program}{t:TypeId}{b:TI}(g:aL P t=some b) (hk:b.k≠.other) (w:World):(isAgg t).run P w=.ok (yO b.k) w:=by
 obtain⟨i,d,h1,j,_,_,f,_⟩:=fS g;simp only [isAgg,Sem.run_bind,ff j,Result.andThen];cases d<;>simp [fF] at f<;>first|(rw [<- f]; rfl)|(exact absurd f.symm hk)|skip
theorem kz {P:Program}{t:TypeId}{b:TI}(f:aL P t=some b) (w:World):(sizeOf t).run P w=.ok b.size w:=by
 obtain⟨i,d,h1,j,g,_⟩:=fS f;simp [sizeOf,typeInfo,h1,g]
def kA (P:Program) (T:List TI):Prop:=∀t b,T[t]?=some b->aL P t=some b
structure AC [bf] (P:Program) (f:FuncId) (args:List A) (h:ag) (Post:V->ag->Prop):Prop where
 enter:∀(dJ:Array Value) (w:World),(callFunc f dJ).run P w=.ok (.enter f dJ) w
 runs:∀(j:J) (w:World) (dJ:List Value),dY j w h->aR (cT j w) args dJ->Calls P f dJ.toArray w fun e w' =>
  ∃r cv j' h',e=.returned cv/\Post r h'/\aZ j' w' [] r cv/\dY j' w' h'/\bC j w (Own j h []) j' w' (Own j' h' [])
theorem AC.mono {P:Program}{f:FuncId}{args:List A}{h:ag}{Post b:V->ag->Prop}(hc:AC P f args h Post) (g:∀r h',Post r h'->b r h'):AC P f args h b :=
 ⟨hc.enter,fun j w dJ hr i=>(hc.runs j w dJ hr i).mono fun _ _ ⟨r,cv,j',h',e,p,rest⟩=>⟨r,cv,j',h',e,g r h' p,rest⟩⟩
def AQ [bf] [eN] (Q:Exit->St->Prop) (j:J) (w:World) (jl:List Nat) (σ:St):Exit->Act->World->Prop :=
 fun e g w'=>∃b j' f,Q e b/\dD j' w' f b g/\bC j w (Own j σ.h jl) j' w' (Own j' b.h f)
def ah [bf] [eN] (P:Program) (c:Code) (Q:Exit->St->Prop) (σ:St):Prop :=
 ∀(j:J) (w:World) (jl:List Nat) (a:Act),dD j w jl σ a->c.wp P (AQ Q j w jl σ) a w
def me (next:St->Prop) (Q:Exit->St->Prop):Exit->St->Prop
 | .normal,σ=>next σ
 | e,σ=>Q e σ
def vh (id:Nat) (Q:Exit->St->Prop):Exit->St->Prop
 | .exit i,σ=>if i=id then Q .normal σ else Q (.exit i) σ
 | e,σ=>Q e σ
theorem AQ.trans {Q:Exit->St->Prop}{j b:J}{w f:World}{jl g:List Nat}{σ i:St}(k:bC j w (Own j σ.h jl) b f (Own b i.h g)){e:Exit}{a:Act}{w':World}
  (h:AQ Q b f g i e a w'):AQ Q j w jl σ e a w' :=
 let ⟨l,j',m,hq,o,he⟩:=h
 ⟨l,j',m,hq,o,k.trans he⟩
section
variable {P:Program}{Q:Exit->St->Prop}{σ:St}
theorem ah.mono {c:Code}{Q':Exit->St->Prop}(h:ah P c Q σ) (hq:∀e σ,Q e σ->Q' e σ):ah P c Q' σ :=
 fun j w jl a b=>wp_mono (h j w jl a b) fun _ _ _ ⟨f,j',g,q,r⟩=>⟨f,j',g,hq _ _ q,r⟩
theorem ah.skip (h:Q .normal σ):ah P .skip Q σ:=fun j w jl _ b=>wp_skip ⟨σ,j,jl,h,b,bC.refl _ _ _⟩
theorem ah.ret (h:Q .ret σ):ah P .ret Q σ:=fun j w jl _ b=>wp_ret ⟨σ,j,jl,h,b,bC.refl _ _ _⟩
theorem ah.exit {id:Nat}(h:Q (.exit id) σ):ah P (.exit id) Q σ:=fun j w jl _ b=>wp_exit ⟨σ,j,jl,h,b,bC.refl _ _ _⟩
theorem ah.label {l:Nat}(h:Q .normal σ):ah P (.label l) Q σ:=fun j w jl _ b=>wp_label ⟨σ,j,jl,h,b,bC.refl _ _ _⟩
theorem ah.seq {x y:Code}(h:ah P x (me (ah P y Q) Q) σ):ah P (.seq x y) Q σ:=by
 intro j w jl a k;refine wp_seq (wp_mono (h j w jl a k) ?_);rintro e l w' ⟨i,j',b,hq,f,g⟩;cases e with
 | normal=>exact wp_mono (hq j' w' b l f) fun e m o h=>AQ.trans g h
 | exit id=>exact⟨i,j',b,hq,f,g⟩
 | goto id=>exact⟨i,j',b,hq,f,g⟩
 | ret=>exact⟨i,j',b,hq,f,g⟩
 | panic p=>exact⟨i,j',b,hq,f,g⟩
 | outgrown=>exact⟨i,j',b,hq,f,g⟩
theorem Me {j:J}{w:World}{jl:List Nat}{a:Act}{ts:Ts}{x:Operand}{b:Bool}(f:∀k,aZ j w jl (get ts k) (a.tmps.getD k undef)) (hx:ev ts x=.a (.d (.bool b))):a.eval x=.bool b:=by
 have h:=nC f x;rw [hx] at h;have h':aA j w (.bool b) (a.eval x):=h;generalize a.eval x=y at h';cases h'; rfl
theorem ah.cond {c:Operand}{x y:Code}{b:Bool}(hc:ev σ.ts c=.a (.d (.bool b))) (ht:b=true->ah P x Q σ) (g:b=false->ah P y Q σ):ah P (.cond c x y) Q σ:=by
 intro j w jl a f;exact wp_cond_split (Me f.tmps hc) (fun e=>ht e j w jl a f) (fun e=>g e j w jl a f)
theorem ah.py {c:Operand}{x y:Code}{b:Bool}(hc:ev σ.ts c=.a (.d (.bool b))) (f:b=true) (ht:ah P x Q σ):ah P (.cond c x y) Q σ :=
 ah.cond hc (fun _=>ht) fun e=>by rw [f] at e; cases e
theorem ah.mg {c:Operand}{x y:Code}{b:Bool}(hc:ev σ.ts c=.a (.d (.bool b))) (f:b=false) (g:ah P y Q σ):ah P (.cond c x y) Q σ :=
 ah.cond hc (fun e=>by rw [f] at e; cases e) fun _=>g
theorem ah.block {id:Nat}{c:Code}(h:ah P c (vh id Q) σ):ah P (.block id c) Q σ:=by
 intro j w jl a l;refine wp_block (wp_mono (h j w jl a l) ?_);rintro e m w' ⟨b,j',f,hq,g,k⟩;cases e with
 | exit i =>
  simp only [vh] at hq;simp only [Exit.inBlock]
  split
  ·rename_i e; rw [if_pos e] at hq; exact⟨b,j',f,hq,g,k⟩
  ·rename_i e; rw [if_neg e] at hq; exact⟨b,j',f,hq,g,k⟩
 | normal=>exact⟨b,j',f,hq,g,k⟩
 | goto id=>exact⟨b,j',f,hq,g,k⟩
 | ret=>exact⟨b,j',f,hq,g,k⟩
 | panic o=>exact⟨b,j',f,hq,g,k⟩
 | outgrown=>exact⟨b,j',f,hq,g,k⟩
theorem ah.loop {α:Type}{c:Code}(inv:α->St) (m:α->Nat) (pre:α->Prop) (s:α) (h0:pre s)
  (hr:∀x,pre x->ah P c (me (fun g=>∃y,g=inv y/\pre y/\m y<m x) Q) (inv x)):ah P (.loop c) Q (inv s):=by
 intro j w jl a t b k cs;have key:∀n x,m x=n->pre x->∀(j:J) (w:World) (jl:List Nat) (a:Act),dD j w jl (inv x) a ->
   ∃e r w',AQ Q j w jl (inv x) e r w'/\Arrives P (lone (b.at a (.code c::.inLoop c::k)) cs w) b k cs e r w':=by
  intro n;induction n using Nat.strongRecOn with
  | _ n u =>
   intro x hn v j w jl a t;obtain⟨e,a1,i,⟨g,j',o,hq,p,q⟩,f⟩:=hr x v j w jl a t b (.inLoop c::k) cs;cases e with
   | normal =>
    obtain⟨y,rfl,z,bh⟩:=hq;obtain⟨B,a2,C,E,F⟩:=u (m y) (hn▸bh) y rfl z j' i o a1 p;exact⟨B,a2,C,AQ.trans q E,.of_steps (Steps.trans f (.one step_inLoop)) F⟩
   | exit id=>exact⟨_,a1,i,⟨g,j',o,hq,p,q⟩,.pass (x:=.inLoop c) rfl (fun _ _=>.inl (by simp)) f⟩
   | goto l=>exact⟨_,a1,i,⟨g,j',o,hq,p,q⟩,.pass (x:=.inLoop c) rfl (fun _ _=>.inl (by simp)) f⟩
   | ret=>exact⟨_,a1,i,⟨g,j',o,hq,p,q⟩,.pass (x:=.inLoop c) rfl (fun _ _=>.inl (by simp)) f⟩
   | panic G=>exact⟨_,a1,i,⟨g,j',o,hq,p,q⟩,.pass (x:=.inLoop c) rfl (fun _ _=>.inl (by simp)) f⟩
   | outgrown=>exact⟨_,a1,i,⟨g,j',o,hq,p,q⟩,.pass (x:=.inLoop c) rfl (fun _ _=>.inl (by simp)) f⟩
 obtain⟨e,r,w',hq,f⟩:=key _ s rfl h0 j w jl a t;exact⟨e,r,w',hq,.of_steps (.one step_loop) f⟩
theorem ah.region {id:Nat}{l:List Oper}(h:aS P l.toArray l (Q .normal) σ):ah P (.region id l.toArray false) Q σ:=by
 intro j w jl a b;exact wp_region_lit (h j w jl a b _ fun f j' w' g m hq i k=>⟨f,j',g,hq,i,k⟩)
theorem ah.draw (hm:P.follows .mixedOrders=true){id:Nat}{l:List Oper}(h:au P l.toArray σ.n l [] (Q .normal) σ):ah P (.region id l.toArray true) Q σ:=by
 intro j w jl a b;exact au.wp hm h rfl b fun f j' w' g m hq i k=>⟨f,j',g,hq,i,k⟩
def cR [bf] [eN] (σ b:St):Prop:=∀(j:J) (w:World) (jl:List Nat) (a:Act),dD j w jl σ a->∃j' f,dD j' w f b a/\bC j w (Own j σ.h jl) j' w (Own j' b.h f)
theorem cR.refl (σ:St):cR σ σ:=fun j _ jl _ b=>⟨j,jl,b,bC.refl _ _ _⟩
theorem cR.trans {σ b f:St}(h:cR σ b) (h':cR b f):cR σ f:=by
 intro j w jl a g;obtain⟨i,k,l,m⟩:=h j w jl a g;obtain⟨o,p,q,r⟩:=h' i w k a l;exact⟨o,p,q,m.trans r⟩
theorem ah.EJ {c:Code}{b:St}(hw:cR σ b) (h:ah P c Q b):ah P c Q σ:=by
 intro j w jl a f;obtain⟨j',g,i,k⟩:=hw j w jl a f;exact wp_mono (h j' w g a i) fun e a w h=>AQ.trans k h
theorem ah.post {c:Code}(h:ah P c (fun e f=>∃b,cR f b/\Q e b) σ):ah P c Q σ:=by
 intro j w jl a g;refine wp_mono (h j w jl a g) ?_;rintro e i w' ⟨s,j',k,⟨b,hw,hq⟩,l,m⟩;obtain⟨o,p,q,r⟩:=hw j' w' k i l;exact⟨b,o,p,hq,q,m.trans r⟩
inductive aU (ts:Ts) (n:Nat):Ts->Prop where
 | nil:aU ts n []
 | cons {k:Nat}{v:V}{r:Ts}(h:get ts k=v) (hv:(∀i off,v=.dI i off->i<n)/\∀c i off,v=.jC c i off->i<n) (t:aU ts n r):aU ts n ((k,v)::r)
theorem aU.get {ts:Ts}{n:Nat}{ts':Ts}(h:aU ts n ts') (k:Nat):Ab.get ts' k=.any\/(Ab.get ts' k=Ab.get ts k/\(∀i off,Ab.get ts' k=.dI i off->i<n)/\∀c i off,Ab.get ts' k=.jC c i off->i<n):=by
 induction h with
 | nil=>exact .inl rfl
 | @cons k' v r h hv t b =>
  by_cases e:k'=k
  ·subst e; rw [fQ]; exact .inr ⟨h.symm,hv⟩
  ·rw [fe _ _ e]; exact b
theorem cR.keep {n:Nat}{ts ts':Ts}{ls:List (List D)}{h:ag}(m:Nat) (hk:aU ts m ts'):cR ⟨n,ts,ls,h⟩ ⟨n,ts',ls.take m,h⟩:=by
 intro j w jl a f;obtain⟨hl,o⟩:=f.hl.trim m;refine⟨j,jl.take m,⟨f.defers,f.size,fun k=>?_,hl⟩,o⟩;rcases hk.get k with e|⟨e,bh,p⟩
 ·show aZ _ _ _ (Ab.get ts' k) _;rw [e]; trivial
 ·show aZ _ _ _ (Ab.get ts' k) _;have hv:=f.tmps k;have hv:aZ j w jl (Ab.get ts k) (a.tmps.getD k undef):=hv;rw [<- e] at hv;cases hx:Ab.get ts' k with
  | any=>trivial
  | a x=>rw [hx] at hv; exact hv
  | dI i off =>
   rw [hx] at hv;obtain⟨b,g,l⟩:=hv;exact⟨b,by rw [List.getElem?_take_of_lt (bh i off hx)]; exact g,l⟩
  | dM xs=>rw [hx] at hv; exact hv
  | gd c x=>rw [hx] at hv; exact hv
  | full k rows=>rw [hx] at hv; exact hv
  | o4 c k rows=>rw [hx] at hv; exact hv
  | jC c i off =>
   rw [hx] at hv;refine⟨fun hc=>?_,hv.2⟩;obtain⟨b,g,l⟩:=hv.1 hc;exact⟨b,by rw [List.getElem?_take_of_lt (p c i off hx)]; exact g,l⟩
theorem cR.forget {n:Nat}{ts:Ts}{ls:List (List D)}{h h':ag}(hh:∀id o,h' id=some o->h id=some o):cR ⟨n,ts,ls,h⟩ ⟨n,ts,ls,h'⟩:=by
 intro j w jl a b;obtain⟨hl,f⟩:=b.hl.forget hh;exact⟨j,jl,⟨b.defers,b.size,b.tmps,hl⟩,f⟩
end
def pz:Nat->List A->Ts
 | _,[]=>[]
 | k,x::r=>(k,.a x)::pz (k+1) r
theorem yP {j:J}{w:World}(f:Nat->Value):∀(k:Nat) (args:List A) (dJ:List Value),aR (cT j w) args dJ->(∀i v,dJ[i]?=some v->f (k+i)=v) ->
  ∀t,aZ j w [] (get (pz k args) t) (f t)
 | k,_,_,.nil,_,_=>trivial
 | k,_,_,.cons (a:=x) (b:=v) (l:=l) (m:=m) h ht,g,t=>by
  by_cases e:k=t
  ·subst e;simp only [pz];rw [fQ];have:=g 0 v rfl;rw [Nat.add_zero] at this;rw [this]; exact h
  ·simp only [pz];rw [fe _ _ e];exact yP f (k+1) l m ht (fun i v hv=>by have:=g (i+1) v (by simpa using hv); rw [<- this]; congr 1; omega) t
def tq (T:List TI) (σ:St):ResultVar->Option A
 | .tmp t=>match get σ.ts t with
  | .a x=>some x
  | _=>none
 | .cell t ty=>match get σ.ts t,T[ty]? with
  | .dI i off,some b=>match b.k.lz,σ.ls[i]? with
   | false,some xs=>kw b xs off
   | _,_=>none
  | _,_=>none
def jD (T:List TI) (σ:St):List ResultVar->Option (List A)
 | []=>some []
 | r::rs=>match tq T σ r,jD T σ rs with
  | some x,some xs=>some (x::xs)
  | _,_=>none
def jE:List A->V
 | [x]=>.a x
 | xs=>.dM xs
end Go.Ab
/-
 Loads,stores and results; from the walk of a body to the contract of a function.
-/
namespace Go.Ab
open Go Go.RowKit
variable {an:bf}
section
variable {gv:eN}
theorem aA.one {j:J}{w:World}{x:D}{v:Value}(h:aA j w x v):v.oneCell'=true:=by cases h<;>rfl
def Cells (j:J) (w:World) (b o:Nat) (xs:List D):Prop:=∀i x,xs[i]?=some x->∃v,w.cell? ⟨b,o+i,none⟩=some v/\aA j w x v
theorem add_plain (b o n:Nat):(⟨b,o,none⟩:Addr).add n=⟨b,o+n,none⟩:=by unfold Addr.add; split<;>simp_all
theorem yQ {P:Program}{j:J}{w:World}{b o:Nat}:∀(xs:List D),(∀i x,xs[i]?=some x->∃v,w.cell? ⟨b,o+i,none⟩=some v/\aA j w x v) ->
  ∃cs:List Value,aR (aA j w) xs cs/\(loadCells ⟨b,o,none⟩ xs.length).run P w=.ok cs.toArray w:=by
 intro xs h;have f:∃cs:List Value,aR (aA j w) xs cs/\∀i v,cs[i]?=some v->w.cell? ⟨b,o+i,none⟩=some v:=by
  induction xs generalizing o with
  | nil=>exact⟨[],.nil,by simp⟩
  | cons x r g =>
   obtain⟨v,hv,hr⟩:=h 0 x rfl;obtain⟨cs,f,k⟩:=g (o:=o+1) fun i y l=>by
    have:=h (i+1) y (by simpa using l)
    rwa [show o+(i+1)=o+1+i by omega] at this
   refine⟨v::cs,.cons hr f,fun i u hu=>?_⟩;cases i with
   | zero=>simp at hu; subst hu; exact hv
   | succ i=>rw [show o+(i+1)=o+1+i by omega]; exact k i u (by simpa using hu)
 obtain⟨cs,h1,m⟩:=f;refine⟨cs,h1, ?_⟩;rw [h1.length];exact run_loadCells_list w _ cs fun i v hv=>by rw [add_plain]; exact m i v hv
theorem pE {P:Program}{j:J}{w:World}{b o off:Nat}{xs:List D}(hc:Cells j w b o xs){t:TypeId}{l:TI}(p:aL P t=some l) (hk:l.k≠.other){x:A}(hl:kw l xs off=some x) :
  ∃v,(loadVar t ⟨b,o+off,none⟩).run P w=.ok v w/\cT j w x v:=by
 unfold kw at hl;simp only [loadVar,Sem.run_bind,Md p hk,Result.andThen];cases s:yO l.k with
 | false =>
  rw [s] at hl;dsimp only at hl
  split at hl
  ·rename_i y f
   simp at hl; subst hl;obtain⟨v,hv,hr⟩:=hc off y f;refine⟨v, ?_,hr⟩;simp [hv]
  ·simp at hl
 | true =>
  rw [s] at hl;dsimp only at hl;have z:∀g:List D,g.length=l.size->(∀i y,g[i]?=some y->xs[off+i]?=some y)->∃v,(loadCells ⟨b,o+off,none⟩ l.size).run P w=.ok v w/\cT j w (.agg g) (.agg v):=by
   intro g hlen q;obtain⟨cs,h1,m⟩:=yQ (P:=P) (j:=j) (w:=w) (b:=b) (o:=o+off) g fun i y f=>by
    have:=hc (off+i) y (q i y f)
    rwa [<- Nat.add_assoc] at this
   rw [hlen] at m;exact⟨_,m,cs,rfl,h1⟩
  have u:∀g:List D,g.length=l.size->(∀i y,g[i]?=some y->xs[off+i]?=some y) ->
    ∃v,((Sem.run P (if true=true then Value.agg <$> (do loadCells ⟨b,o+off,none⟩ (<- sizeOf t)) else load ⟨b,o+off,none⟩)) w)=.ok v w/\cT j w (.agg g) v:=by
   intro g hlen q;obtain⟨v,h1,m⟩:=z g hlen q;exact⟨.agg v,by simp [kz p,h1],m⟩
  split at hl
  ·rename_i r
   simp at hl; subst hl;simp only [Bool.and_eq_true] at r;have B:off=0:=Nat.eq_of_beq_eq_true r.1;have C:xs.length=l.size:=Nat.eq_of_beq_eq_true r.2;obtain⟨v,h1,m⟩:=u xs C fun i y f=>by rw [B,Nat.zero_add]; exact f
   exact⟨v,by simpa [kz p] using h1,m⟩
  ·split at hl
   ·rename_i E
    simp at hl; subst hl;have hle:=Nat.le_of_ble_eq_true E;obtain⟨v,h1,m⟩:=u ((xs.drop off).take l.size) (by simp; omega) fun i y f=>by
     rw [List.getElem?_take] at f
     split at f
     ·rw [List.getElem?_drop] at f; exact f
     ·simp at f
    exact⟨v,by simpa [kz p] using h1,m⟩
   ·simp at hl
theorem ko.cells {j:J}{w:World}{b:Nat}{xs:List D}(h:ko j w b xs):Cells j w b 0 xs:=by
 obtain⟨cs,e,hh,hx,_⟩:=h;intro i x hi;obtain⟨v,hv,hr⟩:=hx.get hi;exact⟨v,by rw [Nat.zero_add,cell_of_row w b i cs.toArray e (0,0) hh]; simpa using hv,hr⟩
def cW {α:Type}:List α->Nat->List α->List α
 | l,_,[]=>l
 | l,n,v::r=>cW (l.set n v) (n+1) r
theorem qL {α:Type}:∀(l:List α) (n:Nat) (r:List α),(cW l n r).length=l.length
 | l,_,[]=>rfl
 | l,n,v::r=>by rw [cW,qL]; simp
theorem aR.cW {α β:Type}{R:α->β->Prop}{l:List α}{m:List β}(h:aR R l m):∀(n:Nat){r:List α}{s:List β},aR R r s->aR R (Ab.cW l n r) (Ab.cW m n s):=by
 intro n r s hr;induction hr generalizing l m n with
 | nil=>exact h
 | cons x _ b=>exact b (h.set x n) (n+1)
theorem fB.trans {w f g:World}{b:Nat}{o o':Go.Obj}(h:fB w f b o) (h':fB f g b o'):fB w g b o' :=
 ⟨h'.size.trans h.size,h'.here,fun x hx=>(h'.other x hx).trans (h.other x hx),h'.os.trans h.os,h'.tape.trans h.tape,h'.output.trans h.output⟩
theorem fB.same {w:World}{b:Nat}{o:Go.Obj}(h:w.heap[b]?=some o):fB w w b o:=⟨rfl,h,fun _ _=>rfl,rfl,rfl,fG.rfl⟩
theorem fB.setCell {w:World}{b i:Nat}{cs:List Value}{e:TypeId}(h:w.heap[b]?=some (.cells cs.toArray e (0,0))) (v:Value):fB w (w.setCell ⟨b,i,none⟩ v) b (.cells (cs.set i v).toArray e (0,0)):=by
 refine⟨by simp, ?_,fun x hx=>heap_setCell_other w _ x v hx,rfl,rfl,fG.rfl⟩;have bh:=fN h;simp only [World.setCell,Array.getElem?_modify,if_true,h,Option.map_some];simp
theorem vi {P:Program}{b off:Nat}{e:TypeId}:∀(g:List Value) (i:Nat) (cs:List Value) (w:World),w.heap[b]?=some (.cells cs.toArray e (0,0))->off+i+g.length<=cs.length ->
  (∀v∈g,v.oneCell'=true)->∃w',(storeCells ⟨b,off,none⟩ g i).run P w=.ok () w'/\fB w w' b (.cells (cW cs (off+i) g).toArray e (0,0))
 | [],i,cs,w,f,_,_=>⟨w,by simp [storeCells],fB.same f⟩
 | v::rest,i,cs,w,f,hl,h1=>by
  simp only [List.length_cons] at hl;have hu:=fB.setCell (an:=an) (i:=off+i) f v;obtain⟨w',j,k⟩:=vi (P:=P) (off:=off) (e:=e) rest (i+1) (cs.set (off+i) v) _ hu.here (by simp; omega) (fun x hx=>h1 x (by simp [hx]));refine⟨w', ?_,hu.trans k⟩;have l:w.cell? ⟨b,off+i,none⟩=some (cs[off+i]'(by omega)):=by
   rw [cell_of_row w b (off+i) cs.toArray e (0,0) f];rw [Array.getElem?_eq_getElem (by simp; omega)]; simp
  have m:w.frozen? ⟨b,off+i,none⟩=false:=frozen_of_row w b _ cs.toArray e f;have o:(store ((⟨b,off,none⟩:Addr).add i) v).run P w=.ok () (w.setCell ⟨b,off+i,none⟩ v):=by
   rw [add_plain,run_store P w _ v _ (h1 v (by simp)),l];simp [m]
  simp only [storeCells,Sem.run_bind,o,Result.andThen,j]
def cA:A->List D
 | .d x=>[x]
 | .agg xs=>xs
theorem cT.cells {j:J}{w:World}{x:A}{v:Value}(h:cT j w x v):aR (aA j w) (cA x) v.cells.toList:=by
 cases x with
 | d x =>
  have b:aA j w x v:=h;have:v.cells=#[v]:=by cases b<;>rfl
  rw [this];exact .cons b .nil
 | agg xs=>obtain⟨cs,e,h⟩:=h; subst e; simpa [Value.cells,cA] using h
theorem yR {j:J}{w:World}{xs:List D}{cs:List Value}(h:aR (aA j w) xs cs):∀v∈cs,v.oneCell'=true:=by
 induction h with
 | nil=>simp
 | cons x _ b =>
  intro v hv;rcases List.mem_cons.1 hv with e|e
  ·rw [e]; exact x.one
  ·exact b v e
theorem tr {P:Program}{j:J}{w:World}{b off:Nat}{e:TypeId}{cs:List Value}(g:w.heap[b]?=some (.cells cs.toArray e (0,0))){t:TypeId}{f:TI}(i:aL P t=some f){x:A}{v:Value}(hv:cT j w x v)
  (k:(cA x).length=f.size) (hl:off+f.size<=cs.length):∃w',(storeVar t ⟨b,off,none⟩ v).run P w=.ok () w'/\fB w w' b (.cells (cW cs off v.cells.toList).toArray e (0,0)):=by
 have hc:=hv.cells;have hlen:v.cells.size=f.size:=by rw [<- k,hc.length]; simp
 obtain⟨w',h1,l⟩:=vi (P:=P) (off:=off) (e:=e) v.cells.toList 0 cs w g (by simp; omega) (yR hc);refine⟨w', ?_,by simpa using l⟩;simp [storeVar,kz i,hlen,h1]
theorem Mf {P:Program}{T:List TI}(eP:kA P T){σ:St}{j:J}{w:World}{jl:List Nat}{a:Act}(f:dD j w jl σ a){r:ResultVar}{x:A}(h:tq T σ r=some x) :
  ∃v,(match r with|.tmp t=>pure (a.tmps.getD t undef)|.cell t ty=>do loadVar ty (<- asAddr (a.tmps.getD t undef)):Sem Value).run P w=.ok v w/\cT j w x v:=by
 cases r with
 | tmp t =>
  have hv:=f.tmps t;simp only [tq] at h
  split at h
  ·rename_i y l
   simp at h; subst h;rw [l] at hv;exact⟨_,rfl,hv⟩
  ·simp at h
 | cell t ty =>
  have hv:=f.tmps t;simp only [tq] at h
  split at h
  ·rename_i i off s h1 m
   rw [h1] at hv;obtain⟨b,o,e⟩:=hv
   split at h
   ·rename_i xs hk hx
    obtain⟨u,g,p⟩:=f.hl.2.each.get hx;rw [o] at g; simp only [Option.some.injEq] at g; subst g;obtain⟨v,k,q⟩:=pE (P:=P) p.cells (eP _ _ m) (K.px hk) h;refine⟨v, ?_,q⟩;rw [Nat.zero_add] at k;simp [e,asAddr,k]
   ·simp at h
  ·simp at h
theorem yS {P:Program}{T:List TI}(eP:kA P T){σ:St}{j:J}{w:World}{jl:List Nat}{a:Act}(f:dD j w jl σ a):∀(rs:List ResultVar) (xs:List A),jD T σ rs=some xs ->
  ∃b:List Value,(rs.mapM fun r=>(match r with|.tmp t=>pure (a.tmps.getD t undef)|.cell t ty=>do loadVar ty (<- asAddr (a.tmps.getD t undef)):Sem Value)).run P w=.ok b w/\aR (cT j w) xs b
 | [],xs,h=>by simp [jD] at h; subst h; exact⟨[],by simp,.nil⟩
 | r::rs,xs,h=>by
  simp only [jD] at h
  split at h
  ·rename_i x g h1 i
   simp at h; subst h;obtain⟨v,k,l⟩:=Mf eP f h1;obtain⟨b,m,o⟩:=yS eP f rs g i;refine⟨v::b, ?_,.cons l o⟩;rw [List.mapM_cons,Sem.run_bind,k];simp only [Result.andThen,Sem.run_bind,m,Sem.run_pure]
  ·simp at h
def bF (T:List TI) (rs:List ResultVar) (Post:V->ag->Prop):Exit->St->Prop:=fun e σ =>
 (e=.normal\/e=.ret)/\∃xs h',jD T σ rs=some xs/\(∀id o,h' id=some o->σ.h id=some o)/\Post (jE xs) h'
theorem bF.normal {T:List TI}{rs:List ResultVar}{Post:V->ag->Prop}{σ:St}{xs:List A}(h:jD T σ rs=some xs) (b:Post (jE xs) σ.h):bF T rs Post .normal σ:=⟨.inl rfl,xs,σ.h,h,fun _ _ h=>h,b⟩
end
theorem EK {P:Program}{T:List TI}(eP:kA P T){gv:eN}{fn:Func}{σ:St}{j:J}{w:World}{jl:List Nat}{a:Act}(f:dD j w jl σ a){rs:List ResultVar}(g:fn.results.toList=rs){xs:List A}(h:jD T σ rs=some xs) :
  ∃v,(results fn a.tmps).run P w=.ok v w/\aZ j w [] (jE xs) v:=by
 subst g;obtain⟨b,i,k⟩:=yS (P:=P) eP f fn.results.toList xs h;refine⟨if h:b.toArray.size=1 then b.toArray[0] else .tuple b.toArray, ?_, ?_⟩
 ·unfold results;rw [Sem.run_bind,Array.mapM_eq_mapM_toList];rw [Sem.run_map];rw [show (List.mapM _ fn.results.toList:Sem (List Value))=List.mapM (fun r=>(match r with|.tmp t=>pure (a.tmps.getD t undef)|.cell t ty=>do loadVar ty (<- asAddr (a.tmps.getD t undef)):Sem Value)) fn.results.toList from by
   congr 1]
  rw [i];simp [Result.andThen]
 ·cases k with
  | nil=>exact⟨[],rfl,.nil⟩
  | cons h1 l =>
   cases l with
   | nil=>simpa [jE,aZ] using h1
   | cons m o=>exact⟨_,by simp,.cons h1 (.cons m o)⟩
theorem AC.of_wp {P:Program}{T:List TI}(eP:kA P T){f:FuncId}{fn:Func}{c:Code}{args:List A}{h:ag}{Post:V->ag->Prop}(q:∀(dJ:Array Value) (w:World),(callFunc f dJ).run P w=.ok (.enter f dJ) w) (s:P.funcs[f]?=some fn) (u:fn.body=some c){n:Nat}(hn:fn.ntmps=n){rs:List ResultVar}(x:fn.results.toList=rs) (hl:Nat.ble args.length n=true)
  (hw:ah P c (bF T rs Post) ⟨n,pz 0 args,[],h⟩):AC P f args h Post:=by
 subst hn x;have hl:=Nat.le_of_ble_eq_true hl;refine⟨q,fun j w dJ hr o=>?_⟩;refine calls_of_wp s u (wp_mono (hw j w [] _ ?_) ?_)
 ·have hlen:=o.length;refine⟨rfl,by simp; omega,fun t=>?_,⟨hr,⟨.nil,by simp,by simp⟩⟩⟩;refine yP (fun t=>(dJ.toArray++Array.replicate (fn.ntmps-dJ.toArray.size) undef).getD t undef) 0 args dJ o (fun i v hv=>?_) t;rw [Nat.zero_add,Array.getD_eq_getD_getElem?,Array.getElem?_append];have:i<dJ.length:=(List.getElem?_eq_some_iff.1 hv).1;simp [this];exact(List.getElem?_eq_some_iff.1 hv).2
 ·rintro e k w' ⟨Q,j',R,⟨he,xs,h',y,z,B⟩,b,C⟩;obtain⟨l,E,F⟩:=yS eP b fn.results.toList xs y;have G:∃v,(results fn k.tmps).run P w'=.ok v w'/\aZ j' w' [] (jE xs) v:=by
   refine⟨if h:l.toArray.size=1 then l.toArray[0] else .tuple l.toArray, ?_, ?_⟩
   ·unfold results;rw [Sem.run_bind,Array.mapM_eq_mapM_toList];rw [Sem.run_map];rw [show (List.mapM _ fn.results.toList:Sem (List Value))=List.mapM (fun r=>(match r with|.tmp t=>pure (k.tmps.getD t undef)|.cell t ty=>do loadVar ty (<- asAddr (k.tmps.getD t undef)):Sem Value)) fn.results.toList from by
     congr 1]
    rw [E];simp [Result.andThen]
   ·cases F with
    | nil=>exact⟨[],rfl,.nil⟩
    | cons h1 H =>
     cases H with
     | nil=>simpa [jE,aZ] using h1
     | cons I J=>exact⟨_,by simp,.cons h1 (.cons I J)⟩
  obtain⟨v,hv,K⟩:=G;obtain⟨L,M⟩:=b.hl.trim 0;obtain⟨N,O⟩:=L.forget z;have p:∃r cv g m,Ending.returned v=.returned cv/\Post r m/\aZ g w' [] r cv/\dY g w' m/\bC j w (Own j h []) g w' (Own g m []) :=
   ⟨jE xs,v,j',h',rfl,B,K,N.1,(C.trans M).trans O⟩
  rcases he with he|he<;>subst he
  ·exact⟨b.defers,v,hv,p⟩
  ·exact⟨b.defers,v,hv,p⟩
end Go.Ab
/-
 The operations that leave the world alone.
-/
namespace Go.Ab
open Go Go.RowKit
variable {an:bf}
def kB (P:Program) (o:Oper) (ts:Ts) (ls:List (List D)) (h:ag) (fx:Fx) (v:V):Prop :=
 fx.wl=false/\fx.wh=false/\∀L H,(fx.rl=true->L=ls)->(fx.rh=true->H=h)->∀(j:J) (w:World) (jl:List Nat) (a:Act),HL j w jl L H ->
  (∀x,x∈o.op.operands->aZ j w jl (ev ts x) (a.eval x))->∃cv,(execOp a.eval o).run P w=.ok (.value cv) w/\aZ j w jl v cv
theorem kB.mh {P:Program}{o:Oper}{ts:Ts}{ls:List (List D)}{h:ag}{fx:Fx}{v:V}(b:kB P o ts ls h fx v):aq P o ts ls h fx v ls h:=by
 obtain⟨h1,f,b⟩:=b;intro L H g hH j w jl a hl i K Q hk;rw [h1,Bool.or_false] at g;rw [f,Bool.or_false] at hH;obtain⟨cv,hr,hv⟩:=b L H g hH j w jl a hl i;unfold Oper.wp;rw [hr,Oper.upon_value];exact hk v L H cv j w jl ⟨rfl,by rw [h1]; rfl,by rw [f]; rfl⟩ hv hl (Ext.refl _) (bC.refl _ _ _)
section
variable {P:Program}{ts:Ts}{ls:List (List D)}{h:ag}{dst:Option Tmp}{ty:TypeId}{pos:String}{aC:Array Edge}{g:Option (Nat×Bool)}
abbrev mk (dst:Option Tmp) (op:Op) (ty:TypeId) (pos:String) (aC:Array Edge) (g:Option (Nat×Bool)):Oper:=⟨dst,op,ty,pos,aC,g⟩
theorem aq.dN {o:Oper}{v:V}(b:∀(j:J) (w:World) (jl:List Nat) (a:Act),(∀x,x∈o.op.operands->aZ j w jl (ev ts x) (a.eval x))->∃cv,(execOp a.eval o).run P w=.ok (.value cv) w/\aZ j w jl v cv) :
  aq P o ts ls h {} v ls h :=
 kB.mh ⟨rfl,rfl,fun _ _ _ _ j w jl a _ f=>b j w jl a f⟩
theorem jb {j:J}{w:World}{jl:List Nat}{b:Bool}{cv:Value}(h:aZ j w jl (.a (.d (.bool b))) cv):cv=.bool b:=by
 have h':aA j w (.bool b) cv:=h;cases h'; rfl
theorem gj {j:J}{w:World}{jl:List Nat}{k:IntKind}{n:Int}{cv:Value}(h:aZ j w jl (.a (.d (.int k n))) cv):cv=.int k n:=by
 have h':aA j w (.int k n) cv:=h;cases h'; rfl
theorem jc {j:J}{w:World}{jl:List Nat}{s:List UInt8}{cv:Value}(h:aZ j w jl (.a (.d (.str s))) cv):cv=.string ⟨s.toArray⟩/\s.length<=eH:=by
 have h':aA j w (.str s) cv:=h;cases h' with
 | str _ b=>exact⟨rfl,b⟩
theorem yT {j:J}{w:World}{jl:List Nat}{i off:Nat}{cv:Value}(h:aZ j w jl (.dI i off) cv):∃b,jl[i]?=some b/\cv=.pointer (some ⟨b,off,none⟩):=h
theorem EL {j:J}{w:World}{jl:List Nat}{xs:List D}{cv:Value}(h:aZ j w jl (.a (.d (.view xs))) cv):∃a f,cv=.pointer (some a)/\At j w a xs.length f/\∀i (h:i<xs.length),aA j w xs[i] (f i):=by
 have h':aA j w (.view xs) cv:=h;cases h' with
 | view _ a f bJ hr=>exact⟨a,f,rfl,bJ,hr⟩
theorem qM {j:J}{w:World}{jl:List Nat}{id off:Nat}{cv:Value}(h:aZ j w jl (.a (.d (.ptr id off))) cv):cv=.pointer (some ⟨j.out id,off,none⟩)/\id<j.next:=by
 have h':aA j w (.ptr id off) cv:=h;cases h' with
 | ptr _ _ hi=>exact⟨rfl,hi⟩
theorem aq.move {x:Operand}{v:V}(hx:ev ts x=v):aq P (mk dst (.move x) ty pos aC g) ts ls h {} v ls h :=
 aq.dN fun j w jl a b=>⟨a.eval x,rfl,hx▸b x (by simp [Op.operands])⟩
theorem aq.assign {x:Operand}{v:V}(hx:ev ts x=v):aq P (mk dst (.assign x) ty pos aC g) ts ls h {} v ls h :=
 aq.dN fun j w jl a b=>⟨a.eval x,rfl,hx▸b x (by simp [Op.operands])⟩
theorem aq.Mg {c x y:Operand}{b:Bool}{v:V}(hc:ev ts c=.a (.d (.bool b))) (i:b=true) (hx:ev ts x=v):aq P (mk dst (.pick c x y) ty pos aC g) ts ls h {} v ls h :=
 aq.dN fun j w jl a f=>by
  have h1:=f c (by simp [Op.operands]);rw [hc] at h1;refine⟨a.eval x, ?_,hx▸f x (by simp [Op.operands])⟩;simp [execOp,jb h1,i,asBool]
theorem aq.EM {c x y:Operand}{b:Bool}{v:V}(hc:ev ts c=.a (.d (.bool b))) (i:b=false) (hx:ev ts y=v):aq P (mk dst (.pick c x y) ty pos aC g) ts ls h {} v ls h :=
 aq.dN fun j w jl a f=>by
  have h1:=f c (by simp [Op.operands]);rw [hc] at h1;refine⟨a.eval y, ?_,hx▸f y (by simp [Op.operands])⟩;simp [execOp,jb h1,i,asBool]
theorem At.cells {j:J}{w:World}{a:Addr}{xs:List D}{f:Nat->Value}(bJ:At j w a xs.length f) (hr:∀i (h:i<xs.length),aA j w xs[i] (f i)):Cells j w a.block a.off xs:=by
 intro i x hx;have hi:=(List.getElem?_eq_some_iff.1 hx).1;refine⟨f i,(bJ.2 i hi).2, ?_⟩;have:=hr i hi;rw [(List.getElem?_eq_some_iff.1 hx).2] at this; exact this
theorem aq.vj {t:TypeId}{f:TI}{x:Operand}{i off:Nat}{xs:List D}{v:A}(o:aL P t=some f) (hk:f.k.lz=false) (hx:ev ts x=.dI i off) (hl:ls[i]?=some xs) (hv:kw f xs off=some v) :
  aq P (mk dst (.load t x) ty pos aC g) ts ls h { rl:=true } (.a v) ls h :=
 kB.mh ⟨rfl,rfl,fun L H p _ j w jl a hh q=>by
  have h1:=q x (by simp [Op.operands]);rw [hx] at h1;obtain⟨b,r,e⟩:=yT h1;rw [p rfl] at hh;obtain⟨y,l,s⟩:=hh.2.each.get hl;rw [r] at l; simp only [Option.some.injEq] at l; subst l;obtain⟨cv,m,u⟩:=pE (P:=P) s.cells o (K.px hk) hv;rw [Nat.zero_add] at m;exact⟨cv,by simp [execOp,Instr.loadAt,Instr.sureAddr,e,m],u⟩⟩
theorem aq.ck {t:TypeId}{i:TI}{x:Operand}{xs:List D}{v:A}(m:aL P t=some i) (hk:i.k.lz=false) (hx:ev ts x=.a (.d (.view xs))) (hv:kw i xs 0=some v) :
  aq P (mk dst (.load t x) ty pos aC g) ts ls h {} (.a v) ls h :=
 aq.dN fun j w jl a o=>by
  have h1:=o x (by simp [Op.operands]);rw [hx] at h1;obtain⟨b,f,e,bJ,hr⟩:=EL h1;obtain⟨cv,l,p⟩:=pE (P:=P) (bJ.cells hr) m (K.px hk) hv;have he:b=⟨b.block,b.off+0,none⟩:=by
   have:=bJ.1;cases b; simp at this; simp [this]
  rw [<- he] at l;exact⟨cv,by simp [execOp,Instr.loadAt,Instr.sureAddr,e,l],p⟩
theorem fA.cells {j:J}{w:World}{id:Nat}{xs:List D}(h:fA j w id (.cells xs)):ko j w (j.out id) xs:=h
theorem aq.ew {t:TypeId}{b:TI}{x:Operand}{id off:Nat}{xs:List D}{v:A}(i:aL P t=some b) (hk:b.k.lz=false) (hx:ev ts x=.a (.d (.ptr id off))) (hh:h id=some (.cells xs)) (hv:kw b xs off=some v) :
  aq P (mk dst (.load t x) ty pos aC g) ts ls h { rh:=true } (.a v) ls h :=
 kB.mh ⟨rfl,rfl,fun L H _ hH j w jl a hl l=>by
  have h1:=l x (by simp [Op.operands]);rw [hx] at h1;obtain⟨e,_⟩:=qM h1;rw [hH rfl] at hl;obtain⟨cv,f,m⟩:=pE (P:=P) (hl.1.obj id _ hh).2.cells.cells i (K.px hk) hv;rw [Nat.zero_add] at f;exact⟨cv,by simp [execOp,Instr.loadAt,Instr.sureAddr,e,f],m⟩⟩
theorem EN {P:Program}{t:TypeId}{g:TI}{fs:List (Nat×TypeId)}(j:aL P t=some g) (hk:g.k=.struct fs) :
  ∃gs:Array Field,P.underlying t=some (.struct gs)/\gs.toList.map (fun f=>(f.offset,f.type))=fs:=by
 obtain⟨i,d,h1,l,_,_,b,_⟩:=fS j;rw [hk] at b;cases d<;>simp [fF] at b;exact⟨_,l,b⟩
theorem vk {P:Program}{t:TypeId}{i j:TI}{fs:List (Nat×TypeId)}{f o:Nat}{g:TypeId}(l:aL P t=some i) (hk:i.k=.struct fs) (b:fs[f]?=some (o,g)) (m:aL P g=some j) (p:j.size≠0)
  (a:Addr) (w:World):(Instr.fieldAt t (.pointer (some a)) f).run P w=.ok (.pointer (some (a.add o))) w:=by
 obtain⟨gs,hu,he⟩:=EN l hk;have q:∃fd:Field,gs[f]?=some fd/\fd.offset=o/\fd.type=g:=by
  rw [<- he,List.getElem?_map] at b;cases e:gs.toList[f]? with
  | none=>rw [e] at b; simp at b
  | some fd=>rw [e] at b; simp at b; exact⟨fd,by simpa using e,b.1,b.2⟩
 obtain⟨fd,h1,r,s⟩:=q;simp [Instr.fieldAt,ff hu,h1,Instr.sureAddr,fieldPlace,s,kz m,p,r]
theorem aq.Mh {t:TypeId}{l m:TI}{fs:List (Nat×TypeId)}{x:Operand}{f o i off:Nat}{p:TypeId}(r:aL P t=some l) (hk:l.k=.struct fs) (s:fs[f]?=some (o,p)) (u:aL P p=some m)
  (q:Nat.beq m.size 0=false) (hx:ev ts x=.dI i off):aq P (mk dst (.fieldAddr t x f) ty pos aC g) ts ls h {} (.dI i (off+o)) ls h :=
 aq.dN fun j w jl a v=>by
  have h1:=v x (by simp [Op.operands]);rw [hx] at h1;obtain⟨b,y,e⟩:=yT h1;exact⟨.pointer (some ⟨b,off+o,none⟩),by simp [execOp,e,vk r hk s u (fun e=>by rw [e] at q; simp at q),add_plain],b,y,rfl⟩
theorem aq.dr {t:TypeId}{b i:TI}{fs:List (Nat×TypeId)}{x:Operand}{f o id off:Nat}{l:TypeId}(p:aL P t=some b) (hk:b.k=.struct fs) (q:fs[f]?=some (o,l)) (r:aL P l=some i)
  (m:Nat.beq i.size 0=false) (hx:ev ts x=.a (.d (.ptr id off))):aq P (mk dst (.fieldAddr t x f) ty pos aC g) ts ls h {} (.a (.d (.ptr id (off+o)))) ls h :=
 aq.dN fun j w jl a s=>by
  have h1:=s x (by simp [Op.operands]);rw [hx] at h1;obtain⟨e,hi⟩:=qM h1;exact⟨.pointer (some ⟨j.out id,off+o,none⟩),by simp [execOp,e,vk p hk q r (fun e=>by rw [e] at m; simp at m),add_plain],aA.ptr _ _ hi⟩
theorem aA.Mi {j:J}{w:World}{xs:List D}{a:Addr}{f:Nat->Value}(bJ:At j w a xs.length f) (hr:∀i (h:i<xs.length),aA j w xs[i] (f i)) (n:Nat):aA j w (.view (xs.drop n)) (.pointer (some (a.add n))):=by
 have b:a=⟨a.block,a.off,none⟩:=by have:=bJ.1; cases a; simp at this; simp [this]
 rw [b,add_plain];refine aA.view (xs.drop n) _ (fun i=>f (n+i)) ⟨rfl,fun i hi=>?_⟩ fun i hi=>?_
 ·simp only [List.length_drop] at hi;have:=bJ.2 (n+i) (by omega);rw [<- Nat.add_assoc] at this; exact this
 ·simp only [List.length_drop] at hi;have:=hr (n+i) (by omega)
  simpa using this
theorem aq.Mj {t:TypeId}{b i:TI}{fs:List (Nat×TypeId)}{x:Operand}{f o:Nat}{xs l:List D}{m:TypeId}(q:aL P t=some b) (hk:b.k=.struct fs) (r:fs[f]?=some (o,m)) (s:aL P m=some i)
  (p:Nat.beq i.size 0=false) (hx:ev ts x=.a (.d (.view xs))) (u:xs.drop o=l):aq P (mk dst (.fieldAddr t x f) ty pos aC g) ts ls h {} (.a (.d (.view l))) ls h :=
 aq.dN fun j w jl a v=>by
  have h1:=v x (by simp [Op.operands]);rw [hx] at h1;obtain⟨y,z,e,bJ,hr⟩:=EL h1;subst u;exact⟨_,by simp [execOp,e,vk q hk r s (fun e=>by rw [e] at p; simp at p)],aA.Mi bJ hr o⟩
theorem kC {j:J}{w:World}{jl:List Nat}{k:Nat}{tok:Option Nat}{nl:Bool}{rows:List (List D)}{cv:Value}(h:aZ j w jl (.a (.d (.slice k tok nl rows))) cv) :
  ∃a cap,cv=.slice a rows.length cap/\rows.length<=cF/\rows.length<=cap/\(nl=a.isNone)/\(a=none->cap=0/\rows=[])/\(∀r,r∈rows->r.length=k) /\
   ∀b,a=some b->qF j tok rows.length b cap/\∃f,o9 j w b rows f/\∀i (h:i<rows.flatten.length),aA j w rows.flatten[i] (f i):=by
 have h':aA j w (.slice k tok nl rows) cv:=h;cases h' with
 | eU _ _ ht=>exact⟨none,0,rfl,by simp [cF],by simp,rfl,fun _=>⟨rfl,rfl⟩,by simp,by simp⟩
 | slice _ _ _ a cap f hk hn hc bJ hr ht=>exact⟨some a,cap,rfl,hn,hc,rfl,by simp,hk,fun b e=>by simp at e; subst e; exact⟨ht,f,bJ,hr⟩⟩
theorem iJ {rows:List (List D)}{k:Nat}(hk:∀r∈rows,r.length=k):rows.flatten.length=rows.length*k/\∀i row,rows[i]?=some row->∀n,n<k->rows.flatten[i*k+n]?=row[n]?:=by
 induction rows with
 | nil=>simp
 | cons r rs b =>
  have hr:r.length=k:=hk r (by simp);obtain⟨h1,f⟩:=b fun x hx=>hk x (by simp [hx]);refine⟨by simp [h1,hr,Nat.succ_mul,Nat.add_comm],fun i row hi n hn=>?_⟩;cases i with
  | zero =>
   simp at hi; subst hi;rw [List.flatten_cons,Nat.zero_mul,Nat.zero_add,List.getElem?_append_left (by omega)]
  | succ i =>
   simp only [List.getElem?_cons_succ] at hi;rw [List.flatten_cons,List.getElem?_append_right (by rw [hr,Nat.succ_mul]; omega)];rw [show (i+1)*k+n-r.length=i*k+n by rw [hr,Nat.succ_mul]; omega];exact f i row hi n hn
theorem Mk {j:J}{w:World}{k:Nat}{rows:List (List D)}{b:Addr}{f:Nat->Value}(hk:∀r∈rows,r.length=k) (bJ:o9 j w b rows f) (hr:∀i (h:i<rows.flatten.length),aA j w rows.flatten[i] (f i))
  {i:Nat}{row:List D}(hi:rows[i]?=some row):aA j w (.view row) (.pointer (some (b.add (i*k)))):=by
 obtain⟨h1,m⟩:=iJ hk;have hlen:row.length=k:=hk row (List.mem_of_getElem? hi);have o:b=⟨b.block,b.off,none⟩:=by have:=bJ.1.resolve_left (fun e=>by rw [e] at hi; simp at hi); cases b; simp at this; simp [this]
 have bh:i<rows.length:=(List.getElem?_eq_some_iff.1 hi).1;have hle:i*k+k<=rows.flatten.length:=by
  rw [h1,<- Nat.succ_mul]; exact Nat.mul_le_mul_right k bh
 rw [o,add_plain];refine aA.view row _ (fun n=>f (i*k+n)) ⟨rfl,fun n hn=>?_⟩ fun n hn=>?_
 ·have:=bJ.2 (i*k+n) (by omega);rw [<- Nat.add_assoc] at this; exact this
 ·have l:=hr (i*k+n) (by omega);have g:=m i row hi n (by omega);rw [List.getElem?_eq_getElem (by omega),List.getElem?_eq_getElem hn] at g;simp only [Option.some.injEq] at g;rw [g] at l; exact l
theorem kD {P:Program}{t:TypeId}{f:TI}{e:TypeId}(g:aL P t=some f) (hk:f.k=.slice e):P.underlying t=some (.slice e):=by
 obtain⟨i,d,h1,j,_,_,b,_⟩:=fS g;rw [hk] at b;cases d<;>simp [fF] at b;subst b; exact j
theorem aq.EO {t e:TypeId}{i l:TI}{x ix:Operand}{tok:Option Nat}{nl:Bool}{rows:List (List D)}{p:IntKind}{n:Int}{row:List D}{k:Nat}(q:aL P t=some i) (hk:i.k=.slice e) (r:aL P e=some l)
  (hx:ev ts x=.a (.d (.slice k tok nl rows))) (hi:ev ts ix=.a (.d (.int p n))) (s:k=l.size) (h0:0<=n) (hr:rows[n.toNat]?=some row) :
  aq P (mk dst (.indexAddr t x ix) ty pos aC g) ts ls h {} (.a (.d (.view row))) ls h :=
 aq.dN fun j w jl a m=>by
  have h1:=m x (by simp [Op.operands]);have o:=m ix (by simp [Op.operands]);rw [hx] at h1; rw [hi] at o;obtain⟨b,cap,u,hn,hc,F,v,y,z⟩:=kC h1;have bh:n.toNat<rows.length:=(List.getElem?_eq_some_iff.1 hr).1;cases b with
  | none=>obtain⟨_,B⟩:=v rfl; rw [B] at bh; simp at bh
  | some b =>
   obtain⟨_,f,bJ,C⟩:=z b rfl;refine⟨_, ?_,Mk y bJ C hr⟩;have E:n<(rows.length:Int):=by omega
   simp [execOp,u,gj o,Instr.indexAt,asIntOf,ff (kD q hk),kz r,h0,E,s]
end
end Go.Ab
/-
 Arithmetic,comparisons,lengths,structs.
-/
namespace Go.Ab
open Go Go.RowKit
variable {an:bf}
section
variable {P:Program}{ts:Ts}{ls:List (List D)}{h:ag}{dst:Option Tmp}{ty:TypeId}{pos:String}{aC:Array Edge}{g:Option (Nat×Bool)}
theorem tt {op:BinOp}{t:TypeId}{x y:Operand}{k:IntKind}{m n:Int}(w:World):(eqGuard op t x y (.int k m) (.int k n)).run P w=.ok () w:=by
 unfold eqGuard;cases op<;>simp
theorem EP {op:BinOp}{t:TypeId}{x y:Operand}{m n:ByteArray}(w:World):(eqGuard op t x y (.string m) (.string n)).run P w=.ok () w:=by
 unfold eqGuard;cases op<;>simp
theorem Ml {op:BinOp}{t:TypeId}{x y:Operand}{m n:Bool}(w:World):(eqGuard op t x y (.bool m) (.bool n)).run P w=.ok () w:=by
 unfold eqGuard;cases op<;>simp
def nG (op:BinOp) (k:IntKind) (m n:Int):Option D :=
 match op with
 | .add=>some (.int k (k.wrap (m+n)))
 | .sub=>some (.int k (k.wrap (m-n)))
 | .mul=>some (.int k (k.wrap (m*n)))
 | .eql=>some (.bool (decide (m=n)))
 | .neq=>some (.bool (!decide (m=n)))
 | .lss=>some (.bool (decide (m<n)))
 | .leq=>some (.bool (decide (m<=n)))
 | .gtr=>some (.bool (decide (n<m)))
 | .geq=>some (.bool (decide (n<=m)))
 | _=>none
theorem EQ {op:BinOp}{t:TypeId}{k:IntKind}{m n:Int}{r:D}(hr:nG op k m n=some r) (w:World):∃cv,(binOp op t (.int k m) (.int k n)).run P w=.ok cv w/\∀j w,aA j w r cv:=by
 cases op<;>simp only [nG,Option.some.injEq] at hr<;>first|(subst hr)|(cases hr; done)
 ·exact⟨_,by simp [binOp,Op.intArith],fun _ _=>.int _ _⟩
 ·exact⟨_,by simp [binOp,Op.intArith],fun _ _=>.int _ _⟩
 ·exact⟨_,by simp [binOp,Op.intArith],fun _ _=>.int _ _⟩
 ·exact⟨.bool (decide (m=n)),by simp [binOp,Op.intCmp]; first|rfl|(by_cases e:m=n<;>simp [e]),fun _ _=>.bool _⟩
 ·exact⟨.bool (!decide (m=n)),by simp [binOp,Op.intCmp]; first|rfl|(by_cases e:m=n<;>simp [e]),fun _ _=>.bool _⟩
 ·exact⟨.bool (decide (m<n)),by simp [binOp,Op.intCmp],fun _ _=>.bool _⟩
 ·exact⟨.bool (decide (m<=n)),by simp [binOp,Op.intCmp],fun _ _=>.bool _⟩
 ·exact⟨.bool (decide (n<m)),by simp [binOp,Op.intCmp],fun _ _=>.bool _⟩
 ·exact⟨.bool (decide (n<=m)),by simp [binOp,Op.intCmp],fun _ _=>.bool _⟩
theorem aq.yU {op:BinOp}{t u:TypeId}{x y:Operand}{k:IntKind}{m n:Int}{r:D}(hx:ev ts x=.a (.d (.int k m))) (i:ev ts y=.a (.d (.int k n))) (hr:nG op k m n=some r) :
  aq P (mk dst (.binOp op t x y u) ty pos aC g) ts ls h {} (.a (.d r)) ls h :=
 aq.dN fun j w jl a b=>by
  have h1:=b x (by simp [Op.operands]);have f:=b y (by simp [Op.operands]);rw [hx] at h1; rw [i] at f;obtain⟨cv,l,o⟩:=EQ (P:=P) (t:=t) hr w;exact⟨cv,by simp [execOp,gj h1,gj f,tt,l],o j w⟩
theorem aq.ER {t u:TypeId}{x y:Operand}{m n:Int}(hx:ev ts x=.a (.d (.int .i64 m))) (b:ev ts y=.a (.d (.int .i64 n))) (h1 : -9223372036854775808<=m+n) (f:m+n<=9223372036854775807) :
  aq P (mk dst (.binOp .add t x y u) ty pos aC g) ts ls h {} (.a (.d (.int .i64 (m+n)))) ls h :=
 aq.yU hx b (by simp only [nG,Option.some.injEq,D.int.injEq,true_and]; simp only [IntKind.wrap,IntKind.bits,IntKind.signed]; simp; omega)
theorem aq.Mm {t u:TypeId}{x y:Operand}{m n:Int}(hx:ev ts x=.a (.d (.int .i64 m))) (b:ev ts y=.a (.d (.int .i64 n))) (h1 : -9223372036854775808<=m-n) (f:m-n<=9223372036854775807) :
  aq P (mk dst (.binOp .sub t x y u) ty pos aC g) ts ls h {} (.a (.d (.int .i64 (m-n)))) ls h :=
 aq.yU hx b (by simp only [nG,Option.some.injEq,D.int.injEq,true_and]; simp only [IntKind.wrap,IntKind.bits,IntKind.signed]; simp; omega)
def yV (op:BinOp) (s t:List UInt8):Option D :=
 match op with
 | .eql=>some (.bool (s==t))
 | .neq=>some (.bool (!(s==t)))
 | .lss=>some (.bool (Op.bytesLess s t))
 | .leq=>some (.bool (Op.bytesLess s t||s==t))
 | .gtr=>some (.bool (!(Op.bytesLess s t||s==t)))
 | .geq=>some (.bool (!Op.bytesLess s t))
 | _=>none
theorem Mn {op:BinOp}{t:TypeId}{a b:List UInt8}{r:D}(hr:yV op a b=some r) (w:World):∃cv,(binOp op t (.string ⟨a.toArray⟩) (.string ⟨b.toArray⟩)).run P w=.ok cv w/\∀j w,aA j w r cv:=by
 cases op<;>simp only [yV,Option.some.injEq] at hr<;>first|(subst hr)|(cases hr; done)
 all_goals exact⟨_,by simp [binOp,Op.stringOp,ByteArray.toList_mk],fun _ _=>.bool _⟩
theorem aq.Mo {op:BinOp}{t u:TypeId}{x y:Operand}{a b:List UInt8}{r:D}(hx:ev ts x=.a (.d (.str a))) (k:ev ts y=.a (.d (.str b))) (hr:yV op a b=some r) :
  aq P (mk dst (.binOp op t x y u) ty pos aC g) ts ls h {} (.a (.d r)) ls h :=
 aq.dN fun j w jl act f=>by
  have h1:=f x (by simp [Op.operands]);have i:=f y (by simp [Op.operands]);rw [hx] at h1; rw [k] at i;obtain⟨cv,l,m⟩:=Mn (P:=P) (t:=t) hr w;exact⟨cv,by simp [execOp,(jc h1).1,(jc i).1,EP,l],m j w⟩
theorem aq.concat {t u:TypeId}{x y:Operand}{a b:List UInt8}(hx:ev ts x=.a (.d (.str a))) (l:ev ts y=.a (.d (.str b))) (hl:a.length+b.length<=eH) :
  aq P (mk dst (.binOp .add t x y u) ty pos aC g) ts ls h {} (.a (.d (.str (a++b)))) ls h :=
 aq.dN fun j w jl act f=>by
  have h1:=f x (by simp [Op.operands]);have i:=f y (by simp [Op.operands]);rw [hx] at h1; rw [l] at i;refine⟨.string ⟨(a++b).toArray⟩, ?_,aA.str _ (by simpa using hl)⟩;have bh:(⟨a.toArray⟩:ByteArray).size+(⟨b.toArray⟩:ByteArray).size<=9223372036854775807:=by
   show a.toArray.size+b.toArray.size<=_; simp only [List.size_toArray]; unfold eH at hl; omega
  have k:=run_string_add_sum (P:=P) w ⟨a.toArray⟩ ⟨b.toArray⟩ bh;have e:(⟨a.toArray⟩:ByteArray)++⟨b.toArray⟩=⟨(a++b).toArray⟩:=by
   apply ByteArray.ext; simp
  rw [e] at k;simp [execOp,(jc h1).1,(jc i).1,EP,binOp,k]
theorem aq.Mp {t u:TypeId}{l:TI}{x y:Operand}{a b:Bool}(p:aL P t=some l) (hk:l.k=.bool) (hx:ev ts x=.a (.d (.bool a))) (q:ev ts y=.a (.d (.bool b))) :
  aq P (mk dst (.binOp .neq t x y u) ty pos aC g) ts ls h {} (.a (.d (.bool (!(a==b))))) ls h :=
 aq.dN fun j w jl act m=>by
  have h1:=m x (by simp [Op.operands]);have f:=m y (by simp [Op.operands]);rw [hx] at h1; rw [q] at f;have hu:P.underlying t=some .bool:=by
   obtain⟨i,d,_,f,_,_,o,_⟩:=fS p;rw [hk] at o;cases d<;>simp [fF] at o;exact f
  exact⟨_,by simp [execOp,jb h1,jb f,Ml,run_neq_bool w t a b hu],aA.bool _⟩
theorem aq.tu {t:TypeId}{x:Operand}{b:Bool}(hx:ev ts x=.a (.d (.bool b))):aq P (mk dst (.unOp .not t x) ty pos aC g) ts ls h {} (.a (.d (.bool (!b)))) ls h :=
 aq.dN fun j w jl act f=>by
  have h1:=f x (by simp [Op.operands]);rw [hx] at h1;exact⟨_,by simp [execOp,jb h1,Op.unary],aA.bool _⟩
theorem aq.Mq {t:TypeId}{x:Operand}{k:IntKind}{n:Int}(hx:ev ts x=.a (.d (.int k n))):aq P (mk dst (.unOp .neg t x) ty pos aC g) ts ls h {} (.a (.d (.int k (k.wrap (0-n))))) ls h :=
 aq.dN fun j w jl act b=>by
  have h1:=b x (by simp [Op.operands]);rw [hx] at h1;exact⟨_,by simp [execOp,gj h1,Op.unary,Op.intArith],aA.int _ _⟩
theorem aq.Mr {t e:TypeId}{f:TI}{x:Operand}{c_:Array TypeId}{k:Nat}{tok:Option Nat}{nl:Bool}{rows:List (List D)}(i:aL P t=some f) (hk:f.k=.slice e) (bJ:c_[0]?=some t)
  (hx:ev ts x=.a (.d (.slice k tok nl rows))):aq P (mk dst (.call { callee:=.builtin .len,args:=#[x],argTypes:=c_ }) ty pos aC g) ts ls h {} (.a (.d (.int .i64 (rows.length:Int)))) ls h :=
 aq.dN fun j w jl act l=>by
  have h1:=l x (by simp [Op.operands,Call.operands]);rw [hx] at h1;obtain⟨b,cap,m,_⟩:=kC h1;exact⟨_,by simp [execOp,resolve,invoke,builtin,m,Builtin.len_,bJ,ff (kD i hk),goInt],aA.int _ _⟩
theorem qN {P:Program}{t:TypeId}{b:TI}(g:aL P t=some b) (hk:b.k=.str):P.underlying t=some .string:=by
 obtain⟨i,d,h1,j,_,_,f,_⟩:=fS g;rw [hk] at f;cases d<;>simp [fF] at f;exact j
theorem size_mk (s:List UInt8):(⟨s.toArray⟩:ByteArray).size=s.length:=by
 show s.toArray.size=s.length;simp
theorem aq.vl {t:TypeId}{b:TI}{x:Operand}{c_:Array TypeId}{s:List UInt8}(f:aL P t=some b) (hk:b.k=.str) (bJ:c_[0]?=some t)
  (hx:ev ts x=.a (.d (.str s))):aq P (mk dst (.call { callee:=.builtin .len,args:=#[x],argTypes:=c_ }) ty pos aC g) ts ls h {} (.a (.d (.int .i64 (s.length:Int)))) ls h :=
 aq.dN fun j w jl act i=>by
  have h1:=i x (by simp [Op.operands,Call.operands]);rw [hx] at h1;refine⟨_, ?_,aA.int _ _⟩;simp [execOp,resolve,invoke,builtin,(jc h1).1,Builtin.len_,bJ,ff (qN f hk),goInt,size_mk]
theorem aq.ES {t:TypeId}{f:TI}{x ix:Operand}{s:List UInt8}{i:IntKind}{n:Int}{c:UInt8}(o:aL P t=some f) (hk:f.k=.str) (hx:ev ts x=.a (.d (.str s))) (hi:ev ts ix=.a (.d (.int i n)))
  (h0:0<=n) (hc:s[n.toNat]?=some c):aq P (mk dst (.index t x ix) ty pos aC g) ts ls h {} (.a (.d (.int .u8 (c.toNat:Int)))) ls h :=
 aq.dN fun j w jl act l=>by
  have h1:=l x (by simp [Op.operands]);have m:=l ix (by simp [Op.operands]);rw [hx] at h1; rw [hi] at m;have bh:n.toNat<s.length:=(List.getElem?_eq_some_iff.1 hc).1;have b:=run_index_string (P:=P) w t ⟨s.toArray⟩ i n (qN o hk);rw [dif_pos ⟨h0,by rw [size_mk]; omega⟩] at b;refine⟨_, ?_,aA.int _ _⟩;have p:(⟨s.toArray⟩:ByteArray)[n.toNat]'(by rw [size_mk]; omega)=c:=by
   have:=(List.getElem?_eq_some_iff.1 hc).2;rw [<- this]; rfl
  rw [p] at b;simp [execOp,(jc h1).1,gj m,b]
def cut (s:List UInt8) (l r:Nat):List UInt8:=(s.drop l).take (r-l)
theorem extract_mk (s:List UInt8) (l r:Nat):(⟨s.toArray⟩:ByteArray).extract l r=⟨(cut s l r).toArray⟩:=by
 apply ByteArray.ext
 apply Array.ext'
 simp [cut]
def WX (ts:Ts):Option Operand->Option Nat
 | none=>some 0
 | some x=>match ev ts x with
  | .a (.d (.int _ n))=>if 0<=n then some n.toNat else none
  | _=>none
theorem nH {ts:Ts}{j:J}{w:World}{jl:List Nat}{act:Act}{x:Operand}{k:IntKind}{n:Int}{cap:Nat}(hx:ev ts x=.a (.d (.int k n))) (b:aZ j w jl (ev ts x) (act.eval x)) (h0:0<=n) (h1:n<=(cap:Int)) (code:BoundsCode) :
  (Instr.sliceBound (act.eval x) cap code).run P w=.ok n.toNat w:=by
 rw [hx] at b;rw [gj b];exact run_sliceBound w k n cap code h0 h1
theorem aq.Ms {t:TypeId}{i:TI}{x lo hi:Operand}{s:List UInt8}{k k':IntKind}{l r:Int}(m:aL P t=some i) (hk:i.k=.str) (hx:ev ts x=.a (.d (.str s))) (hl:ev ts lo=.a (.d (.int k l))) (hh:ev ts hi=.a (.d (.int k' r)))
  (h0:0<=l) (h1:l<=r) (o:r<=(s.length:Int)):aq P (mk dst (.slice t x (some lo) (some hi) none) ty pos aC g) ts ls h {} (.a (.d (.str (cut s l.toNat r.toNat)))) ls h :=
 aq.dN fun j w jl act b=>by
  have f:=b x (by simp [Op.operands]);have p:=nH (P:=P) (cap:=r.toNat) hl (b lo (by simp [Op.operands])) h0 (by omega) .sliceB;have q:=nH (P:=P) (cap:=s.length) hh (b hi (by simp [Op.operands])) (by omega) o .sliceAlen;rw [hx] at f;refine⟨.string ⟨(cut s l.toNat r.toNat).toArray⟩, ?_,aA.str _ (by have:=(jc f).2; simp [cut]; omega)⟩;simp [execOp,(jc f).1,Instr.sliceAt,Instr.slice,Instr.sliceBounds,ff (qN m hk),size_mk,p,q]
  exact extract_mk _ _ _
theorem aq.vb {t:TypeId}{f:TI}{x lo:Operand}{s:List UInt8}{k:IntKind}{l:Int}(m:aL P t=some f) (hk:f.k=.str) (hx:ev ts x=.a (.d (.str s))) (hl:ev ts lo=.a (.d (.int k l)))
  (h0:0<=l) (h1:l<=(s.length:Int)):aq P (mk dst (.slice t x (some lo) none none) ty pos aC g) ts ls h {} (.a (.d (.str (s.drop l.toNat)))) ls h :=
 aq.dN fun j w jl act i=>by
  have b:=i x (by simp [Op.operands]);have o:=nH (P:=P) (cap:=s.length) hl (i lo (by simp [Op.operands])) h0 h1 .sliceB;rw [hx] at b;refine⟨.string ⟨(s.drop l.toNat).toArray⟩, ?_,aA.str _ (by have:=(jc b).2; simp; omega)⟩;simp [execOp,(jc b).1,Instr.sliceAt,Instr.slice,Instr.sliceBounds,ff (qN m hk),size_mk,o];rw [extract_mk]; unfold cut; rw [List.take_of_length_le (by simp)]
theorem aq.yL {t:TypeId}{f:TI}{x hi:Operand}{s:List UInt8}{k:IntKind}{r:Int}(l:aL P t=some f) (hk:f.k=.str) (hx:ev ts x=.a (.d (.str s))) (hh:ev ts hi=.a (.d (.int k r)))
  (h0:0<=r) (h1:r<=(s.length:Int)):aq P (mk dst (.slice t x none (some hi) none) ty pos aC g) ts ls h {} (.a (.d (.str (s.take r.toNat)))) ls h :=
 aq.dN fun j w jl act i=>by
  have b:=i x (by simp [Op.operands]);have m:=nH (P:=P) (cap:=s.length) hh (i hi (by simp [Op.operands])) h0 h1 .sliceAlen;rw [hx] at b;refine⟨.string ⟨(s.take r.toNat).toArray⟩, ?_,aA.str _ (by have:=(jc b).2; simp; omega)⟩;simp [execOp,(jc b).1,Instr.sliceAt,Instr.slice,Instr.sliceBounds,ff (qN l hk),size_mk,m];rw [extract_mk]; simp [cut]
theorem aq.extract {x:Operand}{i:Nat}{xs:List A}{v:A}(hx:ev ts x=.dM xs) (hv:xs[i]?=some v):aq P (mk dst (.extract x i) ty pos aC g) ts ls h {} (.a v) ls h :=
 aq.dN fun j w jl act b=>by
  have h1:=b x (by simp [Op.operands]);rw [hx] at h1;obtain⟨cs,e,hr⟩:=h1;obtain⟨cv,f,k⟩:=hr.get hv;exact⟨cv,by simp [execOp,Instr.extract,e,f],k⟩
theorem aq.Mt {x:Operand}{id off:Nat}(hx:ev ts x=.a (.d (.ptr id off))):aq P (mk dst (.nilCheck x) ty pos aC g) ts ls h {} (.a (.d (.ptr id off))) ls h :=
 aq.dN fun j w jl act b=>by
  have h1:=b x (by simp [Op.operands]);rw [hx] at h1;obtain⟨e,hi⟩:=qM h1;exact⟨_,by simp [execOp,e],aA.ptr _ _ hi⟩
def ET (ts:Ts) (x:Operand):Option D:=match ev ts x with
 | .a (.d y)=>some y
 | _=>none
def tw (ts:Ts):List Operand->Option (List D)
 | []=>some []
 | x::r=>match ET ts x,tw ts r with
  | some y,some b=>some (y::b)
  | _,_=>none
theorem EU {j:J}{w:World}{jl:List Nat}{act:Act}:∀(l:List Operand) (xs:List D),tw ts l=some xs->(∀x,x∈l->aZ j w jl (ev ts x) (act.eval x))->aR (aA j w) xs (l.map act.eval)
 | [],xs,h,_=>by simp [tw] at h; subst h; exact .nil
 | x::r,xs,h,f=>by
  simp only [tw] at h
  split at h
  ·rename_i y g h1 i
   simp at h; subst h;refine .cons ?_ (EU r g i fun z b=>f z (by simp [b]));have:=f x (by simp);unfold ET at h1
   split at h1
   ·rename_i z b; simp at h1; subst h1; rw [b] at this; exact this
   ·simp at h1
  ·simp at h
theorem aq.makeFunc {f:FuncId}{dh:Array Operand}{xs:List D}(hx:tw ts dh.toList=some xs):aq P (mk dst (.makeFunc (.func f) #[] dh) ty pos aC g) ts ls h {} (.a (.d (.func f xs))) ls h :=
 aq.dN fun j w jl act k=>by
  have h1:=EU (j:=j) (w:=w) (jl:=jl) (act:=act) dh.toList xs hx fun x hx=>k x (by simp [Op.operands] at hx ⊢; exact hx);refine⟨.func (.func f) #[] (dh.toList.map act.eval).toArray, ?_,aA.func f xs _ h1.length fun i hi l=>?_⟩
  ·simp [execOp,Instr.makeFunc]
   apply Array.ext'; simp
  ·obtain⟨y,b,hr⟩:=h1.get (List.getElem?_eq_getElem hi);rw [List.getElem?_eq_getElem l] at b;simp only [Option.some.injEq] at b;rw [b]; exact hr
end
end Go.Ab
/-
 Structs and slices that are built,variables,objects,calls.
-/
namespace Go.Ab
open Go Go.RowKit
variable {an:bf}
inductive bT {α:Type}(x:α):List α->Nat->List α->Prop where
 | nil:bT x [] 0 [x]
 | cons {a:α}{l l':List α}{n:Nat}(h:bT x l n l'):bT x (a::l) (n+1) (a::l')
theorem bT.spec {α:Type}{x:α}{l l':List α}{n:Nat}(h:bT x l n l'):n=l.length/\l'=l++[x]:=by
 induction h with
 | nil=>exact⟨rfl,rfl⟩
 | cons _ b=>exact⟨by simp [b.1],by simp [b.2]⟩
inductive dG {α:Type}(x:α):List α->Nat->List α->Prop where
 | zero {a:α}{l:List α}:dG x (a::l) 0 (x::l)
 | succ {a:α}{l l':List α}{n:Nat}(h:dG x l n l'):dG x (a::l) (n+1) (a::l')
theorem dG.spec {α:Type}{x:α}{l l':List α}{n:Nat}(h:dG x l n l'):n<l.length/\l'=l.set n x:=by
 induction h with
 | zero=>exact⟨by simp,rfl⟩
 | succ _ b=>exact⟨by simp [b.1],by simp [b.2]⟩
theorem aq.of_run {P:Program}{o:Oper}{ts:Ts}{ls aH:List (List D)}{h h':ag}{fx:Fx}{v:V}
  (i:∀L H,((fx.rl||fx.wl)=true->L=ls)->((fx.rh||fx.wh)=true->H=h)->∀(j:J) (w:World) (jl:List Nat) (a:Act),HL j w jl L H->(∀x,x∈o.op.operands->aZ j w jl (ev ts x) (a.eval x)) ->
   ∃r w' cv j' b,(execOp a.eval o).run P w=.ok r w'/\(r=.value cv\/(r=.skip/\cv=undef))/\aZ j' w' b v cv/\HL j' w' b (bif fx.wl then aH else L) (bif fx.wh then h' else H)/\Ext jl b /\
    bC j w (Own j H jl) j' w' (Own j' (bif fx.wh then h' else H) b)):aq P o ts ls h fx v aH h':=by
 intro L H k hH j w jl a hl l K Q hk;obtain⟨r,w',cv,j',b,m,hr,hv,f,hx,g⟩:=i L H k hH j w jl a hl l;unfold Oper.wp;rw [m];rcases hr with hr|⟨hr,hu⟩
 ·subst hr; rw [Oper.upon_value]; exact hk v _ _ cv j' w' b ⟨rfl,rfl,rfl⟩ hv f hx g
 ·subst hr; subst hu; rw [Oper.upon_skip]; exact hk v _ _ undef j' w' b ⟨rfl,rfl,rfl⟩ hv f hx g
theorem Ext.snoc (jl:List Nat) (b:Nat):Ext jl (jl++[b]):=fun i x hx=>by
 rw [List.getElem?_append_left (List.getElem?_eq_some_iff.1 hx).1]; exact hx
section
variable {P:Program}{ts:Ts}{ls:List (List D)}{h:ag}{dst:Option Tmp}{ty:TypeId}{pos:String}{aC:Array Edge}{g:Option (Nat×Bool)}
theorem aq.EV {o:Oper}{e:TypeId}{x:A}{i:Nat}{aH:List (List D)}(f:bT (cA x) ls i aH)
  (g:∀(j:J) (w:World) (jl:List Nat) (a:Act),(∀x,x∈o.op.operands->aZ j w jl (ev ts x) (a.eval x))->∃v,cT j w x v/\(execOp a.eval o).run P w=.ok (.value (.pointer (some ⟨w.heap.size,0,none⟩))) (w.alloc (.cells v.cells e))) :
  aq P o ts ls h { wl:=true } (.dI i 0) aH h:=by
 refine aq.of_run fun L H k _ j w jl a hl l=>?_;obtain⟨m,p⟩:=f.spec;have q:=k rfl;subst q;obtain⟨v,hv,hr⟩:=g j w jl a l;obtain⟨h1,b⟩:=hl.loc v.cells.toList e (cA x) hv.cells;rw [Array.toArray_toList] at h1 b;refine⟨_,_,.pointer (some ⟨w.heap.size,0,none⟩),j,jl++[w.heap.size],hr,.inl rfl,⟨w.heap.size, ?_,rfl⟩, ?_,Ext.snoc _ _,b⟩
 ·rw [m,hl.2.each.length]; simp
 ·rw [p]; exact h1
theorem aq.Mu {e:TypeId}{b:TI}{z:A}{i:Nat}{aH:List (List D)}(k:aL P e=some b) (l:b.zero=some z) (m:bT (cA z) ls i aH) :
  aq P (mk dst (.alloc e) ty pos aC g) ts ls h { wl:=true } (.dI i 0) aH h:=by
 obtain⟨inf,d,h1,_,_,_,_,f⟩:=fS k;rw [l] at f;obtain⟨v,o,p⟩:=nF f;refine aq.EV (e:=e) m fun j w jl a _=>⟨v,p j w, ?_⟩;simp [execOp,Instr.alloc,zeroValue,typeInfo,h1,o,newVar,newRow]
theorem aq.yW {e:TypeId}{x:Operand}{y:A}{i:Nat}{aH:List (List D)}(hx:ev ts x=.a y) (b:bT (cA y) ls i aH) :
  aq P (mk dst (.box e x) ty pos aC g) ts ls h { wl:=true } (.dI i 0) aH h :=
 aq.EV (e:=e) b fun j w jl a f=>by
  have h1:=f x (by simp [Op.operands]);rw [hx] at h1;exact⟨a.eval x,h1,by simp [execOp,Instr.box,newVar,newRow]⟩
theorem aq.yX {t:TypeId}{f:TI}{x y:Operand}{i off:Nat}{xs:List D}{v:A}{aH:List (List D)}(q:aL P t=some f) (hx:ev ts x=.dI i off) (r:ev ts y=.a v) (hl:ls[i]?=some xs)
  (s:(cA v).length=f.size) (hle:off+f.size<=xs.length) (u:dG (cW xs off (cA v)) ls i aH) (M:dst=none):aq P (mk dst (.store t x y) ty pos aC g) ts ls h { wl:=true } .any aH h:=by
 refine aq.of_run fun L H z _ j w jl a hh m=>?_;have B:=z rfl;subst B;have h1:=m x (by simp [Op.operands]);have k:=m y (by simp [Op.operands]);rw [hx] at h1; rw [r] at k;obtain⟨b,o,e⟩:=yT h1;obtain⟨N,l,cs,O,C,p,E⟩:=hh.2.each.get hl;rw [o] at l; simp only [Option.some.injEq] at l; subst l;obtain⟨w',F,G⟩:=tr (an:=an) (P:=P) C q k s (by rw [<- p.length]; exact hle)
 obtain⟨I,J⟩:=hh.LW o E G (p.cW off k.cells);obtain⟨_,K⟩:=u.spec;refine⟨.skip,w',undef,j,jl, ?_,.inr ⟨rfl,rfl⟩,trivial, ?_,Ext.refl _,J⟩
 ·simp [execOp,Instr.storeAt,Instr.sureAddr,e,F]
 ·rw [K]; exact I
theorem EW {α:Type}:∀(pre l r:List α),l.length=r.length->cW (pre++l) pre.length r=pre++r
 | pre,[],[],_=>by simp [cW]
 | pre,a::l,b::r,h=>by
  have:=EW (pre++[b]) l r (by simpa using h);simp only [cW];rw [show (pre++a::l).set pre.length b=(pre++[b])++l by simp [List.set_append]];rw [show pre.length+1=(pre++[b]).length by simp];rw [this]; simp
 | _,[],_::_,h=>by simp at h
 | _,_::_,[],h=>by simp at h
theorem aq.Mw {t:TypeId}{f:TI}{x y:Operand}{i:Nat}{xs b:List D}{aH:List (List D)}(j:aL P t=some f) (hx:ev ts x=.dI i 0) (k:ev ts y=.a (.agg b)) (hl:ls[i]?=some xs)
  (l:b.length=f.size) (hle:xs.length=f.size) (m:dG b ls i aH):aq P (mk none (.store t x y) ty pos aC g) ts ls h { wl:=true } .any aH h :=
 aq.yX j hx k hl l (by omega) (by
  have:=EW [] xs b (by omega);simp only [List.nil_append,List.length_nil] at this;rw [show cA (.agg b)=b from rfl,this]; exact m) rfl
theorem aq.EY {t:TypeId}{b:TI}{x y:Operand}{i off:Nat}{xs xs':List D}{v:D}{aH:List (List D)}(f:aL P t=some b) (hx:ev ts x=.dI i off) (j:ev ts y=.a (.d v)) (hl:ls[i]?=some xs)
  (k:b.size=1) (hv:dG v xs off xs') (l:dG xs' ls i aH):aq P (mk none (.store t x y) ty pos aC g) ts ls h { wl:=true } .any aH h:=by
 obtain⟨h1,m⟩:=hv.spec;refine aq.yX f hx j hl (by rw [k]; rfl) (by omega) ?_ rfl;rw [show cW xs off (cA (.d v))=xs' by rw [m]; rfl]; exact l
theorem aq.Mx {t:TypeId}{b:TI}{x y:Operand}{i off:Nat}{xs xs':List D}{v:A}{aH:List (List D)}(f:aL P t=some b) (hx:ev ts x=.dI i off) (j:ev ts y=.a v) (hl:ls[i]?=some xs)
  (k:(cA v).length=b.size) (hle:off+b.size<=xs.length) (hv:cW xs off (cA v)=xs') (l:dG xs' ls i aH):aq P (mk none (.store t x y) ty pos aC g) ts ls h { wl:=true } .any aH h :=
 aq.yX f hx j hl k hle (by rw [hv]; exact l) rfl
theorem aq.yY {t:TypeId}{b:TI}{x y:Operand}{id off:Nat}{xs f:List D}{v:A}(p:aL P t=some b) (hx:ev ts x=.a (.d (.ptr id off))) (q:ev ts y=.a v) (hl:h id=some (.cells xs))
  (r:(cA v).length=b.size) (hle:off+b.size<=xs.length) (s:cW xs off (cA v)=f) (I:dst=none) :
  aq P (mk dst (.store t x y) ty pos aC g) ts ls h { wh:=true } .any ls (h.set id (some (.cells f))):=by
 refine aq.of_run fun L H _ hH j w jl a hh m=>?_;have u:=hH rfl;subst u;have h1:=m x (by simp [Op.operands]);have i:=m y (by simp [Op.operands]);rw [hx] at h1; rw [q] at i;obtain⟨e,hid⟩:=qM h1;obtain⟨cs,z,B,o,k⟩:=(hh.1.obj id _ hl).2;obtain⟨w',C,l⟩:=tr (an:=an) (P:=P) B p i r (by rw [<- o.length]; exact hle);have E:=l.le (j:=j) k;obtain⟨F,G⟩:=hh.setObj (o':=.cells f) hl rfl rfl k l ⟨_,z,l.here,by rw [<- s]; exact(o.cW off i.cells).imp fun _ _ h=>h.mono E,k⟩
 refine⟨.skip,w',undef,j,jl, ?_,.inr ⟨rfl,rfl⟩,trivial,F,Ext.refl _,G⟩;simp [execOp,Instr.storeAt,Instr.sureAddr,e,C]
theorem aq.qP {t:TypeId}{b:TI}{x y:Operand}{id off:Nat}{xs xs':List D}{v:D}(f:aL P t=some b) (hx:ev ts x=.a (.d (.ptr id off))) (i:ev ts y=.a (.d v)) (hl:h id=some (.cells xs))
  (j:b.size=1) (hv:dG v xs off xs'):aq P (mk none (.store t x y) ty pos aC g) ts ls h { wh:=true } .any ls (h.set id (some (.cells xs'))):=by
 obtain⟨h1,k⟩:=hv.spec;exact aq.yY f hx i hl (by rw [j]; rfl) (by omega) (by rw [k]; rfl) rfl
theorem My {o:Oper}{e:TypeId}{x:A}(b:∀(j:J) (w:World) (jl:List Nat) (a:Act),(∀x,x∈o.op.operands->aZ j w jl (ev ts x) (a.eval x))->∃v,cT j w x v/\(execOp a.eval o).run P w=.ok (.value (.pointer (some ⟨w.heap.size,0,none⟩))) (w.alloc (.cells v.cells e))) :
  dZ P o ts ls h fun v aH h'=>∃id,h id=none/\v=.a (.d (.ptr id 0))/\aH=ls/\h'=h.set id (some (.cells (cA x))):=by
 intro j w jl a hl f K Q hk;obtain⟨v,hv,hr⟩:=b j w jl a f;have hle:Le j w (j.obj w.heap.size) (w.alloc (.cells v.cells e)) :=
  ((hl.data (.cells v.cells e) 0).2.toLe.trans (by
   rw [J.tg (hl.1.fresh _ (Nat.le_refl _))];exact⟨by simp [J.obj],fun id hi=>by simp only [J.obj]; rw [if_neg (by omega)],fun _=>Nat.le_refl _,fun _ _ _=>rfl,fun _ _=>.inl rfl⟩))
 obtain⟨h1,g⟩:=hl.obj (.cells v.cells e) (.cells (cA x)) rfl ⟨v.cells.toList,e,by
  simp only [J.obj,if_true]; rw [Array.toArray_toList]; exact heap_alloc_new w _,hv.cells.imp fun _ _ h=>h.mono hle,by
   simp only [J.obj,if_true]; exact hl.1.fresh _ (Nat.le_refl _)⟩
 unfold Oper.wp;rw [hr,Oper.upon_value];refine hk _ _ _ _ (j.obj w.heap.size) _ jl ⟨j.next,hl.1.kq (Nat.le_refl _),rfl,rfl,rfl⟩ ?_ h1 (Ext.refl _) g;have:=aA.ptr (j:=j.obj w.heap.size) (w:=w.alloc (.cells v.cells e)) j.next 0 (by simp [J.obj])
 simpa [J.obj,aZ,cT] using this
theorem dZ.tA {e:TypeId}{x:Operand}{y:A}(hx:ev ts x=.a y) :
  dZ P (mk dst (.box e x) ty pos aC g) ts ls h fun v aH h'=>∃id,h id=none/\v=.a (.d (.ptr id 0))/\aH=ls/\h'=h.set id (some (.cells (cA y))) :=
 My (e:=e) fun j w jl a b=>by
  have h1:=b x (by simp [Op.operands]);rw [hx] at h1;exact⟨a.eval x,h1,by simp [execOp,Instr.box,newVar,newRow]⟩
def vm (ts:Ts) (x:Operand):Option A:=match ev ts x with
 | .a y=>some y
 | _=>none
def iA (ts:Ts):List Operand->Option (List A)
 | []=>some []
 | x::r=>match vm ts x,iA ts r with
  | some y,some b=>some (y::b)
  | _,_=>none
theorem EZ {j:J}{w:World}{jl:List Nat}{act:Act}:∀(l:List Operand) (xs:List A),iA ts l=some xs->(∀x,x∈l->aZ j w jl (ev ts x) (act.eval x))->aR (cT j w) xs (l.map act.eval)
 | [],xs,h,_=>by simp [iA] at h; subst h; exact .nil
 | x::r,xs,h,f=>by
  simp only [iA] at h
  split at h
  ·rename_i y g h1 i
   simp at h; subst h;refine .cons ?_ (EZ r g i fun z b=>f z (by simp [b]));have:=f x (by simp);unfold vm at h1
   split at h1
   ·rename_i z b; simp at h1; subst h1; rw [b] at this; exact this
   ·simp at h1
  ·simp at h
theorem vn {f:Operand}{args:Array Operand}{c_:Array TypeId}{eL:FuncId}{dh:List D}{xs:List A}{Post:V->ag->Prop}{L:List (List D)}{H:ag}(q:ev ts f=.a (.d (.func eL dh))) (s:iA ts args.toList=some xs)
  (hc:AC P eL (xs++dh.map .d) H Post) :
  dZ P (mk dst (.call { callee:=.value f,args:=args,argTypes:=c_ }) ty pos aC g) ts L H fun v aH h'=>Post v h'/\aH=L:=by
 intro j w jl a hl k K Q hk;have h1:=k f (by simp [Op.operands,Call.operands]);rw [q] at h1;have t:=EZ (j:=j) (w:=w) (jl:=jl) (act:=a) args.toList xs s fun x hx=>k x (by simp [Op.operands,Call.operands]; right; simpa using hx);have o:aA j w (.func eL dh) (a.eval f):=h1;generalize u:a.eval f=S at o;cases o with
 | func _ _ gz hlen hr =>
  have B:aR (cT j w) (xs++dh.map .d) (args.toList.map a.eval++gz):=by
   refine t.append (aR.l_ (by simp [hlen]) fun i x y hx C=>?_);rw [List.getElem?_map] at hx;cases e:dh[i]? with
   | none=>rw [e] at hx; simp at hx
   | some z =>
    rw [e] at hx; simp at hx; subst hx;obtain⟨hi,E⟩:=List.getElem?_eq_some_iff.1 e;obtain⟨G,I⟩:=List.getElem?_eq_some_iff.1 C;have:=hr i hi G;rw [E,I] at this; exact this
  have J:=hc.runs j w _ hl.1 B;have M:(execOp a.eval (mk dst (.call { callee:=.value f,args:=args,argTypes:=c_ }) ty pos aC g)).run P w=.ok (.enter eL (args.toList.map a.eval++gz).toArray) w:=by
   have he:=hc.enter (args.toList.map a.eval++gz).toArray w;have N:Array.map a.eval args++gz.toArray=(args.toList.map a.eval++gz).toArray:=by apply Array.ext'; simp
   simp only [execOp,resolve,u,Deferred.ofValue,Sem.run_bind,Sem.run_pure,Result.andThen,invoke,List.append_eq,Array.empty_append];rw [N]; exact he
  unfold Oper.wp;rw [M,Oper.upon_enter];refine J.mono ?_;rintro e w' ⟨r,cv,j',h',rfl,O,hv,hh,m⟩;have p:∀b,b∈jl->b<w.heap.size:=fun b l=>Own.lt hl (.inl l);have R:∀b,b∈jl->w'.heap[b]?=w.heap[b]?/\j'.F b=j.F b:=fun b l=>m.frame b (p b l) (hl.2.apart b l);refine hk r L h' cv j' w' jl ⟨O,rfl⟩ (hv.mono (Le.refl _ _) (fun i b l=>by simp at l)) ⟨hh,⟨pe hl.2.each fun xs b l h=>h.keep m.toLe (R b l),hl.2.nodup,fun b l k=>hl.2.apart b l (m.own b (p b l) k)⟩⟩ (Ext.refl _) ?_
  refine { m with frame:=fun b l hn=>m.frame b l (fun k=>hn ?_),own:=fun b l k=>?_ }
  ·rcases k with k|k
   ·simp at k
   ·exact .inr k
  ·rcases k with k|k
   ·exact .inl k
   ·rcases m.own b l (.inr k) with h|h
    ·simp at h
    ·exact .inr h
theorem dZ.call {f:Operand}{args:Array Operand}{c_:Array TypeId}{eL:FuncId}{dh:List D}{xs:List A}{Post:V->ag->Prop}(b:ev ts f=.a (.d (.func eL dh))) (i:iA ts args.toList=some xs)
  (hc:AC P eL (xs++dh.map .d) h Post) :
  dZ P (mk dst (.call { callee:=.value f,args:=args,argTypes:=c_ }) ty pos aC g) ts ls h fun v aH h'=>Post v h'/\aH=ls:=vn b i hc
theorem aq.fh {f:Operand}{args:Array Operand}{c_:Array TypeId}{eL:FuncId}{dh:List D}{xs:List A}{v:V}(b:ev ts f=.a (.d (.func eL dh))) (i:iA ts args.toList=some xs)
  (hc:∀H,AC P eL (xs++dh.map .d) H fun r h'=>r=v/\h'=H) :
  aq P (mk dst (.call { callee:=.value f,args:=args,argTypes:=c_ }) ty pos aC g) ts ls h {} v ls h:=by
 intro L H _ _;exact(vn b i (hc H)).mono fun _ _ _ ⟨⟨j,k⟩,l⟩=>⟨j,l,k⟩
theorem aq.cU {f:Operand}{args:Array Operand}{c_:Array TypeId}{eL:FuncId}{dh:List D}{xs:List A}{v:V}{h1:ag}(b:ev ts f=.a (.d (.func eL dh))) (i:iA ts args.toList=some xs)
  (hc:AC P eL (xs++dh.map .d) h fun r h'=>r=v/\h'=h1) :
  aq P (mk dst (.call { callee:=.value f,args:=args,argTypes:=c_ }) ty pos aC g) ts ls h { rh:=true,wh:=true } v ls h1:=by
 intro L H _ hH;have e:=hH rfl;subst e;exact(vn b i hc).mono fun _ _ _ ⟨⟨j,k⟩,l⟩=>⟨j,l,k⟩
theorem aq.gD {f:Operand}{args:Array Operand}{c_:Array TypeId}{eL:FuncId}{dh:List D}{xs:List A}{v:V}(b:ev ts f=.a (.d (.func eL dh))) (i:iA ts args.toList=some xs)
  (hc:AC P eL (xs++dh.map .d) h fun r h'=>r=v/\h'=h) :
  aq P (mk dst (.call { callee:=.value f,args:=args,argTypes:=c_ }) ty pos aC g) ts ls h { rh:=true } v ls h:=by
 intro L H _ hH;have e:=hH rfl;subst e;exact(vn b i hc).mono fun _ _ _ ⟨⟨j,k⟩,l⟩=>⟨j,l,k⟩
end
end Go.Ab
/-
 append.
-/
namespace Go.Ab
open Go Go.RowKit
variable {an:bf}
theorem qQ {j:J}{w:World}{k:Nat}{tok:Option Nat}{rows:List (List D)}{b o cap:Nat}(hk:∀r∈rows,r.length=k) (hn:rows.length<=cF) (hc:rows.length<=cap)
  (g:∀i x,rows.flatten[i]?=some x->o+i<j.F b/\∃v,w.cell? ⟨b,o+i,none⟩=some v/\aA j w x v) (ht:qF j tok rows.length ⟨b,o,none⟩ cap) :
  aA j w (.slice k tok false rows) (.slice (some ⟨b,o,none⟩) rows.length cap):=by
 refine aA.slice k tok rows ⟨b,o,none⟩ cap (fun i=>(w.cell? ⟨b,o+i,none⟩).getD undef) hk hn hc ⟨.inr rfl,fun i hi=>?_⟩ (fun i hi=>?_) ht
 ·obtain⟨h1,v,f,_⟩:=g i _ (List.getElem?_eq_getElem hi);exact⟨h1,by show w.cell? _=some ((w.cell? ⟨b,o+i,none⟩).getD undef); rw [f]; rfl⟩
 ·obtain⟨h1,v,f,l⟩:=g i _ (List.getElem?_eq_getElem hi);rw [f]; exact l
theorem tB {α:Type}:∀(l:List α) (n:Nat) (r:List α) (i:Nat),i<n->(cW l n r)[i]?=l[i]?
 | _,_,[],_,_=>rfl
 | l,n,v::r,i,h=>by
  rw [cW,tB (l.set n v) (n+1) r i (by omega),List.getElem?_set_ne (by omega)]
theorem vp {α:Type}:∀(l:List α) (n:Nat) (r:List α) (i:Nat) (x:α),r[i]?=some x->n+r.length<=l.length->(cW l n r)[n+i]?=some x
 | _,_,[],_,_,h,_=>by simp at h
 | l,n,v::r,i,x,h,hl=>by
  simp only [List.length_cons] at hl;cases i with
  | zero =>
   simp at h; subst h;rw [cW,Nat.add_zero,tB _ _ _ _ (by omega),List.getElem?_set];simp; omega
  | succ i =>
   rw [cW,show n+(i+1)=n+1+i by omega];exact vp (l.set n v) (n+1) r i x (by simpa using h) (by simp; omega)
section
variable {P:Program}{t u ty e:TypeId}{i:TypeInfo}{z:Value}{du:TypeDesc}
theorem yZ (ht:P.underlying t=some (.slice e)) (hu:P.underlying u=some du) (b:∀k,du≠.int k) (hi:P.info? e=some i) (f:i.zero=some z){w:World}{base:Option Addr}{sLen sCap m:Nat}{x:Value}{olds news:List Value}
  (hlen:(Builtin.lenOf x).run P w=.ok m w) (g:(Builtin.firstCells i.size sLen (.slice base sLen sCap)).run P w.drew=.ok olds.toArray w.drew) (j:(Builtin.firstCells i.size m x).run P w.drew=.ok news.toArray w.drew)
  (q:sCap<sLen+m) (r:sLen+m<=9223372036854775807) (s:Builtin.nextslicecap (sLen+m) sCap*i.bytes<=281474976710656) :
  (Builtin.append_ #[t,u] ty #[.slice base sLen sCap,x]).run P w=.ok (.slice (some ⟨w.heap.size,0,none⟩) (sLen+m) (grownCap w (sLen+m) sCap e))
   (w.drew.alloc (.cells (olds++news++(Builtin.zeroCells z.cells (grownCap w (sLen+m) sCap e-(sLen+m))).toList).toArray e)):=by
 have hn:¬(sLen+m<=sCap):=by omega
 have l:¬(9223372036854775807<((sLen:Int)+(m:Int))):=by omega
 have o:¬(281474976710656<Builtin.nextslicecap (sLen+m) sCap*i.bytes):=by omega
 have p:(match du with|.int _=>true|_=>false)=false:=by cases du<;>first|rfl|exact absurd rfl (b _)
 simp [Builtin.append_,run_underlying ht,run_underlying hu,sizeOf,typeInfo,zeroValue,hi,f,p,hlen,hn,l,o,Question.forced,g,j,newRow,grownCap]
 congr 2
 apply Array.ext'
 simp [List.append_assoc]
theorem tC (ht:P.underlying t=some (.slice e)) (hu:P.underlying u=some du) (b:∀k,du≠.int k) (hi:P.info? e=some i){w w':World}{a:Addr}{sLen sCap m:Nat}{x:Value}{news:List Value}
  (hlen:(Builtin.lenOf x).run P w=.ok m w) (f:(Builtin.firstCells i.size m x).run P w=.ok news.toArray w) (g:sLen+m<=sCap) (j:(storeCells (a.add (sLen*i.size)) news).run P w=.ok () w') :
  (Builtin.append_ #[t,u] ty #[.slice (some a) sLen sCap,x]).run P w=.ok (.slice (some a) (sLen+m) sCap) w':=by
 have l:(match du with|.int _=>true|_=>false)=false:=by cases du<;>first|rfl|exact absurd rfl (b _)
 simp [Builtin.append_,run_underlying ht,run_underlying hu,sizeOf,typeInfo,hi,l,hlen,g,f,j]
theorem E0 (ht:P.underlying t=some (.slice e)) (hu:P.underlying u=some du) (b:∀k,du≠.int k) (hi:P.info? e=some i){w:World}{x:Value}
  (hlen:(Builtin.lenOf x).run P w=.ok 0 w) (f:(Builtin.firstCells i.size 0 x).run P w=.ok #[] w) :
  (Builtin.append_ #[t,u] ty #[.slice none 0 0,x]).run P w=.ok (.slice none 0 0) w:=by
 have g:(match du with|.int _=>true|_=>false)=false:=by cases du<;>first|rfl|exact absurd rfl (b _)
 simp [Builtin.append_,run_underlying ht,run_underlying hu,sizeOf,typeInfo,hi,g,hlen,f]
end
theorem y5 {P:Program}{j:J}{w:World}{k:Nat}{tok:Option Nat}{nl:Bool}{rows:List (List D)}{cv:Value}{size:Nat}(h:aA j w (.slice k tok nl rows) cv) (hk:∀r∈rows,r.length=size) :
  ∃cs:List Value,aR (aA j w) rows.flatten cs/\∀w',(∀b o,o<j.F b->w'.cell? ⟨b,o,none⟩=w.cell? ⟨b,o,none⟩)->(Builtin.firstCells size rows.length cv).run P w'=.ok cs.toArray w':=by
 cases h with
 | eU _ _ ht=>exact⟨[],.nil,fun w' _=>by simp [Builtin.firstCells]⟩
 | slice _ _ _ a cap f y hn hc bJ hr ht =>
  by_cases l:rows=[]
  ·subst l;exact⟨[],.nil,fun w' _=>by simp [Builtin.firstCells,loadCells,loadCellsFrom]⟩
  have m:a=⟨a.block,a.off,none⟩:=by have:=bJ.1.resolve_left l; cases a; simp at this; simp [this]
  have p:=(iJ hk).1;obtain⟨cs,h1,q⟩:=yQ (P:=P) (j:=j) (w:=w) (b:=a.block) (o:=a.off) rows.flatten fun i x hx=>by
   have hi:=(List.getElem?_eq_some_iff.1 hx).1;refine⟨f i,(bJ.2 i hi).2, ?_⟩;have:=hr i hi;rw [(List.getElem?_eq_some_iff.1 hx).2] at this; exact this
  refine⟨cs,h1,fun w' hw=>?_⟩;have s:∀n v,cs[n]?=some v->w.cell? ⟨a.block,a.off+n,none⟩=some v:=by
   intro n v hv;obtain⟨x,hx,_⟩:=h1.get' hv;have hi:=(List.getElem?_eq_some_iff.1 hx).1;have t:=(bJ.2 n hi).2;have g:(loadCells ⟨a.block,a.off,none⟩ rows.flatten.length).run P w=.ok ((List.range rows.flatten.length).map f).toArray w :=
    run_loadCells w _ _ f fun i hi=>by rw [add_plain]; exact(bJ.2 i hi).2
   rw [q] at g;simp only [Result.ok.injEq,and_true] at g;have u:cs=(List.range rows.flatten.length).map f:=by
    have:=congrArg Array.toList g; simpa using this
   rw [u,List.getElem?_map,List.getElem?_range hi] at hv;simp at hv;rw [t,hv]
  rw [Builtin.firstCells,<- p,h1.length];rw [m];exact run_loadCells_list w' _ cs fun n v hv=>by
   rw [add_plain];obtain⟨x,hx,_⟩:=h1.get' hv;have hi:=(List.getElem?_eq_some_iff.1 hx).1;rw [hw _ _ (bJ.2 n hi).1];exact s n v hv
theorem E1 {j:J}{w:World}{k:Nat}{tok:Option Nat}{nl:Bool}{rows:List (List D)}{cv:Value}(h:aA j w (.slice k tok nl rows) cv) (P:Program) (w':World):(Builtin.lenOf cv).run P w'=.ok rows.length w':=by
 cases h<;>simp [Builtin.lenOf]
theorem E2 {R:Nat->D->Prop}{rows aT:List (List D)}{n:Nat}(hn:rows.flatten.length=n) (h1:∀i x,rows.flatten[i]?=some x->R i x) (b:∀i x,aT.flatten[i]?=some x->R (n+i) x) :
  ∀i x,(rows++aT).flatten[i]?=some x->R i x:=by
 intro i x hx;rw [List.flatten_append,List.getElem?_append] at hx
 split at hx
 ·exact h1 i x hx
 ·rename_i h
  have:=b _ x hx
  rwa [show n+(i-rows.flatten.length)=i by omega] at this
section
variable {P:Program}{ts:Ts}{ls:List (List D)}{h:ag}{dst:Option Tmp}{ty:TypeId}{pos:String}{aC:Array Edge}{g:Option (Nat×Bool)}
theorem E3 {P:Program}{t:TypeId}{b:TI}(g:aL P t=some b) (hk:(∃e,b.k=.slice e)\/b.k=.str):∃d,P.underlying t=some d/\∀k,d≠.int k:=by
 obtain⟨i,d,h1,j,_,_,f,_⟩:=fS g;refine⟨d,j,fun k e=>?_⟩;subst e;simp only [fF] at f;rcases hk with ⟨e,hk⟩|hk<;>rw [hk] at f<;>cases f
def Src (P:Program) (j:J) (w:World) (size:Nat) (cv:Value) (aT:List (List D)):Prop :=
 (∀r∈aT,r.length=size)/\(∃news:List Value,aR (aA j w) aT.flatten news/\∀w',(∀b o,o<j.F b->w'.cell? ⟨b,o,none⟩=w.cell? ⟨b,o,none⟩)->(Builtin.firstCells size aT.length cv).run P w'=.ok news.toArray w')/\∀w',(Builtin.lenOf cv).run P w'=.ok aT.length w'
theorem Src.slice {P:Program}{j:J}{w:World}{k:Nat}{tok:Option Nat}{nl:Bool}{rows:List (List D)}{cv:Value}{size:Nat}(h:aA j w (.slice k tok nl rows) cv) (hk:∀r∈rows,r.length=size):Src P j w size cv rows :=
 ⟨hk,y5 h hk,fun w'=>E1 h P w'⟩
def jF (s:List UInt8):List (List D):=s.map fun b=>[.int .u8 (b.toNat:Int)]
theorem Mz (j:J) (w:World) (s:List UInt8):aR (aA j w) (s.map fun b=>D.int .u8 (b.toNat:Int)) (s.map fun b=>Value.int .u8 (b.toNat:Int)):=by
 induction s with
 | nil=>exact .nil
 | cons a r f=>exact .cons (.int _ _) f
theorem MA (s:List UInt8):(jF s).flatten=s.map fun b=>D.int .u8 (b.toNat:Int):=by
 induction s with
 | nil=>rfl
 | cons a r f=>simp [jF] at f ⊢; exact f
theorem aq.vq {t u e:TypeId}{ax af l:TI}{x y:Operand}{tk k m:Nat}{E:Option TypeId}{nl:Bool}{rows aT:List (List D)}{z:A}(aQ:aL P t=some ax) (hk:ax.k=.slice e) (aR:aL P e=some l) (aS:aL P u=some af) (aV:(∃e,af.k=.slice e)\/af.k=.str)
  (aW:l.zero=some z) (aX:(cA z).length=l.size) (bu:l.size≠0)
  (hx:ev ts x=.a (.d (.slice k (some tk) nl rows))) (aY:∀(j:J) (w:World) (jl:List Nat) (cv:Value),aZ j w jl (ev ts y) cv->Src P j w l.size cv aT) (B:k=l.size\/rows=[])
  (K:h tk=some (.tok l.size m E)) (hm:m=rows.length) (a0:(rows.length+aT.length)*l.bytes<=cF) (hlen:rows.length+aT.length<=cF) (a1:∀T,E=some T->T=e:=by intro T h; cases h) :
  aq P (mk dst (.call { callee:=.builtin .append,args:=#[x,y],argTypes:=#[t,u] }) ty pos aC g) ts ls h { rh:=true,wh:=true }
   (.a (.d (.slice l.size (some tk) (nl&&aT.isEmpty) (rows++aT)))) ls (h.set tk (some (.tok l.size (rows.length+aT.length) E))):=by
 refine aq.of_run fun L H _ hH j w jl a hl M=>?_;have a2:=hH rfl;subst a2 hm;have h1:aA j w (.slice k (some tk) nl rows) (a.eval x):=by have:=M x (by simp [Op.operands,Call.operands]); rw [hx] at this; exact this
 obtain⟨ay,⟨news,S,U⟩,a3⟩:=aY j w jl (a.eval y) (M y (by simp [Op.operands,Call.operands]));obtain⟨bv,bw,W,_,I,a4,_,az⟩:=fS aR;rw [aW] at az;obtain⟨zv,a5,a6⟩:=nF az;have a7:zv.cells.size=l.size:=by have:=(a6 j w).cells.length; rw [aX] at this; simpa using this.symm
 obtain⟨du,hu,X⟩:=E3 aS aV;have ht:=kD aQ hk;obtain⟨ah,cap,Y,bx,bz,bA,aB,a8,a9⟩:=kC (jl:=jl) h1;have ai:∀r∈rows,r.length=l.size:=by
  rcases B with e|e
  ·rw [<- e]; exact a8
  ·rw [e]; simp
 have Z:∀r∈rows++aT,r.length=l.size:=fun r hr=>(List.mem_append.1 hr).elim (ai r) (ay r);have aa:=a3 w;have a_:=(iJ ay).1;have aj:=(iJ ai).1;have ab:news.length=aT.length*l.size:=by rw [<- S.length,a_]
 obtain⟨aD,dP,aE,hblk,_⟩:=hl.1.obj tk _ K;have ak:∀(v:Value) (w':World),(Builtin.append_ #[t,u] ty #[a.eval x,a.eval y]).run P w=.ok v w' ->
   (execOp a.eval (mk dst (.call { callee:=.builtin .append,args:=#[x,y],argTypes:=#[t,u] }) ty pos aC g)).run P w=.ok (.value v) w':=fun v w' hr=>by
  simp [execOp,resolve,invoke,builtin,hr]
 have p:(rows++aT).length=rows.length+aT.length:=by simp
 by_cases al:aT=[]
 ·-- nothing is appended
  subst al;have a':news=[]:=List.eq_nil_of_length_eq_zero (by simpa using ab);subst a';have C:(Builtin.append_ #[t,u] ty #[a.eval x,a.eval y]).run P w=.ok (a.eval x) w:=by
   rw [Y];cases ah with
   | none =>
    obtain⟨aF,ba⟩:=aB rfl;subst aF ba;exact E0 ht hu X W (by simpa using aa) (by rw [I]; simpa using U w (fun _ _ _=>rfl))
   | some am =>
    have:=tC (P:=P) (ty:=ty) (sCap:=cap) (sLen:=rows.length) (m:=0) (a:=am) (news:=[]) (w':=w) ht hu X W (by simpa using aa) (by rw [I]; simpa using U w (fun _ _ _=>rfl)) (by omega) (by simp [storeCells])
    simpa using this
  refine⟨_,w,a.eval x,j,jl,ak _ _ C,.inl rfl, ?_, ?_,Ext.refl _, ?_⟩
  ·have bb:rows≠[]->k=l.size:=fun ad=>B.resolve_right ad;simp only [List.append_nil,List.isEmpty_nil,Bool.and_true];show aA j w _ _;by_cases ad:rows=[]
   ·subst ad;have key:∀ao,aA j w (.slice k (some tk) nl []) ao->aA j w (.slice l.size (some tk) nl []) ao:=by
     intro ao hh;cases hh with
     | eU _ _ ht=>exact .eU _ _ ht
     | slice _ _ _ a cap f hk hn hc bJ hr ht=>exact .slice _ _ [] a cap f (by simp) hn hc bJ hr ht
    exact key _ h1
   ·rw [<- bb ad]; exact h1
  ·simp only [List.length_nil,Nat.add_zero,cond_true];rw [ag.nB H tk _ K]; exact hl
  ·simp only [List.length_nil,Nat.add_zero,cond_true];rw [ag.nB H tk _ K]; exact bC.refl _ _ _
 ·have bB:0<aT.length:=List.length_pos_iff.2 al;have bc:(nl&&aT.isEmpty)=false:=by cases aT with|nil=>exact absurd rfl al|cons _ _=>simp
  rw [bc];by_cases N:rows.length+aT.length<=cap
  ·-- in place
   cases ah with
   | none=>obtain⟨aF,_⟩:=aB rfl; omega
   | some am =>
    obtain⟨bd,f,bJ,be⟩:=a9 am rfl;obtain⟨_,bf⟩:=bd tk rfl;obtain⟨_,bg⟩:=bf _ aE;rcases bg rfl with ⟨_,hc⟩|⟨b,ap,bi⟩
    ·omega
    ·subst bi;dsimp only at ap;obtain⟨cs,ce,bj,ar,bk,bD,bl⟩:=hblk b cap ap;have aG:w.heap[b]?=some (.cells cs.toList.toArray ce (0,0)):=by simpa using bj
     obtain⟨w',bm,q⟩:=vi (an:=an) (P:=P) (off:=rows.length*l.size) news 0 cs.toList w aG (by
      rw [ab]; simp only [Array.length_toList,ar]; rw [Nat.add_zero,<- Nat.add_mul]; exact Nat.mul_le_mul_right _ N) (yR S)
     rw [Nat.add_zero] at q;have C:(Builtin.append_ #[t,u] ty #[a.eval x,a.eval y]).run P w=.ok (.slice (some ⟨b,0,none⟩) (rows.length+aT.length) cap) w':=by
      rw [Y];exact tC ht hu X W aa (by rw [I]; exact U w fun _ _ _=>rfl) N (by rw [add_plain,I,Nat.zero_add]; exact bm)
     have bn:bG j tk (.tok l.size rows.length E)=some b:=by simp [bG,aE,ap]
     have ae:∀o,w'.cell? ⟨b,o,none⟩=(cW cs.toList (rows.length*l.size) news)[o]?:=fun o=>by rw [cell_of_row w' b o _ ce (0,0) q.here]; simp
     have aH:∀o,w.cell? ⟨b,o,none⟩=cs.toList[o]?:=fun o=>by rw [cell_of_row w b o _ ce (0,0) aG]; simp
     obtain⟨au,O⟩:=hl.grow (w':=w') (m':=rows.length+aT.length) K (by omega) (b:=b) (cap:=cap) q.here (by simp [qL,ar]) N (fun x hx _=>q.other x hx)
      (by rw [q.size]; exact Nat.le_refl _) (by rw [q.size]; omega) (.inr ⟨bn,fun o M=>by rw [ae,aH,tB _ _ _ _ (by rw [bk] at M; exact M)]⟩) q.os q.tape q.output bl
     refine⟨_,w',_,_,jl,ak _ _ C,.inl rfl, ?_,au,Ext.refl _,O⟩;have hle:=O.toLe;have:=qQ (j:=j.cD tk ⟨some (b,cap),rows.length+aT.length⟩ b ((rows.length+aT.length)*l.size)) (w:=w') (k:=l.size) (tok:=some tk) (rows:=rows++aT) (b:=b) (o:=0) (cap:=cap) Z
      (by rw [p]; exact hlen) (by rw [p]; exact N) (fun i x hx=>?_) (fun bo Q=>?_)
     ·rw [p] at this; exact this
     ·have av:i<(rows++aT).flatten.length:=(List.getElem?_eq_some_iff.1 hx).1;rw [(iJ Z).1,p] at av;refine⟨by simp only [J.cD,if_true]; omega, ?_⟩;rw [Nat.zero_add,ae]
      revert i x hx
      have:=E2 (R:=fun i x=>∃v,(cW cs.toList (rows.length*l.size) news)[i]?=some v/\aA (j.cD tk ⟨some (b,cap),rows.length+aT.length⟩ b ((rows.length+aT.length)*l.size)) w' x v) aj (aT:=aT)
       (fun i x hx=>by
        have hi:=(List.getElem?_eq_some_iff.1 hx).1;rw [tB _ _ _ _ (by omega)];have aI:=(bJ.2 i hi).2;rw [Nat.zero_add,aH] at aI;refine⟨f i,aI, ?_⟩;have aK:=be i hi;rw [(List.getElem?_eq_some_iff.1 hx).2] at aK;exact aK.mono hle)
       (fun i x hx=>by
        obtain⟨v,hv,hr⟩:=S.get hx;exact⟨v,vp _ _ _ _ _ hv (by rw [ab]; simp only [Array.length_toList,ar]; rw [<- Nat.add_mul]; exact Nat.mul_le_mul_right _ N),hr.mono hle⟩)
      exact fun i x hx _=>this i x hx
     ·simp only [Option.some.injEq] at Q;subst Q;refine⟨Nat.lt_of_lt_of_le aD hle.next,fun bp B=>?_⟩;simp only [J.cD,if_true,Option.some.injEq] at B;subst B;exact⟨by rw [p]; exact Nat.le_refl _,fun _=>.inr ⟨b,rfl,rfl⟩⟩
  ·-- a new array
   obtain⟨olds,aM,bq⟩:=y5 (P:=P) h1 ai;have br:olds.length=rows.length*l.size:=by rw [<- aM.length,aj]
   have aN:∀b o,o<j.F b->w.drew.cell? ⟨b,o,none⟩=w.cell? ⟨b,o,none⟩:=fun _ _ _=>rfl;have bE:cF=140737488355328:=rfl;have C:=yZ (P:=P) (ty:=ty) (w:=w) (base:=ah) (sLen:=rows.length) (sCap:=cap) (m:=aT.length) (x:=a.eval y) (olds:=olds) (news:=news) ht hu X W a5 aa
    (by rw [I,<- Y]; exact bq w.drew aN) (by rw [I]; exact U w.drew aN) (by omega) (by omega) (growslice_fits (by omega) (by rw [a4]; exact a0))
   rw [<- Y] at C;generalize bs:grownCap w (rows.length+aT.length) cap e=G at C;have aO:rows.length+aT.length<=G:=by rw [<- bs]; exact grownCap_ge _ _ _ _
   generalize aw:olds++news++(Builtin.zeroCells zv.cells (G-(rows.length+aT.length))).toList=s at C;have bt:s.length=G*l.size:=by
    rw [<- aw];simp only [List.length_append,br,ab,Array.length_toList,size_zeroCells,a7,<- Nat.add_mul]
    congr 1; omega
   have aP:=heap_alloc_new w.drew (.cells s.toArray e);have ae:∀o,(w.drew.alloc (.cells s.toArray e)).cell? ⟨w.heap.size,o,none⟩=s[o]?:=fun o=>by
    rw [cell_of_row _ w.heap.size o s.toArray e (0,0) aP]; simp
   obtain⟨au,O⟩:=hl.drew.grow (w':=w.drew.alloc (.cells s.toArray e)) (m':=rows.length+aT.length) K (by omega) (b:=w.heap.size) (cap:=G) aP (by simpa using bt) aO
    (fun x hx bh=>pg bh) (by simp) (by simp) (.inl (Nat.le_refl _)) rfl rfl fG.rfl (fun T h=>(a1 T h).symm)
   refine⟨_,_,_,_,jl,ak _ _ C,.inl rfl, ?_,au,Ext.refl _,(bC.drew j w _).trans O⟩;have hle:=((bC.drew j w (Own j H jl)).trans O).toLe;have:=qQ (j:=j.cD tk ⟨some (w.heap.size,G),rows.length+aT.length⟩ w.heap.size ((rows.length+aT.length)*l.size)) (w:=w.drew.alloc (.cells s.toArray e)) (k:=l.size) (tok:=some tk) (rows:=rows++aT) (b:=w.heap.size)
    (o:=0) (cap:=G) Z (by rw [p]; exact hlen) (by rw [p]; exact aO) (fun i x hx=>?_) (fun bo Q=>?_)
   ·rw [p] at this; exact this
   ·have av:i<(rows++aT).flatten.length:=(List.getElem?_eq_some_iff.1 hx).1;rw [(iJ Z).1,p] at av;refine⟨by simp only [J.cD,if_true]; omega, ?_⟩;rw [Nat.zero_add,ae]
    revert i x hx
    have:=E2 (R:=fun i x=>∃v,s[i]?=some v/\aA (j.cD tk ⟨some (w.heap.size,G),rows.length+aT.length⟩ w.heap.size ((rows.length+aT.length)*l.size)) (w.drew.alloc (.cells s.toArray e)) x v) aj (aT:=aT)
     (fun i x hx=>by
      obtain⟨v,hv,hr⟩:=aM.get hx;refine⟨v, ?_,hr.mono hle⟩;have hi:=(List.getElem?_eq_some_iff.1 hv).1;rw [<- aw,List.append_assoc,List.getElem?_append_left hi]; exact hv)
     (fun i x hx=>by
      obtain⟨v,hv,hr⟩:=S.get hx;refine⟨v, ?_,hr.mono hle⟩;have hi:=(List.getElem?_eq_some_iff.1 hv).1;rw [<- aw,List.append_assoc,List.getElem?_append_right (by omega),show rows.length*l.size+i-olds.length=i by omega,List.getElem?_append_left hi]; exact hv)
    exact fun i x hx _=>this i x hx
   ·simp only [Option.some.injEq] at Q;subst Q;refine⟨Nat.lt_of_lt_of_le aD hle.next,fun bp B=>?_⟩;simp only [J.cD,if_true,Option.some.injEq] at B;subst B;exact⟨by rw [p]; exact Nat.le_refl _,fun _=>.inr ⟨w.heap.size,rfl,rfl⟩⟩
theorem aq.append {t u e:TypeId}{i f b:TI}{x y:Operand}{tk k k' m:Nat}{tok':Option Nat}{nl l:Bool}{rows aT:List (List D)}{z:A}(p:aL P t=some i) (hk:i.k=.slice e) (q:aL P e=some b) (s:aL P u=some f) (v:(∃e,f.k=.slice e)\/f.k=.str)
  (B:b.zero=some z) (C:(cA z).length=b.size) (E:b.size≠0)
  (hx:ev ts x=.a (.d (.slice k (some tk) nl rows))) (F:ev ts y=.a (.d (.slice k' tok' l aT))) (G:k=b.size\/rows=[]) (H:k'=b.size\/aT=[])
  (I:h tk=some (.tok b.size m)) (hm:m=rows.length) (J:(rows.length+aT.length)*b.bytes<=cF) (hlen:rows.length+aT.length<=cF) :
  aq P (mk dst (.call { callee:=.builtin .append,args:=#[x,y],argTypes:=#[t,u] }) ty pos aC g) ts ls h { rh:=true,wh:=true }
   (.a (.d (.slice b.size (some tk) (nl&&aT.isEmpty) (rows++aT)))) ls (h.set tk (some (.tok b.size (rows.length+aT.length)))) :=
 aq.vq p hk q s v B C E hx (fun j w jl cv hv=>by
  have o:aA j w (.slice k' tok' l aT) cv:=by rw [F] at hv; exact hv
  refine Src.slice o fun r hr=>?_;obtain⟨_,_,_,_,_,_,_,hh,_⟩:=kC (jl:=jl) o;rcases H with e|e
  ·rw [<- e]; exact hh r hr
  ·rw [e] at hr; cases hr) G I hm J hlen
theorem aq.MB {t u e:TypeId}{i l f:TI}{x y:Operand}{tk k m:Nat}{E:Option TypeId}{nl:Bool}{rows:List (List D)}{s:List UInt8}{z:A}(q:aL P t=some i) (hk:i.k=.slice e) (v:aL P e=some f) (B:aL P u=some l) (C:l.k=.str)
  (F:f.zero=some z) (G:(cA z).length=f.size) (o:f.size=1)
  (hx:ev ts x=.a (.d (.slice k (some tk) nl rows))) (H:ev ts y=.a (.d (.str s))) (I:k=f.size\/rows=[])
  (J:h tk=some (.tok f.size m E)) (hm:m=rows.length) (K:(rows.length+(jF s).length)*f.bytes<=cF) (hlen:rows.length+(jF s).length<=cF) (L:∀T,E=some T->T=e:=by intro T h; cases h) :
  aq P (mk dst (.call { callee:=.builtin .append,args:=#[x,y],argTypes:=#[t,u] }) ty pos aC g) ts ls h { rh:=true,wh:=true }
   (.a (.d (.slice f.size (some tk) (nl&&(jF s).isEmpty) (rows++jF s)))) ls (h.set tk (some (.tok f.size (rows.length+(jF s).length) E))) :=
 aq.vq q hk v B (.inr C) F G (by omega) hx (fun j w jl cv hv=>by
  have M:aA j w (.str s) cv:=by rw [H] at hv; exact hv
  cases M with
  | str _ O =>
   refine⟨fun r hr=>?_,⟨s.map fun b=>Value.int .u8 (b.toNat:Int), ?_,fun w' _=>?_⟩,fun w'=>?_⟩
   ·obtain⟨b,_,rfl⟩:=List.mem_map.1 hr;rw [o]; rfl
   ·rw [MA]; exact Mz j w s
   ·have p:(⟨s.toArray⟩:ByteArray).size=s.length:=by show s.toArray.size=_; simp
    have N:(⟨s.toArray⟩:ByteArray).extract 0 (jF s).length=⟨s.toArray⟩:=by
     apply ByteArray.ext
     simp [jF]
    simp only [o,Builtin.firstCells,N,Sem.run_pure];simp
   ·have p:(⟨s.toArray⟩:ByteArray).size=s.length:=by show s.toArray.size=_; simp
    simp [Builtin.lenOf,jF,p]) I J hm K hlen L
end
end Go.Ab
/-
 Struct and slice literals,maps,parts of slices,comparisons of structs,tokens.
-/
namespace Go.Ab
open Go Go.RowKit
variable {an:bf}
theorem y7 (off:Nat):∀(l:List Value) (k:Nat) (cs:Array Value),((l.zipIdx k).foldl (fun cs (p:Value×Nat)=>cs.setIfInBounds (off+p.2) p.1) cs).toList=cW cs.toList (off+k) l
 | [],_,_=>rfl
 | v::r,k,cs=>by
  simp only [List.zipIdx_cons,List.foldl_cons];rw [y7 off r (k+1)];simp [cW,Nat.add_assoc]
def pF (ts:Ts):List (Nat×Operand)->Option (List (Nat×A))
 | []=>some []
 | (i,x)::r=>match vm ts x,pF ts r with
  | some y,some b=>some ((i,y)::b)
  | _,_=>none
theorem y8 {j:J}{w:World}{jl:List Nat}{ts:Ts}{act:Act}:∀(l:List (Nat×Operand)) (xs:List (Nat×A)),pF ts l=some xs->(∀x,x∈l.map (·.2)->aZ j w jl (ev ts x) (act.eval x)) ->
  aR (fun p q=>p.1=q.1/\cT j w p.2 q.2) xs (l.map fun p=>(p.1,act.eval p.2))
 | [],xs,h,_=>by simp [pF] at h; subst h; exact .nil
 | (i,x)::r,xs,h,f=>by
  simp only [pF] at h
  split at h
  ·rename_i y g h1 k
   simp at h; subst h;refine .cons ⟨rfl, ?_⟩ (y8 r g k fun z b=>f z (by simp at b ⊢; exact .inr b));have:=f x (by simp);unfold vm at h1
   split at h1
   ·rename_i z b; simp at h1; subst h1; rw [b] at this; exact this
   ·simp at h1
  ·simp at h
def tD (T:List TI) (fs:List (Nat×TypeId)):List D->List (Nat×A)->Option (List D)
 | b,[]=>some b
 | b,(i,x)::r=>match fs[i]? with
  | some (o,g)=>match T[g]? with
   | some f=>match Nat.beq (cA x).length f.size&&Nat.ble (o+f.size) b.length with
    | true=>tD T fs (cW b o (cA x)) r
    | false=>none
   | none=>none
  | none=>none
section
variable {P:Program}{T:List TI}{ts:Ts}{ls:List (List D)}{h:ag}{dst:Option Tmp}{ty:TypeId}{pos:String}{aC:Array Edge}{g:Option (Nat×Bool)}
theorem E4 {P:Program}{T:List TI}(eP:kA P T):∀(fs:List Field) (w:World),(∀f∈fs,∃b,T[f.type]?=some b) ->
  ∃ps:List (Nat×Nat),(fs.mapM fun(f:Field)=>Prod.mk f.offset <$> sizeOf f.type).run P w=.ok ps w/\∀(i:Nat) (f:Field),fs[i]?=some f->∀b:TI,T[f.type]?=some b->ps[i]?=some (f.offset,b.size)
 | [],w,_=>⟨[],by simp,by simp⟩
 | f::fs,w,j=>by
  obtain⟨b,k⟩:=j f (by simp);obtain⟨ps,h1,l⟩:=E4 eP fs w fun f m=>j f (by simp [m]);refine⟨(f.offset,b.size)::ps, ?_,fun i o hi p g=>?_⟩
  ·rw [List.mapM_cons,Sem.run_bind,Sem.run_map,kz (eP _ _ k)];simp only [Result.andThen,Sem.run_bind,h1,Sem.run_pure]
  ·cases i with
   | zero=>simp at hi; subst hi; rw [k] at g; simp at g; subst g; rfl
   | succ i=>simp at hi ⊢; exact l i o hi p g
theorem E5 {j:J}{w:World}{T:List TI}{fs:List (Nat×TypeId)}{place:Nat->Option (Nat×Nat)}(s:∀i o l g,fs[i]?=some (o,l)->T[l]?=some g->place i=some (o,g.size)) :
  ∀(parts:List (Nat×A)) (t:List (Nat×Value)) (f k:List D) (cs:Array Value),tD T fs f parts=some k->aR (fun p q=>p.1=q.1/\cT j w p.2 q.2) parts t->aR (aA j w) f cs.toList ->
  ∃m,Instr.fill place cs t=some m/\aR (aA j w) k m.toList
 | _,_,f,k,cs,b,.nil,r=>by simp [tD] at b; subst b; exact⟨cs,rfl,r⟩
 | (i,x)::ps,(I,v)::y,f,k,cs,b,.cons ⟨e,hr⟩ ht,r=>by
  dsimp only at e hr;subst e;simp only [tD] at b
  split at b
  ·rename_i o l z
   split at b
   ·rename_i g B
    split at b
    ·rename_i hc
     simp only [Bool.and_eq_true] at hc;have hl:=Nat.eq_of_beq_eq_true hc.1;have hle:=Nat.le_of_ble_eq_true hc.2;have C:=s i o l g z B;have u:=hr.cells;have E:v.cells.size=g.size:=by rw [<- hl,u.length]; simp
     have F:cs.size=f.length:=by rw [r.length]; simp
     have G:aR (aA j w) (cW f o (cA x)) (v.cells.zipIdx.foldl (fun cs (p:Value×Nat)=>cs.setIfInBounds (o+p.2) p.1) cs).toList:=by
      rw [<- Array.foldl_toList];have:=y7 o v.cells.toList 0 cs;simp only [Array.toList_zipIdx];rw [this,Nat.add_zero];exact r.cW o u
     obtain⟨m,h1,H⟩:=E5 s ps y _ k _ b ht G;refine⟨m, ?_,H⟩;rw [Instr.fill,C];dsimp only;rw [if_neg (by simp [E,F]; omega)];exact h1
    ·simp at b
   ·simp at b
  ·simp at b
theorem aq.build (eP:kA P T){t:TypeId}{b:TI}{fs:List (Nat×TypeId)}{l m:List D}{parts:Array (Nat×Operand)}{ps:List (Nat×A)}(u:T[t]?=some b) (hk:b.k=.struct fs) (v:b.zero=some (.agg l))
  (y:fs.all (fun f=>(T[f.2]?).isSome)=true) (z:pF ts parts.toList=some ps) (B:tD T fs l ps=some m):aq P (mk dst (.build t parts) ty pos aC g) ts ls h {} (.a (.agg m)) ls h :=
 aq.dN fun j w jl a C=>by
  have hr:=y8 (j:=j) (w:=w) (jl:=jl) (act:=a) parts.toList ps z fun x hx=>C x (by simp [Op.operands] at hx ⊢; exact hx);have r:=eP t b u;obtain⟨inf,d,h1,_,_,_,_,s⟩:=fS r;rw [v] at s;obtain⟨zv,E,F⟩:=nF s;obtain⟨gs,hu,he⟩:=EN r hk;obtain⟨pl,G,H⟩:=E4 (P:=P) eP gs.toList w fun f I=>by
   have:=List.all_eq_true.1 y (f.offset,f.type) (by rw [<- he]; exact List.mem_map.2 ⟨f,I,rfl⟩);exact Option.isSome_iff_exists.1 this
  obtain⟨q,J,K⟩:=E5 (j:=j) (w:=w) (T:=T) (fs:=fs) (place:=(pl.toArray[·]?)) (fun i o O L hi M=>by
   rw [<- he,List.getElem?_map] at hi;cases e:gs.toList[i]? with
   | none=>rw [e] at hi; simp at hi
   | some f=>rw [e] at hi; simp at hi; obtain⟨rfl,rfl⟩:=hi; simpa using H i f e L M) ps _ l m zv.cells B hr (F j w).cells
  refine⟨.agg q, ?_,⟨q.toList,by simp,K⟩⟩;have N:(Instr.build t (parts.map fun(i,x)=>(i,a.eval x))).run P w=.ok (.agg q) w:=by
   simp only [Instr.build,Sem.run_bind,zeroValue,typeInfo,run_program,h1,E,Result.andThen,Sem.run_pure,ff hu];rw [Array.mapM_eq_mapM_toList,Sem.run_map];rw [show (List.mapM _ gs.toList:Sem (List (Nat×Nat)))=List.mapM (fun f=>Prod.mk f.offset <$> sizeOf f.type) gs.toList from by congr 1];rw [G];simp only [Result.andThen];have e:(Array.map (fun(x:Nat×Operand)=>(x.1,a.eval x.2)) parts).toList=parts.toList.map fun p=>(p.1,a.eval p.2):=by simp
   rw [e,J];simp
  simp only [execOp,Sem.run_bind,N,Result.andThen,Sem.run_pure]
def qR (n:Nat):List (List D)->List (Nat×A)->Option (List (List D))
 | rows,[]=>some rows
 | rows,(i,x)::r=>match Nat.beq (cA x).length n&&Nat.blt i rows.length with
  | true=>qR n (rows.set i (cA x)) r
  | false=>none
theorem E6 {n:Nat}:∀{rows:List (List D)}(_:∀r∈rows,r.length=n){i:Nat}(_:i<rows.length){r:List D}(_:r.length=n),(rows.set i r).flatten=cW rows.flatten (i*n) r
 | [],_,i,hi,_,_=>by simp at hi
 | b::rs,hk,i,hi,r,hr=>by
  have h0:b.length=n:=hk b (by simp);cases i with
  | zero =>
   simp only [List.set_cons_zero,List.flatten_cons,Nat.zero_mul]
   apply List.ext_getElem?
   intro k;by_cases g:k<n
   ·rw [List.getElem?_append_left (by omega)];have:=vp (b++rs.flatten) 0 r k (r[k]'(by omega)) (List.getElem?_eq_getElem (by omega)) (by simp; omega);rw [Nat.zero_add] at this;rw [this,List.getElem?_eq_getElem (by omega)]
   ·rw [List.getElem?_append_right (by omega)];have:∀(l:List D) (m:Nat) (s:List D) (k:Nat),m+s.length<=k->(cW l m s)[k]?=l[k]?:=by
     intro l m s;induction s generalizing l m with
     | nil=>intros; rfl
     | cons v s f=>intro k hk; simp at hk; rw [cW,f _ _ k (by omega),List.getElem?_set_ne (by omega)]
    rw [this _ _ _ _ (by omega),List.getElem?_append_right (by omega),h0,hr]
  | succ i =>
   simp only [List.set_cons_succ,List.flatten_cons];rw [E6 (fun x hx=>hk x (by simp [hx])) (by simpa using hi) hr];have:∀(p l:List D) (m:Nat) (s:List D),cW (p++l) (p.length+m) s=p++cW l m s:=by
    intro p l m s;induction s generalizing l m with
    | nil=>rfl
    | cons v s f=>rw [cW,cW,show (p++l).set (p.length+m) v=p++l.set m v by rw [List.set_append_right _ _ (by omega)]; simp,Nat.add_assoc,f]
   rw [<- this,h0,show (i+1)*n=n+i*n by rw [Nat.add_mul]; omega]
theorem E7 {j:J}{w:World}{n:Nat}:∀(parts:List (Nat×A)) (k:List (Nat×Value)) (rows aT:List (List D)) (cs:Array Value),qR n rows parts=some aT->(∀r∈rows,r.length=n) ->
  aR (fun p q=>p.1=q.1/\cT j w p.2 q.2) parts k->aR (aA j w) rows.flatten cs.toList ->
  ∃f,Instr.fill (fun i=>some (i*n,n)) cs k=some f/\aR (aA j w) aT.flatten f.toList/\aT.length=rows.length/\∀r∈aT,r.length=n
 | _,_,rows,aT,cs,b,hk,.nil,g=>by simp [qR] at b; subst b; exact⟨cs,rfl,g,rfl,hk⟩
 | (i,x)::ps,(C,v)::m,rows,aT,cs,b,hk,.cons ⟨e,hr⟩ ht,g=>by
  dsimp only at e hr;subst e;simp only [qR] at b
  split at b
  ·rename_i hc
   simp only [Bool.and_eq_true] at hc;have hl:=Nat.eq_of_beq_eq_true hc.1;have bh:i<rows.length:=by simpa [Nat.blt_eq] using hc.2
   have l:=hr.cells;have o:v.cells.size=n:=by rw [<- hl,l.length]; simp
   have s:cs.size=rows.length*n:=by rw [<- (iJ hk).1,g.length]; simp
   have hle:i*n+n<=rows.length*n:=by rw [<- Nat.succ_mul]; exact Nat.mul_le_mul_right n bh
   have t:aR (aA j w) (rows.set i (cA x)).flatten (v.cells.zipIdx.foldl (fun cs (p:Value×Nat)=>cs.setIfInBounds (i*n+p.2) p.1) cs).toList:=by
    rw [E6 hk bh hl,<- Array.foldl_toList];have:=y7 (i*n) v.cells.toList 0 cs;simp only [Array.toList_zipIdx];rw [this,Nat.add_zero];exact g.cW _ l
   have u:∀r∈rows.set i (cA x),r.length=n:=fun r hr=>by
    rcases List.mem_or_eq_of_mem_set hr with h|h
    ·exact hk r h
    ·rw [h]; exact hl
   obtain⟨f,h1,y,z,B⟩:=E7 ps m _ aT _ b u ht t;refine⟨f, ?_,y,by rw [z]; simp,B⟩;rw [Instr.fill];dsimp only;rw [if_neg (by simp [o,s]; omega)];exact h1
  ·simp at b
theorem MC {α:Type} [Inhabited α] (z:Array α) (len:Nat) (f:z.size≠0):((Array.range (len*z.size)).map (fun i=>z[i % z.size]!)).toList=(List.replicate len z.toList).flatten:=by
 induction len with
 | zero=>simp
 | succ len b =>
  have h1:((Array.range ((len+1)*z.size)).map (fun i=>z[i % z.size]!)).toList=((Array.range (len*z.size)).map (fun i=>z[i % z.size]!)).toList++z.toList:=by
   simp only [Array.toList_map,Array.toList_range];rw [Nat.add_mul,Nat.one_mul,List.range_add,List.map_append,List.map_map]
   congr 1
   apply List.ext_getElem?
   intro k;by_cases hk:k<z.size
   ·simp only [List.getElem?_map,List.getElem?_range hk,Option.map_some,Function.comp];have e:(len*z.size+k) % z.size=k:=by rw [Nat.mul_comm,Nat.mul_add_mod,Nat.mod_eq_of_lt hk]
    rw [e]; simp [hk]
   ·rw [List.getElem?_eq_none (by simp; omega),List.getElem?_eq_none (by simp; omega)]
  rw [h1,b];rw [List.replicate_succ',List.flatten_append]; simp
end
end Go.Ab
/-
 Slice literals,maps,parts of slices,comparisons of structs,tokens.
-/
namespace Go.Ab
open Go Go.RowKit
variable {an:bf}
variable {gv:eN}
section
variable {P:Program}{T:List TI}{ts:Ts}{ls:List (List D)}{h:ag}{dst:Option Tmp}{ty:TypeId}{pos:String}{aC:Array Edge}{g:Option (Nat×Bool)}
theorem aq.pG {t e:TypeId}{u l:TI}{z:A}{len:Nat}{parts:Array (Nat×Operand)}{ps:List (Nat×A)}{rows:List (List D)}(y:aL P t=some u) (hk:u.k=.slice e) (s:aL P e=some l)
  (O:l.zero=some z) (Q:Nat.beq (cA z).length l.size=true) (B:Nat.beq l.size 0=false) (hlen:Nat.ble (len*l.size) 16777216=true) (R:pF ts parts.toList=some ps) (hr:qR l.size (List.replicate len (cA z)) ps=some rows) :
  aq P (mk dst (.buildSlice t len parts) ty pos aC g) ts ls h {} (.full l.size rows) ls h:=by
 refine aq.of_run fun L H _ _ j w jl a hl C=>?_;have S:=y8 (j:=j) (w:=w) (jl:=jl) (act:=a) parts.toList ps R fun x hx=>C x (by simp [Op.operands] at hx ⊢; exact hx);obtain⟨al,am,U,_,an,ao,_,E⟩:=fS s;rw [O] at E;obtain⟨zv,W,F⟩:=nF E;have G:(cA z).length=l.size:=Nat.eq_of_beq_eq_true Q;have X:l.size≠0:=fun e=>by rw [e] at B; simp at B
 have Y:len*l.size<=16777216:=Nat.le_of_ble_eq_true hlen;have Z:zv.cells.size=l.size:=by have:=(F j w).cells.length; rw [G] at this; simpa using this.symm
 have hzero:∀pre:Array Value,pre=(Array.range (len*l.size)).map (fun i=>zv.cells[i % zv.cells.size]!)->aR (aA j w) (List.replicate len (cA z)).flatten pre.toList:=by
  intro pre I;rw [I,<- Z,MC _ _ (by omega)];have:=(F j w).cells;clear hr I hlen Y C;induction len with
  | zero=>exact .nil
  | succ n aa=>simp only [List.replicate_succ,List.flatten_cons]; exact this.append aa
 obtain⟨q,h1,ab,m,K⟩:=E7 (j:=j) (w:=w) ps _ _ rows _ hr (fun r hr=>by rw [List.eq_of_mem_replicate hr]; exact G) S (hzero _ rfl);simp only [List.length_replicate] at m;have ad:(Instr.buildSlice t len (parts.map fun(i,x)=>(i,a.eval x))).run P w=.ok (.slice (some ⟨w.heap.size,0,none⟩) len len) (w.alloc (.cells q e)):=by
  have ae:¬(16777216<len*l.size):=by omega
  have af:(Array.map (fun(x:Nat×Operand)=>(x.1,a.eval x.2)) parts).toList=parts.toList.map fun p=>(p.1,a.eval p.2):=by simp
  rw [<- af] at h1;by_cases h0:len*l.size=0
  ·have ah:len=0:=by
    rcases Nat.mul_eq_zero.1 h0 with e|e
    ·exact e
    ·exact absurd e X
   subst ah;simp only [Nat.zero_mul] at h1;have M:∀f:Nat->Value,Array.map f (Array.range 0)=#[]:=fun f=>by apply Array.ext'; simp
   simp only [M] at h1;simp [Instr.buildSlice,ff (kD y hk),kz s,newRow,M];simp at h1;rw [h1];simp
  ·simp [Instr.buildSlice,ff (kD y hk),kz s,ae,h0,zeroValue,typeInfo,U,W,newRow];simp at h1;rw [h1];simp
 have ap:=iJ K;obtain⟨ai,N⟩:=hl.data (.cells q e) (rows.length*l.size);refine⟨_,_,.slice (some ⟨w.heap.size,0,none⟩) len len,j.eZ w.heap.size (rows.length*l.size),jl,by simp [execOp,ad],.inl rfl, ?_,ai,Ext.refl _,N⟩;have hm:=qQ (j:=j.eZ w.heap.size (rows.length*l.size)) (w:=w.alloc (.cells q e)) (k:=l.size) (tok:=none) (rows:=rows) (b:=w.heap.size) (o:=0) (cap:=len) K (by
  rw [m]; have:len*1<=len*l.size:=Nat.mul_le_mul_left _ (by omega);unfold cF; omega) (by omega) (fun i x hx=>?_) (fun ar aj=>by simp at aj)
 ·rw [m] at hm; rw [m]; exact⟨hm,⟨w.heap.size,0,none⟩,by rw [m]⟩
 ·have au:=(List.getElem?_eq_some_iff.1 hx).1;obtain⟨v,hv,ak⟩:=ab.get hx;refine⟨by simp only [J.eZ,if_true]; omega,v, ?_,ak.mono N.toLe⟩;rw [cell_of_row _ w.heap.size _ q e (0,0) (heap_alloc_new w _),Nat.zero_add]
  simpa using hv
theorem aq.E8 {o:Oper}{fx:Fx}{v b:V}{aH:List (List D)}{h':ag}(hc:aq P o ts ls h fx v aH h') (hv:∀j w jl cv,aZ j w jl v cv->aZ j w jl b cv):aq P o ts ls h fx b aH h':=by
 intro L H f hH j w jl a hl g K Q hk;exact hc L H f hH j w jl a hl g K Q fun u l k cv j' w' i ⟨m,p,q⟩ hr=>hk b l k cv j' w' i ⟨rfl,p,q⟩ (hv _ _ _ _ (m▸hr))
theorem aq.buildSlice {t e:TypeId}{f b:TI}{z:A}{len:Nat}{parts:Array (Nat×Operand)}{ps:List (Nat×A)}{rows:List (List D)}(i:aL P t=some f) (hk:f.k=.slice e) (j:aL P e=some b)
  (l:b.zero=some z) (m:Nat.beq (cA z).length b.size=true) (o:Nat.beq b.size 0=false) (hlen:Nat.ble (len*b.size) 16777216=true) (p:pF ts parts.toList=some ps) (hr:qR b.size (List.replicate len (cA z)) ps=some rows) :
  aq P (mk dst (.buildSlice t len parts) ty pos aC g) ts ls h {} (.a (.d (.slice b.size none false rows))) ls h :=
 (aq.pG i hk j l m o hlen p hr).E8 fun _ _ _ _ h=>h.1
theorem E9 {n:Nat}:∀{rows:List (List D)}(_:∀r∈rows,r.length=n) (k:Nat),(rows.take k).flatten=rows.flatten.take (k*n)
 | [],_,k=>by simp
 | r::rs,hk,0=>by simp
 | r::rs,hk,k+1=>by
  have hr:r.length=n:=hk r (by simp);rw [List.take_succ_cons,List.flatten_cons,E9 (fun x hx=>hk x (by simp [hx])),List.flatten_cons,show (k+1)*n=n+k*n by rw [Nat.add_mul]; omega];rw [show n+k*n=r.length+k*n by rw [hr],List.take_length_add_append]
theorem E_ {n:Nat}:∀{rows:List (List D)}(_:∀r∈rows,r.length=n) (k:Nat),(rows.drop k).flatten=rows.flatten.drop (k*n)
 | [],_,k=>by simp
 | r::rs,hk,0=>by simp
 | r::rs,hk,k+1=>by
  have hr:r.length=n:=hk r (by simp);rw [List.drop_succ_cons,E_ (fun x hx=>hk x (by simp [hx])),List.flatten_cons,show (k+1)*n=n+k*n by rw [Nat.add_mul]; omega];rw [show n+k*n=r.length+k*n by rw [hr],List.drop_length_add_append]
theorem MD {j:J}{w:World}{k:Nat}{rows:List (List D)}{b:Addr}{f:Nat->Value}{cap:Nat}(hk:∀r∈rows,r.length=k) (hn:rows.length<=cF) (hc:rows.length<=cap)
  (bJ:o9 j w b rows f) (hr:∀i (h:i<rows.flatten.length),aA j w rows.flatten[i] (f i)){l r:Nat}(hl:l<=r) (hh:r<=rows.length) :
  aA j w (.slice k none false ((rows.take r).drop l)) (.slice (some (if cap=l then b else b.add (l*k))) (r-l) (cap-l)):=by
 have hlen:((rows.take r).drop l).length=r-l:=by simp; omega
 have q:∀x∈(rows.take r).drop l,x.length=k:=fun x hx=>hk x (List.mem_of_mem_take (List.mem_of_mem_drop hx));have s:((rows.take r).drop l).flatten=(rows.flatten.take (r*k)).drop (l*k):=by
  rw [E_ (fun x hx=>hk x (List.mem_of_mem_take hx)),E9 hk]
 have v:r*k<=rows.flatten.length:=by rw [(iJ hk).1]; exact Nat.mul_le_mul_right k hh
 rw [<- hlen];by_cases g:cap=l
 ·rw [if_pos g];have m:(rows.take r).drop l=[]:=List.eq_nil_of_length_eq_zero (by rw [hlen]; omega);rw [m];exact aA.slice k none [] b (cap-l) f (by simp) (by simp) (by simp) ⟨.inl rfl,by simp⟩ (by simp) (fun t ht=>by simp at ht)
 ·by_cases o:rows=[]
  ·rw [if_neg g];have m:(rows.take r).drop l=[]:=by rw [o]; simp
   rw [m];exact aA.slice k none [] _ (cap-l) f (by simp) (by simp) (by simp) ⟨.inl rfl,by simp⟩ (by simp) (fun t ht=>by simp at ht)
  have u:b=⟨b.block,b.off,none⟩:=by have:=bJ.1.resolve_left o; cases b; simp at this; simp [this]
  rw [if_neg g,u,add_plain];refine qQ q (by rw [hlen]; omega) (by rw [hlen]; omega) (fun i x hx=>?_) (fun t ht=>by simp at ht);rw [s,List.getElem?_drop,List.getElem?_take] at hx
  split at hx
  ·rename_i bh
   have hi:=(List.getElem?_eq_some_iff.1 hx).1;have h1:=bJ.2 (l*k+i) hi;refine⟨by have:=h1.1; omega,f (l*k+i),by rw [Nat.add_assoc]; exact h1.2, ?_⟩;have p:=hr (l*k+i) hi;rw [(List.getElem?_eq_some_iff.1 hx).2] at p; exact p
  ·simp at hx
theorem Fa {P:Program}{t e:TypeId}{b f:TI}(g:aL P t=some b) (hk:b.k=.slice e) (i:aL P e=some f){a:Option Addr}{len cap:Nat}{lo hi:Option Value}{w:World}{l r:Nat}
  (hl:(match lo with|some v=>Instr.sliceBound v r .sliceB|none=>pure 0).run P w=.ok l w) (hh:(match hi with|some v=>Instr.sliceBound v cap .sliceAcap|none=>pure len).run P w=.ok r w) :
  (Instr.sliceAt t (.slice a len cap) lo hi none).run P w=.ok (.slice (if cap=l then a else a.map (·.add (l*f.size))) (r-l) (cap-l)) w:=by
 simp only [Instr.sliceAt,Instr.slice,Instr.sliceBounds,Sem.run_bind,ff (kD g hk),Result.andThen,Sem.run_pure,kz i];cases lo<;>cases hi<;>simp_all
theorem aq.part {t e:TypeId}{z B:TI}{x:Operand}{lo hi:Option Operand}{k:Nat}{tok:Option Nat}{rows:List (List D)}{l r:Nat}(C:aL P t=some z) (hk:z.k=.slice e) (E:aL P e=some B)
  (hx:ev ts x=.a (.d (.slice k tok false rows))) (F:k=B.size)
  (m:match lo with|none=>l=0|some o=>∃i n,ev ts o=.a (.d (.int i n))/\0<=n/\l=n.toNat) (p:match hi with|none=>r=rows.length|some o=>∃i n,ev ts o=.a (.d (.int i n))/\0<=n/\r=n.toNat)
  (G:l<=r) (H:r<=rows.length):aq P (mk dst (.slice t x lo hi none) ty pos aC g) ts ls h {} (.a (.d (.slice k none false ((rows.take r).drop l)))) ls h :=
 aq.dN fun j w jl act q=>by
  have h1:=q x (by simp [Op.operands]);rw [hx] at h1;obtain⟨b,cap,I,hn,hc,J,R,K,L⟩:=kC h1;cases b with
  | none=>simp at J
  | some b =>
   obtain⟨_,f,bJ,M⟩:=L b rfl;have N:(match lo.map act.eval with|some v=>Instr.sliceBound v r .sliceB|none=>pure 0).run P w=.ok l w:=by
    cases lo with
    | none=>simp at m ⊢; exact m.symm
    | some o =>
     obtain⟨i,n,s,u,y⟩:=m;have:=nH (P:=P) (cap:=r) s (q o (by simp [Op.operands])) u (by omega) .sliceB;simp only [Option.map_some]; rw [this,y]
   have O:(match hi.map act.eval with|some v=>Instr.sliceBound v cap .sliceAcap|none=>pure rows.length).run P w=.ok r w:=by
    cases hi with
    | none=>simp at p ⊢; exact p.symm
    | some o =>
     obtain⟨i,n,s,u,y⟩:=p;have:=nH (P:=P) (cap:=cap) s (q o (by simp [Op.operands])) u (by omega) .sliceAcap;simp only [Option.map_some]; rw [this,y]
   refine⟨_, ?_,MD K hn hc bJ M G H⟩;have:=Fa C hk E (a:=some b) (len:=rows.length) (cap:=cap) N O;simp only [execOp,Sem.run_bind,I,Option.map_none,this,Result.andThen,Sem.run_pure,F];by_cases Q:cap=l<;>simp [Q]
end
end Go.Ab
/-
 Maps with plain keys.
-/
namespace Go.Ab
open Go Go.RowKit
variable {an:bf}
def qS:D->D->Option Bool
 | .str s,.str t=>some (s==t)
 | .int k m,.int k' n=>if k=k' then some (decide (m=n)) else none
 | .bool a,.bool b=>some (a==b)
 | _,_=>none
def mj (key:D):List (D×A)->Option (Option A)
 | []=>some none
 | (k,v)::r=>match qS key k with
  | some true=>some (some v)
  | some false=>mj key r
  | none=>none
def pH (key:D) (v:A):List (D×A)->Option (List (D×A))
 | []=>some [(key,v)]
 | (k,u)::r=>match qS key k with
  | some true=>some ((key,v)::r)
  | some false=>(pH key v r).map ((k,u)::·)
  | none=>none
def g_:K->D->Bool
 | .str,.str _=>true
 | .int _,.int _ _=>true
 | .bool,.bool _=>true
 | _,_=>false
theorem bytes_beq (a b:List UInt8):((⟨a.toArray⟩:ByteArray)==⟨b.toArray⟩)=(a==b):=by
 rw [beq_toListBytes]; simp
theorem tE {j:J}{w:World}{d:TypeDesc}{key k:D}{g v:Value}{b:Bool}(f:g_ (fF d) key=true) (hk:aA j w key g) (hv:aA j w k v) (he:qS key k=some b):Instr.sameNow d g v=some b:=by
 unfold qS at he
 split at he
 ·cases hk; cases hv;simp only [Option.some.injEq] at he; subst he;cases d<;>simp [g_,fF] at f;simp only [Instr.sameNow,bytes_beq]
 ·cases hk; cases hv
  split at he
  ·rename_i e; subst e
   simp only [Option.some.injEq] at he; subst he;cases d<;>simp [g_,fF] at f;simp only [Instr.sameNow,if_true]; rfl
  ·simp at he
 ·cases hk; cases hv;simp only [Option.some.injEq] at he; subst he;cases d<;>simp [g_,fF] at f;simp only [Instr.sameNow]
 ·simp at he
theorem ME {j:J}{w:World}{d:TypeDesc}{key:D}{f:Value}(o:g_ (fF d) key=true) (hk:aA j w key f){es:List (D×A)}{g:List MapEntry}(h:aR (iZ j w) es g):∀(n:Nat) (r:Option A),mj key es=some r ->
  match r with
  | none=>Instr.findNow d f g n=some none
  | some v=>∃i cv,Instr.findNow d f g n=some (some (n+i,cv))/\cT j w v cv/\∃m,g[i]?=some m/\m.val=cv/\Instr.sameNow d f m.key=some true:=by
 induction h with
 | nil=>intro n r hr; simp [mj] at hr; subst hr; rfl
 | cons hh ht p =>
  rename_i e m l y
  intro n r hr;obtain⟨k,u⟩:=e;simp only [mj] at hr
  split at hr
  ·rename_i he
   simp at hr; subst hr;have b:=tE o hk hh.1 he;exact⟨0,m.val,by simp [Instr.findNow,b],hh.2,m,rfl,rfl,b⟩
  ·rename_i he
   have b:=tE o hk hh.1 he;have:=p (n+1) r hr;cases r with
   | none=>simp only [Instr.findNow,b]; exact this
   | some v =>
    obtain⟨i,cv,h1,q,m',s,t,x⟩:=this;exact⟨i+1,cv,by simp only [Instr.findNow,b]; rw [h1,show n+1+i=n+(i+1) by omega],q,m',by simpa using s,t,x⟩
  ·simp at hr
theorem MF {j:J}{w:World}{d:TypeDesc}{key:D}{b:Value}{v:A}{cv:Value}(q:g_ (fF d) key=true) (hk:aA j w key b) (hv:cT j w v cv){es:List (D×A)}{f:List MapEntry}(h:aR (iZ j w) es f):∀(n bA:Nat) (g:List (D×A)),pH key v es=some g ->
  (Instr.findNow d b f n=some none/\aR (iZ j w) g (f++[{ key:=b,val:=cv,born:=bA }])) \/
  (∃i u m,Instr.findNow d b f n=some (some (n+i,u))/\f[i]?=some m/\Instr.sameNow d b m.key=some true/\aR (iZ j w) g (f.set i { m with key:=b,val:=cv })):=by
 induction h with
 | nil=>intro n bA g he; simp [pH] at he; subst he; exact .inl ⟨rfl,.cons ⟨hk,hv⟩ .nil⟩
 | cons hh ht s =>
  rename_i e m l y
  intro n bA g he;obtain⟨k,u⟩:=e;simp only [pH] at he
  split at he
  ·rename_i hq
   simp at he; subst he;have o:=tE q hk hh.1 hq;exact .inr ⟨0,m.val,m,by simp [Instr.findNow,o],rfl,o,.cons ⟨hk,hv⟩ ht⟩
  ·rename_i hq
   have o:=tE q hk hh.1 hq;simp only [Option.map_eq_some_iff] at he;obtain⟨r,hr,rfl⟩:=he;rcases s (n+1) bA r hr with ⟨h1,p⟩|⟨i,u',m',h1,p,t,x⟩
   ·exact .inl ⟨by simp only [Instr.findNow,o]; exact h1,.cons hh p⟩
   ·exact .inr ⟨i+1,u',m',by simp only [Instr.findNow,o]; rw [h1,show n+1+i=n+(i+1) by omega],by simpa using p,t,.cons hh x⟩
  ·simp at he
theorem pI {P:Program}{t:TypeId}{f:TI}{k e:TypeId}(g:aL P t=some f) (hk:f.k=.map k e):P.underlying t=some (.map k e):=by
 obtain⟨i,d,h1,j,_,_,b,_⟩:=fS g;rw [hk] at b;cases d<;>simp [fF] at b;obtain⟨rfl,rfl⟩:=b; exact j
theorem tF {P:Program}{b:Bool}{n:Nat}{t:TypeId}{d:TypeDesc}{x:D}{v:Value}{j:J}{w0 w:World}(hu:P.underlying t=some d) (f:g_ (fF d) x=true) (hx:aA j w0 x v):(Instr.checkKey b (n+1) t v).run P w=.ok () w:=by
 cases hx<;>cases d<;>simp [g_,fF] at f<;>simp [Instr.checkKey,ff hu]
section
variable {P:Program}{ts:Ts}{ls:List (List D)}{h:ag}{dst:Option Tmp}{ty:TypeId}{pos:String}{aC:Array Edge}{g:Option (Nat×Bool)}
theorem MG {a b:ByteArray}(h:(a==b)=true):a=b:=by
 obtain⟨⟨x⟩⟩:=a;obtain⟨⟨y⟩⟩:=b;have h':=bytes_beq x y;have f:(x==y)=true:=by rw [<- h']; exact h
 rw [eq_of_beq f]
theorem MH (a:ByteArray):(a==a)=true:=by
 obtain⟨⟨x⟩⟩:=a;have h':=bytes_beq x x;rw [show ((⟨⟨x⟩⟩:ByteArray)==⟨⟨x⟩⟩)=(x==x) from h'];simp
theorem MI {d:TypeDesc}{v:Value}:Instr.sameNow d v v≠some false:=by
 cases d<;>cases v<;>simp [Instr.sameNow,MH]
theorem MJ {d:TypeDesc}{a b:Value}(h:Instr.sameNow d a b=some true):a=b:=by
 unfold Instr.sameNow at h
 split at h
 ·split at h
  ·rename_i e; subst e; simp at h; rw [h]
  ·simp at h
 ·exact congrArg Value.string (MG (Option.some.inj h))
 ·simp at h; rw [h]
 ·simp at h
theorem Fb {d:TypeDesc}{v:Value}:∀{b:List MapEntry}{n:Nat},Instr.findNow d v b n=some none->∀m∈b,m.key≠v
 | [],_,_=>fun _ h=>by cases h
 | x::b,n,h=>fun m hm e=>by
  rw [Instr.findNow] at h
  split at h
  ·simp at h
  ·rename_i h1
   rcases List.mem_cons.1 hm with rfl|hm
   ·rw [e] at h1; exact MI h1
   ·exact Fb h m hm e
  ·simp at h
theorem kn.push {g:List MapEntry}{bA:Nat}(h:kn g bA){k:Value}(hk:∀m∈g,m.key≠k) (v:Value):kn (g++[⟨k,v,bA⟩]) (bA+1):=by
 refine⟨?_,fun m hm=>?_, ?_⟩
 ·rw [List.map_append,List.nodup_append];refine⟨h.1,by simp,fun a i b f e=>?_⟩;obtain⟨m,hm,rfl⟩:=List.mem_map.1 i;simp only [List.map_cons,List.map_nil,List.mem_singleton] at f;have:=h.2.1 m hm;omega
 ·rcases List.mem_append.1 hm with hm|hm
  ·have:=h.2.1 m hm; omega
  ·rw [List.mem_singleton.1 hm]; exact Nat.lt_succ_self _
 ·rw [List.map_append,List.nodup_append];refine⟨h.2.2,by simp,fun a i b f e=>?_⟩;obtain⟨m,hm,rfl⟩:=List.mem_map.1 i;simp only [List.map_cons,List.map_nil,List.mem_singleton] at f;exact hk m hm (e.trans f)
theorem Fc {β:Type}{f:MapEntry->β}{b:List MapEntry}{i:Nat}{m m':MapEntry}(hm:b[i]?=some m) (g:f m'=f m):(b.set i m').map f=b.map f:=by
 refine List.ext_getElem? fun n=>?_;rw [List.getElem?_map,List.getElem?_map,List.getElem?_set];by_cases hn:i=n
 ·subst hn;obtain⟨bh,j⟩:=List.getElem?_eq_some_iff.1 hm;simp [bh,j,g]
 ·simp [hn]
theorem kn.set {b:List MapEntry}{bA i:Nat}{m:MapEntry}(h:kn b bA) (hm:b[i]?=some m){k v:Value}(hk:k=m.key):kn (b.set i { m with key:=k,val:=v }) bA:=by
 have e:=Fc (f:=(·.born)) (m':={ m with key:=k,val:=v }) hm rfl;refine⟨by rw [e]; exact h.1,fun x hx=>?_,by rw [Fc (f:=(·.key)) hm hk]; exact h.2.2⟩;have:x.born∈b.map (·.born):=by rw [<- e]; exact List.mem_map_of_mem hx
 obtain⟨y,g,j⟩:=List.mem_map.1 this;rw [<- j]; exact h.2.1 y g
def MapAt (j:J) (w:World) (id b:Nat) (es:List (D×A)):Prop:=∃(c:Nat) (f:List MapEntry) (bA:Nat),j.tok id=some ⟨some (b,c),1⟩/\w.heap[b]?=some (.map f.toArray bA)/\aR (iZ j w) es f/\j.F b=0/\kn f bA
theorem vr {j:J}{w:World}{jl:List Nat}{id:Nat}{es:List (D×A)}{cv:Value}(g:fA j w id (.map es)) (h:aZ j w jl (.a (.d (.map id))) cv):∃b,cv=.map (some b)/\MapAt j w id b es:=by
 have h':aA j w (.map id) cv:=h;obtain⟨b,c,i,bA,h1,k,l,m,o⟩:=g;cases h' with
 | map _ q hi hv =>
  obtain⟨_,p⟩:=hv _ h1;obtain⟨c',f⟩:=p rfl;simp only [Option.some.injEq,Prod.mk.injEq] at f;obtain⟨rfl,rfl⟩:=f;exact⟨b,rfl,c,i,bA,h1,k,l,m,o⟩
theorem qU {P:Program}{w:World}{b:Nat}{f:Array MapEntry}{bA:Nat}(h:w.heap[b]?=some (.map f bA)):(getObj b).run P w=.ok (.map f bA) w:=by
 simp [getObj,Sem.run,h]
theorem Fe {t m o:TypeId}{p q:TI}{j:J}{w:World}{id:Nat}{es:List (D×A)}{key:D}{s:Value}{r:Option A}{ok:Bool}(u:aL P t=some p) (hk:p.k=.map m o) (z:aL P m=some q) (f:g_ q.k key=true)
  {b:Nat}(hm:MapAt j w id b es) (l:aA j w key s) (B:mj key es=some r){zv:Value}(C:r=none->(zeroValue o).run P w=.ok zv w) :
  ∃cv,(Instr.lookup t (.map (some b)) s ok).run P w=.ok (if ok then .tuple #[cv,.bool r.isSome] else cv) w/\match r with|none=>cv=zv|some v=>cT j w v cv:=by
 obtain⟨_,H,bA,_,x,E,_⟩:=hm;obtain⟨I,K,_,g,_,_,F,_⟩:=fS z;rw [<- F] at f;have y:=ME f l E 0 r B;cases r with
 | none =>
  refine⟨zv, ?_,rfl⟩;simp [Instr.lookup,ff (pI u hk),qU x,tF g f l,Instr.findKey,ff g,y,C rfl]
 | some v =>
  obtain⟨i,cv,h1,G,_⟩:=y;refine⟨cv, ?_,G⟩;simp [Instr.lookup,ff (pI u hk),qU x,tF g f l,Instr.findKey,ff g,h1]
theorem aq.MK {t f p:TypeId}{i l:TI}{x y:Operand}{id:Nat}{es:List (D×A)}{key:D}{v:A}(q:aL P t=some i) (hk:i.k=.map f p) (r:aL P f=some l) (hx:ev ts x=.a (.d (.map id))) (s:ev ts y=.a (.d key))
  (u:g_ l.k key=true) (hm:h id=some (.map es)) (z:mj key es=some (some v)):aq P (mk dst (.lookup t x y false) ty pos aC g) ts ls h { rh:=true } (.a v) ls h :=
 kB.mh ⟨rfl,rfl,fun L H _ hH j w jl a hl m=>by
  have h1:=m x (by simp [Op.operands]);have o:=m y (by simp [Op.operands]);rw [hx] at h1; rw [s] at o;rw [hH rfl] at hl;obtain⟨b,B,C⟩:=vr (hl.1.obj id _ hm).2 h1;obtain⟨cv,E,F⟩:=Fe (ok:=false) q hk r u C o z (zv:=undef) (by simp);exact⟨cv,by simp only [execOp,Sem.run_bind,B,E,Result.andThen,Sem.run_pure]; rfl,F⟩⟩
theorem aq.ML {t f i:TypeId}{l m o:TI}{x y:Operand}{id:Nat}{es:List (D×A)}{key:D}{z:A}(u:aL P t=some l) (hk:l.k=.map f i) (v:aL P f=some m) (B:aL P i=some o) (C:o.zero=some z)
  (hx:ev ts x=.a (.d (.map id))) (E:ev ts y=.a (.d key)) (F:g_ m.k key=true) (hm:h id=some (.map es)) (G:mj key es=some none):aq P (mk dst (.lookup t x y false) ty pos aC g) ts ls h { rh:=true } (.a z) ls h :=
 kB.mh ⟨rfl,rfl,fun L H _ hH j w jl a hl p=>by
  have h1:=p x (by simp [Op.operands]);have q:=p y (by simp [Op.operands]);rw [hx] at h1; rw [E] at q;rw [hH rfl] at hl;obtain⟨Q,R,I,_,S,U,_,r⟩:=fS B;rw [C] at r;obtain⟨zv,J,K⟩:=nF r;obtain⟨b,M,N⟩:=vr (hl.1.obj id _ hm).2 h1;obtain⟨cv,O,s⟩:=Fe (ok:=false) u hk v F N q G (zv:=zv) (fun _=>by simp [zeroValue,typeInfo,I,J]);dsimp only at s
  subst s;exact⟨cv,by simp only [execOp,Sem.run_bind,M,O,Result.andThen,Sem.run_pure]; rfl,K j w⟩⟩
theorem dZ.makeMap {t:TypeId}:dZ P (mk dst (.makeMap t none) ty pos aC g) ts ls h fun v aH h'=>∃id,h id=none/\v=.a (.d (.map id))/\aH=ls/\h'=h.set id (some (.map [])):=by
 intro j w jl a hl l K Q hk;have hr:(execOp a.eval (mk dst (.makeMap t none) ty pos aC g)).run P w=.ok (.value (.map (some w.heap.size))) (w.alloc (.map #[] 0)):=by simp [execOp,Instr.makeMap]
 obtain⟨h1,b⟩:=hl.dQ 0;obtain⟨f,i,k⟩:=h1.LX (ag.cn _ _ _);unfold Oper.wp;rw [hr,Oper.upon_value];exact hk _ _ _ _ _ _ jl ⟨j.next,hl.1.kq (Nat.le_refl _),rfl,rfl,(ag.set_set _ _ _ _)⟩ k f (Ext.refl _) (b.trans i)
theorem MM {d:TypeDesc}{a b:Value}(h:Instr.sameNow d a b=some true):Instr.sameBits 10000 b a=true:=by
 unfold Instr.sameNow at h
 split at h
 ·split at h
  ·rename_i e; subst e; simp at h; subst h; simp [Instr.sameBits]
  ·simp at h
 ·simp only [Option.some.injEq] at h;rw [beq_toListBytes] at h;simp only [Instr.sameBits,beq_toListBytes];simp at h ⊢; exact h.symm
 ·simp at h; subst h; simp [Instr.sameBits]
 ·simp at h
theorem fB.setObj {w:World}{b:Nat}{o o':Go.Obj}(h:w.heap[b]?=some o):fB w { w with heap:=w.heap.setIfInBounds b o' } b o':=by
 have bh:=fN h;refine⟨by simp,by simp [bh],fun x hx=>?_,rfl,rfl,fG.rfl⟩;simp [Array.getElem?_setIfInBounds,Ne.symm hx]
theorem aq.mapUpdate {t N W:TypeId}{O Q:TI}{x y z:Operand}{id:Nat}{es l:List (D×A)}{key:D}{v:A}(R:aL P t=some O) (hk:O.k=.map N W) (X:aL P N=some Q) (hx:ev ts x=.a (.d (.map id))) (Y:ev ts y=.a (.d key)) (Z:ev ts z=.a v)
  (B:g_ Q.k key=true) (hm:h id=some (.map es)) (hu:pH key v es=some l) (al:dst=none):aq P (mk dst (.mapUpdate t x y z) ty pos aC g) ts ls h { rh:=true,wh:=true } .any ls (h.set id (some (.map l))):=by
 refine aq.of_run fun L H _ hH j w jl a hl I=>?_;have aa:=hH rfl;subst aa;have h1:=I x (by simp [Op.operands]);have C:=I y (by simp [Op.operands]);have S:=I z (by simp [Op.operands]);rw [hx] at h1; rw [Y] at C; rw [Z] at S;obtain⟨b,e,c,am,bA,J,p,ab,K,hB⟩:=vr (hl.1.obj id _ hm).2 h1;obtain⟨ao,ap,_,E,_,_,ad,_⟩:=fS X;rw [<- ad] at B;have U:∀(o:List MapEntry) (q:Nat),aR (iZ j w) l o->kn o q->(Instr.mapUpdate t (.map (some b)) (a.eval y) (a.eval z)).run P w=.ok () { w with heap:=w.heap.setIfInBounds b (.map o.toArray q) } ->
   ∃r w' cv j' F,(execOp a.eval (mk dst (.mapUpdate t x y z) ty pos aC g)).run P w=.ok r w'/\(r=.value cv\/(r=.skip/\cv=undef))/\aZ j' w' F .any cv/\HL j' w' F L (H.set id (some (.map l)))/\Ext jl F /\
    bC j w (Own j H jl) j' w' (Own j' (H.set id (some (.map l))) F):=by
  intro o q ae af ah;have M:=fB.setObj (an:=an) (o':=.map o.toArray q) p;have hle:=M.le (j:=j) K;obtain⟨f,G⟩:=hl.setObj (o':=.map l) hm (by simp [bG,J]) (by simp [bG,J]) K M ⟨b,c,o,q,J,M.here,ae.imp fun _ _ h=>h.mono hle,K,af⟩;refine⟨.skip,_,undef,j,jl, ?_,.inr ⟨rfl,rfl⟩,trivial,f,Ext.refl _,G⟩;simp only [execOp,e,Sem.run_bind,ah,Result.andThen,Sem.run_pure]
 rcases MF B C S ab 0 bA l hu with ⟨s,f⟩|⟨i,u,m,s,f,G,ai⟩
 ·refine U _ (bA+1) f (hB.push (Fb s) _) ?_;simp [Instr.mapUpdate,ff (pI R hk),qU p,tF E B C,Instr.findKey,ff E,s,setObj,Sem.run,p]
 ·refine U _ bA ai (hB.set f (MJ G)) ?_;have aj:=MM G;rw [Nat.zero_add] at s;simp [Instr.mapUpdate,ff (pI R hk),qU p,tF E B C,Instr.findKey,ff E,s,f,Instr.keyThatStays,aj,setObj,Sem.run,p]
  congr 2
  apply Array.ext'
  simp
  apply List.ext_getElem?
  intro n;simp only [List.getElem?_modify,List.getElem?_set];by_cases hn:i=n
  ·subst hn;have bh:=(List.getElem?_eq_some_iff.1 f).1;have ak:=(List.getElem?_eq_some_iff.1 f).2;simp [bh,ak]
  ·simp [hn]
end
end Go.Ab
