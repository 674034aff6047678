import Derived.Test.YtgkmefkmmafocaaGreatDoorE1
import Derived.Laws.Tables
import Derived.Lib.Strings
import Derived.Laws.Slices
import Derived.Laws.Concat
import Derived.Laws.StructEq
set_option maxRecDepth 100000
set_option maxHeartbeats 2000000
set_option linter.unusedVariables false
set_option linter.unusedSimpArgs false
/-
 Code,calls and results over abstract states.
-/
namespace Go.Ab
open Go Go.RowKit
variable {az:bC}
variable {ii:eF}
inductive K where
 | bool|int (k:IntKind)|str|ptr (e:TypeId)|slice (e:TypeId)|map (k e:TypeId)|struct (fs:List (Nat×TypeId))|func|iface|other
 deriving DecidableEq
def ep:TypeDesc->K
 | .bool=>.bool
 | .int k=>.int k
 | .string=>.str
 | .pointer e=>.ptr e
 | .slice e=>.slice e
 | .map k e=>.map k e
 | .struct fs=>.struct (fs.toList.map fun f=>(f.offset,f.type))
 | .func _ _ _=>.func
 | .interface _=>.iface
 | _=>.other
structure TI where
 k:K
 size:Nat
 bytes:Nat
 zero:Option A
def oO:List Value->Option (List D)
 | []=>some []
 | v::r=>match oK v,oO r with
  | some x,some xs=>some (x::xs)
  | _,_=>none
def qN:Option Value->Option A
 | some (.agg cs)=>(oO cs.toList).map .agg
 | some v=>(oK v).map .d
 | none=>none
def AI (P:Program):Nat->TypeId->List TypeId
 | 0,t=>[t]
 | n+1,t=>match P.underlying t with
  | some (.struct fs)=>fs.toList.flatMap fun f=>AI P n f.type
  | _=>[t]
def sK (P:Program) (t:TypeId):D->D
 | .slice k tok true []=>match P.underlying t with
  | some (.slice e)=>.slice (P.cellsOf e) tok true []
  | _=>.slice k tok true []
 | x=>x
def vl (P:Program):List TypeId->List D->List D
 | t::ts,x::xs=>sK P t x::vl P ts xs
 | _,xs=>xs
def sM (P:Program) (t:TypeId):A->A
 | .d x=>.d (sK P t x)
 | .agg xs=>.agg (vl P (AI P 8 t) xs)
def aR (P:Program) (t:TypeId):Option TI :=
 match P.info? t,P.underlying t with
 | some i,some d=>some ⟨ep d,i.size,i.bytes,(qN i.zero).map (sM P t)⟩
 | _,_=>none
theorem aD.Gw {j:J}{w:World}{k k':Nat}{tok:Option Nat}{v:Value}(h:aD j w (.slice k tok true []) v):aD j w (.slice k' tok true []) v:=by
 cases h with
 | eU _ _ ht=>exact .eU _ _ ht
theorem AJ {j:J}{w:World}{P:Program}{t:TypeId}{x:D}{v:Value}(h:aD j w x v):aD j w (sK P t x) v:=by
 unfold sK
 split
 ·split
  ·exact h.Gw
  ·exact h
 ·exact h
theorem AK {j:J}{w:World}{P:Program}:∀{ts:List TypeId}{xs:List D}{b:List Value},bf (aD j w) xs b->bf (aD j w) (vl P ts xs) b
 | [],xs,_,h=>by cases xs<;>exact h
 | _::_,_,_,.nil=>.nil
 | _::ts,_,_,.cons h t=>.cons (AJ h) (AK (ts:=ts) t)
theorem Gx {j:J}{w:World}{P:Program}{t:TypeId}{x:A}{v:Value}(h:cH j w x v):cH j w (sM P t x) v:=by
 cases x with
 | d x=>exact AJ (x:=x) h
 | agg xs=>obtain⟨cs,e,h⟩:=h; exact⟨cs,e,AK h⟩
theorem AL (j:J) (w:World):∀(cs:List Value) (xs:List D),oO cs=some xs->bf (aD j w) xs cs
 | [],xs,h=>by simp [oO] at h; subst h; exact .nil
 | v::r,xs,h=>by
  simp only [oO] at h
  split at h
  ·rename_i x ys h1 b
   simp at h; subst h;exact .cons (vf j w v x h1) (AL j w r ys b)
  ·simp at h
theorem eP {P:Program}{t:TypeId}{b:TI}(h:aR P t=some b) :
  ∃i d,P.info? t=some i/\P.underlying t=some d/\i.size=b.size/\i.bytes=b.bytes/\ep d=b.k/\(qN i.zero).map (sM P t)=b.zero:=by
 unfold aR at h
 split at h
 ·rename_i i d h1 f
  simp at h; subst h;exact⟨i,d,h1,f,rfl,rfl,rfl,rfl⟩
 ·simp at h
theorem Gy {z:Option Value}{x:A}(h:qN z=some x):∃v,z=some v/\∀j w,cH j w x v:=by
 unfold qN at h
 split at h
 ·rename_i cs
  cases e:oO cs.toList with
  | none=>rw [e] at h; simp at h
  | some xs =>
   rw [e] at h; simp at h; subst h;exact⟨_,rfl,fun j w=>⟨cs.toList,by simp,AL j w _ _ e⟩⟩
 ·rename_i v hn
  cases e:oK v with
  | none=>rw [e] at h; simp at h
  | some xs =>
   rw [e] at h; simp at h; subst h;exact⟨_,rfl,fun j w=>vf j w _ _ e⟩
 ·simp at h
theorem kC {P:Program}{t:TypeId}{z:Option Value}{x:A}(h:(qN z).map (sM P t)=some x):∃v,z=some v/\∀j w,cH j w x v:=by
 simp only [Option.map_eq_some_iff] at h;obtain⟨y,b,rfl⟩:=h;obtain⟨v,h1,f⟩:=Gy b;exact⟨v,h1,fun j w=>Gx (f j w)⟩
def K.oP:K->Bool
 | .other=>true
 | _=>false
theorem K.oQ {k:K}(h:k.oP=false):k≠.other:=fun e=>by rw [e] at h; cases h
def qP:K->Bool
 | .struct _=>true
 | _=>false
def oR (b:TI) (xs:List D) (off:Nat):Option A :=
 match qP b.k with
 | true=>match Nat.beq off 0&&Nat.beq xs.length b.size with
  | true=>some (.agg xs)
  | false=>match Nat.ble (off+b.size) xs.length with
   | true=>some (.agg ((xs.drop off).take b.size))
   | false=>none
 | false=>match xs[off]? with
  | some x=>some (.d x)
  | none=>none
theorem dY {P:Program}{t:TypeId}{d:TypeDesc}(h:P.underlying t=some d) (w:World):(underlying t).run P w=.ok d w:=run_underlying h w
theorem vm {P:Program}{t:TypeId}{b:TI}(g:aR P t=some b) (hk:b.k≠.other) (w:World):(isAgg t).run P w=.ok (qP b.k) w:=by
 obtain⟨i,d,h1,j,_,_,f,_⟩:=eP g;simp only [isAgg,Sem.run_bind,dY j,Result.andThen];cases d<;>simp [ep] at f<;>first|(rw [<- f]; rfl)|(exact absurd f.symm hk)|skip
theorem gG {P:Program}{t:TypeId}{b:TI}(f:aR P t=some b) (w:World):(sizeOf t).run P w=.ok b.size w:=by
 obtain⟨i,d,h1,j,g,_⟩:=eP f;simp [sizeOf,typeInfo,h1,g]
def lW (P:Program) (T:List TI):Prop:=∀t b,T[t]?=some b->aR P t=some b
structure AC [bC] (P:Program) (f:FuncId) (args:List A) (h:ak) (dN:V->ak->Prop):Prop where
 enter:∀(ew:Array Value) (w:World),(callFunc f ew).run P w=.ok (.enter f ew) w
 runs:∀(j:J) (w:World) (ew:List Value),fC j w h->bf (cH j w) args ew->Calls P f ew.toArray w fun e w' =>
  ∃r cv j' h',e=.returned cv/\dN r h'/\bq j' w' [] r cv/\fC j' w' h'/\bQ j w (bg j h []) j' w' (bg j' h' [])
theorem AC.mono {P:Program}{f:FuncId}{args:List A}{h:ak}{dN b:V->ak->Prop}(hc:AC P f args h dN) (g:∀r h',dN r h'->b r h'):AC P f args h b :=
 ⟨hc.enter,fun j w ew hr i=>(hc.runs j w ew hr i).mono fun _ _ ⟨r,cv,j',h',e,p,rest⟩=>⟨r,cv,j',h',e,g r h' p,rest⟩⟩
def AQ [bC] [eF] (Q:Exit->St->Prop) (j:J) (w:World) (jl:List Nat) (σ:St):Exit->Act->World->Prop :=
 fun e a' w'=>∃b j' f,Q e b/\fD j' w' f b a'/\bQ j w (bg j σ.h jl) j' w' (bg j' b.h f)
def ah [bC] [eF] (P:Program) (c:Code) (Q:Exit->St->Prop) (σ:St):Prop :=
 ∀(j:J) (w:World) (jl:List Nat) (a:Act),fD j w jl σ a->c.wp P (AQ Q j w jl σ) a w
def jP (next:St->Prop) (Q:Exit->St->Prop):Exit->St->Prop
 | .normal,σ=>next σ
 | e,σ=>Q e σ
def oS (id:Nat) (Q:Exit->St->Prop):Exit->St->Prop
 | .exit i,σ=>if i=id then Q .normal σ else Q (.exit i) σ
 | e,σ=>Q e σ
theorem AQ.trans {Q:Exit->St->Prop}{j b:J}{w f:World}{jl g:List Nat}{σ i:St}(k:bQ j w (bg j σ.h jl) b f (bg b i.h g)){e:Exit}{a:Act}{w':World}
  (h:AQ Q b f g i e a w'):AQ Q j w jl σ e a w' :=
 let ⟨l,j',m,hq,o,he⟩:=h
 ⟨l,j',m,hq,o,k.trans he⟩
section
variable {P:Program}{Q:Exit->St->Prop}{σ:St}
theorem ah.mono {c:Code}{Q':Exit->St->Prop}(h:ah P c Q σ) (hq:∀e σ,Q e σ->Q' e σ):ah P c Q' σ :=
 fun j w jl a b=>wp_mono (h j w jl a b) fun _ _ _ ⟨f,j',g,q,r⟩=>⟨f,j',g,hq _ _ q,r⟩
theorem ah.skip (h:Q .normal σ):ah P .skip Q σ:=fun j w jl _ b=>wp_skip ⟨σ,j,jl,h,b,bQ.refl _ _ _⟩
theorem ah.ret (h:Q .ret σ):ah P .ret Q σ:=fun j w jl _ b=>wp_ret ⟨σ,j,jl,h,b,bQ.refl _ _ _⟩
theorem ah.exit {id:Nat}(h:Q (.exit id) σ):ah P (.exit id) Q σ:=fun j w jl _ b=>wp_exit ⟨σ,j,jl,h,b,bQ.refl _ _ _⟩
theorem ah.seq {x y:Code}(h:ah P x (jP (ah P y Q) Q) σ):ah P (.seq x y) Q σ:=by
 intro j w jl a k;refine wp_seq (wp_mono (h j w jl a k) ?_);rintro e a' w' ⟨i,j',b,hq,f,g⟩;cases e with
 | normal=>exact wp_mono (hq j' w' b a' f) fun e l m h=>AQ.trans g h
 | exit id=>exact⟨i,j',b,hq,f,g⟩
 | goto id=>exact⟨i,j',b,hq,f,g⟩
 | ret=>exact⟨i,j',b,hq,f,g⟩
 | panic o=>exact⟨i,j',b,hq,f,g⟩
 | outgrown=>exact⟨i,j',b,hq,f,g⟩
theorem Gz {j:J}{w:World}{jl:List Nat}{a:Act}{ts:Ts}{x:Operand}{b:Bool}(f:∀k,bq j w jl (get ts k) (a.tmps.getD k undef)) (hx:ev ts x=.a (.d (.bool b))):a.eval x=.bool b:=by
 have h:=ny f x;rw [hx] at h;have h':aD j w (.bool b) (a.eval x):=h;generalize a.eval x=y at h';cases h'; rfl
theorem ah.cond {c:Operand}{x y:Code}{b:Bool}(hc:ev σ.ts c=.a (.d (.bool b))) (ht:b=true->ah P x Q σ) (g:b=false->ah P y Q σ):ah P (.cond c x y) Q σ:=by
 intro j w jl a f;exact wp_cond_split (Gz f.tmps hc) (fun e=>ht e j w jl a f) (fun e=>g e j w jl a f)
theorem ah.block {id:Nat}{c:Code}(h:ah P c (oS id Q) σ):ah P (.block id c) Q σ:=by
 intro j w jl a l;refine wp_block (wp_mono (h j w jl a l) ?_);rintro e a' w' ⟨b,j',f,hq,g,k⟩;cases e with
 | exit i =>
  simp only [oS] at hq;simp only [Exit.inBlock]
  split
  ·rename_i e; rw [if_pos e] at hq; exact⟨b,j',f,hq,g,k⟩
  ·rename_i e; rw [if_neg e] at hq; exact⟨b,j',f,hq,g,k⟩
 | normal=>exact⟨b,j',f,hq,g,k⟩
 | goto id=>exact⟨b,j',f,hq,g,k⟩
 | ret=>exact⟨b,j',f,hq,g,k⟩
 | panic m=>exact⟨b,j',f,hq,g,k⟩
 | outgrown=>exact⟨b,j',f,hq,g,k⟩
theorem ah.loop {α:Type}{c:Code}(inv:α->St) (m:α->Nat) (pre:α->Prop) (s:α) (h0:pre s)
  (hr:∀x,pre x->ah P c (jP (fun g=>∃y,g=inv y/\pre y/\m y<m x) Q) (inv x)):ah P (.loop c) Q (inv s):=by
 intro j w jl a t b k cs;have key:∀n x,m x=n->pre x->∀(j:J) (w:World) (jl:List Nat) (a:Act),fD j w jl (inv x) a ->
   ∃e a' w',AQ Q j w jl (inv x) e a' w'/\Arrives P (lone (b.at a (.code c::.inLoop c::k)) cs w) b k cs e a' w':=by
  intro n;induction n using Nat.strongRecOn with
  | _ n u =>
   intro x hn v j w jl a t;obtain⟨e,i,o,⟨g,j',p,hq,q,r⟩,f⟩:=hr x v j w jl a t b (.inLoop c::k) cs;cases e with
   | normal =>
    obtain⟨y,rfl,z,aT⟩:=hq;obtain⟨B,a2,C,E,F⟩:=u (m y) (hn▸aT) y rfl z j' o p i q;exact⟨B,a2,C,AQ.trans r E,.of_steps (Steps.trans f (.one step_inLoop)) F⟩
   | exit id=>exact⟨_,i,o,⟨g,j',p,hq,q,r⟩,.pass (x:=.inLoop c) rfl (fun _ _=>.inl (by simp)) f⟩
   | goto l=>exact⟨_,i,o,⟨g,j',p,hq,q,r⟩,.pass (x:=.inLoop c) rfl (fun _ _=>.inl (by simp)) f⟩
   | ret=>exact⟨_,i,o,⟨g,j',p,hq,q,r⟩,.pass (x:=.inLoop c) rfl (fun _ _=>.inl (by simp)) f⟩
   | panic G=>exact⟨_,i,o,⟨g,j',p,hq,q,r⟩,.pass (x:=.inLoop c) rfl (fun _ _=>.inl (by simp)) f⟩
   | outgrown=>exact⟨_,i,o,⟨g,j',p,hq,q,r⟩,.pass (x:=.inLoop c) rfl (fun _ _=>.inl (by simp)) f⟩
 obtain⟨e,a',w',hq,f⟩:=key _ s rfl h0 j w jl a t;exact⟨e,a',w',hq,.of_steps (.one step_loop) f⟩
theorem ah.region {id:Nat}{l:List Oper}(h:aO P l.toArray l (Q .normal) σ):ah P (.region id l.toArray false) Q σ:=by
 intro j w jl a b;exact wp_region_lit (h j w jl a b _ fun f j' w' g a' hq i k=>⟨f,j',g,hq,i,k⟩)
theorem ah.draw (hm:P.follows .mixedOrders=true){id:Nat}{l:List Oper}(h:au P l.toArray σ.n l [] (Q .normal) σ):ah P (.region id l.toArray true) Q σ:=by
 intro j w jl a b;exact au.wp hm h rfl b fun f j' w' g a' hq i k=>⟨f,j',g,hq,i,k⟩
def bX [bC] [eF] (σ b:St):Prop:=∀(j:J) (w:World) (jl:List Nat) (a:Act),fD j w jl σ a->∃j' f,fD j' w f b a/\bQ j w (bg j σ.h jl) j' w (bg j' b.h f)
theorem bX.refl (σ:St):bX σ σ:=fun j _ jl _ b=>⟨j,jl,b,bQ.refl _ _ _⟩
theorem bX.trans {σ b f:St}(h:bX σ b) (h':bX b f):bX σ f:=by
 intro j w jl a g;obtain⟨i,k,l,m⟩:=h j w jl a g;obtain⟨o,p,q,r⟩:=h' i w k a l;exact⟨o,p,q,m.trans r⟩
theorem ah.vn {c:Code}{b:St}(hw:bX σ b) (h:ah P c Q b):ah P c Q σ:=by
 intro j w jl a f;obtain⟨j',g,i,k⟩:=hw j w jl a f;exact wp_mono (h j' w g a i) fun e a w h=>AQ.trans k h
theorem ah.post {c:Code}(h:ah P c (fun e f=>∃b,bX f b/\Q e b) σ):ah P c Q σ:=by
 intro j w jl a g;refine wp_mono (h j w jl a g) ?_;rintro e a' w' ⟨r,j',i,⟨b,hw,hq⟩,k,l⟩;obtain⟨m,o,p,q⟩:=hw j' w' i a' k;exact⟨b,m,o,hq,p,l.trans q⟩
inductive aY (ts:Ts) (n:Nat):Ts->Prop where
 | nil:aY ts n []
 | cons {k:Nat}{v:V}{r:Ts}(h:get ts k=v) (hv:(∀i off,v=.cW i off->i<n)/\∀c i off,v=.iY c i off->i<n) (t:aY ts n r):aY ts n ((k,v)::r)
theorem aY.get {ts:Ts}{n:Nat}{b:Ts}(h:aY ts n b) (k:Nat):Ab.get b k=.any\/(Ab.get b k=Ab.get ts k/\(∀i off,Ab.get b k=.cW i off->i<n)/\∀c i off,Ab.get b k=.iY c i off->i<n):=by
 induction h with
 | nil=>exact .inl rfl
 | @cons k' v r h hv t f =>
  by_cases e:k'=k
  ·subst e; rw [fm]; exact .inr ⟨h.symm,hv⟩
  ·rw [gf _ _ e]; exact f
theorem bX.keep {n:Nat}{ts f:Ts}{ls:List (List D)}{h:ak}(m:Nat) (hk:aY ts m f):bX ⟨n,ts,ls,h⟩ ⟨n,f,ls.take m,h⟩:=by
 intro j w jl a g;obtain⟨hl,o⟩:=g.hl.trim m;refine⟨j,jl.take m,⟨g.defers,g.size,fun k=>?_,hl⟩,o⟩;rcases hk.get k with e|⟨e,aT,p⟩
 ·show bq _ _ _ (Ab.get f k) _;rw [e]; trivial
 ·show bq _ _ _ (Ab.get f k) _;have hv:=g.tmps k;have hv:bq j w jl (Ab.get ts k) (a.tmps.getD k undef):=hv;rw [<- e] at hv;cases hx:Ab.get f k with
  | any=>trivial
  | a x=>rw [hx] at hv; exact hv
  | cW i off =>
   rw [hx] at hv;obtain⟨b,hb,l⟩:=hv;exact⟨b,by rw [List.getElem?_take_of_lt (aT i off hx)]; exact hb,l⟩
  | dz xs=>rw [hx] at hv; exact hv
  | gd c x=>rw [hx] at hv; exact hv
  | full k rows=>rw [hx] at hv; exact hv
  | oG c k rows=>rw [hx] at hv; exact hv
  | iY c i off =>
   rw [hx] at hv;refine⟨fun hc=>?_,hv.2⟩;obtain⟨b,hb,l⟩:=hv.1 hc;exact⟨b,by rw [List.getElem?_take_of_lt (p c i off hx)]; exact hb,l⟩
theorem bX.forget {n:Nat}{ts:Ts}{ls:List (List D)}{h h':ak}(hh:∀id o,h' id=some o->h id=some o):bX ⟨n,ts,ls,h⟩ ⟨n,ts,ls,h'⟩:=by
 intro j w jl a b;obtain⟨hl,f⟩:=b.hl.forget hh;exact⟨j,jl,⟨b.defers,b.size,b.tmps,hl⟩,f⟩
end
def oT:Nat->List A->Ts
 | _,[]=>[]
 | k,x::r=>(k,.a x)::oT (k+1) r
theorem AM {j:J}{w:World}(f:Nat->Value):∀(k:Nat) (args:List A) (ew:List Value),bf (cH j w) args ew->(∀i v,ew[i]?=some v->f (k+i)=v) ->
  ∀t,bq j w [] (get (oT k args) t) (f t)
 | k,_,_,.nil,_,_=>trivial
 | k,_,_,.cons (a:=x) (b:=v) (l:=l) (m:=m) h ht,g,t=>by
  by_cases e:k=t
  ·subst e;simp only [oT];rw [fm];have:=g 0 v rfl;rw [Nat.add_zero] at this;rw [this]; exact h
  ·simp only [oT];rw [gf _ _ e];exact AM f (k+1) l m ht (fun i v hv=>by have:=g (i+1) v (by simpa using hv); rw [<- this]; congr 1; omega) t
def sN (T:List TI) (σ:St):ResultVar->Option A
 | .tmp t=>match get σ.ts t with
  | .a x=>some x
  | _=>none
 | .cell t ty=>match get σ.ts t,T[ty]? with
  | .cW i off,some b=>match b.k.oP,σ.ls[i]? with
   | false,some xs=>oR b xs off
   | _,_=>none
  | _,_=>none
def nD (T:List TI) (σ:St):List ResultVar->Option (List A)
 | []=>some []
 | r::b=>match sN T σ r,nD T σ b with
  | some x,some xs=>some (x::xs)
  | _,_=>none
def oU:List A->V
 | [x]=>.a x
 | xs=>.dz xs
end Go.Ab
/-
 Loads,stores and results; from the walk of a body to the contract of a function.
-/
namespace Go.Ab
open Go Go.RowKit
variable {az:bC}
section
variable {ii:eF}
theorem aD.one {j:J}{w:World}{x:D}{v:Value}(h:aD j w x v):v.oneCell'=true:=by cases h<;>rfl
def Cells (j:J) (w:World) (b o:Nat) (xs:List D):Prop:=∀i x,xs[i]?=some x->∃v,w.cell? ⟨b,o+i,none⟩=some v/\aD j w x v
theorem add_plain (b o n:Nat):(⟨b,o,none⟩:Addr).add n=⟨b,o+n,none⟩:=by unfold Addr.add; split<;>simp_all
theorem vp {P:Program}{j:J}{w:World}{b o:Nat}:∀(xs:List D),(∀i x,xs[i]?=some x->∃v,w.cell? ⟨b,o+i,none⟩=some v/\aD j w x v) ->
  ∃cs:List Value,bf (aD j w) xs cs/\(loadCells ⟨b,o,none⟩ xs.length).run P w=.ok cs.toArray w:=by
 intro xs h;have f:∃cs:List Value,bf (aD j w) xs cs/\∀i v,cs[i]?=some v->w.cell? ⟨b,o+i,none⟩=some v:=by
  induction xs generalizing o with
  | nil=>exact⟨[],.nil,by simp⟩
  | cons x r g =>
   obtain⟨v,hv,hr⟩:=h 0 x rfl;obtain⟨cs,f,k⟩:=g (o:=o+1) fun i y l=>by
    have:=h (i+1) y (by simpa using l)
    rwa [show o+(i+1)=o+1+i by omega] at this
   refine⟨v::cs,.cons hr f,fun i u hu=>?_⟩;cases i with
   | zero=>simp at hu; subst hu; exact hv
   | succ i=>rw [show o+(i+1)=o+1+i by omega]; exact k i u (by simpa using hu)
 obtain⟨cs,h1,m⟩:=f;refine⟨cs,h1, ?_⟩;rw [h1.length];exact run_loadCells_list w _ cs fun i v hv=>by rw [add_plain]; exact m i v hv
theorem sO {P:Program}{j:J}{w:World}{b o off:Nat}{xs:List D}(hc:Cells j w b o xs){t:TypeId}{g:TI}(m:aR P t=some g) (hk:g.k≠.other){x:A}(hl:oR g xs off=some x) :
  ∃v,(loadVar t ⟨b,o+off,none⟩).run P w=.ok v w/\cH j w x v:=by
 unfold oR at hl;simp only [loadVar,Sem.run_bind,vm m hk,Result.andThen];cases r:qP g.k with
 | false =>
  rw [r] at hl;dsimp only at hl
  split at hl
  ·rename_i y f
   simp at hl; subst hl;obtain⟨v,hv,hr⟩:=hc off y f;refine⟨v, ?_,hr⟩;simp [hv]
  ·simp at hl
 | true =>
  rw [r] at hl;dsimp only at hl;have u:∀ys:List D,ys.length=g.size->(∀i y,ys[i]?=some y->xs[off+i]?=some y)->∃v,(loadCells ⟨b,o+off,none⟩ g.size).run P w=.ok v w/\cH j w (.agg ys) (.agg v):=by
   intro ys hlen p;obtain⟨cs,h1,l⟩:=vp (P:=P) (j:=j) (w:=w) (b:=b) (o:=o+off) ys fun i y f=>by
    have:=hc (off+i) y (p i y f)
    rwa [<- Nat.add_assoc] at this
   rw [hlen] at l;exact⟨_,l,cs,rfl,h1⟩
  have s:∀ys:List D,ys.length=g.size->(∀i y,ys[i]?=some y->xs[off+i]?=some y) ->
    ∃v,((Sem.run P (if true=true then Value.agg <$> (do loadCells ⟨b,o+off,none⟩ (<- sizeOf t)) else load ⟨b,o+off,none⟩)) w)=.ok v w/\cH j w (.agg ys) v:=by
   intro ys hlen p;obtain⟨v,h1,l⟩:=u ys hlen p;exact⟨.agg v,by simp [gG m,h1],l⟩
  split at hl
  ·rename_i q
   simp at hl; subst hl;simp only [Bool.and_eq_true] at q;have z:off=0:=Nat.eq_of_beq_eq_true q.1;have B:xs.length=g.size:=Nat.eq_of_beq_eq_true q.2;obtain⟨v,h1,l⟩:=s xs B fun i y f=>by rw [z,Nat.zero_add]; exact f
   exact⟨v,by simpa [gG m] using h1,l⟩
  ·split at hl
   ·rename_i C
    simp at hl; subst hl;have hle:=Nat.le_of_ble_eq_true C;obtain⟨v,h1,l⟩:=s ((xs.drop off).take g.size) (by simp; omega) fun i y f=>by
     rw [List.getElem?_take] at f
     split at f
     ·rw [List.getElem?_drop] at f; exact f
     ·simp at f
    exact⟨v,by simpa [gG m] using h1,l⟩
   ·simp at hl
theorem jN.cells {j:J}{w:World}{b:Nat}{xs:List D}(h:jN j w b xs):Cells j w b 0 xs:=by
 obtain⟨cs,e,hh,hx,_⟩:=h;intro i x hi;obtain⟨v,hv,hr⟩:=hx.get hi;exact⟨v,by rw [Nat.zero_add,cell_of_row w b i cs.toArray e (0,0) hh]; simpa using hv,hr⟩
def cN {α:Type}:List α->Nat->List α->List α
 | l,_,[]=>l
 | l,n,v::r=>cN (l.set n v) (n+1) r
theorem AN {α:Type}:∀(l:List α) (n:Nat) (r:List α),(cN l n r).length=l.length
 | l,_,[]=>rfl
 | l,n,v::r=>by rw [cN,AN]; simp
theorem bf.cN {α β:Type}{R:α->β->Prop}{l:List α}{m:List β}(h:bf R l m):∀(n:Nat){r:List α}{s:List β},bf R r s->bf R (Ab.cN l n r) (Ab.cN m n s):=by
 intro n r s hr;induction hr generalizing l m n with
 | nil=>exact h
 | cons x _ b=>exact b (h.set x n) (n+1)
theorem eZ.trans {w f g:World}{b:Nat}{o o':Go.Obj}(h:eZ w f b o) (h':eZ f g b o'):eZ w g b o' :=
 ⟨h'.size.trans h.size,h'.here,fun x hx=>(h'.other x hx).trans (h.other x hx),h'.os.trans h.os,h'.tape.trans h.tape,h'.output.trans h.output⟩
theorem eZ.same {w:World}{b:Nat}{o:Go.Obj}(h:w.heap[b]?=some o):eZ w w b o:=⟨rfl,h,fun _ _=>rfl,rfl,rfl,eY.rfl⟩
theorem eZ.setCell {w:World}{b i:Nat}{cs:List Value}{e:TypeId}(h:w.heap[b]?=some (.cells cs.toArray e (0,0))) (v:Value):eZ w (w.setCell ⟨b,i,none⟩ v) b (.cells (cs.set i v).toArray e (0,0)):=by
 refine⟨by simp, ?_,fun x hx=>heap_setCell_other w _ x v hx,rfl,rfl,eY.rfl⟩;have aT:=ig h;simp only [World.setCell,Array.getElem?_modify,if_true,h,Option.map_some];simp
theorem vq {P:Program}{b off:Nat}{e:TypeId}:∀(f:List Value) (i:Nat) (cs:List Value) (w:World),w.heap[b]?=some (.cells cs.toArray e (0,0))->off+i+f.length<=cs.length ->
  (∀v∈f,v.oneCell'=true)->∃w',(storeCells ⟨b,off,none⟩ f i).run P w=.ok () w'/\eZ w w' b (.cells (cN cs (off+i) f).toArray e (0,0))
 | [],i,cs,w,hg,_,_=>⟨w,by simp [storeCells],eZ.same hg⟩
 | v::rest,i,cs,w,hg,hl,h1=>by
  simp only [List.length_cons] at hl;have hu:=eZ.setCell (az:=az) (i:=off+i) hg v;obtain⟨w',g,j⟩:=vq (P:=P) (off:=off) (e:=e) rest (i+1) (cs.set (off+i) v) _ hu.here (by simp; omega) (fun x hx=>h1 x (by simp [hx]));refine⟨w', ?_,hu.trans j⟩;have k:w.cell? ⟨b,off+i,none⟩=some (cs[off+i]'(by omega)):=by
   rw [cell_of_row w b (off+i) cs.toArray e (0,0) hg];rw [Array.getElem?_eq_getElem (by simp; omega)]; simp
  have l:w.frozen? ⟨b,off+i,none⟩=false:=frozen_of_row w b _ cs.toArray e hg;have m:(store ((⟨b,off,none⟩:Addr).add i) v).run P w=.ok () (w.setCell ⟨b,off+i,none⟩ v):=by
   rw [add_plain,run_store P w _ v _ (h1 v (by simp)),k];simp [l]
  simp only [storeCells,Sem.run_bind,m,Result.andThen,g]
def bZ:A->List D
 | .d x=>[x]
 | .agg xs=>xs
theorem cH.cells {j:J}{w:World}{x:A}{v:Value}(h:cH j w x v):bf (aD j w) (bZ x) v.cells.toList:=by
 cases x with
 | d x =>
  have b:aD j w x v:=h;have:v.cells=#[v]:=by cases b<;>rfl
  rw [this];exact .cons b .nil
 | agg xs=>obtain⟨cs,e,h⟩:=h; subst e; simpa [Value.cells,bZ] using h
theorem AO {j:J}{w:World}{xs:List D}{cs:List Value}(h:bf (aD j w) xs cs):∀v∈cs,v.oneCell'=true:=by
 induction h with
 | nil=>simp
 | cons x _ b =>
  intro v hv;rcases List.mem_cons.1 hv with e|e
  ·rw [e]; exact x.one
  ·exact b v e
theorem AP {P:Program}{j:J}{w:World}{b off:Nat}{e:TypeId}{cs:List Value}(hg:w.heap[b]?=some (.cells cs.toArray e (0,0))){t:TypeId}{f:TI}(g:aR P t=some f){x:A}{v:Value}(hv:cH j w x v)
  (i:(bZ x).length=f.size) (hl:off+f.size<=cs.length):∃w',(storeVar t ⟨b,off,none⟩ v).run P w=.ok () w'/\eZ w w' b (.cells (cN cs off v.cells.toList).toArray e (0,0)):=by
 have hc:=hv.cells;have hlen:v.cells.size=f.size:=by rw [<- i,hc.length]; simp
 obtain⟨w',h1,k⟩:=vq (P:=P) (off:=off) (e:=e) v.cells.toList 0 cs w hg (by simp; omega) (AO hc);refine⟨w', ?_,by simpa using k⟩;simp [storeVar,gG g,hlen,h1]
theorem GA {P:Program}{T:List TI}(l:lW P T){σ:St}{j:J}{w:World}{jl:List Nat}{a:Act}(f:fD j w jl σ a){r:ResultVar}{x:A}(h:sN T σ r=some x) :
  ∃v,(match r with|.tmp t=>pure (a.tmps.getD t undef)|.cell t ty=>do loadVar ty (<- asAddr (a.tmps.getD t undef)):Sem Value).run P w=.ok v w/\cH j w x v:=by
 cases r with
 | tmp t =>
  have hv:=f.tmps t;simp only [sN] at h
  split at h
  ·rename_i y m
   simp at h; subst h;rw [m] at hv;exact⟨_,rfl,hv⟩
  ·simp at h
 | cell t ty =>
  have hv:=f.tmps t;simp only [sN] at h
  split at h
  ·rename_i i off s h1 o
   rw [h1] at hv;obtain⟨b,hb,e⟩:=hv
   split at h
   ·rename_i xs hk hx
    obtain⟨b',g,p⟩:=f.hl.2.each.get hx;rw [hb] at g; simp only [Option.some.injEq] at g; subst g;obtain⟨v,k,q⟩:=sO (P:=P) p.cells (l _ _ o) (K.oQ hk) h;refine⟨v, ?_,q⟩;rw [Nat.zero_add] at k;simp [e,asAddr,k]
   ·simp at h
  ·simp at h
theorem AR {P:Program}{T:List TI}(g:lW P T){σ:St}{j:J}{w:World}{jl:List Nat}{a:Act}(i:fD j w jl σ a):∀(b:List ResultVar) (xs:List A),nD T σ b=some xs ->
  ∃f:List Value,(b.mapM fun r=>(match r with|.tmp t=>pure (a.tmps.getD t undef)|.cell t ty=>do loadVar ty (<- asAddr (a.tmps.getD t undef)):Sem Value)).run P w=.ok f w/\bf (cH j w) xs f
 | [],xs,h=>by simp [nD] at h; subst h; exact⟨[],by simp,.nil⟩
 | r::b,xs,h=>by
  simp only [nD] at h
  split at h
  ·rename_i x ys h1 k
   simp at h; subst h;obtain⟨v,l,m⟩:=GA g i h1;obtain⟨f,o,p⟩:=AR g i b ys k;refine⟨v::f, ?_,.cons m p⟩;rw [List.mapM_cons,Sem.run_bind,l];simp only [Result.andThen,Sem.run_bind,o,Sem.run_pure]
  ·simp at h
def bn (T:List TI) (b:List ResultVar) (dN:V->ak->Prop):Exit->St->Prop:=fun e σ =>
 (e=.normal\/e=.ret)/\∃xs h',nD T σ b=some xs/\(∀id o,h' id=some o->σ.h id=some o)/\dN (oU xs) h'
end
theorem AC.of_wp {P:Program}{T:List TI}(q:lW P T){f:FuncId}{fn:Func}{c:Code}{args:List A}{h:ak}{dN:V->ak->Prop}(s:∀(ew:Array Value) (w:World),(callFunc f ew).run P w=.ok (.enter f ew) w) (u:P.funcs[f]?=some fn) (hb:fn.body=some c){n:Nat}(hn:fn.ntmps=n){m:List ResultVar}(x:fn.results.toList=m) (hl:Nat.ble args.length n=true)
  (hw:ah P c (bn T m dN) ⟨n,oT 0 args,[],h⟩):AC P f args h dN:=by
 subst hn x;have hl:=Nat.le_of_ble_eq_true hl;refine⟨s,fun j w ew hr o=>?_⟩;refine calls_of_wp u hb (wp_mono (hw j w [] _ ?_) ?_)
 ·have hlen:=o.length;refine⟨rfl,by simp; omega,fun t=>?_,⟨hr,⟨.nil,by simp,by simp⟩⟩⟩;refine AM (fun t=>(ew.toArray++Array.replicate (fn.ntmps-ew.toArray.size) undef).getD t undef) 0 args ew o (fun i v hv=>?_) t;rw [Nat.zero_add,Array.getD_eq_getD_getElem?,Array.getElem?_append];have:i<ew.length:=(List.getElem?_eq_some_iff.1 hv).1;simp [this];exact(List.getElem?_eq_some_iff.1 hv).2
 ·rintro e a' w' ⟨Q,j',R,⟨he,xs,h',y,z,B⟩,b,C⟩;obtain⟨k,E,F⟩:=AR q b fn.results.toList xs y;have G:∃v,(results fn a'.tmps).run P w'=.ok v w'/\bq j' w' [] (oU xs) v:=by
   refine⟨if h:k.toArray.size=1 then k.toArray[0] else .tuple k.toArray, ?_, ?_⟩
   ·unfold results;rw [Sem.run_bind,Array.mapM_eq_mapM_toList];rw [Sem.run_map];rw [show (List.mapM _ fn.results.toList:Sem (List Value))=List.mapM (fun r=>(match r with|.tmp t=>pure (a'.tmps.getD t undef)|.cell t ty=>do loadVar ty (<- asAddr (a'.tmps.getD t undef)):Sem Value)) fn.results.toList from by
     congr 1]
    rw [E];simp [Result.andThen]
   ·cases F with
    | nil=>exact⟨[],rfl,.nil⟩
    | cons h1 H =>
     cases H with
     | nil=>simpa [oU,bq] using h1
     | cons I J=>exact⟨_,by simp,.cons h1 (.cons I J)⟩
  obtain⟨v,hv,K⟩:=G;obtain⟨L,M⟩:=b.hl.trim 0;obtain⟨N,O⟩:=L.forget z;have p:∃r cv g l,Ending.returned v=.returned cv/\dN r l/\bq g w' [] r cv/\fC g w' l/\bQ j w (bg j h []) g w' (bg g l []) :=
   ⟨oU xs,v,j',h',rfl,B,K,N.1,(C.trans M).trans O⟩
  rcases he with he|he<;>subst he
  ·exact⟨b.defers,v,hv,p⟩
  ·exact⟨b.defers,v,hv,p⟩
end Go.Ab
/-
 The operations that leave the world alone.
-/
namespace Go.Ab
open Go Go.RowKit
variable {az:bC}
def nE (P:Program) (o:Oper) (ts:Ts) (ls:List (List D)) (h:ak) (fx:Fx) (v:V):Prop :=
 fx.wl=false/\fx.wh=false/\∀L H,(fx.rl=true->L=ls)->(fx.rh=true->H=h)->∀(j:J) (w:World) (jl:List Nat) (a:Act),HL j w jl L H ->
  (∀x,x∈o.op.operands->bq j w jl (ev ts x) (a.eval x))->∃cv,(execOp a.eval o).run P w=.ok (.value cv) w/\bq j w jl v cv
theorem nE.qQ {P:Program}{o:Oper}{ts:Ts}{ls:List (List D)}{h:ak}{fx:Fx}{v:V}(b:nE P o ts ls h fx v):aq P o ts ls h fx v ls h:=by
 obtain⟨h1,f,b⟩:=b;intro L H g hH j w jl a hl i K Q hk;rw [h1,Bool.or_false] at g;rw [f,Bool.or_false] at hH;obtain⟨cv,hr,hv⟩:=b L H g hH j w jl a hl i;unfold Oper.wp;rw [hr,Oper.upon_value];exact hk v L H cv j w jl ⟨rfl,by rw [h1]; rfl,by rw [f]; rfl⟩ hv hl (Ext.refl _) (bQ.refl _ _ _)
section
variable {P:Program}{ts:Ts}{ls:List (List D)}{h:ak}{dst:Option Tmp}{ty:TypeId}{pos:String}{aC:Array Edge}{g:Option (Nat×Bool)}
abbrev mk (dst:Option Tmp) (op:Op) (ty:TypeId) (pos:String) (aC:Array Edge) (g:Option (Nat×Bool)):Oper:=⟨dst,op,ty,pos,aC,g⟩
theorem aq.cQ {o:Oper}{v:V}(b:∀(j:J) (w:World) (jl:List Nat) (a:Act),(∀x,x∈o.op.operands->bq j w jl (ev ts x) (a.eval x))->∃cv,(execOp a.eval o).run P w=.ok (.value cv) w/\bq j w jl v cv) :
  aq P o ts ls h {} v ls h :=
 nE.qQ ⟨rfl,rfl,fun _ _ _ _ j w jl a _ f=>b j w jl a f⟩
theorem jb {j:J}{w:World}{jl:List Nat}{b:Bool}{cv:Value}(h:bq j w jl (.a (.d (.bool b))) cv):cv=.bool b:=by
 have h':aD j w (.bool b) cv:=h;cases h'; rfl
theorem gh {j:J}{w:World}{jl:List Nat}{k:IntKind}{n:Int}{cv:Value}(h:bq j w jl (.a (.d (.int k n))) cv):cv=.int k n:=by
 have h':aD j w (.int k n) cv:=h;cases h'; rfl
theorem gH {j:J}{w:World}{jl:List Nat}{s:List UInt8}{cv:Value}(h:bq j w jl (.a (.d (.str s))) cv):cv=.string ⟨s.toArray⟩/\s.length<=gD:=by
 have h':aD j w (.str s) cv:=h;cases h' with
 | str _ b=>exact⟨rfl,b⟩
theorem vr {j:J}{w:World}{jl:List Nat}{i off:Nat}{cv:Value}(h:bq j w jl (.cW i off) cv):∃b,jl[i]?=some b/\cv=.pointer (some ⟨b,off,none⟩):=h
theorem AS {j:J}{w:World}{jl:List Nat}{xs:List D}{cv:Value}(h:bq j w jl (.a (.d (.view xs))) cv):∃a f,cv=.pointer (some a)/\At j w a xs.length f/\∀i (h:i<xs.length),aD j w xs[i] (f i):=by
 have h':aD j w (.view xs) cv:=h;cases h' with
 | view _ a f bM hr=>exact⟨a,f,rfl,bM,hr⟩
theorem sP {j:J}{w:World}{jl:List Nat}{id off:Nat}{cv:Value}(h:bq j w jl (.a (.d (.ptr id off))) cv):cv=.pointer (some ⟨j.out id,off,none⟩)/\id<j.next:=by
 have h':aD j w (.ptr id off) cv:=h;cases h' with
 | ptr _ _ hi=>exact⟨rfl,hi⟩
theorem aq.move {x:Operand}{v:V}(hx:ev ts x=v):aq P (mk dst (.move x) ty pos aC g) ts ls h {} v ls h :=
 aq.cQ fun j w jl a b=>⟨a.eval x,rfl,hx▸b x (by simp [Op.operands])⟩
theorem aq.assign {x:Operand}{v:V}(hx:ev ts x=v):aq P (mk dst (.assign x) ty pos aC g) ts ls h {} v ls h :=
 aq.cQ fun j w jl a b=>⟨a.eval x,rfl,hx▸b x (by simp [Op.operands])⟩
theorem At.cells {j:J}{w:World}{a:Addr}{xs:List D}{f:Nat->Value}(bM:At j w a xs.length f) (hr:∀i (h:i<xs.length),aD j w xs[i] (f i)):Cells j w a.block a.off xs:=by
 intro i x hx;have hi:=(List.getElem?_eq_some_iff.1 hx).1;refine⟨f i,(bM.2 i hi).2, ?_⟩;have:=hr i hi;rw [(List.getElem?_eq_some_iff.1 hx).2] at this; exact this
theorem aq.vt {t:TypeId}{f:TI}{x:Operand}{i off:Nat}{xs:List D}{v:A}(o:aR P t=some f) (hk:f.k.oP=false) (hx:ev ts x=.cW i off) (hl:ls[i]?=some xs) (hv:oR f xs off=some v) :
  aq P (mk dst (.load t x) ty pos aC g) ts ls h { rl:=true } (.a v) ls h :=
 nE.qQ ⟨rfl,rfl,fun L H p _ j w jl a hh q=>by
  have h1:=q x (by simp [Op.operands]);rw [hx] at h1;obtain⟨b,hb,e⟩:=vr h1;rw [p rfl] at hh;obtain⟨b',l,r⟩:=hh.2.each.get hl;rw [hb] at l; simp only [Option.some.injEq] at l; subst l;obtain⟨cv,m,s⟩:=sO (P:=P) r.cells o (K.oQ hk) hv;rw [Nat.zero_add] at m;exact⟨cv,by simp [execOp,Instr.loadAt,Instr.sureAddr,e,m],s⟩⟩
theorem aq.dH {t:TypeId}{i:TI}{x:Operand}{xs:List D}{v:A}(m:aR P t=some i) (hk:i.k.oP=false) (hx:ev ts x=.a (.d (.view xs))) (hv:oR i xs 0=some v) :
  aq P (mk dst (.load t x) ty pos aC g) ts ls h {} (.a v) ls h :=
 aq.cQ fun j w jl a o=>by
  have h1:=o x (by simp [Op.operands]);rw [hx] at h1;obtain⟨b,f,e,bM,hr⟩:=AS h1;obtain⟨cv,l,p⟩:=sO (P:=P) (bM.cells hr) m (K.oQ hk) hv;have he:b=⟨b.block,b.off+0,none⟩:=by
   have:=bM.1;cases b; simp at this; simp [this]
  rw [<- he] at l;exact⟨cv,by simp [execOp,Instr.loadAt,Instr.sureAddr,e,l],p⟩
theorem gb.cells {j:J}{w:World}{id:Nat}{xs:List D}(h:gb j w id (.cells xs)):jN j w (j.out id) xs:=h
theorem aq.b7 {t:TypeId}{b:TI}{x:Operand}{id off:Nat}{xs:List D}{v:A}(i:aR P t=some b) (hk:b.k.oP=false) (hx:ev ts x=.a (.d (.ptr id off))) (hh:h id=some (.cells xs)) (hv:oR b xs off=some v) :
  aq P (mk dst (.load t x) ty pos aC g) ts ls h { rh:=true } (.a v) ls h :=
 nE.qQ ⟨rfl,rfl,fun L H _ hH j w jl a hl l=>by
  have h1:=l x (by simp [Op.operands]);rw [hx] at h1;obtain⟨e,_⟩:=sP h1;rw [hH rfl] at hl;obtain⟨cv,f,m⟩:=sO (P:=P) (hl.1.obj id _ hh).2.cells.cells i (K.oQ hk) hv;rw [Nat.zero_add] at f;exact⟨cv,by simp [execOp,Instr.loadAt,Instr.sureAddr,e,f],m⟩⟩
theorem vu {P:Program}{t:TypeId}{g:TI}{fs:List (Nat×TypeId)}(j:aR P t=some g) (hk:g.k=.struct fs) :
  ∃gs:Array Field,P.underlying t=some (.struct gs)/\gs.toList.map (fun f=>(f.offset,f.type))=fs:=by
 obtain⟨i,d,h1,l,_,_,b,_⟩:=eP j;rw [hk] at b;cases d<;>simp [ep] at b;exact⟨_,l,b⟩
theorem vv {P:Program}{t:TypeId}{i j:TI}{fs:List (Nat×TypeId)}{f o:Nat}{g:TypeId}(l:aR P t=some i) (hk:i.k=.struct fs) (b:fs[f]?=some (o,g)) (m:aR P g=some j) (p:j.size≠0)
  (a:Addr) (w:World):(Instr.fieldAt t (.pointer (some a)) f).run P w=.ok (.pointer (some (a.add o))) w:=by
 obtain⟨gs,hu,he⟩:=vu l hk;have hg:∃fd:Field,gs[f]?=some fd/\fd.offset=o/\fd.type=g:=by
  rw [<- he,List.getElem?_map] at b;cases e:gs.toList[f]? with
  | none=>rw [e] at b; simp at b
  | some fd=>rw [e] at b; simp at b; exact⟨fd,by simpa using e,b.1,b.2⟩
 obtain⟨fd,h1,q,r⟩:=hg;simp [Instr.fieldAt,dY hu,h1,Instr.sureAddr,fieldPlace,r,gG m,p,q]
theorem aq.AT {t:TypeId}{l m:TI}{fs:List (Nat×TypeId)}{x:Operand}{f o i off:Nat}{p:TypeId}(r:aR P t=some l) (hk:l.k=.struct fs) (s:fs[f]?=some (o,p)) (u:aR P p=some m)
  (q:Nat.beq m.size 0=false) (hx:ev ts x=.cW i off):aq P (mk dst (.fieldAddr t x f) ty pos aC g) ts ls h {} (.cW i (off+o)) ls h :=
 aq.cQ fun j w jl a v=>by
  have h1:=v x (by simp [Op.operands]);rw [hx] at h1;obtain⟨b,hb,e⟩:=vr h1;exact⟨.pointer (some ⟨b,off+o,none⟩),by simp [execOp,e,vv r hk s u (fun e=>by rw [e] at q; simp at q),add_plain],b,hb,rfl⟩
theorem aq.bP {t:TypeId}{b i:TI}{fs:List (Nat×TypeId)}{x:Operand}{f o id off:Nat}{l:TypeId}(p:aR P t=some b) (hk:b.k=.struct fs) (q:fs[f]?=some (o,l)) (r:aR P l=some i)
  (m:Nat.beq i.size 0=false) (hx:ev ts x=.a (.d (.ptr id off))):aq P (mk dst (.fieldAddr t x f) ty pos aC g) ts ls h {} (.a (.d (.ptr id (off+o)))) ls h :=
 aq.cQ fun j w jl a s=>by
  have h1:=s x (by simp [Op.operands]);rw [hx] at h1;obtain⟨e,hi⟩:=sP h1;exact⟨.pointer (some ⟨j.out id,off+o,none⟩),by simp [execOp,e,vv p hk q r (fun e=>by rw [e] at m; simp at m),add_plain],aD.ptr _ _ hi⟩
theorem aD.GB {j:J}{w:World}{xs:List D}{a:Addr}{f:Nat->Value}(bM:At j w a xs.length f) (hr:∀i (h:i<xs.length),aD j w xs[i] (f i)) (n:Nat):aD j w (.view (xs.drop n)) (.pointer (some (a.add n))):=by
 have b:a=⟨a.block,a.off,none⟩:=by have:=bM.1; cases a; simp at this; simp [this]
 rw [b,add_plain];refine aD.view (xs.drop n) _ (fun i=>f (n+i)) ⟨rfl,fun i hi=>?_⟩ fun i hi=>?_
 ·simp only [List.length_drop] at hi;have:=bM.2 (n+i) (by omega);rw [<- Nat.add_assoc] at this; exact this
 ·simp only [List.length_drop] at hi;have:=hr (n+i) (by omega)
  simpa using this
theorem aq.GC {t:TypeId}{b i:TI}{fs:List (Nat×TypeId)}{x:Operand}{f o:Nat}{xs ys:List D}{l:TypeId}(p:aR P t=some b) (hk:b.k=.struct fs) (q:fs[f]?=some (o,l)) (r:aR P l=some i)
  (m:Nat.beq i.size 0=false) (hx:ev ts x=.a (.d (.view xs))) (s:xs.drop o=ys):aq P (mk dst (.fieldAddr t x f) ty pos aC g) ts ls h {} (.a (.d (.view ys))) ls h :=
 aq.cQ fun j w jl a u=>by
  have h1:=u x (by simp [Op.operands]);rw [hx] at h1;obtain⟨v,y,e,bM,hr⟩:=AS h1;subst s;exact⟨_,by simp [execOp,e,vv p hk q r (fun e=>by rw [e] at m; simp at m)],aD.GB bM hr o⟩
theorem lX {j:J}{w:World}{jl:List Nat}{k:Nat}{tok:Option Nat}{nl:Bool}{rows:List (List D)}{cv:Value}(h:bq j w jl (.a (.d (.slice k tok nl rows))) cv) :
  ∃a cap,cv=.slice a rows.length cap/\rows.length<=cq/\rows.length<=cap/\(nl=a.isNone)/\(a=none->cap=0/\rows=[])/\(∀r,r∈rows->r.length=k) /\
   ∀b,a=some b->oI j tok rows.length b cap/\∃f,nx j w b rows f/\∀i (h:i<rows.flatten.length),aD j w rows.flatten[i] (f i):=by
 have h':aD j w (.slice k tok nl rows) cv:=h;cases h' with
 | eU _ _ ht=>exact⟨none,0,rfl,by simp [cq],by simp,rfl,fun _=>⟨rfl,rfl⟩,by simp,by simp⟩
 | slice _ _ _ a cap f hk hn hc bM hr ht=>exact⟨some a,cap,rfl,hn,hc,rfl,by simp,hk,fun b e=>by simp at e; subst e; exact⟨ht,f,bM,hr⟩⟩
theorem jc {rows:List (List D)}{k:Nat}(hk:∀r∈rows,r.length=k):rows.flatten.length=rows.length*k/\∀i row,rows[i]?=some row->∀n,n<k->rows.flatten[i*k+n]?=row[n]?:=by
 induction rows with
 | nil=>simp
 | cons r g b =>
  have hr:r.length=k:=hk r (by simp);obtain⟨h1,f⟩:=b fun x hx=>hk x (by simp [hx]);refine⟨by simp [h1,hr,Nat.succ_mul,Nat.add_comm],fun i row hi n hn=>?_⟩;cases i with
  | zero =>
   simp at hi; subst hi;rw [List.flatten_cons,Nat.zero_mul,Nat.zero_add,List.getElem?_append_left (by omega)]
  | succ i =>
   simp only [List.getElem?_cons_succ] at hi;rw [List.flatten_cons,List.getElem?_append_right (by rw [hr,Nat.succ_mul]; omega)];rw [show (i+1)*k+n-r.length=i*k+n by rw [hr,Nat.succ_mul]; omega];exact f i row hi n hn
theorem GD {j:J}{w:World}{k:Nat}{rows:List (List D)}{b:Addr}{f:Nat->Value}(hk:∀r∈rows,r.length=k) (bM:nx j w b rows f) (hr:∀i (h:i<rows.flatten.length),aD j w rows.flatten[i] (f i))
  {i:Nat}{row:List D}(hi:rows[i]?=some row):aD j w (.view row) (.pointer (some (b.add (i*k)))):=by
 obtain⟨h1,m⟩:=jc hk;have hlen:row.length=k:=hk row (List.mem_of_getElem? hi);have hb:b=⟨b.block,b.off,none⟩:=by have:=bM.1.resolve_left (fun e=>by rw [e] at hi; simp at hi); cases b; simp at this; simp [this]
 have aT:i<rows.length:=(List.getElem?_eq_some_iff.1 hi).1;have hle:i*k+k<=rows.flatten.length:=by
  rw [h1,<- Nat.succ_mul]; exact Nat.mul_le_mul_right k aT
 rw [hb,add_plain];refine aD.view row _ (fun n=>f (i*k+n)) ⟨rfl,fun n hn=>?_⟩ fun n hn=>?_
 ·have:=bM.2 (i*k+n) (by omega);rw [<- Nat.add_assoc] at this; exact this
 ·have l:=hr (i*k+n) (by omega);have g:=m i row hi n (by omega);rw [List.getElem?_eq_getElem (by omega),List.getElem?_eq_getElem hn] at g;simp only [Option.some.injEq] at g;rw [g] at l; exact l
theorem kD {P:Program}{t:TypeId}{f:TI}{e:TypeId}(g:aR P t=some f) (hk:f.k=.slice e):P.underlying t=some (.slice e):=by
 obtain⟨i,d,h1,j,_,_,b,_⟩:=eP g;rw [hk] at b;cases d<;>simp [ep] at b;subst b; exact j
theorem aq.AU {t e:TypeId}{i l:TI}{x ix:Operand}{tok:Option Nat}{nl:Bool}{rows:List (List D)}{p:IntKind}{n:Int}{row:List D}{k:Nat}(q:aR P t=some i) (hk:i.k=.slice e) (r:aR P e=some l)
  (hx:ev ts x=.a (.d (.slice k tok nl rows))) (hi:ev ts ix=.a (.d (.int p n))) (s:k=l.size) (h0:0<=n) (hr:rows[n.toNat]?=some row) :
  aq P (mk dst (.indexAddr t x ix) ty pos aC g) ts ls h {} (.a (.d (.view row))) ls h :=
 aq.cQ fun j w jl a m=>by
  have h1:=m x (by simp [Op.operands]);have o:=m ix (by simp [Op.operands]);rw [hx] at h1; rw [hi] at o;obtain⟨b,cap,u,hn,hc,E,v,y,hb⟩:=lX h1;have aT:n.toNat<rows.length:=(List.getElem?_eq_some_iff.1 hr).1;cases b with
  | none=>obtain⟨_,z⟩:=v rfl; rw [z] at aT; simp at aT
  | some b =>
   obtain⟨_,f,bM,B⟩:=hb b rfl;refine⟨_, ?_,GD y bM B hr⟩;have C:n<(rows.length:Int):=by omega
   simp [execOp,u,gh o,Instr.indexAt,asIntOf,dY (kD q hk),gG r,h0,C,s]
end
end Go.Ab
/-
 Arithmetic,comparisons,lengths,structs.
-/
namespace Go.Ab
open Go Go.RowKit
variable {az:bC}
section
variable {P:Program}{ts:Ts}{ls:List (List D)}{h:ak}{dst:Option Tmp}{ty:TypeId}{pos:String}{aC:Array Edge}{g:Option (Nat×Bool)}
theorem vw {op:BinOp}{t:TypeId}{x y:Operand}{k:IntKind}{m n:Int}(w:World):(eqGuard op t x y (.int k m) (.int k n)).run P w=.ok () w:=by
 unfold eqGuard;cases op<;>simp
theorem AV {op:BinOp}{t:TypeId}{x y:Operand}{m n:ByteArray}(w:World):(eqGuard op t x y (.string m) (.string n)).run P w=.ok () w:=by
 unfold eqGuard;cases op<;>simp
theorem GF {op:BinOp}{t:TypeId}{x y:Operand}{m n:Bool}(w:World):(eqGuard op t x y (.bool m) (.bool n)).run P w=.ok () w:=by
 unfold eqGuard;cases op<;>simp
def qR (op:BinOp) (k:IntKind) (m n:Int):Option D :=
 match op with
 | .add=>some (.int k (k.wrap (m+n)))
 | .sub=>some (.int k (k.wrap (m-n)))
 | .mul=>some (.int k (k.wrap (m*n)))
 | .eql=>some (.bool (decide (m=n)))
 | .neq=>some (.bool (!decide (m=n)))
 | .lss=>some (.bool (decide (m<n)))
 | .leq=>some (.bool (decide (m<=n)))
 | .gtr=>some (.bool (decide (n<m)))
 | .geq=>some (.bool (decide (n<=m)))
 | _=>none
theorem GG {op:BinOp}{t:TypeId}{k:IntKind}{m n:Int}{r:D}(hr:qR op k m n=some r) (w:World):∃cv,(binOp op t (.int k m) (.int k n)).run P w=.ok cv w/\∀j w,aD j w r cv:=by
 cases op<;>simp only [qR,Option.some.injEq] at hr<;>first|(subst hr)|(cases hr; done)
 ·exact⟨_,by simp [binOp,Op.intArith],fun _ _=>.int _ _⟩
 ·exact⟨_,by simp [binOp,Op.intArith],fun _ _=>.int _ _⟩
 ·exact⟨_,by simp [binOp,Op.intArith],fun _ _=>.int _ _⟩
 ·exact⟨.bool (decide (m=n)),by simp [binOp,Op.intCmp]; first|rfl|(by_cases e:m=n<;>simp [e]),fun _ _=>.bool _⟩
 ·exact⟨.bool (!decide (m=n)),by simp [binOp,Op.intCmp]; first|rfl|(by_cases e:m=n<;>simp [e]),fun _ _=>.bool _⟩
 ·exact⟨.bool (decide (m<n)),by simp [binOp,Op.intCmp],fun _ _=>.bool _⟩
 ·exact⟨.bool (decide (m<=n)),by simp [binOp,Op.intCmp],fun _ _=>.bool _⟩
 ·exact⟨.bool (decide (n<m)),by simp [binOp,Op.intCmp],fun _ _=>.bool _⟩
 ·exact⟨.bool (decide (n<=m)),by simp [binOp,Op.intCmp],fun _ _=>.bool _⟩
theorem aq.vz {op:BinOp}{t u:TypeId}{x y:Operand}{k:IntKind}{m n:Int}{r:D}(hx:ev ts x=.a (.d (.int k m))) (i:ev ts y=.a (.d (.int k n))) (hr:qR op k m n=some r) :
  aq P (mk dst (.binOp op t x y u) ty pos aC g) ts ls h {} (.a (.d r)) ls h :=
 aq.cQ fun j w jl a b=>by
  have h1:=b x (by simp [Op.operands]);have f:=b y (by simp [Op.operands]);rw [hx] at h1; rw [i] at f;obtain⟨cv,l,o⟩:=GG (P:=P) (t:=t) hr w;exact⟨cv,by simp [execOp,gh h1,gh f,vw,l],o j w⟩
theorem aq.AW {t u:TypeId}{x y:Operand}{m n:Int}(hx:ev ts x=.a (.d (.int .i64 m))) (b:ev ts y=.a (.d (.int .i64 n))) (h1 : -9223372036854775808<=m+n) (f:m+n<=9223372036854775807) :
  aq P (mk dst (.binOp .add t x y u) ty pos aC g) ts ls h {} (.a (.d (.int .i64 (m+n)))) ls h :=
 aq.vz hx b (by simp only [qR,Option.some.injEq,D.int.injEq,true_and]; simp only [IntKind.wrap,IntKind.bits,IntKind.signed]; simp; omega)
theorem aq.GH {t u:TypeId}{x y:Operand}{m n:Int}(hx:ev ts x=.a (.d (.int .i64 m))) (b:ev ts y=.a (.d (.int .i64 n))) (h1 : -9223372036854775808<=m-n) (f:m-n<=9223372036854775807) :
  aq P (mk dst (.binOp .sub t x y u) ty pos aC g) ts ls h {} (.a (.d (.int .i64 (m-n)))) ls h :=
 aq.vz hx b (by simp only [qR,Option.some.injEq,D.int.injEq,true_and]; simp only [IntKind.wrap,IntKind.bits,IntKind.signed]; simp; omega)
def vA (op:BinOp) (s t:List UInt8):Option D :=
 match op with
 | .eql=>some (.bool (s==t))
 | .neq=>some (.bool (!(s==t)))
 | .lss=>some (.bool (Op.bytesLess s t))
 | .leq=>some (.bool (Op.bytesLess s t||s==t))
 | .gtr=>some (.bool (!(Op.bytesLess s t||s==t)))
 | .geq=>some (.bool (!Op.bytesLess s t))
 | _=>none
theorem GI {op:BinOp}{t:TypeId}{a b:List UInt8}{r:D}(hr:vA op a b=some r) (w:World):∃cv,(binOp op t (.string ⟨a.toArray⟩) (.string ⟨b.toArray⟩)).run P w=.ok cv w/\∀j w,aD j w r cv:=by
 cases op<;>simp only [vA,Option.some.injEq] at hr<;>first|(subst hr)|(cases hr; done)
 all_goals exact⟨_,by simp [binOp,Op.stringOp,ByteArray.toList_mk],fun _ _=>.bool _⟩
theorem aq.GJ {op:BinOp}{t u:TypeId}{x y:Operand}{a b:List UInt8}{r:D}(hx:ev ts x=.a (.d (.str a))) (k:ev ts y=.a (.d (.str b))) (hr:vA op a b=some r) :
  aq P (mk dst (.binOp op t x y u) ty pos aC g) ts ls h {} (.a (.d r)) ls h :=
 aq.cQ fun j w jl act f=>by
  have h1:=f x (by simp [Op.operands]);have i:=f y (by simp [Op.operands]);rw [hx] at h1; rw [k] at i;obtain⟨cv,l,m⟩:=GI (P:=P) (t:=t) hr w;exact⟨cv,by simp [execOp,(gH h1).1,(gH i).1,AV,l],m j w⟩
theorem aq.concat {t u:TypeId}{x y:Operand}{a b:List UInt8}(hx:ev ts x=.a (.d (.str a))) (l:ev ts y=.a (.d (.str b))) (hl:a.length+b.length<=gD) :
  aq P (mk dst (.binOp .add t x y u) ty pos aC g) ts ls h {} (.a (.d (.str (a++b)))) ls h :=
 aq.cQ fun j w jl act f=>by
  have h1:=f x (by simp [Op.operands]);have i:=f y (by simp [Op.operands]);rw [hx] at h1; rw [l] at i;refine⟨.string ⟨(a++b).toArray⟩, ?_,aD.str _ (by simpa using hl)⟩;have aT:(⟨a.toArray⟩:ByteArray).size+(⟨b.toArray⟩:ByteArray).size<=9223372036854775807:=by
   show a.toArray.size+b.toArray.size<=_; simp only [List.size_toArray]; unfold gD at hl; omega
  have k:=run_string_add_sum (P:=P) w ⟨a.toArray⟩ ⟨b.toArray⟩ aT;have e:(⟨a.toArray⟩:ByteArray)++⟨b.toArray⟩=⟨(a++b).toArray⟩:=by
   apply ByteArray.ext; simp
  rw [e] at k;simp [execOp,(gH h1).1,(gH i).1,AV,binOp,k]
theorem aq.GK {t u:TypeId}{l:TI}{x y:Operand}{a b:Bool}(p:aR P t=some l) (hk:l.k=.bool) (hx:ev ts x=.a (.d (.bool a))) (q:ev ts y=.a (.d (.bool b))) :
  aq P (mk dst (.binOp .neq t x y u) ty pos aC g) ts ls h {} (.a (.d (.bool (!(a==b))))) ls h :=
 aq.cQ fun j w jl act m=>by
  have h1:=m x (by simp [Op.operands]);have f:=m y (by simp [Op.operands]);rw [hx] at h1; rw [q] at f;have hu:P.underlying t=some .bool:=by
   obtain⟨i,d,_,f,_,_,o,_⟩:=eP p;rw [hk] at o;cases d<;>simp [ep] at o;exact f
  exact⟨_,by simp [execOp,jb h1,jb f,GF,run_neq_bool w t a b hu],aD.bool _⟩
theorem aq.GL {t:TypeId}{x:Operand}{b:Bool}(hx:ev ts x=.a (.d (.bool b))):aq P (mk dst (.unOp .not t x) ty pos aC g) ts ls h {} (.a (.d (.bool (!b)))) ls h :=
 aq.cQ fun j w jl act f=>by
  have h1:=f x (by simp [Op.operands]);rw [hx] at h1;exact⟨_,by simp [execOp,jb h1,Op.unary],aD.bool _⟩
theorem aq.GM {t:TypeId}{x:Operand}{k:IntKind}{n:Int}(hx:ev ts x=.a (.d (.int k n))):aq P (mk dst (.unOp .neg t x) ty pos aC g) ts ls h {} (.a (.d (.int k (k.wrap (0-n))))) ls h :=
 aq.cQ fun j w jl act b=>by
  have h1:=b x (by simp [Op.operands]);rw [hx] at h1;exact⟨_,by simp [execOp,gh h1,Op.unary,Op.intArith],aD.int _ _⟩
theorem aq.GN {t e:TypeId}{f:TI}{x:Operand}{cR:Array TypeId}{k:Nat}{tok:Option Nat}{nl:Bool}{rows:List (List D)}(i:aR P t=some f) (hk:f.k=.slice e) (bM:cR[0]?=some t)
  (hx:ev ts x=.a (.d (.slice k tok nl rows))):aq P (mk dst (.call { callee:=.builtin .len,args:=#[x],argTypes:=cR }) ty pos aC g) ts ls h {} (.a (.d (.int .i64 (rows.length:Int)))) ls h :=
 aq.cQ fun j w jl act l=>by
  have h1:=l x (by simp [Op.operands,Call.operands]);rw [hx] at h1;obtain⟨b,cap,m,_⟩:=lX h1;exact⟨_,by simp [execOp,resolve,invoke,builtin,m,Builtin.len_,bM,dY (kD i hk),goInt],aD.int _ _⟩
theorem oV {P:Program}{t:TypeId}{b:TI}(g:aR P t=some b) (hk:b.k=.str):P.underlying t=some .string:=by
 obtain⟨i,d,h1,j,_,_,f,_⟩:=eP g;rw [hk] at f;cases d<;>simp [ep] at f;exact j
theorem size_mk (s:List UInt8):(⟨s.toArray⟩:ByteArray).size=s.length:=by
 show s.toArray.size=s.length;simp
theorem aq.sQ {t:TypeId}{b:TI}{x:Operand}{cR:Array TypeId}{s:List UInt8}(f:aR P t=some b) (hk:b.k=.str) (bM:cR[0]?=some t)
  (hx:ev ts x=.a (.d (.str s))):aq P (mk dst (.call { callee:=.builtin .len,args:=#[x],argTypes:=cR }) ty pos aC g) ts ls h {} (.a (.d (.int .i64 (s.length:Int)))) ls h :=
 aq.cQ fun j w jl act i=>by
  have h1:=i x (by simp [Op.operands,Call.operands]);rw [hx] at h1;refine⟨_, ?_,aD.int _ _⟩;simp [execOp,resolve,invoke,builtin,(gH h1).1,Builtin.len_,bM,dY (oV f hk),goInt,size_mk]
theorem aq.GO {t:TypeId}{f:TI}{x ix:Operand}{s:List UInt8}{i:IntKind}{n:Int}{c:UInt8}(o:aR P t=some f) (hk:f.k=.str) (hx:ev ts x=.a (.d (.str s))) (hi:ev ts ix=.a (.d (.int i n)))
  (h0:0<=n) (hc:s[n.toNat]?=some c):aq P (mk dst (.index t x ix) ty pos aC g) ts ls h {} (.a (.d (.int .u8 (c.toNat:Int)))) ls h :=
 aq.cQ fun j w jl act l=>by
  have h1:=l x (by simp [Op.operands]);have m:=l ix (by simp [Op.operands]);rw [hx] at h1; rw [hi] at m;have aT:n.toNat<s.length:=(List.getElem?_eq_some_iff.1 hc).1;have b:=run_index_string (P:=P) w t ⟨s.toArray⟩ i n (oV o hk);rw [dif_pos ⟨h0,by rw [size_mk]; omega⟩] at b;refine⟨_, ?_,aD.int _ _⟩;have hb:(⟨s.toArray⟩:ByteArray)[n.toNat]'(by rw [size_mk]; omega)=c:=by
   have:=(List.getElem?_eq_some_iff.1 hc).2;rw [<- this]; rfl
  rw [hb] at b;simp [execOp,(gH h1).1,gh m,b]
def cut (s:List UInt8) (l r:Nat):List UInt8:=(s.drop l).take (r-l)
theorem extract_mk (s:List UInt8) (l r:Nat):(⟨s.toArray⟩:ByteArray).extract l r=⟨(cut s l r).toArray⟩:=by
 apply ByteArray.ext
 apply Array.ext'
 simp [cut]
def OT (ts:Ts):Option Operand->Option Nat
 | none=>some 0
 | some x=>match ev ts x with
  | .a (.d (.int _ n))=>if 0<=n then some n.toNat else none
  | _=>none
theorem lY {ts:Ts}{j:J}{w:World}{jl:List Nat}{act:Act}{x:Operand}{k:IntKind}{n:Int}{cap:Nat}(hx:ev ts x=.a (.d (.int k n))) (b:bq j w jl (ev ts x) (act.eval x)) (h0:0<=n) (h1:n<=(cap:Int)) (code:BoundsCode) :
  (Instr.sliceBound (act.eval x) cap code).run P w=.ok n.toNat w:=by
 rw [hx] at b;rw [gh b];exact run_sliceBound w k n cap code h0 h1
theorem aq.GP {t:TypeId}{i:TI}{x lo hi:Operand}{s:List UInt8}{k k':IntKind}{l r:Int}(m:aR P t=some i) (hk:i.k=.str) (hx:ev ts x=.a (.d (.str s))) (hl:ev ts lo=.a (.d (.int k l))) (hh:ev ts hi=.a (.d (.int k' r)))
  (h0:0<=l) (h1:l<=r) (o:r<=(s.length:Int)):aq P (mk dst (.slice t x (some lo) (some hi) none) ty pos aC g) ts ls h {} (.a (.d (.str (cut s l.toNat r.toNat)))) ls h :=
 aq.cQ fun j w jl act b=>by
  have f:=b x (by simp [Op.operands]);have p:=lY (P:=P) (cap:=r.toNat) hl (b lo (by simp [Op.operands])) h0 (by omega) .sliceB;have q:=lY (P:=P) (cap:=s.length) hh (b hi (by simp [Op.operands])) (by omega) o .sliceAlen;rw [hx] at f;refine⟨.string ⟨(cut s l.toNat r.toNat).toArray⟩, ?_,aD.str _ (by have:=(gH f).2; simp [cut]; omega)⟩;simp [execOp,(gH f).1,Instr.sliceAt,Instr.slice,Instr.sliceBounds,dY (oV m hk),size_mk,p,q]
  exact extract_mk _ _ _
theorem aq.sG {t:TypeId}{f:TI}{x lo:Operand}{s:List UInt8}{k:IntKind}{l:Int}(m:aR P t=some f) (hk:f.k=.str) (hx:ev ts x=.a (.d (.str s))) (hl:ev ts lo=.a (.d (.int k l)))
  (h0:0<=l) (h1:l<=(s.length:Int)):aq P (mk dst (.slice t x (some lo) none none) ty pos aC g) ts ls h {} (.a (.d (.str (s.drop l.toNat)))) ls h :=
 aq.cQ fun j w jl act i=>by
  have b:=i x (by simp [Op.operands]);have o:=lY (P:=P) (cap:=s.length) hl (i lo (by simp [Op.operands])) h0 h1 .sliceB;rw [hx] at b;refine⟨.string ⟨(s.drop l.toNat).toArray⟩, ?_,aD.str _ (by have:=(gH b).2; simp; omega)⟩;simp [execOp,(gH b).1,Instr.sliceAt,Instr.slice,Instr.sliceBounds,dY (oV m hk),size_mk,o];rw [extract_mk]; unfold cut; rw [List.take_of_length_le (by simp)]
theorem aq.vj {t:TypeId}{f:TI}{x hi:Operand}{s:List UInt8}{k:IntKind}{r:Int}(l:aR P t=some f) (hk:f.k=.str) (hx:ev ts x=.a (.d (.str s))) (hh:ev ts hi=.a (.d (.int k r)))
  (h0:0<=r) (h1:r<=(s.length:Int)):aq P (mk dst (.slice t x none (some hi) none) ty pos aC g) ts ls h {} (.a (.d (.str (s.take r.toNat)))) ls h :=
 aq.cQ fun j w jl act i=>by
  have b:=i x (by simp [Op.operands]);have m:=lY (P:=P) (cap:=s.length) hh (i hi (by simp [Op.operands])) h0 h1 .sliceAlen;rw [hx] at b;refine⟨.string ⟨(s.take r.toNat).toArray⟩, ?_,aD.str _ (by have:=(gH b).2; simp; omega)⟩;simp [execOp,(gH b).1,Instr.sliceAt,Instr.slice,Instr.sliceBounds,dY (oV l hk),size_mk,m];rw [extract_mk]; simp [cut]
theorem aq.extract {x:Operand}{i:Nat}{xs:List A}{v:A}(hx:ev ts x=.dz xs) (hv:xs[i]?=some v):aq P (mk dst (.extract x i) ty pos aC g) ts ls h {} (.a v) ls h :=
 aq.cQ fun j w jl act b=>by
  have h1:=b x (by simp [Op.operands]);rw [hx] at h1;obtain⟨cs,e,hr⟩:=h1;obtain⟨cv,f,k⟩:=hr.get hv;exact⟨cv,by simp [execOp,Instr.extract,e,f],k⟩
theorem aq.e8 {x:Operand}{id off:Nat}(hx:ev ts x=.a (.d (.ptr id off))):aq P (mk dst (.nilCheck x) ty pos aC g) ts ls h {} (.a (.d (.ptr id off))) ls h :=
 aq.cQ fun j w jl act b=>by
  have h1:=b x (by simp [Op.operands]);rw [hx] at h1;obtain⟨e,hi⟩:=sP h1;exact⟨_,by simp [execOp,e],aD.ptr _ _ hi⟩
def AX (ts:Ts) (x:Operand):Option D:=match ev ts x with
 | .a (.d y)=>some y
 | _=>none
def qS (ts:Ts):List Operand->Option (List D)
 | []=>some []
 | x::r=>match AX ts x,qS ts r with
  | some y,some ys=>some (y::ys)
  | _,_=>none
theorem AY {j:J}{w:World}{jl:List Nat}{act:Act}:∀(l:List Operand) (xs:List D),qS ts l=some xs->(∀x,x∈l->bq j w jl (ev ts x) (act.eval x))->bf (aD j w) xs (l.map act.eval)
 | [],xs,h,_=>by simp [qS] at h; subst h; exact .nil
 | x::r,xs,h,f=>by
  simp only [qS] at h
  split at h
  ·rename_i y ys h1 g
   simp at h; subst h;refine .cons ?_ (AY r ys g fun z b=>f z (by simp [b]));have:=f x (by simp);unfold AX at h1
   split at h1
   ·rename_i z b; simp at h1; subst h1; rw [b] at this; exact this
   ·simp at h1
  ·simp at h
theorem aq.makeFunc {f:FuncId}{b_:Array Operand}{xs:List D}(hx:qS ts b_.toList=some xs):aq P (mk dst (.makeFunc (.func f) #[] b_) ty pos aC g) ts ls h {} (.a (.d (.func f xs))) ls h :=
 aq.cQ fun j w jl act k=>by
  have h1:=AY (j:=j) (w:=w) (jl:=jl) (act:=act) b_.toList xs hx fun x hx=>k x (by simp [Op.operands] at hx ⊢; exact hx);refine⟨.func (.func f) #[] (b_.toList.map act.eval).toArray, ?_,aD.func f xs _ h1.length fun i hi l=>?_⟩
  ·simp [execOp,Instr.makeFunc]
   apply Array.ext'; simp
  ·obtain⟨y,b,hr⟩:=h1.get (List.getElem?_eq_getElem hi);rw [List.getElem?_eq_getElem l] at b;simp only [Option.some.injEq] at b;rw [b]; exact hr
end
end Go.Ab
/-
 Structs and slices that are built,variables,objects,calls.
-/
namespace Go.Ab
open Go Go.RowKit
variable {az:bC}
inductive bN {α:Type}(x:α):List α->Nat->List α->Prop where
 | nil:bN x [] 0 [x]
 | cons {a:α}{l l':List α}{n:Nat}(h:bN x l n l'):bN x (a::l) (n+1) (a::l')
theorem bN.spec {α:Type}{x:α}{l l':List α}{n:Nat}(h:bN x l n l'):n=l.length/\l'=l++[x]:=by
 induction h with
 | nil=>exact⟨rfl,rfl⟩
 | cons _ b=>exact⟨by simp [b.1],by simp [b.2]⟩
inductive bL {α:Type}(x:α):List α->Nat->List α->Prop where
 | zero {a:α}{l:List α}:bL x (a::l) 0 (x::l)
 | succ {a:α}{l l':List α}{n:Nat}(h:bL x l n l'):bL x (a::l) (n+1) (a::l')
theorem bL.spec {α:Type}{x:α}{l l':List α}{n:Nat}(h:bL x l n l'):n<l.length/\l'=l.set n x:=by
 induction h with
 | zero=>exact⟨by simp,rfl⟩
 | succ _ b=>exact⟨by simp [b.1],by simp [b.2]⟩
theorem aq.of_run {P:Program}{o:Oper}{ts:Ts}{ls aH:List (List D)}{h h':ak}{fx:Fx}{v:V}
  (i:∀L H,((fx.rl||fx.wl)=true->L=ls)->((fx.rh||fx.wh)=true->H=h)->∀(j:J) (w:World) (jl:List Nat) (a:Act),HL j w jl L H->(∀x,x∈o.op.operands->bq j w jl (ev ts x) (a.eval x)) ->
   ∃r w' cv j' b,(execOp a.eval o).run P w=.ok r w'/\(r=.value cv\/(r=.skip/\cv=undef))/\bq j' w' b v cv/\HL j' w' b (bif fx.wl then aH else L) (bif fx.wh then h' else H)/\Ext jl b /\
    bQ j w (bg j H jl) j' w' (bg j' (bif fx.wh then h' else H) b)):aq P o ts ls h fx v aH h':=by
 intro L H k hH j w jl a hl l K Q hk;obtain⟨r,w',cv,j',b,m,hr,hv,f,hx,g⟩:=i L H k hH j w jl a hl l;unfold Oper.wp;rw [m];rcases hr with hr|⟨hr,hu⟩
 ·subst hr; rw [Oper.upon_value]; exact hk v _ _ cv j' w' b ⟨rfl,rfl,rfl⟩ hv f hx g
 ·subst hr; subst hu; rw [Oper.upon_skip]; exact hk v _ _ undef j' w' b ⟨rfl,rfl,rfl⟩ hv f hx g
theorem Ext.snoc (jl:List Nat) (b:Nat):Ext jl (jl++[b]):=fun i x hx=>by
 rw [List.getElem?_append_left (List.getElem?_eq_some_iff.1 hx).1]; exact hx
section
variable {P:Program}{ts:Ts}{ls:List (List D)}{h:ak}{dst:Option Tmp}{ty:TypeId}{pos:String}{aC:Array Edge}{g:Option (Nat×Bool)}
theorem aq.AZ {o:Oper}{e:TypeId}{x:A}{i:Nat}{aH:List (List D)}(f:bN (bZ x) ls i aH)
  (g:∀(j:J) (w:World) (jl:List Nat) (a:Act),(∀x,x∈o.op.operands->bq j w jl (ev ts x) (a.eval x))->∃v,cH j w x v/\(execOp a.eval o).run P w=.ok (.value (.pointer (some ⟨w.heap.size,0,none⟩))) (w.alloc (.cells v.cells e))) :
  aq P o ts ls h { wl:=true } (.cW i 0) aH h:=by
 refine aq.of_run fun L H k _ j w jl a hl l=>?_;obtain⟨m,p⟩:=f.spec;have q:=k rfl;subst q;obtain⟨v,hv,hr⟩:=g j w jl a l;obtain⟨h1,b⟩:=hl.loc v.cells.toList e (bZ x) hv.cells;rw [Array.toArray_toList] at h1 b;refine⟨_,_,.pointer (some ⟨w.heap.size,0,none⟩),j,jl++[w.heap.size],hr,.inl rfl,⟨w.heap.size, ?_,rfl⟩, ?_,Ext.snoc _ _,b⟩
 ·rw [m,hl.2.each.length]; simp
 ·rw [p]; exact h1
theorem aq.GQ {e:TypeId}{b:TI}{z:A}{i:Nat}{aH:List (List D)}(k:aR P e=some b) (l:b.zero=some z) (m:bN (bZ z) ls i aH) :
  aq P (mk dst (.alloc e) ty pos aC g) ts ls h { wl:=true } (.cW i 0) aH h:=by
 obtain⟨inf,d,h1,_,_,_,_,f⟩:=eP k;rw [l] at f;obtain⟨v,o,p⟩:=kC f;refine aq.AZ (e:=e) m fun j w jl a _=>⟨v,p j w, ?_⟩;simp [execOp,Instr.alloc,zeroValue,typeInfo,h1,o,newVar,newRow]
theorem aq.A2 {e:TypeId}{x:Operand}{y:A}{i:Nat}{aH:List (List D)}(hx:ev ts x=.a y) (b:bN (bZ y) ls i aH) :
  aq P (mk dst (.box e x) ty pos aC g) ts ls h { wl:=true } (.cW i 0) aH h :=
 aq.AZ (e:=e) b fun j w jl a f=>by
  have h1:=f x (by simp [Op.operands]);rw [hx] at h1;exact⟨a.eval x,h1,by simp [execOp,Instr.box,newVar,newRow]⟩
theorem aq.vB {t:TypeId}{f:TI}{x y:Operand}{i off:Nat}{xs:List D}{v:A}{aH:List (List D)}(p:aR P t=some f) (hx:ev ts x=.cW i off) (q:ev ts y=.a v) (hl:ls[i]?=some xs)
  (r:(bZ v).length=f.size) (hle:off+f.size<=xs.length) (s:bL (cN xs off (bZ v)) ls i aH) (J:dst=none):aq P (mk dst (.store t x y) ty pos aC g) ts ls h { wl:=true } .any aH h:=by
 refine aq.of_run fun L H u _ j w jl a hh m=>?_;have z:=u rfl;subst z;have h1:=m x (by simp [Op.operands]);have k:=m y (by simp [Op.operands]);rw [hx] at h1; rw [q] at k;obtain⟨b,hb,e⟩:=vr h1;obtain⟨b',l,cs,K,hg,o,B⟩:=hh.2.each.get hl;rw [hb] at l; simp only [Option.some.injEq] at l; subst l;obtain⟨w',C,E⟩:=AP (az:=az) (P:=P) hg p k r (by rw [<- o.length]; exact hle)
 obtain⟨F,G⟩:=hh.Gg hb B E (o.cN off k.cells);obtain⟨_,I⟩:=s.spec;refine⟨.skip,w',undef,j,jl, ?_,.inr ⟨rfl,rfl⟩,trivial, ?_,Ext.refl _,G⟩
 ·simp [execOp,Instr.storeAt,Instr.sureAddr,e,C]
 ·rw [I]; exact F
theorem A3 {α:Type}:∀(pre l r:List α),l.length=r.length->cN (pre++l) pre.length r=pre++r
 | pre,[],[],_=>by simp [cN]
 | pre,a::l,b::r,h=>by
  have:=A3 (pre++[b]) l r (by simpa using h);simp only [cN];rw [show (pre++a::l).set pre.length b=(pre++[b])++l by simp [List.set_append]];rw [show pre.length+1=(pre++[b]).length by simp];rw [this]; simp
 | _,[],_::_,h=>by simp at h
 | _,_::_,[],h=>by simp at h
theorem aq.GR {t:TypeId}{b:TI}{x y:Operand}{i:Nat}{xs ys:List D}{aH:List (List D)}(f:aR P t=some b) (hx:ev ts x=.cW i 0) (j:ev ts y=.a (.agg ys)) (hl:ls[i]?=some xs)
  (k:ys.length=b.size) (hle:xs.length=b.size) (l:bL ys ls i aH):aq P (mk none (.store t x y) ty pos aC g) ts ls h { wl:=true } .any aH h :=
 aq.vB f hx j hl k (by omega) (by
  have:=A3 [] xs ys (by omega);simp only [List.nil_append,List.length_nil] at this;rw [show bZ (.agg ys)=ys from rfl,this]; exact l) rfl
theorem aq.qU {t:TypeId}{b:TI}{x y:Operand}{i off:Nat}{xs xs':List D}{v:D}{aH:List (List D)}(f:aR P t=some b) (hx:ev ts x=.cW i off) (j:ev ts y=.a (.d v)) (hl:ls[i]?=some xs)
  (k:b.size=1) (hv:bL v xs off xs') (l:bL xs' ls i aH):aq P (mk none (.store t x y) ty pos aC g) ts ls h { wl:=true } .any aH h:=by
 obtain⟨h1,m⟩:=hv.spec;refine aq.vB f hx j hl (by rw [k]; rfl) (by omega) ?_ rfl;rw [show cN xs off (bZ (.d v))=xs' by rw [m]; rfl]; exact l
theorem aq.GS {t:TypeId}{b:TI}{x y:Operand}{i off:Nat}{xs xs':List D}{v:A}{aH:List (List D)}(f:aR P t=some b) (hx:ev ts x=.cW i off) (j:ev ts y=.a v) (hl:ls[i]?=some xs)
  (k:(bZ v).length=b.size) (hle:off+b.size<=xs.length) (hv:cN xs off (bZ v)=xs') (l:bL xs' ls i aH):aq P (mk none (.store t x y) ty pos aC g) ts ls h { wl:=true } .any aH h :=
 aq.vB f hx j hl k hle (by rw [hv]; exact l) rfl
theorem aq.qV {t:TypeId}{b:TI}{x y:Operand}{id off:Nat}{xs ys:List D}{v:A}(o:aR P t=some b) (hx:ev ts x=.a (.d (.ptr id off))) (p:ev ts y=.a v) (hl:h id=some (.cells xs))
  (q:(bZ v).length=b.size) (hle:off+b.size<=xs.length) (r:cN xs off (bZ v)=ys) (F:dst=none) :
  aq P (mk dst (.store t x y) ty pos aC g) ts ls h { wh:=true } .any ls (h.set id (some (.cells ys))):=by
 refine aq.of_run fun L H _ hH j w jl a hh l=>?_;have s:=hH rfl;subst s;have h1:=l x (by simp [Op.operands]);have f:=l y (by simp [Op.operands]);rw [hx] at h1; rw [p] at f;obtain⟨e,hid⟩:=sP h1;obtain⟨cs,u,hg,m,i⟩:=(hh.1.obj id _ hl).2;obtain⟨w',z,k⟩:=AP (az:=az) (P:=P) hg o f q (by rw [<- m.length]; exact hle);have B:=k.le (j:=j) i;obtain⟨C,E⟩:=hh.setObj (o':=.cells ys) hl rfl rfl i k ⟨_,u,k.here,by rw [<- r]; exact(m.cN off f.cells).imp fun _ _ h=>h.mono B,i⟩
 refine⟨.skip,w',undef,j,jl, ?_,.inr ⟨rfl,rfl⟩,trivial,C,Ext.refl _,E⟩;simp [execOp,Instr.storeAt,Instr.sureAddr,e,z]
theorem aq.gj {t:TypeId}{b:TI}{x y:Operand}{id off:Nat}{xs xs':List D}{v:D}(f:aR P t=some b) (hx:ev ts x=.a (.d (.ptr id off))) (i:ev ts y=.a (.d v)) (hl:h id=some (.cells xs))
  (j:b.size=1) (hv:bL v xs off xs'):aq P (mk none (.store t x y) ty pos aC g) ts ls h { wh:=true } .any ls (h.set id (some (.cells xs'))):=by
 obtain⟨h1,k⟩:=hv.spec;exact aq.qV f hx i hl (by rw [j]; rfl) (by omega) (by rw [k]; rfl) rfl
theorem A4 {o:Oper}{e:TypeId}{x:A}(b:∀(j:J) (w:World) (jl:List Nat) (a:Act),(∀x,x∈o.op.operands->bq j w jl (ev ts x) (a.eval x))->∃v,cH j w x v/\(execOp a.eval o).run P w=.ok (.value (.pointer (some ⟨w.heap.size,0,none⟩))) (w.alloc (.cells v.cells e))) :
  di P o ts ls h fun v aH h'=>∃id,h id=none/\v=.a (.d (.ptr id 0))/\aH=ls/\h'=h.set id (some (.cells (bZ x))):=by
 intro j w jl a hl f K Q hk;obtain⟨v,hv,hr⟩:=b j w jl a f;have hle:Le j w (j.obj w.heap.size) (w.alloc (.cells v.cells e)) :=
  ((hl.data (.cells v.cells e) 0).2.toLe.trans (by
   rw [J.qK (hl.1.fresh _ (Nat.le_refl _))];exact⟨by simp [J.obj],fun id hi=>by simp only [J.obj]; rw [if_neg (by omega)],fun _=>Nat.le_refl _,fun _ _ _=>rfl,fun _ _=>.inl rfl⟩))
 obtain⟨h1,g⟩:=hl.obj (.cells v.cells e) (.cells (bZ x)) rfl ⟨v.cells.toList,e,by
  simp only [J.obj,if_true]; rw [Array.toArray_toList]; exact heap_alloc_new w _,hv.cells.imp fun _ _ h=>h.mono hle,by
   simp only [J.obj,if_true]; exact hl.1.fresh _ (Nat.le_refl _)⟩
 unfold Oper.wp;rw [hr,Oper.upon_value];refine hk _ _ _ _ (j.obj w.heap.size) _ jl ⟨j.next,hl.1.kz (Nat.le_refl _),rfl,rfl,rfl⟩ ?_ h1 (Ext.refl _) g;have:=aD.ptr (j:=j.obj w.heap.size) (w:=w.alloc (.cells v.cells e)) j.next 0 (by simp [J.obj])
 simpa [J.obj,bq,cH] using this
theorem di.sR {e:TypeId}{b:TI}{z:A}(i:aR P e=some b) (k:b.zero=some z) :
  di P (mk dst (.alloc e) ty pos aC g) ts ls h fun v aH h'=>∃id,h id=none/\v=.a (.d (.ptr id 0))/\aH=ls/\h'=h.set id (some (.cells (bZ z))):=by
 obtain⟨inf,d,h1,_,_,_,_,f⟩:=eP i;rw [k] at f;obtain⟨v,l,m⟩:=kC f;refine A4 (e:=e) fun j w jl a _=>⟨v,m j w, ?_⟩;simp [execOp,Instr.alloc,zeroValue,typeInfo,h1,l,newVar,newRow]
theorem di.sS {e:TypeId}{x:Operand}{y:A}(hx:ev ts x=.a y) :
  di P (mk dst (.box e x) ty pos aC g) ts ls h fun v aH h'=>∃id,h id=none/\v=.a (.d (.ptr id 0))/\aH=ls/\h'=h.set id (some (.cells (bZ y))) :=
 A4 (e:=e) fun j w jl a b=>by
  have h1:=b x (by simp [Op.operands]);rw [hx] at h1;exact⟨a.eval x,h1,by simp [execOp,Instr.box,newVar,newRow]⟩
def sU (ts:Ts) (x:Operand):Option A:=match ev ts x with
 | .a y=>some y
 | _=>none
def fJ (ts:Ts):List Operand->Option (List A)
 | []=>some []
 | x::r=>match sU ts x,fJ ts r with
  | some y,some ys=>some (y::ys)
  | _,_=>none
theorem A5 {j:J}{w:World}{jl:List Nat}{act:Act}:∀(l:List Operand) (xs:List A),fJ ts l=some xs->(∀x,x∈l->bq j w jl (ev ts x) (act.eval x))->bf (cH j w) xs (l.map act.eval)
 | [],xs,h,_=>by simp [fJ] at h; subst h; exact .nil
 | x::r,xs,h,f=>by
  simp only [fJ] at h
  split at h
  ·rename_i y ys h1 g
   simp at h; subst h;refine .cons ?_ (A5 r ys g fun z b=>f z (by simp [b]));have:=f x (by simp);unfold sU at h1
   split at h1
   ·rename_i z b; simp at h1; subst h1; rw [b] at this; exact this
   ·simp at h1
  ·simp at h
theorem sV {f:Operand}{args:Array Operand}{cR:Array TypeId}{c_:FuncId}{b_:List D}{xs:List A}{dN:V->ak->Prop}{L:List (List D)}{H:ak}(p:ev ts f=.a (.d (.func c_ b_))) (q:fJ ts args.toList=some xs)
  (hc:AC P c_ (xs++b_.map .d) H dN) :
  di P (mk dst (.call { callee:=.value f,args:=args,argTypes:=cR }) ty pos aC g) ts L H fun v aH h'=>dN v h'/\aH=L:=by
 intro j w jl a hl k K Q hk;have h1:=k f (by simp [Op.operands,Call.operands]);rw [p] at h1;have s:=A5 (j:=j) (w:=w) (jl:=jl) (act:=a) args.toList xs q fun x hx=>k x (by simp [Op.operands,Call.operands]; right; simpa using hx);have m:aD j w (.func c_ b_) (a.eval f):=h1;generalize t:a.eval f=R at m;cases m with
 | func _ _ ic hlen hr =>
  have u:bf (cH j w) (xs++b_.map .d) (args.toList.map a.eval++ic):=by
   refine s.append (bf.lT (by simp [hlen]) fun i x y hx B=>?_);rw [List.getElem?_map] at hx;cases e:b_[i]? with
   | none=>rw [e] at hx; simp at hx
   | some z =>
    rw [e] at hx; simp at hx; subst hx;obtain⟨hi,C⟩:=List.getElem?_eq_some_iff.1 e;obtain⟨E,G⟩:=List.getElem?_eq_some_iff.1 B;have:=hr i hi E;rw [C,G] at this; exact this
  have I:=hc.runs j w _ hl.1 u;have J:(execOp a.eval (mk dst (.call { callee:=.value f,args:=args,argTypes:=cR }) ty pos aC g)).run P w=.ok (.enter c_ (args.toList.map a.eval++ic).toArray) w:=by
   have he:=hc.enter (args.toList.map a.eval++ic).toArray w;have M:Array.map a.eval args++ic.toArray=(args.toList.map a.eval++ic).toArray:=by apply Array.ext'; simp
   simp only [execOp,resolve,t,Deferred.ofValue,Sem.run_bind,Sem.run_pure,Result.andThen,invoke,List.append_eq,Array.empty_append];rw [M]; exact he
  unfold Oper.wp;rw [J,Oper.upon_enter];refine I.mono ?_;rintro e w' ⟨r,cv,j',h',rfl,N,hv,hh,l⟩;have o:∀b,b∈jl->b<w.heap.size:=fun b hb=>bg.lt hl (.inl hb);have O:∀b,b∈jl->w'.heap[b]?=w.heap[b]?/\j'.F b=j.F b:=fun b hb=>l.frame b (o b hb) (hl.2.apart b hb);refine hk r L h' cv j' w' jl ⟨N,rfl⟩ (hv.mono (Le.refl _ _) (fun i b hb=>by simp at hb)) ⟨hh,⟨qJ hl.2.each fun xs b hb h=>h.keep l.toLe (O b hb),hl.2.nodup,fun b hb k=>hl.2.apart b hb (l.own b (o b hb) k)⟩⟩ (Ext.refl _) ?_
  refine { l with frame:=fun b hb hn=>l.frame b hb (fun k=>hn ?_),own:=fun b hb k=>?_ }
  ·rcases k with k|k
   ·simp at k
   ·exact .inr k
  ·rcases k with k|k
   ·exact .inl k
   ·rcases l.own b hb (.inr k) with h|h
    ·simp at h
    ·exact .inr h
theorem di.call {f:Operand}{args:Array Operand}{cR:Array TypeId}{c_:FuncId}{b_:List D}{xs:List A}{dN:V->ak->Prop}(b:ev ts f=.a (.d (.func c_ b_))) (i:fJ ts args.toList=some xs)
  (hc:AC P c_ (xs++b_.map .d) h dN) :
  di P (mk dst (.call { callee:=.value f,args:=args,argTypes:=cR }) ty pos aC g) ts ls h fun v aH h'=>dN v h'/\aH=ls:=sV b i hc
theorem aq.fE {f:Operand}{args:Array Operand}{cR:Array TypeId}{c_:FuncId}{b_:List D}{xs:List A}{v:V}(b:ev ts f=.a (.d (.func c_ b_))) (i:fJ ts args.toList=some xs)
  (hc:∀H,AC P c_ (xs++b_.map .d) H fun r h'=>r=v/\h'=H) :
  aq P (mk dst (.call { callee:=.value f,args:=args,argTypes:=cR }) ty pos aC g) ts ls h {} v ls h:=by
 intro L H _ _;exact(sV b i (hc H)).mono fun _ _ _ ⟨⟨j,k⟩,l⟩=>⟨j,l,k⟩
theorem aq.bU {f:Operand}{args:Array Operand}{cR:Array TypeId}{c_:FuncId}{b_:List D}{xs:List A}{v:V}{h1:ak}(b:ev ts f=.a (.d (.func c_ b_))) (i:fJ ts args.toList=some xs)
  (hc:AC P c_ (xs++b_.map .d) h fun r h'=>r=v/\h'=h1) :
  aq P (mk dst (.call { callee:=.value f,args:=args,argTypes:=cR }) ty pos aC g) ts ls h { rh:=true,wh:=true } v ls h1:=by
 intro L H _ hH;have e:=hH rfl;subst e;exact(sV b i hc).mono fun _ _ _ ⟨⟨j,k⟩,l⟩=>⟨j,l,k⟩
theorem aq.sW {f:Operand}{args:Array Operand}{cR:Array TypeId}{c_:FuncId}{b_:List D}{xs:List A}{v:V}(b:ev ts f=.a (.d (.func c_ b_))) (i:fJ ts args.toList=some xs)
  (hc:AC P c_ (xs++b_.map .d) h fun r h'=>r=v/\h'=h) :
  aq P (mk dst (.call { callee:=.value f,args:=args,argTypes:=cR }) ty pos aC g) ts ls h { rh:=true } v ls h:=by
 intro L H _ hH;have e:=hH rfl;subst e;exact(sV b i hc).mono fun _ _ _ ⟨⟨j,k⟩,l⟩=>⟨j,l,k⟩
end
end Go.Ab
/-
 append.
-/
namespace Go.Ab
open Go Go.RowKit
variable {az:bC}
theorem qW {j:J}{w:World}{k:Nat}{tok:Option Nat}{rows:List (List D)}{b o cap:Nat}(hk:∀r∈rows,r.length=k) (hn:rows.length<=cq) (hc:rows.length<=cap)
  (g:∀i x,rows.flatten[i]?=some x->o+i<j.F b/\∃v,w.cell? ⟨b,o+i,none⟩=some v/\aD j w x v) (ht:oI j tok rows.length ⟨b,o,none⟩ cap) :
  aD j w (.slice k tok false rows) (.slice (some ⟨b,o,none⟩) rows.length cap):=by
 refine aD.slice k tok rows ⟨b,o,none⟩ cap (fun i=>(w.cell? ⟨b,o+i,none⟩).getD undef) hk hn hc ⟨.inr rfl,fun i hi=>?_⟩ (fun i hi=>?_) ht
 ·obtain⟨h1,v,f,_⟩:=g i _ (List.getElem?_eq_getElem hi);exact⟨h1,by show w.cell? _=some ((w.cell? ⟨b,o+i,none⟩).getD undef); rw [f]; rfl⟩
 ·obtain⟨h1,v,f,l⟩:=g i _ (List.getElem?_eq_getElem hi);rw [f]; exact l
theorem sX {α:Type}:∀(l:List α) (n:Nat) (r:List α) (i:Nat),i<n->(cN l n r)[i]?=l[i]?
 | _,_,[],_,_=>rfl
 | l,n,v::r,i,h=>by
  rw [cN,sX (l.set n v) (n+1) r i (by omega),List.getElem?_set_ne (by omega)]
theorem vC {α:Type}:∀(l:List α) (n:Nat) (r:List α) (i:Nat) (x:α),r[i]?=some x->n+r.length<=l.length->(cN l n r)[n+i]?=some x
 | _,_,[],_,_,h,_=>by simp at h
 | l,n,v::r,i,x,h,hl=>by
  simp only [List.length_cons] at hl;cases i with
  | zero =>
   simp at h; subst h;rw [cN,Nat.add_zero,sX _ _ _ _ (by omega),List.getElem?_set];simp; omega
  | succ i =>
   rw [cN,show n+(i+1)=n+1+i by omega];exact vC (l.set n v) (n+1) r i x (by simpa using h) (by simp; omega)
section
variable {P:Program}{t u ty e:TypeId}{i:TypeInfo}{z:Value}{du:TypeDesc}
theorem GU (ht:P.underlying t=some (.slice e)) (hu:P.underlying u=some du) (b:∀k,du≠.int k) (hi:P.info? e=some i) (f:i.zero=some z){w:World}{base:Option Addr}{sLen sCap m:Nat}{x:Value}{olds news:List Value}
  (hlen:(Builtin.lenOf x).run P w=.ok m w) (g:(Builtin.firstCells i.size sLen (.slice base sLen sCap)).run P w.drew=.ok olds.toArray w.drew) (j:(Builtin.firstCells i.size m x).run P w.drew=.ok news.toArray w.drew)
  (hg:sCap<sLen+m) (q:sLen+m<=9223372036854775807) (r:Builtin.nextslicecap (sLen+m) sCap*i.bytes<=281474976710656) :
  (Builtin.append_ #[t,u] ty #[.slice base sLen sCap,x]).run P w=.ok (.slice (some ⟨w.heap.size,0,none⟩) (sLen+m) (grownCap w (sLen+m) sCap e))
   (w.drew.alloc (.cells (olds++news++(Builtin.zeroCells z.cells (grownCap w (sLen+m) sCap e-(sLen+m))).toList).toArray e)):=by
 have hn:¬(sLen+m<=sCap):=by omega
 have l:¬(9223372036854775807<((sLen:Int)+(m:Int))):=by omega
 have o:¬(281474976710656<Builtin.nextslicecap (sLen+m) sCap*i.bytes):=by omega
 have p:(match du with|.int _=>true|_=>false)=false:=by cases du<;>first|rfl|exact absurd rfl (b _)
 simp [Builtin.append_,run_underlying ht,run_underlying hu,sizeOf,typeInfo,zeroValue,hi,f,p,hlen,hn,l,o,Question.forced,g,j,newRow,grownCap]
 congr 2
 apply Array.ext'
 simp [List.append_assoc]
theorem A6 (ht:P.underlying t=some (.slice e)) (hu:P.underlying u=some du) (b:∀k,du≠.int k) (hi:P.info? e=some i){w w':World}{a:Addr}{sLen sCap m:Nat}{x:Value}{news:List Value}
  (hlen:(Builtin.lenOf x).run P w=.ok m w) (f:(Builtin.firstCells i.size m x).run P w=.ok news.toArray w) (hg:sLen+m<=sCap) (g:(storeCells (a.add (sLen*i.size)) news).run P w=.ok () w') :
  (Builtin.append_ #[t,u] ty #[.slice (some a) sLen sCap,x]).run P w=.ok (.slice (some a) (sLen+m) sCap) w':=by
 have j:(match du with|.int _=>true|_=>false)=false:=by cases du<;>first|rfl|exact absurd rfl (b _)
 simp [Builtin.append_,run_underlying ht,run_underlying hu,sizeOf,typeInfo,hi,j,hlen,hg,f,g]
theorem GV (ht:P.underlying t=some (.slice e)) (hu:P.underlying u=some du) (b:∀k,du≠.int k) (hi:P.info? e=some i){w:World}{x:Value}
  (hlen:(Builtin.lenOf x).run P w=.ok 0 w) (f:(Builtin.firstCells i.size 0 x).run P w=.ok #[] w) :
  (Builtin.append_ #[t,u] ty #[.slice none 0 0,x]).run P w=.ok (.slice none 0 0) w:=by
 have g:(match du with|.int _=>true|_=>false)=false:=by cases du<;>first|rfl|exact absurd rfl (b _)
 simp [Builtin.append_,run_underlying ht,run_underlying hu,sizeOf,typeInfo,hi,g,hlen,f]
end
theorem A7 {P:Program}{j:J}{w:World}{k:Nat}{tok:Option Nat}{nl:Bool}{rows:List (List D)}{cv:Value}{size:Nat}(h:aD j w (.slice k tok nl rows) cv) (hk:∀r∈rows,r.length=size) :
  ∃cs:List Value,bf (aD j w) rows.flatten cs/\∀w',(∀b o,o<j.F b->w'.cell? ⟨b,o,none⟩=w.cell? ⟨b,o,none⟩)->(Builtin.firstCells size rows.length cv).run P w'=.ok cs.toArray w':=by
 cases h with
 | eU _ _ ht=>exact⟨[],.nil,fun w' _=>by simp [Builtin.firstCells]⟩
 | slice _ _ _ a cap f y hn hc bM hr ht =>
  by_cases l:rows=[]
  ·subst l;exact⟨[],.nil,fun w' _=>by simp [Builtin.firstCells,loadCells,loadCellsFrom]⟩
  have m:a=⟨a.block,a.off,none⟩:=by have:=bM.1.resolve_left l; cases a; simp at this; simp [this]
  have p:=(jc hk).1;obtain⟨cs,h1,q⟩:=vp (P:=P) (j:=j) (w:=w) (b:=a.block) (o:=a.off) rows.flatten fun i x hx=>by
   have hi:=(List.getElem?_eq_some_iff.1 hx).1;refine⟨f i,(bM.2 i hi).2, ?_⟩;have:=hr i hi;rw [(List.getElem?_eq_some_iff.1 hx).2] at this; exact this
  refine⟨cs,h1,fun w' hw=>?_⟩;have s:∀n v,cs[n]?=some v->w.cell? ⟨a.block,a.off+n,none⟩=some v:=by
   intro n v hv;obtain⟨x,hx,_⟩:=h1.get' hv;have hi:=(List.getElem?_eq_some_iff.1 hx).1;have t:=(bM.2 n hi).2;have g:(loadCells ⟨a.block,a.off,none⟩ rows.flatten.length).run P w=.ok ((List.range rows.flatten.length).map f).toArray w :=
    run_loadCells w _ _ f fun i hi=>by rw [add_plain]; exact(bM.2 i hi).2
   rw [q] at g;simp only [Result.ok.injEq,and_true] at g;have u:cs=(List.range rows.flatten.length).map f:=by
    have:=congrArg Array.toList g; simpa using this
   rw [u,List.getElem?_map,List.getElem?_range hi] at hv;simp at hv;rw [t,hv]
  rw [Builtin.firstCells,<- p,h1.length];rw [m];exact run_loadCells_list w' _ cs fun n v hv=>by
   rw [add_plain];obtain⟨x,hx,_⟩:=h1.get' hv;have hi:=(List.getElem?_eq_some_iff.1 hx).1;rw [hw _ _ (bM.2 n hi).1];exact s n v hv
theorem GW {j:J}{w:World}{k:Nat}{tok:Option Nat}{nl:Bool}{rows:List (List D)}{cv:Value}(h:aD j w (.slice k tok nl rows) cv) (P:Program) (w':World):(Builtin.lenOf cv).run P w'=.ok rows.length w':=by
 cases h<;>simp [Builtin.lenOf]
theorem A8 {R:Nat->D->Prop}{rows bH:List (List D)}{n:Nat}(hn:rows.flatten.length=n) (h1:∀i x,rows.flatten[i]?=some x->R i x) (b:∀i x,bH.flatten[i]?=some x->R (n+i) x) :
  ∀i x,(rows++bH).flatten[i]?=some x->R i x:=by
 intro i x hx;rw [List.flatten_append,List.getElem?_append] at hx
 split at hx
 ·exact h1 i x hx
 ·rename_i h
  have:=b _ x hx
  rwa [show n+(i-rows.flatten.length)=i by omega] at this
section
variable {P:Program}{ts:Ts}{ls:List (List D)}{h:ak}{dst:Option Tmp}{ty:TypeId}{pos:String}{aC:Array Edge}{g:Option (Nat×Bool)}
theorem GX {P:Program}{t:TypeId}{b:TI}(g:aR P t=some b) (hk:(∃e,b.k=.slice e)\/b.k=.str):∃d,P.underlying t=some d/\∀k,d≠.int k:=by
 obtain⟨i,d,h1,j,_,_,f,_⟩:=eP g;refine⟨d,j,fun k e=>?_⟩;subst e;simp only [ep] at f;rcases hk with ⟨e,hk⟩|hk<;>rw [hk] at f<;>cases f
def Src (P:Program) (j:J) (w:World) (size:Nat) (cv:Value) (bH:List (List D)):Prop :=
 (∀r∈bH,r.length=size)/\(∃news:List Value,bf (aD j w) bH.flatten news/\∀w',(∀b o,o<j.F b->w'.cell? ⟨b,o,none⟩=w.cell? ⟨b,o,none⟩)->(Builtin.firstCells size bH.length cv).run P w'=.ok news.toArray w')/\∀w',(Builtin.lenOf cv).run P w'=.ok bH.length w'
theorem Src.slice {P:Program}{j:J}{w:World}{k:Nat}{tok:Option Nat}{nl:Bool}{rows:List (List D)}{cv:Value}{size:Nat}(h:aD j w (.slice k tok nl rows) cv) (hk:∀r∈rows,r.length=size):Src P j w size cv rows :=
 ⟨hk,A7 h hk,fun w'=>GW h P w'⟩
theorem aq.GY {t u e:TypeId}{aw af l:TI}{x y:Operand}{tk k m:Nat}{E:Option TypeId}{nl:Bool}{rows bH:List (List D)}{z:A}(aP:aR P t=some aw) (hk:aw.k=.slice e) (aQ:aR P e=some l) (aS:aR P u=some af) (aU:(∃e,af.k=.slice e)\/af.k=.str)
  (aV:l.zero=some z) (aW:(bZ z).length=l.size) (bt:l.size≠0)
  (hx:ev ts x=.a (.d (.slice k (some tk) nl rows))) (aX:∀(j:J) (w:World) (jl:List Nat) (cv:Value),bq j w jl (ev ts y) cv->Src P j w l.size cv bH) (B:k=l.size\/rows=[])
  (K:h tk=some (.tok l.size m E)) (hm:m=rows.length) (aZ:(rows.length+bH.length)*l.bytes<=cq) (hlen:rows.length+bH.length<=cq) (a0:∀T,E=some T->T=e:=by intro T h; cases h) :
  aq P (mk dst (.call { callee:=.builtin .append,args:=#[x,y],argTypes:=#[t,u] }) ty pos aC g) ts ls h { rh:=true,wh:=true }
   (.a (.d (.slice l.size (some tk) (nl&&bH.isEmpty) (rows++bH)))) ls (h.set tk (some (.tok l.size (rows.length+bH.length) E))):=by
 refine aq.of_run fun L H _ hH j w jl a hl M=>?_;have a1:=hH rfl;subst a1 hm;have h1:aD j w (.slice k (some tk) nl rows) (a.eval x):=by have:=M x (by simp [Op.operands,Call.operands]); rw [hx] at this; exact this
 obtain⟨ax,⟨news,S,U⟩,a2⟩:=aX j w jl (a.eval y) (M y (by simp [Op.operands,Call.operands]));obtain⟨bu,bv,W,_,I,a3,_,ay⟩:=eP aQ;rw [aV] at ay;obtain⟨zv,a4,a5⟩:=kC ay;have a6:zv.cells.size=l.size:=by have:=(a5 j w).cells.length; rw [aW] at this; simpa using this.symm
 obtain⟨du,hu,X⟩:=GX aS aU;have ht:=kD aP hk;obtain⟨ag,cap,Y,bw,bx,bz,aA,a7,hb⟩:=lX (jl:=jl) h1;have ah:∀r∈rows,r.length=l.size:=by
  rcases B with e|e
  ·rw [<- e]; exact a7
  ·rw [e]; simp
 have Z:∀r∈rows++bH,r.length=l.size:=fun r hr=>(List.mem_append.1 hr).elim (ah r) (ax r);have aa:=a2 w;have a8:=(jc ax).1;have ai:=(jc ah).1;have ab:news.length=bH.length*l.size:=by rw [<- S.length,a8]
 obtain⟨aE,dG,aF,hblk,_⟩:=hl.1.obj tk _ K;have aj:∀(v:Value) (w':World),(Builtin.append_ #[t,u] ty #[a.eval x,a.eval y]).run P w=.ok v w' ->
   (execOp a.eval (mk dst (.call { callee:=.builtin .append,args:=#[x,y],argTypes:=#[t,u] }) ty pos aC g)).run P w=.ok (.value v) w':=fun v w' hr=>by
  simp [execOp,resolve,invoke,builtin,hr]
 have p:(rows++bH).length=rows.length+bH.length:=by simp
 by_cases al:bH=[]
 ·-- nothing is appended
  subst al;have a9:news=[]:=List.eq_nil_of_length_eq_zero (by simpa using ab);subst a9;have C:(Builtin.append_ #[t,u] ty #[a.eval x,a.eval y]).run P w=.ok (a.eval x) w:=by
   rw [Y];cases ag with
   | none =>
    obtain⟨aG,a_⟩:=aA rfl;subst aG a_;exact GV ht hu X W (by simpa using aa) (by rw [I]; simpa using U w (fun _ _ _=>rfl))
   | some am =>
    have:=A6 (P:=P) (ty:=ty) (sCap:=cap) (sLen:=rows.length) (m:=0) (a:=am) (news:=[]) (w':=w) ht hu X W (by simpa using aa) (by rw [I]; simpa using U w (fun _ _ _=>rfl)) (by omega) (by simp [storeCells])
    simpa using this
  refine⟨_,w,a.eval x,j,jl,aj _ _ C,.inl rfl, ?_, ?_,Ext.refl _, ?_⟩
  ·have a':rows≠[]->k=l.size:=fun ad=>B.resolve_right ad;simp only [List.append_nil,List.isEmpty_nil,Bool.and_true];show aD j w _ _;by_cases ad:rows=[]
   ·subst ad;have key:∀an,aD j w (.slice k (some tk) nl []) an->aD j w (.slice l.size (some tk) nl []) an:=by
     intro an hh;cases hh with
     | eU _ _ ht=>exact .eU _ _ ht
     | slice _ _ _ a cap f hk hn hc bM hr ht=>exact .slice _ _ [] a cap f (by simp) hn hc bM hr ht
    exact key _ h1
   ·rw [<- a' ad]; exact h1
  ·simp only [List.length_nil,Nat.add_zero,cond_true];rw [ak.Ao H tk _ K]; exact hl
  ·simp only [List.length_nil,Nat.add_zero,cond_true];rw [ak.Ao H tk _ K]; exact bQ.refl _ _ _
 ·have bA:0<bH.length:=List.length_pos_iff.2 al;have ba:(nl&&bH.isEmpty)=false:=by cases bH with|nil=>exact absurd rfl al|cons _ _=>simp
  rw [ba];by_cases N:rows.length+bH.length<=cap
  ·-- in place
   cases ag with
   | none=>obtain⟨aG,_⟩:=aA rfl; omega
   | some am =>
    obtain⟨bb,f,bM,bc⟩:=hb am rfl;obtain⟨_,bd⟩:=bb tk rfl;obtain⟨_,be⟩:=bd _ aF;rcases be rfl with ⟨_,hc⟩|⟨b,ao,bf⟩
    ·omega
    ·subst bf;dsimp only at ao;obtain⟨cs,ce,hg,ap,bh,bB,bi⟩:=hblk b cap ao;have aH:w.heap[b]?=some (.cells cs.toList.toArray ce (0,0)):=by simpa using hg
     obtain⟨w',bj,q⟩:=vq (az:=az) (P:=P) (off:=rows.length*l.size) news 0 cs.toList w aH (by
      rw [ab]; simp only [Array.length_toList,ap]; rw [Nat.add_zero,<- Nat.add_mul]; exact Nat.mul_le_mul_right _ N) (AO S)
     rw [Nat.add_zero] at q;have C:(Builtin.append_ #[t,u] ty #[a.eval x,a.eval y]).run P w=.ok (.slice (some ⟨b,0,none⟩) (rows.length+bH.length) cap) w':=by
      rw [Y];exact A6 ht hu X W aa (by rw [I]; exact U w fun _ _ _=>rfl) N (by rw [add_plain,I,Nat.zero_add]; exact bj)
     have bk:bR j tk (.tok l.size rows.length E)=some b:=by simp [bR,aF,ao]
     have ae:∀o,w'.cell? ⟨b,o,none⟩=(cN cs.toList (rows.length*l.size) news)[o]?:=fun o=>by rw [cell_of_row w' b o _ ce (0,0) q.here]; simp
     have aI:∀o,w.cell? ⟨b,o,none⟩=cs.toList[o]?:=fun o=>by rw [cell_of_row w b o _ ce (0,0) aH]; simp
     obtain⟨ar,O⟩:=hl.grow (w':=w') (m':=rows.length+bH.length) K (by omega) (b:=b) (cap:=cap) q.here (by simp [AN,ap]) N (fun x hx _=>q.other x hx)
      (by rw [q.size]; exact Nat.le_refl _) (by rw [q.size]; omega) (.inr ⟨bk,fun o M=>by rw [ae,aI,sX _ _ _ _ (by rw [bh] at M; exact M)]⟩) q.os q.tape q.output bi
     refine⟨_,w',_,_,jl,aj _ _ C,.inl rfl, ?_,ar,Ext.refl _,O⟩;have hle:=O.toLe;have:=qW (j:=j.c9 tk ⟨some (b,cap),rows.length+bH.length⟩ b ((rows.length+bH.length)*l.size)) (w:=w') (k:=l.size) (tok:=some tk) (rows:=rows++bH) (b:=b) (o:=0) (cap:=cap) Z
      (by rw [p]; exact hlen) (by rw [p]; exact N) (fun i x hx=>?_) (fun bl Q=>?_)
     ·rw [p] at this; exact this
     ·have au:i<(rows++bH).flatten.length:=(List.getElem?_eq_some_iff.1 hx).1;rw [(jc Z).1,p] at au;refine⟨by simp only [J.c9,if_true]; omega, ?_⟩;rw [Nat.zero_add,ae]
      revert i x hx
      have:=A8 (R:=fun i x=>∃v,(cN cs.toList (rows.length*l.size) news)[i]?=some v/\aD (j.c9 tk ⟨some (b,cap),rows.length+bH.length⟩ b ((rows.length+bH.length)*l.size)) w' x v) ai (bH:=bH)
       (fun i x hx=>by
        have hi:=(List.getElem?_eq_some_iff.1 hx).1;rw [sX _ _ _ _ (by omega)];have aJ:=(bM.2 i hi).2;rw [Nat.zero_add,aI] at aJ;refine⟨f i,aJ, ?_⟩;have aK:=bc i hi;rw [(List.getElem?_eq_some_iff.1 hx).2] at aK;exact aK.mono hle)
       (fun i x hx=>by
        obtain⟨v,hv,hr⟩:=S.get hx;exact⟨v,vC _ _ _ _ _ hv (by rw [ab]; simp only [Array.length_toList,ap]; rw [<- Nat.add_mul]; exact Nat.mul_le_mul_right _ N),hr.mono hle⟩)
      exact fun i x hx _=>this i x hx
     ·simp only [Option.some.injEq] at Q;subst Q;refine⟨Nat.lt_of_lt_of_le aE hle.next,fun bm B=>?_⟩;simp only [J.c9,if_true,Option.some.injEq] at B;subst B;exact⟨by rw [p]; exact Nat.le_refl _,fun _=>.inr ⟨b,rfl,rfl⟩⟩
  ·-- a new array
   obtain⟨olds,aL,bo⟩:=A7 (P:=P) h1 ah;have bp:olds.length=rows.length*l.size:=by rw [<- aL.length,ai]
   have aM:∀b o,o<j.F b->w.drew.cell? ⟨b,o,none⟩=w.cell? ⟨b,o,none⟩:=fun _ _ _=>rfl;have bC:cq=140737488355328:=rfl;have C:=GU (P:=P) (ty:=ty) (w:=w) (base:=ag) (sLen:=rows.length) (sCap:=cap) (m:=bH.length) (x:=a.eval y) (olds:=olds) (news:=news) ht hu X W a4 aa
    (by rw [I,<- Y]; exact bo w.drew aM) (by rw [I]; exact U w.drew aM) (by omega) (by omega) (growslice_fits (by omega) (by rw [a3]; exact aZ))
   rw [<- Y] at C;generalize br:grownCap w (rows.length+bH.length) cap e=G at C;have aN:rows.length+bH.length<=G:=by rw [<- br]; exact grownCap_ge _ _ _ _
   generalize av:olds++news++(Builtin.zeroCells zv.cells (G-(rows.length+bH.length))).toList=s at C;have bs:s.length=G*l.size:=by
    rw [<- av];simp only [List.length_append,bp,ab,Array.length_toList,size_zeroCells,a6,<- Nat.add_mul]
    congr 1; omega
   have aO:=heap_alloc_new w.drew (.cells s.toArray e);have ae:∀o,(w.drew.alloc (.cells s.toArray e)).cell? ⟨w.heap.size,o,none⟩=s[o]?:=fun o=>by
    rw [cell_of_row _ w.heap.size o s.toArray e (0,0) aO]; simp
   obtain⟨ar,O⟩:=hl.drew.grow (w':=w.drew.alloc (.cells s.toArray e)) (m':=rows.length+bH.length) K (by omega) (b:=w.heap.size) (cap:=G) aO (by simpa using bs) aN
    (fun x hx aT=>sC aT) (by simp) (by simp) (.inl (Nat.le_refl _)) rfl rfl eY.rfl (fun T h=>(a0 T h).symm)
   refine⟨_,_,_,_,jl,aj _ _ C,.inl rfl, ?_,ar,Ext.refl _,(bQ.drew j w _).trans O⟩;have hle:=((bQ.drew j w (bg j H jl)).trans O).toLe;have:=qW (j:=j.c9 tk ⟨some (w.heap.size,G),rows.length+bH.length⟩ w.heap.size ((rows.length+bH.length)*l.size)) (w:=w.drew.alloc (.cells s.toArray e)) (k:=l.size) (tok:=some tk) (rows:=rows++bH) (b:=w.heap.size)
    (o:=0) (cap:=G) Z (by rw [p]; exact hlen) (by rw [p]; exact aN) (fun i x hx=>?_) (fun bl Q=>?_)
   ·rw [p] at this; exact this
   ·have au:i<(rows++bH).flatten.length:=(List.getElem?_eq_some_iff.1 hx).1;rw [(jc Z).1,p] at au;refine⟨by simp only [J.c9,if_true]; omega, ?_⟩;rw [Nat.zero_add,ae]
    revert i x hx
    have:=A8 (R:=fun i x=>∃v,s[i]?=some v/\aD (j.c9 tk ⟨some (w.heap.size,G),rows.length+bH.length⟩ w.heap.size ((rows.length+bH.length)*l.size)) (w.drew.alloc (.cells s.toArray e)) x v) ai (bH:=bH)
     (fun i x hx=>by
      obtain⟨v,hv,hr⟩:=aL.get hx;refine⟨v, ?_,hr.mono hle⟩;have hi:=(List.getElem?_eq_some_iff.1 hv).1;rw [<- av,List.append_assoc,List.getElem?_append_left hi]; exact hv)
     (fun i x hx=>by
      obtain⟨v,hv,hr⟩:=S.get hx;refine⟨v, ?_,hr.mono hle⟩;have hi:=(List.getElem?_eq_some_iff.1 hv).1;rw [<- av,List.append_assoc,List.getElem?_append_right (by omega),show rows.length*l.size+i-olds.length=i by omega,List.getElem?_append_left hi]; exact hv)
    exact fun i x hx _=>this i x hx
   ·simp only [Option.some.injEq] at Q;subst Q;refine⟨Nat.lt_of_lt_of_le aE hle.next,fun bm B=>?_⟩;simp only [J.c9,if_true,Option.some.injEq] at B;subst B;exact⟨by rw [p]; exact Nat.le_refl _,fun _=>.inr ⟨w.heap.size,rfl,rfl⟩⟩
theorem aq.append {t u e:TypeId}{i f b:TI}{x y:Operand}{tk k k' m:Nat}{tok':Option Nat}{nl l:Bool}{rows bH:List (List D)}{z:A}(p:aR P t=some i) (hk:i.k=.slice e) (q:aR P e=some b) (s:aR P u=some f) (v:(∃e,f.k=.slice e)\/f.k=.str)
  (B:b.zero=some z) (C:(bZ z).length=b.size) (E:b.size≠0)
  (hx:ev ts x=.a (.d (.slice k (some tk) nl rows))) (F:ev ts y=.a (.d (.slice k' tok' l bH))) (G:k=b.size\/rows=[]) (H:k'=b.size\/bH=[])
  (I:h tk=some (.tok b.size m)) (hm:m=rows.length) (J:(rows.length+bH.length)*b.bytes<=cq) (hlen:rows.length+bH.length<=cq) :
  aq P (mk dst (.call { callee:=.builtin .append,args:=#[x,y],argTypes:=#[t,u] }) ty pos aC g) ts ls h { rh:=true,wh:=true }
   (.a (.d (.slice b.size (some tk) (nl&&bH.isEmpty) (rows++bH)))) ls (h.set tk (some (.tok b.size (rows.length+bH.length)))) :=
 aq.GY p hk q s v B C E hx (fun j w jl cv hv=>by
  have o:aD j w (.slice k' tok' l bH) cv:=by rw [F] at hv; exact hv
  refine Src.slice o fun r hr=>?_;obtain⟨_,_,_,_,_,_,_,hh,_⟩:=lX (jl:=jl) o;rcases H with e|e
  ·rw [<- e]; exact hh r hr
  ·rw [e] at hr; cases hr) G I hm J hlen
end
end Go.Ab
/-
 Struct and slice literals,maps,parts of slices,comparisons of structs,tokens.
-/
namespace Go.Ab
open Go Go.RowKit
variable {az:bC}
theorem vD (off:Nat):∀(l:List Value) (k:Nat) (cs:Array Value),((l.zipIdx k).foldl (fun cs (p:Value×Nat)=>cs.setIfInBounds (off+p.2) p.1) cs).toList=cN cs.toList (off+k) l
 | [],_,_=>rfl
 | v::r,k,cs=>by
  simp only [List.zipIdx_cons,List.foldl_cons];rw [vD off r (k+1)];simp [cN,Nat.add_assoc]
def lZ (ts:Ts):List (Nat×Operand)->Option (List (Nat×A))
 | []=>some []
 | (i,x)::r=>match sU ts x,lZ ts r with
  | some y,some ys=>some ((i,y)::ys)
  | _,_=>none
theorem sY {j:J}{w:World}{jl:List Nat}{ts:Ts}{act:Act}:∀(l:List (Nat×Operand)) (xs:List (Nat×A)),lZ ts l=some xs->(∀x,x∈l.map (·.2)->bq j w jl (ev ts x) (act.eval x)) ->
  bf (fun p q=>p.1=q.1/\cH j w p.2 q.2) xs (l.map fun p=>(p.1,act.eval p.2))
 | [],xs,h,_=>by simp [lZ] at h; subst h; exact .nil
 | (i,x)::r,xs,h,f=>by
  simp only [lZ] at h
  split at h
  ·rename_i y ys h1 g
   simp at h; subst h;refine .cons ⟨rfl, ?_⟩ (sY r ys g fun z b=>f z (by simp at b ⊢; exact .inr b));have:=f x (by simp);unfold sU at h1
   split at h1
   ·rename_i z b; simp at h1; subst h1; rw [b] at this; exact this
   ·simp at h1
  ·simp at h
def oZ (T:List TI) (fs:List (Nat×TypeId)):List D->List (Nat×A)->Option (List D)
 | b,[]=>some b
 | b,(i,x)::r=>match fs[i]? with
  | some (o,g)=>match T[g]? with
   | some f=>match Nat.beq (bZ x).length f.size&&Nat.ble (o+f.size) b.length with
    | true=>oZ T fs (cN b o (bZ x)) r
    | false=>none
   | none=>none
  | none=>none
section
variable {P:Program}{T:List TI}{ts:Ts}{ls:List (List D)}{h:ak}{dst:Option Tmp}{ty:TypeId}{pos:String}{aC:Array Edge}{g:Option (Nat×Bool)}
theorem A9 {P:Program}{T:List TI}(j:lW P T):∀(fs:List Field) (w:World),(∀f∈fs,∃b,T[f.type]?=some b) ->
  ∃ps:List (Nat×Nat),(fs.mapM fun(f:Field)=>Prod.mk f.offset <$> sizeOf f.type).run P w=.ok ps w/\∀(i:Nat) (f:Field),fs[i]?=some f->∀b:TI,T[f.type]?=some b->ps[i]?=some (f.offset,b.size)
 | [],w,_=>⟨[],by simp,by simp⟩
 | f::fs,w,k=>by
  obtain⟨b,l⟩:=k f (by simp);obtain⟨ps,h1,m⟩:=A9 j fs w fun f o=>k f (by simp [o]);refine⟨(f.offset,b.size)::ps, ?_,fun i p hi q g=>?_⟩
  ·rw [List.mapM_cons,Sem.run_bind,Sem.run_map,gG (j _ _ l)];simp only [Result.andThen,Sem.run_bind,h1,Sem.run_pure]
  ·cases i with
   | zero=>simp at hi; subst hi; rw [l] at g; simp at g; subst g; rfl
   | succ i=>simp at hi ⊢; exact m i p hi q g
theorem vE {j:J}{w:World}{T:List TI}{fs:List (Nat×TypeId)}{place:Nat->Option (Nat×Nat)}(m:∀i o g f,fs[i]?=some (o,g)->T[g]?=some f->place i=some (o,f.size)) :
  ∀(parts:List (Nat×A)) (r:List (Nat×Value)) (b ys:List D) (cs:Array Value),oZ T fs b parts=some ys->bf (fun p q=>p.1=q.1/\cH j w p.2 q.2) parts r->bf (aD j w) b cs.toList ->
  ∃k,Instr.fill place cs r=some k/\bf (aD j w) ys k.toList
 | _,_,b,ys,cs,hb,.nil,l=>by simp [oZ] at hb; subst hb; exact⟨cs,rfl,l⟩
 | (i,x)::ps,(G,v)::t,b,ys,cs,hb,.cons ⟨e,hr⟩ ht,l=>by
  dsimp only at e hr;subst e;simp only [oZ] at hb
  split at hb
  ·rename_i o g u
   split at hb
   ·rename_i f y
    split at hb
    ·rename_i hc
     simp only [Bool.and_eq_true] at hc;have hl:=Nat.eq_of_beq_eq_true hc.1;have hle:=Nat.le_of_ble_eq_true hc.2;have z:=m i o g f u y;have s:=hr.cells;have B:v.cells.size=f.size:=by rw [<- hl,s.length]; simp
     have C:cs.size=b.length:=by rw [l.length]; simp
     have E:bf (aD j w) (cN b o (bZ x)) (v.cells.zipIdx.foldl (fun cs (p:Value×Nat)=>cs.setIfInBounds (o+p.2) p.1) cs).toList:=by
      rw [<- Array.foldl_toList];have:=vD o v.cells.toList 0 cs;simp only [Array.toList_zipIdx];rw [this,Nat.add_zero];exact l.cN o s
     obtain⟨k,h1,F⟩:=vE m ps t _ ys _ hb ht E;refine⟨k, ?_,F⟩;rw [Instr.fill,z];dsimp only;rw [if_neg (by simp [B,C]; omega)];exact h1
    ·simp at hb
   ·simp at hb
  ·simp at hb
theorem aq.build (q:lW P T){t:TypeId}{b:TI}{fs:List (Nat×TypeId)}{l ys:List D}{parts:Array (Nat×Operand)}{ps:List (Nat×A)}(u:T[t]?=some b) (hk:b.k=.struct fs) (v:b.zero=some (.agg l))
  (y:fs.all (fun f=>(T[f.2]?).isSome)=true) (z:lZ ts parts.toList=some ps) (hb:oZ T fs l ps=some ys):aq P (mk dst (.build t parts) ty pos aC g) ts ls h {} (.a (.agg ys)) ls h :=
 aq.cQ fun j w jl a B=>by
  have hr:=sY (j:=j) (w:=w) (jl:=jl) (act:=a) parts.toList ps z fun x hx=>B x (by simp [Op.operands] at hx ⊢; exact hx);have r:=q t b u;obtain⟨inf,d,h1,_,_,_,_,s⟩:=eP r;rw [v] at s;obtain⟨zv,C,E⟩:=kC s;obtain⟨gs,hu,he⟩:=vu r hk;obtain⟨pl,F,G⟩:=A9 (P:=P) q gs.toList w fun f H=>by
   have:=List.all_eq_true.1 y (f.offset,f.type) (by rw [<- he]; exact List.mem_map.2 ⟨f,H,rfl⟩);exact Option.isSome_iff_exists.1 this
  obtain⟨m,I,J⟩:=vE (j:=j) (w:=w) (T:=T) (fs:=fs) (place:=(pl.toArray[·]?)) (fun i o N K hi L=>by
   rw [<- he,List.getElem?_map] at hi;cases e:gs.toList[i]? with
   | none=>rw [e] at hi; simp at hi
   | some f=>rw [e] at hi; simp at hi; obtain⟨rfl,rfl⟩:=hi; simpa using G i f e K L) ps _ l ys zv.cells hb hr (E j w).cells
  refine⟨.agg m, ?_,⟨m.toList,by simp,J⟩⟩;have M:(Instr.build t (parts.map fun(i,x)=>(i,a.eval x))).run P w=.ok (.agg m) w:=by
   simp only [Instr.build,Sem.run_bind,zeroValue,typeInfo,run_program,h1,C,Result.andThen,Sem.run_pure,dY hu];rw [Array.mapM_eq_mapM_toList,Sem.run_map];rw [show (List.mapM _ gs.toList:Sem (List (Nat×Nat)))=List.mapM (fun f=>Prod.mk f.offset <$> sizeOf f.type) gs.toList from by congr 1];rw [F];simp only [Result.andThen];have e:(Array.map (fun(x:Nat×Operand)=>(x.1,a.eval x.2)) parts).toList=parts.toList.map fun p=>(p.1,a.eval p.2):=by simp
   rw [e,I];simp
  simp only [execOp,Sem.run_bind,M,Result.andThen,Sem.run_pure]
def o3 (n:Nat):List (List D)->List (Nat×A)->Option (List (List D))
 | rows,[]=>some rows
 | rows,(i,x)::r=>match Nat.beq (bZ x).length n&&Nat.blt i rows.length with
  | true=>o3 n (rows.set i (bZ x)) r
  | false=>none
theorem A_ {n:Nat}:∀{rows:List (List D)}(_:∀r∈rows,r.length=n){i:Nat}(_:i<rows.length){r:List D}(_:r.length=n),(rows.set i r).flatten=cN rows.flatten (i*n) r
 | [],_,i,hi,_,_=>by simp at hi
 | b::g,hk,i,hi,r,hr=>by
  have h0:b.length=n:=hk b (by simp);cases i with
  | zero =>
   simp only [List.set_cons_zero,List.flatten_cons,Nat.zero_mul]
   apply List.ext_getElem?
   intro k;by_cases j:k<n
   ·rw [List.getElem?_append_left (by omega)];have:=vC (b++g.flatten) 0 r k (r[k]'(by omega)) (List.getElem?_eq_getElem (by omega)) (by simp; omega);rw [Nat.zero_add] at this;rw [this,List.getElem?_eq_getElem (by omega)]
   ·rw [List.getElem?_append_right (by omega)];have:∀(l:List D) (m:Nat) (s:List D) (k:Nat),m+s.length<=k->(cN l m s)[k]?=l[k]?:=by
     intro l m s;induction s generalizing l m with
     | nil=>intros; rfl
     | cons v s f=>intro k hk; simp at hk; rw [cN,f _ _ k (by omega),List.getElem?_set_ne (by omega)]
    rw [this _ _ _ _ (by omega),List.getElem?_append_right (by omega),h0,hr]
  | succ i =>
   simp only [List.set_cons_succ,List.flatten_cons];rw [A_ (fun x hx=>hk x (by simp [hx])) (by simpa using hi) hr];have:∀(p l:List D) (m:Nat) (s:List D),cN (p++l) (p.length+m) s=p++cN l m s:=by
    intro p l m s;induction s generalizing l m with
    | nil=>rfl
    | cons v s f=>rw [cN,cN,show (p++l).set (p.length+m) v=p++l.set m v by rw [List.set_append_right _ _ (by omega)]; simp,Nat.add_assoc,f]
   rw [<- this,h0,show (i+1)*n=n+i*n by rw [Nat.add_mul]; omega]
theorem Ba {j:J}{w:World}{n:Nat}:∀(parts:List (Nat×A)) (g:List (Nat×Value)) (rows bH:List (List D)) (cs:Array Value),o3 n rows parts=some bH->(∀r∈rows,r.length=n) ->
  bf (fun p q=>p.1=q.1/\cH j w p.2 q.2) parts g->bf (aD j w) rows.flatten cs.toList ->
  ∃b,Instr.fill (fun i=>some (i*n,n)) cs g=some b/\bf (aD j w) bH.flatten b.toList/\bH.length=rows.length/\∀r∈bH,r.length=n
 | _,_,rows,bH,cs,hb,hk,.nil,f=>by simp [o3] at hb; subst hb; exact⟨cs,rfl,f,rfl,hk⟩
 | (i,x)::ps,(B,v)::l,rows,bH,cs,hb,hk,.cons ⟨e,hr⟩ ht,f=>by
  dsimp only at e hr;subst e;simp only [o3] at hb
  split at hb
  ·rename_i hc
   simp only [Bool.and_eq_true] at hc;have hl:=Nat.eq_of_beq_eq_true hc.1;have aT:i<rows.length:=by simpa [Nat.blt_eq] using hc.2
   have k:=hr.cells;have m:v.cells.size=n:=by rw [<- hl,k.length]; simp
   have o:cs.size=rows.length*n:=by rw [<- (jc hk).1,f.length]; simp
   have hle:i*n+n<=rows.length*n:=by rw [<- Nat.succ_mul]; exact Nat.mul_le_mul_right n aT
   have s:bf (aD j w) (rows.set i (bZ x)).flatten (v.cells.zipIdx.foldl (fun cs (p:Value×Nat)=>cs.setIfInBounds (i*n+p.2) p.1) cs).toList:=by
    rw [A_ hk aT hl,<- Array.foldl_toList];have:=vD (i*n) v.cells.toList 0 cs;simp only [Array.toList_zipIdx];rw [this,Nat.add_zero];exact f.cN _ k
   have t:∀r∈rows.set i (bZ x),r.length=n:=fun r hr=>by
    rcases List.mem_or_eq_of_mem_set hr with h|h
    ·exact hk r h
    ·rw [h]; exact hl
   obtain⟨b,h1,u,y,z⟩:=Ba ps l _ bH _ hb t ht s;refine⟨b, ?_,u,by rw [y]; simp,z⟩;rw [Instr.fill];dsimp only;rw [if_neg (by simp [m,o]; omega)];exact h1
  ·simp at hb
theorem GZ {α:Type} [Inhabited α] (z:Array α) (len:Nat) (f:z.size≠0):((Array.range (len*z.size)).map (fun i=>z[i % z.size]!)).toList=(List.replicate len z.toList).flatten:=by
 induction len with
 | zero=>simp
 | succ len b =>
  have h1:((Array.range ((len+1)*z.size)).map (fun i=>z[i % z.size]!)).toList=((Array.range (len*z.size)).map (fun i=>z[i % z.size]!)).toList++z.toList:=by
   simp only [Array.toList_map,Array.toList_range];rw [Nat.add_mul,Nat.one_mul,List.range_add,List.map_append,List.map_map]
   congr 1
   apply List.ext_getElem?
   intro k;by_cases hk:k<z.size
   ·simp only [List.getElem?_map,List.getElem?_range hk,Option.map_some,Function.comp];have e:(len*z.size+k) % z.size=k:=by rw [Nat.mul_comm,Nat.mul_add_mod,Nat.mod_eq_of_lt hk]
    rw [e]; simp [hk]
   ·rw [List.getElem?_eq_none (by simp; omega),List.getElem?_eq_none (by simp; omega)]
  rw [h1,b];rw [List.replicate_succ',List.flatten_append]; simp
end
end Go.Ab
/-
 Slice literals,maps,parts of slices,comparisons of structs,tokens.
-/
namespace Go.Ab
open Go Go.RowKit
variable {az:bC}
variable {ii:eF}
section
variable {P:Program}{T:List TI}{ts:Ts}{ls:List (List D)}{h:ak}{dst:Option Tmp}{ty:TypeId}{pos:String}{aC:Array Edge}{g:Option (Nat×Bool)}
theorem aq.nF {t e:TypeId}{u l:TI}{z:A}{len:Nat}{parts:Array (Nat×Operand)}{ps:List (Nat×A)}{rows:List (List D)}(y:aR P t=some u) (hk:u.k=.slice e) (s:aR P e=some l)
  (O:l.zero=some z) (Q:Nat.beq (bZ z).length l.size=true) (B:Nat.beq l.size 0=false) (hlen:Nat.ble (len*l.size) 16777216=true) (R:lZ ts parts.toList=some ps) (hr:o3 l.size (List.replicate len (bZ z)) ps=some rows) :
  aq P (mk dst (.buildSlice t len parts) ty pos aC g) ts ls h {} (.full l.size rows) ls h:=by
 refine aq.of_run fun L H _ _ j w jl a hl C=>?_;have S:=sY (j:=j) (w:=w) (jl:=jl) (act:=a) parts.toList ps R fun x hx=>C x (by simp [Op.operands] at hx ⊢; exact hx);obtain⟨al,am,U,_,an,ao,_,E⟩:=eP s;rw [O] at E;obtain⟨zv,W,F⟩:=kC E;have G:(bZ z).length=l.size:=Nat.eq_of_beq_eq_true Q;have X:l.size≠0:=fun e=>by rw [e] at B; simp at B
 have Y:len*l.size<=16777216:=Nat.le_of_ble_eq_true hlen;have Z:zv.cells.size=l.size:=by have:=(F j w).cells.length; rw [G] at this; simpa using this.symm
 have hzero:∀pre:Array Value,pre=(Array.range (len*l.size)).map (fun i=>zv.cells[i % zv.cells.size]!)->bf (aD j w) (List.replicate len (bZ z)).flatten pre.toList:=by
  intro pre I;rw [I,<- Z,GZ _ _ (by omega)];have:=(F j w).cells;clear hr I hlen Y C;induction len with
  | zero=>exact .nil
  | succ n aa=>simp only [List.replicate_succ,List.flatten_cons]; exact this.append aa
 obtain⟨q,h1,ab,m,K⟩:=Ba (j:=j) (w:=w) ps _ _ rows _ hr (fun r hr=>by rw [List.eq_of_mem_replicate hr]; exact G) S (hzero _ rfl);simp only [List.length_replicate] at m;have ad:(Instr.buildSlice t len (parts.map fun(i,x)=>(i,a.eval x))).run P w=.ok (.slice (some ⟨w.heap.size,0,none⟩) len len) (w.alloc (.cells q e)):=by
  have ae:¬(16777216<len*l.size):=by omega
  have af:(Array.map (fun(x:Nat×Operand)=>(x.1,a.eval x.2)) parts).toList=parts.toList.map fun p=>(p.1,a.eval p.2):=by simp
  rw [<- af] at h1;by_cases h0:len*l.size=0
  ·have ag:len=0:=by
    rcases Nat.mul_eq_zero.1 h0 with e|e
    ·exact e
    ·exact absurd e X
   subst ag;simp only [Nat.zero_mul] at h1;have M:∀f:Nat->Value,Array.map f (Array.range 0)=#[]:=fun f=>by apply Array.ext'; simp
   simp only [M] at h1;simp [Instr.buildSlice,dY (kD y hk),gG s,newRow,M];simp at h1;rw [h1];simp
  ·simp [Instr.buildSlice,dY (kD y hk),gG s,ae,h0,zeroValue,typeInfo,U,W,newRow];simp at h1;rw [h1];simp
 have ap:=jc K;obtain⟨ah,N⟩:=hl.data (.cells q e) (rows.length*l.size);refine⟨_,_,.slice (some ⟨w.heap.size,0,none⟩) len len,j.eN w.heap.size (rows.length*l.size),jl,by simp [execOp,ad],.inl rfl, ?_,ah,Ext.refl _,N⟩;have hm:=qW (j:=j.eN w.heap.size (rows.length*l.size)) (w:=w.alloc (.cells q e)) (k:=l.size) (tok:=none) (rows:=rows) (b:=w.heap.size) (o:=0) (cap:=len) K (by
  rw [m]; have:len*1<=len*l.size:=Nat.mul_le_mul_left _ (by omega);unfold cq; omega) (by omega) (fun i x hx=>?_) (fun ar ai=>by simp at ai)
 ·rw [m] at hm; rw [m]; exact⟨hm,⟨w.heap.size,0,none⟩,by rw [m]⟩
 ·have au:=(List.getElem?_eq_some_iff.1 hx).1;obtain⟨v,hv,aj⟩:=ab.get hx;refine⟨by simp only [J.eN,if_true]; omega,v, ?_,aj.mono N.toLe⟩;rw [cell_of_row _ w.heap.size _ q e (0,0) (heap_alloc_new w _),Nat.zero_add]
  simpa using hv
theorem aq.Bb {o:Oper}{fx:Fx}{v b:V}{aH:List (List D)}{h':ak}(hc:aq P o ts ls h fx v aH h') (hv:∀j w jl cv,bq j w jl v cv->bq j w jl b cv):aq P o ts ls h fx b aH h':=by
 intro L H f hH j w jl a hl g K Q hk;exact hc L H f hH j w jl a hl g K Q fun u l k cv j' w' i ⟨m,p,q⟩ hr=>hk b l k cv j' w' i ⟨rfl,p,q⟩ (hv _ _ _ _ (m▸hr))
theorem aq.buildSlice {t e:TypeId}{f b:TI}{z:A}{len:Nat}{parts:Array (Nat×Operand)}{ps:List (Nat×A)}{rows:List (List D)}(i:aR P t=some f) (hk:f.k=.slice e) (j:aR P e=some b)
  (l:b.zero=some z) (m:Nat.beq (bZ z).length b.size=true) (o:Nat.beq b.size 0=false) (hlen:Nat.ble (len*b.size) 16777216=true) (p:lZ ts parts.toList=some ps) (hr:o3 b.size (List.replicate len (bZ z)) ps=some rows) :
  aq P (mk dst (.buildSlice t len parts) ty pos aC g) ts ls h {} (.a (.d (.slice b.size none false rows))) ls h :=
 (aq.nF i hk j l m o hlen p hr).Bb fun _ _ _ _ h=>h.1
theorem Bc {n:Nat}:∀{rows:List (List D)}(_:∀r∈rows,r.length=n) (k:Nat),(rows.take k).flatten=rows.flatten.take (k*n)
 | [],_,k=>by simp
 | r::b,hk,0=>by simp
 | r::b,hk,k+1=>by
  have hr:r.length=n:=hk r (by simp);rw [List.take_succ_cons,List.flatten_cons,Bc (fun x hx=>hk x (by simp [hx])),List.flatten_cons,show (k+1)*n=n+k*n by rw [Nat.add_mul]; omega];rw [show n+k*n=r.length+k*n by rw [hr],List.take_length_add_append]
theorem Bd {n:Nat}:∀{rows:List (List D)}(_:∀r∈rows,r.length=n) (k:Nat),(rows.drop k).flatten=rows.flatten.drop (k*n)
 | [],_,k=>by simp
 | r::b,hk,0=>by simp
 | r::b,hk,k+1=>by
  have hr:r.length=n:=hk r (by simp);rw [List.drop_succ_cons,Bd (fun x hx=>hk x (by simp [hx])),List.flatten_cons,show (k+1)*n=n+k*n by rw [Nat.add_mul]; omega];rw [show n+k*n=r.length+k*n by rw [hr],List.drop_length_add_append]
theorem G3 {j:J}{w:World}{k:Nat}{rows:List (List D)}{b:Addr}{f:Nat->Value}{cap:Nat}(hk:∀r∈rows,r.length=k) (hn:rows.length<=cq) (hc:rows.length<=cap)
  (bM:nx j w b rows f) (hr:∀i (h:i<rows.flatten.length),aD j w rows.flatten[i] (f i)){l r:Nat}(hl:l<=r) (hh:r<=rows.length) :
  aD j w (.slice k none false ((rows.take r).drop l)) (.slice (some (if cap=l then b else b.add (l*k))) (r-l) (cap-l)):=by
 have hlen:((rows.take r).drop l).length=r-l:=by simp; omega
 have q:∀x∈(rows.take r).drop l,x.length=k:=fun x hx=>hk x (List.mem_of_mem_take (List.mem_of_mem_drop hx));have s:((rows.take r).drop l).flatten=(rows.flatten.take (r*k)).drop (l*k):=by
  rw [Bd (fun x hx=>hk x (List.mem_of_mem_take hx)),Bc hk]
 have u:r*k<=rows.flatten.length:=by rw [(jc hk).1]; exact Nat.mul_le_mul_right k hh
 rw [<- hlen];by_cases g:cap=l
 ·rw [if_pos g];have m:(rows.take r).drop l=[]:=List.eq_nil_of_length_eq_zero (by rw [hlen]; omega);rw [m];exact aD.slice k none [] b (cap-l) f (by simp) (by simp) (by simp) ⟨.inl rfl,by simp⟩ (by simp) (fun t ht=>by simp at ht)
 ·by_cases o:rows=[]
  ·rw [if_neg g];have m:(rows.take r).drop l=[]:=by rw [o]; simp
   rw [m];exact aD.slice k none [] _ (cap-l) f (by simp) (by simp) (by simp) ⟨.inl rfl,by simp⟩ (by simp) (fun t ht=>by simp at ht)
  have hb:b=⟨b.block,b.off,none⟩:=by have:=bM.1.resolve_left o; cases b; simp at this; simp [this]
  rw [if_neg g,hb,add_plain];refine qW q (by rw [hlen]; omega) (by rw [hlen]; omega) (fun i x hx=>?_) (fun t ht=>by simp at ht);rw [s,List.getElem?_drop,List.getElem?_take] at hx
  split at hx
  ·rename_i aT
   have hi:=(List.getElem?_eq_some_iff.1 hx).1;have h1:=bM.2 (l*k+i) hi;refine⟨by have:=h1.1; omega,f (l*k+i),by rw [Nat.add_assoc]; exact h1.2, ?_⟩;have p:=hr (l*k+i) hi;rw [(List.getElem?_eq_some_iff.1 hx).2] at p; exact p
  ·simp at hx
theorem Be {P:Program}{t e:TypeId}{b f:TI}(g:aR P t=some b) (hk:b.k=.slice e) (i:aR P e=some f){a:Option Addr}{len cap:Nat}{lo hi:Option Value}{w:World}{l r:Nat}
  (hl:(match lo with|some v=>Instr.sliceBound v r .sliceB|none=>pure 0).run P w=.ok l w) (hh:(match hi with|some v=>Instr.sliceBound v cap .sliceAcap|none=>pure len).run P w=.ok r w) :
  (Instr.sliceAt t (.slice a len cap) lo hi none).run P w=.ok (.slice (if cap=l then a else a.map (·.add (l*f.size))) (r-l) (cap-l)) w:=by
 simp only [Instr.sliceAt,Instr.slice,Instr.sliceBounds,Sem.run_bind,dY (kD g hk),Result.andThen,Sem.run_pure,gG i];cases lo<;>cases hi<;>simp_all
theorem aq.part {t e:TypeId}{z B:TI}{x:Operand}{lo hi:Option Operand}{k:Nat}{tok:Option Nat}{rows:List (List D)}{l r:Nat}(C:aR P t=some z) (hk:z.k=.slice e) (E:aR P e=some B)
  (hx:ev ts x=.a (.d (.slice k tok false rows))) (F:k=B.size)
  (m:match lo with|none=>l=0|some o=>∃i n,ev ts o=.a (.d (.int i n))/\0<=n/\l=n.toNat) (p:match hi with|none=>r=rows.length|some o=>∃i n,ev ts o=.a (.d (.int i n))/\0<=n/\r=n.toNat)
  (G:l<=r) (H:r<=rows.length):aq P (mk dst (.slice t x lo hi none) ty pos aC g) ts ls h {} (.a (.d (.slice k none false ((rows.take r).drop l)))) ls h :=
 aq.cQ fun j w jl act q=>by
  have h1:=q x (by simp [Op.operands]);rw [hx] at h1;obtain⟨b,cap,I,hn,hc,J,Q,K,hb⟩:=lX h1;cases b with
  | none=>simp at J
  | some b =>
   obtain⟨_,f,bM,L⟩:=hb b rfl;have M:(match lo.map act.eval with|some v=>Instr.sliceBound v r .sliceB|none=>pure 0).run P w=.ok l w:=by
    cases lo with
    | none=>simp at m ⊢; exact m.symm
    | some o =>
     obtain⟨i,n,s,u,y⟩:=m;have:=lY (P:=P) (cap:=r) s (q o (by simp [Op.operands])) u (by omega) .sliceB;simp only [Option.map_some]; rw [this,y]
   have N:(match hi.map act.eval with|some v=>Instr.sliceBound v cap .sliceAcap|none=>pure rows.length).run P w=.ok r w:=by
    cases hi with
    | none=>simp at p ⊢; exact p.symm
    | some o =>
     obtain⟨i,n,s,u,y⟩:=p;have:=lY (P:=P) (cap:=cap) s (q o (by simp [Op.operands])) u (by omega) .sliceAcap;simp only [Option.map_some]; rw [this,y]
   refine⟨_, ?_,G3 K hn hc bM L G H⟩;have:=Be C hk E (a:=some b) (len:=rows.length) (cap:=cap) M N;simp only [execOp,Sem.run_bind,I,Option.map_none,this,Result.andThen,Sem.run_pure,F];by_cases O:cap=l<;>simp [O]
theorem aq.field {t:TypeId}{q b:TI}{fs:List (Nat×TypeId)}{x:Operand}{f o:Nat}{m:TypeId}{xs:List D}{v:A}(B:aR P t=some q) (hk:q.k=.struct fs) (i:fs[f]?=some (o,m)) (p:aR P m=some b) (r:b.k.oP=false)
  (hx:ev ts x=.a (.agg xs)) (hv:(match qP b.k with|true=>some (A.agg ((xs.drop o).take b.size))|false=>(xs[o]?).map A.d)=some v):aq P (mk dst (.field t x f) ty pos aC g) ts ls h {} (.a v) ls h :=
 aq.cQ fun j w jl a C=>by
  have h1:=C x (by simp [Op.operands]);rw [hx] at h1;obtain⟨cs,s,u⟩:=h1;obtain⟨gs,hu,he⟩:=vu B hk;have hg:∃fd:Field,gs[f]?=some fd/\fd.offset=o/\fd.type=m:=by
   rw [<- he,List.getElem?_map] at i;cases e:gs.toList[f]? with
   | none=>rw [e] at i; simp at i
   | some fd=>rw [e] at i; simp at i; exact⟨fd,by simpa using e,i.1,i.2⟩
  obtain⟨fd,h1,y,z⟩:=hg;cases l:qP b.k with
  | true =>
   rw [l] at hv; simp at hv; subst hv;refine⟨.agg (cs.toArray.extract o (o+b.size)), ?_,⟨(cs.drop o).take b.size, ?_,(u.drop o).take b.size⟩⟩
   ·simp [execOp,Instr.field,dY hu,h1,Go.part,y,z,vm p (K.oQ r),l,gG p,asAgg,s]
   ·congr 1; apply Array.ext'; simp [List.drop_take]
  | false =>
   rw [l] at hv;simp only [Option.map_eq_some_iff] at hv;obtain⟨d,E,rfl⟩:=hv;obtain⟨cv,F,hr⟩:=u.get E;refine⟨cv, ?_,hr⟩;simp [execOp,Instr.field,dY hu,h1,Go.part,y,z,vm p (K.oQ r),l,asAgg,s,F]
end
end Go.Ab
/-
 Maps with plain keys.
-/
namespace Go.Ab
open Go Go.RowKit
variable {az:bC}
def o4:D->D->Option Bool
 | .str s,.str t=>some (s==t)
 | .int k m,.int k' n=>if k=k' then some (decide (m=n)) else none
 | .bool a,.bool b=>some (a==b)
 | _,_=>none
def kE (key:D):List (D×A)->Option (Option A)
 | []=>some none
 | (k,v)::r=>match o4 key k with
  | some true=>some (some v)
  | some false=>kE key r
  | none=>none
def nG (key:D) (v:A):List (D×A)->Option (List (D×A))
 | []=>some [(key,v)]
 | (k,u)::r=>match o4 key k with
  | some true=>some ((key,v)::r)
  | some false=>(nG key v r).map ((k,u)::·)
  | none=>none
def gJ:K->D->Bool
 | .str,.str _=>true
 | .int _,.int _ _=>true
 | .bool,.bool _=>true
 | _,_=>false
theorem bytes_beq (a b:List UInt8):((⟨a.toArray⟩:ByteArray)==⟨b.toArray⟩)=(a==b):=by
 rw [beq_toListBytes]; simp
theorem sZ {j:J}{w:World}{d:TypeDesc}{key k:D}{g v:Value}{b:Bool}(f:gJ (ep d) key=true) (hk:aD j w key g) (hv:aD j w k v) (he:o4 key k=some b):Instr.sameNow d g v=some b:=by
 unfold o4 at he
 split at he
 ·cases hk; cases hv;simp only [Option.some.injEq] at he; subst he;cases d<;>simp [gJ,ep] at f;simp only [Instr.sameNow,bytes_beq]
 ·cases hk; cases hv
  split at he
  ·rename_i e; subst e
   simp only [Option.some.injEq] at he; subst he;cases d<;>simp [gJ,ep] at f;simp only [Instr.sameNow,if_true]; rfl
  ·simp at he
 ·cases hk; cases hv;simp only [Option.some.injEq] at he; subst he;cases d<;>simp [gJ,ep] at f;simp only [Instr.sameNow]
 ·simp at he
theorem G4 {j:J}{w:World}{d:TypeDesc}{key:D}{f:Value}(o:gJ (ep d) key=true) (hk:aD j w key f){es:List (D×A)}{g:List MapEntry}(h:bf (jM j w) es g):∀(n:Nat) (r:Option A),kE key es=some r ->
  match r with
  | none=>Instr.findNow d f g n=some none
  | some v=>∃i cv,Instr.findNow d f g n=some (some (n+i,cv))/\cH j w v cv/\∃m,g[i]?=some m/\m.val=cv/\Instr.sameNow d f m.key=some true:=by
 induction h with
 | nil=>intro n r hr; simp [kE] at hr; subst hr; rfl
 | cons hh ht p =>
  rename_i e m l y
  intro n r hr;obtain⟨k,u⟩:=e;simp only [kE] at hr
  split at hr
  ·rename_i he
   simp at hr; subst hr;have b:=sZ o hk hh.1 he;exact⟨0,m.val,by simp [Instr.findNow,b],hh.2,m,rfl,rfl,b⟩
  ·rename_i he
   have b:=sZ o hk hh.1 he;have:=p (n+1) r hr;cases r with
   | none=>simp only [Instr.findNow,b]; exact this
   | some v =>
    obtain⟨i,cv,h1,q,m',s,t,x⟩:=this;exact⟨i+1,cv,by simp only [Instr.findNow,b]; rw [h1,show n+1+i=n+(i+1) by omega],q,m',by simpa using s,t,x⟩
  ·simp at hr
theorem G5 {j:J}{w:World}{d:TypeDesc}{key:D}{b:Value}{v:A}{cv:Value}(q:gJ (ep d) key=true) (hk:aD j w key b) (hv:cH j w v cv){es:List (D×A)}{f:List MapEntry}(h:bf (jM j w) es f):∀(n c8:Nat) (g:List (D×A)),nG key v es=some g ->
  (Instr.findNow d b f n=some none/\bf (jM j w) g (f++[{ key:=b,val:=cv,born:=c8 }])) \/
  (∃i u m,Instr.findNow d b f n=some (some (n+i,u))/\f[i]?=some m/\Instr.sameNow d b m.key=some true/\bf (jM j w) g (f.set i { m with key:=b,val:=cv })):=by
 induction h with
 | nil=>intro n c8 g he; simp [nG] at he; subst he; exact .inl ⟨rfl,.cons ⟨hk,hv⟩ .nil⟩
 | cons hh ht s =>
  rename_i e m l z
  intro n c8 g he;obtain⟨k,u⟩:=e;simp only [nG] at he
  split at he
  ·rename_i hq
   simp at he; subst he;have o:=sZ q hk hh.1 hq;exact .inr ⟨0,m.val,m,by simp [Instr.findNow,o],rfl,o,.cons ⟨hk,hv⟩ ht⟩
  ·rename_i hq
   have o:=sZ q hk hh.1 hq;simp only [Option.map_eq_some_iff] at he;obtain⟨r,hr,rfl⟩:=he;rcases s (n+1) c8 r hr with ⟨h1,p⟩|⟨i,t,m',h1,p,x,y⟩
   ·exact .inl ⟨by simp only [Instr.findNow,o]; exact h1,.cons hh p⟩
   ·exact .inr ⟨i+1,t,m',by simp only [Instr.findNow,o]; rw [h1,show n+1+i=n+(i+1) by omega],by simpa using p,x,.cons hh y⟩
  ·simp at he
theorem s5 {P:Program}{t:TypeId}{f:TI}{k e:TypeId}(g:aR P t=some f) (hk:f.k=.map k e):P.underlying t=some (.map k e):=by
 obtain⟨i,d,h1,j,_,_,b,_⟩:=eP g;rw [hk] at b;cases d<;>simp [ep] at b;obtain⟨rfl,rfl⟩:=b; exact j
theorem s6 {P:Program}{b:Bool}{n:Nat}{t:TypeId}{d:TypeDesc}{x:D}{v:Value}{j:J}{w0 w:World}(hu:P.underlying t=some d) (f:gJ (ep d) x=true) (hx:aD j w0 x v):(Instr.checkKey b (n+1) t v).run P w=.ok () w:=by
 cases hx<;>cases d<;>simp [gJ,ep] at f<;>simp [Instr.checkKey,dY hu]
section
variable {P:Program}{ts:Ts}{ls:List (List D)}{h:ak}{dst:Option Tmp}{ty:TypeId}{pos:String}{aC:Array Edge}{g:Option (Nat×Bool)}
theorem G6 {a b:ByteArray}(h:(a==b)=true):a=b:=by
 obtain⟨⟨x⟩⟩:=a;obtain⟨⟨y⟩⟩:=b;have h':=bytes_beq x y;have f:(x==y)=true:=by rw [<- h']; exact h
 rw [eq_of_beq f]
theorem G7 (a:ByteArray):(a==a)=true:=by
 obtain⟨⟨x⟩⟩:=a;have h':=bytes_beq x x;rw [show ((⟨⟨x⟩⟩:ByteArray)==⟨⟨x⟩⟩)=(x==x) from h'];simp
theorem G8 {d:TypeDesc}{v:Value}:Instr.sameNow d v v≠some false:=by
 cases d<;>cases v<;>simp [Instr.sameNow,G7]
theorem G9 {d:TypeDesc}{a b:Value}(h:Instr.sameNow d a b=some true):a=b:=by
 unfold Instr.sameNow at h
 split at h
 ·split at h
  ·rename_i e; subst e; simp at h; rw [h]
  ·simp at h
 ·exact congrArg Value.string (G6 (Option.some.inj h))
 ·simp at h; rw [h]
 ·simp at h
theorem Bf {d:TypeDesc}{v:Value}:∀{b:List MapEntry}{n:Nat},Instr.findNow d v b n=some none->∀m∈b,m.key≠v
 | [],_,_=>fun _ h=>by cases h
 | x::b,n,h=>fun m hm e=>by
  rw [Instr.findNow] at h
  split at h
  ·simp at h
  ·rename_i h1
   rcases List.mem_cons.1 hm with rfl|hm
   ·rw [e] at h1; exact G8 h1
   ·exact Bf h m hm e
  ·simp at h
theorem kw.push {f:List MapEntry}{c8:Nat}(h:kw f c8){k:Value}(hk:∀m∈f,m.key≠k) (v:Value):kw (f++[⟨k,v,c8⟩]) (c8+1):=by
 refine⟨?_,fun m hm=>?_, ?_⟩
 ·rw [List.map_append,List.nodup_append];refine⟨h.1,by simp,fun a g b hb e=>?_⟩;obtain⟨m,hm,rfl⟩:=List.mem_map.1 g;simp only [List.map_cons,List.map_nil,List.mem_singleton] at hb;have:=h.2.1 m hm;omega
 ·rcases List.mem_append.1 hm with hm|hm
  ·have:=h.2.1 m hm; omega
  ·rw [List.mem_singleton.1 hm]; exact Nat.lt_succ_self _
 ·rw [List.map_append,List.nodup_append];refine⟨h.2.2,by simp,fun a g b hb e=>?_⟩;obtain⟨m,hm,rfl⟩:=List.mem_map.1 g;simp only [List.map_cons,List.map_nil,List.mem_singleton] at hb;exact hk m hm (e.trans hb)
theorem Bg {β:Type}{f:MapEntry->β}{b:List MapEntry}{i:Nat}{m m':MapEntry}(hm:b[i]?=some m) (g:f m'=f m):(b.set i m').map f=b.map f:=by
 refine List.ext_getElem? fun n=>?_;rw [List.getElem?_map,List.getElem?_map,List.getElem?_set];by_cases hn:i=n
 ·subst hn;obtain⟨aT,j⟩:=List.getElem?_eq_some_iff.1 hm;simp [aT,j,g]
 ·simp [hn]
theorem kw.set {b:List MapEntry}{c8 i:Nat}{m:MapEntry}(h:kw b c8) (hm:b[i]?=some m){k v:Value}(hk:k=m.key):kw (b.set i { m with key:=k,val:=v }) c8:=by
 have e:=Bg (f:=(·.born)) (m':={ m with key:=k,val:=v }) hm rfl;refine⟨by rw [e]; exact h.1,fun x hx=>?_,by rw [Bg (f:=(·.key)) hm hk]; exact h.2.2⟩;have:x.born∈b.map (·.born):=by rw [<- e]; exact List.mem_map_of_mem hx
 obtain⟨y,g,j⟩:=List.mem_map.1 this;rw [<- j]; exact h.2.1 y g
def MapAt (j:J) (w:World) (id b:Nat) (es:List (D×A)):Prop:=∃(c:Nat) (f:List MapEntry) (c8:Nat),j.tok id=some ⟨some (b,c),1⟩/\w.heap[b]?=some (.map f.toArray c8)/\bf (jM j w) es f/\j.F b=0/\kw f c8
theorem vF {j:J}{w:World}{jl:List Nat}{id:Nat}{es:List (D×A)}{cv:Value}(g:gb j w id (.map es)) (h:bq j w jl (.a (.d (.map id))) cv):∃b,cv=.map (some b)/\MapAt j w id b es:=by
 have h':aD j w (.map id) cv:=h;obtain⟨b,c,i,c8,h1,k,l,m,o⟩:=g;cases h' with
 | map _ b' hi hv =>
  obtain⟨_,p⟩:=hv _ h1;obtain⟨c',f⟩:=p rfl;simp only [Option.some.injEq,Prod.mk.injEq] at f;obtain⟨rfl,rfl⟩:=f;exact⟨b,rfl,c,i,c8,h1,k,l,m,o⟩
theorem s7 {P:Program}{w:World}{b:Nat}{f:Array MapEntry}{c8:Nat}(h:w.heap[b]?=some (.map f c8)):(getObj b).run P w=.ok (.map f c8) w:=by
 simp [getObj,Sem.run,h]
theorem Bh {t m o:TypeId}{p q:TI}{j:J}{w:World}{id:Nat}{es:List (D×A)}{key:D}{s:Value}{r:Option A}{ok:Bool}(u:aR P t=some p) (hk:p.k=.map m o) (y:aR P m=some q) (f:gJ q.k key=true)
  {b:Nat}(hm:MapAt j w id b es) (l:aD j w key s) (z:kE key es=some r){zv:Value}(B:r=none->(zeroValue o).run P w=.ok zv w) :
  ∃cv,(Instr.lookup t (.map (some b)) s ok).run P w=.ok (if ok then .tuple #[cv,.bool r.isSome] else cv) w/\match r with|none=>cv=zv|some v=>cH j w v cv:=by
 obtain⟨_,G,c8,_,hg,C,_⟩:=hm;obtain⟨H,I,_,g,_,_,E,_⟩:=eP y;rw [<- E] at f;have x:=G4 f l C 0 r z;cases r with
 | none =>
  refine⟨zv, ?_,rfl⟩;simp [Instr.lookup,dY (s5 u hk),s7 hg,s6 g f l,Instr.findKey,dY g,x,B rfl]
 | some v =>
  obtain⟨i,cv,h1,F,_⟩:=x;refine⟨cv, ?_,F⟩;simp [Instr.lookup,dY (s5 u hk),s7 hg,s6 g f l,Instr.findKey,dY g,h1]
theorem aq.G_ {t f p:TypeId}{i l:TI}{x y:Operand}{id:Nat}{es:List (D×A)}{key:D}{v:A}(q:aR P t=some i) (hk:i.k=.map f p) (r:aR P f=some l) (hx:ev ts x=.a (.d (.map id))) (s:ev ts y=.a (.d key))
  (u:gJ l.k key=true) (hm:h id=some (.map es)) (z:kE key es=some (some v)):aq P (mk dst (.lookup t x y false) ty pos aC g) ts ls h { rh:=true } (.a v) ls h :=
 nE.qQ ⟨rfl,rfl,fun L H _ hH j w jl a hl m=>by
  have h1:=m x (by simp [Op.operands]);have o:=m y (by simp [Op.operands]);rw [hx] at h1; rw [s] at o;rw [hH rfl] at hl;obtain⟨b,B,C⟩:=vF (hl.1.obj id _ hm).2 h1;obtain⟨cv,E,F⟩:=Bh (ok:=false) q hk r u C o z (zv:=undef) (by simp);exact⟨cv,by simp only [execOp,Sem.run_bind,B,E,Result.andThen,Sem.run_pure]; rfl,F⟩⟩
theorem aq.He {t f i:TypeId}{l m o:TI}{x y:Operand}{id:Nat}{es:List (D×A)}{key:D}{z:A}(u:aR P t=some l) (hk:l.k=.map f i) (v:aR P f=some m) (B:aR P i=some o) (C:o.zero=some z)
  (hx:ev ts x=.a (.d (.map id))) (E:ev ts y=.a (.d key)) (F:gJ m.k key=true) (hm:h id=some (.map es)) (G:kE key es=some none):aq P (mk dst (.lookup t x y false) ty pos aC g) ts ls h { rh:=true } (.a z) ls h :=
 nE.qQ ⟨rfl,rfl,fun L H _ hH j w jl a hl p=>by
  have h1:=p x (by simp [Op.operands]);have q:=p y (by simp [Op.operands]);rw [hx] at h1; rw [E] at q;rw [hH rfl] at hl;obtain⟨Q,R,I,_,S,U,_,r⟩:=eP B;rw [C] at r;obtain⟨zv,J,K⟩:=kC r;obtain⟨b,M,N⟩:=vF (hl.1.obj id _ hm).2 h1;obtain⟨cv,O,s⟩:=Bh (ok:=false) u hk v F N q G (zv:=zv) (fun _=>by simp [zeroValue,typeInfo,I,J]);dsimp only at s
  subst s;exact⟨cv,by simp only [execOp,Sem.run_bind,M,O,Result.andThen,Sem.run_pure]; rfl,K j w⟩⟩
theorem di.makeMap {t:TypeId}:di P (mk dst (.makeMap t none) ty pos aC g) ts ls h fun v aH h'=>∃id,h id=none/\v=.a (.d (.map id))/\aH=ls/\h'=h.set id (some (.map [])):=by
 intro j w jl a hl l K Q hk;have hr:(execOp a.eval (mk dst (.makeMap t none) ty pos aC g)).run P w=.ok (.value (.map (some w.heap.size))) (w.alloc (.map #[] 0)):=by simp [execOp,Instr.makeMap]
 obtain⟨h1,b⟩:=hl.eO 0;obtain⟨f,i,k⟩:=h1.Gh (ak.cL _ _ _);unfold Oper.wp;rw [hr,Oper.upon_value];exact hk _ _ _ _ _ _ jl ⟨j.next,hl.1.kz (Nat.le_refl _),rfl,rfl,(ak.set_set _ _ _ _)⟩ k f (Ext.refl _) (b.trans i)
theorem Hf {d:TypeDesc}{a b:Value}(h:Instr.sameNow d a b=some true):Instr.sameBits 10000 b a=true:=by
 unfold Instr.sameNow at h
 split at h
 ·split at h
  ·rename_i e; subst e; simp at h; subst h; simp [Instr.sameBits]
  ·simp at h
 ·simp only [Option.some.injEq] at h;rw [beq_toListBytes] at h;simp only [Instr.sameBits,beq_toListBytes];simp at h ⊢; exact h.symm
 ·simp at h; subst h; simp [Instr.sameBits]
 ·simp at h
theorem eZ.setObj {w:World}{b:Nat}{o o':Go.Obj}(h:w.heap[b]?=some o):eZ w { w with heap:=w.heap.setIfInBounds b o' } b o':=by
 have aT:=ig h;refine⟨by simp,by simp [aT],fun x hx=>?_,rfl,rfl,eY.rfl⟩;simp [Array.getElem?_setIfInBounds,Ne.symm hx]
theorem aq.mapUpdate {t M U:TypeId}{N O:TI}{x y z:Operand}{id:Nat}{es l:List (D×A)}{key:D}{v:A}(Q:aR P t=some N) (hk:N.k=.map M U) (W:aR P M=some O) (hx:ev ts x=.a (.d (.map id))) (X:ev ts y=.a (.d key)) (Y:ev ts z=.a v)
  (s:gJ O.k key=true) (hm:h id=some (.map es)) (hu:nG key v es=some l) (aj:dst=none):aq P (mk dst (.mapUpdate t x y z) ty pos aC g) ts ls h { rh:=true,wh:=true } .any ls (h.set id (some (.map l))):=by
 refine aq.of_run fun L H _ hH j w jl a hl G=>?_;have Z:=hH rfl;subst Z;have h1:=G x (by simp [Op.operands]);have B:=G y (by simp [Op.operands]);have R:=G z (by simp [Op.operands]);rw [hx] at h1; rw [X] at B; rw [Y] at R;obtain⟨b,e,c,al,c8,I,hg,aa,J,hB⟩:=vF (hl.1.obj id _ hm).2 h1;obtain⟨am,an,_,C,_,_,ab,_⟩:=eP W;rw [<- ab] at s;have S:∀(o:List MapEntry) (p:Nat),bf (jM j w) l o->kw o p->(Instr.mapUpdate t (.map (some b)) (a.eval y) (a.eval z)).run P w=.ok () { w with heap:=w.heap.setIfInBounds b (.map o.toArray p) } ->
   ∃r w' cv j' E,(execOp a.eval (mk dst (.mapUpdate t x y z) ty pos aC g)).run P w=.ok r w'/\(r=.value cv\/(r=.skip/\cv=undef))/\bq j' w' E .any cv/\HL j' w' E L (H.set id (some (.map l)))/\Ext jl E /\
    bQ j w (bg j H jl) j' w' (bg j' (H.set id (some (.map l))) E):=by
  intro o p ad ae af;have K:=eZ.setObj (az:=az) (o':=.map o.toArray p) hg;have hle:=K.le (j:=j) J;obtain⟨f,F⟩:=hl.setObj (o':=.map l) hm (by simp [bR,I]) (by simp [bR,I]) J K ⟨b,c,o,p,I,K.here,ad.imp fun _ _ h=>h.mono hle,J,ae⟩;refine⟨.skip,_,undef,j,jl, ?_,.inr ⟨rfl,rfl⟩,trivial,f,Ext.refl _,F⟩;simp only [execOp,e,Sem.run_bind,af,Result.andThen,Sem.run_pure]
 rcases G5 s B R aa 0 c8 l hu with ⟨q,f⟩|⟨i,u,m,q,f,F,ag⟩
 ·refine S _ (c8+1) f (hB.push (Bf q) _) ?_;simp [Instr.mapUpdate,dY (s5 Q hk),s7 hg,s6 C s B,Instr.findKey,dY C,q,setObj,Sem.run,hg]
 ·refine S _ c8 ag (hB.set f (G9 F)) ?_;have ah:=Hf F;rw [Nat.zero_add] at q;simp [Instr.mapUpdate,dY (s5 Q hk),s7 hg,s6 C s B,Instr.findKey,dY C,q,f,Instr.keyThatStays,ah,setObj,Sem.run,hg]
  congr 2
  apply Array.ext'
  simp
  apply List.ext_getElem?
  intro n;simp only [List.getElem?_modify,List.getElem?_set];by_cases hn:i=n
  ·subst hn;have aT:=(List.getElem?_eq_some_iff.1 f).1;have ai:=(List.getElem?_eq_some_iff.1 f).2;simp [aT,ai]
  ·simp [hn]
end
end Go.Ab
